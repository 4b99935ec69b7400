/- Part VC of the proof. -/
import Derived.Test.YtkbiopblaggdoaaGreatDoorVB
set_option linter.unusedVariables false
set_option linter.unusedSimpArgs false
section
namespace Hm
open Go
inductive Frm (G : Type) where
 | seq (b : Cmd)
 | block (id : Nat)
 | loop (N : Env → Store → G → Prop)
def kont {G : Type} (P : Program) (H : HT G) (pn : List Nat) (Q : Exit → Env → Store → G → Prop) : List (Frm G) → Exit → Env → Store → G → Prop
 | [] => Q
 | .seq b :: fs => fun e ρ σ g => match e with
   | .normal => AW P H pn b ρ σ g (kont P H pn Q fs)
   | e => kont P H pn Q fs e ρ σ g
 | .block id :: fs => fun e ρ σ g => match e with
   | .exit id' => bif Nat.beq id' id then kont P H pn Q fs .normal ρ σ g else kont P H pn Q fs (.exit id') ρ σ g
   | e => kont P H pn Q fs e ρ σ g
 | .loop N :: fs => fun e ρ σ g => match e with
   | .normal => N ρ σ g
   | e => kont P H pn Q fs e ρ σ g
structure WC {G : Type} (P : Program) (H : HT G) (pn : List Nat) (Q : Exit → Env → Store → G → Prop) (fs : List (Frm G)) (c : Cmd) (ρ : Env) (σ : Store) (g : G) : Prop where
 out : AW P H pn c ρ σ g (kont P H pn Q fs)
structure WE {G : Type} (P : Program) (H : HT G) (pn : List Nat) (Q : Exit → Env → Store → G → Prop) (fs : List (Frm G)) (e : Exit) (ρ : Env) (σ : Store) (g : G) : Prop where
 out : kont P H pn Q fs e ρ σ g
structure WI {G : Type} (P : Program) (H : HT G) (pn : List Nat) (Q : Exit → Env → Store → G → Prop) (fs : List (Frm G)) (l : List GItem) (ρ : Env) (σ : Store) (g : G) : Prop where
 out : AWits P H l ρ σ g (kont P H pn Q fs .normal)
def fz : V → Option V
 | .any => some .any
 | .bool b => some (.bool b)
 | .int k n => some (.int k n)
 | .str s => some (.str s)
 | .agg l => some (.agg l)
 | .tup l => some (.tup l)
 | .sl t rows => some (.sl t rows)
 | .msl nm gen i len => some (.msl nm gen i len)
 | .ptr nm gen i j => some (.ptr nm gen i j)
 | .bptr nm j => some (.bptr nm j)
 | .cptr t row j => some (.cptr t row j)
 | .nilptr => some .nilptr
 | .fn f caps => some (.fn f caps)
 | .nilfn => some .nilfn
 | .rnd => some .rnd
 | .raw b j => some (.raw b j)
 | .tag b l => some (.tag b l)
 | .ifc b => some (.ifc b)
 | .rsl b n c => some (.rsl b n c)
theorem fz_eq {v u : V} (h : fz v = some u) : u = v := by cases v <;> cases h <;> rfl
def fzL : List V → Option (List V)
 | [] => some []
 | v :: r => match fz v, fzL r with
   | some v', some r' => some (v' :: r')
   | _, _ => none
theorem fzL_eq : ∀ {l m : List V}, fzL l = some m → m = l
 | [], _, h => by cases h; rfl
 | v :: r, m, h => by
  simp only [fzL] at h
  split at h
  · rename_i v' r' h1 h2
    cases h
    rw [fz_eq h1, fzL_eq h2]
  · cases h
def fzA : Option V → Option V
 | some (.agg l) => match fzL l with
   | some l' => some (.agg l')
   | none => none
 | some v => fz v
 | none => none
theorem fzA_eq {o : Option V} {u : V} (h : fzA o = some u) : o = some u := by
 unfold fzA at h
 split at h
 · split at h
   · rename_i h1
     cases h
     rw [fzL_eq h1]
   · cases h
 · rw [fz_eq h]
 · cases h
def binv (op : BinOp) (st : Bool) (et : List LT) (x y : V) : Option V :=
 match op, x, y with
 | .lss, .int k a, .int k' b => bif kEq k k' then some (.bool (decide (a < b))) else none
 | .leq, .int k a, .int k' b => bif kEq k k' then some (.bool (decide (a ≤ b))) else none
 | .gtr, .int k a, .int k' b => bif kEq k k' then some (.bool (decide (a > b))) else none
 | .geq, .int k a, .int k' b => bif kEq k k' then some (.bool (decide (a ≥ b))) else none
 | .eql, x, y => match eqv st et x y with
   | some b => some (.bool b)
   | none => none
 | .neq, x, y => match eqv st et x y with
   | some b => some (.bool (!b))
   | none => none
 | _, _, _ => none
def sop (ρ : Env) (σ : Store) : AOp → Option V
 | .mov x => fz (ev ρ x)
 | .pick c a b => match ev ρ c with
   | .bool true => fz (ev ρ a)
   | .bool false => fz (ev ρ b)
   | _ => none
 | .bin op st et x y => binv op st et (ev ρ x) (ev ρ y)
 | .not x => match ev ρ x with
   | .bool t => some (.bool (!t))
   | _ => none
 | .len s x => match s, ev ρ x with
   | false, .sl _ rows => some (.int .i64 rows.length)
   | false, .msl nm gen _ n => match σ nm with
     | .arr gen' _ => bif Nat.beq gen gen' then some (.int .i64 n) else none
     | _ => none
   | true, .str s => some (.int .i64 s.length)
   | _, _ => none
 | .build zero parts => match partsOf ρ zero parts with
   | some l => match fzL l with
     | some l' => some (.agg l')
     | none => none
   | none => none
 | .bsl size xs => match fzL (xs.map (ev ρ)) with
   | some l => bif l.all (fun v => pureB v && rowB v && Nat.beq v.cells.length size) then some (.sl .p l) else none
   | none => none
 | .load agg size a => match ev ρ a with
   | .bptr nm j => match σ nm with
     | .box row => fzA (ldrow agg size j row)
     | _ => none
   | .cptr _ row j => fzA (ldrow agg size j row)
   | _ => none
 | .faddr off x => match ev ρ x with
   | .bptr nm j => match σ nm with
     | .box _ => some (.bptr nm (j + off))
     | _ => none
   | .ptr nm gen i j => match σ nm with
     | .arr gen' _ => bif Nat.beq gen gen' then some (.ptr nm gen i (j + off)) else none
     | _ => none
   | .cptr t row j => some (.cptr t row (j + off))
   | .raw b j => some (.raw b (j + off))
   | _ => none
 | .field agg size off x => match ev ρ x with
   | .agg l => fzA (ldrow agg size off (.agg l))
   | _ => none
 | .extract x i => match ev ρ x with
   | .tup l => fzA l[i]?
   | _ => none
 | .cut0 x => match ev ρ x with
   | .sl _ _ => some (.sl .nil [])
   | _ => none
 | .mkfn f caps => match fzL (caps.map (ev ρ)) with
   | some l => some (.fn f l)
   | none => none
 | .nilck x => match ev ρ x with
   | .bptr nm j => match σ nm with
     | .box _ => some (.bptr nm j)
     | _ => none
   | .cptr t row j => some (.cptr t row j)
   | .raw b j => some (.raw b j)
   | .fn f caps => some (.fn f caps)
   | .rnd => some .rnd
   | _ => none
 | _ => none
def bsto (ρ : Env) (σ : Store) (size : Nat) (a x : Opd) : Option (Nat × V) := match ev ρ a with
 | .bptr nm j => match σ nm with
   | .box row => match fzA (strow size j row (ev ρ x)) with
     | some r => some (nm, r)
     | none => none
   | _ => none
 | _ => none
def boxv (ρ : Env) (size : Nat) (x : Opd) : Option V := match fz (ev ρ x) with
 | some v => bif rowB v && Nat.beq size v.cells.length then some v else none
 | none => none
structure Fc (P : Program) (f : Nat) (args : List V) (r : V) : Prop where
 out : Fn P f args r
structure Cc {G : Type} (P : Program) (H : HT G) (f : Nat) (args : List V) (pn : List Nat) (σ : Store) (g : G) (K : V → Store → G → Prop) : Prop where
 out : CT P H f args pn σ g K
def calv (ρ : Env) (f : Opd) (args : List Opd) : Option (Nat × List V) := match ev ρ f with
 | .fn fid caps => match fzL (args.map (ev ρ)) with
   | some as => some (fid, as ++ caps)
   | none => none
 | _ => none
section
variable {G : Type} {P : Program} {H : HT G} {pn : List Nat} {Q : Exit → Env → Store → G → Prop} {fs : List (Frm G)} {ρ : Env} {σ : Store} {g : G} {r : List GItem} {d : Nat} {dst : Option Nat} {a b : Cmd} {v : V} {o : AOp}
theorem c_seq (h : WC P H pn Q (.seq b :: fs) a ρ σ g) : WC P H pn Q fs (.seq a b) ρ σ g := ⟨by
 have := h.out
 simp only [AW]
 refine cast (congrArg (AW P H pn a ρ σ g) ?_) this
 funext e ρ' σ' g'
 cases e <;> rfl⟩
theorem c_skip (h : WE P H pn Q fs .normal ρ σ g) : WC P H pn Q fs .skip ρ σ g := ⟨h.out⟩
theorem c_ops {l : List GItem} (h : WI P H pn Q fs l ρ σ g) : WC P H pn Q fs (.ops l) ρ σ g := ⟨h.out⟩
theorem c_leaf {l : List GItem} {r : List Nat} (h : WI P H pn Q fs (pickAll l r) ρ σ g) : WC P H pn Q fs (.opsT (.leaf r) l) ρ σ g := ⟨h.out⟩
theorem c_node {l : List GItem} {i j : Nat} {x y : OT} (h : WC P H pn Q fs (.opsT x l) ρ σ g) (k : WC P H pn Q fs (.opsT y l) ρ σ g) : WC P H pn Q fs (.opsT (.node i j x y) l) ρ σ g := ⟨⟨h.out, k.out⟩⟩
theorem c_cond {x : Opd} {t : Bool} (hx : ev ρ x = .bool t) (h1 : t = true → WC P H pn Q fs a ρ σ g) (h2 : t = false → WC P H pn Q fs b ρ σ g) : WC P H pn Q fs (.cond x a b) ρ σ g := ⟨by
 simp only [AW, hx]
 exact splitB_intro (fun h => (h1 h).out) (fun h => (h2 h).out)⟩
theorem c_t {x : Opd} (hx : ev ρ x = .bool true) (h : WC P H pn Q fs a ρ σ g) : WC P H pn Q fs (.cond x a b) ρ σ g := c_cond hx (fun _ => h) (fun e => by cases e)
theorem c_f {x : Opd} (hx : ev ρ x = .bool false) (h : WC P H pn Q fs b ρ σ g) : WC P H pn Q fs (.cond x a b) ρ σ g := c_cond hx (fun e => by cases e) (fun _ => h)
theorem c_block {id : Nat} (h : WC P H pn Q (.block id :: fs) a ρ σ g) : WC P H pn Q fs (.block id a) ρ σ g := ⟨by
 have := h.out
 simp only [AW]
 refine cast (congrArg (AW P H pn a ρ σ g) ?_) this
 funext e ρ' σ' g'
 cases e <;> rfl⟩
theorem c_exit {id : Nat} (h : WE P H pn Q fs (.exit id) ρ σ g) : WC P H pn Q fs (.exit id) ρ σ g := ⟨h.out⟩
theorem c_ret (h : WE P H pn Q fs .ret ρ σ g) : WC P H pn Q fs .ret ρ σ g := ⟨h.out⟩
theorem c_fzb {t j nm bn k : Nat} {l0 rows : List V} (ht : ρ t = .bptr bn 0) (hb : σ bn = .box (.agg l0)) (hj : l0[j]? = some (.sl (.own nm) rows)) (hu : σ nm = .vec k) (h : WC P H pn Q fs a ρ (ups (ups σ nm .dead) bn (.box (.agg (l0.set j (.sl .p rows))))) g) : WC P H pn Q fs (.fzb t j a) ρ σ g := ⟨by
 simp only [AW, ht, hb, hj, hu]
 exact h.out⟩
theorem c_nvb {t j nm bn : Nat} {l0 : List V} (ht : ρ t = .bptr bn 0) (hb : σ bn = .box (.agg l0)) (hu : σ nm = .unused) (hj : l0[j]? = some (.sl .nil [])) (h : WC P H pn Q fs a ρ (ups (ups σ nm (.vec 0)) bn (.box (.agg (l0.set j (.sl (.own nm) []))))) g) : WC P H pn Q fs (.nvb t j nm a) ρ σ g := ⟨by
 simp only [AW, ht, hu, hb, hj]
 exact h.out⟩
theorem c_tagv {t vn bn : Nat} {l0 : List V} (ht : ρ t = .bptr vn 0) (hv : σ vn = .box (.bptr bn 0)) (hb : σ bn = .box (.agg l0)) (h : ∀ b, WC P H pn Q fs a ρ (ups (ups σ bn (.box (.tag b l0))) vn (.box (.raw b 0))) g) : WC P H pn Q fs (.tagb t a) ρ σ g := ⟨by
 simp only [AW, ht, hv, hb]
 exact fun b => (h b).out⟩
theorem c_cut0 (h : WC P H pn Q fs a ρ σ g) : WC P H pn Q fs (.cut a) ρ σ g := ⟨.inl h.out⟩
theorem c_cut (E : List (Nat × V)) (Sg : List (Nat × Blk)) (hf : Fits pn E Sg ρ σ) (h : WC P H pn Q fs a (envOf E) (stOf Sg) g) : WC P H pn Q fs (.cut a) ρ σ g := ⟨.inr ⟨E, Sg, hf, h.out⟩⟩
theorem c_loop {ι : Type} (E : ι → List (Nat × V)) (Sg : ι → List (Nat × Blk)) (gi : ι → G) (inv : ι → Prop) (μ : ι → Nat) (i0 : ι) (h0 : inv i0) (hf : Fits pn (E i0) (Sg i0) ρ σ) (hg : gi i0 = g)
  (hs : ∀ i, inv i → WC P H pn Q (.loop (fun ρ' σ' g' => ∃ i', inv i' ∧ Fits pn (E i') (Sg i') ρ' σ' ∧ gi i' = g' ∧ μ i' < μ i) :: fs) a (envOf (E i)) (stOf (Sg i)) (gi i)) : WC P H pn Q fs (.loop a) ρ σ g := ⟨by
 simp only [AW]
 refine ⟨ι, E, Sg, gi, inv, μ, ⟨i0, h0, hf, hg⟩, fun i hi => ?_⟩
 have := (hs i hi).out
 refine cast (congrArg (AW P H pn a _ _ _) ?_) this
 funext e ρ' σ' g'
 cases e <;> rfl⟩
theorem c_join (hM : MonoH H) (R : Exit → Env → Store → G → Prop) (h : WC P H pn R [] a ρ σ g) (k : ∀ e ρ' σ' g', R e ρ' σ' g' → WE P H pn Q fs e ρ' σ' g') : WC P H pn Q fs a ρ σ g :=
 ⟨AW_mono hM a pn ρ σ g _ _ (fun e ρ' σ' g' h => (k e ρ' σ' g' h).out) h.out⟩
theorem e_seq (h : WC P H pn Q fs b ρ σ g) : WE P H pn Q (.seq b :: fs) .normal ρ σ g := ⟨h.out⟩
theorem e_block {id : Nat} (h : WE P H pn Q fs .normal ρ σ g) : WE P H pn Q (.block id :: fs) .normal ρ σ g := ⟨h.out⟩
theorem e_loop {N : Env → Store → G → Prop} (h : N ρ σ g) : WE P H pn Q (.loop N :: fs) .normal ρ σ g := ⟨h⟩
theorem e_end {e : Exit} (h : Q e ρ σ g) : WE P H pn Q [] e ρ σ g := ⟨h⟩
theorem e_ret (h : Q .ret ρ σ g) : WE P H pn Q fs .ret ρ σ g := ⟨by
 induction fs with
 | nil => exact h
 | cons f fs ih => cases f <;> exact ih⟩
def popTo (id : Nat) : List (Frm G) → List (Frm G)
 | [] => []
 | .block id' :: fs => bif Nat.beq id id' then fs else popTo id fs
 | _ :: fs => popTo id fs
def hasBlk (id : Nat) : List (Frm G) → Bool
 | [] => false
 | .block id' :: fs => bif Nat.beq id id' then true else hasBlk id fs
 | _ :: fs => hasBlk id fs
theorem e_exit {id : Nat} (h0 : hasBlk id fs = true) (h : WE P H pn Q (popTo id fs) .normal ρ σ g) : WE P H pn Q fs (.exit id) ρ σ g := ⟨by
 obtain ⟨h⟩ := h
 induction fs with
 | nil => cases h0
 | cons f fs ih =>
  cases f with
  | seq b => exact ih h0 h
  | loop N => exact ih h0 h
  | block id' =>
   simp only [hasBlk, popTo] at h0 h
   simp only [kont]
   cases hb : Nat.beq id id' with
   | true => rw [hb] at h; exact h
   | false => rw [hb] at h h0; exact ih h0 h⟩
theorem i_nil (h : WE P H pn Q fs .normal ρ σ g) : WI P H pn Q fs [] ρ σ g := ⟨h.out⟩
theorem sop_ok {K : V → Store → G → Prop} (h : sop ρ σ o = some v) (k : K v σ g) : AWop P H ρ σ g o K := by
 cases o with
 | mov x => simp only [sop] at h; simp only [AWop]; rw [← fz_eq h]; exact k
 | pick c x y =>
  simp only [sop] at h; simp only [AWop]
  split at h
  · rename_i e; rw [e]; simp only [cond_true]; rw [← fz_eq h]; exact k
  · rename_i e; rw [e]; simp only [cond_false]; rw [← fz_eq h]; exact k
  · cases h
 | bin op st et x y =>
  simp only [sop] at h; simp only [AWop]
  revert h
  generalize ev ρ x = x
  generalize ev ρ y = y
  intro h
  unfold binv at h
  split at h
  · cases hk : kEq _ _ with
    | true => rw [hk] at h; cases h; simp only [abin, hk, cond_true]; exact k
    | false => rw [hk] at h; cases h
  · cases hk : kEq _ _ with
    | true => rw [hk] at h; cases h; simp only [abin, hk, cond_true]; exact k
    | false => rw [hk] at h; cases h
  · cases hk : kEq _ _ with
    | true => rw [hk] at h; cases h; simp only [abin, hk, cond_true]; exact k
    | false => rw [hk] at h; cases h
  · cases hk : kEq _ _ with
    | true => rw [hk] at h; cases h; simp only [abin, hk, cond_true]; exact k
    | false => rw [hk] at h; cases h
  · split at h
    · rename_i e; cases h; simp only [abin, e]; exact k
    · cases h
  · split at h
    · rename_i e; cases h; simp only [abin, e]; exact k
    · cases h
  · cases h
 | not x =>
  simp only [sop] at h; simp only [AWop]
  split at h
  · rename_i e; cases h; rw [e]; exact k
  · cases h
 | len s x =>
  simp only [sop] at h; simp only [AWop]
  split at h
  · rename_i e; cases h; rw [e]; exact k
  · rename_i nm gen i n e
    split at h
    · rename_i gen' rows e2
      cases hb : Nat.beq gen gen' with
      | true => rw [hb] at h; cases h; rw [e]; simp only [e2]; exact ⟨Nat.eq_of_beq_eq_true hb, k⟩
      | false => rw [hb] at h; cases h
    · cases h
  · rename_i e; cases h; rw [e]; exact k
  · cases h
 | build zero parts =>
  simp only [sop] at h; simp only [AWop]
  split at h
  · rename_i l e
    rw [e]
    split at h
    · rename_i l' e2; cases h; rw [← fzL_eq e2]; exact k
    · cases h
  · cases h
 | bsl size xs =>
  simp only [sop] at h; simp only [AWop]
  split at h
  · rename_i l e
    rw [← fzL_eq e]
    cases hb : l.all (fun v => pureB v && rowB v && Nat.beq v.cells.length size) with
    | true => rw [hb] at h; cases h; exact ⟨rfl, k⟩
    | false => rw [hb] at h; cases h
  · cases h
 | load agg size x =>
  simp only [sop] at h; simp only [AWop]
  split at h
  · rename_i e
    split at h
    · rename_i e2; rw [e]; simp only [e2]; rw [fzA_eq h]; exact k
    · cases h
  · rename_i e; rw [e]; simp only; rw [fzA_eq h]; exact k
  · cases h
 | faddr off x =>
  simp only [sop] at h; simp only [AWop]
  split at h
  · rename_i e
    split at h
    · rename_i e2; cases h; rw [e]; simp only [e2]; exact k
    · cases h
  · rename_i nm gen i j e
    split at h
    · rename_i gen' rows e2
      cases hb : Nat.beq gen gen' with
      | true => rw [hb] at h; cases h; rw [e]; simp only [e2]; exact ⟨Nat.eq_of_beq_eq_true hb, k⟩
      | false => rw [hb] at h; cases h
    · cases h
  · rename_i e; cases h; rw [e]; exact k
  · rename_i e; cases h; rw [e]; exact k
  · cases h
 | field agg size off x =>
  simp only [sop] at h; simp only [AWop]
  split at h
  · rename_i e; rw [e]; simp only; rw [fzA_eq h]; exact k
  · cases h
 | extract x i =>
  simp only [sop] at h; simp only [AWop]
  split at h
  · rename_i e; rw [e]; simp only; rw [fzA_eq h]; exact k
  · cases h
 | cut0 x =>
  simp only [sop] at h; simp only [AWop]
  split at h
  · rename_i e; cases h; rw [e]; exact k
  · cases h
 | mkfn f caps =>
  simp only [sop] at h; simp only [AWop]
  split at h
  · rename_i l e; cases h; rw [← fzL_eq e]; exact k
  · cases h
 | nilck x =>
  simp only [sop] at h; simp only [AWop]
  split at h
  · rename_i e
    split at h
    · rename_i e2; cases h; rw [e]; simp only [e2]; exact k
    · cases h
  · rename_i e; cases h; rw [e]; exact k
  · rename_i e; cases h; rw [e]; exact k
  · rename_i e; cases h; rw [e]; exact k
  · rename_i e; cases h; rw [e]; exact k
  · cases h
 | _ => cases h
theorem i_out (h : AWop P H ρ σ g o fun v σ' g' => AWits P H r (put ρ dst v) σ' g' (kont P H pn Q fs .normal)) : WI P H pn Q fs (.op dst none o :: r) ρ σ g := ⟨by
 show AWop P H ρ σ g o fun v σ' g' => force v fun v => AWits P H r (put ρ dst v) σ' g' _
 simp only [force_eq]
 exact h⟩
theorem i_s (h : sop ρ σ o = some v) (k : WI P H pn Q fs r (upd ρ d v) σ g) : WI P H pn Q fs (.op (some d) none o :: r) ρ σ g := i_out (sop_ok h k.out)
theorem i_gt {s : Nat} {want : Bool} (hs : ρ s = .bool want) (h : WI P H pn Q fs (.op dst none o :: r) (upd ρ s (.bool want)) σ g) : WI P H pn Q fs (.op dst (some (s, want)) o :: r) ρ σ g := ⟨by
 simp only [AWits, AWit, hs]
 exact splitB_intro (fun _ => h.out) (fun e => by cases want <;> cases e)⟩
theorem i_gf {s : Nat} {want : Bool} (hs : ρ s = .bool (!want)) (h : WI P H pn Q fs r (put (upd ρ s (.bool (!want))) dst (.tup [])) σ g) : WI P H pn Q fs (.op dst (some (s, want)) o :: r) ρ σ g := ⟨by
 simp only [AWits, AWit, hs]
 exact splitB_intro (fun e => by cases want <;> cases e) (fun _ => h.out)⟩
theorem i_gd {s : Nat} {want : Bool} (hs : ρ s = .tup []) (h : WI P H pn Q fs r (put ρ dst (.tup [])) σ g) : WI P H pn Q fs (.op dst (some (s, want)) o :: r) ρ σ g := ⟨by
 simp only [AWits, AWit, hs]
 exact h.out⟩
theorem i_g {s : Nat} {want b : Bool} (hs : ρ s = .bool b) (h1 : b = want → WI P H pn Q fs (.op dst none o :: r) (upd ρ s (.bool want)) σ g) (h2 : b = (!want) → WI P H pn Q fs r (put (upd ρ s (.bool (!want))) dst (.tup [])) σ g) : WI P H pn Q fs (.op dst (some (s, want)) o :: r) ρ σ g := ⟨by
 simp only [AWits, AWit, hs]
 exact splitB_intro (fun e => (h1 e).out) (fun e => (h2 e).out)⟩
theorem kEq_refl {k : IntKind} {n : Int} (h : InR k n) : kEq k k = true := by cases k <;> first | rfl | exact h.elim
theorem i_add {k : IntKind} {m n : Int} {st : Bool} {et : List LT} {x y : Opd} (hx : ev ρ x = .int k m) (hy : ev ρ y = .int k n) (hr : InR k (m + n)) (h : WI P H pn Q fs r (upd ρ d (.int k (m + n))) σ g) :
  WI P H pn Q fs (.op (some d) none (.bin .add st et x y) :: r) ρ σ g := i_out (by
 simp only [AWop, hx, hy, abin, kEq_refl hr, cond_true]
 rw [wrap_id hr]; exact h.out)
theorem i_sub {k : IntKind} {m n : Int} {st : Bool} {et : List LT} {x y : Opd} (hx : ev ρ x = .int k m) (hy : ev ρ y = .int k n) (hr : InR k (m - n)) (h : WI P H pn Q fs r (upd ρ d (.int k (m - n))) σ g) :
  WI P H pn Q fs (.op (some d) none (.bin .sub st et x y) :: r) ρ σ g := i_out (by
 simp only [AWop, hx, hy, abin, kEq_refl hr, cond_true]
 rw [wrap_id hr]; exact h.out)
theorem i_quo {k : IntKind} {m n : Int} {st : Bool} {et : List LT} {x y : Opd} (hx : ev ρ x = .int k m) (hy : ev ρ y = .int k n) (hn : n ≠ 0) (hr : InR k (m.tdiv n)) (h : WI P H pn Q fs r (upd ρ d (.int k (m.tdiv n))) σ g) :
  WI P H pn Q fs (.op (some d) none (.bin .quo st et x y) :: r) ρ σ g := i_out (by
 simp only [AWop, hx, hy, abin, kEq_refl hr, cond_true]
 exact ⟨hn, hr, h.out⟩)
theorem i_rem {k : IntKind} {m n : Int} {st : Bool} {et : List LT} {x y : Opd} (hk : kEq k k = true) (hx : ev ρ x = .int k m) (hy : ev ρ y = .int k n) (hn : n ≠ 0) (h : WI P H pn Q fs r (upd ρ d (.int k (m.tmod n))) σ g) :
  WI P H pn Q fs (.op (some d) none (.bin .rem st et x y) :: r) ρ σ g := i_out (by
 simp only [AWop, hx, hy, abin, hk, cond_true]
 exact ⟨hn, h.out⟩)
theorem i_cat {s t : List UInt8} {st : Bool} {et : List LT} {x y : Opd} (hx : ev ρ x = .str s) (hy : ev ρ y = .str t) (hl : s.length + t.length ≤ 9223372036854775807) (h : WI P H pn Q fs r (upd ρ d (.str (s ++ t))) σ g) :
  WI P H pn Q fs (.op (some d) none (.bin .add st et x y) :: r) ρ σ g := i_out (by
 simp only [AWop, hx, hy, abin]
 exact ⟨hl, h.out⟩)
theorem i_conv {k k' : IntKind} {n : Int} {x : Opd} (hx : ev ρ x = .int k' n) (hr : InR k n) (h : WI P H pn Q fs r (upd ρ d (.int k n)) σ g) : WI P H pn Q fs (.op (some d) none (.conv k x) :: r) ρ σ g := i_out (by
 simp only [AWop, hx]
 exact ⟨hr, h.out⟩)
theorem i_ia {size : Nat} {t : Tag} {rows : List V} {kk : IntKind} {n : Int} {row : V} {x i : Opd} (hx : ev ρ x = .sl t rows) (hi : ev ρ i = .int kk n) (h0 : 0 ≤ n) (hr : rows[n.toNat]? = some row) (hw : Nat.beq size row.cells.length = true)
  (h : WI P H pn Q fs r (upd ρ d (.cptr t row 0)) σ g) : WI P H pn Q fs (.op (some d) none (.iaddr size x i) :: r) ρ σ g := i_out (by
 simp only [AWop, hx, hi]
 exact ⟨h0, row, hr, hw, h.out⟩)
theorem i_ima {size : Nat} {nm gen i len gen' : Nat} {rows : List V} {kk : IntKind} {n : Int} {x y : Opd} (hx : ev ρ x = .msl nm gen i len) (hi : ev ρ y = .int kk n) (hs : σ nm = .arr gen' rows) (hg : gen = gen') (h0 : 0 ≤ n) (h1 : n < len) (hw : Nat.beq (wd nm) size = true)
  (h : WI P H pn Q fs r (upd ρ d (.ptr nm gen (i + n.toNat) 0)) σ g) : WI P H pn Q fs (.op (some d) none (.iaddr size x y) :: r) ρ σ g := i_out (by
 simp only [AWop, hx, hi, hs]
 exact ⟨hg, h0, h1, hw, h.out⟩)
theorem i_ix {s : List UInt8} {kk : IntKind} {n : Int} {c : UInt8} {x i : Opd} (hx : ev ρ x = .str s) (hi : ev ρ i = .int kk n) (h0 : 0 ≤ n) (hc : s[n.toNat]? = some c) (h : WI P H pn Q fs r (upd ρ d (.int .u8 c.toNat)) σ g) :
  WI P H pn Q fs (.op (some d) none (.index x i) :: r) ρ σ g := i_out (by
 simp only [AWop, hx, hi]
 exact ⟨h0, c, hc, h.out⟩)
theorem i_ixm {s : List UInt8} {kk : IntKind} {k : Nat} {c : UInt8} {x i : Opd} (hx : ev ρ x = .str s) (hi : ev ρ i = .int kk (k : Int)) (hc : s[k]? = some c) (h : WI P H pn Q fs r (upd ρ d (.int .u8 c.toNat)) σ g) :
  WI P H pn Q fs (.op (some d) none (.index x i) :: r) ρ σ g := i_ix hx hi (by omega) (by simpa using hc) h
theorem i_ldp {agg : Bool} {size nm gen i j gen' : Nat} {rows : List V} {row : V} {x : Opd} (hx : ev ρ x = .ptr nm gen i j) (hs : σ nm = .arr gen' rows) (hg : gen = gen') (hr : rows[i]? = some row) (hl : fzA (ldrow agg size j row) = some v)
  (h : WI P H pn Q fs r (upd ρ d v) σ g) : WI P H pn Q fs (.op (some d) none (.load agg size x) :: r) ρ σ g := i_out (by
 simp only [AWop, hx, hs]
 refine ⟨hg, row, hr, ?_⟩
 rw [fzA_eq hl]
 exact h.out)
theorem i_stp {size nm gen i j gen' : Nat} {rows : List V} {row row' : V} {x y : Opd} (hx : ev ρ x = .ptr nm gen i j) (hs : σ nm = .arr gen' rows) (hg : gen = gen') (hr : rows[i]? = some row) (hp : pureB (ev ρ y) = true) (hl : fzA (strow size j row (ev ρ y)) = some row')
  (h : WI P H pn Q fs r (put ρ dst (.tup [])) (ups σ nm (.arr gen (rows.set i row'))) g) : WI P H pn Q fs (.op dst none (.store size x y) :: r) ρ σ g := i_out (by
 simp only [AWop, hx, hs]
 refine ⟨hg, hp, row, hr, ?_⟩
 rw [fzA_eq hl]
 exact h.out)
theorem i_stb {size nm : Nat} {row : V} {x y : Opd} (hx : bsto ρ σ size x y = some (nm, row)) (h : WI P H pn Q fs r (put ρ dst (.tup [])) (ups σ nm (.box row)) g) : WI P H pn Q fs (.op dst none (.store size x y) :: r) ρ σ g := i_out (by
 unfold bsto at hx
 split at hx
 · rename_i e
   split at hx
   · rename_i e2
     split at hx
     · rename_i e3
       cases hx
       simp only [AWop, e, e2, fzA_eq e3]
       exact h.out
     · cases hx
   · cases hx
 · cases hx)
theorem i_alloc {nm : Nat} {z : V} (hs : σ nm = .unused) (h : WI P H pn Q fs r (upd ρ d (.bptr nm 0)) (ups σ nm (.box z)) g) : WI P H pn Q fs (.op (some d) none (.alloc nm z) :: r) ρ σ g := i_out (by
 simp only [AWop, hs]
 exact h.out)
theorem i_box {nm size : Nat} {x : Opd} (hs : σ nm = .unused) (hx : boxv ρ size x = some v) (h : WI P H pn Q fs r (upd ρ d (.bptr nm 0)) (ups σ nm (.box v)) g) : WI P H pn Q fs (.op (some d) none (.box nm size x) :: r) ρ σ g := i_out (by
 unfold boxv at hx
 split at hx
 · rename_i v' e
   cases fz_eq e
   cases hb : rowB (ev ρ x) && Nat.beq size (ev ρ x).cells.length with
   | true =>
    rw [hb] at hx; cases hx
    simp only [AWop, hs, hb, cond_true]
    exact h.out
   | false => rw [hb] at hx; cases hx
 · cases hx)
theorem i_nv {nm : Nat} (hs : σ nm = .unused) (h : WI P H pn Q fs r (upd ρ d (.sl (.own nm) [])) (ups σ nm (.vec 0)) g) : WI P H pn Q fs (.op (some d) none (.newVec nm) :: r) ρ σ g := i_out (by
 simp only [AWop, hs]
 exact h.out)
theorem i_bslo {nm size : Nat} {xs : List Opd} {l : List V} (hs : σ nm = .unused) (hw : (Nat.beq (wd nm) size && Nat.beq (nm / 1099511627776) 0) = true) (hl : fzL (xs.map (ev ρ)) = some l) (hp : l.all (fun v => pureB v && rowB v && Nat.beq v.cells.length size) = true)
  (h : WI P H pn Q fs r (upd ρ d (.sl (.own nm) l)) (ups σ nm (.vec xs.length)) g) : WI P H pn Q fs (.op (some d) none (.bslO nm size xs) :: r) ρ σ g := i_out (by
 cases fzL_eq hl
 simp only [AWop, hs]
 exact ⟨hw, hp, h.out⟩)
theorem i_app {size bytes et nm k : Nat} {rows xs : List V} {t : Tag} {x y : Opd} (hx : ev ρ x = .sl (.own nm) rows) (hy : ev ρ y = .sl t xs) (hs : σ nm = .vec k) (hk : rows.length = k) (hw : (Nat.beq (wd nm) size && tyOkB nm et) = true)
  (hc : ∀ row ∈ xs, row.cells.length = size ∧ row.cells.all leafB = true) (h1 : (k + xs.length) * bytes ≤ 140737488355328) (h2 : k + xs.length ≤ 140737488355328)
  (h : WI P H pn Q fs r (upd ρ d (.sl (.own nm) (rows ++ xs))) (ups σ nm (.vec (k + xs.length))) g) : WI P H pn Q fs (.op (some d) none (.append size bytes et x y) :: r) ρ σ g := i_out (by
 simp only [AWop, hx, hy, srcR, hs]
 exact ⟨hk, hw, hc, h1, h2, h.out⟩)
theorem i_app1 {size bytes et nm k : Nat} {rows : List V} {row : V} {t : Tag} {x y : Opd} (hx : ev ρ x = .sl (.own nm) rows) (hy : ev ρ y = .sl t [row]) (hs : σ nm = .vec k) (hk : rows.length = k) (hw : ((Nat.beq (wd nm) size && tyOkB nm et) && (Nat.beq row.cells.length size && row.cells.all leafB)) = true)
  (h1 : (k + 1) * bytes ≤ 140737488355328) (h2 : k + 1 ≤ 140737488355328)
  (h : WI P H pn Q fs r (upd ρ d (.sl (.own nm) (rows ++ [row]))) (ups σ nm (.vec (k + 1))) g) : WI P H pn Q fs (.op (some d) none (.append size bytes et x y) :: r) ρ σ g := by
 simp only [Bool.and_eq_true] at hw
 exact i_app hx hy hs hk (by rw [Bool.and_eq_true]; exact hw.1) (fun row' hm => by
  rw [List.mem_singleton.1 hm]
  exact ⟨Nat.eq_of_beq_eq_true hw.2.1, hw.2.2⟩) h1 h2 h
theorem i_appm {size bytes et nm gen len gen' : Nat} {rows xs : List V} {t : Tag} {x y : Opd} (hx : ev ρ x = .msl nm gen 0 len) (hy : ev ρ y = .sl t xs) (hs : σ nm = .arr gen' rows) (hg : gen = gen') (hw : Nat.beq (wd nm) size = true)
  (hc : ∀ row ∈ xs, row.cells.length = size ∧ row.cells.all leafB = true) (h1 : (len + xs.length) * bytes ≤ 140737488355328) (h2 : len + xs.length ≤ 140737488355328)
  (h : WI P H pn Q fs r (upd ρ d (.msl nm (gen + 1) 0 (len + xs.length))) (ups σ nm (.arr (gen + 1) (rows.take len ++ xs))) g) : WI P H pn Q fs (.op (some d) none (.append size bytes et x y) :: r) ρ σ g := i_out (by
 simp only [AWop, hx, hy, srcR, hs]
 exact ⟨hg, hw, hc, h1, h2, h.out⟩)
theorem i_mks {nm size bytes : Nat} {z : V} {m n : Int} {x y : Opd} (hs : σ nm = .unused) (hx : ev ρ x = .int .i64 m) (hy : ev ρ y = .int .i64 n) (h0 : 0 ≤ m) (h1 : m ≤ n) (h2 : n * bytes ≤ 140737488355328) (h3 : n ≤ 140737488355328)
  (hw : (Nat.beq (wd nm) size && Nat.beq z.cells.length size) = true) (h : WI P H pn Q fs r (upd ρ d (.msl nm 0 0 m.toNat)) (ups σ nm (.arr 0 (List.replicate m.toNat z))) g) : WI P H pn Q fs (.op (some d) none (.mkSl nm size bytes z x y) :: r) ρ σ g := i_out (by
 simp only [Bool.and_eq_true] at hw
 simp only [AWop, hx, hy, hs]
 exact ⟨h0, h1, h2, h3, hw.1, hw.2, h.out⟩)
def loV (ρ : Env) (lo : Option Opd) : V := (lo.map (ev ρ)).getD (.int .i64 0)
theorem i_slh {size : Nat} {t : Tag} {rows : List V} {k1 k2 : IntKind} {m n : Int} {x : Opd} {lo : Option Opd} {hi : Opd} (hx : ev ρ x = .sl t rows) (hlo : loV ρ lo = .int k1 m) (hhi : ev ρ hi = .int k2 n) (h0 : 0 ≤ m) (h1 : m ≤ n) (h2 : n ≤ rows.length) (hw : m = 0 ∨ ∀ row ∈ rows, row.cells.length = size)
  (h : WI P H pn Q fs r (upd ρ d (.sl t ((rows.take n.toNat).drop m.toNat))) σ g) : WI P H pn Q fs (.op (some d) none (.slice false size x lo (some hi)) :: r) ρ σ g := i_out (by
 unfold loV at hlo
 simp only [AWop, hx, hlo, Option.map_some, hhi]
 exact ⟨h0, h1, h2, hw, h.out⟩)
theorem i_sl {size : Nat} {t : Tag} {rows : List V} {k1 : IntKind} {m : Int} {x : Opd} {lo : Option Opd} (hx : ev ρ x = .sl t rows) (hlo : loV ρ lo = .int k1 m) (h0 : 0 ≤ m) (h2 : m ≤ rows.length) (hw : m = 0 ∨ ∀ row ∈ rows, row.cells.length = size)
  (h : WI P H pn Q fs r (upd ρ d (.sl t (rows.drop m.toNat))) σ g) : WI P H pn Q fs (.op (some d) none (.slice false size x lo none) :: r) ρ σ g := i_out (by
 unfold loV at hlo
 simp only [AWop, hx, hlo, Option.map_none]
 exact ⟨h0, h2, hw, h.out⟩)
theorem i_ssh {size : Nat} {s : List UInt8} {k1 k2 : IntKind} {m n : Int} {x : Opd} {lo : Option Opd} {hi : Opd} (hx : ev ρ x = .str s) (hlo : loV ρ lo = .int k1 m) (hhi : ev ρ hi = .int k2 n) (h0 : 0 ≤ m) (h1 : m ≤ n) (h2 : n ≤ s.length)
  (h : WI P H pn Q fs r (upd ρ d (.str ((s.take n.toNat).drop m.toNat))) σ g) : WI P H pn Q fs (.op (some d) none (.slice true size x lo (some hi)) :: r) ρ σ g := i_out (by
 unfold loV at hlo
 simp only [AWop, hx, hlo, Option.map_some, hhi]
 exact ⟨h0, h1, h2, h.out⟩)
theorem i_ss {size : Nat} {s : List UInt8} {k1 : IntKind} {m : Int} {x : Opd} {lo : Option Opd} (hx : ev ρ x = .str s) (hlo : loV ρ lo = .int k1 m) (h0 : 0 ≤ m) (h2 : m ≤ s.length)
  (h : WI P H pn Q fs r (upd ρ d (.str (s.drop m.toNat))) σ g) : WI P H pn Q fs (.op (some d) none (.slice true size x lo none) :: r) ρ σ g := i_out (by
 unfold loV at hlo
 simp only [AWop, hx, hlo, Option.map_none]
 exact ⟨h0, h2, h.out⟩)
theorem i_max {k : IntKind} {m n : Int} {x y : Opd} (hk : kEq k k = true) (hx : ev ρ x = .int k m) (hy : ev ρ y = .int k n) (h : WI P H pn Q fs r (upd ρ d (.int k (if n > m then n else m))) σ g) : WI P H pn Q fs (.op (some d) none (.max x y) :: r) ρ σ g := i_out (by
 simp only [AWop, hx, hy, hk, cond_true]
 exact h.out)
theorem i_bsla {nm size : Nat} {xs : List Opd} {l : List V} (hs : σ nm = .unused) (hw : Nat.beq (wd nm) size = true) (hl : fzL (xs.map (ev ρ)) = some l) (hp : l.all (fun v => pureB v && rowB v && Nat.beq v.cells.length size) = true)
  (h : WI P H pn Q fs r (upd ρ d (.msl nm 0 0 xs.length)) (ups σ nm (.arr 0 l)) g) : WI P H pn Q fs (.op (some d) none (.bslA nm size xs) :: r) ρ σ g := i_out (by
 cases fzL_eq hl
 simp only [AWop, hs]
 exact ⟨hw, hp, h.out⟩)
theorem i_isnili {neg c : Bool} {x : Opd} (hx : ev ρ x = .ifc c) (h : WI P H pn Q fs r (upd ρ d (.bool (c != neg))) σ g) : WI P H pn Q fs (.op (some d) none (.isnili neg x) :: r) ρ σ g := i_out (by
 simp only [AWop, hx]
 exact h.out)
theorem i_f {f : Opd} {args : List Opd} {fid : Nat} {as as' : List V} {v : V} (hf : calv ρ f args = some (fid, as)) (ha : as.map (er σ 6) = as') (hc : Fc P fid as' v) (hp : (flatB v || pureL as) = true)
  (h : WI P H pn Q fs r (put ρ dst v) σ g) : WI P H pn Q fs (.op dst none (.call .f f args) :: r) ρ σ g := i_out (by
 unfold calv at hf
 split at hf
 · rename_i e
   split at hf
   · rename_i e2
     cases hf
     cases ha
     cases fzL_eq e2
     simp only [AWop, AWcall, e]
     exact ⟨v, hc.out, by rw [Bool.or_comm]; exact hp, h.out⟩
   · cases hf
 · cases hf)
theorem i_c {f : Opd} {args : List Opd} {fid : Nat} {as : List V} {ns : List Nat} (hf : calv ρ f args = some (fid, as)) (hcl : closedL ns as = true) (hcs : closedSt ns σ ns = true) {K : V → Store → G → Prop} (hc : Cc P H fid as ns (restr ns σ) g K)
  (h : ∀ v σ' g', K v σ' g' → WI P H pn Q fs r (put ρ dst v) (merge ns σ σ') g') : WI P H pn Q fs (.op dst none (.call (.s ns) f args) :: r) ρ σ g := i_out (by
 unfold calv at hf
 split at hf
 · rename_i e
   split at hf
   · rename_i e2
     cases hf
     cases fzL_eq e2
     simp only [AWop, AWcall, e]
     exact ⟨hcl, hcs, CT_mono (fun v σ' g' hk => (h v σ' g' hk).out) hc.out⟩
   · cases hf
 · cases hf)
theorem c_frzv {t nm k : Nat} {rows : List V} (ht : ρ t = .sl (.own nm) rows) (hs : σ nm = .vec k) (h : WE P H pn Q fs .normal (upd ρ t (.sl .p rows)) (ups σ nm .dead) g) : WC P H pn Q fs (.frz t) ρ σ g := ⟨by
 simp only [AW, AWit, ht, hs]
 exact h.out⟩
theorem c_frza {t nm gen i len gen' : Nat} {rows : List V} (ht : ρ t = .msl nm gen i len) (hs : σ nm = .arr gen' rows) (hg : gen = gen') (h : WE P H pn Q fs .normal (upd ρ t (.sl .p ((rows.drop i).take len))) (ups σ nm .dead) g) : WC P H pn Q fs (.frz t) ρ σ g := ⟨by
 simp only [AW, AWit, ht, hs]
 exact ⟨hg, h.out⟩⟩
theorem c_frzb {t nm j : Nat} {row : V} (ht : ρ t = .bptr nm j) (hs : σ nm = .box row) (hp : pureB row = true) (h : WE P H pn Q fs .normal (upd ρ t (.cptr .p row j)) (ups σ nm .dead) g) : WC P H pn Q fs (.frz t) ρ σ g := ⟨by
 simp only [AW, AWit, ht, hs]
 exact ⟨hp, h.out⟩⟩
theorem i_frza {t nm gen i len gen' : Nat} {rows : List V} (ht : ρ t = .msl nm gen i len) (hs : σ nm = .arr gen' rows) (hg : gen = gen') (h : WI P H pn Q fs r (upd ρ t (.sl .p ((rows.drop i).take len))) (ups σ nm .dead) g) : WI P H pn Q fs (.frz t :: r) ρ σ g := ⟨by
 simp only [AWits, AWit, ht, hs]
 exact ⟨hg, h.out⟩⟩
end
theorem Fn.step {P : Program} {f n : Nat} {rs : List RVar} {c : Cmd} {args : List V} {r : V} (hmix : P.follows .mixedOrders = true) (hc : chkFn P f n rs c = true) (h : WC (G := Unit) P noH [] (fnPost rs r) [] c (env0 args) σ0 ()) : Fc P f args r :=
 ⟨Fn.intro hmix hc h.out⟩
theorem CT.step {G : Type} {P : Program} {H : HT G} {f n : Nat} {σ : Store} {g : G} {rs : List RVar} {c : Cmd} {args : List V} {K : V → Store → G → Prop} (pn : List Nat) (hmix : P.follows .mixedOrders = true) (hc : chkFn P f n rs c = true)
  (hpn : ∀ nm, σ nm ≠ .unused → nm ∈ pn) (h : MonoH H → WC P H pn (ctPost pn rs K) [] c (env0 args) σ g) : Cc P H f args pn σ g K :=
 ⟨CT.intro pn hmix hc hpn fun hM => (h hM).out⟩
section
variable {G : Type} {P : Program} {H : HT G} {pn : List Nat} {Q : Exit → Env → Store → G → Prop} {fs : List (Frm G)} {ρ : Env} {σ : Store} {g : G} {r : List GItem} {d : Nat} {dst : Option Nat} {a b : Cmd} {v : V} {o : AOp}
def forN (pn : List Nat) (n : Nat) (E : Nat → List (Nat × V)) (Sg : Nat → List (Nat × Blk)) (inv : Nat → Prop) (g : G) (k : Nat) : Env → Store → G → Prop :=
 fun ρ' σ' g' => ∃ i', (i' ≤ n ∧ inv i') ∧ Fits pn (E i') (Sg i') ρ' σ' ∧ g = g' ∧ n - i' < n - k
theorem c_for (n : Nat) (E : Nat → List (Nat × V)) (Sg : Nat → List (Nat × Blk)) (inv : Nat → Prop) (h0 : inv 0) (hf : Fits pn (E 0) (Sg 0) ρ σ)
  (hs : ∀ k, k ≤ n → inv k → WC P H pn Q (.loop (forN pn n E Sg inv g k) :: fs) a (envOf (E k)) (stOf (Sg k)) g) : WC P H pn Q fs (.loop a) ρ σ g :=
 c_loop E Sg (fun _ => g) (fun k => k ≤ n ∧ inv k) (fun k => n - k) 0 ⟨Nat.zero_le _, h0⟩ hf rfl fun k hk => hs k hk.1 hk.2
theorem e_for {n : Nat} {E : Nat → List (Nat × V)} {Sg : Nat → List (Nat × Blk)} {inv : Nat → Prop} {k : Nat} (hk : k < n) (hi : inv (k + 1)) (hf : Fits pn (E (k + 1)) (Sg (k + 1)) ρ σ) :
  WE P H pn Q (.loop (forN pn n E Sg inv g k) :: fs) .normal ρ σ g := e_loop ⟨k + 1, ⟨hk, hi⟩, hf, rfl, by omega⟩
def lpN {ι : Type} (pn : List Nat) (E : ι → List (Nat × V)) (Sg : ι → List (Nat × Blk)) (inv : ι → Prop) (μ : ι → Nat) (g : G) (i : ι) : Env → Store → G → Prop :=
 fun ρ' σ' g' => ∃ i', inv i' ∧ Fits pn (E i') (Sg i') ρ' σ' ∧ g = g' ∧ μ i' < μ i
theorem c_lp {ι : Type} (E : ι → List (Nat × V)) (Sg : ι → List (Nat × Blk)) (inv : ι → Prop) (μ : ι → Nat) (i0 : ι) (h0 : inv i0) (hf : Fits pn (E i0) (Sg i0) ρ σ)
  (hs : ∀ i, inv i → WC P H pn Q (.loop (lpN pn E Sg inv μ g i) :: fs) a (envOf (E i)) (stOf (Sg i)) g) : WC P H pn Q fs (.loop a) ρ σ g :=
 c_loop E Sg (fun _ => g) inv μ i0 h0 hf rfl fun i hi => hs i hi
theorem e_lp {ι : Type} {E : ι → List (Nat × V)} {Sg : ι → List (Nat × Blk)} {inv : ι → Prop} {μ : ι → Nat} {i : ι} (i' : ι) (hi : inv i') (hm : μ i' < μ i) (hf : Fits pn (E i') (Sg i') ρ σ) :
  WE P H pn Q (.loop (lpN pn E Sg inv μ g i) :: fs) .normal ρ σ g := e_loop ⟨i', hi, hf, rfl, hm⟩
theorem i_iai {α : Type} {f : α → V} {l : List α} {size : Nat} {t : Tag} {kk : IntKind} {n : Int} {c : α} {x i : Opd} (hx : ev ρ x = .sl t (l.map f)) (hi : ev ρ i = .int kk n) (h0 : 0 ≤ n) (hr : l[n.toNat]? = some c) (hw : Nat.beq size (f c).cells.length = true)
  (h : WI P H pn Q fs r (upd ρ d (.cptr t (f c) 0)) σ g) : WI P H pn Q fs (.op (some d) none (.iaddr size x i) :: r) ρ σ g :=
 i_ia hx hi h0 (by simp [hr]) hw h
theorem i_len {α : Type} {f : α → V} {l : List α} {t : Tag} {x : Opd} (hx : ev ρ x = .sl t (l.map f)) (h : WI P H pn Q fs r (upd ρ d (.int .i64 l.length)) σ g) : WI P H pn Q fs (.op (some d) none (.len false x) :: r) ρ σ g := i_out (by
 simp only [AWop, hx, List.length_map]
 exact h.out)
theorem i_sti {f : Int → V} {l : List Int} {nm gen gen' i : Nat} {v : Int} {x y : Opd} (hf : f = fun n => V.int .i64 n) (hx : ev ρ x = .ptr nm gen i 0) (hy : ev ρ y = .int .i64 v) (hs : σ nm = .arr gen' (l.map f)) (hg : gen = gen') (hi : i < l.length)
  (h : WI P H pn Q fs r (put ρ dst (.tup [])) (ups σ nm (.arr gen ((l.set i v).map f))) g) : WI P H pn Q fs (.op dst none (.store 1 x y) :: r) ρ σ g := by
 subst hf
 refine i_stp (row := .int .i64 l[i]) (row' := .int .i64 v) hx hs hg (by simp [hi]) (by rw [hy]; rfl) (by rw [hy]; rfl) ?_
 rw [List.map_set] at h
 exact h
theorem i_tk {α : Type} {f : α → V} {l : List α} {size : Nat} {t : Tag} {k2 : IntKind} {k : Nat} {x hi : Opd} (hx : ev ρ x = .sl t (l.map f)) (hhi : ev ρ hi = .int k2 (k : Int)) (h2 : k ≤ l.length)
  (h : WI P H pn Q fs r (upd ρ d (.sl t ((l.take k).map f))) σ g) : WI P H pn Q fs (.op (some d) none (.slice false size x none (some hi)) :: r) ρ σ g :=
 i_slh (k1 := .i64) (m := 0) hx rfl hhi (Int.le_refl _) (by omega) (by simp; omega) (.inl rfl) (by simpa using h)
theorem i_appM {α : Type} {f : α → V} {l : List α} {c : α} {size bytes et nm k : Nat} {t : Tag} {x y : Opd} (hx : ev ρ x = .sl (.own nm) (l.map f)) (hy : ev ρ y = .sl t [f c]) (hs : σ nm = .vec k) (hk : l.length = k) (hw : ((Nat.beq (wd nm) size && tyOkB nm et) && (Nat.beq (f c).cells.length size && (f c).cells.all leafB)) = true)
  (h1 : (k + 1) * bytes ≤ 140737488355328) (h2 : k + 1 ≤ 140737488355328)
  (h : WI P H pn Q fs r (upd ρ d (.sl (.own nm) ((l ++ [c]).map f))) (ups σ nm (.vec (k + 1))) g) : WI P H pn Q fs (.op (some d) none (.append size bytes et x y) :: r) ρ σ g :=
 i_app1 hx hy hs (by simp [hk]) hw h1 h2 (by simpa using h)
end
def scan {α : Type} (bad : Nat → Option α) : Nat → Nat → Option α
 | _, 0 => none
 | i, n + 1 => match bad i with
   | some f => some f
   | none => scan bad (i + 1) n
theorem scan_none {α : Type} {bad : Nat → Option α} : ∀ (n i : Nat), (∀ j, i ≤ j → j < i + n → bad j = none) → scan bad i n = none
 | 0, _, _ => rfl
 | n + 1, i, h => by
  simp only [scan, h i (Nat.le_refl _) (by omega)]
  exact scan_none n (i + 1) fun j h1 h2 => h j (by omega) (by omega)
theorem scan_hit {α : Type} {bad : Nat → Option α} {f : α} : ∀ (n i k : Nat), (∀ j, i ≤ j → j < k → bad j = none) → i ≤ k → k < i + n → bad k = some f → scan bad i n = some f
 | 0, i, k, _, _, h, _ => by omega
 | n + 1, i, k, h, h1, h2, h3 => by
  simp only [scan]
  by_cases e : i = k
  · subst e; rw [h3]
  · rw [h i (Nat.le_refl _) (by omega)]
    exact scan_hit n (i + 1) k (fun j h4 h5 => h j (by omega) h5) (by omega) (by omega) h3
theorem scan0_none {α : Type} {bad : Nat → Option α} {n : Nat} (h : ∀ j, j < n → bad j = none) : scan bad 0 n = none := scan_none n 0 fun j _ h2 => h j (by omega)
theorem scan0_hit {α : Type} {bad : Nat → Option α} {n k : Nat} {f : α} (h : ∀ j, j < k → bad j = none) (hk : k < n) (hf : bad k = some f) : scan bad 0 n = some f := scan_hit n 0 k (fun j _ h2 => h j h2) (Nat.zero_le _) (by omega) hf
theorem all_succ {p : Nat → Prop} {k : Nat} (h : ∀ j, j < k → p j) (hk : p k) : ∀ j, j < k + 1 → p j := fun j hj => by
 by_cases e : j = k
 · rw [e]; exact hk
 · exact h j (by omega)
theorem all_zero {p : Nat → Prop} : ∀ j, j < 0 → p j := fun j hj => absurd hj (Nat.not_lt_zero j)
theorem any_take_none {α : Type} {p : α → Bool} {l : List α} {k : Nat} (h : ∀ j, j < k → ∀ u, l[j]? = some u → p u = false) : (l.take k).any p = false := by
 rw [Bool.eq_false_iff]
 intro e
 obtain ⟨x, h1, h2⟩ := List.any_eq_true.1 e
 obtain ⟨j, hj, e⟩ := List.getElem_of_mem h1
 have hj' : j < k := by simp at hj; omega
 have : l[j]? = some x := by
  rw [← e, List.getElem_take]
  exact List.getElem?_eq_getElem (by simp at hj; omega)
 rw [h j hj' x this] at h2
 cases h2
theorem any_take_hit {α : Type} {p : α → Bool} {l : List α} {k j : Nat} {u : α} (hj : j < k) (hu : l[j]? = some u) (hp : p u = true) : (l.take k).any p = true := by
 refine List.any_eq_true.2 ⟨u, ?_, hp⟩
 have : (l.take k)[j]? = some u := by rw [List.getElem?_take, if_pos hj, hu]
 exact List.mem_of_getElem? this
theorem get_some {α : Type} {l : List α} {k : Nat} (h : k < l.length) : ∃ c, l[k]? = some c := ⟨l[k], List.getElem?_eq_getElem h⟩
theorem get_lt {α : Type} {l : List α} {k : Nat} {c : α} (h : l[k]? = some c) : k < l.length := (List.getElem?_eq_some_iff.1 h).1
theorem take_succ_get {α : Type} {l : List α} {k : Nat} {c : α} (h : l[k]? = some c) : l.take (k + 1) = l.take k ++ [c] := by
 rw [List.take_add_one, h]; rfl
theorem mem_get {α : Type} {l : List α} {k : Nat} {c : α} (h : l[k]? = some c) : c ∈ l := List.mem_of_getElem? h
section
variable {G : Type} {P : Program} {H : HT G} {pn : List Nat} {Q : Exit → Env → Store → G → Prop} {fs : List (Frm G)} {ρ : Env} {σ : Store} {g : G} {r : List GItem} {d : Nat} {dst : Option Nat} {a b : Cmd} {v : V} {o : AOp}
theorem i_y {f : Opd} {args : List Opd} {as : List V} (hM : MonoH H) (hf : ev ρ f = .rnd) (ha : fzL (args.map (ev ρ)) = some as) (hp : pureL as = true) (h : H as g fun u g' => WI P H pn Q fs r (put ρ dst u) σ g') : WI P H pn Q fs (.op dst none (.call .y f args) :: r) ρ σ g := i_out (by
 cases fzL_eq ha
 simp only [AWop, AWcall, hf]
 exact ⟨hp, hM _ _ _ _ (fun u g' h => h.out) h⟩)
def YL (H : HT G) : List (List V) → G → (G → Prop) → Prop
 | [], g, K => K g
 | as :: r, g, K => H as g fun u g' => (u = .bool true ∧ YL H r g' K) ∨ (u = .bool false ∧ K g')
abbrev RG (G : Type) := Store × G × Option Exit
def rhQ (wo : List Nat) (K : V → RG G → Prop) : Exit → Env → Store → G → Prop := fun e _ σ2 g2 => closedSt wo σ2 wo = true ∧ (match e with
 | .normal => K (.bool true) (restr wo σ2, g2, none)
 | e => K (.bool false) (restr wo σ2, g2, some e))
def rhA (P : Program) (H : HT G) (wo : List Nat) (cb : Cmd) (K : V → RG G → Prop) : Exit → Env → Store → G → Prop := fun e ρ σ g => match e with
 | .normal => WC P H wo (rhQ wo K) [] cb ρ σ g
 | _ => False
theorem rh_intro {wo : List Nat} {ca cb : Cmd} {ps : List Nat} {E : List (Nat × V)} {args : List V} {σ1 : Store} {g1 : G} {K : V → RG G → Prop} (hM : MonoH H) (hl : Nat.beq args.length ps.length = true)
  (h : WC P H wo (rhA P H wo cb K) [] ca (bindAll ps args (envOf E)) σ1 g1) : RH P H wo ca cb ps E args (σ1, g1, none) K := by
 refine ⟨hl, rfl, AW_mono hM ca wo _ _ _ _ _ (fun e ρ' σ' g' h => ?_) h.out⟩
 cases e <;> try exact h
 exact WC.out h
theorem RHm {wo : List Nat} {ca cb : Cmd} {ps : List Nat} {E : List (Nat × V)} (hM : MonoH H) : MonoH (RH P H wo ca cb ps E) :=
 RH_mono (fun pn ρ σ g Q Q' => AW_mono hM ca pn ρ σ g Q Q') (fun pn ρ σ g Q Q' => AW_mono hM cb pn ρ σ g Q Q')
def bQ (E : List (Nat × V)) (pf : List Nat) (P : Program) (H : HT G) (pn : List Nat) (Q : Exit → Env → Store → G → Prop) (fs : List (Frm G)) : V → Store → RG G → Prop := fun _ σ1 st => noRndSt σ1 pf = true ∧ (match st.2.2 with
 | none => WE P H pn Q fs .normal (envOf E) (merge pf st.1 σ1) st.2.1
 | some e => WE P H pn Q fs e (envOf E) (merge pf st.1 σ1) st.2.1)
theorem c_range {pf ps : List Nat} {f : Opd} {fid : Nat} {caps : List V} (E : List (Nat × V)) (Sg : List (Nat × Blk)) (hf : ev ρ f = .fn fid caps) (hfit : Fits pn E Sg ρ σ)
  (hb : (hasAll (Sg.map (·.1)) pf && closedL pf caps && closedSt pf (stOf Sg) pf && noRndL caps && noRndSt (stOf Sg) pf && closedE (without pf (Sg.map (·.1))) E && closedSt (without pf (Sg.map (·.1))) (stOf Sg) (without pf (Sg.map (·.1)))) = true)
  (hc : Cc P (RH P H (without pf (Sg.map (·.1))) a b ps E) fid (.rnd :: caps) pf (restr pf (stOf Sg)) (restr (without pf (Sg.map (·.1))) (stOf Sg), g, none) (bQ E pf P H pn Q fs)) :
  WC P H pn Q fs (.rangeF pf f ps a b) ρ σ g := ⟨by
 simp only [AW, hf]
 refine ⟨E, Sg, hfit, hb, CT_mono (fun v σ' st h => ?_) hc.out⟩
 obtain ⟨h0, h⟩ := h
 refine ⟨h0, ?_⟩
 obtain ⟨q1, q2, q3⟩ := st
 cases q3 with
 | none => exact WE.out h
 | some e => exact WE.out h⟩
theorem Cc_mono {f : Nat} {args : List V} {K K' : V → Store → G → Prop} (hk : ∀ v σ' g', K v σ' g' → K' v σ' g') (h : Cc P H f args pn σ g K) : Cc P H f args pn σ g K' := ⟨CT_mono hk h.out⟩
theorem YL_find {α : Type} {f : α → List V} (p : α → Bool) {s0 : RG G} (s1 : α → RG G) {H' : HT (RG G)} (hM : MonoH H') {K : RG G → Prop} : ∀ (l : List α), (∀ c ∈ l, ∀ K : V → RG G → Prop, (p c = true → K (.bool false) (s1 c)) → (p c = false → K (.bool true) s0) → H' (f c) s0 K) →
  (match l.find? p with
    | some c => K (s1 c)
    | none => K s0) → YL H' (l.map f) s0 K
 | [], _, h => h
 | c :: r, hH, h => by
  refine hH c (by simp) _ (fun hp => .inr ⟨rfl, ?_⟩) (fun hp => .inl ⟨rfl, YL_find p s1 hM r (fun c hc => hH c (by simp [hc])) ?_⟩)
  · simpa [hp] using h
  · simpa [hp] using h
end
theorem restr_mem {pn : List Nat} {σ : Store} (nm : Nat) (h : restr pn σ nm ≠ .unused) : nm ∈ pn := by
 by_cases hm : nm ∈ pn
 · exact hm
 · exact absurd (restr_out (θ := θ0) hm).1 h
end Hm
namespace Hm
open Go
theorem stOf_mem : ∀ (L : List (Nat × Blk)) (nm : Nat), stOf L nm ≠ .unused → nm ∈ L.map (·.1)
 | [], nm, h => absurd rfl h
 | (d, b) :: r, nm, h => by
   simp only [stOf] at h
   cases hb : Nat.beq nm d with
   | true => rw [Nat.eq_of_beq_eq_true hb]; simp
   | false => rw [hb] at h; exact List.mem_cons_of_mem _ (stOf_mem r nm h)
end Hm
namespace Hm
open Go
section
variable {G : Type} {P : Program} {H : HT G} {pn : List Nat} {Q : Exit → Env → Store → G → Prop} {fs : List (Frm G)} {ρ : Env} {σ : Store} {g : G} {a b : Cmd}
theorem c_rangeS {pf ps : List Nat} {f : Opd} {fid : Nat} {caps : List V} (E : List (Nat × V)) (Sg : List (Nat × Blk)) (wo : List Nat) (S1 S2 : List (Nat × Blk)) (hf : ev ρ f = .fn fid caps) (hfit : Fits pn E Sg ρ σ)
  (hwo : without pf (Sg.map (·.1)) = wo) (h1 : pf.map (fun nm => (nm, stOf Sg nm)) = S1) (h2 : wo.map (fun nm => (nm, stOf Sg nm)) = S2)
  (hb : (hasAll (Sg.map (·.1)) pf && closedL pf caps && closedSt pf (stOf Sg) pf && noRndL caps && noRndSt (stOf Sg) pf && closedE wo E && closedSt wo (stOf Sg) wo) = true)
  (hc : Cc P (RH P H wo a b ps E) fid (.rnd :: caps) pf (stOf S1) (stOf S2, g, none) (bQ E pf P H pn Q fs)) :
  WC P H pn Q fs (.rangeF pf f ps a b) ρ σ g := by
 subst hwo h1 h2
 refine c_range E Sg hf hfit hb ?_
 rw [restr_stOf, restr_stOf (stOf Sg) (without pf (Sg.map (·.1)))]
 exact hc
theorem rhq_n {wo : List Nat} {K : V → RG G → Prop} {L : List (Nat × Blk)} (h1 : closedSt wo σ wo = true) (hL : wo.map (fun nm => (nm, σ nm)) = L) (h : K (.bool true) (stOf L, g, none)) : rhQ wo K .normal ρ σ g :=
 ⟨h1, by rw [restr_stOf, hL]; exact h⟩
theorem rhq_r {wo : List Nat} {K : V → RG G → Prop} {L : List (Nat × Blk)} (h1 : closedSt wo σ wo = true) (hL : wo.map (fun nm => (nm, σ nm)) = L) (h : K (.bool false) (stOf L, g, some .ret)) : rhQ wo K .ret ρ σ g :=
 ⟨h1, by rw [restr_stOf, hL]; exact h⟩
end
structure Flt where
 code : Int
 index : Int
instance : DecidableEq Flt := fun a b => if h : a.code = b.code ∧ a.index = b.index then isTrue (by cases a; cases b; simp only at h; rw [h.1, h.2]) else isFalse (by rintro rfl; exact h ⟨rfl, rfl⟩)
def ftV (f : Flt) : V := .agg [.int .i64 f.code, .int .i64 f.index]
def okF : Flt := ⟨0, 0⟩
def i64V (n : Int) : V := .int .i64 n
theorem congr_ft {f : Flt} {c i : Int} (h : f = ⟨c, i⟩) : ftV f = .agg [.int .i64 c, .int .i64 i] := by rw [h]; rfl
theorem ft_ok_iff (f : Flt) : (f.code == 0 && (f.index == 0 && true)) = decide (f = okF) := by
 cases f with
 | mk c i =>
  simp only [okF, Flt.mk.injEq, Bool.and_true]
  by_cases h1 : c = 0 <;> by_cases h2 : i = 0 <;> simp [h1, h2]
theorem eq_ok {f : Flt} (h : (!(f.code == 0 && (f.index == 0 && true))) = false) : f = okF := by
 rw [ft_ok_iff] at h; simpa using h
def fidx {α : Type} (p : α → Bool) (l : List α) : Int := match l.findIdx? p with
 | some i => i
 | none => -1
theorem fidx_hit {α : Type} {p : α → Bool} {l : List α} {k : Nat} {c : α} (h : ∀ j, j < k → ∀ c, l[j]? = some c → p c = false) (hc : l[k]? = some c) (hp : p c = true) : fidx p l = k := by
 have : l.findIdx? p = some k := by
  rw [List.findIdx?_eq_some_iff_getElem]
  have hk := get_lt hc
  refine ⟨hk, ?_, fun j hj => ?_⟩
  · rw [List.getElem?_eq_getElem hk] at hc; injection hc with hc; rw [hc]; exact hp
  · simp [h j hj _ (List.getElem?_eq_getElem (by omega))]
 simp [fidx, this]
theorem fidx_none {α : Type} {p : α → Bool} {l : List α} (h : ∀ j, j < l.length → ∀ c, l[j]? = some c → p c = false) : fidx p l = -1 := by
 have : l.findIdx? p = none := by
  rw [List.findIdx?_eq_none_iff]
  intro x hx
  obtain ⟨j, hj, e⟩ := List.getElem_of_mem hx
  exact h j hj x (by rw [← e]; exact List.getElem?_eq_getElem hj)
 simp [fidx, this]
theorem fidx_any {α : Type} (p : α → Bool) (l : List α) : decide (fidx p l ≥ 0) = l.any p := by
 unfold fidx
 cases h : l.findIdx? p with
 | none =>
  rw [List.findIdx?_eq_none_iff] at h
  have : l.any p = false := by
   rw [Bool.eq_false_iff]
   intro e
   obtain ⟨x, h1, h2⟩ := List.any_eq_true.1 e
   rw [h x h1] at h2
   cases h2
  rw [this]; rfl
 | some k =>
  rw [List.findIdx?_eq_some_iff_getElem] at h
  obtain ⟨h1, h2, _⟩ := h
  have : l.any p = true := List.any_eq_true.2 ⟨_, List.getElem_mem h1, h2⟩
  rw [this]
  simp
section
variable {G : Type} {P : Program} {H : HT G} {pn : List Nat} {Q : Exit → Env → Store → G → Prop} {fs : List (Frm G)} {ρ : Env} {σ : Store} {g : G} {r : List GItem} {d : Nat} {dst : Option Nat} {a b : Cmd} {v : V} {o : AOp}
theorem i_ldr (nm : Nat) {agg : Bool} {size b j : Nat} {l0 : List V} {x : Opd} (hx : ev ρ x = .raw b j) (hs : σ nm = .box (.tag b l0)) (hl : fzA (ldrow agg size j (.agg l0)) = some v) (h : WI P H pn Q fs r (upd ρ d v) σ g) : WI P H pn Q fs (.op (some d) none (.load agg size x) :: r) ρ σ g := i_out (by
 simp only [AWop, hx]
 exact ⟨nm, l0, v, hs, fzA_eq hl, h.out⟩)
theorem i_str (nm : Nat) {size b j : Nat} {l0 l1 : List V} {x y : Opd} (hx : ev ρ x = .raw b j) (hs : σ nm = .box (.tag b l0)) (hl : fzA (strow size j (.agg l0) (ev ρ y)) = some (.agg l1)) (h : WI P H pn Q fs r (put ρ dst (.tup [])) (ups σ nm (.box (.tag b l1))) g) : WI P H pn Q fs (.op dst none (.store size x y) :: r) ρ σ g := i_out (by
 simp only [AWop, hx]
 exact ⟨nm, l0, l1, hs, fzA_eq hl, h.out⟩)
theorem i_appmM {α : Type} {f : α → V} {l : List α} (xs : List α) {size bytes et nm gen gen' : Nat} {t : Tag} {x y : Opd} (hx : ev ρ x = .msl nm gen 0 l.length) (hy : ev ρ y = .sl t (xs.map f)) (hs : σ nm = .arr gen' (l.map f)) (hg : gen = gen') (hw : Nat.beq (wd nm) size = true)
  (hr : ∀ c ∈ xs, (f c).cells.length = size ∧ (f c).cells.all leafB = true) (h1 : (l.length + xs.length) * bytes ≤ 140737488355328) (h2 : l.length + xs.length ≤ 140737488355328)
  (h : WI P H pn Q fs r (upd ρ d (.msl nm (gen + 1) 0 (l ++ xs).length)) (ups σ nm (.arr (gen + 1) ((l ++ xs).map f))) g) : WI P H pn Q fs (.op (some d) none (.append size bytes et x y) :: r) ρ σ g := by
 refine i_appm hx hy hs hg hw (fun row hrow => ?_) (by simpa using h1) (by simpa using h2) ?_
 · obtain ⟨c, hc, rfl⟩ := List.mem_map.1 hrow
   exact hr c hc
 · have e1 : (l.map f).take l.length ++ xs.map f = (l ++ xs).map f := by rw [List.take_of_length_le (by simp), List.map_append]
   rw [e1, List.length_map, ← List.length_append]
   exact h
end
structure Sx where
 sym : List UInt8
 ch : List Int
def sxV (n : Sx) : V := .agg [.str n.sym, .sl .p (n.ch.map i64V)]
def others : List UInt8 := [45, 95, 63, 58, 61, 60, 62, 43, 42, 47, 46]
def symB (c : UInt8) : Bool := (decide (97 ≤ c.toNat) && decide (c.toNat ≤ 122)) || (decide (65 ≤ c.toNat) && decide (c.toNat ≤ 90)) || (decide (48 ≤ c.toNat) && decide (c.toNat ≤ 57)) || decide (c ∈ others)
def symbolB (s : List UInt8) : Bool := s.all symB && (decide (1 ≤ s.length) && decide (s.length ≤ 12))
def chL (l : List Sx) (i : Nat) : List Int := match l[i]? with
 | some n => n.ch
 | none => []
def sumN (f : Nat → Nat) : List Int → Nat
 | [] => 0
 | c :: r => f c.toNat + sumN f r
def maxN (f : Nat → Nat) : List Int → Nat
 | [] => 0
 | c :: r => max (f c.toNat) (maxN f r)
theorem sumN_snoc (f : Nat → Nat) : ∀ (l : List Int) (c : Int), sumN f (l ++ [c]) = sumN f l + f c.toNat
 | [], c => by simp [sumN]
 | a :: l, c => by simp only [List.cons_append, sumN, sumN_snoc f l c]; omega
theorem maxN_snoc (f : Nat → Nat) : ∀ (l : List Int) (c : Int), maxN f (l ++ [c]) = max (maxN f l) (f c.toNat)
 | [], c => by simp [maxN]
 | a :: l, c => by simp only [List.cons_append, maxN, maxN_snoc f l c]; omega
theorem sumN_congr {f g : Nat → Nat} : ∀ {l : List Int}, (∀ c ∈ l, f c.toNat = g c.toNat) → sumN f l = sumN g l
 | [], _ => rfl
 | a :: l, h => by simp only [sumN]; rw [h a (by simp), sumN_congr fun c hc => h c (by simp [hc])]
theorem maxN_congr {f g : Nat → Nat} : ∀ {l : List Int}, (∀ c ∈ l, f c.toNat = g c.toNat) → maxN f l = maxN g l
 | [], _ => rfl
 | a :: l, h => by simp only [maxN]; rw [h a (by simp), maxN_congr fun c hc => h c (by simp [hc])]
theorem sumN_rev (f : Nat → Nat) : ∀ l : List Int, sumN f l.reverse = sumN f l
 | [] => rfl
 | a :: l => by rw [List.reverse_cons, sumN_snoc, sumN_rev f l]; simp only [sumN]; omega
theorem maxN_rev (f : Nat → Nat) : ∀ l : List Int, maxN f l.reverse = maxN f l
 | [] => rfl
 | a :: l => by rw [List.reverse_cons, maxN_snoc, maxN_rev f l]; simp only [maxN]; omega
theorem maxN_mem {f : Nat → Nat} : ∀ {l : List Int} {c : Int}, c ∈ l → f c.toNat ≤ maxN f l
 | a :: l, c, h => by
  simp only [maxN]
  rcases List.mem_cons.1 h with rfl | h
  · omega
  · have := maxN_mem (f := f) h; omega
def szF (l : List Sx) : Nat → Nat → Nat
 | 0, _ => 1
 | f + 1, i => 1 + sumN (szF l f) (chL l i)
def dpF (l : List Sx) : Nat → Nat → Nat
 | 0, _ => 1
 | f + 1, i => 1 + maxN (dpF l f) (chL l i)
def sz (l : List Sx) (i : Nat) : Nat := szF l (i + 1) i
def dp (l : List Sx) (i : Nat) : Nat := dpF l (i + 1) i
def chn (l : List Sx) : Int → List Int → Option Int
 | at_, [] => some at_
 | at_, c :: r => if c < 0 ∨ c ≠ at_ - 1 then none else chn l (at_ - sz l c.toNat) r
def low (l : List Sx) (i : Nat) : Prop := ∀ c ∈ chL l i, 0 ≤ c ∧ c < i
def lowTo (l : List Sx) (n : Nat) : Prop := ∀ j, j < n → low l j
theorem szF_ok {l : List Sx} : ∀ (f i n : Nat), lowTo l n → i < n → i < f → szF l f i = sz l i
 | 0, i, n, _, _, h => by omega
 | f + 1, i, n, hl, hn, h => by
  unfold sz
  simp only [szF]
  congr 1
  refine sumN_congr fun c hc => ?_
  have := hl i hn c hc
  rw [szF_ok f c.toNat n hl (by omega) (by omega)]
  by_cases e : f = i
  · subst e
    exact (szF_ok f c.toNat n hl (by omega) (by omega)).symm
  · exact (szF_ok i c.toNat n hl (by omega) (by omega)).symm
termination_by f => f
theorem dpF_ok {l : List Sx} : ∀ (f i n : Nat), lowTo l n → i < n → i < f → dpF l f i = dp l i
 | 0, i, n, _, _, h => by omega
 | f + 1, i, n, hl, hn, h => by
  unfold dp
  simp only [dpF]
  congr 1
  refine maxN_congr fun c hc => ?_
  have := hl i hn c hc
  rw [dpF_ok f c.toNat n hl (by omega) (by omega)]
  by_cases e : f = i
  · subst e
    exact (dpF_ok f c.toNat n hl (by omega) (by omega)).symm
  · exact (dpF_ok i c.toNat n hl (by omega) (by omega)).symm
termination_by f => f
theorem sz_eq {l : List Sx} {i : Nat} (h : lowTo l (i + 1)) : sz l i = 1 + sumN (sz l) (chL l i) := by
 show szF l (i + 1) i = _
 simp only [szF]
 congr 1
 exact sumN_congr fun c hc => by
  have := h i (by omega) c hc
  exact szF_ok i c.toNat (i + 1) h (by omega) (by omega)
theorem dp_eq {l : List Sx} {i : Nat} (h : lowTo l (i + 1)) : dp l i = 1 + maxN (dp l) (chL l i) := by
 show dpF l (i + 1) i = _
 simp only [dpF]
 congr 1
 exact maxN_congr fun c hc => by
  have := h i (by omega) c hc
  exact dpF_ok i c.toNat (i + 1) h (by omega) (by omega)
theorem sz_pos (l : List Sx) (i : Nat) : 1 ≤ sz l i := by unfold sz; simp only [szF]; omega
theorem dp_pos (l : List Sx) (i : Nat) : 1 ≤ dp l i := by unfold dp; simp only [dpF]; omega
theorem chn_end {l : List Sx} : ∀ {r : List Int} {a e : Int}, chn l a r = some e → e = a - sumN (sz l) r ∧ ∀ c ∈ r, 0 ≤ c ∧ c < a
 | [], a, e, h => by cases h; simp [sumN]
 | c :: r, a, e, h => by
  simp only [chn] at h
  split at h
  · cases h
  · rename_i hc
    simp only [not_or, Decidable.not_not] at hc
    obtain ⟨h1, h2⟩ := chn_end h
    have hp := sz_pos l c.toNat
    refine ⟨by simp only [sumN]; omega, fun d hd => ?_⟩
    rcases List.mem_cons.1 hd with rfl | hd
    · omega
    · have := h2 d hd; omega
def shapeC (n : Sx) : Int := if n.sym = [] then 0 else if symbolB n.sym = false then 12 else if n.ch ≠ [] then 5 else 0
def nodeBad (l : List Sx) (i : Nat) : Option Flt := match l[i]? with
 | none => none
 | some n => if shapeC n ≠ 0 then some ⟨shapeC n, i⟩ else if (chn l i n.ch.reverse).isNone = true then some ⟨5, i⟩ else if dp l i > 12 then some ⟨10, i⟩ else none
def sxFault (l : List Sx) : Flt := if l.length = 0 ∨ l.length > 300 then ⟨2, -1⟩ else match scan (nodeBad l) 0 l.length with
 | some f => f
 | none => if sz l (l.length - 1) ≠ l.length then ⟨5, -1⟩ else okF
structure NV (l : List Sx) (i : Nat) (n : Sx) : Prop where
 shape : shapeC n = 0
 chain : ∃ e, chn l i n.ch.reverse = some e
 depth : dp l i ≤ 12
theorem nodeBad_none {l : List Sx} {i : Nat} {n : Sx} (hn : l[i]? = some n) : nodeBad l i = none ↔ NV l i n := by
 unfold nodeBad
 rw [hn]
 simp only
 constructor
 · intro h
   split at h
   · cases h
   · rename_i h1
     split at h
     · cases h
     · rename_i h2
       split at h
       · cases h
       · rename_i h3
         refine ⟨by simpa using h1, ?_, by omega⟩
         cases hc : chn l i n.ch.reverse with
         | none => rw [hc] at h2; exact absurd rfl h2
         | some e => exact ⟨e, rfl⟩
 · rintro ⟨h1, ⟨e, h2⟩, h3⟩
   rw [if_neg (by simp [h1]), if_neg (by simp [h2]), if_neg (by omega)]
theorem chL_get {l : List Sx} {i : Nat} {n : Sx} (h : l[i]? = some n) : chL l i = n.ch := by unfold chL; rw [h]
theorem NV.low {l : List Sx} {i : Nat} {n : Sx} (hn : l[i]? = some n) (h : NV l i n) : low l i := by
 obtain ⟨e, he⟩ := h.chain
 intro c hc
 rw [chL_get hn] at hc
 exact (chn_end he).2 c (List.mem_reverse.2 hc)
def okTo (l : List Sx) (n : Nat) : Prop := ∀ j, j < n → ∀ x, l[j]? = some x → NV l j x
theorem okTo.low {l : List Sx} {n : Nat} (h : okTo l n) : lowTo l n := fun j hj => by
 cases hx : l[j]? with
 | none => intro c hc; unfold chL at hc; rw [hx] at hc; simp at hc
 | some x => exact (h j hj x hx).low hx
theorem sz_le {l : List Sx} : ∀ (i n : Nat), okTo l n → i < n → sz l i ≤ i + 1 := by
 intro i
 induction i using Nat.strongRecOn with
 | ind i ih =>
  intro n h hn
  have hlow : lowTo l (i + 1) := fun j hj => h.low j (by omega)
  rw [sz_eq hlow]
  cases hx : l[i]? with
  | none => unfold chL; rw [hx]; simp [sumN]
  | some x =>
   obtain ⟨e, he⟩ := (h i hn x hx).chain
   have h1 := (chn_end he).1
   have h2 : 0 ≤ e := by
    have key : ∀ (r : List Int) (a e : Int), 0 ≤ a → a ≤ i → chn l a r = some e → 0 ≤ e := by
     intro r
     induction r with
     | nil => intro a e ha _ hh; cases hh; exact ha
     | cons c r ihr =>
      intro a e ha hai hh
      simp only [chn] at hh
      split at hh
      · cases hh
      · rename_i hc
        simp only [not_or, Decidable.not_not] at hc
        have := ih c.toNat (by omega) n h (by omega)
        have hp := sz_pos l c.toNat
        exact ihr _ _ (by omega) (by omega) hh
    exact key _ _ _ (by omega) (Int.le_refl _) he
   rw [sumN_rev] at h1
   rw [chL_get hx]
   omega
def fst_ (l : List Sx) (i : Nat) : Int := (i : Int) + 1 - sz l i
def joinF : List (List UInt8) → List UInt8
 | [] => []
 | [a] => a
 | a :: b :: r => a ++ 32 :: joinF (b :: r)
theorem joinF_snoc : ∀ (xs : List (List UInt8)) (a : List UInt8), joinF (xs ++ [a]) = (if xs = [] then a else joinF xs ++ 32 :: a)
 | [], a => rfl
 | [x], a => rfl
 | x :: y :: r, a => by
  have := joinF_snoc (y :: r) a
  simp only [List.cons_append, joinF] at this ⊢
  rw [this]
  simp
def txF (l : List Sx) : Nat → Nat → List UInt8
 | 0, _ => []
 | f + 1, i => match l[i]? with
   | none => []
   | some n => if n.sym = [] then 40 :: (joinF (n.ch.map fun c => txF l f c.toNat) ++ [41]) else n.sym
def tx (l : List Sx) (i : Nat) : List UInt8 := txF l (i + 1) i
theorem txF_ok {l : List Sx} : ∀ (f i n : Nat), lowTo l n → i < n → i < f → txF l f i = tx l i
 | 0, i, n, _, _, h => by omega
 | f + 1, i, n, hl, hn, h => by
  unfold tx
  simp only [txF]
  cases hx : l[i]? with
  | none => rfl
  | some x =>
   simp only
   have e : x.ch.map (fun c => txF l f c.toNat) = x.ch.map (fun c => txF l i c.toNat) := List.map_congr_left fun c hc => by
    have := hl i hn c (by rw [chL_get hx]; exact hc)
    rw [txF_ok f c.toNat n hl (by omega) (by omega)]
    by_cases e : f = i
    · subst e
      exact (txF_ok f c.toNat n hl (by omega) (by omega)).symm
    · exact (txF_ok i c.toNat n hl (by omega) (by omega)).symm
   rw [e]
termination_by f => f
theorem tx_eq {l : List Sx} {i : Nat} {n : Sx} (h : lowTo l (i + 1)) (hn : l[i]? = some n) : tx l i = if n.sym = [] then 40 :: (joinF (n.ch.map fun c => tx l c.toNat) ++ [41]) else n.sym := by
 show txF l (i + 1) i = _
 simp only [txF, hn]
 have e : n.ch.map (fun c => txF l i c.toNat) = n.ch.map (fun c => tx l c.toNat) := List.map_congr_left fun c hc => by
  have := h i (by omega) c (by rw [chL_get hn]; exact hc)
  exact txF_ok i c.toNat (i + 1) h (by omega) (by omega)
 rw [e]
theorem joinF_len (g : Nat → List UInt8) (s : Nat → Nat) : ∀ l : List Int, (∀ c ∈ l, (g c.toNat).length + 2 ≤ 15 * s c.toNat) → (joinF (l.map fun c => g c.toNat)).length ≤ 15 * sumN s l
 | [], _ => by simp [joinF]
 | [a], h => by have := h a (by simp); simp [joinF, sumN]; omega
 | a :: b :: r, h => by
  have h1 := h a (by simp)
  have h2 := joinF_len g s (b :: r) fun c hc => h c (by simp [hc])
  simp only [List.map_cons, joinF, List.length_append, List.length_cons, sumN] at h2 ⊢
  omega
theorem tx_len {l : List Sx} : ∀ (i n : Nat), okTo l n → i < n → (tx l i).length + 2 ≤ 15 * sz l i := by
 intro i
 induction i using Nat.strongRecOn with
 | ind i ih =>
  intro n h hn
  have hlow : lowTo l (i + 1) := fun j hj => h.low j (by omega)
  have hp := sz_pos l i
  cases hx : l[i]? with
  | none => unfold tx; simp only [txF, hx, List.length_nil]; omega
  | some x =>
   rw [tx_eq hlow hx]
   have hv := h i hn x hx
   split
   · have hs := sz_eq hlow
     rw [chL_get hx] at hs
     have := joinF_len (tx l) (sz l) x.ch fun c hc => by
      have := hlow i (by omega) c (by rw [chL_get hx]; exact hc)
      exact ih c.toNat (by omega) n h (by omega)
     simp only [List.length_cons, List.length_append, List.length_nil]
     omega
   · rename_i hne
     have h1 := hv.shape
     unfold shapeC at h1
     rw [if_neg hne] at h1
     split at h1
     · cases h1
     · rename_i h2
       simp only [Bool.not_eq_false, symbolB, Bool.and_eq_true, decide_eq_true_eq] at h2
       omega
structure SxOk (l : List Sx) : Prop where
 len : 1 ≤ l.length ∧ l.length ≤ 300
 node : okTo l l.length
 root : sz l (l.length - 1) = l.length
theorem sxOk_to {l : List Sx} (h : SxOk l) : sxFault l = okF := by
 have hl := h.len
 unfold sxFault
 rw [if_neg (by omega), scan0_none fun j hj => ?_]
 · rw [if_neg (by simp [h.root])]
 · obtain ⟨x, hx⟩ := get_some hj
   exact (nodeBad_none hx).2 (h.node j hj x hx)
def chTo (l : List Sx) (n : Nat) : Prop := ∀ j, j < n → ∀ x, l[j]? = some x → ∃ e, chn l j x.ch.reverse = some e
theorem okTo.chs {l : List Sx} {n : Nat} (h : okTo l n) : chTo l n := fun j hj x hx => (h j hj x hx).chain
theorem chTo.low {l : List Sx} {n : Nat} (h : chTo l n) : lowTo l n := fun j hj => by
 cases hx : l[j]? with
 | none => intro c hc; unfold chL at hc; rw [hx] at hc; simp at hc
 | some x =>
  intro c hc
  obtain ⟨e, he⟩ := h j hj x hx
  rw [chL_get hx] at hc
  exact (chn_end he).2 c (List.mem_reverse.2 hc)
theorem chTo.mono {l : List Sx} {n m : Nat} (h : chTo l n) (hm : m ≤ n) : chTo l m := fun j hj => h j (by omega)
theorem sz_leC {l : List Sx} : ∀ (i n : Nat), chTo l n → i < n → sz l i ≤ i + 1 := by
 intro i
 induction i using Nat.strongRecOn with
 | ind i ih =>
  intro n h hn
  have hlow : lowTo l (i + 1) := fun j hj => h.low j (by omega)
  rw [sz_eq hlow]
  cases hx : l[i]? with
  | none => unfold chL; rw [hx]; simp [sumN]
  | some x =>
   obtain ⟨e, he⟩ := h i hn x hx
   have h1 := (chn_end he).1
   have h2 : 0 ≤ e := by
    have key : ∀ (r : List Int) (a e : Int), 0 ≤ a → a ≤ i → chn l a r = some e → 0 ≤ e := by
     intro r
     induction r with
     | nil => intro a e ha _ hh; cases hh; exact ha
     | cons c r ihr =>
      intro a e ha hai hh
      simp only [chn] at hh
      split at hh
      · cases hh
      · rename_i hc
        simp only [not_or, Decidable.not_not] at hc
        have := ih c.toNat (by omega) n h (by omega)
        have hp := sz_pos l c.toNat
        exact ihr _ _ (by omega) (by omega) hh
    exact key _ _ _ (by omega) (Int.le_refl _) he
   rw [sumN_rev] at h1
   rw [chL_get hx]
   omega
theorem chn_nn {l : List Sx} {i : Nat} (h : chTo l i) : ∀ (r : List Int) (a e : Int), 0 ≤ a → a ≤ i → chn l a r = some e → 0 ≤ e
 | [], a, e, ha, _, hh => by cases hh; exact ha
 | c :: r, a, e, ha, hai, hh => by
  simp only [chn] at hh
  split at hh
  · cases hh
  · rename_i hc
    simp only [not_or, Decidable.not_not] at hc
    have := sz_leC c.toNat i h (by omega)
    have hp := sz_pos l c.toNat
    exact chn_nn h r _ _ (by omega) (by omega) hh
theorem chn_snoc {l : List Sx} : ∀ (xs : List Int) (a c : Int), chn l a (xs ++ [c]) = match chn l a xs with
  | none => none
  | some e => if c < 0 ∨ c ≠ e - 1 then none else some (e - sz l c.toNat)
 | [], a, c => by simp only [List.nil_append, chn]
 | x :: xs, a, c => by
  simp only [List.cons_append, chn]
  split
  · rfl
  · exact chn_snoc xs _ c
theorem chn_none {l : List Sx} : ∀ (xs ys : List Int) (a : Int), chn l a xs = none → chn l a (xs ++ ys) = none
 | [], ys, a, h => by cases h
 | x :: xs, ys, a, h => by
  simp only [List.cons_append, chn] at h ⊢
  split
  · rfl
  · rename_i hc
    rw [if_neg hc] at h
    exact chn_none xs ys _ h
theorem sumN_take (f : Nat → Nat) : ∀ (l : List Int) (k : Nat), sumN f (l.take k) ≤ sumN f l
 | [], k => by simp [sumN]
 | a :: l, 0 => by simp [sumN]
 | a :: l, k + 1 => by have := sumN_take f l k; simp only [List.take_succ_cons, sumN]; omega
theorem maxN_take (f : Nat → Nat) : ∀ (l : List Int) (k : Nat), maxN f (l.take k) ≤ maxN f l
 | [], k => by simp [maxN]
 | a :: l, 0 => by simp [maxN]
 | a :: l, k + 1 => by have := maxN_take f l k; simp only [List.take_succ_cons, maxN]; omega
theorem max_le_sum {f g : Nat → Nat} : ∀ {l : List Int}, (∀ c ∈ l, f c.toNat ≤ g c.toNat) → maxN f l ≤ sumN g l
 | [], _ => Nat.le_refl _
 | a :: l, h => by
  have h1 := h a (by simp)
  have h2 := max_le_sum (l := l) fun c hc => h c (by simp [hc])
  simp only [maxN, sumN]
  omega
theorem dp_le {l : List Sx} : ∀ (i n : Nat), lowTo l n → i < n → dp l i ≤ sz l i := by
 intro i
 induction i using Nat.strongRecOn with
 | ind i ih =>
  intro n h hn
  have hlow : lowTo l (i + 1) := fun j hj => h j (by omega)
  rw [sz_eq hlow, dp_eq hlow]
  have := max_le_sum (l := chL l i) (f := dp l) (g := sz l) fun c hc => by
   have := h i hn c hc
   exact ih c.toNat (by omega) n h (by omega)
  omega
structure SxsOk (l : List Sx) : Prop where
 len : l.length ≤ 140737488355328
 e : ∀ x ∈ l, x.sym.length ≤ 140737488355328 ∧ x.ch.length ≤ 140737488355328
 r : ∀ x ∈ l, ∀ c ∈ x.ch, InR .i64 c
inductive Tr where
 | sym (s : List UInt8)
 | lst (l : List Tr)
mutual
def tsz : Tr → Nat
 | .sym _ => 1
 | .lst l => 1 + tszL l
def tszL : List Tr → Nat
 | [] => 0
 | t :: r => tsz t + tszL r
end
mutual
def tdp : Tr → Nat
 | .sym _ => 1
 | .lst l => 1 + tdpL l
def tdpL : List Tr → Nat
 | [] => 0
 | t :: r => max (tdp t) (tdpL r)
end
mutual
def ttx : Tr → List UInt8
 | .sym s => s
 | .lst l => 40 :: (joinF (ttxL l) ++ [41])
def ttxL : List Tr → List (List UInt8)
 | [] => []
 | t :: r => ttx t :: ttxL r
end
mutual
def tok : Tr → Bool
 | .sym s => symbolB s
 | .lst l => tokL l
def tokL : List Tr → Bool
 | [] => true
 | t :: r => tok t && tokL r
end
def chs (b : Nat) : List Tr → List Int
 | [] => []
 | t :: r => (((b + tsz t : Nat) : Int) - 1) :: chs (b + tsz t) r
mutual
def flt (b : Nat) : Tr → List Sx
 | .sym s => [⟨s, []⟩]
 | .lst l => fltL b l ++ [⟨[], chs b l⟩]
def fltL (b : Nat) : List Tr → List Sx
 | [] => []
 | t :: r => flt b t ++ fltL (b + tsz t) r
end
theorem tsz_pos (t : Tr) : 1 ≤ tsz t := by cases t <;> simp only [tsz] <;> omega
mutual
theorem flt_len : ∀ (t : Tr) (b : Nat), (flt b t).length = tsz t
 | .sym s, b => by simp [flt, tsz]
 | .lst l, b => by simp only [flt, tsz, List.length_append, List.length_singleton, fltL_len l b]; omega
theorem fltL_len : ∀ (l : List Tr) (b : Nat), (fltL b l).length = tszL l
 | [], b => by simp [fltL, tszL]
 | t :: r, b => by simp only [fltL, tszL, List.length_append, flt_len t b, fltL_len r (b + tsz t)]
end
theorem ttxL_map : ∀ l : List Tr, ttxL l = l.map ttx
 | [] => rfl
 | t :: r => by simp only [ttxL, List.map_cons, ttxL_map r]
theorem tszL_append : ∀ l m : List Tr, tszL (l ++ m) = tszL l + tszL m
 | [], m => by simp [tszL]
 | t :: r, m => by simp only [List.cons_append, tszL, tszL_append r m]; omega
theorem chs_append : ∀ (l m : List Tr) (b : Nat), chs b (l ++ m) = chs b l ++ chs (b + tszL l) m
 | [], m, b => by simp [chs, tszL]
 | t :: r, m, b => by simp only [List.cons_append, chs, tszL, chs_append r m, Nat.add_assoc]
theorem fltL_append : ∀ (l m : List Tr) (b : Nat), fltL b (l ++ m) = fltL b l ++ fltL (b + tszL l) m
 | [], m, b => by simp [fltL, tszL]
 | t :: r, m, b => by simp only [List.cons_append, fltL, tszL, fltL_append r m, List.append_assoc, Nat.add_assoc]
theorem chs_len : ∀ (l : List Tr) (b : Nat), (chs b l).length = l.length
 | [], b => rfl
 | t :: r, b => by simp only [chs, List.length_cons, chs_len r]
def trF (l : List Sx) : Nat → Nat → Tr
 | 0, _ => .sym []
 | f + 1, i => match l[i]? with
   | none => .sym []
   | some n => if n.sym = [] then .lst (n.ch.map fun c => trF l f c.toNat) else .sym n.sym
def tr (l : List Sx) (i : Nat) : Tr := trF l (i + 1) i
theorem trF_ok {l : List Sx} : ∀ (f i n : Nat), lowTo l n → i < n → i < f → trF l f i = tr l i
 | 0, i, n, _, _, h => by omega
 | f + 1, i, n, hl, hn, h => by
  unfold tr
  simp only [trF]
  cases hx : l[i]? with
  | none => rfl
  | some x =>
   simp only
   have e : x.ch.map (fun c => trF l f c.toNat) = x.ch.map (fun c => trF l i c.toNat) := List.map_congr_left fun c hc => by
    have := hl i hn c (by rw [chL_get hx]; exact hc)
    rw [trF_ok f c.toNat n hl (by omega) (by omega)]
    by_cases e : f = i
    · subst e
      exact (trF_ok f c.toNat n hl (by omega) (by omega)).symm
    · exact (trF_ok i c.toNat n hl (by omega) (by omega)).symm
   rw [e]
termination_by f => f
theorem tr_eq {l : List Sx} {i : Nat} {n : Sx} (h : lowTo l (i + 1)) (hn : l[i]? = some n) : tr l i = if n.sym = [] then .lst (n.ch.map fun c => tr l c.toNat) else .sym n.sym := by
 show trF l (i + 1) i = _
 simp only [trF, hn]
 have e : n.ch.map (fun c => trF l i c.toNat) = n.ch.map (fun c => tr l c.toNat) := List.map_congr_left fun c hc => by
  have := h i (by omega) c (by rw [chL_get hn]; exact hc)
  exact trF_ok i c.toNat (i + 1) h (by omega) (by omega)
 rw [e]
def Here (L : List Sx) (b : Nat) (n : List Sx) : Prop := ∀ j, j < n.length → L[b + j]? = n[j]?
theorem Here.left {L : List Sx} {b : Nat} {n m : List Sx} (h : Here L b (n ++ m)) : Here L b n := fun j hj => by
 rw [h j (by simp; omega), List.getElem?_append_left hj]
theorem Here.right {L : List Sx} {b : Nat} {n m : List Sx} (h : Here L b (n ++ m)) : Here L (b + n.length) m := fun j hj => by
 have := h (n.length + j) (by simp; omega)
 rw [List.getElem?_append_right (by omega)] at this
 rw [Nat.add_assoc, this]
 congr 1
 omega
structure TrAt (L : List Sx) (b : Nat) (t : Tr) : Prop where
 ok : okTo L (b + tsz t)
 sz : sz L (b + tsz t - 1) = tsz t
 dp : dp L (b + tsz t - 1) = tdp t
 tx : tx L (b + tsz t - 1) = ttx t
 tr : tr L (b + tsz t - 1) = t
structure TrAtL (L : List Sx) (b : Nat) (l : List Tr) : Prop where
 ok : okTo L (b + tszL l)
 chn : ∀ (a : List Int), Hm.chn L ((b + tszL l : Nat) : Int) ((chs b l).reverse ++ a) = Hm.chn L (b : Int) a
 sz : sumN (Hm.sz L) (chs b l) = tszL l
 dp : maxN (Hm.dp L) (chs b l) = tdpL l
 tx : (chs b l).map (fun c => Hm.tx L c.toNat) = ttxL l
 tr : (chs b l).map (fun c => Hm.tr L c.toNat) = l
theorem symbolB_ne {s : List UInt8} (h : symbolB s = true) : s ≠ [] := by rintro rfl; simp [symbolB] at h
theorem okTo_step {L : List Sx} {n : Nat} (h : okTo L n) (h1 : ∀ x, L[n]? = some x → NV L n x) : okTo L (n + 1) := fun j hj x hx => by
 by_cases e : j = n
 · subst e; exact h1 x hx
 · exact h j (by omega) x hx
mutual
theorem trAt_of (L : List Sx) : ∀ (t : Tr) (b : Nat), okTo L b → Here L b (flt b t) → tok t = true → tdp t ≤ 12 → TrAt L b t
 | .sym s, b, ho, hh, ht, hd => by
  have hx : L[b]? = some ⟨s, []⟩ := by simpa [flt] using hh 0 (by simp [flt])
  have hs : symbolB s = true := by simpa [tok] using ht
  have hne := symbolB_ne hs
  have hch : chL L b = [] := chL_get hx
  have hlow : lowTo L (b + 1) := fun j hj => by
   by_cases e : j = b
   · subst e; intro c hc; rw [hch] at hc; cases hc
   · exact ho.low j (by omega)
  have hdp : dp L b = 1 := by rw [dp_eq hlow, hch]; rfl
  have hok : okTo L (b + 1) := okTo_step ho fun x hx' => by
   rw [hx] at hx'
   cases hx'
   refine ⟨by unfold shapeC; rw [if_neg hne, if_neg (by simp [hs]), if_neg (by simp)], ⟨b, rfl⟩, by omega⟩
  have e : b + tsz (.sym s) - 1 = b := by simp [tsz]
  refine ⟨by simpa [tsz] using hok, ?_, ?_, ?_, ?_⟩ <;> rw [e]
  · rw [sz_eq hlow, hch]; rfl
  · rw [hdp]; rfl
  · rw [tx_eq hlow hx, if_neg hne]; rfl
  · rw [tr_eq hlow hx, if_neg hne]
 | .lst l, b, ho, hh, ht, hd => by
  simp only [flt] at hh
  have hL := trAtL_of L l b ho hh.left (by simpa [tok] using ht) (by simp only [tdp] at hd; omega)
  have hx : L[b + tszL l]? = some ⟨[], chs b l⟩ := by
   have := hh.right 0 (by simp)
   rw [fltL_len] at this
   simpa using this
  have e : b + tsz (.lst l) - 1 = b + tszL l := by simp only [tsz]; omega
  have hcn : Hm.chn L ((b + tszL l : Nat) : Int) (chs b l).reverse = some (b : Int) := by
   have := hL.chn []
   rw [List.append_nil] at this
   rw [this]; rfl
  have hch : chL L (b + tszL l) = chs b l := chL_get hx
  have hlow : lowTo L (b + tszL l + 1) := fun j hj => by
   by_cases e : j = b + tszL l
   · subst e
     intro c hc
     rw [hch] at hc
     exact (chn_end hcn).2 c (List.mem_reverse.2 hc)
   · exact hL.ok.low j (by omega)
  have hdp : dp L (b + tszL l) = tdp (.lst l) := by rw [dp_eq hlow, hch, hL.dp]; rfl
  have hok : okTo L (b + tszL l + 1) := okTo_step hL.ok fun x hx' => by
   rw [hx] at hx'
   cases hx'
   exact ⟨rfl, ⟨_, hcn⟩, by omega⟩
  refine ⟨?_, ?_, ?_, ?_, ?_⟩
  · have : b + tsz (.lst l) = b + tszL l + 1 := by simp only [tsz]; omega
    rw [this]; exact hok
  · rw [e, sz_eq hlow, hch, hL.sz]; rfl
  · rw [e]; exact hdp
  · rw [e, tx_eq hlow hx, if_pos rfl]
    simp only [hL.tx, ttx]
  · rw [e, tr_eq hlow hx, if_pos rfl]
    simp only [hL.tr]
theorem trAtL_of (L : List Sx) : ∀ (l : List Tr) (b : Nat), okTo L b → Here L b (fltL b l) → tokL l = true → tdpL l ≤ 11 → TrAtL L b l
 | [], b, ho, hh, ht, hd => ⟨ho, fun a => rfl, rfl, rfl, rfl, rfl⟩
 | t :: r, b, ho, hh, ht, hd => by
  simp only [fltL] at hh
  simp only [tokL, Bool.and_eq_true] at ht
  simp only [tdpL] at hd
  have h1 := trAt_of L t b ho hh.left ht.1 (by omega)
  have hr := hh.right
  rw [flt_len] at hr
  have h2 := trAtL_of L r (b + tsz t) h1.ok hr ht.2 (by omega)
  have hp := tsz_pos t
  have ec : (((b + tsz t : Nat) : Int) - 1).toNat = b + tsz t - 1 := by omega
  refine ⟨?_, fun a => ?_, ?_, ?_, ?_, ?_⟩
  · have := h2.ok
    simp only [tszL]
    rw [← Nat.add_assoc]; exact this
  · have := h2.chn ((((b + tsz t : Nat) : Int) - 1) :: a)
    simp only [tszL, chs, List.reverse_cons, List.append_assoc, List.singleton_append]
    rw [← Nat.add_assoc, this]
    simp only [Hm.chn]
    rw [if_neg (by omega), ec, h1.sz]
    congr 1
    omega
  · simp only [chs, sumN, ec, h1.sz, h2.sz, tszL]
  · simp only [chs, maxN, ec, h1.dp, h2.dp, tdpL]
  · simp only [chs, List.map_cons, ec, h1.tx, h2.tx, ttxL]
  · simp only [chs, List.map_cons, ec, h1.tr, h2.tr]
end
theorem flt_ok {t : Tr} (ht : tok t = true) (hd : tdp t ≤ 12) (hs : tsz t ≤ 300) : SxOk (flt 0 t) ∧ tx (flt 0 t) ((flt 0 t).length - 1) = ttx t ∧ tr (flt 0 t) ((flt 0 t).length - 1) = t := by
 have h := trAt_of (flt 0 t) t 0 (fun j hj => by omega) (fun j hj => by rw [Nat.zero_add]) ht hd
 have hl := flt_len t 0
 have hp := tsz_pos t
 have e : 0 + tsz t - 1 = (flt 0 t).length - 1 := by omega
 refine ⟨⟨by omega, ?_, ?_⟩, ?_, ?_⟩
 · have := h.ok; rw [hl]; simpa using this
 · rw [← e, h.sz, hl]
 · rw [← e, h.tx]
 · rw [← e, h.tr]
structure Typ where
 name : List UInt8
 parent : Int
structure Obj where
 name : List UInt8
 type : Int
def tyV (t : Typ) : V := .agg [.str t.name, .int .i64 t.parent]
def obV (o : Obj) : V := .agg [.str o.name, .int .i64 o.type]
def nameAt (i : Nat) (c : UInt8) : Bool := (decide (97 ≤ c.toNat) && decide (c.toNat ≤ 122)) || (decide (0 < i) && ((decide (48 ≤ c.toNat) && decide (c.toNat ≤ 57)) || c.toNat == 45))
def namesFrom : Nat → List UInt8 → Bool
 | _, [] => true
 | i, c :: r => nameAt i c && namesFrom (i + 1) r
def nameB (s : List UInt8) : Bool := namesFrom 0 s && decide (1 ≤ s.length) && decide (s.length ≤ 12)
theorem namesFrom_take (s : List UInt8) : ∀ k, (∀ j, j < k → ∀ c, s[j]? = some c → nameAt j c = true) → s.length ≤ k → namesFrom 0 s = true := by
 have key : ∀ (s : List UInt8) (i k : Nat), (∀ j, j < k → ∀ c, s[j]? = some c → nameAt (i + j) c = true) → s.length ≤ k → namesFrom i s = true := by
  intro s
  induction s with
  | nil => intros; rfl
  | cons c r ih =>
   intro i k h hl
   simp only [List.length_cons] at hl
   simp only [namesFrom, Bool.and_eq_true]
   refine ⟨h 0 (by omega) c rfl, ih (i + 1) (k - 1) (fun j hj c' hc => ?_) (by omega)⟩
   have := h (j + 1) (by omega) c' (by simpa using hc)
   rwa [show i + 1 + j = i + (j + 1) from by omega]
 intro k h hl
 exact key s 0 k (fun j hj c hc => by rw [Nat.zero_add]; exact h j hj c hc) hl
theorem namesFrom_false {s : List UInt8} {k : Nat} {c : UInt8} (hc : s[k]? = some c) (hn : nameAt k c = false) : namesFrom 0 s = false := by
 have key : ∀ (s : List UInt8) (i k : Nat), s[k]? = some c → nameAt (i + k) c = false → namesFrom i s = false := by
  intro s
  induction s with
  | nil => intro i k h; simp at h
  | cons a r ih =>
   intro i k h hn
   simp only [namesFrom]
   cases k with
   | zero => simp at h; subst h; rw [show i + 0 = i from rfl] at hn; rw [hn]; rfl
   | succ k => rw [ih (i + 1) k (by simpa using h) (by rw [show i + 1 + k = i + (k + 1) from by omega]; exact hn)]; simp
 exact key s 0 k hc (by rw [Nat.zero_add]; exact hn)
def objectS : List UInt8 := [111, 98, 106, 101, 99, 116]
def tyBad (l : List Typ) (i : Nat) : Option Flt := match l[i]? with
 | none => none
 | some t => if nameB t.name = false ∨ t.name = objectS then some ⟨12, i⟩ else if (l.take i).any (fun u => u.name == t.name) = true then some ⟨7, i⟩
   else if t.parent < -1 ∨ t.parent ≥ i then some ⟨3, i⟩ else none
def typesFault (l : List Typ) : Flt := if l.length > 8 then ⟨2, -1⟩ else (scan (tyBad l) 0 l.length).getD okF
def obBad (n : Nat) (l : List Obj) (i : Nat) : Option Flt := match l[i]? with
 | none => none
 | some t => if nameB t.name = false then some ⟨12, -10 - i⟩ else if (l.take i).any (fun u => u.name == t.name) = true then some ⟨7, -10 - i⟩
   else if t.type < -1 ∨ t.type ≥ n then some ⟨3, -10 - i⟩ else none
def objectsFault (n : Nat) (l : List Obj) : Flt := if l.length > 8 then ⟨2, -3⟩ else (scan (obBad n l) 0 l.length).getD okF
def badT (n : Nat) (a : Int) : Bool := decide (a < -1) || decide (a ≥ n)
def parentOf (l : List Typ) (t : Int) : Int := match l[t.toNat]? with
 | some x => x.parent
 | none => -1
def supersN (l : List Typ) : Nat → Int → List Int
 | 0, _ => [-1]
 | n + 1, t => if t < 0 then [-1] else t :: supersN l n (parentOf l t)
def supers (l : List Typ) (t : Int) : List Int := supersN l (t.toNat + 1) t
def subB (l : List Typ) (a b : Int) : Bool := decide (b ∈ supers l a)
def TyValid (l : List Typ) : Prop := l.length ≤ 8 ∧ ∀ (i : Nat) (t : Typ), l[i]? = some t → -1 ≤ t.parent ∧ t.parent < i
theorem scan_all {α : Type} {bad : Nat → Option α} : ∀ (n i : Nat), scan bad i n = none → ∀ j, i ≤ j → j < i + n → bad j = none
 | 0, i, _, j, h1, h2 => by omega
 | n + 1, i, h, j, h1, h2 => by
  simp only [scan] at h
  split at h
  · cases h
  · rename_i e
    by_cases hj : j = i
    · rw [hj]; exact e
    · exact scan_all n (i + 1) h j (by omega) (by omega)
theorem getD_ok {o : Option Flt} (hc : ∀ f, o = some f → f.code ≠ 0) (h : o.getD okF = okF) : o = none := by
 cases o with
 | none => rfl
 | some f => exact absurd (by rw [show f = okF from h]; rfl) (hc f rfl)
theorem scan_prop {α : Type} {bad : Nat → Option α} (p : Option α → Prop) (h0 : p none) (h : ∀ i, p (bad i)) : ∀ n i, p (scan bad i n)
 | 0, _ => h0
 | n + 1, i => by
  simp only [scan]
  have := h i
  split
  · rename_i f e; rw [e] at this; exact this
  · exact scan_prop p h0 h n (i + 1)
theorem tyBad_code (l : List Typ) (i : Nat) : ∀ f, tyBad l i = some f → f.code ≠ 0 := by
 intro f h
 unfold tyBad at h
 split at h
 · cases h
 · repeat' split at h
   all_goals cases h
   all_goals simp
theorem typesFault_valid {l : List Typ} (h : typesFault l = okF) : TyValid l := by
 unfold typesFault at h
 split at h
 · cases h
 · rename_i h8
   have hs := getD_ok (scan_prop (bad := tyBad l) (fun o => ∀ f, o = some f → f.code ≠ 0) (by simp) (fun i => tyBad_code l i) l.length 0) h
   refine ⟨by omega, fun i t ht => ?_⟩
   have := scan_all _ _ hs i (Nat.zero_le _) (by have := get_lt ht; omega)
   unfold tyBad at this
   rw [ht] at this
   simp only at this
   split at this
   · cases this
   · split at this
     · cases this
     · split at this
       · cases this
       · omega
theorem parent_ok {l : List Typ} (hv : TyValid l) {t : Int} (h0 : 0 ≤ t) (h1 : t < l.length) : ∃ x, l[t.toNat]? = some x ∧ parentOf l t = x.parent ∧ -1 ≤ x.parent ∧ x.parent < t := by
 obtain ⟨x, hx⟩ := get_some (l := l) (k := t.toNat) (by omega)
 have := hv.2 _ _ hx
 exact ⟨x, hx, by simp [parentOf, hx], this.1, by omega⟩
theorem supersN_succ {l : List Typ} {n : Nat} {t : Int} (h : ¬ t < 0) : supersN l (n + 1) t = t :: supersN l n (parentOf l t) := if_neg h
theorem supersN_fuel {l : List Typ} (hv : TyValid l) : ∀ (n : Nat) (t : Int), t < n → t < l.length → supersN l n t = supersN l (t.toNat + 1) t
 | 0, t, h, _ => by simp [supersN, h, show t < 0 from by omega]
 | n + 1, t, h, h1 => by
  by_cases h0 : t < 0
  · simp [supersN, h0]
  · obtain ⟨x, hx, hp, h2, h3⟩ := parent_ok hv (by omega) h1
    by_cases hn : t.toNat = n
    · rw [hn]
    · rw [← supersN_fuel hv n t (by omega) h1]
      cases n with
      | zero => omega
      | succ m =>
       rw [supersN_succ h0, supersN_succ h0, hp, supersN_fuel hv (m + 1) x.parent (by omega) (by omega), supersN_fuel hv m x.parent (by omega) (by omega)]
theorem supers_neg {l : List Typ} {t : Int} (h : t < 0) : supers l t = [-1] := by simp [supers, supersN, h]
theorem supers_cons {l : List Typ} (hv : TyValid l) {t : Int} (h0 : 0 ≤ t) (h1 : t < l.length) {x : Typ} (hx : l[t.toNat]? = some x) : supers l t = t :: supers l x.parent := by
 obtain ⟨x', hx', hp, h2, h3⟩ := parent_ok hv h0 h1
 rw [hx] at hx'; cases hx'
 unfold supers
 rw [show supersN l (t.toNat + 1) t = t :: supersN l t.toNat (parentOf l t) from by simp [supersN, show ¬ t < 0 from by omega], hp, supersN_fuel hv _ _ (by omega) (by omega)]
theorem supers_len {l : List Typ} : ∀ (n : Nat) (t : Int), (supersN l n t).length ≤ n + 1
 | 0, _ => by simp [supersN]
 | n + 1, t => by
  simp only [supersN]
  split
  · simp
  · have := supers_len (l := l) n (parentOf l t)
    simp only [List.length_cons]; omega
theorem supers_length {l : List Typ} {t : Int} (h : t < l.length) (hv : TyValid l) : (supers l t).length ≤ 10 := by
 have := supers_len (l := l) (t.toNat + 1) t
 have := hv.1
 unfold supers
 omega
structure At where
 pred : Int
 args : List Int
deriving DecidableEq
structure Lit where
 neg : Bool
 at_ : At
deriving DecidableEq
structure Prd where
 name : List UInt8
 types : List Int
structure Sch where
 name : List UInt8
 types : List Int
 diff : List (Int × Int)
 pre : List Lit
 add : List At
 del : List At
 cost : Int
structure Dom where
 types : List Typ
 objects : List Obj
 preds : List Prd
 schemas : List Sch
 init : List At
 goal : List Lit
def atV (a : At) : V := .agg [.int .i64 a.pred, .sl .p (a.args.map i64V)]
def litV (x : Lit) : V := .agg [.bool x.neg, .int .i64 x.at_.pred, .sl .p (x.at_.args.map i64V)]
def prdV (p : Prd) : V := .agg [.str p.name, .sl .p (p.types.map i64V)]
def pairV (p : Int × Int) : V := .agg [.int .i64 p.1, .int .i64 p.2]
def schV (s : Sch) : V := .agg [.str s.name, .sl .p (s.types.map i64V), .sl .p (s.diff.map pairV), .sl .p (s.pre.map litV), .sl .p (s.add.map atV), .sl .p (s.del.map atV), .int .i64 s.cost]
def domV (d : Dom) : V := .agg [.sl .p (d.types.map tyV), .sl .p (d.objects.map obV), .sl .p (d.preds.map prdV), .sl .p (d.schemas.map schV), .sl .p (d.init.map atV), .sl .p (d.goal.map litV)]
def fnz {α : Type} (f : α → Int) : List α → Int
 | [] => 0
 | a :: r => if f a ≠ 0 then f a else fnz f r
theorem fnz_hit {α : Type} {f : α → Int} : ∀ {l : List α} {k : Nat} {c : α}, (∀ j, j < k → ∀ x, l[j]? = some x → f x = 0) → l[k]? = some c → f c ≠ 0 → fnz f l = f c
 | [], k, c, _, hc, _ => by simp at hc
 | a :: r, 0, c, _, hc, hn => by
  simp only [List.getElem?_cons_zero, Option.some.injEq] at hc
  subst hc
  simp only [fnz]
  rw [if_pos hn]
 | a :: r, k + 1, c, hi, hc, hn => by
  have := hi 0 (by omega) a rfl
  simp only [fnz]
  rw [if_neg (by simp [this])]
  exact fnz_hit (k := k) (fun j hj x hx => hi (j + 1) (by omega) x (by simpa using hx)) (by simpa using hc) hn
theorem fnz_ok {α : Type} {f : α → Int} : ∀ {l : List α}, (∀ j, j < l.length → ∀ x, l[j]? = some x → f x = 0) → fnz f l = 0
 | [], _ => rfl
 | a :: r, hi => by
  have := hi 0 (by simp) a rfl
  simp only [fnz]
  rw [if_neg (by simp [this])]
  exact fnz_ok fun j hj x hx => hi (j + 1) (by simp; omega) x (by simpa using hx)
theorem fnz_all {α : Type} {f : α → Int} : ∀ {l : List α}, fnz f l = 0 → ∀ x ∈ l, f x = 0
 | a :: r, h, x, hx => by
  simp only [fnz] at h
  split at h
  · rename_i h1; exact absurd h h1
  · rename_i h1
    rcases List.mem_cons.1 hx with rfl | hx
    · simpa using h1
    · exact fnz_all h x hx
def typeOfA (d : Dom) (ps : List Int) (x : Int) : Option Int := if 0 ≤ x ∧ x < d.objects.length then (d.objects[x.toNat]?).map Obj.type else if x < 0 ∧ -(ps.length : Int) ≤ x then ps[(-1 - x).toNat]? else none
def tyoBad (d : Dom) (t : Int) : Option Int → Option Int
 | none => some 3
 | some u => if subB d.types u t = true then none else some 8
def argBad (d : Dom) (ps want : List Int) (a : At) (i : Nat) : Option Int := match a.args[i]?, want[i]? with
 | some x, some t => tyoBad d t (typeOfA d ps x)
 | _, _ => none
def atomCode (d : Dom) (ps : List Int) (a : At) : Int := if a.pred < 0 ∨ (d.preds.length : Int) ≤ a.pred then 6 else match d.preds[a.pred.toNat]? with
 | none => 6
 | some p => if a.args.length ≠ p.types.length then 9 else (scan (argBad d ps p.types a) 0 a.args.length).getD 0
def atomsCode (d : Dom) (ps : List Int) (l : List At) (most : Nat) : Int := if l.length > most then 2 else fnz (atomCode d ps) l
def paramsCode (n : Nat) (l : List Int) : Int := if l.length > 3 then 2 else if l.any (badT n) = true then 3 else 0
def notS : List UInt8 := [110, 111, 116]
def prdCode (d : Dom) (i : Nat) : Int := match d.preds[i]? with
 | none => 0
 | some p => if nameB p.name = false ∨ p.name = notS then 12 else if (d.preds.take i).any (fun q => q.name == p.name) = true then 7 else paramsCode d.types.length p.types
def pairBad (n : Nat) (p : Int × Int) : Bool := decide (p.1 < 0) || (decide (p.2 ≤ p.1) || decide ((n : Int) ≤ p.2))
def schSelf (d : Dom) (s : Sch) : Int := if paramsCode d.types.length s.types ≠ 0 then paramsCode d.types.length s.types else if s.diff.length > 8 then 2 else if s.diff.any (pairBad s.types.length) = true then 3
 else if atomsCode d s.types (s.pre.map Lit.at_) 8 ≠ 0 then atomsCode d s.types (s.pre.map Lit.at_) 8 else if atomsCode d s.types s.add 8 ≠ 0 then atomsCode d s.types s.add 8 else if atomsCode d s.types s.del 8 ≠ 0 then atomsCode d s.types s.del 8
 else if s.cost < 0 ∨ s.cost > 100 then 3 else 0
def schCode (d : Dom) (i : Nat) : Int := match d.schemas[i]? with
 | none => 0
 | some s => if nameB s.name = false then 12 else if (d.schemas.take i).any (fun q => q.name == s.name) = true then 7 else schSelf d s
def dupBad (l : List At) (i : Nat) : Option Int := match l[i]? with
 | none => none
 | some a => if a ∈ l.take i then some 7 else none
def startCode (d : Dom) : Int := if atomsCode d [] d.init 40 ≠ 0 then atomsCode d [] d.init 40 else (scan (dupBad d.init) 0 d.init.length).getD 0
def nzF (f : Nat → Int) (g : Nat → Int) (i : Nat) : Option Flt := if f i = 0 then none else some ⟨f i, g i⟩
def domFault (d : Dom) : Flt := if typesFault d.types ≠ okF then ⟨(typesFault d.types).code, -1⟩ else if objectsFault d.types.length d.objects ≠ okF then ⟨(objectsFault d.types.length d.objects).code, -2⟩
 else if d.preds.length > 8 then ⟨2, -3⟩ else match scan (nzF (prdCode d) fun _ => -3) 0 d.preds.length with
 | some f => f
 | none => if d.schemas.length > 8 then ⟨2, -4⟩ else match scan (nzF (schCode d) fun i => i) 0 d.schemas.length with
   | some f => f
   | none => if startCode d ≠ 0 then ⟨startCode d, -5⟩ else if atomsCode d [] (d.goal.map Lit.at_) 8 ≠ 0 then ⟨atomsCode d [] (d.goal.map Lit.at_) 8, -6⟩ else okF
structure DoTy (d : Dom) : Prop where
 ty : TyValid d.types
 ol : d.objects.length ≤ 8
 o : ∀ x ∈ d.objects, -1 ≤ x.type ∧ x.type < d.types.length
def PsOk (d : Dom) (ps : List Int) : Prop := ps.length ≤ 100 ∧ ∀ t ∈ ps, -1 ≤ t ∧ t < d.types.length
theorem paramsCode_ok {d : Dom} {l : List Int} (h : paramsCode d.types.length l = 0) : l.length ≤ 3 ∧ ∀ t ∈ l, -1 ≤ t ∧ t < d.types.length := by
 unfold paramsCode at h
 split at h
 · cases h
 · split at h
   · cases h
   · rename_i h1 h2
     refine ⟨by omega, fun t ht => ?_⟩
     simp only [List.any_eq_true, not_exists, not_and, Bool.not_eq_true] at h2
     have := h2 t ht
     simp only [badT, Bool.or_eq_false_iff, decide_eq_false_iff_not] at this
     omega
theorem typeOfA_ok {d : Dom} (hd : DoTy d) {ps : List Int} (hp : PsOk d ps) {x t : Int} (h : typeOfA d ps x = some t) : -1 ≤ t ∧ t < d.types.length := by
 unfold typeOfA at h
 split at h
 · cases ho : d.objects[x.toNat]? with
   | none => rw [ho] at h; cases h
   | some o =>
    rw [ho] at h
    cases h
    exact hd.o o (mem_get ho)
 · split at h
   · exact hp.2 t (mem_get h)
   · cases h
structure AtOk (a : At) : Prop where
 len : a.args.length ≤ 17592186044416
 r : ∀ c ∈ a.args, InR .i64 c
 p : InR .i64 a.pred
structure SchOk (s : Sch) : Prop where
 name : s.name.length ≤ 140737488355328
 types : s.types.length ≤ 17592186044416
 diff : s.diff.length ≤ 17592186044416
 pre : s.pre.length ≤ 3518437208883
 add : s.add.length ≤ 4398046511104
 del : s.del.length ≤ 4398046511104
 preA : ∀ x ∈ s.pre, AtOk x.at_
 addA : ∀ x ∈ s.add, AtOk x
 delA : ∀ x ∈ s.del, AtOk x
structure DoOk (d : Dom) : Prop where
 types : d.types.length ≤ 140737488355328 ∧ ∀ t ∈ d.types, t.name.length ≤ 140737488355328
 objects : d.objects.length ≤ 140737488355328 ∧ ∀ t ∈ d.objects, t.name.length ≤ 140737488355328
 preds : d.preds.length ≤ 140737488355328 ∧ ∀ p ∈ d.preds, p.name.length ≤ 140737488355328 ∧ p.types.length ≤ 17592186044416
 schemas : d.schemas.length ≤ 140737488355328 ∧ ∀ s ∈ d.schemas, SchOk s
 init : d.init.length ≤ 4398046511104 ∧ ∀ a ∈ d.init, AtOk a
 goal : d.goal.length ≤ 3518437208883 ∧ ∀ x ∈ d.goal, AtOk x.at_
theorem atom_args {d : Dom} {ps : List Int} {a : At} (h : atomCode d ps a = 0) : (0 ≤ a.pred ∧ a.pred < d.preds.length) ∧ ∃ p, d.preds[a.pred.toNat]? = some p ∧ a.args.length = p.types.length ∧ ∀ (i : Nat) (x : Int), a.args[i]? = some x → ∃ t u, p.types[i]? = some t ∧ typeOfA d ps x = some u ∧ subB d.types u t = true := by
 unfold atomCode at h
 split at h
 · cases h
 · rename_i h1
   refine ⟨by omega, ?_⟩
   cases hp : d.preds[a.pred.toNat]? with
   | none => rw [hp] at h; cases h
   | some p =>
    rw [hp] at h
    simp only at h
    split at h
    · cases h
    · rename_i h2
      have h2 : a.args.length = p.types.length := by simpa using h2
      refine ⟨p, rfl, h2, fun i x hx => ?_⟩
      have hi := get_lt hx
      obtain ⟨t, ht⟩ := get_some (l := p.types) (k := i) (by omega)
      have hnone : scan (argBad d ps p.types a) 0 a.args.length = none := by
       cases hs : scan (argBad d ps p.types a) 0 a.args.length with
       | none => rfl
       | some e =>
        rw [hs] at h
        simp only [Option.getD_some] at h
        exfalso
        have := scan_prop (bad := argBad d ps p.types a) (fun o => o ≠ some 0) (by simp) (fun i => by
         unfold argBad
         split
         · unfold tyoBad
           split
           · simp
           · split <;> simp
         · simp) a.args.length 0
        rw [hs, h] at this
        exact this rfl
      have := scan_all _ _ hnone i (by omega) (by omega)
      unfold argBad at this
      rw [hx, ht] at this
      simp only at this
      unfold tyoBad at this
      split at this
      · cases this
      · rename_i u hu
        split at this
        · rename_i hsub
          exact ⟨t, u, ht, hu, hsub⟩
        · cases this
theorem typeOfA_rng {d : Dom} {ps : List Int} {x t : Int} (h : typeOfA d ps x = some t) : -(ps.length : Int) ≤ x ∧ x < d.objects.length := by
 unfold typeOfA at h
 split at h
 · omega
 · split at h
   · omega
   · cases h
theorem atom_rng {d : Dom} {ps : List Int} {a : At} (h : atomCode d ps a = 0) : ∀ x ∈ a.args, -(ps.length : Int) ≤ x ∧ x < d.objects.length := by
 obtain ⟨_, p, _, _, h2⟩ := atom_args h
 intro x hx
 obtain ⟨i, hi⟩ := List.getElem?_of_mem hx
 obtain ⟨t, u, _, hu, _⟩ := h2 i x hi
 exact typeOfA_rng hu
def digF : Nat → Nat → List UInt8
 | 0, _ => []
 | f + 1, n => if n < 10 then [UInt8.ofNat (48 + n)] else digF f (n / 10) ++ [UInt8.ofNat (48 + n % 10)]
def dig (n : Nat) : List UInt8 := digF (n + 1) n
def sDomain : List UInt8 := [100, 111, 109, 97, 105, 110]
def sTypes : List UInt8 := [116, 121, 112, 101, 115]
def sObjects : List UInt8 := [111, 98, 106, 101, 99, 116, 115]
def sPredicates : List UInt8 := [112, 114, 101, 100, 105, 99, 97, 116, 101, 115]
def sAction : List UInt8 := [97, 99, 116, 105, 111, 110]
def sDifferent : List UInt8 := [100, 105, 102, 102, 101, 114, 101, 110, 116]
def sPre : List UInt8 := [112, 114, 101]
def sAdd : List UInt8 := [97, 100, 100]
def sDel : List UInt8 := [100, 101, 108]
def sInit : List UInt8 := [105, 110, 105, 116]
def sGoal : List UInt8 := [103, 111, 97, 108]
def typeNm (d : Dom) (t : Int) : List UInt8 := if t < 0 then objectS else match d.types[t.toNat]? with
 | some x => x.name
 | none => []
def objNm (d : Dom) (x : Int) : List UInt8 := match d.objects[x.toNat]? with
 | some o => o.name
 | none => []
def prdNm (d : Dom) (p : Int) : List UInt8 := match d.preds[p.toNat]? with
 | some o => o.name
 | none => []
def secT (name : List UInt8) (l : List Tr) : Tr := .lst (.sym name :: l)
def tyT (d : Dom) (t : Typ) : Tr := .lst [.sym t.name, .sym (typeNm d t.parent)]
def obT (d : Dom) (o : Obj) : Tr := .lst [.sym o.name, .sym (typeNm d o.type)]
def nmT (d : Dom) (t : Int) : Tr := .sym (typeNm d t)
def prT (d : Dom) (p : Prd) : Tr := secT p.name (p.types.map (nmT d))
def argS (d : Dom) (x : Int) : List UInt8 := if x < 0 then 63 :: dig (-1 - x).toNat else objNm d x
def argT (d : Dom) (x : Int) : Tr := .sym (argS d x)
def atT (d : Dom) (a : At) : Tr := secT (prdNm d a.pred) (a.args.map (argT d))
def litT (d : Dom) (x : Lit) : Tr := if x.neg = true then secT notS [atT d x.at_] else atT d x.at_
def pairT (p : Int × Int) : Tr := .lst [.sym (dig p.1.toNat), .sym (dig p.2.toNat)]
def schT (d : Dom) (s : Sch) : Tr := secT sAction [.sym s.name, .lst (s.types.map (nmT d)), secT sDifferent (s.diff.map pairT), secT sPre (s.pre.map (litT d)), secT sAdd (s.add.map (atT d)), secT sDel (s.del.map (atT d)), .sym (dig s.cost.toNat)]
def domT (d : Dom) : Tr := secT sDomain ([secT sTypes (d.types.map (tyT d)), secT sObjects (d.objects.map (obT d)), secT sPredicates (d.preds.map (prT d))] ++ d.schemas.map (schT d) ++ [secT sInit (d.init.map (atT d)), secT sGoal (d.goal.map (litT d))])
def bigD (d : Dom) : Bool := decide (tsz (domT d) > 300) || decide ((ttx (domT d)).length > 4096)
def printS (d : Dom) : List UInt8 := if domFault d ≠ okF then [] else if bigD d = true then [] else ttx (domT d)
def printF (d : Dom) : Flt := if domFault d ≠ okF then domFault d else if bigD d = true then ⟨10, -7⟩ else okF
def secO (name : List UInt8) : Tr → Option (List Tr)
 | .lst (.sym s :: r) => if s = name then some r else none
 | _ => none
def pairO : Tr → Option (Tr × Tr)
 | .lst [a, b] => some (a, b)
 | _ => none
def allO {α β : Type} (f : α → Option β) : List α → Option (List β)
 | [] => some []
 | a :: r => match f a, allO f r with
   | some b, some m => some (b :: m)
   | _, _ => none
def digB (c : UInt8) : Bool := decide (48 ≤ c.toNat) && decide (c.toNat ≤ 57)
def valD (s : List UInt8) : Nat := s.foldl (fun n c => 10 * n + (c.toNat - 48)) 0
def numO (s : List UInt8) : Option Int := if s ≠ [] ∧ s.all digB = true ∧ dig (valD s) = s ∧ valD s ≤ 1000000 then some (valD s) else none
def typO (ts : List Typ) : Tr → Option Int
 | .sym s => match ts.findIdx? fun t => t.name == s with
   | some i => some i
   | none => if s = objectS then some (-1) else none
 | .lst _ => none
def argO (d : Dom) : Tr → Option Int
 | .sym (c :: r) => if c = 63 then (numO r).map fun n => -1 - n else (d.objects.findIdx? fun o => o.name == c :: r).map fun i => (i : Int)
 | _ => none
def atO (d : Dom) : Tr → Option At
 | .lst (.sym s :: r) => match d.preds.findIdx? fun p => p.name == s with
   | some i => (allO (argO d) r).map fun l => ⟨i, l⟩
   | none => none
 | _ => none
def isNot : Tr → Option Tr
 | .lst [.sym s, t] => if s = notS then some t else none
 | _ => none
def litO (d : Dom) (t : Tr) : Option Lit := match isNot t with
 | some u => (atO d u).map fun a => ⟨true, a⟩
 | none => (atO d t).map fun a => ⟨false, a⟩
def nbrO : Tr → Option Int
 | .sym s => numO s
 | .lst _ => none
def diffO (t : Tr) : Option (Int × Int) := match pairO t with
 | some (a, b) => match nbrO a, nbrO b with
   | some x, some y => some (x, y)
   | _, _ => none
 | none => none
def schO (d : Dom) : Tr → Option Sch
 | .lst [.sym act, .sym name, .lst tys, df, pr, ad, de, .sym c] => if act = sAction then
   match allO (typO d.types) tys, (secO sDifferent df).bind (allO diffO), (secO sPre pr).bind (allO (litO d)), (secO sAdd ad).bind (allO (atO d)), (secO sDel de).bind (allO (atO d)), numO c with
   | some ts, some dl, some pl, some al, some xl, some n => some ⟨name, ts, dl, pl, al, xl, n⟩
   | _, _, _, _, _, _ => none
   else none
 | _ => none
def typesO : List Typ → List Tr → Option (List Typ)
 | acc, [] => some acc
 | acc, t :: r => match pairO t with
   | some (.sym n, p) => match typO acc p with
     | some q => typesO (acc ++ [⟨n, q⟩]) r
     | none => none
   | _ => none
def objO (ts : List Typ) (t : Tr) : Option Obj := match pairO t with
 | some (.sym n, p) => (typO ts p).map fun q => ⟨n, q⟩
 | _ => none
def prdO (ts : List Typ) : Tr → Option Prd
 | .lst (.sym n :: r) => (allO (typO ts) r).map fun l => ⟨n, l⟩
 | _ => none
def domO (t : Tr) : Option Dom := match secO sDomain t with
 | none => none
 | some l => if l.length < 5 then none else
   match (l[0]?).bind (secO sTypes), (l[1]?).bind (secO sObjects), (l[2]?).bind (secO sPredicates), (l[l.length - 2]?).bind (secO sInit), (l[l.length - 1]?).bind (secO sGoal) with
   | some tl, some ol, some pl, some il, some gl =>
    match typesO [] tl with
    | none => none
    | some ts => match allO (objO ts) ol, allO (prdO ts) pl with
      | some os, some ps =>
       match allO (schO ⟨ts, os, ps, [], [], []⟩) ((l.take (l.length - 2)).drop 3), allO (atO ⟨ts, os, ps, [], [], []⟩) il, allO (litO ⟨ts, os, ps, [], [], []⟩) gl with
       | some ss, some is_, some gs => some ⟨ts, os, ps, ss, is_, gs⟩
       | _, _, _ => none
      | _, _ => none
   | _, _, _, _, _ => none
theorem atomsCode_all {d : Dom} {ps : List Int} {l : List At} {m : Nat} (h : atomsCode d ps l m = 0) : l.length ≤ m ∧ ∀ a ∈ l, atomCode d ps a = 0 := by
 unfold atomsCode at h
 split at h
 · cases h
 · exact ⟨by omega, fnz_all h⟩
structure SchVal (d : Dom) (s : Sch) : Prop where
 types : s.types.length ≤ 3 ∧ ∀ t ∈ s.types, -1 ≤ t ∧ t < d.types.length
 dl : s.diff.length ≤ 8
 diff : ∀ p ∈ s.diff, 0 ≤ p.1 ∧ p.1 < p.2 ∧ p.2 < s.types.length
 prel : s.pre.length ≤ 8
 pre : ∀ x ∈ s.pre, atomCode d s.types x.at_ = 0
 addl : s.add.length ≤ 8
 add : ∀ x ∈ s.add, atomCode d s.types x = 0
 dell : s.del.length ≤ 8
 del : ∀ x ∈ s.del, atomCode d s.types x = 0
 c0 : 0 ≤ s.cost
 c1 : s.cost ≤ 100
theorem schVal_of {d : Dom} {s : Sch} (h : schSelf d s = 0) : SchVal d s := by
 unfold schSelf at h
 split at h
 · rename_i h1; exact absurd h h1
 · rename_i h1
   split at h
   · cases h
   · rename_i h2
     split at h
     · cases h
     · rename_i h3
       split at h
       · rename_i h4; exact absurd h h4
       · rename_i h4
         split at h
         · rename_i h5; exact absurd h h5
         · rename_i h5
           split at h
           · rename_i h6; exact absurd h h6
           · rename_i h6
             split at h
             · cases h
             · rename_i h7
               have e4 := atomsCode_all (show atomsCode d s.types (s.pre.map Lit.at_) 8 = 0 by simpa using h4)
               have e5 := atomsCode_all (show atomsCode d s.types s.add 8 = 0 by simpa using h5)
               have e6 := atomsCode_all (show atomsCode d s.types s.del 8 = 0 by simpa using h6)
               refine ⟨paramsCode_ok (by simpa using h1), by omega, fun p hp => ?_, by simpa using e4.1, fun x hx => e4.2 _ (List.mem_map_of_mem hx), e5.1, e5.2, e6.1, e6.2, by omega, by omega⟩
               have h3 : s.diff.any (pairBad s.types.length) = false := by simpa using h3
               have := List.any_eq_false.1 h3 p hp
               simp only [pairBad, Bool.or_eq_true, decide_eq_true_eq, not_or] at this
               omega
theorem obB_code (n : Nat) (l : List Obj) (i : Nat) : ∀ f, obBad n l i = some f → f.code ≠ 0 := by
 intro f h
 unfold obBad at h
 split at h
 · cases h
 · repeat' split at h
   all_goals cases h
   all_goals simp
theorem obF_valid {n : Nat} {l : List Obj} (h : objectsFault n l = okF) : l.length ≤ 8 ∧ ∀ o ∈ l, -1 ≤ o.type ∧ o.type < n := by
 unfold objectsFault at h
 split at h
 · cases h
 · rename_i h8
   have hs := getD_ok (scan_prop (bad := obBad n l) (fun o => ∀ f, o = some f → f.code ≠ 0) (by simp) (fun i => obB_code n l i) l.length 0) h
   refine ⟨by omega, fun o ho => ?_⟩
   obtain ⟨i, hi, e⟩ := List.getElem_of_mem ho
   have hg : l[i]? = some o := by rw [← e]; exact List.getElem?_eq_getElem hi
   have := scan_all _ _ hs i (Nat.zero_le _) (by omega)
   unfold obBad at this
   rw [hg] at this
   simp only at this
   split at this
   · cases this
   · split at this
     · cases this
     · split at this
       · cases this
       · omega
theorem doTy_of' {d : Dom} (h1 : typesFault d.types = okF) (h2 : objectsFault d.types.length d.objects = okF) : DoTy d := by
 obtain ⟨h3, h4⟩ := obF_valid h2
 exact ⟨typesFault_valid h1, h3, h4⟩
theorem tyF_code {l : List Typ} (this : (typesFault l).code = 0) : typesFault l = okF := by
 unfold typesFault at this ⊢
 split at this
 · cases this
 · rename_i h8
   rw [if_neg h8]
   have hp := scan_prop (bad := tyBad l) (fun o => ∀ f, o = some f → f.code ≠ 0) (by simp) (fun i => tyBad_code l i) l.length 0
   cases hs : scan (tyBad l) 0 l.length with
   | none => rfl
   | some f => rw [hs] at this; exact absurd this (hp f hs)
theorem obF_code {n : Nat} {l : List Obj} (this : (objectsFault n l).code = 0) : objectsFault n l = okF := by
 unfold objectsFault at this ⊢
 split at this
 · cases this
 · rename_i h8
   rw [if_neg h8]
   have hp := scan_prop (bad := obBad n l) (fun o => ∀ f, o = some f → f.code ≠ 0) (by simp) (fun i f hf => by
    unfold obBad at hf
    split at hf
    · cases hf
    · repeat' split at hf
      all_goals first
       | (cases hf; done)
       | (cases hf; simp)) l.length 0
   cases hs : scan (obBad n l) 0 l.length with
   | none => rfl
   | some f => rw [hs] at this; exact absurd this (hp f hs)
theorem nzF_code' {f g : Nat → Int} {n : Nat} {x : Flt} (h : scan (nzF f g) 0 n = some x) : x.code ≠ 0 := by
 have := scan_prop (bad := nzF f g) (fun o => ∀ y, o = some y → y.code ≠ 0) (by simp) (fun i y hy => by
  unfold nzF at hy
  split at hy
  · cases hy
  · rename_i h; cases hy; exact h) n 0
 exact this x h
structure DomV (d : Dom) : Prop where
 types : typesFault d.types = okF
 objects : objectsFault d.types.length d.objects = okF
 ty : DoTy d
 pl : d.preds.length ≤ 8
 prd : ∀ i, i < d.preds.length → prdCode d i = 0
 sl : d.schemas.length ≤ 8
 sch : ∀ i, i < d.schemas.length → schCode d i = 0
 ini : atomsCode d [] d.init 40 = 0
 dup : ∀ i, i < d.init.length → dupBad d.init i = none
 goal : atomsCode d [] (d.goal.map Lit.at_) 8 = 0
theorem nzF_none {f g : Nat → Int} {n : Nat} (h : scan (nzF f g) 0 n = none) : ∀ i, i < n → f i = 0 := fun i hi => by
 have := scan_all _ _ h i (Nat.zero_le _) (by omega)
 unfold nzF at this
 split at this
 · assumption
 · cases this
theorem startCode_ok {d : Dom} (h : startCode d = 0) : atomsCode d [] d.init 40 = 0 ∧ ∀ i, i < d.init.length → dupBad d.init i = none := by
 unfold startCode at h
 split at h
 · rename_i h1; exact absurd h h1
 · rename_i h1
   refine ⟨by simpa using h1, fun i hi => ?_⟩
   have hn : scan (dupBad d.init) 0 d.init.length = none := by
    cases hs : scan (dupBad d.init) 0 d.init.length with
    | none => rfl
    | some e =>
     rw [hs] at h
     simp only [Option.getD_some] at h
     have := scan_prop (bad := dupBad d.init) (fun o => o ≠ some 0) (by simp) (fun i => by
      unfold dupBad
      split
      · simp
      · split <;> simp) d.init.length 0
     rw [hs, h] at this
     exact absurd rfl this
   exact scan_all _ _ hn i (Nat.zero_le _) (by omega)
theorem flt_ne {c i : Int} (h : c ≠ 0) : (⟨c, i⟩ : Flt) ≠ okF := fun e => h (congrArg Flt.code e)
theorem domV_of {d : Dom} (h : domFault d = okF) : DomV d := by
 unfold domFault at h
 split at h
 · rename_i h1; exact absurd h (flt_ne fun e => h1 (tyF_code e))
 · rename_i h1
   have h1 : typesFault d.types = okF := by simpa using h1
   split at h
   · rename_i h2; exact absurd h (flt_ne fun e => h2 (obF_code e))
   · rename_i h2
     have h2 : objectsFault d.types.length d.objects = okF := by simpa using h2
     split at h
     · cases h
     · rename_i h3
       split at h
       · rename_i f hf; exact absurd (by rw [h]; rfl) (nzF_code' hf)
       · rename_i h4
         split at h
         · cases h
         · rename_i h5
           split at h
           · rename_i f hf; exact absurd (by rw [h]; rfl) (nzF_code' hf)
           · rename_i h6
             split at h
             · rename_i h7; exact absurd h (flt_ne h7)
             · rename_i h7
               split at h
               · rename_i h8; exact absurd h (flt_ne h8)
               · rename_i h8
                 obtain ⟨s1, s2⟩ := startCode_ok (by simpa using h7)
                 exact ⟨h1, h2, doTy_of' h1 h2, by omega, nzF_none h4, by omega, nzF_none h6, s1, s2, by simpa using h8⟩
structure PrdVal (d : Dom) (i : Nat) (p : Prd) : Prop where
 name : nameB p.name = true
 no : p.name ≠ notS
 new : ∀ (j : Nat) (q : Prd), j < i → d.preds[j]? = some q → q.name ≠ p.name
 types : p.types.length ≤ 3 ∧ ∀ t ∈ p.types, -1 ≤ t ∧ t < d.types.length
theorem any_take_name {α : Type} {f : α → List UInt8} {l : List α} {i : Nat} {s : List UInt8} (h : ¬ (l.take i).any (fun q => f q == s) = true) : ∀ (j : Nat) (q : α), j < i → l[j]? = some q → f q ≠ s := fun j q hj hq e => h (by
 refine List.any_eq_true.2 ⟨q, ?_, by simpa using e⟩
 have : (l.take i)[j]? = some q := by rw [List.getElem?_take, if_pos hj, hq]
 exact List.mem_of_getElem? this)
theorem prdVal_of {d : Dom} (h : DomV d) {i : Nat} {p : Prd} (hp : d.preds[i]? = some p) : PrdVal d i p := by
 have := h.prd i (get_lt hp)
 unfold prdCode at this
 rw [hp] at this
 simp only at this
 split at this
 · cases this
 · rename_i h1
   split at this
   · cases this
   · rename_i h2
     simp only [not_or, Bool.not_eq_false] at h1
     exact ⟨h1.1, h1.2, any_take_name h2, paramsCode_ok this⟩
structure SchV2 (d : Dom) (i : Nat) (s : Sch) : Prop where
 name : nameB s.name = true
 new : ∀ (j : Nat) (q : Sch), j < i → d.schemas[j]? = some q → q.name ≠ s.name
 val : SchVal d s
theorem schV2_of {d : Dom} (h : DomV d) {i : Nat} {s : Sch} (hs : d.schemas[i]? = some s) : SchV2 d i s := by
 have := h.sch i (get_lt hs)
 unfold schCode at this
 rw [hs] at this
 simp only at this
 split at this
 · cases this
 · rename_i h1
   split at this
   · cases this
   · rename_i h2
     exact ⟨by simpa using h1, any_take_name h2, schVal_of this⟩
theorem domFault_code' (d : Dom) : (domFault d).code = 0 ↔ domFault d = okF := by
 have key : ∀ c i : Int, c ≠ 0 → ((⟨c, i⟩ : Flt).code = 0 ↔ (⟨c, i⟩ : Flt) = okF) := fun c i h => ⟨fun h1 => absurd h1 h, fun h1 => absurd (congrArg Flt.code h1) h⟩
 have key2 : ∀ x : Flt, x.code ≠ 0 → (x.code = 0 ↔ x = okF) := fun x h => ⟨fun h1 => absurd h1 h, fun h1 => absurd (congrArg Flt.code h1) h⟩
 unfold domFault
 split
 · rename_i h; exact key _ _ fun h1 => h (tyF_code h1)
 · split
   · rename_i h; exact key _ _ fun h1 => h (obF_code h1)
   · split
     · exact key _ _ (by decide)
     · split
       · rename_i f hf; exact key2 _ (nzF_code' hf)
       · split
         · exact key _ _ (by decide)
         · split
           · rename_i f hf; exact key2 _ (nzF_code' hf)
           · split
             · rename_i h; exact key _ _ h
             · split
               · rename_i h; exact key _ _ h
               · simp [okF]
structure TyVal (l : List Typ) (i : Nat) (t : Typ) : Prop where
 name : nameB t.name = true
 no : t.name ≠ objectS
 new : ∀ (j : Nat) (q : Typ), j < i → l[j]? = some q → q.name ≠ t.name
 par : -1 ≤ t.parent ∧ t.parent < i
theorem tyVal_of {l : List Typ} (h : typesFault l = okF) {i : Nat} {t : Typ} (ht : l[i]? = some t) : TyVal l i t := by
 unfold typesFault at h
 split at h
 · cases h
 · have hn := getD_ok (scan_prop (bad := tyBad l) (fun o => ∀ f, o = some f → f.code ≠ 0) (by simp) (fun i => tyBad_code l i) l.length 0) h
   have := scan_all _ _ hn i (Nat.zero_le _) (by have := get_lt ht; omega)
   unfold tyBad at this
   rw [ht] at this
   simp only at this
   split at this
   · cases this
   · rename_i h1
     split at this
     · cases this
     · rename_i h2
       split at this
       · cases this
       · rename_i h3
         simp only [not_or, Bool.not_eq_false] at h1
         exact ⟨h1.1, h1.2, any_take_name h2, by omega⟩
structure ObVal (n : Nat) (l : List Obj) (i : Nat) (t : Obj) : Prop where
 name : nameB t.name = true
 new : ∀ (j : Nat) (q : Obj), j < i → l[j]? = some q → q.name ≠ t.name
 typ : -1 ≤ t.type ∧ t.type < n
theorem obVal_of {n : Nat} {l : List Obj} (h : objectsFault n l = okF) {i : Nat} {t : Obj} (ht : l[i]? = some t) : ObVal n l i t := by
 unfold objectsFault at h
 split at h
 · cases h
 · have hn := getD_ok (scan_prop (bad := obBad n l) (fun o => ∀ f, o = some f → f.code ≠ 0) (by simp) (fun i => obB_code n l i) l.length 0) h
   have := scan_all _ _ hn i (Nat.zero_le _) (by have := get_lt ht; omega)
   unfold obBad at this
   rw [ht] at this
   simp only at this
   split at this
   · cases this
   · rename_i h1
     split at this
     · cases this
     · rename_i h2
       split at this
       · cases this
       · rename_i h3
         exact ⟨by simpa using h1, any_take_name h2, by omega⟩
theorem findIdx_name {α : Type} (f : α → List UInt8) {l : List α} {i : Nat} {x : α} (hx : l[i]? = some x) (hn : ∀ (j : Nat) (q : α), j < i → l[j]? = some q → f q ≠ f x) : l.findIdx? (fun q => f q == f x) = some i := by
 rw [List.findIdx?_eq_some_iff_getElem]
 obtain ⟨h1, h2⟩ := List.getElem?_eq_some_iff.1 hx
 refine ⟨h1, by rw [h2]; simp, fun j hj => ?_⟩
 have := hn j l[j] hj (List.getElem?_eq_getElem (by omega))
 simpa using this
theorem allO_map {α β : Type} {f : α → Option β} {g : β → α} : ∀ {l : List β}, (∀ x ∈ l, f (g x) = some x) → allO f (l.map g) = some l
 | [], _ => rfl
 | x :: r, h => by
  simp only [List.map_cons, allO]
  rw [h x (by simp), allO_map fun y hy => h y (by simp [hy])]
theorem valD_snoc (s : List UInt8) (c : UInt8) : valD (s ++ [c]) = 10 * valD s + (c.toNat - 48) := by
 unfold valD
 rw [List.foldl_append]
 rfl
theorem dig_byte {n : Nat} (h : n < 10) : (UInt8.ofNat (48 + n)).toNat = 48 + n := by
 rw [UInt8.toNat_ofNat']
 omega
theorem digF_ok : ∀ (f n : Nat), n < f → valD (digF f n) = n ∧ (digF f n).all digB = true ∧ digF f n ≠ []
 | 0, n, h => by omega
 | f + 1, n, h => by
  simp only [digF]
  split
  · rename_i h1
    refine ⟨?_, ?_, by simp⟩
    · unfold valD
      simp only [List.foldl_cons, List.foldl_nil, dig_byte h1]
      omega
    · simp only [List.all_cons, List.all_nil, Bool.and_true, digB, dig_byte h1]
      simp
      omega
  · rename_i h1
    obtain ⟨i1, i2, i3⟩ := digF_ok f (n / 10) (by omega)
    have hb := dig_byte (n := n % 10) (by omega)
    refine ⟨?_, ?_, by simp⟩
    · rw [valD_snoc, i1, hb]; omega
    · rw [List.all_append, i2]
      simp only [List.all_cons, List.all_nil, Bool.and_true, Bool.true_and, digB, hb]
      simp
      omega
theorem dig_ok (n : Nat) : valD (dig n) = n ∧ (dig n).all digB = true ∧ dig n ≠ [] := digF_ok _ _ (by omega)
theorem numO_dig {n : Nat} (h : n ≤ 1000000) : numO (dig n) = some (n : Int) := by
 obtain ⟨h1, h2, h3⟩ := dig_ok n
 unfold numO
 rw [h1, if_pos ⟨h3, h2, rfl, h⟩]
theorem digF_len : ∀ (f n k : Nat), n < 10 ^ k → 0 < k → (digF f n).length ≤ k
 | 0, _, _, _, _ => by simp [digF]
 | f + 1, n, k, h, hk => by
  simp only [digF]
  split
  · simp; omega
  · rename_i h1
    obtain ⟨m, rfl⟩ : ∃ m, k = m + 1 := ⟨k - 1, by omega⟩
    have hm : 0 < m := by
     rcases Nat.eq_zero_or_pos m with rfl | h2
     · simp at h; omega
     · exact h2
    have := digF_len f (n / 10) m (by rw [Nat.pow_succ] at h; omega) hm
    rw [List.length_append, List.length_singleton]
    omega
theorem digB_sym {c : UInt8} (h : digB c = true) : symB c = true := by
 unfold digB at h
 simp only [Bool.and_eq_true, decide_eq_true_eq] at h
 unfold symB
 simp only [Bool.or_eq_true, Bool.and_eq_true, decide_eq_true_eq]
 exact .inl (.inr h)
theorem dig_symbol {n : Nat} (h : n < 10 ^ 11) : symbolB (dig n) = true ∧ symbolB (63 :: dig n) = true := by
 obtain ⟨h1, h2, h3⟩ := dig_ok n
 have hl := digF_len (n + 1) n 11 h (by omega)
 have hl : (dig n).length ≤ 11 := hl
 have h0 : 1 ≤ (dig n).length := by
  cases hd : dig n with
  | nil => exact absurd hd h3
  | cons c r => simp
 have ha : (dig n).all symB = true := List.all_eq_true.2 fun c hc => digB_sym (List.all_eq_true.1 h2 c hc)
 constructor
 · unfold symbolB
   rw [ha, decide_eq_true (by omega), decide_eq_true (by omega)]; rfl
 · unfold symbolB
   rw [List.all_cons, ha, decide_eq_true (by simp), decide_eq_true (by simp; omega)]
   decide
theorem nameAt_sym {i : Nat} {c : UInt8} (h : nameAt i c = true) : symB c = true := by
 unfold nameAt at h
 unfold symB others
 simp only [Bool.or_eq_true, Bool.and_eq_true, decide_eq_true_eq] at h ⊢
 rcases h with h | ⟨_, h | h⟩
 · exact .inl (.inl (.inl h))
 · exact .inl (.inr h)
 · refine .inr ?_
   have : c = 45 := UInt8.toNat_inj.1 (by simpa using h)
   subst this
   simp
theorem namesFrom_all : ∀ (s : List UInt8) (i : Nat), namesFrom i s = true → s.all symB = true
 | [], _, _ => rfl
 | c :: r, i, h => by
  simp only [namesFrom, Bool.and_eq_true] at h
  rw [List.all_cons, nameAt_sym h.1, namesFrom_all r (i + 1) h.2]; rfl
theorem name_symbol {s : List UInt8} (h : nameB s = true) : symbolB s = true := by
 unfold nameB at h
 simp only [Bool.and_eq_true, decide_eq_true_eq] at h
 unfold symbolB
 rw [namesFrom_all s 0 h.1.1, decide_eq_true h.1.2, decide_eq_true h.2]; rfl
theorem name_head {s : List UInt8} (h : nameB s = true) : ∃ c r, s = c :: r ∧ c ≠ 63 := by
 unfold nameB at h
 simp only [Bool.and_eq_true, decide_eq_true_eq] at h
 cases s with
 | nil => simp at h
 | cons c r =>
  refine ⟨c, r, rfl, ?_⟩
  rintro rfl
  have := h.1.1
  simp only [namesFrom, Bool.and_eq_true] at this
  exact absurd this.1 (by decide)
theorem typO_pre {d : Dom} (hd : DomV d) {k : Nat} (hk : k ≤ d.types.length) {t : Int} (h0 : -1 ≤ t) (h1 : t < k) : typO (d.types.take k) (nmT d t) = some t := by
 unfold nmT typeNm
 by_cases hn : t < 0
 · rw [if_pos hn]
   have : (d.types.take k).findIdx? (fun t => t.name == objectS) = none := by
    rw [List.findIdx?_eq_none_iff]
    intro x hx
    obtain ⟨i, hi⟩ := List.getElem?_of_mem (List.mem_of_mem_take hx)
    simpa using (tyVal_of hd.types hi).no
   simp only [typO, this, if_true]
   congr 1
   omega
 · rw [if_neg hn]
   obtain ⟨x, hx⟩ := get_some (l := d.types) (k := t.toNat) (by omega)
   rw [hx]
   have hv := tyVal_of hd.types hx
   have hx2 : (d.types.take k)[t.toNat]? = some x := by rw [List.getElem?_take, if_pos (by omega), hx]
   have := findIdx_name Typ.name hx2 (fun j q hj hq => hv.new j q hj (by
    rw [List.getElem?_take] at hq
    split at hq
    · exact hq
    · cases hq))
   simp only [typO, this]
   congr 1
   omega
theorem typO_all {d : Dom} (hd : DomV d) {t : Int} (h0 : -1 ≤ t) (h1 : t < d.types.length) : typO d.types (nmT d t) = some t := by
 have := typO_pre hd (Nat.le_refl d.types.length) h0 h1
 rwa [List.take_length] at this
theorem typesO_ok {d : Dom} (hd : DomV d) : ∀ (n k : Nat), k + n = d.types.length → typesO (d.types.take k) ((d.types.drop k).map (tyT d)) = some d.types
 | 0, k, h => by
  rw [List.drop_of_length_le (by omega), List.take_of_length_le (by omega)]
  rfl
 | n + 1, k, h => by
  obtain ⟨x, hx⟩ := get_some (l := d.types) (k := k) (by omega)
  have hv := tyVal_of hd.types hx
  have e : d.types.drop k = x :: d.types.drop (k + 1) := by
   rw [List.drop_eq_getElem_cons (by omega)]
   congr 1
   have := List.getElem?_eq_some_iff.1 hx
   exact this.2
  rw [e]
  have ht := typO_pre hd (k := k) (by omega) hv.par.1 hv.par.2
  simp only [List.map_cons, typesO, tyT, pairO]
  unfold nmT at ht
  rw [ht]
  simp only
  have : d.types.take k ++ [(⟨x.name, x.parent⟩ : Typ)] = d.types.take (k + 1) := (take_succ_get hx).symm
  rw [this]
  exact typesO_ok hd n (k + 1) (by omega)
theorem objO_ok {d : Dom} (hd : DomV d) : allO (objO d.types) (d.objects.map (obT d)) = some d.objects := allO_map fun o ho => by
 obtain ⟨i, hi⟩ := List.getElem?_of_mem ho
 have hv := obVal_of hd.objects hi
 have := typO_all hd hv.typ.1 hv.typ.2
 unfold nmT at this
 simp only [objO, obT, pairO, this, Option.map_some]
theorem prdO_ok {d : Dom} (hd : DomV d) : allO (prdO d.types) (d.preds.map (prT d)) = some d.preds := allO_map fun p hp => by
 obtain ⟨i, hi⟩ := List.getElem?_of_mem hp
 have hv := prdVal_of hd hi
 have := allO_map (f := typO d.types) (g := nmT d) (l := p.types) fun t ht => typO_all hd (hv.types.2 t ht).1 (hv.types.2 t ht).2
 simp only [prdO, prT, secT, this, Option.map_some]
theorem rd_obj {d : Dom} (hd : DomV d) {e : Dom} (he : e.objects = d.objects) {ps : List Int} (hp : ps.length ≤ 100) {x : Int} (h : -(ps.length : Int) ≤ x ∧ x < d.objects.length) : argO e (argT d x) = some x := by
 unfold argT argS
 by_cases hn : x < 0
 · rw [if_pos hn]
   simp only [argO, if_true]
   rw [numO_dig (by omega)]
   simp only [Option.map_some, Option.some.injEq]
   omega
 · rw [if_neg hn]
   obtain ⟨o, ho⟩ := get_some (l := d.objects) (k := x.toNat) (by omega)
   have hv := obVal_of hd.objects ho
   obtain ⟨c, r, e1, e2⟩ := name_head hv.name
   have hi := findIdx_name Obj.name ho hv.new
   unfold objNm
   rw [ho]
   simp only
   rw [e1] at hi ⊢
   simp only [argO, if_neg e2, he, hi, Option.map_some]
   exact congrArg some (show ((x.toNat : Nat) : Int) = x by omega)
theorem rd_atom {d : Dom} (hd : DomV d) {e : Dom} (he : e.objects = d.objects) (hp : e.preds = d.preds) {ps : List Int} (hl : ps.length ≤ 100) {a : At} (h : atomCode d ps a = 0) : atO e (atT d a) = some a := by
 obtain ⟨⟨h0, h1⟩, p, hpr, _, _⟩ := atom_args h
 have hv := prdVal_of hd hpr
 have hi := findIdx_name Prd.name hpr hv.new
 have ha := allO_map (f := argO e) (g := argT d) (l := a.args) fun x hx => rd_obj hd he hl (atom_rng h x hx)
 unfold atT prdNm secT
 rw [hpr]
 simp only [atO, hp, hi, ha, Option.map_some, Option.some.injEq]
 cases a
 simp only at h0 ⊢
 congr 1
 omega
theorem notAt {d : Dom} (hd : DomV d) {ps : List Int} {a : At} (h : atomCode d ps a = 0) : isNot (atT d a) = none := by
 obtain ⟨⟨h0, h1⟩, p, hpr, _, _⟩ := atom_args h
 have hv := prdVal_of hd hpr
 unfold atT prdNm secT
 rw [hpr]
 simp only
 cases hm : a.args.map (argT d) with
 | nil => rfl
 | cons u r =>
  cases r with
  | nil => simp only [isNot]; rw [if_neg hv.no]
  | cons v w => rfl
theorem rd_lit {d : Dom} (hd : DomV d) {e : Dom} (he : e.objects = d.objects) (hp : e.preds = d.preds) {ps : List Int} (hl : ps.length ≤ 100) {x : Lit} (h : atomCode d ps x.at_ = 0) : litO e (litT d x) = some x := by
 have ha := rd_atom hd he hp hl h
 unfold litT litO
 cases x with
 | mk n a =>
  cases n with
  | true =>
   rw [if_pos rfl]
   simp only [secT, isNot, if_true, ha, Option.map_some]
  | false =>
   rw [if_neg (by simp), notAt hd h]
   simp only [ha, Option.map_some]
theorem rd_diff {p : Int × Int} (h0 : 0 ≤ p.1 ∧ p.1 ≤ 1000000) (h1 : 0 ≤ p.2 ∧ p.2 ≤ 1000000) : diffO (pairT p) = some p := by
 simp only [diffO, pairT, pairO, nbrO]
 rw [numO_dig (by omega), numO_dig (by omega)]
 cases p
 simp only at h0 h1 ⊢
 congr 2 <;> omega
theorem rd_sec {name : List UInt8} {l : List Tr} : secO name (secT name l) = some l := by simp [secO, secT]
theorem rd_sch {d : Dom} (hd : DomV d) {e : Dom} (ht : e.types = d.types) (he : e.objects = d.objects) (hp : e.preds = d.preds) {s : Sch} (hs : s ∈ d.schemas) : schO e (schT d s) = some s := by
 obtain ⟨i, hi⟩ := List.getElem?_of_mem hs
 have hv := (schV2_of hd hi).val
 have hl : s.types.length ≤ 100 := by have := hv.types.1; omega
 have h1 := allO_map (f := typO d.types) (g := nmT d) (l := s.types) fun t h => typO_all hd (hv.types.2 t h).1 (hv.types.2 t h).2
 have h2 := allO_map (f := diffO) (g := pairT) (l := s.diff) fun p h => rd_diff (by have := hv.diff p h; have := hv.types.1; omega) (by have := hv.diff p h; have := hv.types.1; omega)
 have h3 := allO_map (f := litO e) (g := litT d) (l := s.pre) fun x h => rd_lit hd he hp hl (hv.pre x h)
 have h4 := allO_map (f := atO e) (g := atT d) (l := s.add) fun x h => rd_atom hd he hp hl (hv.add x h)
 have h5 := allO_map (f := atO e) (g := atT d) (l := s.del) fun x h => rd_atom hd he hp hl (hv.del x h)
 have h6 := numO_dig (n := s.cost.toNat) (by have := hv.c1; omega)
 have hc : ((s.cost.toNat : Nat) : Int) = s.cost := by have := hv.c0; omega
 simp only [schT, secT, schO, if_true, ht, h1]
 simp only [secO, if_true, Option.bind_some, h2, h3, h4, h5, h6, hc]
theorem domO_ok {d : Dom} (hd : DomV d) : domO (domT d) = some d := by
 have h1 := typesO_ok hd d.types.length 0 (by omega)
 rw [List.take_zero, List.drop_zero] at h1
 have h2 := objO_ok hd
 have h3 := prdO_ok hd
 obtain ⟨i1, i2⟩ := atomsCode_all hd.ini
 obtain ⟨g1, g2⟩ := atomsCode_all hd.goal
 have h4 : ∀ e : Dom, e.types = d.types → e.objects = d.objects → e.preds = d.preds → allO (schO e) (d.schemas.map (schT d)) = some d.schemas := fun e a b c => allO_map fun s hs => rd_sch hd a b c hs
 have h5 : ∀ e : Dom, e.objects = d.objects → e.preds = d.preds → allO (atO e) (d.init.map (atT d)) = some d.init := fun e b c => allO_map fun a ha => rd_atom hd b c (ps := []) (by simp) (i2 a ha)
 have h6 : ∀ e : Dom, e.objects = d.objects → e.preds = d.preds → allO (litO e) (d.goal.map (litT d)) = some d.goal := fun e b c => allO_map fun x hx => rd_lit hd b c (ps := []) (by simp) (g2 _ (List.mem_map_of_mem hx))
 unfold domO domT
 rw [rd_sec]
 simp only
 generalize hS : d.schemas.map (schT d) = S at *
 have hlen : ([secT sTypes (d.types.map (tyT d)), secT sObjects (d.objects.map (obT d)), secT sPredicates (d.preds.map (prT d))] ++ S ++ [secT sInit (d.init.map (atT d)), secT sGoal (d.goal.map (litT d))]).length = S.length + 5 := by
  simp only [List.length_append, List.length_cons, List.length_nil]; omega
 rw [hlen, if_neg (by omega)]
 have a0 : ∀ (a b c x y : Tr), ([a, b, c] ++ S ++ [x, y])[0]? = some a := fun _ _ _ _ _ => rfl
 have a1 : ∀ (a b c x y : Tr), ([a, b, c] ++ S ++ [x, y])[1]? = some b := fun _ _ _ _ _ => rfl
 have a2 : ∀ (a b c x y : Tr), ([a, b, c] ++ S ++ [x, y])[2]? = some c := fun _ _ _ _ _ => rfl
 have a3 : ∀ (a b c x y : Tr), ([a, b, c] ++ S ++ [x, y])[S.length + 5 - 2]? = some x := fun a b c x y => by
  rw [List.getElem?_append_right (by simp)]
  simp only [List.length_append, List.length_cons, List.length_nil]
  rw [show S.length + 5 - 2 - (0 + 1 + 1 + 1 + S.length) = 0 by omega]; rfl
 have a4 : ∀ (a b c x y : Tr), ([a, b, c] ++ S ++ [x, y])[S.length + 5 - 1]? = some y := fun a b c x y => by
  rw [List.getElem?_append_right (by simp)]
  simp only [List.length_append, List.length_cons, List.length_nil]
  rw [show S.length + 5 - 1 - (0 + 1 + 1 + 1 + S.length) = 1 by omega]; rfl
 have a5 : ∀ (a b c x y : Tr), (([a, b, c] ++ S ++ [x, y]).take (S.length + 5 - 2)).drop 3 = S := fun a b c x y => by
  rw [List.take_append_of_le_length (by simp), List.take_of_length_le (by simp)]
  rfl
 rw [a0, a1, a2, a3, a4, a5]
 simp only [Option.bind_some, rd_sec, h1, h2, h3]
 rw [h4 ⟨d.types, d.objects, d.preds, [], [], []⟩ rfl rfl rfl, h5 ⟨d.types, d.objects, d.preds, [], [], []⟩ rfl rfl, h6 ⟨d.types, d.objects, d.preds, [], [], []⟩ rfl rfl]
theorem tokL_map {α : Type} {g : α → Tr} : ∀ {l : List α}, (∀ x ∈ l, tok (g x) = true) → tokL (l.map g) = true
 | [], _ => rfl
 | x :: r, h => by
  simp only [List.map_cons, tokL]
  rw [h x (by simp), tokL_map fun y hy => h y (by simp [hy])]; rfl
theorem tokL_append : ∀ l m : List Tr, tokL (l ++ m) = (tokL l && tokL m)
 | [], m => by simp [tokL]
 | t :: r, m => by simp only [List.cons_append, tokL, tokL_append r m, Bool.and_assoc]
theorem tdpL_le {n : Nat} : ∀ {l : List Tr}, (∀ t ∈ l, tdp t ≤ n) → tdpL l ≤ n
 | [], _ => by simp [tdpL]
 | t :: r, h => by
  simp only [tdpL]
  have h1 := h t (by simp)
  have h2 := tdpL_le (l := r) fun y hy => h y (by simp [hy])
  omega
theorem tok_sec {name : List UInt8} {l : List Tr} (hn : symbolB name = true) (h : tokL l = true) : tok (secT name l) = true := by
 simp only [secT, tok, tokL, hn, h]; rfl
theorem tdp_sec {name : List UInt8} {l : List Tr} {n : Nat} (h : tdpL l ≤ n) (hn : 1 ≤ n) : tdp (secT name l) ≤ n + 1 := by
 simp only [secT, tdp, tdpL]; omega
theorem tdpL_map {α : Type} {g : α → Tr} {n : Nat} {l : List α} (h : ∀ x, tdp (g x) ≤ n) : tdpL (l.map g) ≤ n := tdpL_le fun t ht => by
 obtain ⟨x, _, rfl⟩ := List.mem_map.1 ht
 exact h x
theorem tdp_sym (s : List UInt8) : tdp (.sym s) = 1 := rfl
theorem tdp_at (d : Dom) (a : At) : tdp (atT d a) ≤ 2 := tdp_sec (tdpL_map fun x => by simp [argT, tdp_sym]) (by omega)
theorem tdp_lit (d : Dom) (x : Lit) : tdp (litT d x) ≤ 3 := by
 unfold litT
 split
 · refine tdp_sec ?_ (by omega)
   have := tdp_at d x.at_
   simp only [tdpL]; omega
 · have := tdp_at d x.at_; omega
theorem tdp_sch (d : Dom) (s : Sch) : tdp (schT d s) ≤ 5 := by
 have h1 : tdp (.lst (s.types.map (nmT d))) ≤ 2 := by
  have := tdpL_map (g := nmT d) (n := 1) (l := s.types) fun x => by simp [nmT, tdp_sym]
  simp only [tdp]; omega
 have h2 : tdp (secT sDifferent (s.diff.map pairT)) ≤ 3 := tdp_sec (tdpL_map fun p => by simp [pairT, tdp, tdpL]) (by omega)
 have h3 : tdp (secT sPre (s.pre.map (litT d))) ≤ 4 := tdp_sec (tdpL_map (tdp_lit d)) (by omega)
 have h4 : tdp (secT sAdd (s.add.map (atT d))) ≤ 3 := tdp_sec (tdpL_map (tdp_at d)) (by omega)
 have h5 : tdp (secT sDel (s.del.map (atT d))) ≤ 3 := tdp_sec (tdpL_map (tdp_at d)) (by omega)
 refine tdp_sec ?_ (by omega)
 simp only [tdpL, tdp_sym]
 omega
theorem domT_dp (d : Dom) : tdp (domT d) ≤ 12 := by
 have h1 : tdp (secT sTypes (d.types.map (tyT d))) ≤ 3 := tdp_sec (tdpL_map fun p => by simp [tyT, tdp, tdpL]) (by omega)
 have h2 : tdp (secT sObjects (d.objects.map (obT d))) ≤ 3 := tdp_sec (tdpL_map fun p => by simp [obT, tdp, tdpL]) (by omega)
 have h3 : tdp (secT sPredicates (d.preds.map (prT d))) ≤ 3 := tdp_sec (tdpL_map fun p => tdp_sec (tdpL_map fun x => by simp [nmT, tdp_sym]) (by omega)) (by omega)
 have h4 : tdp (secT sInit (d.init.map (atT d))) ≤ 3 := tdp_sec (tdpL_map (tdp_at d)) (by omega)
 have h5 : tdp (secT sGoal (d.goal.map (litT d))) ≤ 4 := tdp_sec (tdpL_map (tdp_lit d)) (by omega)
 refine Nat.le_trans (tdp_sec (n := 5) (tdpL_le fun t ht => ?_) (by omega)) (by omega)
 simp only [List.mem_append, List.mem_cons, List.not_mem_nil, or_false, List.mem_map] at ht
 rcases ht with ((rfl | rfl | rfl) | ⟨s, _, rfl⟩) | (rfl | rfl)
 · omega
 · omega
 · omega
 · exact tdp_sch d s
 · omega
 · omega
theorem typeNm_sym {d : Dom} (hd : DomV d) {t : Int} (h : t < d.types.length) : symbolB (typeNm d t) = true := by
 unfold typeNm
 split
 · decide
 · obtain ⟨x, hx⟩ := get_some (l := d.types) (k := t.toNat) (by omega)
   rw [hx]
   exact name_symbol (tyVal_of hd.types hx).name
theorem argS_sym {d : Dom} (hd : DomV d) {ps : List Int} (hl : ps.length ≤ 100) {x : Int} (h : -(ps.length : Int) ≤ x ∧ x < d.objects.length) : symbolB (argS d x) = true := by
 unfold argS
 split
 · exact (dig_symbol (Nat.lt_of_lt_of_le (show (-1 - x).toNat < 100 by omega) (by decide))).2
 · obtain ⟨o, ho⟩ := get_some (l := d.objects) (k := x.toNat) (by omega)
   unfold objNm
   rw [ho]
   exact name_symbol (obVal_of hd.objects ho).name
theorem at_tok {d : Dom} (hd : DomV d) {ps : List Int} (hl : ps.length ≤ 100) {a : At} (h : atomCode d ps a = 0) : tok (atT d a) = true := by
 obtain ⟨⟨h0, h1⟩, p, hpr, _, _⟩ := atom_args h
 refine tok_sec ?_ (tokL_map fun x hx => argS_sym hd hl (atom_rng h x hx))
 unfold prdNm
 rw [hpr]
 exact name_symbol (prdVal_of hd hpr).name
theorem lit_tok {d : Dom} (hd : DomV d) {ps : List Int} (hl : ps.length ≤ 100) {x : Lit} (h : atomCode d ps x.at_ = 0) : tok (litT d x) = true := by
 unfold litT
 split
 · refine tok_sec (by decide) ?_
   simp only [tokL, at_tok hd hl h]; rfl
 · exact at_tok hd hl h
theorem sch_tok {d : Dom} (hd : DomV d) {s : Sch} (hs : s ∈ d.schemas) : tok (schT d s) = true := by
 obtain ⟨i, hi⟩ := List.getElem?_of_mem hs
 have hv2 := schV2_of hd hi
 have hv := hv2.val
 have hl : s.types.length ≤ 100 := by have := hv.types.1; omega
 have h1 : tokL (s.types.map (nmT d)) = true := tokL_map fun t ht => typeNm_sym hd (hv.types.2 t ht).2
 have h2 : tok (secT sDifferent (s.diff.map pairT)) = true := tok_sec (by decide) (tokL_map fun p hp => by
  have := hv.diff p hp
  have := hv.types.1
  simp only [pairT, tok, tokL]
  rw [(dig_symbol (Nat.lt_of_lt_of_le (show p.1.toNat < 100 by omega) (by decide))).1, (dig_symbol (Nat.lt_of_lt_of_le (show p.2.toNat < 100 by omega) (by decide))).1]; rfl)
 have h3 : tok (secT sPre (s.pre.map (litT d))) = true := tok_sec (by decide) (tokL_map fun x hx => lit_tok hd hl (hv.pre x hx))
 have h4 : tok (secT sAdd (s.add.map (atT d))) = true := tok_sec (by decide) (tokL_map fun x hx => at_tok hd hl (hv.add x hx))
 have h5 : tok (secT sDel (s.del.map (atT d))) = true := tok_sec (by decide) (tokL_map fun x hx => at_tok hd hl (hv.del x hx))
 have h6 := (dig_symbol (n := s.cost.toNat) (Nat.lt_of_lt_of_le (show s.cost.toNat < 1000 by have := hv.c1; omega) (by decide))).1
 refine tok_sec (by decide) ?_
 simp only [tokL, tok, name_symbol hv2.name, h1, h6, Bool.and_true, Bool.true_and]
 rw [h2, h3, h4, h5]; rfl
theorem domT_tok {d : Dom} (hd : DomV d) : tok (domT d) = true := by
 obtain ⟨i1, i2⟩ := atomsCode_all hd.ini
 obtain ⟨g1, g2⟩ := atomsCode_all hd.goal
 have h1 : tok (secT sTypes (d.types.map (tyT d))) = true := tok_sec (by decide) (tokL_map fun t ht => by
  obtain ⟨i, hi⟩ := List.getElem?_of_mem ht
  have hv := tyVal_of hd.types hi
  simp only [tyT, tok, tokL, name_symbol hv.name, typeNm_sym hd (t := t.parent) (by have := get_lt hi; have := hv.par; omega)]; rfl)
 have h2 : tok (secT sObjects (d.objects.map (obT d))) = true := tok_sec (by decide) (tokL_map fun t ht => by
  obtain ⟨i, hi⟩ := List.getElem?_of_mem ht
  have hv := obVal_of hd.objects hi
  simp only [obT, tok, tokL, name_symbol hv.name, typeNm_sym hd (t := t.type) hv.typ.2]; rfl)
 have h3 : tok (secT sPredicates (d.preds.map (prT d))) = true := tok_sec (by decide) (tokL_map fun t ht => by
  obtain ⟨i, hi⟩ := List.getElem?_of_mem ht
  have hv := prdVal_of hd hi
  exact tok_sec (name_symbol hv.name) (tokL_map fun x hx => typeNm_sym hd (hv.types.2 x hx).2))
 have h4 : tok (secT sInit (d.init.map (atT d))) = true := tok_sec (by decide) (tokL_map fun a ha => at_tok hd (ps := []) (by simp) (i2 a ha))
 have h5 : tok (secT sGoal (d.goal.map (litT d))) = true := tok_sec (by decide) (tokL_map fun x hx => lit_tok hd (ps := []) (by simp) (g2 _ (List.mem_map_of_mem hx)))
 refine tok_sec (by decide) ?_
 rw [tokL_append, tokL_append, tokL_map fun s hs => sch_tok hd hs]
 simp only [tokL, h1, h2, h3, h4, h5]; rfl
def spT (l : List Tr) : List UInt8 := l.flatMap fun t => 32 :: ttx t
theorem joinF_cons (a : List UInt8) : ∀ l : List (List UInt8), joinF (a :: l) = a ++ l.flatMap fun t => 32 :: t
 | [] => by simp [joinF]
 | b :: r => by
  rw [joinF, joinF_cons b r]
  simp
theorem ttx_sec (name : List UInt8) (l : List Tr) : ttx (secT name l) = 40 :: (name ++ (spT l ++ [41])) := by
 simp only [secT, ttx, ttxL, joinF_cons, ttxL_map, List.flatMap_map, spT, List.append_assoc]
theorem sp_nil : spT [] = [] := rfl
theorem sp_append (l m : List Tr) : spT (l ++ m) = spT l ++ spT m := by simp [spT, List.flatMap_append]
theorem sp_one (t : Tr) : spT [t] = 32 :: ttx t := by simp [spT]
theorem sp_cons (t : Tr) (l : List Tr) : spT (t :: l) = 32 :: (ttx t ++ spT l) := by simp [spT]
theorem sp_take {α : Type} {g : α → Tr} {l : List α} {k : Nat} {x : α} (h : l[k]? = some x) : spT ((l.take (k + 1)).map g) = spT ((l.take k).map g) ++ 32 :: ttx (g x) := by
 rw [take_succ_get h, List.map_append, sp_append]
 simp [spT]
theorem ttx_lst (l : List Tr) : ttx (.lst l) = 40 :: ((spT l).drop 1 ++ [41]) := by
 cases l with
 | nil => rfl
 | cons t r => simp only [ttx, ttxL, joinF_cons, ttxL_map, List.flatMap_map, spT, List.flatMap_cons, List.cons_append, List.drop_succ_cons, List.drop_zero, List.append_assoc]
def cntN : Bool → List UInt8 → Nat
 | _, [] => 0
 | p, c :: r => (if c = 40 ∨ (symB c = true ∧ p = false) then 1 else 0) + cntN (symB c) r
theorem cnt_word : ∀ (s : List UInt8) (rest : List UInt8), s.all symB = true → cntN true (s ++ rest) = cntN true rest
 | [], _, _ => rfl
 | c :: r, rest, h => by
  simp only [List.all_cons, Bool.and_eq_true] at h
  simp only [List.cons_append, cntN]
  rw [if_neg (by
   rintro (rfl | h2)
   · exact absurd h.1 (by decide)
   · exact absurd h2.2 (by simp)), h.1, Nat.zero_add]
  exact cnt_word r rest h.2
theorem symbolB_allT {s : List UInt8} (h : symbolB s = true) : s.all symB = true ∧ s ≠ [] := by
 refine ⟨?_, symbolB_ne h⟩
 unfold symbolB at h
 simp only [Bool.and_eq_true] at h
 exact h.1
theorem cnt_sym {s : List UInt8} (h : symbolB s = true) (rest : List UInt8) : cntN false (s ++ rest) = 1 + cntN true rest := by
 obtain ⟨h1, h2⟩ := symbolB_allT h
 cases s with
 | nil => exact absurd rfl h2
 | cons c r =>
  simp only [List.all_cons, Bool.and_eq_true] at h1
  simp only [List.cons_append, cntN]
  rw [if_pos (.inr ⟨h1.1, trivial⟩), h1.1, cnt_word r rest h1.2]
def Sep (rest : List UInt8) : Prop := rest = [] ∨ ∃ c r, rest = c :: r ∧ symB c = false ∧ c ≠ 40
theorem cnt_sep {rest : List UInt8} (h : Sep rest) : cntN true rest = cntN false rest := by
 rcases h with rfl | ⟨c, r, rfl, h1, h2⟩
 · rfl
 · simp only [cntN]
   rw [if_neg (by rintro (e | ⟨e, _⟩); exact h2 e; rw [h1] at e; cases e), if_neg (by rintro (e | ⟨e, _⟩); exact h2 e; rw [h1] at e; cases e)]
theorem cnt_close (r : List UInt8) : cntN false (41 :: r) = cntN false r := by
 simp only [cntN]
 rw [if_neg (by decide), show symB 41 = false by decide, Nat.zero_add]
theorem cnt_blank (r : List UInt8) : cntN false (32 :: r) = cntN false r := by
 simp only [cntN]
 rw [if_neg (by decide), show symB 32 = false by decide, Nat.zero_add]
theorem cnt_open (r : List UInt8) : cntN false (40 :: r) = 1 + cntN false r := by
 simp only [cntN]
 rw [if_pos (.inl trivial), show symB 40 = false by decide]
theorem sep_close (r : List UInt8) : Sep (41 :: r) := .inr ⟨41, r, rfl, by decide, by decide⟩
theorem sep_blank (r : List UInt8) : Sep (32 :: r) := .inr ⟨32, r, rfl, by decide, by decide⟩
mutual
theorem cnt_tr : ∀ (t : Tr) (rest : List UInt8), tok t = true → Sep rest → cntN false (ttx t ++ rest) = tsz t + cntN false rest
 | .sym s, rest, ht, hs => by
  simp only [ttx, tsz]
  rw [cnt_sym (by simpa [tok] using ht), cnt_sep hs]
 | .lst l, rest, ht, hs => by
  simp only [ttx, tsz, List.cons_append, List.append_assoc, List.nil_append]
  rw [cnt_open]
  have := cnt_trL l (41 :: rest) (by simpa [tok] using ht) (sep_close rest)
  rw [this, cnt_close]
  omega
theorem cnt_trL : ∀ (l : List Tr) (rest : List UInt8), tokL l = true → Sep rest → cntN false (joinF (ttxL l) ++ rest) = tszL l + cntN false rest
 | [], rest, _, _ => by simp [ttxL, joinF, tszL]
 | [t], rest, ht, hs => by
  simp only [ttxL, joinF, tszL, Nat.add_zero]
  simp only [tokL, Bool.and_eq_true] at ht
  exact cnt_tr t rest ht.1 hs
 | t :: u :: r, rest, ht, hs => by
  have h2 := cnt_trL (u :: r) rest (by simp only [tokL, Bool.and_eq_true] at ht ⊢; exact ht.2) hs
  simp only [tokL, Bool.and_eq_true] at ht
  have h1 := cnt_tr t (32 :: (joinF (ttxL (u :: r)) ++ rest)) ht.1 (sep_blank _)
  rw [cnt_blank, h2] at h1
  simp only [ttxL, joinF, List.append_assoc, List.cons_append, tszL] at h1 ⊢
  rw [h1]
  omega
end
theorem cnt_text {t : Tr} (h : tok t = true) : cntN false (ttx t) = tsz t := by
 have := cnt_tr t [] h (.inl rfl)
 rw [List.append_nil] at this
 rw [this]; rfl
theorem sw {p q : Prop} (x : q) (h : q → p := by first | exact c_seq | exact c_cut0 | exact c_ops | exact i_nil | exact e_seq | exact e_block | exact c_block | exact c_skip | exact c_ret | exact c_exit | exact e_exit rfl | exact c_leaf | fail) : p := h x
theorem sp {p q r : Prop} (x : q) (z : r) (h : q → r → p := by first | exact c_node | exact i_g rfl | exact c_cond rfl | fail) : p := h x z
abbrev qm (d t : Nat) : GItem := .op (some d) none (.mov (.t t))
abbrev qc (d : Nat) (n : Int) : GItem := .op (some d) none (.mov (.c (.int .i64 n)))
abbrev qb (d : Nat) (b : Bool) : GItem := .op (some d) none (.mov (.c (.bool b)))
abbrev qq (d : Nat) (o : AOp) : GItem := .op (some d) none o
abbrev qg (d s : Nat) (b : Bool) (o : AOp) : GItem := .op (some d) (some (s, b)) o
abbrev ql (d n t : Nat) : GItem := .op (some d) none (.load false n (.t t))
abbrev qL (d n t : Nat) : GItem := .op (some d) none (.load true n (.t t))
abbrev qf (d n t : Nat) : GItem := .op (some d) none (.faddr n (.t t))
abbrev qi (d n x y : Nat) : GItem := .op (some d) none (.iaddr n (.t x) (.t y))
abbrev qn (d t : Nat) : GItem := .op (some d) none (.len false (.t t))
abbrev qx (d n m t : Nat) : GItem := .op (some d) none (.box n m (.t t))
abbrev qu (d : Nat) (o : BinOp) (l : List LT) (x y : Nat) : GItem := .op (some d) none (.bin o false l (.t x) (.t y))
abbrev qv (d : Nat) (o : BinOp) (l : List LT) (x : Nat) (n : Int) : GItem := .op (some d) none (.bin o false l (.t x) (.c (.int .i64 n)))
abbrev qk (d f : Nat) (l : List Nat) : GItem := .op (some d) none (.call .f (.c (.fn f [])) (l.map .t))
abbrev qs (n x y : Nat) : GItem := .op none none (.store n (.t x) (.t y))
abbrev qS (l : List GItem) (c : Cmd) : Cmd := .seq (.ops l) (.cut c)
abbrev qT (a c : Cmd) : Cmd := .seq a (.cut c)
theorem ft {pn : List Nat} {E : List (Nat × V)} {S : List (Nat × Blk)} {ρ : Env} {σ : Store} (h : Fits pn E S ρ σ := by first | exact ⟨by repeat (first | exact trivial | refine ⟨rfl, ?_⟩), by repeat (first | exact trivial | refine ⟨rfl, ?_⟩), rfl⟩ | fail) : Fits pn E S ρ σ := h
section
variable {G : Type} {P : Program} {H : HT G} {pn : List Nat} {Q : Exit → Env → Store → G → Prop} {fs : List (Frm G)} {ρ : Env} {σ : Store} {g : G} {r : List GItem} {dst : Option Nat}
variable {d : Nat}
theorem ja {k : IntKind} {m n : Int} {st : Bool} {et : List LT} {x y : Opd} (hx : ev ρ x = .int k m) (hy : ev ρ y = .int k n) (h : WI P H pn Q fs r (upd ρ d (.int k (m + n))) σ g) (hr : InR k (m + n) := by first | (simp only [InR, List.length_map]; omega) | fail) :
  WI P H pn Q fs (.op (some d) none (.bin .add st et x y) :: r) ρ σ g := i_add hx hy hr h
theorem jb {k : IntKind} {m n : Int} {st : Bool} {et : List LT} {x y : Opd} (hx : ev ρ x = .int k m) (hy : ev ρ y = .int k n) (h : WI P H pn Q fs r (upd ρ d (.int k (m - n))) σ g) (hr : InR k (m - n) := by first | (simp only [InR, List.length_map]; omega) | fail) :
  WI P H pn Q fs (.op (some d) none (.bin .sub st et x y) :: r) ρ σ g := i_sub hx hy hr h
theorem jc {k k' : IntKind} {n : Int} {x : Opd} (hx : ev ρ x = .int k' n) (h : WI P H pn Q fs r (upd ρ d (.int k n)) σ g) (hr : InR k n := by first | (simp only [InR, List.length_map]; omega) | fail) : WI P H pn Q fs (.op (some d) none (.conv k x) :: r) ρ σ g := i_conv hx hr h
theorem jd {α : Type} {f : α → V} {l : List α} {size : Nat} {t : Tag} {kk : IntKind} {n : Int} {c : α} {x i : Opd} (hx : ev ρ x = .sl t (l.map f)) (hi : ev ρ i = .int kk n)
  (h : WI P H pn Q fs r (upd ρ d (.cptr t (f c) 0)) σ g) (h0 : 0 ≤ n := by first | omega | fail) (hr : l[n.toNat]? = some c := by first | assumption | fail) (hw : Nat.beq size (f c).cells.length = true := by first | exact rfl | fail) : WI P H pn Q fs (.op (some d) none (.iaddr size x i) :: r) ρ σ g :=
 i_iai hx hi h0 hr hw h
theorem jf {s : List UInt8} {kk : IntKind} {k : Nat} {c : UInt8} {x i : Opd} (hx : ev ρ x = .str s) (hi : ev ρ i = .int kk (k : Int)) (h : WI P H pn Q fs r (upd ρ d (.int .u8 c.toNat)) σ g) (hc : s[k]? = some c := by first | assumption | fail) :
  WI P H pn Q fs (.op (some d) none (.index x i) :: r) ρ σ g := i_ixm hx hi hc h
theorem jh {α : Type} {f : α → V} {l : List α} {size : Nat} {t : Tag} {k2 : IntKind} {k : Nat} {x hi : Opd} (hx : ev ρ x = .sl t (l.map f)) (hhi : ev ρ hi = .int k2 (k : Int)) (h : WI P H pn Q fs r (upd ρ d (.sl t ((l.take k).map f))) σ g) (h2 : k ≤ l.length := by first | omega | fail) :
  WI P H pn Q fs (.op (some d) none (.slice false size x none (some hi)) :: r) ρ σ g := i_tk hx hhi h2 h
theorem sf {f : Opd} {args : List Opd} {fid : Nat} {as as' : List V} {v : V} (hf : calv ρ f args = some (fid, as)) (ha : as.map (er σ 6) = as') (hc : Fc P fid as' v) (h : WI P H pn Q fs r (put ρ dst v) σ g) (hp : (flatB v || pureL as) = true := by first | exact rfl | fail)
  : WI P H pn Q fs (.op dst none (.call .f f args) :: r) ρ σ g := i_f hf ha hc hp h
end
theorem i_cs {G : Type} {P : Program} {H : HT G} {pn : List Nat} {Q : Exit → Env → Store → G → Prop} {fs : List (Frm G)} {r : List GItem} {ρ : Env} {σ : Store} {g : G} {dst : Option Nat} {f : Opd} {args : List Opd} {fid : Nat} {av : List V} {ns : List Nat} {L : List (Nat × Blk)}
  (hf : calv ρ f args = some (fid, av)) (hcl : closedL ns av = true) (hcs : closedSt ns σ ns = true) (hL : ns.map (fun nm => (nm, σ nm)) = L) {K : V → Store → G → Prop} (hc : Cc P H fid av ns (stOf L) g K)
  (h : ∀ v σ' g', K v σ' g' → WI P H pn Q fs r (put ρ dst v) (Hm.merge ns σ σ') g') : WI P H pn Q fs (.op dst none (.call (.s ns) f args) :: r) ρ σ g :=
 i_c hf hcl hcs (by rw [restr_stOf, hL]; exact hc) h
def signI (a b : Int) : Int := if a < b then -1 else if a > b then 1 else 0
def cmpL : List Int → List Int → Int
 | [], [] => 0
 | [], _ :: _ => -1
 | _ :: _, [] => 1
 | a :: r, b :: s => if a = b then cmpL r s else signI a b
def atomOrd (a b : At) : Int := if a.pred = b.pred then cmpL a.args b.args else signI a.pred b.pred
theorem signI_zero {a b : Int} : signI a b = 0 ↔ a = b := by
 unfold signI
 split
 · simp; omega
 · split
   · simp; omega
   · simp; omega
theorem cmpL_zero : ∀ {a b : List Int}, cmpL a b = 0 ↔ a = b
 | [], [] => by simp [cmpL]
 | [], _ :: _ => by simp [cmpL]
 | _ :: _, [] => by simp [cmpL]
 | a :: r, b :: s => by
  simp only [cmpL]
  split
  · rename_i h; subst h; rw [cmpL_zero]; simp
  · rename_i h; rw [signI_zero]; simp [h]
theorem atomOrd_zero {a b : At} : atomOrd a b = 0 ↔ a = b := by
 unfold atomOrd
 split
 · rename_i h
   rw [cmpL_zero]
   cases a; cases b
   simp only at h
   simp [h]
 · rename_i h
   rw [signI_zero]
   constructor
   · exact fun e => absurd e h
   · rintro rfl; exact absurd rfl h
theorem cmpL_take : ∀ (k : Nat) (a b : List Int), a.take k = b.take k → k ≤ a.length → k ≤ b.length → cmpL a b = cmpL (a.drop k) (b.drop k)
 | 0, a, b, _, _, _ => by simp
 | k + 1, [], b, _, h, _ => by simp at h
 | k + 1, a :: r, [], _, _, h => by simp at h
 | k + 1, a :: r, b :: s, h, h1, h2 => by
  simp only [List.take_succ_cons, List.cons.injEq] at h
  obtain ⟨rfl, h⟩ := h
  simp only [cmpL, if_true, List.drop_succ_cons]
  exact cmpL_take k r s h (by simpa using h1) (by simpa using h2)
theorem cmpL_at {k : Nat} {a b : List Int} {x y : Int} (h : a.take k = b.take k) (hx : a[k]? = some x) (hy : b[k]? = some y) (hne : x ≠ y) : cmpL a b = signI x y := by
 have h1 := get_lt hx
 have h2 := get_lt hy
 rw [cmpL_take k a b h (by omega) (by omega), List.drop_eq_getElem_cons h1, List.drop_eq_getElem_cons h2]
 rw [List.getElem?_eq_getElem h1, Option.some.injEq] at hx
 rw [List.getElem?_eq_getElem h2, Option.some.injEq] at hy
 rw [hx, hy]
 simp only [cmpL]
 rw [if_neg hne]
theorem cmpL_end {k : Nat} {a b : List Int} (h : a.take k = b.take k) (h1 : k ≤ a.length) (h2 : k ≤ b.length) (he : k = a.length ∨ k = b.length) : cmpL a b = signI a.length b.length := by
 rw [cmpL_take k a b h h1 h2]
 unfold signI
 rcases he with e | e
 · rw [List.drop_of_length_le (by omega)]
   by_cases hb : k = b.length
   · rw [List.drop_of_length_le (by omega), if_neg (by omega), if_neg (by omega)]; rfl
   · rw [List.drop_eq_getElem_cons (by omega : k < b.length), if_pos (by omega)]; rfl
 · rw [List.drop_of_length_le (by omega : b.length ≤ k)]
   by_cases ha : k = a.length
   · rw [List.drop_of_length_le (by omega), if_neg (by omega), if_neg (by omega)]; rfl
   · rw [List.drop_eq_getElem_cons (by omega : k < a.length), if_neg (by omega), if_pos (by omega)]; rfl
def blankB (c : UInt8) : Bool := decide (c ∈ ([32, 9, 10] : List UInt8))
def sk (s : List UInt8) : List UInt8 := s.dropWhile blankB
structure PR where
 rest : List UInt8
 new : List Sx
 ch : List Int
 code : Int
def prs : Nat → Bool → Nat → List UInt8 → Nat → List Int → PR
 | 0, _, _, s, _, _ => ⟨s, [], [], 1⟩
 | f + 1, true, d, s, b, _ => match sk s with
   | [] => ⟨[], [], [], 1⟩
   | c :: r => if c ≠ 40 ∧ symB c = false then ⟨c :: r, [], [], 1⟩ else if d = 12 then ⟨c :: r, [], [], 10⟩ else if c ≠ 40 then
       (if ((c :: r).takeWhile symB).length > 12 then ⟨c :: r, [], [], 1⟩ else ⟨(c :: r).dropWhile symB, [⟨(c :: r).takeWhile symB, []⟩], [], 0⟩)
     else if (prs f false d r b []).code ≠ 0 then ⟨(prs f false d r b []).rest, (prs f false d r b []).new, [], (prs f false d r b []).code⟩
     else ⟨(prs f false d r b []).rest, (prs f false d r b []).new ++ [⟨[], (prs f false d r b []).ch⟩], [], 0⟩
 | f + 1, false, d, s, b, acc => if (sk s).head? = some 41 then ⟨(sk s).tail, [], acc, 0⟩
   else if (prs f true (d + 1) (sk s) b []).code ≠ 0 then ⟨(prs f true (d + 1) (sk s) b []).rest, (prs f true (d + 1) (sk s) b []).new, [], (prs f true (d + 1) (sk s) b []).code⟩
   else ⟨(prs f false d (prs f true (d + 1) (sk s) b []).rest (b + (prs f true (d + 1) (sk s) b []).new.length) (acc ++ [((b + (prs f true (d + 1) (sk s) b []).new.length : Nat) : Int) - 1])).rest,
    (prs f true (d + 1) (sk s) b []).new ++ (prs f false d (prs f true (d + 1) (sk s) b []).rest (b + (prs f true (d + 1) (sk s) b []).new.length) (acc ++ [((b + (prs f true (d + 1) (sk s) b []).new.length : Nat) : Int) - 1])).new,
    (prs f false d (prs f true (d + 1) (sk s) b []).rest (b + (prs f true (d + 1) (sk s) b []).new.length) (acc ++ [((b + (prs f true (d + 1) (sk s) b []).new.length : Nat) : Int) - 1])).ch,
    (prs f false d (prs f true (d + 1) (sk s) b []).rest (b + (prs f true (d + 1) (sk s) b []).new.length) (acc ++ [((b + (prs f true (d + 1) (sk s) b []).new.length : Nat) : Int) - 1])).code⟩
theorem sk_suf (s : List UInt8) : sk s <:+ s := List.dropWhile_suffix _
theorem sk_head {s : List UInt8} {c : UInt8} {r : List UInt8} (h : sk s = c :: r) : blankB c = false := by
 unfold sk at h
 have := List.head?_dropWhile_not blankB s
 rw [h] at this
 simpa using this
theorem sk_cons {c : UInt8} {r : List UInt8} (h : blankB c = true) : sk (c :: r) = sk r := by unfold sk; rw [List.dropWhile_cons_of_pos h]
theorem sk_stop {c : UInt8} {r : List UInt8} (h : blankB c = false) : sk (c :: r) = c :: r := by unfold sk; rw [List.dropWhile_cons_of_neg (by simp [h])]
theorem sk_idem (s : List UInt8) : sk (sk s) = sk s := by
 cases h : sk s with
 | nil => rfl
 | cons c r => exact sk_stop (sk_head h)
theorem tw_pos {c : UInt8} {r : List UInt8} (h : symB c = true) : ((c :: r).dropWhile symB).length < (c :: r).length ∧ 0 < ((c :: r).takeWhile symB).length := by
 rw [List.dropWhile_cons_of_pos h, List.takeWhile_cons_of_pos h]
 have := (List.dropWhile_suffix symB (l := r)).length_le
 simp; omega
theorem prs_facts : ∀ (f : Nat) (m : Bool) (d : Nat) (s : List UInt8) (b : Nat) (acc : List Int), (prs f m d s b acc).rest <:+ s ∧ (prs f m d s b acc).new.length + (prs f m d s b acc).rest.length ≤ s.length ∧ (prs f m d s b acc).ch.length + (prs f m d s b acc).rest.length ≤ acc.length + s.length ∧
  ((prs f m d s b acc).code = 0 → (prs f m d s b acc).rest.length < s.length ∧ (m = true → 0 < (prs f m d s b acc).new.length))
 | 0, m, d, s, b, acc => by
  simp only [prs]
  exact ⟨List.suffix_refl s, by simp, by simp, fun h => by cases h⟩
 | f + 1, true, d, s, b, acc => by
  have hs := sk_suf s
  have hsl := hs.length_le
  simp only [prs]
  split
  · exact ⟨List.nil_suffix, by simp, by simp, fun h => by cases h⟩
  · rename_i c r hc
    rw [hc] at hs hsl
    simp only [List.length_cons] at hsl
    split
    · exact ⟨hs, by simp; omega, by simp; omega, fun h => by cases h⟩
    · rename_i h1
      split
      · exact ⟨hs, by simp; omega, by simp; omega, fun h => by cases h⟩
      · split
        · rename_i h40
          have hsym : symB c = true := by
           cases h : symB c with
           | true => rfl
           | false => exact absurd ⟨h40, h⟩ h1
          obtain ⟨q1, q2⟩ := tw_pos (r := r) hsym
          split
          · exact ⟨hs, by simp; omega, by simp; omega, fun h => by cases h⟩
          · refine ⟨(List.dropWhile_suffix _).trans hs, ?_, ?_, fun _ => ⟨?_, fun _ => by simp⟩⟩
            · simp only [List.length_cons, List.length_nil] at q1 ⊢; omega
            · simp only [List.length_cons, List.length_nil] at q1 ⊢; omega
            · simp only [List.length_cons] at q1 ⊢; omega
        · obtain ⟨i1, i2, i3, i4⟩ := prs_facts f false d r b []
          have hr : r <:+ s := (List.suffix_cons c r).trans hs
          split
          · exact ⟨i1.trans hr, by simp only; omega, by simp; omega, fun h => by simp only at h; contradiction⟩
          · rename_i h5
            have := (i4 (by simpa using h5)).1
            refine ⟨i1.trans hr, by simp; omega, by simp; omega, fun _ => ⟨by simp only; omega, fun _ => by simp⟩⟩
 | f + 1, false, d, s, b, acc => by
  have hs := sk_suf s
  have hsl := hs.length_le
  simp only [prs]
  split
  · rename_i h1
    cases hc : sk s with
    | nil => rw [hc] at h1; cases h1
    | cons c r =>
     rw [hc] at hs hsl
     simp only [List.length_cons] at hsl
     exact ⟨(List.suffix_cons c r).trans hs, by simp; omega, by simp; omega, fun _ => ⟨by simp; omega, fun h => by cases h⟩⟩
  · obtain ⟨i1, i2, i3, i4⟩ := prs_facts f true (d + 1) (sk s) b []
    generalize prs f true (d + 1) (sk s) b [] = q at *
    split
    · exact ⟨i1.trans hs, by simp; omega, by simp; omega, fun h => by simp only at h; contradiction⟩
    · rename_i h5
      have h6 := i4 (by simpa using h5)
      obtain ⟨j1, j2, j3, j4⟩ := prs_facts f false d q.rest (b + q.new.length) (acc ++ [((b + q.new.length : Nat) : Int) - 1])
      generalize prs f false d q.rest (b + q.new.length) (acc ++ [((b + q.new.length : Nat) : Int) - 1]) = q2 at *
      simp only [List.length_append, List.length_singleton] at j3
      refine ⟨(j1.trans i1).trans hs, by simp; omega, by simp only; omega, fun h => ⟨by have := (j4 h).1; simp only; omega, fun h => by cases h⟩⟩
theorem prs_fuel : ∀ (f g : Nat) (m : Bool) (d : Nat) (s : List UInt8) (b : Nat) (acc : List Int), 2 * s.length + (if m then 1 else 2) ≤ f → 2 * s.length + (if m then 1 else 2) ≤ g → prs f m d s b acc = prs g m d s b acc
 | 0, g, m, d, s, b, acc, h, _ => by cases m <;> simp at h <;> omega
 | f + 1, 0, m, d, s, b, acc, _, h => by cases m <;> simp at h <;> omega
 | f + 1, g + 1, true, d, s, b, acc, h1, h2 => by
  have hsl := (sk_suf s).length_le
  simp only [if_true] at h1 h2
  simp only [prs]
  split
  · rfl
  · rename_i c r hc
    rw [hc] at hsl
    simp only [List.length_cons] at hsl
    rw [prs_fuel f g false d r b [] (by simp; omega) (by simp; omega)]
 | f + 1, g + 1, false, d, s, b, acc, h1, h2 => by
  have hsl := (sk_suf s).length_le
  simp only [Bool.false_eq_true, if_false] at h1 h2
  simp only [prs]
  split
  · rfl
  · rw [prs_fuel f g true (d + 1) (sk s) b [] (by simp; omega) (by simp; omega)]
    obtain ⟨i1, i2, i3, i4⟩ := prs_facts g true (d + 1) (sk s) b []
    generalize prs g true (d + 1) (sk s) b [] = q at *
    split
    · rfl
    · rename_i h5
      have h6 := (i4 (by simpa using h5)).1
      rw [prs_fuel f g false d q.rest _ _ (by simp; omega) (by simp; omega)]
theorem suf_get {s t : List UInt8} {c : UInt8} {r : List UInt8} (h : s <:+ t) (e : s = c :: r) : t[((t.length : Int) - s.length).toNat]? = some c := by
 obtain ⟨p, rfl⟩ := h
 subst e
 rw [show (((p ++ c :: r).length : Int) - (c :: r).length).toNat = p.length from by simp]
 rw [List.getElem?_append_right (Nat.le_refl _)]
 simp
inductive Rd : Bool → Nat → List UInt8 → Nat → List Int → List UInt8 → List Sx → List Int → Prop
 | sym {d s b acc w r} (h : sk s = w ++ r) (h0 : w ≠ []) (ha : ∀ c ∈ w, symB c = true) (hl : w.length ≤ 12) (hr : ∀ c z, r = c :: z → symB c = false) (hd : d < 12) : Rd true d s b acc r [⟨w, []⟩] []
 | lst {d s b acc r r' new ch} (h : sk s = 40 :: r) (hd : d < 12) (hi : Rd false d r b [] r' new ch) : Rd true d s b acc r' (new ++ [⟨[], ch⟩]) []
 | close {d s b acc r} (h : sk s = 41 :: r) : Rd false d s b acc r [] acc
 | next {d s b acc r1 n1 r2 n2 ch} (h : (sk s).head? ≠ some 41) (hi : Rd true (d + 1) (sk s) b [] r1 n1 []) (hj : Rd false d r1 (b + n1.length) (acc ++ [((b + n1.length : Nat) : Int) - 1]) r2 n2 ch) : Rd false d s b acc r2 (n1 ++ n2) ch
theorem symB_40 {c : UInt8} (h : symB c = true) : c ≠ 40 := by rintro rfl; exact absurd h (by decide)
theorem symB_41 {c : UInt8} (h : symB c = true) : c ≠ 41 := by rintro rfl; exact absurd h (by decide)
theorem symB_blank {c : UInt8} (h : symB c = true) : blankB c = false := by
 cases hb : blankB c with
 | false => rfl
 | true =>
  exfalso
  simp only [blankB, decide_eq_true_eq, List.mem_cons, List.not_mem_nil, or_false] at hb
  rcases hb with rfl | rfl | rfl <;> exact absurd h (by decide)
theorem tw_all (p : UInt8 → Bool) (l : List UInt8) : ∀ c ∈ l.takeWhile p, p c = true := by
 induction l with
 | nil => intro c hc; simp at hc
 | cons a l ih =>
  intro c hc
  by_cases h : p a = true
  · rw [List.takeWhile_cons_of_pos h] at hc
    rcases List.mem_cons.1 hc with rfl | hc
    · exact h
    · exact ih c hc
  · rw [List.takeWhile_cons_of_neg h] at hc
    simp at hc
theorem tw_app (p : UInt8 → Bool) : ∀ (w r : List UInt8), (∀ c ∈ w, p c = true) → (∀ c z, r = c :: z → p c = false) → (w ++ r).takeWhile p = w ∧ (w ++ r).dropWhile p = r
 | [], r, _, h => by
  cases r with
  | nil => simp
  | cons c z =>
   have := h c z rfl
   simp [this]
 | a :: w, r, ha, h => by
  have h1 := ha a (by simp)
  obtain ⟨i1, i2⟩ := tw_app p w r (fun c hc => ha c (by simp [hc])) h
  simp only [List.cons_append]
  rw [List.takeWhile_cons_of_pos h1, List.dropWhile_cons_of_pos h1, i1, i2]
  exact ⟨rfl, rfl⟩
theorem dw_head (p : UInt8 → Bool) (l : List UInt8) : ∀ c z, l.dropWhile p = c :: z → p c = false := by
 intro c z h
 have := List.head?_dropWhile_not p l
 rw [h] at this
 simpa using this
theorem rd_ch {m d s b acc r n ch} (h : Rd m d s b acc r n ch) : m = true → ch = [] := by
 cases h <;> simp
theorem rd_of : ∀ (f : Nat) (m : Bool) (d : Nat) (s : List UInt8) (b : Nat) (acc : List Int), (if m = true then d ≤ 12 else d < 12) → (prs f m d s b acc).code = 0 → Rd m d s b acc (prs f m d s b acc).rest (prs f m d s b acc).new (prs f m d s b acc).ch
 | 0, m, d, s, b, acc, _, h => by simp [prs] at h
 | f + 1, true, d, s, b, acc, hd, h => by
  simp only [if_true] at hd
  simp only [prs] at h ⊢
  cases hc : sk s with
  | nil => rw [hc] at h; cases h
  | cons c r =>
   rw [hc] at h
   simp only at h ⊢
   split at h
   · cases h
   · rename_i h1
     rw [if_neg h1]
     split at h
     · cases h
     · rename_i h2
       rw [if_neg h2]
       split at h
       · rename_i h40
         rw [if_pos h40]
         split at h
         · cases h
         · rename_i h4
           rw [if_neg h4]
           have hsym : symB c = true := by
            cases h : symB c with
            | true => rfl
            | false => exact absurd ⟨h40, h⟩ h1
           refine .sym (by rw [hc]; exact List.takeWhile_append_dropWhile.symm) ?_ (tw_all _ _) (by omega) (dw_head _ _) (by omega)
           rw [List.takeWhile_cons_of_pos hsym]
           simp
       · rename_i h40
         have h40 : c = 40 := by simpa using h40
         subst h40
         rw [if_neg (by simp)]
         split at h
         · rename_i h5; exact absurd h h5
         · rename_i h5
           rw [if_neg h5]
           exact .lst hc (by omega) (rd_of f false d r b [] (by simp; omega) (by simpa using h5))
 | f + 1, false, d, s, b, acc, hd, h => by
  simp only [Bool.false_eq_true, if_false] at hd
  simp only [prs] at h ⊢
  split at h
  · rename_i h1
    rw [if_pos h1]
    cases hc : sk s with
    | nil => rw [hc] at h1; cases h1
    | cons c r =>
     rw [hc] at h1
     simp only [List.head?_cons, Option.some.injEq] at h1
     subst h1
     exact .close hc
  · rename_i h1
    rw [if_neg h1]
    split at h
    · rename_i h5; exact absurd h h5
    · rename_i h5
      rw [if_neg h5]
      have hn := rd_of f true (d + 1) (sk s) b [] (by simp; omega) (by simpa using h5)
      have hch : (prs f true (d + 1) (sk s) b []).ch = [] := rd_ch hn rfl
      rw [hch] at hn
      exact .next h1 hn (rd_of f false d _ _ _ (by simp; omega) h)
theorem rd_len {m d s b acc r n ch} (h : Rd m d s b acc r n ch) : r.length < s.length := by
 induction h with
 | @sym d s b acc w r h h0 _ _ _ _ =>
  have := (sk_suf s).length_le
  have := List.length_pos_iff.2 h0
  rw [h] at *
  simp only [List.length_append] at *
  omega
 | @lst d s b acc r r' new ch h _ _ ih =>
  have := (sk_suf s).length_le
  rw [h] at this
  simp only [List.length_cons] at this
  omega
 | @close d s b acc r h =>
  have := (sk_suf s).length_le
  rw [h] at this
  simp only [List.length_cons] at this
  omega
 | @next d s b acc r1 n1 r2 n2 ch h _ _ i1 i2 =>
  have := (sk_suf s).length_le
  omega
theorem rd_to {m d s b acc r n ch} (h : Rd m d s b acc r n ch) : ∀ f, 2 * s.length + (if m then 1 else 2) ≤ f → prs f m d s b acc = ⟨r, n, ch, 0⟩ := by
 induction h with
 | @sym d s b acc w r h h0 ha hl hr hd =>
  intro f hf
  match f, hf with
  | f + 1, _ =>
   match w, h0, ha, hl, h with
   | c :: w, _, ha, hl, h =>
    obtain ⟨t1, t2⟩ := tw_app symB (c :: w) r ha hr
    have hc := ha c (by simp)
    simp only [List.cons_append] at t1 t2 h
    simp only [prs, h]
    rw [if_neg (by simp [hc]), if_neg (by omega), if_pos (symB_40 hc), t1, t2, if_neg (by omega)]
 | @lst d s b acc r r' new ch h hd hi ih =>
  intro f hf
  have := (sk_suf s).length_le
  rw [h] at this
  simp only [List.length_cons, if_true] at this hf
  match f, hf with
  | f + 1, hf =>
   simp only [prs, h]
   rw [if_neg (by simp), if_neg (by omega), if_neg (by simp), ih f (by simp; omega)]
   simp
 | @close d s b acc r h =>
  intro f hf
  match f, hf with
  | f + 1, hf =>
   simp only [prs, h]
   simp
 | @next d s b acc r1 n1 r2 n2 ch h hi hj i1 i2 =>
  intro f hf
  have := (sk_suf s).length_le
  have := rd_len hi
  simp only [Bool.false_eq_true, if_false] at hf
  match f, hf with
  | f + 1, hf =>
   simp only [prs]
   rw [if_neg h, i1 f (by simp; omega)]
   simp only
   rw [if_neg (by simp), i2 f (by simp; omega)]
end Hm
end
