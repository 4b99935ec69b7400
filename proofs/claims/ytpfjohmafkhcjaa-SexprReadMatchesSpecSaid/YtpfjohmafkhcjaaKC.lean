/- Part KC of the proof. -/
import Derived.Test.YtpfjohmafkhcjaaKB
set_option linter.unusedVariables false
set_option linter.unusedSimpArgs false
section
namespace Hm
open Go
inductive Frm (G : Type) where
  | seq (b : Cmd)
  | block (id : Nat)
  | loop (N : Env → Store → G → Prop)
def kont {G : Type} (P : Program) (H : HT G) (pn : List Nat) (Q : Exit → Env → Store → G → Prop) : List (Frm G) → Exit → Env → Store → G → Prop
  | [] => Q
  | .seq b :: fs => fun e ρ σ g => match e with
    | .normal => AW P H pn b ρ σ g (kont P H pn Q fs)
    | e => kont P H pn Q fs e ρ σ g
  | .block id :: fs => fun e ρ σ g => match e with
    | .exit id' => bif Nat.beq id' id then kont P H pn Q fs .normal ρ σ g else kont P H pn Q fs (.exit id') ρ σ g
    | e => kont P H pn Q fs e ρ σ g
  | .loop N :: fs => fun e ρ σ g => match e with
    | .normal => N ρ σ g
    | e => kont P H pn Q fs e ρ σ g
structure WC {G : Type} (P : Program) (H : HT G) (pn : List Nat) (Q : Exit → Env → Store → G → Prop) (fs : List (Frm G)) (c : Cmd) (ρ : Env) (σ : Store) (g : G) : Prop where
  out : AW P H pn c ρ σ g (kont P H pn Q fs)
structure WE {G : Type} (P : Program) (H : HT G) (pn : List Nat) (Q : Exit → Env → Store → G → Prop) (fs : List (Frm G)) (e : Exit) (ρ : Env) (σ : Store) (g : G) : Prop where
  out : kont P H pn Q fs e ρ σ g
structure WI {G : Type} (P : Program) (H : HT G) (pn : List Nat) (Q : Exit → Env → Store → G → Prop) (fs : List (Frm G)) (l : List GItem) (ρ : Env) (σ : Store) (g : G) : Prop where
  out : AWits P H l ρ σ g (kont P H pn Q fs .normal)
def fz : V → Option V
  | .any => some .any
  | .bool b => some (.bool b)
  | .int k n => some (.int k n)
  | .str s => some (.str s)
  | .agg l => some (.agg l)
  | .tup l => some (.tup l)
  | .sl t rows => some (.sl t rows)
  | .msl nm gen i len => some (.msl nm gen i len)
  | .ptr nm gen i j => some (.ptr nm gen i j)
  | .bptr nm j => some (.bptr nm j)
  | .cptr t row j => some (.cptr t row j)
  | .nilptr => some .nilptr
  | .fn f caps => some (.fn f caps)
  | .nilfn => some .nilfn
  | .rnd => some .rnd
  | .raw b j => some (.raw b j)
  | .tag b l => some (.tag b l)
  | .ifc b => some (.ifc b)
  | .rsl b n c => some (.rsl b n c)
theorem fz_eq {v u : V} (h : fz v = some u) : u = v := by cases v <;> cases h <;> rfl
def fzL : List V → Option (List V)
  | [] => some []
  | v :: r => match fz v, fzL r with
    | some v', some r' => some (v' :: r')
    | _, _ => none
theorem fzL_eq : ∀ {l m : List V}, fzL l = some m → m = l
  | [], _, h => by cases h; rfl
  | v :: r, m, h => by
    simp only [fzL] at h
    split at h
    · rename_i v' r' h1 h2
      cases h
      rw [fz_eq h1, fzL_eq h2]
    · cases h
def fzA : Option V → Option V
  | some (.agg l) => match fzL l with
    | some l' => some (.agg l')
    | none => none
  | some v => fz v
  | none => none
theorem fzA_eq {o : Option V} {u : V} (h : fzA o = some u) : o = some u := by
  unfold fzA at h
  split at h
  · split at h
    · rename_i h1
      cases h
      rw [fzL_eq h1]
    · cases h
  · rw [fz_eq h]
  · cases h
def binv (op : BinOp) (st : Bool) (et : List LT) (x y : V) : Option V :=
  match op, x, y with
  | .lss, .int k a, .int k' b => bif kEq k k' then some (.bool (decide (a < b))) else none
  | .leq, .int k a, .int k' b => bif kEq k k' then some (.bool (decide (a ≤ b))) else none
  | .gtr, .int k a, .int k' b => bif kEq k k' then some (.bool (decide (a > b))) else none
  | .geq, .int k a, .int k' b => bif kEq k k' then some (.bool (decide (a ≥ b))) else none
  | .eql, x, y => match eqv st et x y with
    | some b => some (.bool b)
    | none => none
  | .neq, x, y => match eqv st et x y with
    | some b => some (.bool (!b))
    | none => none
  | _, _, _ => none
def sop (ρ : Env) (σ : Store) : AOp → Option V
  | .mov x => fz (ev ρ x)
  | .pick c a b => match ev ρ c with
    | .bool true => fz (ev ρ a)
    | .bool false => fz (ev ρ b)
    | _ => none
  | .bin op st et x y => binv op st et (ev ρ x) (ev ρ y)
  | .not x => match ev ρ x with
    | .bool t => some (.bool (!t))
    | _ => none
  | .len s x => match s, ev ρ x with
    | false, .sl _ rows => some (.int .i64 rows.length)
    | false, .msl nm gen _ n => match σ nm with
      | .arr gen' _ => bif Nat.beq gen gen' then some (.int .i64 n) else none
      | _ => none
    | true, .str s => some (.int .i64 s.length)
    | _, _ => none
  | .build zero parts => match partsOf ρ zero parts with
    | some l => match fzL l with
      | some l' => some (.agg l')
      | none => none
    | none => none
  | .bsl size xs => match fzL (xs.map (ev ρ)) with
    | some l => bif l.all (fun v => pureB v && rowB v && Nat.beq v.cells.length size) then some (.sl .p l) else none
    | none => none
  | .load agg size a => match ev ρ a with
    | .bptr nm j => match σ nm with
      | .box row => fzA (ldrow agg size j row)
      | _ => none
    | .cptr _ row j => fzA (ldrow agg size j row)
    | _ => none
  | .faddr off x => match ev ρ x with
    | .bptr nm j => match σ nm with
      | .box _ => some (.bptr nm (j + off))
      | _ => none
    | .ptr nm gen i j => match σ nm with
      | .arr gen' _ => bif Nat.beq gen gen' then some (.ptr nm gen i (j + off)) else none
      | _ => none
    | .cptr t row j => some (.cptr t row (j + off))
    | .raw b j => some (.raw b (j + off))
    | _ => none
  | .field agg size off x => match ev ρ x with
    | .agg l => fzA (ldrow agg size off (.agg l))
    | _ => none
  | .extract x i => match ev ρ x with
    | .tup l => fzA l[i]?
    | _ => none
  | .cut0 x => match ev ρ x with
    | .sl _ _ => some (.sl .nil [])
    | _ => none
  | .mkfn f caps => match fzL (caps.map (ev ρ)) with
    | some l => some (.fn f l)
    | none => none
  | .nilck x => match ev ρ x with
    | .bptr nm j => match σ nm with
      | .box _ => some (.bptr nm j)
      | _ => none
    | .cptr t row j => some (.cptr t row j)
    | .raw b j => some (.raw b j)
    | .fn f caps => some (.fn f caps)
    | .rnd => some .rnd
    | _ => none
  | _ => none
def bsto (ρ : Env) (σ : Store) (size : Nat) (a x : Opd) : Option (Nat × V) := match ev ρ a with
  | .bptr nm j => match σ nm with
    | .box row => match fzA (strow size j row (ev ρ x)) with
      | some r => some (nm, r)
      | none => none
    | _ => none
  | _ => none
def boxv (ρ : Env) (size : Nat) (x : Opd) : Option V := match fz (ev ρ x) with
  | some v => bif rowB v && Nat.beq size v.cells.length then some v else none
  | none => none
structure Fc (P : Program) (f : Nat) (args : List V) (r : V) : Prop where
  out : Fn P f args r
structure Cc {G : Type} (P : Program) (H : HT G) (f : Nat) (args : List V) (pn : List Nat) (σ : Store) (g : G) (K : V → Store → G → Prop) : Prop where
  out : CT P H f args pn σ g K
def calv (ρ : Env) (f : Opd) (args : List Opd) : Option (Nat × List V) := match ev ρ f with
  | .fn fid caps => match fzL (args.map (ev ρ)) with
    | some as => some (fid, as ++ caps)
    | none => none
  | _ => none
section
variable {G : Type} {P : Program} {H : HT G} {pn : List Nat} {Q : Exit → Env → Store → G → Prop} {fs : List (Frm G)} {ρ : Env} {σ : Store} {g : G} {r : List GItem} {d : Nat} {dst : Option Nat} {a b : Cmd} {v : V} {o : AOp}
theorem c_seq (h : WC P H pn Q (.seq b :: fs) a ρ σ g) : WC P H pn Q fs (.seq a b) ρ σ g := ⟨by
  have := h.out
  simp only [AW]
  refine cast (congrArg (AW P H pn a ρ σ g) ?_) this
  funext e ρ' σ' g'
  cases e <;> rfl⟩
theorem c_skip (h : WE P H pn Q fs .normal ρ σ g) : WC P H pn Q fs .skip ρ σ g := ⟨h.out⟩
theorem c_ops {l : List GItem} (h : WI P H pn Q fs l ρ σ g) : WC P H pn Q fs (.ops l) ρ σ g := ⟨h.out⟩
theorem c_leaf {l : List GItem} {r : List Nat} (h : WI P H pn Q fs (pickAll l r) ρ σ g) : WC P H pn Q fs (.opsT (.leaf r) l) ρ σ g := ⟨h.out⟩
theorem c_node {l : List GItem} {i j : Nat} {x y : OT} (h : WC P H pn Q fs (.opsT x l) ρ σ g) (k : WC P H pn Q fs (.opsT y l) ρ σ g) : WC P H pn Q fs (.opsT (.node i j x y) l) ρ σ g := ⟨⟨h.out, k.out⟩⟩
theorem c_cond {x : Opd} {t : Bool} (hx : ev ρ x = .bool t) (h1 : t = true → WC P H pn Q fs a ρ σ g) (h2 : t = false → WC P H pn Q fs b ρ σ g) : WC P H pn Q fs (.cond x a b) ρ σ g := ⟨by
  simp only [AW, hx]
  exact splitB_intro (fun h => (h1 h).out) (fun h => (h2 h).out)⟩
theorem c_t {x : Opd} (hx : ev ρ x = .bool true) (h : WC P H pn Q fs a ρ σ g) : WC P H pn Q fs (.cond x a b) ρ σ g := c_cond hx (fun _ => h) (fun e => by cases e)
theorem c_f {x : Opd} (hx : ev ρ x = .bool false) (h : WC P H pn Q fs b ρ σ g) : WC P H pn Q fs (.cond x a b) ρ σ g := c_cond hx (fun e => by cases e) (fun _ => h)
theorem c_block {id : Nat} (h : WC P H pn Q (.block id :: fs) a ρ σ g) : WC P H pn Q fs (.block id a) ρ σ g := ⟨by
  have := h.out
  simp only [AW]
  refine cast (congrArg (AW P H pn a ρ σ g) ?_) this
  funext e ρ' σ' g'
  cases e <;> rfl⟩
theorem c_exit {id : Nat} (h : WE P H pn Q fs (.exit id) ρ σ g) : WC P H pn Q fs (.exit id) ρ σ g := ⟨h.out⟩
theorem c_ret (h : WE P H pn Q fs .ret ρ σ g) : WC P H pn Q fs .ret ρ σ g := ⟨h.out⟩
theorem c_nvb {t j nm bn : Nat} {l0 : List V} (ht : ρ t = .bptr bn 0) (hb : σ bn = .box (.agg l0)) (hu : σ nm = .unused) (hj : l0[j]? = some (.sl .nil [])) (h : WC P H pn Q fs a ρ (ups (ups σ nm (.vec 0)) bn (.box (.agg (l0.set j (.sl (.own nm) []))))) g) : WC P H pn Q fs (.nvb t j nm a) ρ σ g := ⟨by
  simp only [AW, ht, hu, hb, hj]
  exact h.out⟩
theorem c_cut0 (h : WC P H pn Q fs a ρ σ g) : WC P H pn Q fs (.cut a) ρ σ g := ⟨.inl h.out⟩
theorem c_cut (E : List (Nat × V)) (Sg : List (Nat × Blk)) (hf : Fits pn E Sg ρ σ) (h : WC P H pn Q fs a (envOf E) (stOf Sg) g) : WC P H pn Q fs (.cut a) ρ σ g := ⟨.inr ⟨E, Sg, hf, h.out⟩⟩
theorem c_loop {ι : Type} (E : ι → List (Nat × V)) (Sg : ι → List (Nat × Blk)) (gi : ι → G) (inv : ι → Prop) (μ : ι → Nat) (i0 : ι) (h0 : inv i0) (hf : Fits pn (E i0) (Sg i0) ρ σ) (hg : gi i0 = g)
    (hs : ∀ i, inv i → WC P H pn Q (.loop (fun ρ' σ' g' => ∃ i', inv i' ∧ Fits pn (E i') (Sg i') ρ' σ' ∧ gi i' = g' ∧ μ i' < μ i) :: fs) a (envOf (E i)) (stOf (Sg i)) (gi i)) : WC P H pn Q fs (.loop a) ρ σ g := ⟨by
  simp only [AW]
  refine ⟨ι, E, Sg, gi, inv, μ, ⟨i0, h0, hf, hg⟩, fun i hi => ?_⟩
  have := (hs i hi).out
  refine cast (congrArg (AW P H pn a _ _ _) ?_) this
  funext e ρ' σ' g'
  cases e <;> rfl⟩
theorem c_join (hM : MonoH H) (R : Exit → Env → Store → G → Prop) (h : WC P H pn R [] a ρ σ g) (k : ∀ e ρ' σ' g', R e ρ' σ' g' → WE P H pn Q fs e ρ' σ' g') : WC P H pn Q fs a ρ σ g :=
  ⟨AW_mono hM a pn ρ σ g _ _ (fun e ρ' σ' g' h => (k e ρ' σ' g' h).out) h.out⟩
theorem e_seq (h : WC P H pn Q fs b ρ σ g) : WE P H pn Q (.seq b :: fs) .normal ρ σ g := ⟨h.out⟩
theorem e_block {id : Nat} (h : WE P H pn Q fs .normal ρ σ g) : WE P H pn Q (.block id :: fs) .normal ρ σ g := ⟨h.out⟩
theorem e_loop {N : Env → Store → G → Prop} (h : N ρ σ g) : WE P H pn Q (.loop N :: fs) .normal ρ σ g := ⟨h⟩
theorem e_end {e : Exit} (h : Q e ρ σ g) : WE P H pn Q [] e ρ σ g := ⟨h⟩
theorem e_ret (h : Q .ret ρ σ g) : WE P H pn Q fs .ret ρ σ g := ⟨by
  induction fs with
  | nil => exact h
  | cons f fs ih => cases f <;> exact ih⟩
def popTo (id : Nat) : List (Frm G) → List (Frm G)
  | [] => []
  | .block id' :: fs => bif Nat.beq id id' then fs else popTo id fs
  | _ :: fs => popTo id fs
def hasBlk (id : Nat) : List (Frm G) → Bool
  | [] => false
  | .block id' :: fs => bif Nat.beq id id' then true else hasBlk id fs
  | _ :: fs => hasBlk id fs
theorem e_exit {id : Nat} (h0 : hasBlk id fs = true) (h : WE P H pn Q (popTo id fs) .normal ρ σ g) : WE P H pn Q fs (.exit id) ρ σ g := ⟨by
  obtain ⟨h⟩ := h
  induction fs with
  | nil => cases h0
  | cons f fs ih =>
    cases f with
    | seq b => exact ih h0 h
    | loop N => exact ih h0 h
    | block id' =>
      simp only [hasBlk, popTo] at h0 h
      simp only [kont]
      cases hb : Nat.beq id id' with
      | true => rw [hb] at h; exact h
      | false => rw [hb] at h h0; exact ih h0 h⟩
theorem i_nil (h : WE P H pn Q fs .normal ρ σ g) : WI P H pn Q fs [] ρ σ g := ⟨h.out⟩
theorem sop_ok {K : V → Store → G → Prop} (h : sop ρ σ o = some v) (k : K v σ g) : AWop P H ρ σ g o K := by
  cases o with
  | mov x => simp only [sop] at h; simp only [AWop]; rw [← fz_eq h]; exact k
  | pick c x y =>
    simp only [sop] at h; simp only [AWop]
    split at h
    · rename_i e; rw [e]; simp only [cond_true]; rw [← fz_eq h]; exact k
    · rename_i e; rw [e]; simp only [cond_false]; rw [← fz_eq h]; exact k
    · cases h
  | bin op st et x y =>
    simp only [sop] at h; simp only [AWop]
    revert h
    generalize ev ρ x = x
    generalize ev ρ y = y
    intro h
    unfold binv at h
    split at h
    · cases hk : kEq _ _ with
      | true => rw [hk] at h; cases h; simp only [abin, hk, cond_true]; exact k
      | false => rw [hk] at h; cases h
    · cases hk : kEq _ _ with
      | true => rw [hk] at h; cases h; simp only [abin, hk, cond_true]; exact k
      | false => rw [hk] at h; cases h
    · cases hk : kEq _ _ with
      | true => rw [hk] at h; cases h; simp only [abin, hk, cond_true]; exact k
      | false => rw [hk] at h; cases h
    · cases hk : kEq _ _ with
      | true => rw [hk] at h; cases h; simp only [abin, hk, cond_true]; exact k
      | false => rw [hk] at h; cases h
    · split at h
      · rename_i e; cases h; simp only [abin, e]; exact k
      · cases h
    · split at h
      · rename_i e; cases h; simp only [abin, e]; exact k
      · cases h
    · cases h
  | not x =>
    simp only [sop] at h; simp only [AWop]
    split at h
    · rename_i e; cases h; rw [e]; exact k
    · cases h
  | len s x =>
    simp only [sop] at h; simp only [AWop]
    split at h
    · rename_i e; cases h; rw [e]; exact k
    · rename_i nm gen i n e
      split at h
      · rename_i gen' rows e2
        cases hb : Nat.beq gen gen' with
        | true => rw [hb] at h; cases h; rw [e]; simp only [e2]; exact ⟨Nat.eq_of_beq_eq_true hb, k⟩
        | false => rw [hb] at h; cases h
      · cases h
    · rename_i e; cases h; rw [e]; exact k
    · cases h
  | build zero parts =>
    simp only [sop] at h; simp only [AWop]
    split at h
    · rename_i l e
      rw [e]
      split at h
      · rename_i l' e2; cases h; rw [← fzL_eq e2]; exact k
      · cases h
    · cases h
  | bsl size xs =>
    simp only [sop] at h; simp only [AWop]
    split at h
    · rename_i l e
      rw [← fzL_eq e]
      cases hb : l.all (fun v => pureB v && rowB v && Nat.beq v.cells.length size) with
      | true => rw [hb] at h; cases h; exact ⟨rfl, k⟩
      | false => rw [hb] at h; cases h
    · cases h
  | load agg size x =>
    simp only [sop] at h; simp only [AWop]
    split at h
    · rename_i e
      split at h
      · rename_i e2; rw [e]; simp only [e2]; rw [fzA_eq h]; exact k
      · cases h
    · rename_i e; rw [e]; simp only; rw [fzA_eq h]; exact k
    · cases h
  | faddr off x =>
    simp only [sop] at h; simp only [AWop]
    split at h
    · rename_i e
      split at h
      · rename_i e2; cases h; rw [e]; simp only [e2]; exact k
      · cases h
    · rename_i nm gen i j e
      split at h
      · rename_i gen' rows e2
        cases hb : Nat.beq gen gen' with
        | true => rw [hb] at h; cases h; rw [e]; simp only [e2]; exact ⟨Nat.eq_of_beq_eq_true hb, k⟩
        | false => rw [hb] at h; cases h
      · cases h
    · rename_i e; cases h; rw [e]; exact k
    · rename_i e; cases h; rw [e]; exact k
    · cases h
  | field agg size off x =>
    simp only [sop] at h; simp only [AWop]
    split at h
    · rename_i e; rw [e]; simp only; rw [fzA_eq h]; exact k
    · cases h
  | extract x i =>
    simp only [sop] at h; simp only [AWop]
    split at h
    · rename_i e; rw [e]; simp only; rw [fzA_eq h]; exact k
    · cases h
  | cut0 x =>
    simp only [sop] at h; simp only [AWop]
    split at h
    · rename_i e; cases h; rw [e]; exact k
    · cases h
  | mkfn f caps =>
    simp only [sop] at h; simp only [AWop]
    split at h
    · rename_i l e; cases h; rw [← fzL_eq e]; exact k
    · cases h
  | nilck x =>
    simp only [sop] at h; simp only [AWop]
    split at h
    · rename_i e
      split at h
      · rename_i e2; cases h; rw [e]; simp only [e2]; exact k
      · cases h
    · rename_i e; cases h; rw [e]; exact k
    · rename_i e; cases h; rw [e]; exact k
    · rename_i e; cases h; rw [e]; exact k
    · rename_i e; cases h; rw [e]; exact k
    · cases h
  | _ => cases h
theorem i_out (h : AWop P H ρ σ g o fun v σ' g' => AWits P H r (put ρ dst v) σ' g' (kont P H pn Q fs .normal)) : WI P H pn Q fs (.op dst none o :: r) ρ σ g := ⟨by
  show AWop P H ρ σ g o fun v σ' g' => force v fun v => AWits P H r (put ρ dst v) σ' g' _
  simp only [force_eq]
  exact h⟩
theorem i_s (h : sop ρ σ o = some v) (k : WI P H pn Q fs r (upd ρ d v) σ g) : WI P H pn Q fs (.op (some d) none o :: r) ρ σ g := i_out (sop_ok h k.out)
theorem i_s0 (h : sop ρ σ o = some v) (k : WI P H pn Q fs r ρ σ g) : WI P H pn Q fs (.op none none o :: r) ρ σ g := i_out (sop_ok h k.out)
theorem i_gt {s : Nat} {want : Bool} (hs : ρ s = .bool want) (h : WI P H pn Q fs (.op dst none o :: r) (upd ρ s (.bool want)) σ g) : WI P H pn Q fs (.op dst (some (s, want)) o :: r) ρ σ g := ⟨by
  simp only [AWits, AWit, hs]
  exact splitB_intro (fun _ => h.out) (fun e => by cases want <;> cases e)⟩
theorem i_gf {s : Nat} {want : Bool} (hs : ρ s = .bool (!want)) (h : WI P H pn Q fs r (put (upd ρ s (.bool (!want))) dst (.tup [])) σ g) : WI P H pn Q fs (.op dst (some (s, want)) o :: r) ρ σ g := ⟨by
  simp only [AWits, AWit, hs]
  exact splitB_intro (fun e => by cases want <;> cases e) (fun _ => h.out)⟩
theorem i_gd {s : Nat} {want : Bool} (hs : ρ s = .tup []) (h : WI P H pn Q fs r (put ρ dst (.tup [])) σ g) : WI P H pn Q fs (.op dst (some (s, want)) o :: r) ρ σ g := ⟨by
  simp only [AWits, AWit, hs]
  exact h.out⟩
theorem i_g {s : Nat} {want b : Bool} (hs : ρ s = .bool b) (h1 : b = want → WI P H pn Q fs (.op dst none o :: r) (upd ρ s (.bool want)) σ g) (h2 : b = (!want) → WI P H pn Q fs r (put (upd ρ s (.bool (!want))) dst (.tup [])) σ g) : WI P H pn Q fs (.op dst (some (s, want)) o :: r) ρ σ g := ⟨by
  simp only [AWits, AWit, hs]
  exact splitB_intro (fun e => (h1 e).out) (fun e => (h2 e).out)⟩
theorem kEq_refl {k : IntKind} {n : Int} (h : InR k n) : kEq k k = true := by cases k <;> first | rfl | exact h.elim
theorem i_add {k : IntKind} {m n : Int} {st : Bool} {et : List LT} {x y : Opd} (hx : ev ρ x = .int k m) (hy : ev ρ y = .int k n) (hr : InR k (m + n)) (h : WI P H pn Q fs r (upd ρ d (.int k (m + n))) σ g) :
    WI P H pn Q fs (.op (some d) none (.bin .add st et x y) :: r) ρ σ g := i_out (by
  simp only [AWop, hx, hy, abin, kEq_refl hr, cond_true]
  rw [wrap_id hr]; exact h.out)
theorem i_sub {k : IntKind} {m n : Int} {st : Bool} {et : List LT} {x y : Opd} (hx : ev ρ x = .int k m) (hy : ev ρ y = .int k n) (hr : InR k (m - n)) (h : WI P H pn Q fs r (upd ρ d (.int k (m - n))) σ g) :
    WI P H pn Q fs (.op (some d) none (.bin .sub st et x y) :: r) ρ σ g := i_out (by
  simp only [AWop, hx, hy, abin, kEq_refl hr, cond_true]
  rw [wrap_id hr]; exact h.out)
theorem i_conv {k k' : IntKind} {n : Int} {x : Opd} (hx : ev ρ x = .int k' n) (hr : InR k n) (h : WI P H pn Q fs r (upd ρ d (.int k n)) σ g) : WI P H pn Q fs (.op (some d) none (.conv k x) :: r) ρ σ g := i_out (by
  simp only [AWop, hx]
  exact ⟨hr, h.out⟩)
theorem i_ia {size : Nat} {t : Tag} {rows : List V} {kk : IntKind} {n : Int} {row : V} {x i : Opd} (hx : ev ρ x = .sl t rows) (hi : ev ρ i = .int kk n) (h0 : 0 ≤ n) (hr : rows[n.toNat]? = some row) (hw : Nat.beq size row.cells.length = true)
    (h : WI P H pn Q fs r (upd ρ d (.cptr t row 0)) σ g) : WI P H pn Q fs (.op (some d) none (.iaddr size x i) :: r) ρ σ g := i_out (by
  simp only [AWop, hx, hi]
  exact ⟨h0, row, hr, hw, h.out⟩)
theorem i_iam {α : Type} {f : α → V} {l : List α} {size : Nat} {t : Tag} {kk : IntKind} {k : Nat} {c : α} {x i : Opd} (hx : ev ρ x = .sl t (l.map f)) (hi : ev ρ i = .int kk (k : Int)) (hr : l[k]? = some c) (hw : Nat.beq size (f c).cells.length = true)
    (h : WI P H pn Q fs r (upd ρ d (.cptr t (f c) 0)) σ g) : WI P H pn Q fs (.op (some d) none (.iaddr size x i) :: r) ρ σ g :=
  i_ia hx hi (by omega) (by simp [hr]) hw h
theorem i_ima {size : Nat} {nm gen i len gen' : Nat} {rows : List V} {kk : IntKind} {n : Int} {x y : Opd} (hx : ev ρ x = .msl nm gen i len) (hi : ev ρ y = .int kk n) (hs : σ nm = .arr gen' rows) (hg : gen = gen') (h0 : 0 ≤ n) (h1 : n < len) (hw : Nat.beq (wd nm) size = true)
    (h : WI P H pn Q fs r (upd ρ d (.ptr nm gen (i + n.toNat) 0)) σ g) : WI P H pn Q fs (.op (some d) none (.iaddr size x y) :: r) ρ σ g := i_out (by
  simp only [AWop, hx, hi, hs]
  exact ⟨hg, h0, h1, hw, h.out⟩)
theorem i_ix {s : List UInt8} {kk : IntKind} {n : Int} {c : UInt8} {x i : Opd} (hx : ev ρ x = .str s) (hi : ev ρ i = .int kk n) (h0 : 0 ≤ n) (hc : s[n.toNat]? = some c) (h : WI P H pn Q fs r (upd ρ d (.int .u8 c.toNat)) σ g) :
    WI P H pn Q fs (.op (some d) none (.index x i) :: r) ρ σ g := i_out (by
  simp only [AWop, hx, hi]
  exact ⟨h0, c, hc, h.out⟩)
theorem i_idxA {l : List V} {len : Nat} {kk : IntKind} {n : Int} {c : V} {x i : Opd} (hx : ev ρ x = .agg l) (hi : ev ρ i = .int kk n) (h0 : 0 ≤ n) (h1 : n < len) (hc : l[n.toNat]? = some c) (h : WI P H pn Q fs r (upd ρ d c) σ g) :
    WI P H pn Q fs (.op (some d) none (.idxA len x i) :: r) ρ σ g := i_out (by
  simp only [AWop, hx, hi]
  exact ⟨h0, h1, c, hc, h.out⟩)
theorem i_ixm {s : List UInt8} {kk : IntKind} {k : Nat} {c : UInt8} {x i : Opd} (hx : ev ρ x = .str s) (hi : ev ρ i = .int kk (k : Int)) (hc : s[k]? = some c) (h : WI P H pn Q fs r (upd ρ d (.int .u8 c.toNat)) σ g) :
    WI P H pn Q fs (.op (some d) none (.index x i) :: r) ρ σ g := i_ix hx hi (by omega) (by simpa using hc) h
theorem i_ldp {agg : Bool} {size nm gen i j gen' : Nat} {rows : List V} {row : V} {x : Opd} (hx : ev ρ x = .ptr nm gen i j) (hs : σ nm = .arr gen' rows) (hg : gen = gen') (hr : rows[i]? = some row) (hl : fzA (ldrow agg size j row) = some v)
    (h : WI P H pn Q fs r (upd ρ d v) σ g) : WI P H pn Q fs (.op (some d) none (.load agg size x) :: r) ρ σ g := i_out (by
  simp only [AWop, hx, hs]
  refine ⟨hg, row, hr, ?_⟩
  rw [fzA_eq hl]
  exact h.out)
theorem i_stp {size nm gen i j gen' : Nat} {rows : List V} {row row' : V} {x y : Opd} (hx : ev ρ x = .ptr nm gen i j) (hs : σ nm = .arr gen' rows) (hg : gen = gen') (hr : rows[i]? = some row) (hp : pureB (ev ρ y) = true) (hl : fzA (strow size j row (ev ρ y)) = some row')
    (h : WI P H pn Q fs r (put ρ dst (.tup [])) (ups σ nm (.arr gen (rows.set i row'))) g) : WI P H pn Q fs (.op dst none (.store size x y) :: r) ρ σ g := i_out (by
  simp only [AWop, hx, hs]
  refine ⟨hg, hp, row, hr, ?_⟩
  rw [fzA_eq hl]
  exact h.out)
theorem i_stb {size nm : Nat} {row : V} {x y : Opd} (hx : bsto ρ σ size x y = some (nm, row)) (h : WI P H pn Q fs r (put ρ dst (.tup [])) (ups σ nm (.box row)) g) : WI P H pn Q fs (.op dst none (.store size x y) :: r) ρ σ g := i_out (by
  unfold bsto at hx
  split at hx
  · rename_i e
    split at hx
    · rename_i e2
      split at hx
      · rename_i e3
        cases hx
        simp only [AWop, e, e2, fzA_eq e3]
        exact h.out
      · cases hx
    · cases hx
  · cases hx)
theorem i_alloc {nm : Nat} {z : V} (hs : σ nm = .unused) (h : WI P H pn Q fs r (upd ρ d (.bptr nm 0)) (ups σ nm (.box z)) g) : WI P H pn Q fs (.op (some d) none (.alloc nm z) :: r) ρ σ g := i_out (by
  simp only [AWop, hs]
  exact h.out)
theorem i_box {nm size : Nat} {x : Opd} (hs : σ nm = .unused) (hx : boxv ρ size x = some v) (h : WI P H pn Q fs r (upd ρ d (.bptr nm 0)) (ups σ nm (.box v)) g) : WI P H pn Q fs (.op (some d) none (.box nm size x) :: r) ρ σ g := i_out (by
  unfold boxv at hx
  split at hx
  · rename_i v' e
    cases fz_eq e
    cases hb : rowB (ev ρ x) && Nat.beq size (ev ρ x).cells.length with
    | true =>
      rw [hb] at hx; cases hx
      simp only [AWop, hs, hb, cond_true]
      exact h.out
    | false => rw [hb] at hx; cases hx
  · cases hx)
theorem i_nv {nm : Nat} (hs : σ nm = .unused) (h : WI P H pn Q fs r (upd ρ d (.sl (.own nm) [])) (ups σ nm (.vec 0)) g) : WI P H pn Q fs (.op (some d) none (.newVec nm) :: r) ρ σ g := i_out (by
  simp only [AWop, hs]
  exact h.out)
theorem i_na {nm : Nat} (hs : σ nm = .unused) (h : WI P H pn Q fs r (upd ρ d (.msl nm 0 0 0)) (ups σ nm (.arr 0 [])) g) : WI P H pn Q fs (.op (some d) none (.newArr nm) :: r) ρ σ g := i_out (by
  simp only [AWop, hs]
  exact h.out)
theorem i_app {size bytes et nm k : Nat} {rows xs : List V} {t : Tag} {x y : Opd} (hx : ev ρ x = .sl (.own nm) rows) (hy : ev ρ y = .sl t xs) (hs : σ nm = .vec k) (hk : rows.length = k) (hw : (Nat.beq (wd nm) size && tyOkB nm et) = true)
    (hc : ∀ row ∈ xs, row.cells.length = size ∧ row.cells.all leafB = true) (h1 : (k + xs.length) * bytes ≤ 140737488355328) (h2 : k + xs.length ≤ 140737488355328)
    (h : WI P H pn Q fs r (upd ρ d (.sl (.own nm) (rows ++ xs))) (ups σ nm (.vec (k + xs.length))) g) : WI P H pn Q fs (.op (some d) none (.append size bytes et x y) :: r) ρ σ g := i_out (by
  simp only [AWop, hx, hy, srcR, hs]
  exact ⟨hk, hw, hc, h1, h2, h.out⟩)
theorem i_app1 {size bytes et nm k : Nat} {rows : List V} {row : V} {t : Tag} {x y : Opd} (hx : ev ρ x = .sl (.own nm) rows) (hy : ev ρ y = .sl t [row]) (hs : σ nm = .vec k) (hk : rows.length = k) (hw : ((Nat.beq (wd nm) size && tyOkB nm et) && (Nat.beq row.cells.length size && row.cells.all leafB)) = true)
    (h1 : (k + 1) * bytes ≤ 140737488355328) (h2 : k + 1 ≤ 140737488355328)
    (h : WI P H pn Q fs r (upd ρ d (.sl (.own nm) (rows ++ [row]))) (ups σ nm (.vec (k + 1))) g) : WI P H pn Q fs (.op (some d) none (.append size bytes et x y) :: r) ρ σ g := by
  simp only [Bool.and_eq_true] at hw
  exact i_app hx hy hs hk (by rw [Bool.and_eq_true]; exact hw.1) (fun row' hm => by
    rw [List.mem_singleton.1 hm]
    exact ⟨Nat.eq_of_beq_eq_true hw.2.1, hw.2.2⟩) h1 h2 h
theorem i_appm {size bytes et nm gen len gen' : Nat} {rows xs : List V} {t : Tag} {x y : Opd} (hx : ev ρ x = .msl nm gen 0 len) (hy : ev ρ y = .sl t xs) (hs : σ nm = .arr gen' rows) (hg : gen = gen') (hw : Nat.beq (wd nm) size = true)
    (hc : ∀ row ∈ xs, row.cells.length = size ∧ row.cells.all leafB = true) (h1 : (len + xs.length) * bytes ≤ 140737488355328) (h2 : len + xs.length ≤ 140737488355328)
    (h : WI P H pn Q fs r (upd ρ d (.msl nm (gen + 1) 0 (len + xs.length))) (ups σ nm (.arr (gen + 1) (rows.take len ++ xs))) g) : WI P H pn Q fs (.op (some d) none (.append size bytes et x y) :: r) ρ σ g := i_out (by
  simp only [AWop, hx, hy, srcR, hs]
  exact ⟨hg, hw, hc, h1, h2, h.out⟩)
theorem i_mks {nm size bytes : Nat} {z : V} {m n : Int} {x y : Opd} (hs : σ nm = .unused) (hx : ev ρ x = .int .i64 m) (hy : ev ρ y = .int .i64 n) (h0 : 0 ≤ m) (h1 : m ≤ n) (h2 : n * bytes ≤ 140737488355328) (h3 : n ≤ 140737488355328)
    (hw : (Nat.beq (wd nm) size && Nat.beq z.cells.length size) = true) (h : WI P H pn Q fs r (upd ρ d (.msl nm 0 0 m.toNat)) (ups σ nm (.arr 0 (List.replicate m.toNat z))) g) : WI P H pn Q fs (.op (some d) none (.mkSl nm size bytes z x y) :: r) ρ σ g := i_out (by
  simp only [Bool.and_eq_true] at hw
  simp only [AWop, hx, hy, hs]
  exact ⟨h0, h1, h2, h3, hw.1, hw.2, h.out⟩)
def loV (ρ : Env) (lo : Option Opd) : V := (lo.map (ev ρ)).getD (.int .i64 0)
theorem i_slh {size : Nat} {t : Tag} {rows : List V} {k1 k2 : IntKind} {m n : Int} {x : Opd} {lo : Option Opd} {hi : Opd} (hx : ev ρ x = .sl t rows) (hlo : loV ρ lo = .int k1 m) (hhi : ev ρ hi = .int k2 n) (h0 : 0 ≤ m) (h1 : m ≤ n) (h2 : n ≤ rows.length) (hw : m = 0 ∨ ∀ row ∈ rows, row.cells.length = size)
    (h : WI P H pn Q fs r (upd ρ d (.sl t ((rows.take n.toNat).drop m.toNat))) σ g) : WI P H pn Q fs (.op (some d) none (.slice false size x lo (some hi)) :: r) ρ σ g := i_out (by
  unfold loV at hlo
  simp only [AWop, hx, hlo, Option.map_some, hhi]
  exact ⟨h0, h1, h2, hw, h.out⟩)
theorem i_ssh {size : Nat} {s : List UInt8} {k1 k2 : IntKind} {m n : Int} {x : Opd} {lo : Option Opd} {hi : Opd} (hx : ev ρ x = .str s) (hlo : loV ρ lo = .int k1 m) (hhi : ev ρ hi = .int k2 n) (h0 : 0 ≤ m) (h1 : m ≤ n) (h2 : n ≤ s.length)
    (h : WI P H pn Q fs r (upd ρ d (.str ((s.take n.toNat).drop m.toNat))) σ g) : WI P H pn Q fs (.op (some d) none (.slice true size x lo (some hi)) :: r) ρ σ g := i_out (by
  unfold loV at hlo
  simp only [AWop, hx, hlo, Option.map_some, hhi]
  exact ⟨h0, h1, h2, h.out⟩)
theorem i_smh {size nm gen i len gen' : Nat} {rows : List V} {k1 k2 : IntKind} {m n : Int} {x : Opd} {lo : Option Opd} {hi : Opd} (hx : ev ρ x = .msl nm gen i len) (hlo : loV ρ lo = .int k1 m) (hhi : ev ρ hi = .int k2 n) (hs : σ nm = .arr gen' rows) (hg : gen = gen') (h0 : 0 ≤ m) (h1 : m ≤ n) (h2 : n ≤ len) (hw : Nat.beq (wd nm) size = true)
    (h : WI P H pn Q fs r (upd ρ d (.msl nm gen (i + m.toNat) (n.toNat - m.toNat))) σ g) : WI P H pn Q fs (.op (some d) none (.slice false size x lo (some hi)) :: r) ρ σ g := i_out (by
  unfold loV at hlo
  simp only [AWop, hx, hlo, Option.map_some, hhi, hs]
  exact ⟨hg, h0, h1, h2, hw, h.out⟩)
theorem i_max {k : IntKind} {m n : Int} {x y : Opd} (hk : kEq k k = true) (hx : ev ρ x = .int k m) (hy : ev ρ y = .int k n) (h : WI P H pn Q fs r (upd ρ d (.int k (if n > m then n else m))) σ g) : WI P H pn Q fs (.op (some d) none (.max x y) :: r) ρ σ g := i_out (by
  simp only [AWop, hx, hy, hk, cond_true]
  exact h.out)
theorem i_f {f : Opd} {args : List Opd} {fid : Nat} {as as' : List V} {v : V} (hf : calv ρ f args = some (fid, as)) (ha : as.map (er σ 6) = as') (hc : Fc P fid as' v) (hp : (flatB v || pureL as) = true)
    (h : WI P H pn Q fs r (put ρ dst v) σ g) : WI P H pn Q fs (.op dst none (.call .f f args) :: r) ρ σ g := i_out (by
  unfold calv at hf
  split at hf
  · rename_i e
    split at hf
    · rename_i e2
      cases hf
      cases ha
      cases fzL_eq e2
      simp only [AWop, AWcall, e]
      exact ⟨v, hc.out, by rw [Bool.or_comm]; exact hp, h.out⟩
    · cases hf
  · cases hf)
theorem i_c {f : Opd} {args : List Opd} {fid : Nat} {as : List V} {ns : List Nat} (hf : calv ρ f args = some (fid, as)) (hcl : closedL ns as = true) (hcs : closedSt ns σ ns = true) {K : V → Store → G → Prop} (hc : Cc P H fid as ns (restr ns σ) g K)
    (h : ∀ v σ' g', K v σ' g' → WI P H pn Q fs r (put ρ dst v) (merge ns σ σ') g') : WI P H pn Q fs (.op dst none (.call (.s ns) f args) :: r) ρ σ g := i_out (by
  unfold calv at hf
  split at hf
  · rename_i e
    split at hf
    · rename_i e2
      cases hf
      cases fzL_eq e2
      simp only [AWop, AWcall, e]
      exact ⟨hcl, hcs, CT_mono (fun v σ' g' hk => (h v σ' g' hk).out) hc.out⟩
    · cases hf
  · cases hf)
theorem c_frzv {t nm k : Nat} {rows : List V} (ht : ρ t = .sl (.own nm) rows) (hs : σ nm = .vec k) (h : WE P H pn Q fs .normal (upd ρ t (.sl .p rows)) (ups σ nm .dead) g) : WC P H pn Q fs (.frz t) ρ σ g := ⟨by
  simp only [AW, AWit, ht, hs]
  exact h.out⟩
theorem c_frzb {t nm j : Nat} {row : V} (ht : ρ t = .bptr nm j) (hs : σ nm = .box row) (hp : pureB row = true) (h : WE P H pn Q fs .normal (upd ρ t (.cptr .p row j)) (ups σ nm .dead) g) : WC P H pn Q fs (.frz t) ρ σ g := ⟨by
  simp only [AW, AWit, ht, hs]
  exact ⟨hp, h.out⟩⟩
end
theorem Fn.step {P : Program} {f n : Nat} {rs : List RVar} {c : Cmd} {args : List V} {r : V} (hmix : P.follows .mixedOrders = true) (hc : chkFn P f n rs c = true) (h : WC (G := Unit) P noH [] (fnPost rs r) [] c (env0 args) σ0 ()) : Fc P f args r :=
  ⟨Fn.intro hmix hc h.out⟩
theorem CT.step {G : Type} {P : Program} {H : HT G} {f n : Nat} {σ : Store} {g : G} {rs : List RVar} {c : Cmd} {args : List V} {K : V → Store → G → Prop} (pn : List Nat) (hmix : P.follows .mixedOrders = true) (hc : chkFn P f n rs c = true)
    (hpn : ∀ nm, σ nm ≠ .unused → nm ∈ pn) (h : MonoH H → WC P H pn (ctPost pn rs K) [] c (env0 args) σ g) : Cc P H f args pn σ g K :=
  ⟨CT.intro pn hmix hc hpn fun hM => (h hM).out⟩
section
variable {G : Type} {P : Program} {H : HT G} {pn : List Nat} {Q : Exit → Env → Store → G → Prop} {fs : List (Frm G)} {ρ : Env} {σ : Store} {g : G} {r : List GItem} {d : Nat} {dst : Option Nat} {a b : Cmd} {v : V} {o : AOp}
def forN (pn : List Nat) (n : Nat) (E : Nat → List (Nat × V)) (Sg : Nat → List (Nat × Blk)) (inv : Nat → Prop) (g : G) (k : Nat) : Env → Store → G → Prop :=
  fun ρ' σ' g' => ∃ i', (i' ≤ n ∧ inv i') ∧ Fits pn (E i') (Sg i') ρ' σ' ∧ g = g' ∧ n - i' < n - k
theorem c_for (n : Nat) (E : Nat → List (Nat × V)) (Sg : Nat → List (Nat × Blk)) (inv : Nat → Prop) (h0 : inv 0) (hf : Fits pn (E 0) (Sg 0) ρ σ)
    (hs : ∀ k, k ≤ n → inv k → WC P H pn Q (.loop (forN pn n E Sg inv g k) :: fs) a (envOf (E k)) (stOf (Sg k)) g) : WC P H pn Q fs (.loop a) ρ σ g :=
  c_loop E Sg (fun _ => g) (fun k => k ≤ n ∧ inv k) (fun k => n - k) 0 ⟨Nat.zero_le _, h0⟩ hf rfl fun k hk => hs k hk.1 hk.2
theorem e_for {n : Nat} {E : Nat → List (Nat × V)} {Sg : Nat → List (Nat × Blk)} {inv : Nat → Prop} {k : Nat} (hk : k < n) (hi : inv (k + 1)) (hf : Fits pn (E (k + 1)) (Sg (k + 1)) ρ σ) :
    WE P H pn Q (.loop (forN pn n E Sg inv g k) :: fs) .normal ρ σ g := e_loop ⟨k + 1, ⟨hk, hi⟩, hf, rfl, by omega⟩
def lpN {ι : Type} (pn : List Nat) (E : ι → List (Nat × V)) (Sg : ι → List (Nat × Blk)) (inv : ι → Prop) (μ : ι → Nat) (g : G) (i : ι) : Env → Store → G → Prop :=
  fun ρ' σ' g' => ∃ i', inv i' ∧ Fits pn (E i') (Sg i') ρ' σ' ∧ g = g' ∧ μ i' < μ i
theorem c_lp {ι : Type} (E : ι → List (Nat × V)) (Sg : ι → List (Nat × Blk)) (inv : ι → Prop) (μ : ι → Nat) (i0 : ι) (h0 : inv i0) (hf : Fits pn (E i0) (Sg i0) ρ σ)
    (hs : ∀ i, inv i → WC P H pn Q (.loop (lpN pn E Sg inv μ g i) :: fs) a (envOf (E i)) (stOf (Sg i)) g) : WC P H pn Q fs (.loop a) ρ σ g :=
  c_loop E Sg (fun _ => g) inv μ i0 h0 hf rfl fun i hi => hs i hi
theorem e_lp {ι : Type} {E : ι → List (Nat × V)} {Sg : ι → List (Nat × Blk)} {inv : ι → Prop} {μ : ι → Nat} {i : ι} (i' : ι) (hi : inv i') (hm : μ i' < μ i) (hf : Fits pn (E i') (Sg i') ρ σ) :
    WE P H pn Q (.loop (lpN pn E Sg inv μ g i) :: fs) .normal ρ σ g := e_loop ⟨i', hi, hf, rfl, hm⟩
theorem i_iai {α : Type} {f : α → V} {l : List α} {size : Nat} {t : Tag} {kk : IntKind} {n : Int} {c : α} {x i : Opd} (hx : ev ρ x = .sl t (l.map f)) (hi : ev ρ i = .int kk n) (h0 : 0 ≤ n) (hr : l[n.toNat]? = some c) (hw : Nat.beq size (f c).cells.length = true)
    (h : WI P H pn Q fs r (upd ρ d (.cptr t (f c) 0)) σ g) : WI P H pn Q fs (.op (some d) none (.iaddr size x i) :: r) ρ σ g :=
  i_ia hx hi h0 (by simp [hr]) hw h
theorem i_len {α : Type} {f : α → V} {l : List α} {t : Tag} {x : Opd} (hx : ev ρ x = .sl t (l.map f)) (h : WI P H pn Q fs r (upd ρ d (.int .i64 l.length)) σ g) : WI P H pn Q fs (.op (some d) none (.len false x) :: r) ρ σ g := i_out (by
  simp only [AWop, hx, List.length_map]
  exact h.out)
theorem i_sti {f : Int → V} {l : List Int} {nm gen gen' i : Nat} {v : Int} {x y : Opd} (hf : f = fun n => V.int .i64 n) (hx : ev ρ x = .ptr nm gen i 0) (hy : ev ρ y = .int .i64 v) (hs : σ nm = .arr gen' (l.map f)) (hg : gen = gen') (hi : i < l.length)
    (h : WI P H pn Q fs r (put ρ dst (.tup [])) (ups σ nm (.arr gen ((l.set i v).map f))) g) : WI P H pn Q fs (.op dst none (.store 1 x y) :: r) ρ σ g := by
  subst hf
  refine i_stp (row := .int .i64 l[i]) (row' := .int .i64 v) hx hs hg (by simp [hi]) (by rw [hy]; rfl) (by rw [hy]; rfl) ?_
  rw [List.map_set] at h
  exact h
theorem i_tk {α : Type} {f : α → V} {l : List α} {size : Nat} {t : Tag} {k2 : IntKind} {k : Nat} {x hi : Opd} (hx : ev ρ x = .sl t (l.map f)) (hhi : ev ρ hi = .int k2 (k : Int)) (h2 : k ≤ l.length)
    (h : WI P H pn Q fs r (upd ρ d (.sl t ((l.take k).map f))) σ g) : WI P H pn Q fs (.op (some d) none (.slice false size x none (some hi)) :: r) ρ σ g :=
  i_slh (k1 := .i64) (m := 0) hx rfl hhi (Int.le_refl _) (by omega) (by simp; omega) (.inl rfl) (by simpa using h)
theorem i_appM {α : Type} {f : α → V} {l : List α} {c : α} {size bytes et nm k : Nat} {t : Tag} {x y : Opd} (hx : ev ρ x = .sl (.own nm) (l.map f)) (hy : ev ρ y = .sl t [f c]) (hs : σ nm = .vec k) (hk : l.length = k) (hw : ((Nat.beq (wd nm) size && tyOkB nm et) && (Nat.beq (f c).cells.length size && (f c).cells.all leafB)) = true)
    (h1 : (k + 1) * bytes ≤ 140737488355328) (h2 : k + 1 ≤ 140737488355328)
    (h : WI P H pn Q fs r (upd ρ d (.sl (.own nm) ((l ++ [c]).map f))) (ups σ nm (.vec (k + 1))) g) : WI P H pn Q fs (.op (some d) none (.append size bytes et x y) :: r) ρ σ g :=
  i_app1 hx hy hs (by simp [hk]) hw h1 h2 (by simpa using h)
end
def scan {α : Type} (bad : Nat → Option α) : Nat → Nat → Option α
  | _, 0 => none
  | i, n + 1 => match bad i with
    | some f => some f
    | none => scan bad (i + 1) n
theorem scan_none {α : Type} {bad : Nat → Option α} : ∀ (n i : Nat), (∀ j, i ≤ j → j < i + n → bad j = none) → scan bad i n = none
  | 0, _, _ => rfl
  | n + 1, i, h => by
    simp only [scan, h i (Nat.le_refl _) (by omega)]
    exact scan_none n (i + 1) fun j h1 h2 => h j (by omega) (by omega)
theorem scan_hit {α : Type} {bad : Nat → Option α} {f : α} : ∀ (n i k : Nat), (∀ j, i ≤ j → j < k → bad j = none) → i ≤ k → k < i + n → bad k = some f → scan bad i n = some f
  | 0, i, k, _, _, h, _ => by omega
  | n + 1, i, k, h, h1, h2, h3 => by
    simp only [scan]
    by_cases e : i = k
    · subst e; rw [h3]
    · rw [h i (Nat.le_refl _) (by omega)]
      exact scan_hit n (i + 1) k (fun j h4 h5 => h j (by omega) h5) (by omega) (by omega) h3
theorem scan0_none {α : Type} {bad : Nat → Option α} {n : Nat} (h : ∀ j, j < n → bad j = none) : scan bad 0 n = none := scan_none n 0 fun j _ h2 => h j (by omega)
theorem scan0_hit {α : Type} {bad : Nat → Option α} {n k : Nat} {f : α} (h : ∀ j, j < k → bad j = none) (hk : k < n) (hf : bad k = some f) : scan bad 0 n = some f := scan_hit n 0 k (fun j _ h2 => h j h2) (Nat.zero_le _) (by omega) hf
theorem all_succ {p : Nat → Prop} {k : Nat} (h : ∀ j, j < k → p j) (hk : p k) : ∀ j, j < k + 1 → p j := fun j hj => by
  by_cases e : j = k
  · rw [e]; exact hk
  · exact h j (by omega)
theorem all_zero {p : Nat → Prop} : ∀ j, j < 0 → p j := fun j hj => absurd hj (Nat.not_lt_zero j)
theorem get_some {α : Type} {l : List α} {k : Nat} (h : k < l.length) : ∃ c, l[k]? = some c := ⟨l[k], List.getElem?_eq_getElem h⟩
theorem take_succ_get {α : Type} {l : List α} {k : Nat} {c : α} (h : l[k]? = some c) : l.take (k + 1) = l.take k ++ [c] := by
  rw [List.take_add_one, h]; rfl
theorem mem_get {α : Type} {l : List α} {k : Nat} {c : α} (h : l[k]? = some c) : c ∈ l := List.mem_of_getElem? h
section
variable {G : Type} {P : Program} {H : HT G} {pn : List Nat} {Q : Exit → Env → Store → G → Prop} {fs : List (Frm G)} {ρ : Env} {σ : Store} {g : G} {r : List GItem} {d : Nat} {dst : Option Nat} {a b : Cmd} {v : V} {o : AOp}
theorem Cc_mono {f : Nat} {args : List V} {K K' : V → Store → G → Prop} (hk : ∀ v σ' g', K v σ' g' → K' v σ' g') (h : Cc P H f args pn σ g K) : Cc P H f args pn σ g K' := ⟨CT_mono hk h.out⟩
end
theorem restr_mem {pn : List Nat} {σ : Store} (nm : Nat) (h : restr pn σ nm ≠ .unused) : nm ∈ pn := by
  by_cases hm : nm ∈ pn
  · exact hm
  · exact absurd (restr_out (θ := θ0) hm).1 h
end Hm
namespace Hm
open Go
theorem stOf_mem : ∀ (L : List (Nat × Blk)) (nm : Nat), stOf L nm ≠ .unused → nm ∈ L.map (·.1)
  | [], nm, h => absurd rfl h
  | (d, b) :: r, nm, h => by
    simp only [stOf] at h
    cases hb : Nat.beq nm d with
    | true => rw [Nat.eq_of_beq_eq_true hb]; simp
    | false => rw [hb] at h; exact List.mem_cons_of_mem _ (stOf_mem r nm h)
section
variable {G : Type} {P : Program} {H : HT G} {pn : List Nat} {Q : Exit → Env → Store → G → Prop} {fs : List (Frm G)} {ρ : Env} {σ : Store} {g : G} {r : List GItem} {d : Nat} {dst : Option Nat} {a b : Cmd} {v : V} {o : AOp}
theorem i_lenm {nm gen i n gen' : Nat} {rows : List V} {x : Opd} (hx : ev ρ x = .msl nm gen i n) (hs : σ nm = .arr gen' rows) (hg : gen = gen') (h : WI P H pn Q fs r (upd ρ d (.int .i64 n)) σ g) : WI P H pn Q fs (.op (some d) none (.len false x) :: r) ρ σ g := i_out (by
  simp only [AWop, hx, hs]
  exact ⟨hg, h.out⟩)
theorem i_apn (nm : Nat) {size bytes et : Nat} {xs : List V} {x y : Opd} (hx : ev ρ x = .sl .nil []) (hy : srcR σ (ev ρ y) = some xs) (hne : xs ≠ []) (hc : ∀ row ∈ xs, row.cells.length = size ∧ row.cells.all leafB = true) (h1 : xs.length * bytes ≤ 140737488355328) (h2 : xs.length ≤ 140737488355328) (hs : σ nm = .unused) (ht : tyOkB nm et = true)
    (h : ∀ b c, xs.length ≤ c → WI P H pn Q fs r (upd ρ d (.rsl b xs.length c)) (ups σ nm (.box (.tag b (flatC xs ++ List.replicate ((c - xs.length) * size) .any)))) g) : WI P H pn Q fs (.op (some d) none (.appR size bytes et x y) :: r) ρ σ g := i_out (by
  simp only [AWop, hx, hy]
  exact ⟨hne, hc, h1, h2, nm, hs, ht, fun b c hc => (h b c hc).out⟩)
theorem i_apr (nm : Nat) {size bytes et b n c : Nat} {xs l : List V} {x y : Opd} (hx : ev ρ x = .rsl b n c) (hy : srcR σ (ev ρ y) = some xs) (hne : xs ≠ []) (hc : ∀ row ∈ xs, row.cells.length = size ∧ row.cells.all leafB = true) (h1 : (n + xs.length) * bytes ≤ 140737488355328) (h2 : n + xs.length ≤ 140737488355328) (hs : σ nm = .box (.tag b l)) (hl : c * size ≤ l.length)
    (hr : n + xs.length ≤ c → WI P H pn Q fs r (upd ρ d (.rsl b (n + xs.length) c)) (ups σ nm (.box (.tag b (l.take (n * size) ++ flatC xs ++ l.drop (n * size + (flatC xs).length))))) g)
    (hg : c < n + xs.length → ∃ nm', σ nm' = .unused ∧ tyOkB nm' et = true ∧ ∀ b' c', n + xs.length ≤ c' → WI P H pn Q fs r (upd ρ d (.rsl b' (n + xs.length) c')) (ups σ nm' (.box (.tag b' (l.take (n * size) ++ flatC xs ++ List.replicate ((c' - (n + xs.length)) * size) .any)))) g) : WI P H pn Q fs (.op (some d) none (.appR size bytes et x y) :: r) ρ σ g := i_out (by
  simp only [AWop, hx, hy]
  exact ⟨hne, hc, h1, h2, nm, l, hs, hl, fun h => (hr h).out, fun h => by
    obtain ⟨nm', a1, a2, a3⟩ := hg h
    exact ⟨nm', a1, a2, fun b' c' hc => (a3 b' c' hc).out⟩⟩)
theorem i_frzs {t nm b n c m : Nat} {l : List V} (rows : List V) (ht : ρ t = .rsl b n c) (hs : σ nm = .box (.tag b l)) (h1 : rows.length = n) (h2 : ∀ row ∈ rows, row.cells.length = m) (h3 : (flatC rows).all pureB = true) (h4 : l.take (n * m) = flatC rows)
    (h : WI P H pn Q fs r (upd ρ t (.sl .p rows)) (ups σ nm .dead) g) : WI P H pn Q fs (.frz t :: r) ρ σ g := ⟨by
  simp only [AWits, AWit, ht]
  exact ⟨nm, l, rows, m, hs, h1, h2, h3, h4, h.out⟩⟩
theorem i_frzn {t : Nat} (ht : ρ t = .sl .nil []) (h : WI P H pn Q fs r (upd ρ t (.sl .p [])) σ g) : WI P H pn Q fs (.frz t :: r) ρ σ g := ⟨by
  simp only [AWits, AWit, ht]
  exact h.out⟩
end
theorem sw {p q : Prop} (x : q) (h : q → p := by first | exact c_seq | exact c_cut0 | exact c_ops | exact i_nil | exact e_seq | exact e_block | exact c_block | exact c_skip | exact c_ret | exact c_exit | exact e_exit rfl | exact c_leaf | fail) : p := h x
theorem sb {p q : Prop} (x : q) (h : q → p := by first | exact i_gt rfl | exact i_gf rfl | exact i_gd rfl | fail) : p := h x
theorem sp {p q r : Prop} (x : q) (z : r) (h : q → r → p := by first | exact c_node | exact i_g rfl | exact c_cond rfl | fail) : p := h x z
abbrev qm (d t : Nat) : GItem := .op (some d) none (.mov (.t t))
abbrev qc (d : Nat) (n : Int) : GItem := .op (some d) none (.mov (.c (.int .i64 n)))
abbrev qb (d : Nat) (b : Bool) : GItem := .op (some d) none (.mov (.c (.bool b)))
abbrev qq (d : Nat) (o : AOp) : GItem := .op (some d) none o
abbrev qg (d s : Nat) (b : Bool) (o : AOp) : GItem := .op (some d) (some (s, b)) o
abbrev ql (d n t : Nat) : GItem := .op (some d) none (.load false n (.t t))
abbrev qL (d n t : Nat) : GItem := .op (some d) none (.load true n (.t t))
abbrev qf (d n t : Nat) : GItem := .op (some d) none (.faddr n (.t t))
abbrev qi (d n x y : Nat) : GItem := .op (some d) none (.iaddr n (.t x) (.t y))
abbrev qn (d t : Nat) : GItem := .op (some d) none (.len false (.t t))
abbrev qx (d n m t : Nat) : GItem := .op (some d) none (.box n m (.t t))
abbrev qu (d : Nat) (o : BinOp) (l : List LT) (x y : Nat) : GItem := .op (some d) none (.bin o false l (.t x) (.t y))
abbrev qv (d : Nat) (o : BinOp) (l : List LT) (x : Nat) (n : Int) : GItem := .op (some d) none (.bin o false l (.t x) (.c (.int .i64 n)))
abbrev qk (d f : Nat) (l : List Nat) : GItem := .op (some d) none (.call .f (.c (.fn f [])) (l.map .t))
abbrev qs (n x y : Nat) : GItem := .op none none (.store n (.t x) (.t y))
abbrev qS (l : List GItem) (c : Cmd) : Cmd := .seq (.ops l) (.cut c)
abbrev qT (a c : Cmd) : Cmd := .seq a (.cut c)
theorem ft {pn : List Nat} {E : List (Nat × V)} {S : List (Nat × Blk)} {ρ : Env} {σ : Store} (h : Fits pn E S ρ σ := by first | exact ⟨by repeat (first | exact trivial | refine ⟨rfl, ?_⟩), by repeat (first | exact trivial | refine ⟨rfl, ?_⟩), rfl⟩ | fail) : Fits pn E S ρ σ := h
section
variable {G : Type} {P : Program} {H : HT G} {pn : List Nat} {Q : Exit → Env → Store → G → Prop} {fs : List (Frm G)} {ρ : Env} {σ : Store} {g : G} {r : List GItem} {dst : Option Nat}
variable {d : Nat}
theorem ja {k : IntKind} {m n : Int} {st : Bool} {et : List LT} {x y : Opd} (hx : ev ρ x = .int k m) (hy : ev ρ y = .int k n) (h : WI P H pn Q fs r (upd ρ d (.int k (m + n))) σ g) (hr : InR k (m + n) := by first | (simp only [InR, List.length_map]; omega) | fail) :
    WI P H pn Q fs (.op (some d) none (.bin .add st et x y) :: r) ρ σ g := i_add hx hy hr h
theorem jb {k : IntKind} {m n : Int} {st : Bool} {et : List LT} {x y : Opd} (hx : ev ρ x = .int k m) (hy : ev ρ y = .int k n) (h : WI P H pn Q fs r (upd ρ d (.int k (m - n))) σ g) (hr : InR k (m - n) := by first | (simp only [InR, List.length_map]; omega) | fail) :
    WI P H pn Q fs (.op (some d) none (.bin .sub st et x y) :: r) ρ σ g := i_sub hx hy hr h
theorem jc {k k' : IntKind} {n : Int} {x : Opd} (hx : ev ρ x = .int k' n) (h : WI P H pn Q fs r (upd ρ d (.int k n)) σ g) (hr : InR k n := by first | (simp only [InR, List.length_map]; omega) | fail) : WI P H pn Q fs (.op (some d) none (.conv k x) :: r) ρ σ g := i_conv hx hr h
theorem jd {α : Type} {f : α → V} {l : List α} {size : Nat} {t : Tag} {kk : IntKind} {n : Int} {c : α} {x i : Opd} (hx : ev ρ x = .sl t (l.map f)) (hi : ev ρ i = .int kk n)
    (h : WI P H pn Q fs r (upd ρ d (.cptr t (f c) 0)) σ g) (h0 : 0 ≤ n := by first | omega | fail) (hr : l[n.toNat]? = some c := by first | assumption | fail) (hw : Nat.beq size (f c).cells.length = true := by first | exact rfl | fail) : WI P H pn Q fs (.op (some d) none (.iaddr size x i) :: r) ρ σ g :=
  i_iai hx hi h0 hr hw h
theorem je {α : Type} {f : α → V} {l : List α} {size : Nat} {t : Tag} {kk : IntKind} {k : Nat} {c : α} {x i : Opd} (hx : ev ρ x = .sl t (l.map f)) (hi : ev ρ i = .int kk (k : Int))
    (h : WI P H pn Q fs r (upd ρ d (.cptr t (f c) 0)) σ g) (hr : l[k]? = some c := by first | assumption | fail) (hw : Nat.beq size (f c).cells.length = true := by first | exact rfl | fail) : WI P H pn Q fs (.op (some d) none (.iaddr size x i) :: r) ρ σ g :=
  i_iam hx hi hr hw h
theorem jf {s : List UInt8} {kk : IntKind} {k : Nat} {c : UInt8} {x i : Opd} (hx : ev ρ x = .str s) (hi : ev ρ i = .int kk (k : Int)) (h : WI P H pn Q fs r (upd ρ d (.int .u8 c.toNat)) σ g) (hc : s[k]? = some c := by first | assumption | fail) :
    WI P H pn Q fs (.op (some d) none (.index x i) :: r) ρ σ g := i_ixm hx hi hc h
theorem jg {l : List V} {len : Nat} {kk : IntKind} {n : Int} {c : V} {x i : Opd} (hx : ev ρ x = .agg l) (hi : ev ρ i = .int kk n) (h : WI P H pn Q fs r (upd ρ d c) σ g) (h0 : 0 ≤ n := by first | omega | fail) (h1 : n < len := by first | omega | fail) (hc : l[n.toNat]? = some c := by first | exact rfl | fail) :
    WI P H pn Q fs (.op (some d) none (.idxA len x i) :: r) ρ σ g := i_idxA hx hi h0 h1 hc h
theorem jh {α : Type} {f : α → V} {l : List α} {size : Nat} {t : Tag} {k2 : IntKind} {k : Nat} {x hi : Opd} (hx : ev ρ x = .sl t (l.map f)) (hhi : ev ρ hi = .int k2 (k : Int)) (h : WI P H pn Q fs r (upd ρ d (.sl t ((l.take k).map f))) σ g) (h2 : k ≤ l.length := by first | omega | fail) :
    WI P H pn Q fs (.op (some d) none (.slice false size x none (some hi)) :: r) ρ σ g := i_tk hx hhi h2 h
theorem sf {f : Opd} {args : List Opd} {fid : Nat} {as as' : List V} {v : V} (hf : calv ρ f args = some (fid, as)) (ha : as.map (er σ 6) = as') (hc : Fc P fid as' v) (h : WI P H pn Q fs r (put ρ dst v) σ g) (hp : (flatB v || pureL as) = true := by first | exact rfl | fail)
    : WI P H pn Q fs (.op dst none (.call .f f args) :: r) ρ σ g := i_f hf ha hc hp h
end
structure Flt where
  code : Int
  index : Int
instance : DecidableEq Flt := fun a b => if h : a.code = b.code ∧ a.index = b.index then isTrue (by cases a; cases b; simp only at h; rw [h.1, h.2]) else isFalse (by rintro rfl; exact h ⟨rfl, rfl⟩)
def ftV (f : Flt) : V := .agg [.int .i64 f.code, .int .i64 f.index]
def okF : Flt := ⟨0, 0⟩
def i64V (n : Int) : V := .int .i64 n
structure Sx where
  sym : List UInt8
  ch : List Int
def sxV (n : Sx) : V := .agg [.str n.sym, .sl .p (n.ch.map i64V)]
def others : List UInt8 := [45, 95, 63, 58, 61, 60, 62, 43, 42, 47, 46]
def symB (c : UInt8) : Bool := (decide (97 ≤ c.toNat) && decide (c.toNat ≤ 122)) || (decide (65 ≤ c.toNat) && decide (c.toNat ≤ 90)) || (decide (48 ≤ c.toNat) && decide (c.toNat ≤ 57)) || decide (c ∈ others)
def symbolB (s : List UInt8) : Bool := s.all symB && (decide (1 ≤ s.length) && decide (s.length ≤ 12))
def chL (l : List Sx) (i : Nat) : List Int := match l[i]? with
  | some n => n.ch
  | none => []
def sumN (f : Nat → Nat) : List Int → Nat
  | [] => 0
  | c :: r => f c.toNat + sumN f r
def maxN (f : Nat → Nat) : List Int → Nat
  | [] => 0
  | c :: r => max (f c.toNat) (maxN f r)
theorem sumN_snoc (f : Nat → Nat) : ∀ (l : List Int) (c : Int), sumN f (l ++ [c]) = sumN f l + f c.toNat
  | [], c => by simp [sumN]
  | a :: l, c => by simp only [List.cons_append, sumN, sumN_snoc f l c]; omega
theorem maxN_snoc (f : Nat → Nat) : ∀ (l : List Int) (c : Int), maxN f (l ++ [c]) = max (maxN f l) (f c.toNat)
  | [], c => by simp [maxN]
  | a :: l, c => by simp only [List.cons_append, maxN, maxN_snoc f l c]; omega
theorem sumN_congr {f g : Nat → Nat} : ∀ {l : List Int}, (∀ c ∈ l, f c.toNat = g c.toNat) → sumN f l = sumN g l
  | [], _ => rfl
  | a :: l, h => by simp only [sumN]; rw [h a (by simp), sumN_congr fun c hc => h c (by simp [hc])]
theorem maxN_congr {f g : Nat → Nat} : ∀ {l : List Int}, (∀ c ∈ l, f c.toNat = g c.toNat) → maxN f l = maxN g l
  | [], _ => rfl
  | a :: l, h => by simp only [maxN]; rw [h a (by simp), maxN_congr fun c hc => h c (by simp [hc])]
theorem sumN_rev (f : Nat → Nat) : ∀ l : List Int, sumN f l.reverse = sumN f l
  | [] => rfl
  | a :: l => by rw [List.reverse_cons, sumN_snoc, sumN_rev f l]; simp only [sumN]; omega
theorem maxN_rev (f : Nat → Nat) : ∀ l : List Int, maxN f l.reverse = maxN f l
  | [] => rfl
  | a :: l => by rw [List.reverse_cons, maxN_snoc, maxN_rev f l]; simp only [maxN]; omega
def szF (l : List Sx) : Nat → Nat → Nat
  | 0, _ => 1
  | f + 1, i => 1 + sumN (szF l f) (chL l i)
def dpF (l : List Sx) : Nat → Nat → Nat
  | 0, _ => 1
  | f + 1, i => 1 + maxN (dpF l f) (chL l i)
def sz (l : List Sx) (i : Nat) : Nat := szF l (i + 1) i
def dp (l : List Sx) (i : Nat) : Nat := dpF l (i + 1) i
def chn (l : List Sx) : Int → List Int → Option Int
  | at_, [] => some at_
  | at_, c :: r => if c < 0 ∨ c ≠ at_ - 1 then none else chn l (at_ - sz l c.toNat) r
def low (l : List Sx) (i : Nat) : Prop := ∀ c ∈ chL l i, 0 ≤ c ∧ c < i
def lowTo (l : List Sx) (n : Nat) : Prop := ∀ j, j < n → low l j
theorem szF_ok {l : List Sx} : ∀ (f i n : Nat), lowTo l n → i < n → i < f → szF l f i = sz l i
  | 0, i, n, _, _, h => by omega
  | f + 1, i, n, hl, hn, h => by
    unfold sz
    simp only [szF]
    congr 1
    refine sumN_congr fun c hc => ?_
    have := hl i hn c hc
    rw [szF_ok f c.toNat n hl (by omega) (by omega)]
    by_cases e : f = i
    · subst e
      exact (szF_ok f c.toNat n hl (by omega) (by omega)).symm
    · exact (szF_ok i c.toNat n hl (by omega) (by omega)).symm
termination_by f => f
theorem dpF_ok {l : List Sx} : ∀ (f i n : Nat), lowTo l n → i < n → i < f → dpF l f i = dp l i
  | 0, i, n, _, _, h => by omega
  | f + 1, i, n, hl, hn, h => by
    unfold dp
    simp only [dpF]
    congr 1
    refine maxN_congr fun c hc => ?_
    have := hl i hn c hc
    rw [dpF_ok f c.toNat n hl (by omega) (by omega)]
    by_cases e : f = i
    · subst e
      exact (dpF_ok f c.toNat n hl (by omega) (by omega)).symm
    · exact (dpF_ok i c.toNat n hl (by omega) (by omega)).symm
termination_by f => f
theorem sz_eq {l : List Sx} {i : Nat} (h : lowTo l (i + 1)) : sz l i = 1 + sumN (sz l) (chL l i) := by
  show szF l (i + 1) i = _
  simp only [szF]
  congr 1
  exact sumN_congr fun c hc => by
    have := h i (by omega) c hc
    exact szF_ok i c.toNat (i + 1) h (by omega) (by omega)
theorem dp_eq {l : List Sx} {i : Nat} (h : lowTo l (i + 1)) : dp l i = 1 + maxN (dp l) (chL l i) := by
  show dpF l (i + 1) i = _
  simp only [dpF]
  congr 1
  exact maxN_congr fun c hc => by
    have := h i (by omega) c hc
    exact dpF_ok i c.toNat (i + 1) h (by omega) (by omega)
theorem sz_pos (l : List Sx) (i : Nat) : 1 ≤ sz l i := by unfold sz; simp only [szF]; omega
theorem chn_end {l : List Sx} : ∀ {r : List Int} {a e : Int}, chn l a r = some e → e = a - sumN (sz l) r ∧ ∀ c ∈ r, 0 ≤ c ∧ c < a
  | [], a, e, h => by cases h; simp [sumN]
  | c :: r, a, e, h => by
    simp only [chn] at h
    split at h
    · cases h
    · rename_i hc
      simp only [not_or, Decidable.not_not] at hc
      obtain ⟨h1, h2⟩ := chn_end h
      have hp := sz_pos l c.toNat
      refine ⟨by simp only [sumN]; omega, fun d hd => ?_⟩
      rcases List.mem_cons.1 hd with rfl | hd
      · omega
      · have := h2 d hd; omega
def shapeC (n : Sx) : Int := if n.sym = [] then 0 else if symbolB n.sym = false then 12 else if n.ch ≠ [] then 5 else 0
def nodeBad (l : List Sx) (i : Nat) : Option Flt := match l[i]? with
  | none => none
  | some n => if shapeC n ≠ 0 then some ⟨shapeC n, i⟩ else if (chn l i n.ch.reverse).isNone = true then some ⟨5, i⟩ else if dp l i > 12 then some ⟨10, i⟩ else none
def sxFault (l : List Sx) : Flt := if l.length = 0 ∨ l.length > 300 then ⟨2, -1⟩ else match scan (nodeBad l) 0 l.length with
  | some f => f
  | none => if sz l (l.length - 1) ≠ l.length then ⟨5, -1⟩ else okF
structure NV (l : List Sx) (i : Nat) (n : Sx) : Prop where
  shape : shapeC n = 0
  chain : ∃ e, chn l i n.ch.reverse = some e
  depth : dp l i ≤ 12
theorem nodeBad_none {l : List Sx} {i : Nat} {n : Sx} (hn : l[i]? = some n) : nodeBad l i = none ↔ NV l i n := by
  unfold nodeBad
  rw [hn]
  simp only
  constructor
  · intro h
    split at h
    · cases h
    · rename_i h1
      split at h
      · cases h
      · rename_i h2
        split at h
        · cases h
        · rename_i h3
          refine ⟨by simpa using h1, ?_, by omega⟩
          cases hc : chn l i n.ch.reverse with
          | none => rw [hc] at h2; exact absurd rfl h2
          | some e => exact ⟨e, rfl⟩
  · rintro ⟨h1, ⟨e, h2⟩, h3⟩
    rw [if_neg (by simp [h1]), if_neg (by simp [h2]), if_neg (by omega)]
theorem chL_get {l : List Sx} {i : Nat} {n : Sx} (h : l[i]? = some n) : chL l i = n.ch := by unfold chL; rw [h]
theorem NV.low {l : List Sx} {i : Nat} {n : Sx} (hn : l[i]? = some n) (h : NV l i n) : low l i := by
  obtain ⟨e, he⟩ := h.chain
  intro c hc
  rw [chL_get hn] at hc
  exact (chn_end he).2 c (List.mem_reverse.2 hc)
def okTo (l : List Sx) (n : Nat) : Prop := ∀ j, j < n → ∀ x, l[j]? = some x → NV l j x
theorem okTo.low {l : List Sx} {n : Nat} (h : okTo l n) : lowTo l n := fun j hj => by
  cases hx : l[j]? with
  | none => intro c hc; unfold chL at hc; rw [hx] at hc; simp at hc
  | some x => exact (h j hj x hx).low hx
theorem sz_le {l : List Sx} : ∀ (i n : Nat), okTo l n → i < n → sz l i ≤ i + 1 := by
  intro i
  induction i using Nat.strongRecOn with
  | ind i ih =>
    intro n h hn
    have hlow : lowTo l (i + 1) := fun j hj => h.low j (by omega)
    rw [sz_eq hlow]
    cases hx : l[i]? with
    | none => unfold chL; rw [hx]; simp [sumN]
    | some x =>
      obtain ⟨e, he⟩ := (h i hn x hx).chain
      have h1 := (chn_end he).1
      have h2 : 0 ≤ e := by
        have key : ∀ (r : List Int) (a e : Int), 0 ≤ a → a ≤ i → chn l a r = some e → 0 ≤ e := by
          intro r
          induction r with
          | nil => intro a e ha _ hh; cases hh; exact ha
          | cons c r ihr =>
            intro a e ha hai hh
            simp only [chn] at hh
            split at hh
            · cases hh
            · rename_i hc
              simp only [not_or, Decidable.not_not] at hc
              have := ih c.toNat (by omega) n h (by omega)
              have hp := sz_pos l c.toNat
              exact ihr _ _ (by omega) (by omega) hh
        exact key _ _ _ (by omega) (Int.le_refl _) he
      rw [sumN_rev] at h1
      rw [chL_get hx]
      omega
def fst_ (l : List Sx) (i : Nat) : Int := (i : Int) + 1 - sz l i
def joinF : List (List UInt8) → List UInt8
  | [] => []
  | [a] => a
  | a :: b :: r => a ++ 32 :: joinF (b :: r)
theorem joinF_snoc : ∀ (xs : List (List UInt8)) (a : List UInt8), joinF (xs ++ [a]) = (if xs = [] then a else joinF xs ++ 32 :: a)
  | [], a => rfl
  | [x], a => rfl
  | x :: y :: r, a => by
    have := joinF_snoc (y :: r) a
    simp only [List.cons_append, joinF] at this ⊢
    rw [this]
    simp
def txF (l : List Sx) : Nat → Nat → List UInt8
  | 0, _ => []
  | f + 1, i => match l[i]? with
    | none => []
    | some n => if n.sym = [] then 40 :: (joinF (n.ch.map fun c => txF l f c.toNat) ++ [41]) else n.sym
def tx (l : List Sx) (i : Nat) : List UInt8 := txF l (i + 1) i
theorem txF_ok {l : List Sx} : ∀ (f i n : Nat), lowTo l n → i < n → i < f → txF l f i = tx l i
  | 0, i, n, _, _, h => by omega
  | f + 1, i, n, hl, hn, h => by
    unfold tx
    simp only [txF]
    cases hx : l[i]? with
    | none => rfl
    | some x =>
      simp only
      have e : x.ch.map (fun c => txF l f c.toNat) = x.ch.map (fun c => txF l i c.toNat) := List.map_congr_left fun c hc => by
        have := hl i hn c (by rw [chL_get hx]; exact hc)
        rw [txF_ok f c.toNat n hl (by omega) (by omega)]
        by_cases e : f = i
        · subst e
          exact (txF_ok f c.toNat n hl (by omega) (by omega)).symm
        · exact (txF_ok i c.toNat n hl (by omega) (by omega)).symm
      rw [e]
termination_by f => f
theorem tx_eq {l : List Sx} {i : Nat} {n : Sx} (h : lowTo l (i + 1)) (hn : l[i]? = some n) : tx l i = if n.sym = [] then 40 :: (joinF (n.ch.map fun c => tx l c.toNat) ++ [41]) else n.sym := by
  show txF l (i + 1) i = _
  simp only [txF, hn]
  have e : n.ch.map (fun c => txF l i c.toNat) = n.ch.map (fun c => tx l c.toNat) := List.map_congr_left fun c hc => by
    have := h i (by omega) c (by rw [chL_get hn]; exact hc)
    exact txF_ok i c.toNat (i + 1) h (by omega) (by omega)
  rw [e]
theorem joinF_len (g : Nat → List UInt8) (s : Nat → Nat) : ∀ l : List Int, (∀ c ∈ l, (g c.toNat).length + 2 ≤ 15 * s c.toNat) → (joinF (l.map fun c => g c.toNat)).length ≤ 15 * sumN s l
  | [], _ => by simp [joinF]
  | [a], h => by have := h a (by simp); simp [joinF, sumN]; omega
  | a :: b :: r, h => by
    have h1 := h a (by simp)
    have h2 := joinF_len g s (b :: r) fun c hc => h c (by simp [hc])
    simp only [List.map_cons, joinF, List.length_append, List.length_cons, sumN] at h2 ⊢
    omega
theorem tx_len {l : List Sx} : ∀ (i n : Nat), okTo l n → i < n → (tx l i).length + 2 ≤ 15 * sz l i := by
  intro i
  induction i using Nat.strongRecOn with
  | ind i ih =>
    intro n h hn
    have hlow : lowTo l (i + 1) := fun j hj => h.low j (by omega)
    have hp := sz_pos l i
    cases hx : l[i]? with
    | none => unfold tx; simp only [txF, hx, List.length_nil]; omega
    | some x =>
      rw [tx_eq hlow hx]
      have hv := h i hn x hx
      split
      · have hs := sz_eq hlow
        rw [chL_get hx] at hs
        have := joinF_len (tx l) (sz l) x.ch fun c hc => by
          have := hlow i (by omega) c (by rw [chL_get hx]; exact hc)
          exact ih c.toNat (by omega) n h (by omega)
        simp only [List.length_cons, List.length_append, List.length_nil]
        omega
      · rename_i hne
        have h1 := hv.shape
        unfold shapeC at h1
        rw [if_neg hne] at h1
        split at h1
        · cases h1
        · rename_i h2
          simp only [Bool.not_eq_false, symbolB, Bool.and_eq_true, decide_eq_true_eq] at h2
          omega
theorem sxFault_code (l : List Sx) : (sxFault l).code = 0 ↔ sxFault l = okF := by
  refine ⟨fun h => ?_, fun h => by rw [h]; rfl⟩
  unfold sxFault at h ⊢
  split at h
  · cases h
  · rename_i h1
    rw [if_neg h1]
    split at h
    · rename_i f hf
      exfalso
      have key : ∀ (n i : Nat) (f : Flt), scan (nodeBad l) i n = some f → f.code ≠ 0 := by
        intro n
        induction n with
        | zero => intro i f h; cases h
        | succ n ih =>
          intro i f h
          simp only [scan] at h
          split at h
          · rename_i g e
            cases h
            unfold nodeBad at e
            split at e
            · cases e
            · split at e
              · rename_i hh; cases e; exact hh
              · split at e
                · cases e; simp
                · split at e <;> cases e
                  simp
          · exact ih _ _ h
      exact key _ _ _ hf h
    · split at h
      · cases h
      · rename_i h2
        rw [if_neg h2]
structure SxOk (l : List Sx) : Prop where
  len : 1 ≤ l.length ∧ l.length ≤ 300
  node : okTo l l.length
  root : sz l (l.length - 1) = l.length
theorem scan_allX {α : Type} {bad : Nat → Option α} : ∀ (n i : Nat), scan bad i n = none → ∀ j, i ≤ j → j < i + n → bad j = none
  | 0, i, _, j, h1, h2 => by omega
  | n + 1, i, h, j, h1, h2 => by
    simp only [scan] at h
    split at h
    · cases h
    · rename_i e
      by_cases hj : j = i
      · rw [hj]; exact e
      · exact scan_allX n (i + 1) h j (by omega) (by omega)
theorem sxOk_of {l : List Sx} (h : sxFault l = okF) : SxOk l := by
  unfold sxFault at h
  split at h
  · cases h
  · rename_i h1
    split at h
    · rename_i f hf
      subst h
      have := (sxFault_code l).2 (by unfold sxFault; rw [if_neg h1, hf])
      have hc := (sxFault_code l)
      exfalso
      have key : ∀ (n i : Nat) (f : Flt), scan (nodeBad l) i n = some f → f.code ≠ 0 := by
        intro n
        induction n with
        | zero => intro i f h; cases h
        | succ n ih =>
          intro i f h
          simp only [scan] at h
          split at h
          · rename_i g e
            cases h
            unfold nodeBad at e
            split at e
            · cases e
            · split at e
              · rename_i hh; cases e; exact hh
              · split at e
                · cases e; simp
                · split at e <;> cases e
                  simp
          · exact ih _ _ h
      exact key _ _ _ hf rfl
    · rename_i hs
      split at h
      · cases h
      · rename_i h2
        refine ⟨by omega, fun j hj x hx => ?_, by simpa using h2⟩
        exact (nodeBad_none hx).1 (scan_allX _ _ hs j (Nat.zero_le _) (by omega))
theorem sxOk_to {l : List Sx} (h : SxOk l) : sxFault l = okF := by
  have hl := h.len
  unfold sxFault
  rw [if_neg (by omega), scan0_none fun j hj => ?_]
  · rw [if_neg (by simp [h.root])]
  · obtain ⟨x, hx⟩ := get_some hj
    exact (nodeBad_none hx).2 (h.node j hj x hx)
def chTo (l : List Sx) (n : Nat) : Prop := ∀ j, j < n → ∀ x, l[j]? = some x → ∃ e, chn l j x.ch.reverse = some e
theorem okTo.chs {l : List Sx} {n : Nat} (h : okTo l n) : chTo l n := fun j hj x hx => (h j hj x hx).chain
theorem chTo.low {l : List Sx} {n : Nat} (h : chTo l n) : lowTo l n := fun j hj => by
  cases hx : l[j]? with
  | none => intro c hc; unfold chL at hc; rw [hx] at hc; simp at hc
  | some x =>
    intro c hc
    obtain ⟨e, he⟩ := h j hj x hx
    rw [chL_get hx] at hc
    exact (chn_end he).2 c (List.mem_reverse.2 hc)
theorem chTo.mono {l : List Sx} {n m : Nat} (h : chTo l n) (hm : m ≤ n) : chTo l m := fun j hj => h j (by omega)
theorem sz_leC {l : List Sx} : ∀ (i n : Nat), chTo l n → i < n → sz l i ≤ i + 1 := by
  intro i
  induction i using Nat.strongRecOn with
  | ind i ih =>
    intro n h hn
    have hlow : lowTo l (i + 1) := fun j hj => h.low j (by omega)
    rw [sz_eq hlow]
    cases hx : l[i]? with
    | none => unfold chL; rw [hx]; simp [sumN]
    | some x =>
      obtain ⟨e, he⟩ := h i hn x hx
      have h1 := (chn_end he).1
      have h2 : 0 ≤ e := by
        have key : ∀ (r : List Int) (a e : Int), 0 ≤ a → a ≤ i → chn l a r = some e → 0 ≤ e := by
          intro r
          induction r with
          | nil => intro a e ha _ hh; cases hh; exact ha
          | cons c r ihr =>
            intro a e ha hai hh
            simp only [chn] at hh
            split at hh
            · cases hh
            · rename_i hc
              simp only [not_or, Decidable.not_not] at hc
              have := ih c.toNat (by omega) n h (by omega)
              have hp := sz_pos l c.toNat
              exact ihr _ _ (by omega) (by omega) hh
        exact key _ _ _ (by omega) (Int.le_refl _) he
      rw [sumN_rev] at h1
      rw [chL_get hx]
      omega
theorem chn_nn {l : List Sx} {i : Nat} (h : chTo l i) : ∀ (r : List Int) (a e : Int), 0 ≤ a → a ≤ i → chn l a r = some e → 0 ≤ e
  | [], a, e, ha, _, hh => by cases hh; exact ha
  | c :: r, a, e, ha, hai, hh => by
    simp only [chn] at hh
    split at hh
    · cases hh
    · rename_i hc
      simp only [not_or, Decidable.not_not] at hc
      have := sz_leC c.toNat i h (by omega)
      have hp := sz_pos l c.toNat
      exact chn_nn h r _ _ (by omega) (by omega) hh
theorem chn_snoc {l : List Sx} : ∀ (xs : List Int) (a c : Int), chn l a (xs ++ [c]) = match chn l a xs with
    | none => none
    | some e => if c < 0 ∨ c ≠ e - 1 then none else some (e - sz l c.toNat)
  | [], a, c => by simp only [List.nil_append, chn]
  | x :: xs, a, c => by
    simp only [List.cons_append, chn]
    split
    · rfl
    · exact chn_snoc xs _ c
theorem chn_none {l : List Sx} : ∀ (xs ys : List Int) (a : Int), chn l a xs = none → chn l a (xs ++ ys) = none
  | [], ys, a, h => by cases h
  | x :: xs, ys, a, h => by
    simp only [List.cons_append, chn] at h ⊢
    split
    · rfl
    · rename_i hc
      rw [if_neg hc] at h
      exact chn_none xs ys _ h
theorem sumN_take (f : Nat → Nat) : ∀ (l : List Int) (k : Nat), sumN f (l.take k) ≤ sumN f l
  | [], k => by simp [sumN]
  | a :: l, 0 => by simp [sumN]
  | a :: l, k + 1 => by have := sumN_take f l k; simp only [List.take_succ_cons, sumN]; omega
theorem maxN_take (f : Nat → Nat) : ∀ (l : List Int) (k : Nat), maxN f (l.take k) ≤ maxN f l
  | [], k => by simp [maxN]
  | a :: l, 0 => by simp [maxN]
  | a :: l, k + 1 => by have := maxN_take f l k; simp only [List.take_succ_cons, maxN]; omega
theorem max_le_sum {f g : Nat → Nat} : ∀ {l : List Int}, (∀ c ∈ l, f c.toNat ≤ g c.toNat) → maxN f l ≤ sumN g l
  | [], _ => Nat.le_refl _
  | a :: l, h => by
    have h1 := h a (by simp)
    have h2 := max_le_sum (l := l) fun c hc => h c (by simp [hc])
    simp only [maxN, sumN]
    omega
theorem dp_le {l : List Sx} : ∀ (i n : Nat), lowTo l n → i < n → dp l i ≤ sz l i := by
  intro i
  induction i using Nat.strongRecOn with
  | ind i ih =>
    intro n h hn
    have hlow : lowTo l (i + 1) := fun j hj => h j (by omega)
    rw [sz_eq hlow, dp_eq hlow]
    have := max_le_sum (l := chL l i) (f := dp l) (g := sz l) fun c hc => by
      have := h i hn c hc
      exact ih c.toNat (by omega) n h (by omega)
    omega
structure SxsOk (l : List Sx) : Prop where
  len : l.length ≤ 140737488355328
  e : ∀ x ∈ l, x.sym.length ≤ 140737488355328 ∧ x.ch.length ≤ 140737488355328
  r : ∀ x ∈ l, ∀ c ∈ x.ch, InR .i64 c
def blankB (c : UInt8) : Bool := decide (c ∈ ([32, 9, 10] : List UInt8))
def sk (s : List UInt8) : List UInt8 := s.dropWhile blankB
structure PR where
  rest : List UInt8
  new : List Sx
  ch : List Int
  code : Int
def prs : Nat → Bool → Nat → List UInt8 → Nat → List Int → PR
  | 0, _, _, s, _, _ => ⟨s, [], [], 1⟩
  | f + 1, true, d, s, b, _ => match sk s with
    | [] => ⟨[], [], [], 1⟩
    | c :: r => if c ≠ 40 ∧ symB c = false then ⟨c :: r, [], [], 1⟩ else if d = 12 then ⟨c :: r, [], [], 10⟩ else if c ≠ 40 then
        (if ((c :: r).takeWhile symB).length > 12 then ⟨c :: r, [], [], 1⟩ else ⟨(c :: r).dropWhile symB, [⟨(c :: r).takeWhile symB, []⟩], [], 0⟩)
      else if (prs f false d r b []).code ≠ 0 then ⟨(prs f false d r b []).rest, (prs f false d r b []).new, [], (prs f false d r b []).code⟩
      else ⟨(prs f false d r b []).rest, (prs f false d r b []).new ++ [⟨[], (prs f false d r b []).ch⟩], [], 0⟩
  | f + 1, false, d, s, b, acc => if (sk s).head? = some 41 then ⟨(sk s).tail, [], acc, 0⟩
    else if (prs f true (d + 1) (sk s) b []).code ≠ 0 then ⟨(prs f true (d + 1) (sk s) b []).rest, (prs f true (d + 1) (sk s) b []).new, [], (prs f true (d + 1) (sk s) b []).code⟩
    else ⟨(prs f false d (prs f true (d + 1) (sk s) b []).rest (b + (prs f true (d + 1) (sk s) b []).new.length) (acc ++ [((b + (prs f true (d + 1) (sk s) b []).new.length : Nat) : Int) - 1])).rest,
      (prs f true (d + 1) (sk s) b []).new ++ (prs f false d (prs f true (d + 1) (sk s) b []).rest (b + (prs f true (d + 1) (sk s) b []).new.length) (acc ++ [((b + (prs f true (d + 1) (sk s) b []).new.length : Nat) : Int) - 1])).new,
      (prs f false d (prs f true (d + 1) (sk s) b []).rest (b + (prs f true (d + 1) (sk s) b []).new.length) (acc ++ [((b + (prs f true (d + 1) (sk s) b []).new.length : Nat) : Int) - 1])).ch,
      (prs f false d (prs f true (d + 1) (sk s) b []).rest (b + (prs f true (d + 1) (sk s) b []).new.length) (acc ++ [((b + (prs f true (d + 1) (sk s) b []).new.length : Nat) : Int) - 1])).code⟩
theorem sk_suf (s : List UInt8) : sk s <:+ s := List.dropWhile_suffix _
theorem sk_head {s : List UInt8} {c : UInt8} {r : List UInt8} (h : sk s = c :: r) : blankB c = false := by
  unfold sk at h
  have := List.head?_dropWhile_not blankB s
  rw [h] at this
  simpa using this
theorem sk_cons {c : UInt8} {r : List UInt8} (h : blankB c = true) : sk (c :: r) = sk r := by unfold sk; rw [List.dropWhile_cons_of_pos h]
theorem sk_stop {c : UInt8} {r : List UInt8} (h : blankB c = false) : sk (c :: r) = c :: r := by unfold sk; rw [List.dropWhile_cons_of_neg (by simp [h])]
theorem sk_idem (s : List UInt8) : sk (sk s) = sk s := by
  cases h : sk s with
  | nil => rfl
  | cons c r => exact sk_stop (sk_head h)
theorem tw_pos {c : UInt8} {r : List UInt8} (h : symB c = true) : ((c :: r).dropWhile symB).length < (c :: r).length ∧ 0 < ((c :: r).takeWhile symB).length := by
  rw [List.dropWhile_cons_of_pos h, List.takeWhile_cons_of_pos h]
  have := (List.dropWhile_suffix symB (l := r)).length_le
  simp; omega
theorem prs_facts : ∀ (f : Nat) (m : Bool) (d : Nat) (s : List UInt8) (b : Nat) (acc : List Int), (prs f m d s b acc).rest <:+ s ∧ (prs f m d s b acc).new.length + (prs f m d s b acc).rest.length ≤ s.length ∧ (prs f m d s b acc).ch.length + (prs f m d s b acc).rest.length ≤ acc.length + s.length ∧
    ((prs f m d s b acc).code = 0 → (prs f m d s b acc).rest.length < s.length ∧ (m = true → 0 < (prs f m d s b acc).new.length))
  | 0, m, d, s, b, acc => by
    simp only [prs]
    exact ⟨List.suffix_refl s, by simp, by simp, fun h => by cases h⟩
  | f + 1, true, d, s, b, acc => by
    have hs := sk_suf s
    have hsl := hs.length_le
    simp only [prs]
    split
    · exact ⟨List.nil_suffix, by simp, by simp, fun h => by cases h⟩
    · rename_i c r hc
      rw [hc] at hs hsl
      simp only [List.length_cons] at hsl
      split
      · exact ⟨hs, by simp; omega, by simp; omega, fun h => by cases h⟩
      · rename_i h1
        split
        · exact ⟨hs, by simp; omega, by simp; omega, fun h => by cases h⟩
        · split
          · rename_i h40
            have hsym : symB c = true := by
              cases h : symB c with
              | true => rfl
              | false => exact absurd ⟨h40, h⟩ h1
            obtain ⟨q1, q2⟩ := tw_pos (r := r) hsym
            split
            · exact ⟨hs, by simp; omega, by simp; omega, fun h => by cases h⟩
            · refine ⟨(List.dropWhile_suffix _).trans hs, ?_, ?_, fun _ => ⟨?_, fun _ => by simp⟩⟩
              · simp only [List.length_cons, List.length_nil] at q1 ⊢; omega
              · simp only [List.length_cons, List.length_nil] at q1 ⊢; omega
              · simp only [List.length_cons] at q1 ⊢; omega
          · obtain ⟨i1, i2, i3, i4⟩ := prs_facts f false d r b []
            have hr : r <:+ s := (List.suffix_cons c r).trans hs
            split
            · exact ⟨i1.trans hr, by simp only; omega, by simp; omega, fun h => by simp only at h; contradiction⟩
            · rename_i h5
              have := (i4 (by simpa using h5)).1
              refine ⟨i1.trans hr, by simp; omega, by simp; omega, fun _ => ⟨by simp only; omega, fun _ => by simp⟩⟩
  | f + 1, false, d, s, b, acc => by
    have hs := sk_suf s
    have hsl := hs.length_le
    simp only [prs]
    split
    · rename_i h1
      cases hc : sk s with
      | nil => rw [hc] at h1; cases h1
      | cons c r =>
        rw [hc] at hs hsl
        simp only [List.length_cons] at hsl
        exact ⟨(List.suffix_cons c r).trans hs, by simp; omega, by simp; omega, fun _ => ⟨by simp; omega, fun h => by cases h⟩⟩
    · obtain ⟨i1, i2, i3, i4⟩ := prs_facts f true (d + 1) (sk s) b []
      generalize prs f true (d + 1) (sk s) b [] = q at *
      split
      · exact ⟨i1.trans hs, by simp; omega, by simp; omega, fun h => by simp only at h; contradiction⟩
      · rename_i h5
        have h6 := i4 (by simpa using h5)
        obtain ⟨j1, j2, j3, j4⟩ := prs_facts f false d q.rest (b + q.new.length) (acc ++ [((b + q.new.length : Nat) : Int) - 1])
        generalize prs f false d q.rest (b + q.new.length) (acc ++ [((b + q.new.length : Nat) : Int) - 1]) = q2 at *
        simp only [List.length_append, List.length_singleton] at j3
        refine ⟨(j1.trans i1).trans hs, by simp; omega, by simp only; omega, fun h => ⟨by have := (j4 h).1; simp only; omega, fun h => by cases h⟩⟩
theorem prs_fuel : ∀ (f g : Nat) (m : Bool) (d : Nat) (s : List UInt8) (b : Nat) (acc : List Int), 2 * s.length + (if m then 1 else 2) ≤ f → 2 * s.length + (if m then 1 else 2) ≤ g → prs f m d s b acc = prs g m d s b acc
  | 0, g, m, d, s, b, acc, h, _ => by cases m <;> simp at h <;> omega
  | f + 1, 0, m, d, s, b, acc, _, h => by cases m <;> simp at h <;> omega
  | f + 1, g + 1, true, d, s, b, acc, h1, h2 => by
    have hsl := (sk_suf s).length_le
    simp only [if_true] at h1 h2
    simp only [prs]
    split
    · rfl
    · rename_i c r hc
      rw [hc] at hsl
      simp only [List.length_cons] at hsl
      rw [prs_fuel f g false d r b [] (by simp; omega) (by simp; omega)]
  | f + 1, g + 1, false, d, s, b, acc, h1, h2 => by
    have hsl := (sk_suf s).length_le
    simp only [Bool.false_eq_true, if_false] at h1 h2
    simp only [prs]
    split
    · rfl
    · rw [prs_fuel f g true (d + 1) (sk s) b [] (by simp; omega) (by simp; omega)]
      obtain ⟨i1, i2, i3, i4⟩ := prs_facts g true (d + 1) (sk s) b []
      generalize prs g true (d + 1) (sk s) b [] = q at *
      split
      · rfl
      · rename_i h5
        have h6 := (i4 (by simpa using h5)).1
        rw [prs_fuel f g false d q.rest _ _ (by simp; omega) (by simp; omega)]
theorem suf_get {s t : List UInt8} {c : UInt8} {r : List UInt8} (h : s <:+ t) (e : s = c :: r) : t[((t.length : Int) - s.length).toNat]? = some c := by
  obtain ⟨p, rfl⟩ := h
  subst e
  rw [show (((p ++ c :: r).length : Int) - (c :: r).length).toNat = p.length from by simp]
  rw [List.getElem?_append_right (Nat.le_refl _)]
  simp
structure IR where
  rest : List UInt8
  out : List Sx
  code : Int
def pushO (op : List (List Int)) (j : Int) : List (List Int) := op.dropLast ++ [(op.getLast?).getD [] ++ [j]]
def itS : Nat → List UInt8 → List Sx → List (List Int) → Bool → IR
  | 0, s, out, _, _ => ⟨s, out, 1⟩
  | f + 1, s, out, op, dn => match sk s with
    | [] => ⟨[], out, if dn = true then 0 else 1⟩
    | c :: r => if dn = true ∨ (c = 41 ∧ op = []) ∨ (c ≠ 40 ∧ c ≠ 41 ∧ symB c = false) then ⟨c :: r, out, 1⟩
      else if c ≠ 41 ∧ op.length = 12 then ⟨c :: r, out, 10⟩
      else if c = 40 then itS f r out (op ++ [[]]) false
      else if c = 41 then
        (if op.dropLast = [] then itS f r (out ++ [⟨[], (op.getLast?).getD []⟩]) [] true else itS f r (out ++ [⟨[], (op.getLast?).getD []⟩]) (pushO op.dropLast out.length) false)
      else if ((c :: r).takeWhile symB).length > 12 then ⟨c :: r, out, 1⟩
      else (if op = [] then itS f ((c :: r).dropWhile symB) (out ++ [⟨(c :: r).takeWhile symB, []⟩]) [] true else itS f ((c :: r).dropWhile symB) (out ++ [⟨(c :: r).takeWhile symB, []⟩]) (pushO op out.length) false)
theorem itS_fuel : ∀ (f g : Nat) (s : List UInt8) (out : List Sx) (op : List (List Int)) (dn : Bool), s.length + 1 ≤ f → s.length + 1 ≤ g → itS f s out op dn = itS g s out op dn
  | 0, g, s, out, op, dn, h, _ => by omega
  | f + 1, 0, s, out, op, dn, _, h => by omega
  | f + 1, g + 1, s, out, op, dn, h1, h2 => by
    have hsl := (sk_suf s).length_le
    simp only [itS]
    split
    · rfl
    · rename_i c r hc
      rw [hc] at hsl
      simp only [List.length_cons] at hsl
      split
      · rfl
      · rename_i h3
        split
        · rfl
        · split
          · exact itS_fuel f g _ _ _ _ (by omega) (by omega)
          · rename_i h40
            split
            · split
              · exact itS_fuel f g _ _ _ _ (by omega) (by omega)
              · exact itS_fuel f g _ _ _ _ (by omega) (by omega)
            · rename_i h41
              split
              · rfl
              · have hs : symB c = true := by
                  cases hq : symB c with
                  | true => rfl
                  | false => exact absurd (.inr (.inr ⟨h40, h41, hq⟩)) h3
                have hd := (tw_pos (c := c) (r := r) hs).1
                simp only [List.length_cons] at hd
                split
                · exact itS_fuel f g _ _ _ _ (by omega) (by omega)
                · exact itS_fuel f g _ _ _ _ (by omega) (by omega)
def IT (s : List UInt8) (out : List Sx) (op : List (List Int)) (dn : Bool) : IR := itS (s.length + 1) s out op dn
theorem IT_any {f : Nat} {s : List UInt8} {out : List Sx} {op : List (List Int)} {dn : Bool} (h : s.length + 1 ≤ f) : itS f s out op dn = IT s out op dn := itS_fuel _ _ _ _ _ _ h (Nat.le_refl _)
section
variable {s r : List UInt8} {c : UInt8} {out : List Sx} {op : List (List Int)} {dn : Bool}
theorem IT_end (h : sk s = []) : IT s out op dn = ⟨[], out, if dn = true then 0 else 1⟩ := by show itS (s.length + 1) s out op dn = _; simp only [itS, h]
theorem IT_bad (h : sk s = c :: r) (h1 : dn = true ∨ (c = 41 ∧ op = []) ∨ (c ≠ 40 ∧ c ≠ 41 ∧ symB c = false)) : IT s out op dn = ⟨c :: r, out, 1⟩ := by
  show itS (s.length + 1) s out op dn = _; simp only [itS, h]; rw [if_pos h1]
theorem IT_deep (h : sk s = c :: r) (h1 : ¬ (dn = true ∨ (c = 41 ∧ op = []) ∨ (c ≠ 40 ∧ c ≠ 41 ∧ symB c = false))) (h2 : c ≠ 41 ∧ op.length = 12) : IT s out op dn = ⟨c :: r, out, 10⟩ := by
  show itS (s.length + 1) s out op dn = _; simp only [itS, h]; rw [if_neg h1, if_pos h2]
theorem sk_lt (h : sk s = c :: r) : r.length + 1 ≤ s.length := by
  have hsl := (sk_suf s).length_le
  rw [h] at hsl
  simpa using hsl
theorem IT_open (h : sk s = 40 :: r) (h1 : dn = false) (h2 : op.length ≠ 12) : IT s out op dn = IT r out (op ++ [[]]) false := by
  have := sk_lt h
  show itS (s.length + 1) s out op dn = _; simp only [itS, h]; rw [if_neg (by simp [h1]), if_neg (by simp [h2])]
  first | rw [if_pos rfl] | rw [if_pos trivial]
  exact IT_any (by omega)
theorem IT_close (h : sk s = 41 :: r) (h1 : dn = false) (h2 : op ≠ []) : IT s out op dn = if op.dropLast = [] then IT r (out ++ [⟨[], (op.getLast?).getD []⟩]) [] true else IT r (out ++ [⟨[], (op.getLast?).getD []⟩]) (pushO op.dropLast out.length) false := by
  have := sk_lt h
  show itS (s.length + 1) s out op dn = _; simp only [itS, h]; rw [if_neg (by simp [h1, h2]), if_neg (by simp), if_neg (by decide)]
  first | rw [if_pos rfl] | rw [if_pos trivial]
  rw [IT_any (by omega), IT_any (by omega)]
theorem IT_long (h : sk s = c :: r) (h1 : dn = false) (h2 : op.length ≠ 12) (h40 : c ≠ 40) (h41 : c ≠ 41) (hs : symB c = true) (h3 : ((c :: r).takeWhile symB).length > 12) : IT s out op dn = ⟨c :: r, out, 1⟩ := by
  show itS (s.length + 1) s out op dn = _; simp only [itS, h]; rw [if_neg (by simp [h1, h41, hs]), if_neg (by simp [h2]), if_neg h40, if_neg h41, if_pos h3]
theorem IT_sym (h : sk s = c :: r) (h1 : dn = false) (h2 : op.length ≠ 12) (h40 : c ≠ 40) (h41 : c ≠ 41) (hs : symB c = true) (h3 : ¬ ((c :: r).takeWhile symB).length > 12) : IT s out op dn = if op = [] then IT ((c :: r).dropWhile symB) (out ++ [⟨(c :: r).takeWhile symB, []⟩]) [] true else IT ((c :: r).dropWhile symB) (out ++ [⟨(c :: r).takeWhile symB, []⟩]) (pushO op out.length) false := by
  have hl := sk_lt h
  have hd := (tw_pos (c := c) (r := r) hs).1
  simp only [List.length_cons] at hd
  show itS (s.length + 1) s out op dn = _; simp only [itS, h]; rw [if_neg (by simp [h1, h41, hs]), if_neg (by simp [h2]), if_neg h40, if_neg h41, if_neg h3]
  rw [IT_any (by omega), IT_any (by omega)]
theorem IT_sk : IT (sk s) out op dn = IT s out op dn := by
  have hsl := (sk_suf s).length_le
  have e : IT s out op dn = itS (s.length + 1) (sk s) out op dn := by
    unfold IT
    simp only [itS, sk_idem]
  rw [e, IT_any (by omega)]
end
def aft (s : List UInt8) (out : List Sx) (op : List (List Int)) : IR := if op = [] then IT s out [] true else IT s out (pushO op ((out.length : Int) - 1)) false
theorem pushO_snoc (base : List (List Int)) (acc : List Int) (j : Int) : pushO (base ++ [acc]) j = base ++ [acc ++ [j]] := by unfold pushO; simp
theorem sim : ∀ (f : Nat), (∀ (d : Nat) (s : List UInt8) (out : List Sx) (op : List (List Int)), 2 * s.length + 1 ≤ f → op.length = d → ((sk s).head? ≠ some 41 ∨ op = []) →
      ((prs f true d s out.length []).code ≠ 0 → (IT s out op false).code = (prs f true d s out.length []).code ∧ (IT s out op false).rest = (prs f true d s out.length []).rest) ∧
      ((prs f true d s out.length []).code = 0 → IT s out op false = aft (prs f true d s out.length []).rest (out ++ (prs f true d s out.length []).new) op)) ∧
    (∀ (d : Nat) (s : List UInt8) (out : List Sx) (base : List (List Int)) (acc : List Int), 2 * s.length + 2 ≤ f → base.length = d →
      ((prs f false d s out.length acc).code ≠ 0 → (IT s out (base ++ [acc]) false).code = (prs f false d s out.length acc).code ∧ (IT s out (base ++ [acc]) false).rest = (prs f false d s out.length acc).rest) ∧
      ((prs f false d s out.length acc).code = 0 → IT s out (base ++ [acc]) false = aft (prs f false d s out.length acc).rest (out ++ (prs f false d s out.length acc).new ++ [⟨[], (prs f false d s out.length acc).ch⟩]) base))
  | 0 => ⟨fun d s out op h => by omega, fun d s out base acc h => by omega⟩
  | f + 1 => by
    obtain ⟨ihN, ihL⟩ := sim f
    refine ⟨fun d s out op hf hd hh => ?_, fun d s out base acc hf hd => ?_⟩
    · cases hs : sk s with
      | nil =>
        simp only [prs, hs, IT_end hs]
        refine ⟨fun _ => ⟨?_, ?_⟩, fun h => ?_⟩ <;> first | rfl | trivial | exact absurd h (by decide) | exact absurd h (by simp)
      | cons c r =>
        have hl := sk_lt hs
        by_cases h1 : c ≠ 40 ∧ symB c = false
        · have hb : false = true ∨ (c = 41 ∧ op = []) ∨ (c ≠ 40 ∧ c ≠ 41 ∧ symB c = false) := by
            by_cases h41 : c = 41
            · rcases hh with hh | hh
              · rw [hs, h41] at hh; exact absurd rfl hh
              · exact .inr (.inl ⟨h41, hh⟩)
            · exact .inr (.inr ⟨h1.1, h41, h1.2⟩)
          simp only [prs, hs, IT_bad hs hb, if_pos h1]
          refine ⟨fun _ => ⟨?_, ?_⟩, fun h => ?_⟩ <;> first | rfl | trivial | exact absurd h (by decide) | exact absurd h (by simp)
        · have h41 : c ≠ 41 := fun e => h1 ⟨by rw [e]; decide, by rw [e]; decide⟩
          have hnb : ¬ (false = true ∨ (c = 41 ∧ op = []) ∨ (c ≠ 40 ∧ c ≠ 41 ∧ symB c = false)) := by
            rintro (h | h | h)
            · cases h
            · exact h41 h.1
            · exact h1 ⟨h.1, h.2.2⟩
          by_cases h2 : d = 12
          · simp only [prs, hs, IT_deep hs hnb ⟨h41, by omega⟩, if_neg h1, if_pos h2]
            refine ⟨fun _ => ⟨?_, ?_⟩, fun h => ?_⟩ <;> first | rfl | trivial | exact absurd h (by decide) | exact absurd h (by simp)
          · by_cases h40 : c = 40
            · subst h40
              obtain ⟨l1, l2⟩ := ihL d r out op [] (by omega) hd
              rw [IT_open hs rfl (by omega)]
              by_cases hq : (prs f false d r out.length []).code = 0
              · have e : prs (f + 1) true d s out.length [] = ⟨(prs f false d r out.length []).rest, (prs f false d r out.length []).new ++ [⟨[], (prs f false d r out.length []).ch⟩], [], 0⟩ := by
                  simp only [prs, hs]; rw [if_neg h1, if_neg h2, if_neg (by simp), if_neg (by simp [hq])]
                rw [e]
                refine ⟨fun h => absurd rfl h, fun _ => ?_⟩
                rw [l2 hq]
                simp only [List.append_assoc]
              · have e : prs (f + 1) true d s out.length [] = ⟨(prs f false d r out.length []).rest, (prs f false d r out.length []).new, [], (prs f false d r out.length []).code⟩ := by
                  simp only [prs, hs]; rw [if_neg h1, if_neg h2, if_neg (by simp), if_pos hq]
                rw [e]
                exact ⟨fun _ => l1 hq, fun h => absurd h hq⟩
            · have hsym : symB c = true := by
                cases hq : symB c with
                | true => rfl
                | false => exact absurd ⟨h40, hq⟩ h1
              by_cases h3 : ((c :: r).takeWhile symB).length > 12
              · have e : prs (f + 1) true d s out.length [] = ⟨c :: r, [], [], 1⟩ := by
                  simp only [prs, hs]; rw [if_neg h1, if_neg h2, if_pos h40, if_pos h3]
                rw [e, IT_long hs rfl (by omega) h40 h41 hsym h3]
                refine ⟨fun _ => ⟨?_, ?_⟩, fun h => ?_⟩ <;> first | rfl | trivial | exact absurd h (by decide) | exact absurd h (by simp)
              · have e : prs (f + 1) true d s out.length [] = ⟨(c :: r).dropWhile symB, [⟨(c :: r).takeWhile symB, []⟩], [], 0⟩ := by
                  simp only [prs, hs]; rw [if_neg h1, if_neg h2, if_pos h40, if_neg h3]
                rw [e, IT_sym hs rfl (by omega) h40 h41 hsym h3]
                refine ⟨fun h => absurd rfl h, fun _ => ?_⟩
                unfold aft
                simp only [List.length_append, List.length_singleton]
                rw [show ((out.length + 1 : Nat) : Int) - 1 = out.length from by omega]
    · by_cases h41 : (sk s).head? = some 41
      · obtain ⟨r, hs⟩ : ∃ r, sk s = 41 :: r := by
          cases hs : sk s with
          | nil => rw [hs] at h41; cases h41
          | cons c r => rw [hs] at h41; simp only [List.head?_cons, Option.some.injEq] at h41; exact ⟨r, by rw [h41]⟩
        have e : prs (f + 1) false d s out.length acc = ⟨r, [], acc, 0⟩ := by
          simp only [prs]; rw [if_pos h41, hs]; rfl
        rw [e, IT_close hs rfl (by simp)]
        refine ⟨fun h => absurd rfl h, fun _ => ?_⟩
        unfold aft
        simp only [List.dropLast_concat, List.getLast?_concat, Option.getD_some, List.append_nil, List.length_append, List.length_singleton]
        rw [show ((out.length + 1 : Nat) : Int) - 1 = out.length from by omega]
      · have hsl := (sk_suf s).length_le
        obtain ⟨n1, n2⟩ := ihN (d + 1) (sk s) out (base ++ [acc]) (by omega) (by simp; omega) (.inl (by rw [sk_idem]; exact h41))
        rw [IT_sk] at n1 n2
        by_cases hq : (prs f true (d + 1) (sk s) out.length []).code = 0
        · have hfa := prs_facts f true (d + 1) (sk s) out.length []
          have n3 := n2 hq
          have hlt := (hfa.2.2.2 hq).1
          generalize hQ : prs f true (d + 1) (sk s) out.length [] = Q at *
          have e : prs (f + 1) false d s out.length acc = ⟨(prs f false d Q.rest (out.length + Q.new.length) (acc ++ [((out.length + Q.new.length : Nat) : Int) - 1])).rest, Q.new ++ (prs f false d Q.rest (out.length + Q.new.length) (acc ++ [((out.length + Q.new.length : Nat) : Int) - 1])).new, (prs f false d Q.rest (out.length + Q.new.length) (acc ++ [((out.length + Q.new.length : Nat) : Int) - 1])).ch, (prs f false d Q.rest (out.length + Q.new.length) (acc ++ [((out.length + Q.new.length : Nat) : Int) - 1])).code⟩ := by
            simp only [prs]
            rw [if_neg h41, hQ, if_neg (by simp [hq])]
          obtain ⟨l1, l2⟩ := ihL d Q.rest (out ++ Q.new) base (acc ++ [((out.length + Q.new.length : Nat) : Int) - 1]) (by omega) hd
          rw [List.length_append] at l1 l2
          have e2 : aft Q.rest (out ++ Q.new) (base ++ [acc]) = IT Q.rest (out ++ Q.new) (base ++ [acc ++ [((out.length + Q.new.length : Nat) : Int) - 1]]) false := by
            unfold aft
            rw [if_neg (by simp), pushO_snoc, List.length_append]
          rw [n3, e2, e]
          refine ⟨l1, fun h => ?_⟩
          rw [l2 h]
          simp only [List.append_assoc]
        · generalize hQ : prs f true (d + 1) (sk s) out.length [] = Q at *
          have e : prs (f + 1) false d s out.length acc = ⟨Q.rest, Q.new, [], Q.code⟩ := by
            simp only [prs]
            rw [if_neg h41, hQ, if_pos hq]
          rw [e]
          exact ⟨fun _ => n1 hq, fun h => absurd h hq⟩
def itF (t : List UInt8) : Flt := if t.length > 4096 then ⟨2, -1⟩ else if (IT t [] [] false).code ≠ 0 then ⟨(IT t [] [] false).code, (t.length : Int) - (IT t [] [] false).rest.length⟩ else if (IT t [] [] false).out.length > 300 then ⟨10, -1⟩ else okF
def itL (t : List UInt8) : List Sx := if itF t = okF then (IT t [] [] false).out else []
theorem closed_any (pn : List Nat) : ∀ n : Nat, closedL pn (List.replicate n V.any) = true
  | 0 => rfl
  | n + 1 => by
    rw [List.replicate_succ]
    simp only [closedL, closed_any pn n]
    rfl
theorem closed_ints (pn : List Nat) (n : Nat) : ∀ s : List Int, closedL pn (s.map i64V ++ List.replicate n V.any) = true
  | [] => closed_any pn n
  | a :: r => by
    simp only [List.map_cons, List.cons_append, closedL, closed_ints pn n r]
    rfl
theorem flat_map1 : ∀ s : List Int, flatC (s.map i64V) = s.map i64V
  | [] => rfl
  | a :: r => by
    simp only [List.map_cons, flatC, flat_map1 r]
    rfl
structure Lv where
  ch : List Int
  b : Nat
  c : Nat
  par : Nat
def Lv.row (v : Lv) : V := match v.ch with
  | [] => .sl .nil []
  | _ => .rsl v.b v.ch.length v.c
def Lv.cs (v : Lv) : List V := v.ch.map i64V ++ List.replicate (v.c - v.ch.length) .any
def LvOk (v : Lv) : Prop := v.par < 2 ∧ v.ch.length ≤ v.c
def nmL (base j : Nat) : Nat := base + 64 * j
def Lv.ent (base k : Nat) (v : Lv) : List (Nat × Blk) := match v.ch with
  | [] => []
  | _ => [(nmL base (2 * k + v.par), .box (.tag v.b v.cs))]
def dyn (base : Nat) : Nat → List Lv → List (Nat × Blk)
  | _, [] => []
  | k, v :: r => v.ent base k ++ dyn base (k + 1) r
theorem dyn_append (base : Nat) : ∀ (l m : List Lv) (k : Nat), dyn base k (l ++ m) = dyn base k l ++ dyn base (k + l.length) m
  | [], m, k => rfl
  | v :: r, m, k => by
    simp only [List.cons_append, dyn, dyn_append base r m (k + 1), List.append_assoc, List.length_cons]
    rw [show k + 1 + r.length = k + (r.length + 1) from by omega]
theorem stOf_out {n : Nat} : ∀ {l : List (Nat × Blk)}, n ∉ l.map (·.1) → stOf l n = .unused
  | [], _ => rfl
  | (d, b) :: r, h => by
    simp only [List.map_cons, List.mem_cons, not_or] at h
    simp only [stOf]
    have : Nat.beq n d = false := by
      cases hb : Nat.beq n d with
      | false => rfl
      | true => exact absurd (Nat.eq_of_beq_eq_true hb) h.1
    rw [this]
    exact stOf_out h.2
theorem stOf_app_r {n : Nat} : ∀ {l m : List (Nat × Blk)}, n ∉ l.map (·.1) → stOf (l ++ m) n = stOf m n
  | [], m, _ => rfl
  | (d, b) :: r, m, h => by
    simp only [List.map_cons, List.mem_cons, not_or] at h
    simp only [List.cons_append, stOf]
    have : Nat.beq n d = false := by
      cases hb : Nat.beq n d with
      | false => rfl
      | true => exact absurd (Nat.eq_of_beq_eq_true hb) h.1
    rw [this]
    exact stOf_app_r h.2
theorem stOf_app_l {n : Nat} : ∀ {l m : List (Nat × Blk)}, n ∈ l.map (·.1) → stOf (l ++ m) n = stOf l n
  | [], m, h => by simp at h
  | (d, b) :: r, m, h => by
    simp only [List.cons_append, stOf]
    cases hb : Nat.beq n d with
    | true => rfl
    | false =>
      have hne : n ≠ d := fun e => by rw [e, Nat.beq_refl] at hb; cases hb
      simp only [List.map_cons, List.mem_cons] at h
      exact stOf_app_l (h.resolve_left hne)
theorem stOf_in {n : Nat} : ∀ {l : List (Nat × Blk)}, stOf l n ≠ .unused → (n, stOf l n) ∈ l
  | [], h => absurd rfl h
  | (d, b) :: r, h => by
    simp only [stOf] at h ⊢
    cases hb : Nat.beq n d with
    | true => rw [Nat.eq_of_beq_eq_true hb]; simp
    | false =>
      rw [hb] at h
      exact List.mem_cons_of_mem _ (stOf_in h)
theorem ent_mem {base k : Nat} {v : Lv} {q : Nat × Blk} (h : q ∈ v.ent base k) : v.ch ≠ [] ∧ q = (nmL base (2 * k + v.par), .box (.tag v.b v.cs)) := by
  unfold Lv.ent at h
  split at h
  · cases h
  · rename_i hne
    exact ⟨fun e => hne e, by simpa using h⟩
theorem ent_eq {base k : Nat} {v : Lv} (h : v.ch ≠ []) : v.ent base k = [(nmL base (2 * k + v.par), .box (.tag v.b v.cs))] := by
  unfold Lv.ent
  split
  · rename_i e; exact absurd e h
  · rfl
theorem row_nil {v : Lv} (h : v.ch = []) : v.row = .sl .nil [] := by
  unfold Lv.row
  rw [h]
theorem row_eq {v : Lv} (h : v.ch ≠ []) : v.row = .rsl v.b v.ch.length v.c := by
  unfold Lv.row
  split
  · rename_i e; exact absurd e h
  · rfl
theorem dyn_mem {base : Nat} : ∀ {L : List Lv} {k : Nat} {q : Nat × Blk}, (∀ v ∈ L, LvOk v) → q ∈ dyn base k L → ∃ j, q.1 = nmL base j ∧ 2 * k ≤ j ∧ j < 2 * (k + L.length) ∧ ∃ v ∈ L, q.2 = .box (.tag v.b v.cs)
  | [], k, q, _, h => by cases h
  | v :: r, k, q, ho, h => by
    simp only [dyn] at h
    rcases List.mem_append.1 h with h | h
    · obtain ⟨_, rfl⟩ := ent_mem h
      have := (ho v (by simp)).1
      exact ⟨2 * k + v.par, rfl, by omega, by simp; omega, v, by simp, rfl⟩
    · obtain ⟨j, h1, h2, h3, u, hu, h4⟩ := dyn_mem (fun v hv => ho v (by simp [hv])) h
      exact ⟨j, h1, by omega, by simp; omega, u, by simp [hu], h4⟩
theorem nmL_inj {base i j : Nat} (h : nmL base i = nmL base j) : i = j := by unfold nmL at h; omega
theorem dyn_get {base : Nat} : ∀ {L : List Lv} {k : Nat} {q : Nat × Blk}, (∀ v ∈ L, LvOk v) → q ∈ dyn base k L → stOf (dyn base k L) q.1 = q.2
  | [], k, q, _, h => by cases h
  | v :: r, k, q, ho, h => by
    simp only [dyn] at h ⊢
    rcases List.mem_append.1 h with h | h
    · obtain ⟨hne, rfl⟩ := ent_mem h
      rw [stOf_app_l (by rw [ent_eq hne]; simp), ent_eq hne]
      simp only [stOf, Nat.beq_refl, cond_true]
    · obtain ⟨j, h1, h2, h3, _⟩ := dyn_mem (fun v hv => ho v (by simp [hv])) h
      rw [stOf_app_r]
      · exact dyn_get (fun v hv => ho v (by simp [hv])) h
      · intro hm
        obtain ⟨p, hp, e⟩ := List.mem_map.1 hm
        obtain ⟨_, rfl⟩ := ent_mem hp
        have := (ho v (by simp)).1
        have := nmL_inj (e.trans h1)
        omega
section
variable {base : Nat} {F : List (Nat × Blk)} {L Bs R : List Lv} {v : Lv}
theorem not_F (hF : ∀ q ∈ F, q.1 < base) (j : Nat) : nmL base j ∉ F.map (·.1) := fun h => by
  obtain ⟨q, hq, e⟩ := List.mem_map.1 h
  have := hF q hq
  have : base ≤ q.1 := by rw [e]; unfold nmL; omega
  omega
theorem st_top (hF : ∀ q ∈ F, q.1 < base) (ho : ∀ u ∈ Bs ++ [v], LvOk u) (hne : v.ch ≠ []) : stOf (F ++ dyn base 0 (Bs ++ [v])) (nmL base (2 * Bs.length + v.par)) = .box (.tag v.b v.cs) := by
  rw [stOf_app_r (not_F hF _)]
  have hm : (nmL base (2 * Bs.length + v.par), Blk.box (.tag v.b v.cs)) ∈ dyn base 0 (Bs ++ [v]) := by
    rw [dyn_append]
    refine List.mem_append_right _ ?_
    simp only [dyn, Nat.zero_add, ent_eq hne]
    simp
  exact dyn_get ho hm
theorem st_free (hF : ∀ q ∈ F, q.1 < base) (ho : ∀ u ∈ Bs ++ [v], LvOk u) {p : Nat} (hp : v.ch = [] ∨ p ≠ v.par) (hp2 : p < 2) : stOf (F ++ dyn base 0 (Bs ++ [v])) (nmL base (2 * Bs.length + p)) = .unused := by
  rw [stOf_app_r (not_F hF _)]
  refine stOf_out fun hm => ?_
  obtain ⟨q, hq, e⟩ := List.mem_map.1 hm
  rw [dyn_append] at hq
  rcases List.mem_append.1 hq with hq | hq
  · obtain ⟨j, h1, _, h3, _⟩ := dyn_mem (fun u hu => ho u (by simp [hu])) hq
    have := nmL_inj (h1.symm.trans e)
    omega
  · simp only [dyn, Nat.zero_add, List.append_nil] at hq
    obtain ⟨hne, rfl⟩ := ent_mem hq
    have := nmL_inj e
    rcases hp with hp | hp
    · exact hne hp
    · omega
theorem fitsS_of {σ : Store} : ∀ {l : List (Nat × Blk)}, (∀ q ∈ l, σ q.1 = q.2) → FitsS l σ
  | [], _ => trivial
  | q :: r, h => ⟨h q (by simp), fitsS_of fun p hp => h p (by simp [hp])⟩
theorem fitsS_all {σ : Store} : ∀ {l : List (Nat × Blk)}, FitsS l σ → ∀ q ∈ l, σ q.1 = q.2
  | [], _, q, h => by cases h
  | p :: r, h, q, hq => by
    rcases List.mem_cons.1 hq with rfl | hq
    · exact h.1
    · exact fitsS_all h.2 q hq
theorem fits_low {σ : Store} (hF : ∀ q ∈ F, q.1 < base) (ho : ∀ u ∈ Bs ++ R, LvOk u) (h : ∀ j, j < 2 * Bs.length → σ (nmL base j) = stOf (F ++ dyn base 0 (Bs ++ R)) (nmL base j)) : FitsS (dyn base 0 Bs) σ := fitsS_of fun q hq => by
  obtain ⟨j, h1, _, h3, _⟩ := dyn_mem (fun u hu => ho u (by simp [hu])) hq
  have h5 := h j (by omega)
  rw [h1, h5, stOf_app_r (not_F hF _), ← h1]
  exact dyn_get ho (by rw [dyn_append]; exact List.mem_append_left _ hq)
theorem closedSt_of {pn : List Nat} {σ : Store} : ∀ {ns : List Nat}, (∀ n ∈ ns, ∀ row, σ n = .box row → closedB pn row = true) → closedSt pn σ ns = true
  | [], _ => rfl
  | n :: r, h => by
    simp only [closedSt]
    rw [closedSt_of fun m hm => h m (by simp [hm]), Bool.and_true]
    cases hs : σ n with
    | box row => exact h n (by simp) row hs
    | _ => rfl
theorem fits_dyn {E : List (Nat × V)} {ρ : Env} {σ : Store} (ho : ∀ u ∈ L, LvOk u) (hE : FitsE E ρ) (hFs : FitsS F σ) (hD : FitsS (dyn base 0 L) σ) (hc : closedE ((F ++ dyn base 0 L).map (·.1)) E = true)
    (hb : ∀ q ∈ F, ∀ row, q.2 = .box row → closedB ((F ++ dyn base 0 L).map (·.1)) row = true) : Fits [] E (F ++ dyn base 0 L) ρ σ := by
  refine ⟨hE, fitsS_of fun q hq => ?_, ?_⟩
  · rcases List.mem_append.1 hq with hq | hq
    · exact fitsS_all hFs q hq
    · exact fitsS_all hD q hq
  · unfold fitB
    rw [hc, closedSt_of]
    · rfl
    · intro n hn row hr
      have hm := stOf_in (l := F ++ dyn base 0 L) (n := n) (by rw [hr]; intro h; cases h)
      rw [hr] at hm
      rcases List.mem_append.1 hm with hm | hm
      · exact hb _ hm row rfl
      · obtain ⟨_, _, _, _, u, _, h4⟩ := dyn_mem ho hm
        simp only at h4
        cases h4
        exact closed_ints _ _ _
end
inductive Rd : Bool → Nat → List UInt8 → Nat → List Int → List UInt8 → List Sx → List Int → Prop
  | sym {d s b acc w r} (h : sk s = w ++ r) (h0 : w ≠ []) (ha : ∀ c ∈ w, symB c = true) (hl : w.length ≤ 12) (hr : ∀ c z, r = c :: z → symB c = false) (hd : d < 12) : Rd true d s b acc r [⟨w, []⟩] []
  | lst {d s b acc r r' new ch} (h : sk s = 40 :: r) (hd : d < 12) (hi : Rd false d r b [] r' new ch) : Rd true d s b acc r' (new ++ [⟨[], ch⟩]) []
  | close {d s b acc r} (h : sk s = 41 :: r) : Rd false d s b acc r [] acc
  | next {d s b acc r1 n1 r2 n2 ch} (h : (sk s).head? ≠ some 41) (hi : Rd true (d + 1) (sk s) b [] r1 n1 []) (hj : Rd false d r1 (b + n1.length) (acc ++ [((b + n1.length : Nat) : Int) - 1]) r2 n2 ch) : Rd false d s b acc r2 (n1 ++ n2) ch
theorem tw_all (p : UInt8 → Bool) (l : List UInt8) : ∀ c ∈ l.takeWhile p, p c = true := by
  induction l with
  | nil => intro c hc; simp at hc
  | cons a l ih =>
    intro c hc
    by_cases h : p a = true
    · rw [List.takeWhile_cons_of_pos h] at hc
      rcases List.mem_cons.1 hc with rfl | hc
      · exact h
      · exact ih c hc
    · rw [List.takeWhile_cons_of_neg h] at hc
      simp at hc
theorem dw_head (p : UInt8 → Bool) (l : List UInt8) : ∀ c z, l.dropWhile p = c :: z → p c = false := by
  intro c z h
  have := List.head?_dropWhile_not p l
  rw [h] at this
  simpa using this
theorem rd_ch {m d s b acc r n ch} (h : Rd m d s b acc r n ch) : m = true → ch = [] := by
  cases h <;> simp
theorem rd_of : ∀ (f : Nat) (m : Bool) (d : Nat) (s : List UInt8) (b : Nat) (acc : List Int), (if m = true then d ≤ 12 else d < 12) → (prs f m d s b acc).code = 0 → Rd m d s b acc (prs f m d s b acc).rest (prs f m d s b acc).new (prs f m d s b acc).ch
  | 0, m, d, s, b, acc, _, h => by simp [prs] at h
  | f + 1, true, d, s, b, acc, hd, h => by
    simp only [if_true] at hd
    simp only [prs] at h ⊢
    cases hc : sk s with
    | nil => rw [hc] at h; cases h
    | cons c r =>
      rw [hc] at h
      simp only at h ⊢
      split at h
      · cases h
      · rename_i h1
        rw [if_neg h1]
        split at h
        · cases h
        · rename_i h2
          rw [if_neg h2]
          split at h
          · rename_i h40
            rw [if_pos h40]
            split at h
            · cases h
            · rename_i h4
              rw [if_neg h4]
              have hsym : symB c = true := by
                cases h : symB c with
                | true => rfl
                | false => exact absurd ⟨h40, h⟩ h1
              refine .sym (by rw [hc]; exact List.takeWhile_append_dropWhile.symm) ?_ (tw_all _ _) (by omega) (dw_head _ _) (by omega)
              rw [List.takeWhile_cons_of_pos hsym]
              simp
          · rename_i h40
            have h40 : c = 40 := by simpa using h40
            subst h40
            rw [if_neg (by simp)]
            split at h
            · rename_i h5; exact absurd h h5
            · rename_i h5
              rw [if_neg h5]
              exact .lst hc (by omega) (rd_of f false d r b [] (by simp; omega) (by simpa using h5))
  | f + 1, false, d, s, b, acc, hd, h => by
    simp only [Bool.false_eq_true, if_false] at hd
    simp only [prs] at h ⊢
    split at h
    · rename_i h1
      rw [if_pos h1]
      cases hc : sk s with
      | nil => rw [hc] at h1; cases h1
      | cons c r =>
        rw [hc] at h1
        simp only [List.head?_cons, Option.some.injEq] at h1
        subst h1
        exact .close hc
    · rename_i h1
      rw [if_neg h1]
      split at h
      · rename_i h5; exact absurd h h5
      · rename_i h5
        rw [if_neg h5]
        have hn := rd_of f true (d + 1) (sk s) b [] (by simp; omega) (by simpa using h5)
        have hch : (prs f true (d + 1) (sk s) b []).ch = [] := rd_ch hn rfl
        rw [hch] at hn
        exact .next h1 hn (rd_of f false d _ _ _ (by simp; omega) h)
end Hm
end
