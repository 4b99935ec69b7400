/- Part VA of the proof. -/
import GoSem.Claims
import Derived.RangeFuncLeaves
import Derived.RangeFuncCalls
import Derived.Laws.Append
import Derived.Laws.World
import Derived.Laws.Sem
import Derived.Laws.CopyRow
import Derived.Laws.Cells
import Derived.Laws.AppendOwn
import Derived.Laws.MakeOwn
import Derived.Laws.StructEq
import Derived.Laws.NewBlocks
set_option linter.unusedVariables false
set_option linter.unusedSimpArgs false
section
namespace Hm
open Go
def glb : List (Nat × (List Value → Prop)) := []
def drawsKept : Bool := true
inductive Tag where
 | p
 | nil
 | own (nm : Nat)
inductive V where
 | any
 | bool (b : Bool)
 | int (k : IntKind) (n : Int)
 | str (s : List UInt8)
 | agg (l : List V)
 | tup (l : List V)
 | sl (t : Tag) (rows : List V)
 | msl (nm gen i len : Nat)
 | ptr (nm gen i j : Nat)
 | bptr (nm j : Nat)
 | cptr (t : Tag) (row : V) (j : Nat)
 | nilptr
 | fn (f : Nat) (caps : List V)
 | nilfn
 | rnd
 | raw (b j : Nat)
 | tag (b : Nat) (l : List V)
 | ifc (b : Bool)
 | rsl (b n c : Nat)
 | nilmp
 | mp (nm : Nat)
 | mps (k : IntKind) (ns : List Int) (vs : List V)
 | ifv (t : Nat) (v : V)
def V.cells : V → List V
 | .agg l => l
 | .tag _ l => l
 | v => [v]
inductive Blk where
 | unused
 | dead
 | box (row : V)
 | arr (gen : Nat) (rows : List V)
 | vec (k : Nat)
 | mp (k : IntKind) (ns : List Int) (vs : List V)
abbrev Store := Nat → Blk
abbrev Env := Nat → V
abbrev Names := Nat → Option (Nat × Nat)
inductive RepP (w : World) (S : Nat → Prop) : V → Value → Prop
 | any (x : Value) : RepP w S .any x
 | bool (b : Bool) : RepP w S (.bool b) (.bool b)
 | int (k : IntKind) (n : Int) : RepP w S (.int k n) (.int k n)
 | str (l : List UInt8) : RepP w S (.str l) (.string ⟨l.toArray⟩)
 | agg (l : List V) (xs : List Value) (hl : l.length = xs.length) (h : ∀ (i : Nat) (v : V) (x : Value), l[i]? = some v → xs[i]? = some x → RepP w S v x) : RepP w S (.agg l) (.agg xs.toArray)
 | tup (l : List V) (xs : List Value) (hl : l.length = xs.length) (h : ∀ (i : Nat) (v : V) (x : Value), l[i]? = some v → xs[i]? = some x → RepP w S v x) : RepP w S (.tup l) (.tuple xs.toArray)
 | fn (f : Nat) (l : List V) (xs : List Value) (hl : l.length = xs.length) (h : ∀ (i : Nat) (v : V) (x : Value), l[i]? = some v → xs[i]? = some x → RepP w S v x) : RepP w S (.fn f l) (.func (.func f) #[] xs.toArray)
 | nilsl (a : Option Addr) : RepP w S (.sl .nil []) (.slice a 0 0)
 | emp (a : Option Addr) (cap : Nat) : RepP w S (.sl .p []) (.slice a 0 cap)
 | sl (rows : List V) (b off cap m : Nat) (ys : Nat → Nat → Value) (hS : S b) (hcap : rows.length ≤ cap) (hw : ∀ row ∈ rows, row.cells.length = m)
   (hc : ∀ (i j : Nat) (row v : V), rows[i]? = some row → row.cells[j]? = some v → w.cell? ⟨b, off + i * m + j, none⟩ = some (ys i j))
   (hr : ∀ (i j : Nat) (row v : V), rows[i]? = some row → row.cells[j]? = some v → RepP w S v (ys i j)) :
   RepP w S (.sl .p rows) (.slice (some ⟨b, off, none⟩) rows.length cap)
 | cptr (row : V) (b o j : Nat) (ys : Nat → Value) (hS : S b)
   (hc : ∀ (i : Nat) (v : V), row.cells[i]? = some v → w.cell? ⟨b, o + i, none⟩ = some (ys i))
   (hr : ∀ (i : Nat) (v : V), row.cells[i]? = some v → RepP w S v (ys i)) :
   RepP w S (.cptr .p row j) (.pointer (some ⟨b, o + j, none⟩))
 | nilptr : RepP w S .nilptr (.pointer none)
 | nilfn : RepP w S .nilfn .nilFunc
 | nilmp : RepP w S .nilmp (.map none)
 | raw (b j : Nat) : RepP w S (.raw b j) (.pointer (some ⟨b, j, none⟩))
 | rsl (b n c : Nat) (hle : n ≤ c) : RepP w S (.rsl b n c) (.slice (some ⟨b, 0, none⟩) n c)
 | ifcN : RepP w S (.ifc true) .nilIface
 | ifcS (t : TypeId) (p : Value) : RepP w S (.ifc false) (.iface t p)
 | mps (k : IntKind) (ns : List Int) (vs : List V) (r : Nat) (es : Array MapEntry) (clk : Nat) (hS : S r) (hw : w.heap[r]? = some (.map es clk)) (hn : es.size = ns.length) (hv : vs.length = ns.length)
   (hk : ∀ (i : Nat) (n : Int) (e : MapEntry), ns[i]? = some n → es[i]? = some e → e.key = .int k n)
   (hr : ∀ (i : Nat) (v : V) (e : MapEntry), vs[i]? = some v → es[i]? = some e → RepP w S v e.val) : RepP w S (.mps k ns vs) (.map (some r))
 | ifv (t : TypeId) (v : V) (x : Value) (h : RepP w S v x) : RepP w S (.ifv t v) (.iface t x)
theorem cell_of_heap {w w' : World} {b o : Nat} (h : w'.heap[b]? = w.heap[b]?) : w'.cell? ⟨b, o, none⟩ = w.cell? ⟨b, o, none⟩ := by
 simp [World.cell?, h]
theorem RepP.mono {w w' : World} {S S' : Nat → Prop} (hk : ∀ b, S b → w'.heap[b]? = w.heap[b]?) (hS : ∀ b, S b → S' b) {v : V} {x : Value} (h : RepP w S v x) : RepP w' S' v x := by
 induction h with
 | any x => exact .any x
 | bool b => exact .bool b
 | int k n => exact .int k n
 | str l => exact .str l
 | agg l xs hl _ ih => exact .agg l xs hl ih
 | tup l xs hl _ ih => exact .tup l xs hl ih
 | fn f l xs hl _ ih => exact .fn f l xs hl ih
 | nilsl a => exact .nilsl a
 | emp a cap => exact .emp a cap
 | sl rows b off cap m ys hSb hcap hw hc _ ih =>
  exact .sl rows b off cap m ys (hS b hSb) hcap hw (fun i j row v h1 h2 => (cell_of_heap (hk b hSb)).trans (hc i j row v h1 h2)) ih
 | cptr row b o j ys hSb hc _ ih => exact .cptr row b o j ys (hS b hSb) (fun i v h1 => (cell_of_heap (hk b hSb)).trans (hc i v h1)) ih
 | nilptr => exact .nilptr
 | nilfn => exact .nilfn
 | nilmp => exact .nilmp
 | raw b j => exact .raw b j
 | rsl b n c h => exact .rsl b n c h
 | ifcN => exact .ifcN
 | ifcS t p => exact .ifcS t p
 | mps k ns vs r es clk hSr hw hn hv hk' _ ih => exact .mps k ns vs r es clk (hS r hSr) ((hk r hSr).trans hw) hn hv hk' ih
 | ifv t v x _ ih => exact .ifv t v x ih
def CapOk (w : World) (b n : Nat) : Prop := ∃ (c : Array Value) (e : TypeId), w.heap[b]? = some (.cells c e (0, 0)) ∧ n ≤ c.size
inductive Rep (w : World) (S : Nat → Prop) (θ : Names) (σ : Store) (l : Nat) : V → Value → Prop
 | pure {v : V} {x : Value} (h : RepP w S v x) : Rep w S θ σ l v x
 | agg (vs : List V) (xs : List Value) (hl : vs.length = xs.length) (h : ∀ (i : Nat) (v : V) (x : Value), vs[i]? = some v → xs[i]? = some x → Rep w S θ σ l v x) : Rep w S θ σ l (.agg vs) (.agg xs.toArray)
 | tup (vs : List V) (xs : List Value) (hl : vs.length = xs.length) (h : ∀ (i : Nat) (v : V) (x : Value), vs[i]? = some v → xs[i]? = some x → Rep w S θ σ l v x) : Rep w S θ σ l (.tup vs) (.tuple xs.toArray)
 | fn (f : Nat) (vs : List V) (xs : List Value) (hl : vs.length = xs.length) (h : ∀ (i : Nat) (v : V) (x : Value), vs[i]? = some v → xs[i]? = some x → Rep w S θ σ l v x) : Rep w S θ σ l (.fn f vs) (.func (.func f) #[] xs.toArray)
 | bptr (nm j : Nat) (x : Value) (ho : x.oneCell' = true) (hn : σ nm ≠ .unused) (h : ∀ row, σ nm = .box row → ∃ b m, θ nm = some (b, m) ∧ x = .pointer (some ⟨b, j, none⟩)) : Rep w S θ σ l (.bptr nm j) x
 | ptr (nm gen i j : Nat) (x : Value) (ho : x.oneCell' = true) (hn : σ nm ≠ .unused) (hg : ∀ gen' rows, σ nm = .arr gen' rows → gen ≤ gen') (h : ∀ rows, σ nm = .arr gen rows → ∃ b m, θ nm = some (b, m) ∧ x = .pointer (some ⟨b, i * m + j, none⟩)) : Rep w S θ σ l (.ptr nm gen i j) x
 | msl (nm gen i len : Nat) (x : Value) (ho : x.oneCell' = true) (hn : σ nm ≠ .unused) (hg : ∀ gen' rows, σ nm = .arr gen' rows → gen ≤ gen')
   (h : ∀ rows, σ nm = .arr gen rows → (∃ b m cap, θ nm = some (b, m) ∧ len ≤ cap ∧ x = .slice (some ⟨b, i * m, none⟩) len cap ∧ CapOk w b ((i + cap) * m) ∧ i + len ≤ rows.length) ∨ (len = 0 ∧ ∃ a, x = .slice a 0 0)) :
   Rep w S θ σ l (.msl nm gen i len) x
 | own (nm : Nat) (rows : List V) (b off cap m : Nat) (ys : Nat → Nat → Value) (hn : σ nm ≠ .unused)
   (hb : S b ∨ ∃ m' k, θ nm = some (b, m') ∧ σ nm = .vec k ∧ off + rows.length * m ≤ k * m')
   (hcap : rows.length ≤ cap) (hw : ∀ row ∈ rows, row.cells.length = m)
   (hc : ∀ (i j : Nat) (row v : V), rows[i]? = some row → row.cells[j]? = some v → w.cell? ⟨b, off + i * m + j, none⟩ = some (ys i j))
   (hr : ∀ (i j : Nat) (row v : V), rows[i]? = some row → row.cells[j]? = some v → RepP w S v (ys i j))
   (hf : ∀ k, σ nm = .vec k → rows.length ≤ k ∧ (rows.length = k → θ nm = some (b, m) ∧ off = 0 ∧ CapOk w b (cap * m))) :
   Rep w S θ σ l (.sl (.own nm) rows) (.slice (some ⟨b, off, none⟩) rows.length cap)
 | ownemp (nm : Nat) (a : Option Addr) (hn : σ nm ≠ .unused) : Rep w S θ σ l (.sl (.own nm) []) (.slice a 0 0)
 | cptro (nm : Nat) (row : V) (b o j : Nat) (ys : Nat → Value) (hn : σ nm ≠ .unused)
   (hb : S b ∨ ∃ m' k, θ nm = some (b, m') ∧ σ nm = .vec k ∧ o + row.cells.length ≤ k * m')
   (hc : ∀ (i : Nat) (v : V), row.cells[i]? = some v → w.cell? ⟨b, o + i, none⟩ = some (ys i))
   (hr : ∀ (i : Nat) (v : V), row.cells[i]? = some v → RepP w S v (ys i)) :
   Rep w S θ σ l (.cptr (.own nm) row j) (.pointer (some ⟨b, o + j, none⟩))
 | rnd : Rep w S θ σ l .rnd (.func (.yield l) #[] #[])
 | mp (nm : Nat) (x : Value) (ho : x.oneCell' = true) (hn : σ nm ≠ .unused) (h : ∀ k ns vs, σ nm = .mp k ns vs → ∃ r, θ nm = some (r, 0) ∧ x = .map (some r)) : Rep w S θ σ l (.mp nm) x
 | ifv (t : TypeId) (v : V) (x : Value) (h : Rep w S θ σ l v x) : Rep w S θ σ l (.ifv t v) (.iface t x)
def Blk.live : Blk → Prop
 | .box _ | .arr _ _ | .vec _ | .mp _ _ _ => True
 | _ => False
def LiveB (θ : Names) (σ : Store) (b : Nat) : Prop := ∃ nm m, (σ nm).live ∧ θ nm = some (b, m)
def tagOk (b : Nat) : V → Prop
 | .tag b' _ => b' = b
 | _ => True
def wd (nm : Nat) : Nat := nm % 64
def tyOk (nm : Nat) (e : TypeId) : Prop := nm / 1099511627776 = 0 ∨ nm / 1099511627776 = e + 1
def tyOkB (nm : Nat) (e : TypeId) : Bool := Nat.beq (nm / 1099511627776) 0 || Nat.beq (nm / 1099511627776) (e + 1)
theorem tyOk_of {nm : Nat} {e : TypeId} (h : tyOkB nm e = true) : tyOk nm e := by
 rcases Bool.or_eq_true_iff.1 h with h | h
 · exact .inl (Nat.eq_of_beq_eq_true h)
 · exact .inr (Nat.eq_of_beq_eq_true h)
def MapRep (w : World) (S : Nat → Prop) (k : IntKind) (ns : List Int) (vs : List V) (es : Array MapEntry) : Prop := es.size = ns.length ∧ vs.length = ns.length ∧
 (∀ (i : Nat) (n : Int) (e : MapEntry), ns[i]? = some n → es[i]? = some e → e.key = .int k n) ∧ ∀ (i : Nat) (v : V) (e : MapEntry), vs[i]? = some v → es[i]? = some e → RepP w S v e.val
def BlkOk (w : World) (S : Nat → Prop) (θ : Names) (σ : Store) (l nm : Nat) : Blk → Prop
 | .unused => θ nm = none
 | .dead => True
 | .box row => ∃ (b : Nat) (c : Array Value) (e : TypeId), θ nm = some (b, row.cells.length) ∧ w.heap[b]? = some (.cells c e (0, 0)) ∧ (c.size = row.cells.length ∧ tyOk nm e ∧ tagOk b row) ∧
   ∀ (j : Nat) (v : V), row.cells[j]? = some v → ∃ y, c[j]? = some y ∧ Rep w S θ σ l v y
 | .arr _ rows => (θ nm = none ∧ rows = []) ∨ ∃ (b m : Nat) (c : Array Value) (e : TypeId), θ nm = some (b, m) ∧ w.heap[b]? = some (.cells c e (0, 0)) ∧ (∀ row ∈ rows, row.cells.length = m) ∧ (m = wd nm ∧ rows.length * m ≤ c.size) ∧
   ∀ (i j : Nat) (row v : V), rows[i]? = some row → row.cells[j]? = some v → ∃ y, c[i * m + j]? = some y ∧ RepP w S v y
 | .vec k => (θ nm = none ∧ k = 0) ∨ ∃ (b m : Nat) (c : Array Value) (e : TypeId), θ nm = some (b, m) ∧ w.heap[b]? = some (.cells c e (0, 0)) ∧ (m = wd nm ∧ k * m ≤ c.size ∧ tyOk nm e)
 | .mp k ns vs => ∃ (r : Nat) (es : Array MapEntry) (clk : Nat), θ nm = some (r, 0) ∧ w.heap[r]? = some (.map es clk) ∧ MapRep w S k ns vs es
abbrev JT (G : Type) := G → World → (Nat → Prop) → (Nat → Prop) → Prop
structure St {G : Type} (J : JT G) (w : World) (S F : Nat → Prop) (θ : Names) (σ : Store) (l : Nat) (g : G) : Prop where
 hS : ∀ b, S b → b < w.heap.size
 hblk : ∀ nm, BlkOk w S θ σ l nm (σ nm)
 hinj : ∀ nm nm' b m m', (σ nm).live → (σ nm').live → θ nm = some (b, m) → θ nm' = some (b, m') → nm = nm'
 hliveS : ∀ b, LiveB θ σ b → ¬ S b
 hF : ∀ b, F b → b < w.heap.size ∧ ¬ S b ∧ ¬ LiveB θ σ b
 hJ : J g w S F
def Out (w w' : World) : Prop := w'.output = w.output ∧ (drawsKept = true → w.drawn ≤ w'.drawn)
theorem Out.refl (w : World) : Out w w := ⟨rfl, fun _ => Nat.le_refl _⟩
theorem Out.trans {w w' w'' : World} (k : Out w' w'') (h : Out w w') : Out w w'' := ⟨k.1.trans h.1, fun d => Nat.le_trans (h.2 d) (k.2 d)⟩
theorem Out.of {w w' : World} (h : w'.output = w.output) (k : w.drawn ≤ w'.drawn) : Out w w' := ⟨h, fun _ => k⟩
structure Fr (w : World) (S F : Nat → Prop) (θ : Names) (σ : Store) (w' : World) (S' F' : Nat → Prop) (θ' : Names) (σ' : Store) : Prop where
 size : w.heap.size ≤ w'.heap.size
 os : w'.os = w.os
 tape : w'.tape = w.tape
 output : Out w w'
 same : ∀ b, b < w.heap.size → ¬ LiveB θ σ b → ¬ F b → w'.heap[b]? = w.heap[b]?
 sized : ∀ (b : Nat) (c : Array Value) (e : TypeId) (fr : Nat × Nat), w.heap[b]? = some (.cells c e fr) → ∃ (c' : Array Value) (fr' : Nat × Nat), w'.heap[b]? = some (.cells c' e fr') ∧ c'.size = c.size ∧ (fr' = fr ∨ (S' b ∧ ¬ LiveB θ' σ' b))
 vecs : ∀ nm k b m, σ nm = .vec k → θ nm = some (b, m) → ∀ j, j < k * m → w'.cell? ⟨b, j, none⟩ = w.cell? ⟨b, j, none⟩
 smono : ∀ b, S b → S' b
 snew : ∀ b, S' b → S b ∨ LiveB θ σ b ∨ F b ∨ w.heap.size ≤ b
 live : ∀ b, LiveB θ' σ' b → b < w.heap.size → LiveB θ σ b
 fsub : ∀ b, F' b → b < w.heap.size → F b
 kdead : ∀ nm, σ nm = .dead → σ' nm = .dead
 kbox : ∀ nm row, σ nm = .box row → σ' nm = .dead ∨ ∃ row', σ' nm = .box row' ∧ θ' nm = θ nm
 karr : ∀ nm gen rows, σ nm = .arr gen rows → σ' nm = .dead ∨ ∃ gen' rows', σ' nm = .arr gen' rows' ∧ gen ≤ gen' ∧ (gen = gen' → θ' nm = θ nm ∧ rows.length ≤ rows'.length)
 kvec : ∀ nm k, σ nm = .vec k → (σ' nm = .dead ∧ ∀ b m, θ nm = some (b, m) → S' b) ∨
  ∃ k', σ' nm = .vec k' ∧ k ≤ k' ∧ (k = k' → θ' nm = θ nm) ∧ ∀ b m, θ nm = some (b, m) → θ' nm = some (b, m) ∨ S' b
 kmp : ∀ nm k ns vs, σ nm = .mp k ns vs → σ' nm = .dead ∨ ∃ k' ns' vs', σ' nm = .mp k' ns' vs' ∧ θ' nm = θ nm
section
variable {G : Type} {J : JT G} {w w' w'' : World} {S F S' F' S'' F'' : Nat → Prop} {θ θ' θ'' : Names} {σ σ' σ'' : Store} {l : Nat} {g g' : G}
theorem live_vec {σ : Store} {nm k : Nat} (h : σ nm = .vec k) : (σ nm).live := by rw [h]; trivial
theorem live_arr {σ : Store} {nm gen : Nat} {rows : List V} (h : σ nm = .arr gen rows) : (σ nm).live := by rw [h]; trivial
theorem live_mp {σ : Store} {nm : Nat} {k : IntKind} {ns : List Int} {vs : List V} (h : σ nm = .mp k ns vs) : (σ nm).live := by rw [h]; trivial
theorem live_box {σ : Store} {nm : Nat} {row : V} (h : σ nm = .box row) : (σ nm).live := by rw [h]; trivial
theorem Fr.refl (w : World) (S F : Nat → Prop) (θ : Names) (σ : Store) : Fr w S F θ σ w S F θ σ where
 size := Nat.le_refl _
 os := rfl
 tape := rfl
 output := Out.refl _
 same := fun _ _ _ _ => rfl
 sized := fun _ c _ fr h => ⟨c, fr, h, rfl, .inl rfl⟩
 vecs := fun _ _ _ _ _ _ _ _ => rfl
 smono := fun _ h => h
 snew := fun _ h => .inl h
 live := fun _ h _ => h
 fsub := fun _ h _ => h
 kdead := fun _ h => h
 kbox := fun _ row h => .inr ⟨row, h, rfl⟩
 karr := fun _ gen rows h => .inr ⟨gen, rows, h, Nat.le_refl _, fun _ => ⟨rfl, Nat.le_refl _⟩⟩
 kvec := fun _ k h => .inr ⟨k, h, Nat.le_refl _, fun _ => rfl, fun _ _ h => .inl h⟩
 kmp := fun _ k ns vs h => .inr ⟨k, ns, vs, h, rfl⟩
theorem Fr.stable (h : Fr w S F θ σ w' S' F' θ' σ') (hs : St J w S F θ σ l g) (b : Nat) (hb : S b) : w'.heap[b]? = w.heap[b]? :=
 h.same b (hs.hS b hb) (fun hl => hs.hliveS b hl hb) (fun hf => (hs.hF b hf).2.1 hb)
theorem Fr.trans (h : Fr w S F θ σ w' S' F' θ' σ') (hs' : St J w' S' F' θ' σ' l g) (k : Fr w' S' F' θ' σ' w'' S'' F'' θ'' σ'') : Fr w S F θ σ w'' S'' F'' θ'' σ'' where
 size := Nat.le_trans h.size k.size
 os := k.os.trans h.os
 tape := k.tape.trans h.tape
 output := k.output.trans h.output
 same := fun b hb hl hf => (k.same b (Nat.lt_of_lt_of_le hb h.size) (fun hl' => hl (h.live b hl' hb)) (fun hf' => hf (h.fsub b hf' hb))).trans (h.same b hb hl hf)
 sized := fun b c e fr hc => by
  obtain ⟨c1, f1, h1, h2, h5⟩ := h.sized b c e fr hc
  obtain ⟨c2, f2, h3, h4, h6⟩ := k.sized b c1 e f1 h1
  refine ⟨c2, f2, h3, h4.trans h2, ?_⟩
  rcases h6 with rfl | h6
  · rcases h5 with rfl | ⟨h7, h8⟩
    · exact .inl rfl
    · exact .inr ⟨k.smono b h7, fun hl => h8 (k.live b hl (Array.getElem?_eq_some_iff.1 h1).1)⟩
  · exact .inr h6
 vecs := fun nm q b m hq hb j hj => by
  have h1 := h.vecs nm q b m hq hb j hj
  rcases h.kvec nm q hq with ⟨_, hd⟩ | ⟨q', hq', hle, _, hθ⟩
  · exact (cell_of_heap (k.stable hs' b (hd b m hb))).trans h1
  · rcases hθ b m hb with hθ | hS'
    · exact (k.vecs nm q' b m hq' hθ j (Nat.lt_of_lt_of_le hj (Nat.mul_le_mul_right m hle))).trans h1
    · exact (cell_of_heap (k.stable hs' b hS')).trans h1
 smono := fun b hb => k.smono b (h.smono b hb)
 snew := fun b hb => by
  rcases k.snew b hb with h1 | h1 | h1 | h1
  · exact h.snew b h1
  · by_cases hlt : b < w.heap.size
    · exact .inr (.inl (h.live b h1 hlt))
    · exact .inr (.inr (.inr (Nat.le_of_not_lt hlt)))
  · by_cases hlt : b < w.heap.size
    · exact .inr (.inr (.inl (h.fsub b h1 hlt)))
    · exact .inr (.inr (.inr (Nat.le_of_not_lt hlt)))
  · exact .inr (.inr (.inr (Nat.le_trans h.size h1)))
 live := fun b hb hlt => h.live b (k.live b hb (Nat.lt_of_lt_of_le hlt h.size)) hlt
 fsub := fun b hb hlt => h.fsub b (k.fsub b hb (Nat.lt_of_lt_of_le hlt h.size)) hlt
 kdead := fun nm hn => k.kdead nm (h.kdead nm hn)
 kbox := fun nm row hn => by
  rcases h.kbox nm row hn with h1 | ⟨row', h1, h2⟩
  · exact .inl (k.kdead nm h1)
  · rcases k.kbox nm row' h1 with h3 | ⟨row'', h3, h4⟩
    · exact .inl h3
    · exact .inr ⟨row'', h3, h4.trans h2⟩
 karr := fun nm gen rows hn => by
  rcases h.karr nm gen rows hn with h1 | ⟨gen', rows', h1, hle, h2⟩
  · exact .inl (k.kdead nm h1)
  · rcases k.karr nm gen' rows' h1 with h3 | ⟨gen'', rows'', h3, hle', h4⟩
    · exact .inl h3
    · refine .inr ⟨gen'', rows'', h3, Nat.le_trans hle hle', fun e => ?_⟩
      have e1 : gen = gen' := by omega
      have e2 : gen' = gen'' := by omega
      exact ⟨(h4 e2).1.trans (h2 e1).1, Nat.le_trans (h2 e1).2 (h4 e2).2⟩
 kvec := fun nm q hq => by
  rcases h.kvec nm q hq with ⟨h1, h2⟩ | ⟨q', h1, hle, h2, h3⟩
  · exact .inl ⟨k.kdead nm h1, fun b m hb => k.smono b (h2 b m hb)⟩
  · rcases k.kvec nm q' h1 with ⟨h4, h5⟩ | ⟨q'', h4, hle', h5, h6⟩
    · refine .inl ⟨h4, fun b m hb => ?_⟩
      rcases h3 b m hb with h7 | h7
      · exact h5 b m h7
      · exact k.smono b h7
    · refine .inr ⟨q'', h4, Nat.le_trans hle hle', fun e => ?_, fun b m hb => ?_⟩
      · have e1 : q = q' := by omega
        have e2 : q' = q'' := by omega
        exact (h5 e2).trans (h2 e1)
      · rcases h3 b m hb with h7 | h7
        · exact h6 b m h7
        · exact .inr (k.smono b h7)
 kmp := fun nm q ns vs hn => by
  rcases h.kmp nm q ns vs hn with h1 | ⟨q', ns', vs', h1, h2⟩
  · exact .inl (k.kdead nm h1)
  · rcases k.kmp nm q' ns' vs' h1 with h3 | ⟨q'', ns'', vs'', h3, h4⟩
    · exact .inl h3
    · exact .inr ⟨q'', ns'', vs'', h3, h4.trans h2⟩
theorem CapOk.fr (h : Fr w S F θ σ w' S' F' θ' σ') {b n : Nat} (hl : LiveB θ' σ' b) (hc : CapOk w b n) : CapOk w' b n := by
 obtain ⟨c, e, h1, h2⟩ := hc
 obtain ⟨c', f, h3, h4, h5⟩ := h.sized b c e _ h1
 rcases h5 with rfl | ⟨_, h5⟩
 · exact ⟨c', e, h3, by omega⟩
 · exact absurd hl h5
theorem Fr.sizedS (h : Fr w S F θ σ w' S' F' θ' σ') (b : Nat) (c : Array Value) (e : TypeId) (fr : Nat × Nat) (hc : w.heap[b]? = some (.cells c e fr)) :
  ∃ (c' : Array Value) (fr' : Nat × Nat), w'.heap[b]? = some (.cells c' e fr') ∧ c'.size = c.size ∧ (fr' = fr ∨ S' b) := by
 obtain ⟨c', f, h3, h4, h5⟩ := h.sized b c e fr hc
 exact ⟨c', f, h3, h4, h5.imp id And.left⟩
theorem Fr.used (h : Fr w S F θ σ w' S' F' θ' σ') {nm : Nat} (hn : σ nm ≠ .unused) : σ' nm ≠ .unused := by
 intro hu
 cases hk : σ nm with
 | unused => exact hn hk
 | dead => rw [h.kdead nm hk] at hu; cases hu
 | box row => rcases h.kbox nm row hk with h1 | ⟨_, h1, _⟩ <;> rw [h1] at hu <;> cases hu
 | arr gen rows => rcases h.karr nm gen rows hk with h1 | ⟨_, _, h1, _⟩ <;> rw [h1] at hu <;> cases hu
 | vec k => rcases h.kvec nm k hk with ⟨h1, _⟩ | ⟨_, h1, _⟩ <;> rw [h1] at hu <;> cases hu
 | mp k ns vs => rcases h.kmp nm k ns vs hk with h1 | ⟨_, _, _, h1, _⟩ <;> rw [h1] at hu <;> cases hu
theorem Rep.fr (h : Fr w S F θ σ w' S' F' θ' σ') (hs : St J w S F θ σ l g) {v : V} {x : Value} (hr : Rep w S θ σ l v x) : Rep w' S' θ' σ' l v x := by
 have hp : ∀ {v : V} {x : Value}, RepP w S v x → RepP w' S' v x := fun h1 => h1.mono (h.stable hs) h.smono
 induction hr with
 | pure h1 => exact .pure (hp h1)
 | agg vs xs hl _ ih => exact .agg vs xs hl ih
 | tup vs xs hl _ ih => exact .tup vs xs hl ih
 | fn f vs xs hl _ ih => exact .fn f vs xs hl ih
 | bptr nm j x ho hn h1 =>
  refine .bptr nm j x ho (h.used hn) fun row hrow => ?_
  cases hk : σ nm with
  | unused => exact absurd hk hn
  | dead => rw [h.kdead nm hk] at hrow; cases hrow
  | box row0 =>
   rcases h.kbox nm row0 hk with h2 | ⟨row', h2, h3⟩
   · rw [h2] at hrow; cases hrow
   · rw [h3]; exact h1 row0 hk
  | arr gen rows => rcases h.karr nm gen rows hk with h2 | ⟨_, _, h2, _⟩ <;> rw [h2] at hrow <;> cases hrow
  | vec k => rcases h.kvec nm k hk with ⟨h2, _⟩ | ⟨_, h2, _⟩ <;> rw [h2] at hrow <;> cases hrow
  | mp k ns vs => rcases h.kmp nm k ns vs hk with h1 | ⟨_, _, _, h1, _⟩ <;> rw [h1] at hrow <;> cases hrow
 | ptr nm gen i j x ho hn hg h1 =>
  have key : ∀ gen' rows, σ' nm = .arr gen' rows → gen ≤ gen' ∧ (gen = gen' → ∃ b m, θ' nm = some (b, m) ∧ x = .pointer (some ⟨b, i * m + j, none⟩)) := by
   intro gen' rows hrow
   cases hk : σ nm with
   | unused => exact absurd hk hn
   | dead => rw [h.kdead nm hk] at hrow; cases hrow
   | box row0 => rcases h.kbox nm row0 hk with h2 | ⟨_, h2, _⟩ <;> rw [h2] at hrow <;> cases hrow
   | arr gen0 rows0 =>
    rcases h.karr nm gen0 rows0 hk with h2 | ⟨gen1, rows1, h2, hle, h3⟩
    · rw [h2] at hrow; cases hrow
    · rw [h2] at hrow
      injection hrow with e1 e2
      have h0 := hg gen0 rows0 hk
      refine ⟨by omega, fun e => ?_⟩
      have e0 : gen0 = gen1 := by omega
      have e3 : gen = gen0 := by omega
      rw [(h3 e0).1]; exact h1 rows0 (by rw [hk, e3])
   | vec k => rcases h.kvec nm k hk with ⟨h2, _⟩ | ⟨_, h2, _⟩ <;> rw [h2] at hrow <;> cases hrow
   | mp k ns vs => rcases h.kmp nm k ns vs hk with h1 | ⟨_, _, _, h1, _⟩ <;> rw [h1] at hrow <;> cases hrow
  exact .ptr nm gen i j x ho (h.used hn) (fun gen' rows hrow => (key gen' rows hrow).1) fun rows hrow => (key gen rows hrow).2 rfl
 | msl nm gen i len x ho hn hg h1 =>
  have key : ∀ gen' rows, σ' nm = .arr gen' rows → gen ≤ gen' ∧ (gen = gen' → (∃ b m cap, θ' nm = some (b, m) ∧ len ≤ cap ∧ x = .slice (some ⟨b, i * m, none⟩) len cap ∧ CapOk w' b ((i + cap) * m) ∧ i + len ≤ rows.length) ∨ (len = 0 ∧ ∃ a, x = .slice a 0 0)) := by
   intro gen' rows hrow
   cases hk : σ nm with
   | unused => exact absurd hk hn
   | dead => rw [h.kdead nm hk] at hrow; cases hrow
   | box row0 => rcases h.kbox nm row0 hk with h2 | ⟨_, h2, _⟩ <;> rw [h2] at hrow <;> cases hrow
   | arr gen0 rows0 =>
    rcases h.karr nm gen0 rows0 hk with h2 | ⟨gen1, rows1, h2, hle, h3⟩
    · rw [h2] at hrow; cases hrow
    · rw [h2] at hrow
      injection hrow with e1 e2
      have h0 := hg gen0 rows0 hk
      refine ⟨by omega, fun e => ?_⟩
      have e0 : gen0 = gen1 := by omega
      have e3 : gen = gen0 := by omega
      rw [(h3 e0).1]
      rcases h1 rows0 (by rw [hk, e3]) with ⟨b, m, cap, a1, a2, a3, a4, a5⟩ | h4
      · exact .inl ⟨b, m, cap, a1, a2, a3, a4.fr h ⟨nm, m, live_arr h2, by rw [(h3 e0).1]; exact a1⟩, by have := (h3 e0).2; rw [e2] at this; omega⟩
      · exact .inr h4
   | vec k => rcases h.kvec nm k hk with ⟨h2, _⟩ | ⟨_, h2, _⟩ <;> rw [h2] at hrow <;> cases hrow
   | mp k ns vs => rcases h.kmp nm k ns vs hk with h1 | ⟨_, _, _, h1, _⟩ <;> rw [h1] at hrow <;> cases hrow
  exact .msl nm gen i len x ho (h.used hn) (fun gen' rows hrow => (key gen' rows hrow).1) fun rows hrow => (key gen rows hrow).2 rfl
 | own nm rows b off cap m ys hn hb hcap hw hc hr hf =>
  have hkeep : ∀ o, o < off + rows.length * m → w'.cell? ⟨b, o, none⟩ = w.cell? ⟨b, o, none⟩ := by
   intro o ho
   rcases hb with hb | ⟨m', k, h1, h2, h3⟩
   · exact cell_of_heap (h.stable hs b hb)
   · exact h.vecs nm k b m' h2 h1 o (by omega)
  have hb' : S' b ∨ ∃ m' k, θ' nm = some (b, m') ∧ σ' nm = .vec k ∧ off + rows.length * m ≤ k * m' := by
   rcases hb with hb | ⟨m', k, h1, h2, h3⟩
   · exact .inl (h.smono b hb)
   · rcases h.kvec nm k h2 with ⟨_, h4⟩ | ⟨k', h4, hle, _, h5⟩
     · exact .inl (h4 b m' h1)
     · rcases h5 b m' h1 with h6 | h6
       · exact .inr ⟨m', k', h6, h4, Nat.le_trans h3 (Nat.mul_le_mul_right m' hle)⟩
       · exact .inl h6
  refine .own nm rows b off cap m ys (h.used hn) hb' hcap hw (fun i j row v h1 h2 => ?_) (fun i j row v h1 h2 => hp (hr i j row v h1 h2)) fun k' hk' => ?_
  · rw [hkeep]
    · exact hc i j row v h1 h2
    · have hi := (List.getElem?_eq_some_iff.1 h1).1
      have hj := (List.getElem?_eq_some_iff.1 h2).1
      have hm := hw row (List.mem_of_getElem? h1)
      have : i * m + m ≤ rows.length * m := by rw [← Nat.succ_mul]; exact Nat.mul_le_mul_right m hi
      omega
  · cases hk : σ nm with
    | unused => exact absurd hk hn
    | dead => rw [h.kdead nm hk] at hk'; cases hk'
    | box row0 => rcases h.kbox nm row0 hk with h2 | ⟨_, h2, _⟩ <;> rw [h2] at hk' <;> cases hk'
    | arr gen rows => rcases h.karr nm gen rows hk with h2 | ⟨_, _, h2, _⟩ <;> rw [h2] at hk' <;> cases hk'
    | mp k ns vs => rcases h.kmp nm k ns vs hk with h2 | ⟨_, _, _, h2, _⟩ <;> rw [h2] at hk' <;> cases hk'
    | vec k =>
     rcases h.kvec nm k hk with ⟨h2, _⟩ | ⟨k1, h2, hle, h3, _⟩
     · rw [h2] at hk'; cases hk'
     · rw [h2] at hk'
       injection hk' with e
       obtain ⟨h4, h5⟩ := hf k hk
       refine ⟨by omega, fun e2 => ?_⟩
       obtain ⟨h6, h7, h8⟩ := h5 (by omega)
       exact ⟨by rw [h3 (by omega)]; exact h6, h7, h8.fr h ⟨nm, m, live_vec h2, by rw [h3 (by omega)]; exact h6⟩⟩
 | ownemp nm a hn => exact .ownemp nm a (h.used hn)
 | cptro nm row b o j ys hn hb hc hr =>
  have hkeep : ∀ i, i < o + row.cells.length → w'.cell? ⟨b, i, none⟩ = w.cell? ⟨b, i, none⟩ := by
   intro i hi
   rcases hb with hb | ⟨m', k, h1, h2, h3⟩
   · exact cell_of_heap (h.stable hs b hb)
   · exact h.vecs nm k b m' h2 h1 i (by omega)
  have hb' : S' b ∨ ∃ m' k, θ' nm = some (b, m') ∧ σ' nm = .vec k ∧ o + row.cells.length ≤ k * m' := by
   rcases hb with hb | ⟨m', k, h1, h2, h3⟩
   · exact .inl (h.smono b hb)
   · rcases h.kvec nm k h2 with ⟨_, h4⟩ | ⟨k', h4, hle, _, h5⟩
     · exact .inl (h4 b m' h1)
     · rcases h5 b m' h1 with h6 | h6
       · exact .inr ⟨m', k', h6, h4, Nat.le_trans h3 (Nat.mul_le_mul_right m' hle)⟩
       · exact .inl h6
  refine .cptro nm row b o j ys (h.used hn) hb' (fun i v h1 => ?_) (fun i v h1 => hp (hr i v h1))
  rw [hkeep _ (by have := (List.getElem?_eq_some_iff.1 h1).1; omega)]
  exact hc i v h1
 | rnd => exact .rnd
 | mp nm x ho hn h1 =>
  refine .mp nm x ho (h.used hn) fun k ns vs hrow => ?_
  cases hk : σ nm with
  | unused => exact absurd hk hn
  | dead => rw [h.kdead nm hk] at hrow; cases hrow
  | box row0 => rcases h.kbox nm row0 hk with h2 | ⟨_, h2, _⟩ <;> rw [h2] at hrow <;> cases hrow
  | arr gen rows => rcases h.karr nm gen rows hk with h2 | ⟨_, _, h2, _⟩ <;> rw [h2] at hrow <;> cases hrow
  | vec k => rcases h.kvec nm k hk with ⟨h2, _⟩ | ⟨_, h2, _⟩ <;> rw [h2] at hrow <;> cases hrow
  | mp k0 ns0 vs0 =>
   rcases h.kmp nm k0 ns0 vs0 hk with h2 | ⟨_, _, _, h2, h3⟩
   · rw [h2] at hrow; cases hrow
   · rw [h3]; exact h1 k0 ns0 vs0 hk
 | ifv t v x _ ih => exact .ifv t v x ih
end
def upd (ρ : Env) (d : Nat) (v : V) : Env := fun t => bif Nat.beq t d then v else ρ t
def ups (σ : Store) (d : Nat) (b : Blk) : Store := fun t => bif Nat.beq t d then b else σ t
def put (ρ : Env) : Option Nat → V → Env
 | some d, v => upd ρ d v
 | none, _ => ρ
def memB (n : Nat) : List Nat → Bool
 | [] => false
 | m :: r => bif Nat.beq n m then true else memB n r
def envOf : List (Nat × V) → Env
 | [], _ => .any
 | (d, v) :: r, t => bif Nat.beq t d then v else envOf r t
def stOf : List (Nat × Blk) → Store
 | [], _ => .unused
 | (d, v) :: r, t => bif Nat.beq t d then v else stOf r t
def env0 (args : List V) : Env := fun t => (args[t]?).getD (.tup [])
inductive Opd where
 | t (n : Nat)
 | c (v : V)
def ev (ρ : Env) : Opd → V
 | .t n => ρ n
 | .c v => v
inductive Mode where
 | f
 | s (pn : List Nat)
 | y
 | d
inductive LT where
 | b
 | i
 | s
inductive AOp where
 | mov (x : Opd)
 | newVec (nm : Nat)
 | newArr (nm : Nat)
 | pick (c a b : Opd)
 | bin (op : BinOp) (st : Bool) (et : List LT) (x y : Opd)
 | not (x : Opd)
 | len (s : Bool) (x : Opd)
 | alloc (nm : Nat) (zero : V)
 | box (nm size : Nat) (x : Opd)
 | build (zero : List V) (parts : List (Nat × Nat × Opd))
 | bsl (size : Nat) (xs : List Opd)
 | bslO (nm size : Nat) (xs : List Opd)
 | load (agg : Bool) (size : Nat) (a : Opd)
 | store (size : Nat) (a x : Opd)
 | faddr (off : Nat) (x : Opd)
 | field (agg : Bool) (size off : Nat) (x : Opd)
 | iaddr (size : Nat) (x i : Opd)
 | index (x i : Opd)
 | idxA (len : Nat) (x i : Opd)
 | extract (x : Opd) (i : Nat)
 | append (size bytes et : Nat) (x y : Opd)
 | appR (size bytes et : Nat) (x y : Opd)
 | slice (s : Bool) (size : Nat) (x : Opd) (lo hi : Option Opd)
 | cut0 (x : Opd)
 | mkSl (nm size bytes : Nat) (zero : V) (len cap : Opd)
 | mkVec (nm size bytes : Nat) (len cap : Opd)
 | mkfn (f : Nat) (caps : List Opd)
 | conv (k : IntKind) (x : Opd)
 | nilck (x : Opd)
 | isnil (neg : Bool) (x : Opd)
 | isnili (neg : Bool) (x : Opd)
 | bslA (nm size : Nat) (xs : List Opd)
 | clear (size bytes : Nat) (zero : V) (x : Opd)
 | max (x y : Opd)
 | min (x y : Opd)
 | boxR (et size : Nat) (x : Opd)
 | mkMap (nm : Nat) (k : IntKind)
 | mget (ok : Bool) (zero : V) (x i : Opd)
 | mput (x i v : Opd)
 | mdel (x i : Opd)
 | mlen (x : Opd)
 | mkifc (t : Nat) (x : Opd)
 | tass (t : Nat) (x : Opd)
 | dead
 | call (m : Mode) (f : Opd) (args : List Opd)
 | callM (m : Mode) (name : String) (x : Opd) (args : List Opd)
inductive GItem where
 | op (dst : Option Nat) (guard : Option (Nat × Bool)) (o : AOp)
 | frz (t : Nat)
inductive OT where
 | leaf (r : List Nat)
 | node (a b : Nat) (x y : OT)
inductive Cmd where
 | skip
 | ops (l : List GItem)
 | opsT (t : OT) (l : List GItem)
 | frz (t : Nat)
 | seq (a b : Cmd)
 | cond (x : Opd) (a b : Cmd)
 | block (id : Nat) (a : Cmd)
 | loop (a : Cmd)
 | exit (id : Nat)
 | ret
 | rangeF (pn : List Nat) (f : Opd) (ps : List Nat) (a b : Cmd)
 | cut (a : Cmd)
 | nvb (t j nm : Nat) (a : Cmd)
 | fzb (t j : Nat) (a : Cmd)
 | nvs (t nm : Nat) (a : Cmd)
 | nvt (t nm : Nat) (arr : Bool) (a : Cmd)
 | tagb (t : Nat) (a : Cmd)
 | frzr (a : Cmd)
def InR : IntKind → Int → Prop
 | .i64, n => -9223372036854775808 ≤ n ∧ n ≤ 9223372036854775807
 | .i32, n => -2147483648 ≤ n ∧ n ≤ 2147483647
 | .u8, n => 0 ≤ n ∧ n ≤ 255
 | .u64, n => 0 ≤ n ∧ n ≤ 18446744073709551615
 | .u32, n => 0 ≤ n ∧ n ≤ 4294967295
 | _, _ => False
def kEq : IntKind → IntKind → Bool
 | .i64, .i64 | .i32, .i32 | .u8, .u8 | .u64, .u64 | .u32, .u32 => true
 | _, _ => false
def leafEq : LT → V → V → Option Bool
 | .i, .int k a, .int k' b => bif kEq k k' then some (a == b) else none
 | .b, .bool a, .bool b => some (a == b)
 | .s, .str a, .str b => some (a == b)
 | _, _, _ => none
def leafEqL : List LT → List V → List V → Option Bool
 | [], [], [] => some true
 | t :: ts, a :: l, b :: l' => match leafEq t a b, leafEqL ts l l' with
   | some x, some y => some (x && y)
   | _, _ => none
 | _, _, _ => none
def eqv : Bool → List LT → V → V → Option Bool
 | true, ts, .agg l, .agg l' => leafEqL ts l l'
 | false, [t], x, y => leafEq t x y
 | _, _, _, _ => none
def abin (op : BinOp) (st : Bool) (et : List LT) (x y : V) (K : V → Prop) : Prop :=
 match op, x, y with
 | .add, .int k a, .int k' b => bif kEq k k' then K (.int k (k.wrap (a + b))) else False
 | .sub, .int k a, .int k' b => bif kEq k k' then K (.int k (k.wrap (a - b))) else False
 | .mul, .int k a, .int k' b => bif kEq k k' then K (.int k (k.wrap (a * b))) else False
 | .quo, .int k a, .int k' b => bif kEq k k' then b ≠ 0 ∧ InR k (a.tdiv b) ∧ K (.int k (a.tdiv b)) else False
 | .rem, .int k a, .int k' b => bif kEq k k' then b ≠ 0 ∧ K (.int k (a.tmod b)) else False
 | .shl, .int k a, .int _ b => 0 ≤ b ∧ K (.int k (k.wrap (a * 2 ^ (min b.toNat k.bits))))
 | .shr, .int k a, .int _ b => 0 ≤ b ∧ K (.int k (a.fdiv (2 ^ (min b.toNat k.bits))))
 | .and, .int k a, .int k' b => bif kEq k k' then K (.int k (k.wrap (BitVec.ofInt k.bits a &&& BitVec.ofInt k.bits b).toNat)) else False
 | .or, .int k a, .int k' b => bif kEq k k' then K (.int k (k.wrap (BitVec.ofInt k.bits a ||| BitVec.ofInt k.bits b).toNat)) else False
 | .andNot, .int k a, .int k' b => bif kEq k k' then K (.int k (k.wrap (BitVec.ofInt k.bits a &&& ~~~ BitVec.ofInt k.bits b).toNat)) else False
 | .xor, .int k a, .int k' b => bif kEq k k' then K (.int k (k.wrap (BitVec.ofInt k.bits a ^^^ BitVec.ofInt k.bits b).toNat)) else False
 | .lss, .int k a, .int k' b => bif kEq k k' then K (.bool (decide (a < b))) else False
 | .leq, .int k a, .int k' b => bif kEq k k' then K (.bool (decide (a ≤ b))) else False
 | .gtr, .int k a, .int k' b => bif kEq k k' then K (.bool (decide (a > b))) else False
 | .geq, .int k a, .int k' b => bif kEq k k' then K (.bool (decide (a ≥ b))) else False
 | .add, .str a, .str b => a.length + b.length ≤ 9223372036854775807 ∧ K (.str (a ++ b))
 | .eql, x, y => match eqv st et x y with
   | some b => K (.bool b)
   | none => False
 | .neq, x, y => match eqv st et x y with
   | some b => K (.bool (!b))
   | none => False
 | _, _, _ => False
def ldrow : Bool → Nat → Nat → V → Option V
 | false, _, j, row => row.cells[j]?
 | true, size, 0, .agg l => bif Nat.beq size l.length then some (.agg l) else bif Nat.ble size l.length then some (.agg (l.take size)) else none
 | true, size, j, .agg l => bif Nat.ble (j + size) l.length then some (.agg ((l.drop j).take size)) else none
 | _, _, _, _ => none
def leafB : V → Bool
 | .any | .agg _ | .tup _ | .tag _ _ => false
 | _ => true
def rowB : V → Bool
 | .agg _ => true
 | v => leafB v
def strow (size j : Nat) (row v : V) : Option V :=
 match row, v with
 | .agg l, .agg l' => bif (Nat.beq l'.length size && l'.all leafB) then
   (bif (Nat.beq j 0 && Nat.beq size l.length) then some (.agg l') else bif Nat.ble (j + size) l.length then some (.agg (l.take j ++ l' ++ l.drop (j + size))) else none) else none
 | .agg l, v => bif (Nat.beq size 1 && leafB v && Nat.ble (j + 1) l.length) then some (.agg (l.set j v)) else none
 | _, .agg _ => none
 | .tup _, _ => none
 | .tag _ _, _ => none
 | _, v => bif (Nat.beq size 1 && Nat.beq j 0 && leafB v) then some v else none
mutual
def pureB : V → Bool
 | .sl t _ => match t with
   | .own _ => false
   | _ => true
 | .cptr t _ _ => match t with
   | .p => true
   | _ => false
 | .msl .. | .ptr .. | .bptr .. | .rnd => false
 | .tag .. => false
 | .mp _ => false
 | .ifv _ v => pureB v
 | .agg l => pureL l
 | .tup l => pureL l
 | .fn _ l => pureL l
 | _ => true
def pureL : List V → Bool
 | [] => true
 | v :: r => pureB v && pureL r
end
mutual
def flatB : V → Bool
 | .sl .. | .cptr .. | .msl .. | .ptr .. | .bptr .. | .rnd | .fn .. | .tag .. | .mp .. | .mps .. => false
 | .ifv _ v => flatB v
 | .agg l => flatL l
 | .tup l => flatL l
 | _ => true
def flatL : List V → Bool
 | [] => true
 | v :: r => flatB v && flatL r
end
mutual
def closedB (pn : List Nat) : V → Bool
 | .sl t _ => match t with
   | .own nm => memB nm pn
   | _ => true
 | .cptr t _ _ => match t with
   | .own nm => memB nm pn
   | _ => true
 | .msl nm _ _ _ => memB nm pn
 | .ptr nm _ _ _ => memB nm pn
 | .bptr nm _ => memB nm pn
 | .mp nm => memB nm pn
 | .ifv _ v => closedB pn v
 | .agg l => closedL pn l
 | .tup l => closedL pn l
 | .fn _ l => closedL pn l
 | .tag _ l => closedL pn l
 | _ => true
def closedL (pn : List Nat) : List V → Bool
 | [] => true
 | v :: r => closedB pn v && closedL pn r
end
mutual
def noRndB : V → Bool
 | .rnd => false
 | .ifv _ v => noRndB v
 | .agg l => noRndL l
 | .tup l => noRndL l
 | .fn _ l => noRndL l
 | .tag _ l => noRndL l
 | _ => true
def noRndL : List V → Bool
 | [] => true
 | v :: r => noRndB v && noRndL r
end
def noRndSt (σ : Store) : List Nat → Bool
 | [] => true
 | nm :: r => (match σ nm with
   | .box row => noRndB row
   | _ => true) && noRndSt σ r
def er (σ : Store) : Nat → V → V
 | 0, _ => .any
 | n + 1, v => match v with
   | .sl _ rows => .sl .p rows
   | .cptr _ row j => .cptr .p row j
   | .agg l => .agg (l.map (er σ n))
   | .tup l => .tup (l.map (er σ n))
   | .fn f l => .fn f (l.map (er σ n))
   | .bptr nm j => match σ nm with
     | .box (.agg l) => .cptr .p (.agg (l.map (er σ n))) j
     | .box (.tup _) => .any
     | .box (.tag _ _) => .any
     | .box v => .cptr .p (er σ n v) j
     | _ => .any
   | .msl nm gen i len => match σ nm with
     | .arr gen' rows => bif Nat.beq gen gen' then .sl .p ((rows.drop i).take len) else .any
     | _ => .any
   | .ptr nm gen i j => match σ nm with
     | .arr gen' rows => bif Nat.beq gen gen' then (match rows[i]? with
       | some row => .cptr .p row j
       | none => .any) else .any
     | _ => .any
   | .rnd => .any
   | .ifv t v => .ifv t (er σ n v)
   | .mp nm => match σ nm with
     | .mp k ns vs => .mps k ns vs
     | _ => .any
   | v => v
def splitB (b want : Bool) (A B : Prop) : Prop :=
 match b, want with
 | true, true => A
 | false, false => A
 | true, false => B
 | false, true => B
theorem splitB_intro {b want : Bool} {A B : Prop} (h1 : b = want → A) (h2 : b = (!want) → B) : splitB b want A B := by
 cases b <;> cases want <;> first | exact h1 rfl | exact h2 rfl
abbrev HT (G : Type) := List V → G → (V → G → Prop) → Prop
def noH {G : Type} : HT G := fun _ _ _ => False
def MonoH {G : Type} (H : HT G) : Prop := ∀ (args : List V) (g : G) (K K' : V → G → Prop), (∀ r g', K r g' → K' r g') → H args g K → H args g K'
def Reps (R : V → Value → Prop) (vs : List V) (xs : List Value) : Prop := vs.length = xs.length ∧ ∀ (i : Nat) (v : V) (x : Value), vs[i]? = some v → xs[i]? = some x → R v x
structure Grow (w w' : World) : Prop where
 size : w.heap.size ≤ w'.heap.size
 os : w'.os = w.os
 tape : w'.tape = w.tape
 output : Out w w'
 same : ∀ b, b < w.heap.size → w'.heap[b]? = w.heap[b]?
def callable (P : Program) (f : Nat) : Bool := match P.funcs[f]? with
 | some fn => fn.name != "runtime.NumGoroutine" && fn.body.isSome
 | none => false
def GL (w : World) (S : Nat → Prop) : Prop := ∀ p ∈ glb, S p.1 ∧ ∃ (cs : List Value) (e : TypeId) (fr : Nat × Nat), w.heap[p.1]? = some (.cells cs.toArray e fr) ∧ p.2 cs
theorem GL.same {w w' : World} {S S' : Nat → Prop} (h : GL w S) (h1 : ∀ b, S b → w'.heap[b]? = w.heap[b]?) (h2 : ∀ b, S b → S' b) : GL w' S' := fun p hp => by
 obtain ⟨a, cs, e, fr, b, c⟩ := h p hp
 exact ⟨h2 _ a, cs, e, fr, (h1 _ a).trans b, c⟩
def Fn (P : Program) (f : Nat) (args : List V) (r : V) : Prop := callable P f = true ∧
 ∀ (w : World) (S : Nat → Prop) (xs : List Value), (∀ b, S b → b < w.heap.size) → GL w S → Reps (RepP w S) args xs →
   CallsIn Fence.wide 0 P f xs.toArray w fun e w' => ∃ x' S', e = .returned x' ∧ RepP w' S' r x' ∧ (∀ b, S' b → S b ∨ w.heap.size ≤ b) ∧ (∀ b, S' b → b < w'.heap.size) ∧ Grow w w'
def Stable {G : Type} (J : JT G) : Prop := (∀ g w S F, J g w S F → GL w S) ∧
 ∀ g w S F w' (S' : Nat → Prop), J g w S F → (∀ b, S b → b < w.heap.size) → (∀ b, F b → b < w.heap.size) → (∀ b, S b ∨ F b → w'.heap[b]? = w.heap[b]?) → (∀ b, S b → S' b) → w.heap.size ≤ w'.heap.size →
   w'.os = w.os → w'.tape = w.tape → Out w w' → (∀ b, S' b → b < w'.heap.size ∧ ¬ F b) →
   (∀ (b : Nat) (c : Array Value) (e : TypeId) (fr : Nat × Nat), w.heap[b]? = some (.cells c e fr) → ∃ (c' : Array Value) (fr' : Nat × Nat), w'.heap[b]? = some (.cells c' e fr') ∧ c'.size = c.size ∧ (fr' = fr ∨ S' b)) → J g w' S' F
def σ0 : Store := fun _ => .unused
def θ0 : Names := fun _ => none
def HokS {G : Type} (P : Program) (J : JT G) (H : HT G) (l : Nat) : Prop :=
 ∀ (args : List V) (xs : List Value) (g : G) (w : World) (S F : Nat → Prop) (K : V → G → Prop), St J w S F θ0 σ0 l g → Reps (RepP w S) args xs → H args g K →
   ∃ lf tmps assign body, (Instr.yield l xs.toArray).run P w = .ok (.round l lf tmps assign body) w ∧
     RoundIn Fence.wide 0 P l lf tmps assign body w fun e w' => ∃ r x' g' S' F', e = .returned x' ∧ K r g' ∧ RepP w' S' r x' ∧ St J w' S' F' θ0 σ0 l g' ∧ Fr w S F θ0 σ0 w' S' F' θ0 σ0
def CT {G : Type} (P : Program) (H : HT G) (f : Nat) (args : List V) (pn : List Nat) (σ : Store) (g : G) (K : V → Store → G → Prop) : Prop := callable P f = true ∧
 ∀ (J : JT G) (l : Nat), Stable J → MonoH H → HokS P J H l → ∀ (w : World) (S F : Nat → Prop) (θ : Names) (xs : List Value), St J w S F θ σ l g → Reps (Rep w S θ σ l) args xs →
   CallsIn Fence.wide 0 P f xs.toArray w fun e w' => ∃ r x' σ' g' S' F' θ', e = .returned x' ∧ K r σ' g' ∧ St J w' S' F' θ' σ' l g' ∧ Rep w' S' θ' σ' l r x' ∧ Fr w S F θ σ w' S' F' θ' σ' ∧ ∀ nm, nm ∉ pn → σ' nm = .unused
def restr (pn : List Nat) (σ : Store) : Store := fun nm => bif memB nm pn then σ nm else .unused
def merge (pn : List Nat) (σ σ' : Store) : Store := fun nm => bif memB nm pn then σ' nm else σ nm
def closedSt (pn : List Nat) (σ : Store) : List Nat → Bool
 | [] => true
 | nm :: r => (match σ nm with
   | .box row => closedB pn row
   | _ => true) && closedSt pn σ r
def AWcall {G : Type} (P : Program) (H : HT G) (σ : Store) (g : G) (m : Mode) (f : V) (args : List V) (K : V → Store → G → Prop) : Prop :=
 match m, f with
 | .f, .fn fid caps => ∃ r, Fn P fid ((args ++ caps).map (er σ 6)) r ∧ (pureL (args ++ caps) || flatB r) = true ∧ K r σ g
 | .s pn, .fn fid caps => closedL pn (args ++ caps) = true ∧ closedSt pn σ pn = true ∧ CT P H fid (args ++ caps) pn (restr pn σ) g fun r σ' g' => K r (merge pn σ σ') g'
 | .y, .rnd => pureL args = true ∧ H args g fun r g' => K r σ g'
 | .d, .fn fid caps => ∃ pn, closedL pn (args ++ caps) = true ∧ closedSt pn σ pn = true ∧ CT P H fid (args ++ caps) pn (restr pn σ) g fun r σ' g' => K r (merge pn σ σ') g'
 | _, _ => False
def partsOf (ρ : Env) (l : List V) : List (Nat × Nat × Opd) → Option (List V)
 | [] => some l
 | (off, size, x) :: r => match strow size off (.agg l) (ev ρ x) with
   | some (.agg l') => partsOf ρ l' r
   | _ => none
def mapOf (σ : Store) : V → Option (IntKind × List Int × List V)
 | .mps k ns vs => some (k, ns, vs)
 | .mp nm => match σ nm with
   | .mp k ns vs => some (k, ns, vs)
   | _ => none
 | _ => none
def mgetv (ns : List Int) (vs : List V) (n : Int) : Option V := (ns.idxOf? n).bind (vs[·]?)
def mres : Bool → V → Option V → V
 | false, _, some v => v
 | false, z, none => z
 | true, _, some v => .tup [v, .bool true]
 | true, z, none => .tup [z, .bool false]
def msetB (k : IntKind) (ns : List Int) (vs : List V) (n : Int) (v : V) : Blk := match ns.idxOf? n with
 | some i => .mp k ns (vs.set i v)
 | none => .mp k (ns ++ [n]) (vs ++ [v])
def mdelB (k : IntKind) (ns : List Int) (vs : List V) (n : Int) : Blk := match ns.idxOf? n with
 | some i => .mp k (ns.eraseIdx i) (vs.eraseIdx i)
 | none => .mp k ns vs
def methF (P : Program) (t : TypeId) (name : String) : Option (Nat × Bool) := match P.info? t with
 | some i => match i.methods.find? (·.name == name) with
   | some m => match m.path.toList, m.func with
     | [], some (f, pr) => match P.underlying t with
       | some (.pointer e) => (match pr, P.underlying e with
         | true, _ => some (f, true)
         | false, some (.struct _) => none
         | false, some (.array _ _) => none
         | false, some _ => some (f, false)
         | false, none => none)
       | _ => none
     | _, _ => none
   | none => none
 | none => none
def srcR (σ : Store) : V → Option (List V)
 | .sl _ xs => some xs
 | .str s => some (s.map fun c => .int .u8 c.toNat)
 | .msl nm gen i len => match σ nm with
   | .arr gen' rows => bif Nat.beq gen gen' then some ((rows.drop i).take len) else none
   | _ => none
 | _ => none
def flatC : List V → List V
 | [] => []
 | row :: r => row.cells ++ flatC r
def AWop {G : Type} (P : Program) (H : HT G) (ρ : Env) (σ : Store) (g : G) (o : AOp) (K : V → Store → G → Prop) : Prop :=
 match o with
 | .mov x => K (ev ρ x) σ g
 | .newVec nm => match σ nm with
   | .unused => K (.sl (.own nm) []) (ups σ nm (.vec 0)) g
   | _ => False
 | .newArr nm => match σ nm with
   | .unused => K (.msl nm 0 0 0) (ups σ nm (.arr 0 [])) g
   | _ => False
 | .pick c a b => match ev ρ c with
   | .bool t => K (bif t then ev ρ a else ev ρ b) σ g
   | _ => False
 | .bin op st et x y => abin op st et (ev ρ x) (ev ρ y) fun v => K v σ g
 | .not x => match ev ρ x with
   | .bool t => K (.bool (!t)) σ g
   | _ => False
 | .len s x => match s, ev ρ x with
   | false, .sl _ rows => K (.int .i64 rows.length) σ g
   | false, .msl nm gen _ n => match σ nm with
     | .arr gen' _ => gen = gen' ∧ K (.int .i64 n) σ g
     | _ => False
   | true, .str s => K (.int .i64 s.length) σ g
   | false, .rsl _ n _ => K (.int .i64 n) σ g
   | _, _ => False
 | .alloc nm zero => match σ nm with
   | .unused => K (.bptr nm 0) (ups σ nm (.box zero)) g
   | _ => False
 | .box nm size x => match σ nm with
   | .unused => bif rowB (ev ρ x) && Nat.beq size (ev ρ x).cells.length then K (.bptr nm 0) (ups σ nm (.box (ev ρ x))) g else False
   | _ => False
 | .build zero parts => match partsOf ρ zero parts with
   | some l => K (.agg l) σ g
   | none => False
 | .bsl size xs => (xs.map (ev ρ)).all (fun v => pureB v && rowB v && Nat.beq v.cells.length size) = true ∧ K (.sl .p (xs.map (ev ρ))) σ g
 | .bslO nm size xs => match σ nm with
   | .unused => (Nat.beq (wd nm) size && Nat.beq (nm / 1099511627776) 0) = true ∧ (xs.map (ev ρ)).all (fun v => pureB v && rowB v && Nat.beq v.cells.length size) = true ∧ K (.sl (.own nm) (xs.map (ev ρ))) (ups σ nm (.vec xs.length)) g
   | _ => False
 | .load agg size a => match ev ρ a with
   | .bptr nm j => match σ nm with
     | .box row => match ldrow agg size j row with
       | some v => K v σ g
       | none => False
     | _ => False
   | .ptr nm gen i j => match σ nm with
     | .arr gen' rows => gen = gen' ∧ ∃ row, rows[i]? = some row ∧ (match ldrow agg size j row with
       | some v => K v σ g
       | none => False)
     | _ => False
   | .cptr _ row j => match ldrow agg size j row with
     | some v => K v σ g
     | none => False
   | .raw b j => ∃ nm l v, σ nm = .box (.tag b l) ∧ ldrow agg size j (.agg l) = some v ∧ K v σ g
   | _ => False
 | .store size a x => match ev ρ a with
   | .bptr nm j => match σ nm with
     | .box row => match strow size j row (ev ρ x) with
       | some row' => K (.tup []) (ups σ nm (.box row')) g
       | none => False
     | _ => False
   | .ptr nm gen i j => match σ nm with
     | .arr gen' rows => gen = gen' ∧ pureB (ev ρ x) = true ∧ ∃ row, rows[i]? = some row ∧ (match strow size j row (ev ρ x) with
       | some row' => K (.tup []) (ups σ nm (.arr gen (rows.set i row'))) g
       | none => False)
     | _ => False
   | .raw b j => ∃ nm l l', σ nm = .box (.tag b l) ∧ strow size j (.agg l) (ev ρ x) = some (.agg l') ∧ K (.tup []) (ups σ nm (.box (.tag b l'))) g
   | _ => False
 | .faddr off x => match ev ρ x with
   | .raw b j => K (.raw b (j + off)) σ g
   | .bptr nm j => match σ nm with
     | .box _ => K (.bptr nm (j + off)) σ g
     | _ => False
   | .ptr nm gen i j => match σ nm with
     | .arr gen' _ => gen = gen' ∧ K (.ptr nm gen i (j + off)) σ g
     | _ => False
   | .cptr t row j => K (.cptr t row (j + off)) σ g
   | _ => False
 | .field agg size off x => match ev ρ x with
   | .agg l => match ldrow agg size off (.agg l) with
     | some v => K v σ g
     | none => False
   | _ => False
 | .iaddr size x i => match ev ρ x, ev ρ i with
   | .sl t rows, .int _ n => 0 ≤ n ∧ ∃ row, rows[n.toNat]? = some row ∧ Nat.beq size row.cells.length = true ∧ K (.cptr t row 0) σ g
   | .msl nm gen i len, .int _ n => match σ nm with
     | .arr gen' _ => gen = gen' ∧ 0 ≤ n ∧ n < len ∧ Nat.beq (wd nm) size = true ∧ K (.ptr nm gen (i + n.toNat) 0) σ g
     | _ => False
   | .rsl b len _, .int _ n => 0 ≤ n ∧ n < len ∧ K (.raw b (n.toNat * size)) σ g
   | _, _ => False
 | .index x i => match ev ρ x, ev ρ i with
   | .str s, .int _ n => 0 ≤ n ∧ ∃ c, s[n.toNat]? = some c ∧ K (.int .u8 c.toNat) σ g
   | _, _ => False
 | .idxA len x i => match ev ρ x, ev ρ i with
   | .agg l, .int _ n => 0 ≤ n ∧ n < len ∧ ∃ v, l[n.toNat]? = some v ∧ K v σ g
   | _, _ => False
 | .extract x i => match ev ρ x with
   | .tup l => match l[i]? with
     | some v => K v σ g
     | none => False
   | _ => False
 | .append size bytes et x y => match ev ρ x, srcR σ (ev ρ y) with
   | .sl (.own nm) rows, some xs => match σ nm with
     | .vec k => rows.length = k ∧ (Nat.beq (wd nm) size && tyOkB nm et) = true ∧ (∀ row ∈ xs, row.cells.length = size ∧ row.cells.all leafB = true) ∧ (k + xs.length) * bytes ≤ 140737488355328 ∧ k + xs.length ≤ 140737488355328 ∧
       K (.sl (.own nm) (rows ++ xs)) (ups σ nm (.vec (k + xs.length))) g
     | _ => False
   | .msl nm gen 0 len, some xs => match σ nm with
     | .arr gen' rows => gen = gen' ∧ Nat.beq (wd nm) size = true ∧ (∀ row ∈ xs, row.cells.length = size ∧ row.cells.all leafB = true) ∧ (len + xs.length) * bytes ≤ 140737488355328 ∧ len + xs.length ≤ 140737488355328 ∧
       K (.msl nm (gen + 1) 0 (len + xs.length)) (ups σ nm (.arr (gen + 1) (rows.take len ++ xs))) g
     | _ => False
   | _, _ => False
 | .appR size bytes et x y => match ev ρ x, srcR σ (ev ρ y) with
   | .sl .nil [], some xs => xs ≠ [] ∧ (∀ row ∈ xs, row.cells.length = size ∧ row.cells.all leafB = true) ∧ xs.length * bytes ≤ 140737488355328 ∧ xs.length ≤ 140737488355328 ∧
     ∃ nm, σ nm = .unused ∧ tyOkB nm et = true ∧ ∀ b c, xs.length ≤ c → K (.rsl b xs.length c) (ups σ nm (.box (.tag b (flatC xs ++ List.replicate ((c - xs.length) * size) .any)))) g
   | .rsl b n c, some xs => xs ≠ [] ∧ (∀ row ∈ xs, row.cells.length = size ∧ row.cells.all leafB = true) ∧ (n + xs.length) * bytes ≤ 140737488355328 ∧ n + xs.length ≤ 140737488355328 ∧
     ∃ nm l, σ nm = .box (.tag b l) ∧ c * size ≤ l.length ∧
       (n + xs.length ≤ c → K (.rsl b (n + xs.length) c) (ups σ nm (.box (.tag b (l.take (n * size) ++ flatC xs ++ l.drop (n * size + (flatC xs).length))))) g) ∧
       (c < n + xs.length → ∃ nm', σ nm' = .unused ∧ tyOkB nm' et = true ∧ ∀ b' c', n + xs.length ≤ c' → K (.rsl b' (n + xs.length) c') (ups σ nm' (.box (.tag b' (l.take (n * size) ++ flatC xs ++ List.replicate ((c' - (n + xs.length)) * size) .any)))) g)
   | _, _ => False
 | .slice s size x lo hi => match s, ev ρ x, (lo.map (ev ρ)).getD (.int .i64 0), hi.map (ev ρ) with
   | false, .sl t rows, .int _ a, none => 0 ≤ a ∧ a ≤ rows.length ∧ (a = 0 ∨ ∀ row ∈ rows, row.cells.length = size) ∧ K (.sl t (rows.drop a.toNat)) σ g
   | false, .sl t rows, .int _ a, some (.int _ b) => 0 ≤ a ∧ a ≤ b ∧ b ≤ rows.length ∧ (a = 0 ∨ ∀ row ∈ rows, row.cells.length = size) ∧ K (.sl t ((rows.take b.toNat).drop a.toNat)) σ g
   | true, .str s, .int _ a, none => 0 ≤ a ∧ a ≤ s.length ∧ K (.str (s.drop a.toNat)) σ g
   | true, .str s, .int _ a, some (.int _ b) => 0 ≤ a ∧ a ≤ b ∧ b ≤ s.length ∧ K (.str ((s.take b.toNat).drop a.toNat)) σ g
   | false, .msl nm gen i len, .int _ a, none => match σ nm with
     | .arr gen' _ => gen = gen' ∧ 0 ≤ a ∧ a ≤ len ∧ Nat.beq (wd nm) size = true ∧ K (.msl nm gen (i + a.toNat) (len - a.toNat)) σ g
     | _ => False
   | false, .msl nm gen i len, .int _ a, some (.int _ b) => match σ nm with
     | .arr gen' _ => gen = gen' ∧ 0 ≤ a ∧ a ≤ b ∧ b ≤ len ∧ Nat.beq (wd nm) size = true ∧ K (.msl nm gen (i + a.toNat) (b.toNat - a.toNat)) σ g
     | _ => False
   | false, .rsl b n c, .int _ a, some (.int _ m) => a = 0 ∧ 0 ≤ m ∧ m ≤ n ∧ K (.rsl b m.toNat c) σ g
   | _, _, _, _ => False
 | .cut0 x => match ev ρ x with
   | .sl _ _ => K (.sl .nil []) σ g
   | _ => False
 | .mkSl nm size bytes zero len cap => match σ nm, ev ρ len, ev ρ cap with
   | .unused, .int .i64 a, .int .i64 b => 0 ≤ a ∧ a ≤ b ∧ b * bytes ≤ 140737488355328 ∧ b ≤ 140737488355328 ∧ Nat.beq (wd nm) size = true ∧ Nat.beq zero.cells.length size = true ∧ K (.msl nm 0 0 a.toNat) (ups σ nm (.arr 0 (List.replicate a.toNat zero))) g
   | _, _, _ => False
 | .mkVec nm size bytes len cap => match σ nm, ev ρ len, ev ρ cap with
   | .unused, .int .i64 a, .int .i64 b => a = 0 ∧ 0 ≤ b ∧ b * bytes ≤ 140737488355328 ∧ b ≤ 140737488355328 ∧ Nat.beq (wd nm) size = true ∧ K (.sl (.own nm) []) (ups σ nm (.vec 0)) g
   | _, _, _ => False
 | .mkfn f caps => K (.fn f (caps.map (ev ρ))) σ g
 | .conv k x => match ev ρ x with
   | .int _ n => InR k n ∧ K (.int k n) σ g
   | _ => False
 | .nilck x => match ev ρ x with
   | .bptr nm j => match σ nm with
     | .box _ => K (.bptr nm j) σ g
     | _ => False
   | .cptr t row j => K (.cptr t row j) σ g
   | .raw b j => K (.raw b j) σ g
   | .fn f caps => K (.fn f caps) σ g
   | .rnd => K .rnd σ g
   | _ => False
 | .bslA nm size xs => match σ nm with
   | .unused => Nat.beq (wd nm) size = true ∧ (xs.map (ev ρ)).all (fun v => pureB v && rowB v && Nat.beq v.cells.length size) = true ∧ K (.msl nm 0 0 xs.length) (ups σ nm (.arr 0 (xs.map (ev ρ)))) g
   | _ => False
 | .clear size _ zero x => match ev ρ x with
   | .msl nm gen i len => match σ nm with
     | .arr gen' rows => gen = gen' ∧ Nat.beq (wd nm) size = true ∧ zero.cells.all leafB = true ∧ K (.tup []) (ups σ nm (.arr gen (rows.take i ++ List.replicate len zero ++ rows.drop (i + len)))) g
     | _ => False
   | _ => False
 | .isnili neg x => match ev ρ x with
   | .ifc b => K (.bool (b != neg)) σ g
   | _ => False
 | .isnil neg x => match ev ρ x with
   | .sl _ rows => ∀ b : Bool, (b = true → rows = []) → K (.bool (b != neg)) σ g
   | _ => False
 | .dead => False
 | .max x y => match ev ρ x, ev ρ y with
   | .int k a, .int k' b => bif kEq k k' then K (.int k (if b > a then b else a)) σ g else False
   | _, _ => False
 | .min x y => match ev ρ x, ev ρ y with
   | .int k a, .int k' b => bif kEq k k' then K (.int k (if b < a then b else a)) σ g else False
   | _, _ => False
 | .call m f args => AWcall P H σ g m (ev ρ f) (args.map (ev ρ)) K
 | .callM m name x args => match ev ρ x with
   | .ifv t v => match methF P t name with
     | some (f, true) => AWcall P H σ g m (.fn f []) (v :: args.map (ev ρ)) K
     | some (f, false) => match v with
       | .raw b j => ∃ nm l u, σ nm = .box (.tag b l) ∧ l[j]? = some u ∧ AWcall P H σ g m (.fn f []) (u :: args.map (ev ρ)) K
       | _ => False
     | none => False
   | _ => False
 | .boxR et size x => bif rowB (ev ρ x) && Nat.beq size (ev ρ x).cells.length then ∃ nm, σ nm = .unused ∧ tyOkB nm et = true ∧ ∀ b, K (.raw b 0) (ups σ nm (.box (.tag b (ev ρ x).cells))) g else False
 | .mkMap nm k => match σ nm with
   | .unused => K (.mp nm) (ups σ nm (.mp k [] [])) g
   | _ => False
 | .mget ok zero x i => match mapOf σ (ev ρ x), ev ρ i with
   | some (k, ns, vs), .int k' n => bif kEq k k' then K (mres ok zero (mgetv ns vs n)) σ g else False
   | _, _ => False
 | .mput x i v => match ev ρ x, ev ρ i with
   | .mp nm, .int k' n => match σ nm with
     | .mp k ns vs => bif kEq k k' && pureB (ev ρ v) then K (.tup []) (ups σ nm (msetB k ns vs n (ev ρ v))) g else False
     | _ => False
   | _, _ => False
 | .mdel x i => match ev ρ x, ev ρ i with
   | .mp nm, .int k' n => match σ nm with
     | .mp k ns vs => bif kEq k k' then K (.tup []) (ups σ nm (mdelB k ns vs n)) g else False
     | _ => False
   | _, _ => False
 | .mlen x => match mapOf σ (ev ρ x) with
   | some (_, ns, _) => K (.int .i64 ns.length) σ g
   | none => False
 | .mkifc t x => K (.ifv t (ev ρ x)) σ g
 | .tass t x => match ev ρ x with
   | .ifv t' v => bif Nat.beq t t' then K v σ g else False
   | _ => False
def forceS (v : V) (K : V → Prop) : Prop := match v with
 | .any => K .any
 | .bool b => K (.bool b)
 | .int k n => K (.int k n)
 | .str s => K (.str s)
 | .agg l => K (.agg l)
 | .tup l => K (.tup l)
 | .sl t rows => K (.sl t rows)
 | .msl nm gen i len => K (.msl nm gen i len)
 | .ptr nm gen i j => K (.ptr nm gen i j)
 | .bptr nm j => K (.bptr nm j)
 | .cptr t row j => K (.cptr t row j)
 | .nilptr => K .nilptr
 | .fn f caps => K (.fn f caps)
 | .nilfn => K .nilfn
 | .rnd => K .rnd
 | .raw b j => K (.raw b j)
 | .tag b l => K (.tag b l)
 | .ifc b => K (.ifc b)
 | .rsl b n c => K (.rsl b n c)
 | .nilmp => K .nilmp
 | .mp nm => K (.mp nm)
 | .mps k ns vs => K (.mps k ns vs)
 | .ifv t v => K (.ifv t v)
def forceL : List V → (List V → Prop) → Prop
 | [], K => K []
 | v :: r, K => forceS v fun v' => forceL r fun r' => K (v' :: r')
def force (v : V) (K : V → Prop) : Prop := match v with
 | .agg l => forceL l fun l' => K (.agg l')
 | .tup l => forceL l fun l' => K (.tup l')
 | v => forceS v K
theorem forceS_eq (v : V) (K : V → Prop) : forceS v K = K v := by cases v <;> rfl
theorem forceL_eq : ∀ (l : List V) (K : List V → Prop), forceL l K = K l
 | [], _ => rfl
 | v :: r, K => by simp only [forceL, forceS_eq, forceL_eq r]
theorem force_eq (v : V) (K : V → Prop) : force v K = K v := by
 unfold force
 split <;> simp only [forceL_eq, forceS_eq]
def AWit {G : Type} (P : Program) (H : HT G) (it : GItem) (ρ : Env) (σ : Store) (g : G) (K : Env → Store → G → Prop) : Prop :=
 match it with
 | .frz t => match ρ t with
   | .sl (.own nm) rows => match σ nm with
     | .vec _ => K (upd ρ t (.sl .p rows)) (ups σ nm .dead) g
     | _ => False
   | .msl nm gen i len => match σ nm with
     | .arr gen' rows => gen = gen' ∧ K (upd ρ t (.sl .p ((rows.drop i).take len))) (ups σ nm .dead) g
     | _ => False
   | .bptr nm j => match σ nm with
     | .box row => pureB row = true ∧ K (upd ρ t (.cptr .p row j)) (ups σ nm .dead) g
     | _ => False
   | .sl .nil [] => K (upd ρ t (.sl .p [])) σ g
   | .rsl b n _ => ∃ (nm : Nat) (l rows : List V) (m : Nat), σ nm = .box (.tag b l) ∧ rows.length = n ∧ (∀ row ∈ rows, row.cells.length = m) ∧ (flatC rows).all pureB = true ∧ l.take (n * m) = flatC rows ∧ K (upd ρ t (.sl .p rows)) (ups σ nm .dead) g
   | .mp nm => match σ nm with
     | .mp k ns vs => K (upd ρ t (.mps k ns vs)) (ups σ nm .dead) g
     | _ => False
   | _ => False
 | .op dst guard o => match guard with
   | none => AWop P H ρ σ g o fun v σ' g' => force v fun v => K (put ρ dst v) σ' g'
   | some (s, want) => match ρ s with
     | .bool b => splitB b want (AWop P H (upd ρ s (.bool want)) σ g o fun v σ' g' => force v fun v => K (put (upd ρ s (.bool want)) dst v) σ' g') (K (put (upd ρ s (.bool (!want))) dst (.tup [])) σ g)
     | .tup [] => K (put ρ dst (.tup [])) σ g
     | _ => False
def AWits {G : Type} (P : Program) (H : HT G) : List GItem → Env → Store → G → (Env → Store → G → Prop) → Prop
 | [], ρ, σ, g, K => K ρ σ g
 | it :: r, ρ, σ, g, K => AWit P H it ρ σ g fun ρ' σ' g' => AWits P H r ρ' σ' g' K
def FitsE : List (Nat × V) → Env → Prop
 | [], _ => True
 | (t, v) :: r, ρ => ρ t = v ∧ FitsE r ρ
def FitsS : List (Nat × Blk) → Store → Prop
 | [], _ => True
 | (t, v) :: r, σ => σ t = v ∧ FitsS r σ
def closedE (pn : List Nat) : List (Nat × V) → Bool
 | [] => true
 | (_, v) :: r => closedB pn v && closedE pn r
def hasAll (ns : List Nat) : List Nat → Bool
 | [] => true
 | n :: r => memB n ns && hasAll ns r
def fitB (pn : List Nat) (E : List (Nat × V)) (Sg : List (Nat × Blk)) : Bool :=
 closedE (Sg.map (·.1)) E && closedSt (Sg.map (·.1)) (stOf Sg) (Sg.map (·.1)) && hasAll (Sg.map (·.1)) pn
def Fits (pn : List Nat) (E : List (Nat × V)) (Sg : List (Nat × Blk)) (ρ : Env) (σ : Store) : Prop :=
 FitsE E ρ ∧ FitsS Sg σ ∧ fitB pn E Sg = true
def pickAll {α : Type} (l : List α) : List Nat → List α
 | [] => []
 | i :: r => match l[i]? with
   | some x => x :: pickAll l r
   | none => pickAll l r
def AWT {G : Type} (P : Program) (H : HT G) (l : List GItem) : OT → Env → Store → G → (Env → Store → G → Prop) → Prop
 | .leaf r, ρ, σ, g, K => AWits P H (pickAll l r) ρ σ g K
 | .node _ _ x y, ρ, σ, g, K => AWT P H l x ρ σ g K ∧ AWT P H l y ρ σ g K
def without (pf : List Nat) : List Nat → List Nat
 | [] => []
 | n :: r => bif memB n pf then without pf r else n :: without pf r
def bindAll : List Nat → List V → Env → Env
 | p :: ps, v :: vs, ρ => bindAll ps vs (upd ρ p v)
 | _, _, ρ => ρ
def AW {G : Type} (P : Program) (H : HT G) (pn : List Nat) : Cmd → Env → Store → G → (Exit → Env → Store → G → Prop) → Prop
 | .skip, ρ, σ, g, Q => Q .normal ρ σ g
 | .ops l, ρ, σ, g, Q => AWits P H l ρ σ g (Q .normal)
 | .opsT t l, ρ, σ, g, Q => AWT P H l t ρ σ g (Q .normal)
 | .frz t, ρ, σ, g, Q => AWit P H (.frz t) ρ σ g (Q .normal)
 | .seq a b, ρ, σ, g, Q => AW P H pn a ρ σ g fun e ρ' σ' g' => match e with
   | .normal => AW P H pn b ρ' σ' g' Q
   | e => Q e ρ' σ' g'
 | .cond x a b, ρ, σ, g, Q => match ev ρ x with
   | .bool t => splitB t true (AW P H pn a ρ σ g Q) (AW P H pn b ρ σ g Q)
   | _ => False
 | .block id a, ρ, σ, g, Q => AW P H pn a ρ σ g fun e ρ' σ' g' => match e with
   | .exit id' => bif Nat.beq id' id then Q .normal ρ' σ' g' else Q (.exit id') ρ' σ' g'
   | e => Q e ρ' σ' g'
 | .loop a, ρ, σ, g, Q => ∃ (ι : Type) (E : ι → List (Nat × V)) (Sg : ι → List (Nat × Blk)) (gi : ι → G) (inv : ι → Prop) (μ : ι → Nat),
   (∃ i, inv i ∧ Fits pn (E i) (Sg i) ρ σ ∧ gi i = g) ∧
   ∀ i, inv i → AW P H pn a (envOf (E i)) (stOf (Sg i)) (gi i) fun e ρ' σ' g' => match e with
     | .normal => ∃ i', inv i' ∧ Fits pn (E i') (Sg i') ρ' σ' ∧ gi i' = g' ∧ μ i' < μ i
     | e => Q e ρ' σ' g'
 | .exit id, ρ, σ, g, Q => Q (.exit id) ρ σ g
 | .fzb t j a, ρ, σ, g, Q => match ρ t with
   | .bptr bn 0 => match σ bn with
     | .box (.agg l) => match l[j]? with
       | some (.sl (.own nm) rows) => match σ nm with
         | .vec _ => AW P H pn a ρ (ups (ups σ nm .dead) bn (.box (.agg (l.set j (.sl .p rows))))) g Q
         | _ => False
       | _ => False
     | _ => False
   | _ => False
 | .nvb t j nm a, ρ, σ, g, Q => match ρ t, σ nm with
   | .bptr bn 0, .unused => match σ bn with
     | .box (.agg l) => match l[j]? with
       | some (.sl .nil []) => AW P H pn a ρ (ups (ups σ nm (.vec 0)) bn (.box (.agg (l.set j (.sl (.own nm) []))))) g Q
       | _ => False
     | _ => False
   | _, _ => False
 | .nvs t nm a, ρ, σ, g, Q => match ρ t, σ nm with
   | .bptr bn 0, .unused => match σ bn with
     | .box (.sl .nil []) => AW P H pn a ρ (ups (ups σ nm (.vec 0)) bn (.box (.sl (.own nm) []))) g Q
     | _ => False
   | _, _ => False
 | .nvt t nm arr a, ρ, σ, g, Q => match ρ t, σ nm with
   | .sl .nil [], .unused => AW P H pn a (upd ρ t (bif arr then .msl nm 0 0 0 else .sl (.own nm) [])) (ups σ nm (bif arr then .arr 0 [] else .vec 0)) g Q
   | _, _ => False
 | .tagb t a, ρ, σ, g, Q => match ρ t with
   | .bptr bn 0 => match σ bn with
     | .box (.agg l) => ∀ b, AW P H pn a (upd ρ t (.raw b 0)) (ups σ bn (.box (.tag b l))) g Q
     | .box (.bptr bm 0) => match σ bm with
       | .box (.agg l) => ∀ b, AW P H pn a ρ (ups (ups σ bm (.box (.tag b l))) bn (.box (.raw b 0))) g Q
       | _ => False
     | _ => False
   | _ => False
 | .frzr a, ρ, σ, g, Q => ∃ (nm nm2 b b2 n c j : Nat) (l l2 : List V), σ nm = .box (.tag b l) ∧ l[j]? = some (.rsl b2 n c) ∧ σ nm2 = .box (.tag b2 l2) ∧ nm ≠ nm2 ∧ n ≤ l2.length ∧ (l2.take n).all (fun v => leafB v && pureB v) = true ∧
   AW P H pn a ρ (ups (ups σ nm2 .dead) nm (.box (.tag b (l.set j (.sl .p (l2.take n)))))) g Q
 | .cut a, ρ, σ, g, Q => AW P H pn a ρ σ g Q ∨ ∃ (E : List (Nat × V)) (Sg : List (Nat × Blk)), Fits pn E Sg ρ σ ∧ AW P H pn a (envOf E) (stOf Sg) g Q
 | .ret, ρ, σ, g, Q => Q .ret ρ σ g
 | .rangeF pf f ps a b, ρ, σ, g, Q => match ev ρ f with
   | .fn fid caps => ∃ (E : List (Nat × V)) (Sg : List (Nat × Blk)), Fits pn E Sg ρ σ ∧ (hasAll (Sg.map (·.1)) pf && closedL pf caps && closedSt pf (stOf Sg) pf && noRndL caps && noRndSt (stOf Sg) pf &&
     closedE (without pf (Sg.map (·.1))) E && closedSt (without pf (Sg.map (·.1))) (stOf Sg) (without pf (Sg.map (·.1)))) = true ∧
     CT (G := Store × G × Option Exit) P
      (fun args st K => Nat.beq args.length ps.length = true ∧ st.2.2 = none ∧ AW P H (without pf (Sg.map (·.1))) a (bindAll ps args (envOf E)) st.1 st.2.1 fun e ρ1 σ1 g1 => match e with
        | .normal => AW P H (without pf (Sg.map (·.1))) b ρ1 σ1 g1 fun e _ σ2 g2 => closedSt (without pf (Sg.map (·.1))) σ2 (without pf (Sg.map (·.1))) = true ∧ (match e with
          | .normal => K (.bool true) (restr (without pf (Sg.map (·.1))) σ2, g2, none)
          | e => K (.bool false) (restr (without pf (Sg.map (·.1))) σ2, g2, some e))
        | _ => False)
      fid (.rnd :: caps) pf (restr pf (stOf Sg)) (restr (without pf (Sg.map (·.1))) (stOf Sg), g, none) fun _ σ1 st => noRndSt σ1 pf = true ∧ match st.2.2 with
       | none => Q .normal (envOf E) (merge pf st.1 σ1) st.2.1
       | some e => Q e (envOf E) (merge pf st.1 σ1) st.2.1
   | _ => False
theorem memB_iff (n : Nat) (l : List Nat) : memB n l = true ↔ n ∈ l := by
 induction l with
 | nil => simp [memB]
 | cons m r ih =>
  simp only [memB, List.mem_cons]
  cases h : Nat.beq n m with
  | true => simp [Nat.eq_of_beq_eq_true h]
  | false =>
   have : n ≠ m := Nat.ne_of_beq_eq_false h
   simp [this, ih]
theorem pureL_iff (l : List V) : pureL l = true ↔ ∀ v ∈ l, pureB v = true := by
 induction l with
 | nil => simp [pureL]
 | cons a r ih => simp [pureL, ih]
theorem flatL_iff (l : List V) : flatL l = true ↔ ∀ v ∈ l, flatB v = true := by
 induction l with
 | nil => simp [flatL]
 | cons a r ih => simp [flatL, ih]
theorem closedL_iff (pn : List Nat) (l : List V) : closedL pn l = true ↔ ∀ v ∈ l, closedB pn v = true := by
 induction l with
 | nil => simp [closedL]
 | cons a r ih => simp [closedL, ih]
theorem closedE_iff (pn : List Nat) (l : List (Nat × V)) : closedE pn l = true ↔ ∀ p ∈ l, closedB pn p.2 = true := by
 induction l with
 | nil => simp [closedE]
 | cons a r ih => simp [closedE, ih]
theorem closedSt_iff (pn : List Nat) (σ : Store) (l : List Nat) : closedSt pn σ l = true ↔ ∀ nm ∈ l, ∀ row, σ nm = .box row → closedB pn row = true := by
 induction l with
 | nil => simp [closedSt]
 | cons a r ih =>
  simp only [closedSt, Bool.and_eq_true, ih, List.mem_cons]
  constructor
  · rintro ⟨h1, h2⟩ nm (rfl | hm) row hrow
    · rw [hrow] at h1; exact h1
    · exact h2 nm hm row hrow
  · intro h
    refine ⟨?_, fun nm hm row hrow => h nm (.inr hm) row hrow⟩
    cases hs : σ a with
    | box row => exact h a (.inl rfl) row hs
    | _ => rfl
theorem hasAll_iff (ns l : List Nat) : hasAll ns l = true ↔ ∀ n ∈ l, n ∈ ns := by
 induction l with
 | nil => simp [hasAll]
 | cons a r ih => simp [hasAll, ih, memB_iff]
theorem mem_without (pf l : List Nat) (n : Nat) : n ∈ without pf l ↔ n ∈ l ∧ n ∉ pf := by
 induction l with
 | nil => simp [without]
 | cons a r ih =>
  simp only [without]
  cases h : memB a pf with
  | true =>
   have ha := (memB_iff a pf).1 h
   simp only [cond_true, ih, List.mem_cons]
   constructor
   · rintro ⟨h1, h2⟩; exact ⟨.inr h1, h2⟩
   · rintro ⟨rfl | h1, h2⟩
     · exact absurd ha h2
     · exact ⟨h1, h2⟩
  | false =>
   have ha : a ∉ pf := fun hm => by rw [(memB_iff a pf).2 hm] at h; cases h
   simp only [cond_false, ih, List.mem_cons]
   constructor
   · rintro (rfl | ⟨h1, h2⟩)
     · exact ⟨.inl rfl, ha⟩
     · exact ⟨.inr h1, h2⟩
   · rintro ⟨rfl | h1, h2⟩
     · exact .inl rfl
     · exact .inr ⟨h1, h2⟩
section
variable {G : Type} {J : JT G} {w w' w'' : World} {S F S' F' S'' F'' : Nat → Prop} {θ θ' θ'' : Names} {σ σ' σ'' : Store} {l : Nat} {g g' : G}
theorem mem_of_get {α : Type} {l : List α} {i : Nat} {v : α} (h : l[i]? = some v) : v ∈ l := List.mem_of_getElem? h
theorem Rep.restr {pn : List Nat} (hp : ∀ nm, nm ∈ pn → σ' nm = σ nm ∧ θ' nm = θ nm) {v : V} {x : Value} (h : Rep w S θ σ l v x) (hc : closedB pn v = true) : Rep w S θ' σ' l v x := by
 induction h with
 | pure h1 => exact .pure h1
 | agg vs xs hl _ ih => exact .agg vs xs hl fun i v x h1 h2 => ih i v x h1 h2 ((closedL_iff pn vs).1 (by simpa [closedB] using hc) v (mem_of_get h1))
 | tup vs xs hl _ ih => exact .tup vs xs hl fun i v x h1 h2 => ih i v x h1 h2 ((closedL_iff pn vs).1 (by simpa [closedB] using hc) v (mem_of_get h1))
 | fn f vs xs hl _ ih => exact .fn f vs xs hl fun i v x h1 h2 => ih i v x h1 h2 ((closedL_iff pn vs).1 (by simpa [closedB] using hc) v (mem_of_get h1))
 | bptr nm j x ho hn h1 =>
  obtain ⟨e1, e2⟩ := hp nm ((memB_iff nm pn).1 (by simpa [closedB] using hc))
  exact .bptr nm j x ho (by rw [e1]; exact hn) (by rw [e1, e2]; exact h1)
 | ptr nm gen i j x ho hn hg h1 =>
  obtain ⟨e1, e2⟩ := hp nm ((memB_iff nm pn).1 (by simpa [closedB] using hc))
  exact .ptr nm gen i j x ho (by rw [e1]; exact hn) (by rw [e1]; exact hg) (by rw [e1, e2]; exact h1)
 | msl nm gen i len x ho hn hg h1 =>
  obtain ⟨e1, e2⟩ := hp nm ((memB_iff nm pn).1 (by simpa [closedB] using hc))
  exact .msl nm gen i len x ho (by rw [e1]; exact hn) (by rw [e1]; exact hg) (by rw [e1, e2]; exact h1)
 | own nm rows b off cap m ys hn hb hcap hw hcc hr hf =>
  obtain ⟨e1, e2⟩ := hp nm ((memB_iff nm pn).1 (by simpa [closedB] using hc))
  exact .own nm rows b off cap m ys (by rw [e1]; exact hn) (by rw [e1, e2]; exact hb) hcap hw hcc hr (by rw [e1, e2]; exact hf)
 | ownemp nm a hn =>
  obtain ⟨e1, e2⟩ := hp nm ((memB_iff nm pn).1 (by simpa [closedB] using hc))
  exact .ownemp nm a (by rw [e1]; exact hn)
 | cptro nm row b o j ys hn hb hcc hr =>
  obtain ⟨e1, e2⟩ := hp nm ((memB_iff nm pn).1 (by simpa [closedB] using hc))
  exact .cptro nm row b o j ys (by rw [e1]; exact hn) (by rw [e1, e2]; exact hb) hcc hr
 | rnd => exact .rnd
 | mp nm x ho hn h1 =>
  obtain ⟨e1, e2⟩ := hp nm ((memB_iff nm pn).1 (by simpa [closedB] using hc))
  exact .mp nm x ho (by rw [e1]; exact hn) (by rw [e1, e2]; exact h1)
 | ifv t v x _ ih => exact .ifv t v x (ih (by simpa [closedB] using hc))
theorem Rep.mps_inv {k : IntKind} {ns : List Int} {vs : List V} {x : Value} (h : Rep w S θ σ l (.mps k ns vs) x) : ∃ r es clk, x = .map (some r) ∧ w.heap[r]? = some (.map es clk) ∧ MapRep w S k ns vs es := by
 cases h with
 | pure h1 => cases h1 with | mps _ _ _ r es clk hS hw hn hv hk hr => exact ⟨r, es, clk, rfl, hw, hn, hv, hk, hr⟩
theorem Rep.mp_inv {nm : Nat} {x : Value} (h : Rep w S θ σ l (.mp nm) x) : ∀ k ns vs, σ nm = .mp k ns vs → ∃ r, θ nm = some (r, 0) ∧ x = .map (some r) := by
 cases h with
 | pure h1 => cases h1
 | mp _ _ _ _ h1 => exact h1
theorem Rep.ifv_inv {t : TypeId} {v : V} {x : Value} (h : Rep w S θ σ l (.ifv t v) x) : ∃ y, x = .iface t y ∧ Rep w S θ σ l v y := by
 cases h with
 | pure h1 => cases h1 with | ifv _ _ y h2 => exact ⟨y, rfl, .pure h2⟩
 | ifv _ _ y h2 => exact ⟨y, rfl, h2⟩
theorem MapRep.mono {S' : Nat → Prop} {w' : World} {k : IntKind} {ns : List Int} {vs : List V} {es : Array MapEntry} (hk : ∀ b, S b → w'.heap[b]? = w.heap[b]?) (hS : ∀ b, S b → S' b) (h : MapRep w S k ns vs es) : MapRep w' S' k ns vs es :=
 ⟨h.1, h.2.1, h.2.2.1, fun i v e h1 h2 => (h.2.2.2 i v e h1 h2).mono hk hS⟩
theorem Rep.ifc_inv {c : Bool} {x : Value} (h : Rep w S θ σ l (.ifc c) x) : (c = true ∧ x = .nilIface) ∨ (c = false ∧ ∃ t p, x = .iface t p) := by
 cases h with
 | pure h =>
  cases h with
  | ifcN => exact .inl ⟨rfl, rfl⟩
  | ifcS t p => exact .inr ⟨rfl, t, p, rfl⟩
theorem Rep.raw_inv {b j : Nat} {x : Value} (h : Rep w S θ σ l (.raw b j) x) : x = .pointer (some ⟨b, j, none⟩) := by
 cases h with
 | pure h1 => cases h1; rfl
theorem Rep.rsl_inv {b n c : Nat} {x : Value} (h : Rep w S θ σ l (.rsl b n c) x) : x = .slice (some ⟨b, 0, none⟩) n c ∧ n ≤ c := by
 cases h with
 | pure h1 => cases h1; exact ⟨rfl, ‹_›⟩
theorem St.restr {pn : List Nat} (h : St J w S F θ σ l g) (hp : ∀ nm, nm ∈ pn → σ' nm = σ nm ∧ θ' nm = θ nm) (hq : ∀ nm, nm ∉ pn → σ' nm = .unused ∧ θ' nm = none)
  (hc : ∀ nm ∈ pn, ∀ row, σ nm = .box row → closedB pn row = true) : St J w S F θ' σ' l g := by
 have hlive : ∀ b, LiveB θ' σ' b → LiveB θ σ b := by
  rintro b ⟨nm, m, h1, h2⟩
  by_cases hm : nm ∈ pn
  · obtain ⟨e1, e2⟩ := hp nm hm
    exact ⟨nm, m, by rw [← e1]; exact h1, by rw [← e2]; exact h2⟩
  · rw [(hq nm hm).1] at h1; exact h1.elim
 have hin : ∀ nm, (σ' nm).live → nm ∈ pn := fun nm h1 => by
  by_cases hm : nm ∈ pn
  · exact hm
  · rw [(hq nm hm).1] at h1; exact h1.elim
 refine ⟨h.hS, fun nm => ?_, fun nm nm' b m m' h1 h2 h3 h4 => ?_, fun b hb => h.hliveS b (hlive b hb), fun b hb => ?_, h.hJ⟩
 · by_cases hm : nm ∈ pn
   · obtain ⟨e1, e2⟩ := hp nm hm
     have hb := h.hblk nm
     rw [e1]
     cases hs : σ nm with
     | unused => rw [hs] at hb; simp only [BlkOk] at hb ⊢; rw [e2]; exact hb
     | dead => trivial
     | box row =>
      rw [hs] at hb
      simp only [BlkOk] at hb ⊢
      obtain ⟨b, c, e, h1, h2, h3, h4⟩ := hb
      refine ⟨b, c, e, by rw [e2]; exact h1, h2, h3, fun j v hj => ?_⟩
      obtain ⟨y, hy, hr⟩ := h4 j v hj
      refine ⟨y, hy, hr.restr hp ?_⟩
      have hcl := hc nm hm row hs
      cases row <;> first
       | (simp only [V.cells] at hj; exact (closedL_iff pn _).1 (by simpa [closedB] using hcl) v (mem_of_get hj))
       | (simp only [V.cells] at hj; have := mem_of_get hj; simp only [List.mem_singleton] at this; subst this; exact hcl)
     | arr gen rows => rw [hs] at hb; simp only [BlkOk] at hb ⊢; rw [e2]; exact hb
     | vec k => rw [hs] at hb; simp only [BlkOk] at hb ⊢; rw [e2]; exact hb
     | mp k ns vs => rw [hs] at hb; simp only [BlkOk] at hb ⊢; rw [e2]; exact hb
   · rw [(hq nm hm).1]; exact (hq nm hm).2
 · have m1 := hin nm h1
   have m2 := hin nm' h2
   obtain ⟨e1, e2⟩ := hp nm m1
   obtain ⟨e3, e4⟩ := hp nm' m2
   exact h.hinj nm nm' b m m' (by rw [← e1]; exact h1) (by rw [← e3]; exact h2) (by rw [← e2]; exact h3) (by rw [← e4]; exact h4)
 · obtain ⟨h1, h2, h3⟩ := h.hF b hb
   exact ⟨h1, h2, fun hl => h3 (hlive b hl)⟩
theorem Fr.drop {pn : List Nat} (h : Fr w S F θ σ w' S' F' θ' σ') (h0 : ∀ nm, σ nm ≠ .unused → nm ∈ pn) (hp : ∀ nm, nm ∈ pn → σ'' nm = σ' nm ∧ θ'' nm = θ' nm) (hq : ∀ nm, nm ∉ pn → σ'' nm = .unused ∧ θ'' nm = none) :
  Fr w S F θ σ w' S' F' θ'' σ'' where
 size := h.size
 os := h.os
 tape := h.tape
 output := h.output
 same := h.same
 sized := fun b c e fr hc => by
  obtain ⟨c', f, h3, h4, h5⟩ := h.sized b c e fr hc
  refine ⟨c', f, h3, h4, h5.imp id fun h6 => ⟨h6.1, fun hl => h6.2 ?_⟩⟩
  obtain ⟨nm, m, k1, k2⟩ := hl
  by_cases hm : nm ∈ pn
  · obtain ⟨e1, e2⟩ := hp nm hm
    exact ⟨nm, m, by rw [← e1]; exact k1, by rw [← e2]; exact k2⟩
  · rw [(hq nm hm).1] at k1; exact k1.elim
 vecs := h.vecs
 smono := h.smono
 snew := h.snew
 live := fun b => by
  rintro ⟨nm, m, h1, h2⟩ hlt
  by_cases hm : nm ∈ pn
  · obtain ⟨e1, e2⟩ := hp nm hm
    exact h.live b ⟨nm, m, by rw [← e1]; exact h1, by rw [← e2]; exact h2⟩ hlt
  · rw [(hq nm hm).1] at h1; exact h1.elim
 fsub := h.fsub
 kdead := fun nm hn => by
  rw [(hp nm (h0 nm (by rw [hn]; intro hh; cases hh))).1]; exact h.kdead nm hn
 kbox := fun nm row hn => by
  obtain ⟨e1, e2⟩ := hp nm (h0 nm (by rw [hn]; intro hh; cases hh))
  rw [e1, e2]; exact h.kbox nm row hn
 karr := fun nm gen rows hn => by
  obtain ⟨e1, e2⟩ := hp nm (h0 nm (by rw [hn]; intro hh; cases hh))
  rw [e1, e2]; exact h.karr nm gen rows hn
 kvec := fun nm k hn => by
  obtain ⟨e1, e2⟩ := hp nm (h0 nm (by rw [hn]; intro hh; cases hh))
  rw [e1, e2]; exact h.kvec nm k hn
 kmp := fun nm k ns vs hn => by
  obtain ⟨e1, e2⟩ := hp nm (h0 nm (by rw [hn]; intro hh; cases hh))
  rw [e1, e2]; exact h.kmp nm k ns vs hn
theorem RepP.flat {v : V} {x : Value} (h : RepP w S v x) (hf : flatB v = true) : RepP w' S' v x := by
 induction h with
 | any x => exact .any x
 | bool b => exact .bool b
 | int k n => exact .int k n
 | str l => exact .str l
 | agg l xs hl _ ih => exact .agg l xs hl fun i v x h1 h2 => ih i v x h1 h2 ((flatL_iff l).1 (by simpa [flatB] using hf) v (mem_of_get h1))
 | tup l xs hl _ ih => exact .tup l xs hl fun i v x h1 h2 => ih i v x h1 h2 ((flatL_iff l).1 (by simpa [flatB] using hf) v (mem_of_get h1))
 | fn f l xs hl _ ih => simp [flatB] at hf
 | nilsl a => simp [flatB] at hf
 | emp a cap => simp [flatB] at hf
 | sl rows b off cap m ys hSb hcap hw hc _ ih => simp [flatB] at hf
 | cptr row b o j ys hSb hc _ ih => simp [flatB] at hf
 | mps k ns vs r es clk hS hw hn hv hk _ ih => simp [flatB] at hf
 | ifv t v x _ ih => exact .ifv t v x (ih (by simpa [flatB] using hf))
 | nilptr => exact .nilptr
 | nilfn => exact .nilfn
 | nilmp => exact .nilmp
 | raw b j => exact .raw b j
 | rsl b n c h => exact .rsl b n c h
 | ifcN => exact .ifcN
 | ifcS t p => exact .ifcS t p
theorem Rep.toP {v : V} {x : Value} (h : Rep w S θ σ l v x) (hp : pureB v = true) : RepP w S v x := by
 induction h with
 | pure h1 => exact h1
 | agg vs xs hl _ ih => exact .agg vs xs hl fun i v x h1 h2 => ih i v x h1 h2 ((pureL_iff vs).1 (by simpa [pureB] using hp) v (mem_of_get h1))
 | tup vs xs hl _ ih => exact .tup vs xs hl fun i v x h1 h2 => ih i v x h1 h2 ((pureL_iff vs).1 (by simpa [pureB] using hp) v (mem_of_get h1))
 | fn f vs xs hl _ ih => exact .fn f vs xs hl fun i v x h1 h2 => ih i v x h1 h2 ((pureL_iff vs).1 (by simpa [pureB] using hp) v (mem_of_get h1))
 | ifv t v x _ ih => exact .ifv t v x (ih (by simpa [pureB] using hp))
 | _ => simp [pureB] at hp
theorem RepP.er {v : V} {x : Value} (h : RepP w S v x) (σ : Store) (n : Nat) : RepP w S (er σ n v) x := by
 induction h generalizing n with
 | any x => cases n <;> exact .any x
 | bool b => cases n with | zero => exact .any _ | succ n => exact .bool b
 | int k m => cases n with | zero => exact .any _ | succ n => exact .int k m
 | str l => cases n with | zero => exact .any _ | succ n => exact .str l
 | agg l xs hl _ ih =>
  cases n with
  | zero => exact .any _
  | succ n =>
   refine .agg _ xs (by simpa using hl) fun i v x h1 h2 => ?_
   rw [List.getElem?_map] at h1
   cases h3 : l[i]? with
   | none => simp [h3] at h1
   | some u => simp [h3] at h1; subst h1; exact ih i u x h3 h2 n
 | tup l xs hl _ ih =>
  cases n with
  | zero => exact .any _
  | succ n =>
   refine .tup _ xs (by simpa using hl) fun i v x h1 h2 => ?_
   rw [List.getElem?_map] at h1
   cases h3 : l[i]? with
   | none => simp [h3] at h1
   | some u => simp [h3] at h1; subst h1; exact ih i u x h3 h2 n
 | fn f l xs hl _ ih =>
  cases n with
  | zero => exact .any _
  | succ n =>
   refine .fn f _ xs (by simpa using hl) fun i v x h1 h2 => ?_
   rw [List.getElem?_map] at h1
   cases h3 : l[i]? with
   | none => simp [h3] at h1
   | some u => simp [h3] at h1; subst h1; exact ih i u x h3 h2 n
 | nilsl a => cases n with | zero => exact .any _ | succ n => exact .emp a 0
 | emp a cap => cases n with | zero => exact .any _ | succ n => exact .emp a cap
 | sl rows b off cap m ys hSb hcap hw hc hr ih => cases n with | zero => exact .any _ | succ n => exact .sl rows b off cap m ys hSb hcap hw hc hr
 | cptr row b o j ys hSb hc hr ih => cases n with | zero => exact .any _ | succ n => exact .cptr row b o j ys hSb hc hr
 | nilptr => cases n with | zero => exact .any _ | succ n => exact .nilptr
 | nilfn => cases n with | zero => exact .any _ | succ n => exact .nilfn
 | nilmp => cases n with | zero => exact .any _ | succ n => exact .nilmp
 | raw b j => cases n with | zero => exact .any _ | succ n => exact .raw b j
 | rsl b m c h => cases n with | zero => exact .any _ | succ n => exact .rsl b m c h
 | ifcN => cases n with | zero => exact .any _ | succ n => exact .ifcN
 | ifcS t p => cases n with | zero => exact .any _ | succ n => exact .ifcS t p
 | mps k ns vs r es clk hS hw hn hv hk hr ih => cases n with | zero => exact .any _ | succ n => exact .mps k ns vs r es clk hS hw hn hv hk hr
 | ifv t v x _ ih => cases n with | zero => exact .any _ | succ n => exact .ifv t _ x (ih n)
theorem er_notagg (σ : Store) (n : Nat) {v : V} (hv : ∀ ll, v ≠ .agg ll) : ∀ ll, er σ n v ≠ .agg ll := by
 intro ll
 cases n with
 | zero => intro h; cases h
 | succ n =>
  cases v with
  | agg l => exact absurd rfl (hv l)
  | msl nm gen i len =>
   simp only [Hm.er]
   split
   · cases Nat.beq gen _ <;> intro h <;> cases h
   · intro h; cases h
  | ptr nm gen i j =>
   simp only [Hm.er]
   split
   · cases Nat.beq gen _ with
     | false => intro h; cases h
     | true => simp only [cond_true]; split <;> intro h <;> cases h
   · intro h; cases h
  | bptr nm j =>
   simp only [Hm.er]
   split <;> intro h <;> cases h
  | mp nm =>
   simp only [Hm.er]
   split <;> intro h <;> cases h
  | _ => intro h; cases h
theorem er_notag (σ : Store) (n : Nat) {v : V} (hv : ∀ b ll, v ≠ .tag b ll) : ∀ b ll, er σ n v ≠ .tag b ll := by
 intro b ll
 cases n with
 | zero => intro h; cases h
 | succ n =>
  cases v with
  | tag b l => exact absurd rfl (hv b l)
  | msl nm gen i len =>
   simp only [Hm.er]
   split
   · cases Nat.beq gen _ <;> intro h <;> cases h
   · intro h; cases h
  | ptr nm gen i j =>
   simp only [Hm.er]
   split
   · cases Nat.beq gen _ with
     | false => intro h; cases h
     | true => simp only [cond_true]; split <;> intro h <;> cases h
   · intro h; cases h
  | bptr nm j =>
   simp only [Hm.er]
   split <;> intro h <;> cases h
  | mp nm =>
   simp only [Hm.er]
   split <;> intro h <;> cases h
  | _ => intro h; cases h
theorem cells_one {v : V} (hv : ∀ ll, v ≠ .agg ll) (ht : ∀ b ll, v ≠ .tag b ll) : v.cells = [v] := by
 cases v <;> first | rfl | exact absurd rfl (hv _) | exact absurd rfl (ht _ _)
def All (w : World) : Nat → Prop := fun b => b < w.heap.size
theorem RepP.all {v : V} {x : Value} (h : RepP w S v x) (hs : ∀ b, S b → b < w.heap.size) : RepP w (All w) v x := h.mono (fun _ _ => rfl) hs
theorem Rep.er (hst : St J w S F θ σ l g) {v : V} {x : Value} (h : Rep w S θ σ l v x) (n : Nat) : RepP w (All w) (er σ n v) x := by
 induction n generalizing v x with
 | zero => exact .any x
 | succ n ihn =>
  cases h with
  | pure h1 => exact (h1.all hst.hS).er σ (n + 1)
  | agg vs xs hl h1 =>
   refine .agg _ xs (by simpa using hl) fun i v x h2 h3 => ?_
   rw [List.getElem?_map] at h2
   cases h4 : vs[i]? with
   | none => simp [h4] at h2
   | some u => simp [h4] at h2; subst h2; exact ihn (h1 i u x h4 h3)
  | tup vs xs hl h1 =>
   refine .tup _ xs (by simpa using hl) fun i v x h2 h3 => ?_
   rw [List.getElem?_map] at h2
   cases h4 : vs[i]? with
   | none => simp [h4] at h2
   | some u => simp [h4] at h2; subst h2; exact ihn (h1 i u x h4 h3)
  | fn f vs xs hl h1 =>
   refine .fn f _ xs (by simpa using hl) fun i v x h2 h3 => ?_
   rw [List.getElem?_map] at h2
   cases h4 : vs[i]? with
   | none => simp [h4] at h2
   | some u => simp [h4] at h2; subst h2; exact ihn (h1 i u x h4 h3)
  | bptr nm j x ho hn h1 =>
   simp only [Hm.er]
   cases hs : σ nm with
   | box row =>
    obtain ⟨b, m, hb, rfl⟩ := h1 row hs
    have hk := hst.hblk nm
    rw [hs] at hk
    obtain ⟨b', c, e, h2, h3, h4, h5⟩ := hk
    have eb : b' = b := by rw [hb] at h2; simp at h2; exact h2.1.symm
    subst eb
    have hlt : b' < w.heap.size := (Array.getElem?_eq_some_iff.1 h3).1
    have hcell : ∀ i v, row.cells[i]? = some v → w.cell? ⟨b', 0 + i, none⟩ = some (c.getD i default) := by
     intro i v hv
     obtain ⟨y, hy, _⟩ := h5 i v hv
     have hi := (Array.getElem?_eq_some_iff.1 hy).1
     simp [World.cell?, h3, Array.getD, hi]
    have hrep : ∀ i v, row.cells[i]? = some v → Rep w S θ σ l v (c.getD i default) := by
     intro i v hv
     obtain ⟨y, hy, hr⟩ := h5 i v hv
     have hi := (Array.getElem?_eq_some_iff.1 hy)
     have : c.getD i default = y := by simp [Array.getD, hi.1, hi.2]
     rw [this]; exact hr
    have fin : ∀ row' : V, (∀ (i : Nat) (v' : V), row'.cells[i]? = some v' → ∃ v : V, row.cells[i]? = some v ∧ v' = Hm.er σ n v) → RepP w (All w) (.cptr .p row' j) (.pointer (some ⟨b', j, none⟩)) := by
     intro row' hrow'
     have := RepP.cptr (w := w) (S := All w) row' b' 0 j (fun i => c.getD i default) hlt (fun i v' hv' => by
      obtain ⟨v, hv, _⟩ := hrow' i v' hv'
      exact hcell i v hv) (fun i v' hv' => by
      obtain ⟨v, hv, rfl⟩ := hrow' i v' hv'
      exact ihn (hrep i v hv))
     simpa using this
    have one : ∀ v : V, (∀ ll, v ≠ .agg ll) → (∀ b ll, v ≠ .tag b ll) → row = v → RepP w (All w) (.cptr .p (Hm.er σ n v) j) (.pointer (some ⟨b', j, none⟩)) := by
     intro v hv ht e
     refine fin _ fun i v' hv' => ?_
     subst e
     have hcs : row.cells = [row] := cells_one hv ht
     have hce : (Hm.er σ n row).cells = [Hm.er σ n row] := cells_one (er_notagg σ n hv) (er_notag σ n ht)
     rw [hce] at hv'
     rw [hcs]
     cases i with
     | zero => simp at hv'; exact ⟨row, by simp, hv'.symm⟩
     | succ i => simp at hv'
    cases row with
    | agg ll =>
     refine fin _ fun i v' hv' => ?_
     simp only [V.cells, List.getElem?_map] at hv' ⊢
     cases h6 : ll[i]? with
     | none => simp [h6] at hv'
     | some u => simp [h6] at hv'; exact ⟨u, rfl, hv'.symm⟩
    | tup ll => exact .any _
    | tag b ll => exact .any _
    | _ => exact one _ (by intro ll; simp) (by intro b ll; simp) rfl
   | _ => exact .any _
  | ptr nm gen i j x ho hn hg h1 =>
   simp only [Hm.er]
   cases hs : σ nm with
   | arr gen' rows =>
    simp only
    cases hgen : Nat.beq gen gen' with
    | false => exact .any _
    | true =>
     have e := Nat.eq_of_beq_eq_true hgen
     subst e
     simp only [cond_true]
     cases hrow : rows[i]? with
     | none => exact .any _
     | some row =>
      obtain ⟨b, m, hb, rfl⟩ := h1 rows hs
      have hk := hst.hblk nm
      rw [hs] at hk
      rcases hk with ⟨h2, _⟩ | ⟨b', m', c, e, h2, h3, h4, h5, h6⟩
      · rw [hb] at h2; cases h2
      · have eb : b' = b ∧ m' = m := by rw [hb] at h2; simp at h2; exact ⟨h2.1.symm, h2.2.symm⟩
        obtain ⟨rfl, rfl⟩ := eb
        have hlt : b' < w.heap.size := (Array.getElem?_eq_some_iff.1 h3).1
        refine RepP.cptr row b' (i * m') j (fun q => c.getD (i * m' + q) default) hlt (fun q v hv => ?_) (fun q v hv => ?_)
        · obtain ⟨y, hy, _⟩ := h6 i q row v hrow hv
          have hi := (Array.getElem?_eq_some_iff.1 hy).1
          simp [World.cell?, h3, Array.getD, hi]
        · obtain ⟨y, hy, hr⟩ := h6 i q row v hrow hv
          have hi := (Array.getElem?_eq_some_iff.1 hy)
          have e2 : c.getD (i * m' + q) default = y := by simp [Array.getD, hi.1, hi.2]
          rw [e2]; exact hr.all hst.hS
   | _ => exact .any _
  | msl nm gen i len x ho hn hg h1 =>
   simp only [Hm.er]
   cases hs : σ nm with
   | arr gen' rows =>
    simp only
    cases hgen : Nat.beq gen gen' with
    | false => exact .any _
    | true =>
     have e := Nat.eq_of_beq_eq_true hgen
     subst e
     simp only [cond_true]
     rcases h1 rows hs with ⟨b, m, cap, hb, hle, rfl, hcap, hlen⟩ | ⟨rfl, a, rfl⟩
     · have hk := hst.hblk nm
       rw [hs] at hk
       rcases hk with ⟨h2, _⟩ | ⟨b', m', c, e, h2, h3, h4, h5, h6⟩
       · rw [hb] at h2; cases h2
       · have eb : b' = b ∧ m' = m := by rw [hb] at h2; simp at h2; exact ⟨h2.1.symm, h2.2.symm⟩
         obtain ⟨rfl, rfl⟩ := eb
         have hlt : b' < w.heap.size := (Array.getElem?_eq_some_iff.1 h3).1
         have hl : ((rows.drop i).take len).length = len := by simp; omega
         have hget : ∀ q row, ((rows.drop i).take len)[q]? = some row → rows[i + q]? = some row := by
          intro q row hq
          rw [List.getElem?_take] at hq
          split at hq
          · rwa [List.getElem?_drop] at hq
          · cases hq
         have := RepP.sl (w := w) (S := All w) ((rows.drop i).take len) b' (i * m') cap m' (fun q j => c.getD ((i + q) * m' + j) default) hlt (by omega)
          (fun row hr => h4 row (List.mem_of_mem_drop (List.mem_of_mem_take hr)))
          (fun q j row v h7 h8 => by
            obtain ⟨y, hy, _⟩ := h6 (i + q) j row v (hget q row h7) h8
            have hi := (Array.getElem?_eq_some_iff.1 hy).1
            have e1 : i * m' + q * m' + j = (i + q) * m' + j := by rw [Nat.add_mul]
            rw [e1]
            simp [World.cell?, h3, Array.getD, hi])
          (fun q j row v h7 h8 => by
            obtain ⟨y, hy, hr⟩ := h6 (i + q) j row v (hget q row h7) h8
            have hi := (Array.getElem?_eq_some_iff.1 hy)
            have e2 : c.getD ((i + q) * m' + j) default = y := by simp [Array.getD, hi.1, hi.2]
            rw [e2]; exact hr.all hst.hS)
         rw [hl] at this
         exact this
     · simpa using RepP.emp a 0
   | _ => exact .any _
  | own nm rows b off cap m ys hn hb hcap hw hc hr hf =>
   simp only [Hm.er]
   cases rows with
   | nil => exact .emp _ _
   | cons row rest =>
    by_cases hlt : b < w.heap.size
    · exact .sl (row :: rest) b off cap m ys hlt hcap hw hc fun i j row v h1 h2 => (hr i j row v h1 h2).all hst.hS
    · exfalso
      rcases hb with hb | ⟨m', k, hb, hk, _⟩
      · exact hlt (hst.hS b hb)
      · have := hst.hblk nm
        rw [hk] at this
        rcases this with ⟨h2, _⟩ | ⟨b', m'', c, e, h2, h3, _⟩
        · rw [hb] at h2; cases h2
        · rw [hb] at h2; simp at h2; rw [← h2.1] at h3; exact hlt (Array.getElem?_eq_some_iff.1 h3).1
  | ownemp nm a hn => exact .emp a 0
  | cptro nm row b o j ys hn hb hc hr =>
   simp only [Hm.er]
   have hlt : b < w.heap.size := by
    rcases hb with hb | ⟨m', k, hb, hk, _⟩
    · exact hst.hS b hb
    · have := hst.hblk nm
      rw [hk] at this
      rcases this with ⟨h2, _⟩ | ⟨b', m'', c, e, h2, h3, _⟩
      · rw [hb] at h2; cases h2
      · rw [hb] at h2; simp at h2; rw [← h2.1] at h3; exact (Array.getElem?_eq_some_iff.1 h3).1
   exact .cptr row b o j ys hlt hc fun i v h1 => (hr i v h1).all hst.hS
  | rnd => exact .any _
  | mp nm x ho hn h1 =>
   simp only [Hm.er]
   cases hs : σ nm with
   | mp k ns vs =>
    obtain ⟨r, hb, rfl⟩ := h1 k ns vs hs
    have hk := hst.hblk nm
    rw [hs] at hk
    obtain ⟨r', es, clk, h2, h3, h4, h5, h6, h7⟩ := hk
    have eb : r' = r := by rw [hb] at h2; simp at h2; exact h2.symm
    subst eb
    exact .mps k ns vs r' es clk (Array.getElem?_eq_some_iff.1 h3).1 h3 h4 h5 h6 fun i v e a b => (h7 i v e a b).all hst.hS
   | _ => exact .any _
  | ifv t v x h1 => exact .ifv t _ x (ihn h1)
end
def constLeaf : Value → V → Bool
 | _, .any => true
 | .bool b, .bool b' => b == b'
 | .int k n, .int k' n' => decide (k = k') && n == n'
 | .string s, .str l => s.data.toList == l
 | .slice none 0 0, .sl .nil [] => true
 | .slice none 0 0, .sl .p [] => true
 | .nilFunc, .nilfn => true
 | .map none, .nilmp => true
 | .pointer none, .nilptr => true
 | _, _ => false
def constLeaves : List Value → List V → Bool
 | [], [] => true
 | x :: xs, v :: vs => constLeaf x v && constLeaves xs vs
 | _, _ => false
def constV : Value → V → Bool
 | .agg cs, .agg l => constLeaves cs.toList l
 | x, v => constLeaf x v
def chkOpd : Operand → Opd → Bool
 | .tmp t, .t n => Nat.beq t n
 | .const x, .c v => constV x v
 | .func f, .c (.fn f' []) => Nat.beq f f'
 | _, _ => false
def chkOpds : List Operand → List Opd → Bool
 | [], [] => true
 | x :: xs, y :: ys => chkOpd x y && chkOpds xs ys
 | _, _ => false
def chkOpt : Option Operand → Option Opd → Bool
 | none, none => true
 | some x, some y => chkOpd x y
 | _, _ => false
def tAgg (P : Program) (T : TypeId) : Bool := match P.underlying T with
 | some (.struct _) | some (.array _ _) => true
 | _ => false
def tSize (P : Program) (T size : Nat) : Bool := match P.info? T with
 | some i => Nat.beq i.size size
 | none => false
def tZero (P : Program) (T : TypeId) (z : V) : Bool := match P.info? T with
 | some i => match i.zero with
   | some x => constV x z && Nat.beq x.cells.size i.size && rowB z
   | none => false
 | none => false
def tSlice (P : Program) (T size : Nat) : Bool := match P.underlying T with
 | some (.slice e) => tSize P e size && !Nat.beq size 0
 | _ => false
def tSliceZ (P : Program) (T size bytes : Nat) : Bool := match P.underlying T with
 | some (.slice e) => match P.info? e with
   | some i => Nat.beq i.size size && !Nat.beq size 0 && Nat.beq i.bytes bytes && !Nat.beq bytes 0 && (match i.zero with
     | some z => Nat.beq z.cells.size size
     | none => false)
   | none => false
 | _ => false
def tSliceZV (P : Program) (T : TypeId) (z : V) : Bool := match P.underlying T with
 | some (.slice e) => tZero P e z
 | _ => false
def tElem (P : Program) (T : TypeId) (et : Nat) : Bool := match P.underlying T with
 | some (.slice e) => Nat.beq e et
 | _ => false
def tArr1 (P : Program) (T : TypeId) (len : Nat) : Bool := match P.underlying T with
 | some (.array n e) => Nat.beq n len && tSize P e 1 && !tAgg P e && (P.underlying e).isSome
 | _ => false
def idxAt (P : Program) (T : TypeId) (i : Operand) (off : Nat) : Bool := match P.underlying T, i with
 | some (.array n e), .const (.int _ k) => decide (0 ≤ k) && decide (k < n) && (match P.info? e with
   | some inf => Nat.beq (k.toNat * inf.size) off
   | none => false)
 | _, _ => false
def tString (P : Program) (T : TypeId) : Bool := match P.underlying T with
 | some .string => true
 | _ => false
def tInt (P : Program) (T : TypeId) (k : IntKind) : Bool := match P.underlying T with
 | some (.int k') => decide (k' = k)
 | _ => false
def tLeaf (P : Program) (T : TypeId) : LT → Bool
 | .b => match P.underlying T with
   | some .bool => true
   | _ => false
 | .i => match P.underlying T with
   | some (.int _) => true
   | _ => false
 | .s => match P.underlying T with
   | some .string => true
   | _ => false
def plainFields (P : Program) : Nat → List Field → List LT → Bool
 | _, [], [] => true
 | n, f :: r, t :: ts => f.name != "_" && tLeaf P f.type t && Nat.beq f.offset n && plainFields P (n + 1) r ts
 | _, _, _ => false
def tEq (P : Program) (T : TypeId) : Bool → List LT → Bool
 | false, [t] => tLeaf P T t
 | true, ts => match P.underlying T with
   | some (.struct fs) => P.stoodInHeld T == false && P.eqGuardType P.depth T == false && plainFields P 0 fs.toList ts
   | some (.array n e) => P.eqGuardType P.depth T == false && Nat.beq ts.length n && tSize P e 1 && ts.all (tLeaf P e)
   | _ => false
 | _, _ => false
def fieldAt (P : Program) (T f off : Nat) : Bool := match P.underlying T with
 | some (.struct fs) => match fs[f]? with
   | some x => Nat.beq x.offset off && (match P.info? x.type with
     | some i => !Nat.beq i.size 0
     | none => false)
   | none => false
 | _ => false
def fieldOf (P : Program) (T f : Nat) (agg : Bool) (size off : Nat) : Bool := match P.underlying T with
 | some (.struct fs) => match fs[f]? with
   | some x => Nat.beq x.offset off && tSize P x.type size && tAgg P x.type == agg && (agg || Nat.beq size 1) && (P.underlying x.type).isSome
   | none => false
 | _ => false
def chkParts (P : Program) (place : Nat → Option (Nat × Nat)) : List (Nat × Operand) → List (Nat × Nat × Opd) → Bool
 | [], [] => true
 | (i, x) :: r, (off, size, y) :: r' => (match place i with
   | some (o, s) => Nat.beq o off && Nat.beq s size
   | none => false) && chkOpd x y && chkParts P place r r'
 | _, _ => false
def structPlace (P : Program) (fs : Array Field) (i : Nat) : Option (Nat × Nat) := match fs[i]? with
 | some f => (P.info? f.type).map fun t => (f.offset, t.size)
 | none => none
def chkEnum : Nat → List (Nat × Operand) → List Opd → Bool
 | _, [], [] => true
 | n, (i, x) :: r, y :: r' => Nat.beq i n && chkOpd x y && chkEnum (n + 1) r r'
 | _, _, _ => false
def isNilSlice : Operand → Bool
 | .const (.slice none 0 0) => true
 | _ => false
def isZero : Option Operand → Bool
 | some (.const (.int .i64 0)) => true
 | _ => false
def tMap (P : Program) (T : TypeId) (k : IntKind) : Bool := match P.underlying T with
 | some (.map K _) => tInt P K k
 | _ => false
def tMapI (P : Program) (T : TypeId) : Bool := match P.underlying T with
 | some (.map K _) => (match P.underlying K with
   | some (.int _) => true
   | _ => false)
 | _ => false
def tMapZ (P : Program) (T : TypeId) (z : V) : Bool := match P.underlying T with
 | some (.map _ E) => tZero P E z
 | _ => false
def tConc (P : Program) (T : TypeId) : Bool := match P.underlying T with
 | some (.interface _) => false
 | some _ => true
 | none => false
def chkOp (P : Program) (o : Op) (a : AOp) : Bool :=
 match o, a with
 | .move x, .mov y => chkOpd x y
 | .assign x, .mov y => chkOpd x y
 | .assign x, .newVec _ => isNilSlice x
 | .assign x, .newArr _ => isNilSlice x
 | .pick c x y, .pick c' x' y' => chkOpd c c' && chkOpd x x' && chkOpd y y'
 | .binOp op T x y _, .bin op' st et x' y' => decide (op = op') && chkOpd x x' && chkOpd y y' && (match op with
   | .eql | .neq => tEq P T st et
   | _ => true)
 | .makeInterface .., .dead => true
 | .panic _, .dead => true
 | .unOp .not _ x, .not y => chkOpd x y
 | .unOp .neg _ x, .bin .sub _ _ (.c (.int .i64 0)) y => chkOpd x y
 | .call c, .len s x => (match c.callee with
   | .builtin .len => true
   | _ => false) && (match c.args.toList, c.argTypes.toList with
   | [y], t :: _ => chkOpd y x && (match s with
     | true => tString P t
     | false => (match P.underlying t with
       | some (.slice _) => true
       | _ => false))
   | _, _ => false)
 | .alloc T, .alloc nm z => tZero P T z && tyOkB nm T
 | .box T x, .box nm _ y => chkOpd x y && tyOkB nm T
 | .box T x, .boxR et _ y => chkOpd x y && Nat.beq T et
 | .build T ps, .build z ps' => (match P.info? T with
   | some i => (match i.zero with
     | some x => constLeaves x.cells.toList z
     | none => false)
   | none => false) && (match P.underlying T with
   | some (.struct fs) => fs.toList.all (fun f => (P.info? f.type).isSome) && chkParts P (structPlace P fs) ps.toList ps'
   | some (.array _ e) => (match P.info? e with
     | some i => chkParts P (fun k => some (k * i.size, i.size)) ps.toList ps'
     | none => false)
   | _ => false)
 | .buildSlice T len ps, .bsl size xs => (match P.underlying T with
   | some (.slice e) => (match P.info? e with
     | some i => Nat.beq i.size size && !Nat.beq size 0 && (match i.zero with
       | some z => Nat.beq z.cells.size size
       | none => false)
     | none => false)
   | _ => false) && Nat.beq len xs.length && Nat.ble (len * size) 16777216 && chkEnum 0 ps.toList xs
 | .buildSlice T len ps, .bslO _ size xs => (match P.underlying T with
   | some (.slice e) => (match P.info? e with
     | some i => Nat.beq i.size size && !Nat.beq size 0 && (match i.zero with
       | some z => Nat.beq z.cells.size size
       | none => false)
     | none => false)
   | _ => false) && Nat.beq len xs.length && Nat.ble (len * size) 16777216 && chkEnum 0 ps.toList xs
 | .buildSlice T len ps, .bslA _ size xs => (match P.underlying T with
   | some (.slice e) => (match P.info? e with
     | some i => Nat.beq i.size size && !Nat.beq size 0 && (match i.zero with
       | some z => Nat.beq z.cells.size size
       | none => false)
     | none => false)
   | _ => false) && Nat.beq len xs.length && Nat.ble (len * size) 16777216 && chkEnum 0 ps.toList xs
 | .load T x, .load agg size y => chkOpd x y && tSize P T size && tAgg P T == agg && (agg || Nat.beq size 1) && (P.underlying T).isSome
 | .store T x v, .store size y v' => chkOpd x y && chkOpd v v' && tSize P T size
 | .fieldAddr T x f, .faddr off y => chkOpd x y && fieldAt P T f off
 | .indexAddr T x i, .faddr off y => chkOpd x y && idxAt P T i off
 | .field T x f, .field agg size off y => chkOpd x y && fieldOf P T f agg size off
 | .indexAddr T x i, .iaddr size y j => chkOpd x y && chkOpd i j && tSlice P T size
 | .index T x i, .index y j => chkOpd x y && chkOpd i j && tString P T
 | .index T x i, .idxA len y j => chkOpd x y && chkOpd i j && tArr1 P T len
 | .extract x i, .extract y j => chkOpd x y && Nat.beq i j
 | .call c, .append size bytes et x y => (match c.callee with
   | .builtin .append => true
   | _ => false) && (match c.args.toList, c.argTypes.toList with
   | [a, b], [t, u] => chkOpd a x && chkOpd b y && (Nat.beq t u || tString P u) && tSliceZ P t size bytes && tElem P t et
   | _, _ => false)
 | .call c, .appR size bytes et x y => (match c.callee with
   | .builtin .append => true
   | _ => false) && (match c.args.toList, c.argTypes.toList with
   | [a, b], [t, u] => chkOpd a x && chkOpd b y && (Nat.beq t u || tString P u) && tSliceZ P t size bytes && tElem P t et
   | _, _ => false)
 | .slice T x lo hi mx, .slice s size y lo' hi' => chkOpd x y && chkOpt lo lo' && chkOpt hi hi' && mx.isNone && (match s with
   | true => tString P T
   | false => tSlice P T size)
 | .slice T x lo hi mx, .cut0 y => chkOpd x y && (lo.isNone || isZero lo) && isZero hi && isZero mx && (match P.underlying T with
   | some (.slice e) => (P.info? e).isSome
   | _ => false)
 | .makeSlice T a b, .mkSl _ size bytes z a' b' => chkOpd a a' && chkOpd b b' && tSliceZ P T size bytes && tSliceZV P T z
 | .makeSlice T a b, .mkVec nm size bytes a' b' => chkOpd a a' && chkOpd b b' && tSliceZ P T size bytes && Nat.beq (nm / 1099511627776) 0
 | .makeFunc fn first caps, .mkfn f caps' => (match fn with
   | .func f' => Nat.beq f f'
   | _ => false) && first.isEmpty && chkOpds caps.toList caps'
 | .convert src dst x, .conv k y => chkOpd x y && tInt P dst k && (P.underlying src).isSome
 | .nilCheck x, .nilck y => chkOpd x y
 | .binOp op T x y _, .isnili neg x' => chkOpd x x' && decide (op = (bif neg then .neq else .eql)) && (match y, P.underlying T with
   | .const .nilIface, some (.interface _) => true
   | _, _ => false)
 | .binOp op T x y _, .isnil neg x' => chkOpd x x' && isNilSlice y && decide (op = (bif neg then .neq else .eql)) && (match P.underlying T with
   | some (.slice _) => true
   | _ => false)
 | .call c, .clear size bytes z x => (match c.callee with
   | .builtin .clear => true
   | _ => false) && (match c.args.toList, c.argTypes.toList with
   | [y], t :: _ => chkOpd y x && tSliceZ P t size bytes && tSliceZV P t z
   | _, _ => false)
 | .call c, .max x y => (match c.callee with
   | .builtin .max => true
   | _ => false) && (match c.args.toList with
   | [a, b] => chkOpd a x && chkOpd b y
   | _ => false)
 | .call c, .min x y => (match c.callee with
   | .builtin .min => true
   | _ => false) && (match c.args.toList with
   | [a, b] => chkOpd a x && chkOpd b y
   | _ => false)
 | .makeMap T r, .mkMap _ k => r.isNone && tMap P T k
 | .lookup T x i ok, .mget ok' z y j => chkOpd x y && chkOpd i j && ok == ok' && tMapI P T && tMapZ P T z
 | .mapUpdate T m k v, .mput m' k' v' => chkOpd m m' && chkOpd k k' && chkOpd v v' && tMapI P T
 | .insert T m k v, .mput m' k' v' => chkOpd m m' && chkOpd k k' && chkOpd v v' && tMapI P T
 | .call c, .mdel x i => (match c.callee with
   | .builtin .delete => true
   | _ => false) && (match c.args.toList, c.argTypes.toList with
   | [a, b], t :: _ => chkOpd a x && chkOpd b i && tMapI P t
   | _, _ => false)
 | .call c, .mlen x => (match c.callee with
   | .builtin .len => true
   | _ => false) && (match c.args.toList, c.argTypes.toList with
   | [a], t :: _ => chkOpd a x && tMapI P t
   | _, _ => false)
 | .makeInterface T x, .mkifc t y => Nat.beq T t && chkOpd x y && tConc P T
 | .typeAssert x _ T false, .tass t y => Nat.beq T t && chkOpd x y && tConc P T
 | .call c, .callM _ name x args => (match c.callee with
   | .invoke r n => n == name && chkOpd r x
   | _ => false) && chkOpds c.args.toList args
 | .call c, .call _ f args => (match c.callee with
   | .value g => chkOpd g f
   | _ => false) && chkOpds c.args.toList args
 | _, _ => false
section
variable {G : Type} {J : JT G} {w w' w'' : World} {S F S' F' S'' F'' : Nat → Prop} {θ θ' θ'' : Names} {σ σ' σ'' : Store} {l : Nat} {g g' : G}
theorem St.step (hst : Stable J) (h : St J w S F θ σ l g) (hfr : Fr w S F θ σ w' S' F θ' σ') (nm : Nat)
  (ho : ∀ nm', nm' ≠ nm → σ' nm' = σ nm' ∧ θ' nm' = θ nm')
  (hb : ∀ nm' b m, nm' ≠ nm → (σ nm').live → θ nm' = some (b, m) → w'.heap[b]? = w.heap[b]?)
  (hF : ∀ b, F b → w'.heap[b]? = w.heap[b]?)
  (hnm : BlkOk w' S' θ' σ' l nm (σ' nm))
  (hnew : ∀ b m, (σ' nm).live → θ' nm = some (b, m) → ¬ S' b ∧ ¬ F b ∧ ∀ nm' m', nm' ≠ nm → (σ nm').live → θ nm' ≠ some (b, m'))
  (hS1 : ∀ b, S' b → b < w'.heap.size ∧ ¬ F b) (hS2 : ∀ b nm' m, S' b → nm' ≠ nm → (σ nm').live → θ nm' ≠ some (b, m)) :
  St J w' S' F θ' σ' l g := by
 refine ⟨fun b hb' => (hS1 b hb').1, fun nm' => ?_, fun n1 n2 b m m' h1 h2 h3 h4 => ?_, ?_, fun b hb' => ?_, ?_⟩
 · by_cases e : nm' = nm
   · subst e; exact hnm
   · obtain ⟨e1, e2⟩ := ho nm' e
     have hk := h.hblk nm'
     rw [e1]
     cases hs : σ nm' with
     | unused => rw [hs] at hk; simp only [BlkOk] at hk ⊢; rw [e2]; exact hk
     | dead => trivial
     | box row =>
      rw [hs] at hk
      simp only [BlkOk] at hk ⊢
      obtain ⟨b, c, e, h1, h2, h3, h4⟩ := hk
      refine ⟨b, c, e, by rw [e2]; exact h1, by rw [hb nm' b _ ‹_› (live_box hs) h1]; exact h2, h3, fun j v hj => ?_⟩
      obtain ⟨y, hy, hr⟩ := h4 j v hj
      exact ⟨y, hy, hr.fr hfr h⟩
     | arr gen rows =>
      rw [hs] at hk
      simp only [BlkOk] at hk ⊢
      rcases hk with ⟨h1, h2⟩ | ⟨b, m, c, e, h1, h2, h3, h4, h5⟩
      · exact .inl ⟨by rw [e2]; exact h1, h2⟩
      · refine .inr ⟨b, m, c, e, by rw [e2]; exact h1, by rw [hb nm' b _ ‹_› (live_arr hs) h1]; exact h2, h3, h4, fun i j row v h6 h7 => ?_⟩
        obtain ⟨y, hy, hr⟩ := h5 i j row v h6 h7
        exact ⟨y, hy, hr.mono (hfr.stable h) hfr.smono⟩
     | vec k =>
      rw [hs] at hk
      simp only [BlkOk] at hk ⊢
      rcases hk with ⟨h1, h2⟩ | ⟨b, m, c, e, h1, h2, h3⟩
      · exact .inl ⟨by rw [e2]; exact h1, h2⟩
      · exact .inr ⟨b, m, c, e, by rw [e2]; exact h1, by rw [hb nm' b _ ‹_› (live_vec hs) h1]; exact h2, h3⟩
     | mp k ns vs =>
      rw [hs] at hk
      simp only [BlkOk] at hk ⊢
      obtain ⟨r, es, clk, h1, h2, h3⟩ := hk
      exact ⟨r, es, clk, by rw [e2]; exact h1, by rw [hb nm' r _ ‹_› (live_mp hs) h1]; exact h2, h3.mono (hfr.stable h) hfr.smono⟩
 · by_cases e1 : n1 = nm
   · by_cases e2 : n2 = nm
     · rw [e1, e2]
     · subst e1
       obtain ⟨a1, a2⟩ := ho n2 e2
       exact absurd (by rw [← a2]; exact h4) ((hnew b m h1 h3).2.2 n2 m' e2 (by rw [← a1]; exact h2))
   · by_cases e2 : n2 = nm
     · subst e2
       obtain ⟨a1, a2⟩ := ho n1 e1
       exact absurd (by rw [← a2]; exact h3) ((hnew b m' h2 h4).2.2 n1 m e1 (by rw [← a1]; exact h1))
     · obtain ⟨a1, a2⟩ := ho n1 e1
       obtain ⟨a3, a4⟩ := ho n2 e2
       exact h.hinj n1 n2 b m m' (by rw [← a1]; exact h1) (by rw [← a3]; exact h2) (by rw [← a2]; exact h3) (by rw [← a4]; exact h4)
 · rintro b ⟨n1, m, h1, h2⟩ hS
   by_cases e1 : n1 = nm
   · subst e1; exact (hnew b m h1 h2).1 hS
   · obtain ⟨a1, a2⟩ := ho n1 e1
     exact hS2 b n1 m hS e1 (by rw [← a1]; exact h1) (by rw [← a2]; exact h2)
 · refine ⟨Nat.lt_of_lt_of_le (h.hF b hb').1 hfr.size, fun hS => (hS1 b hS).2 hb', ?_⟩
   rintro ⟨n1, m, h1, h2⟩
   by_cases e1 : n1 = nm
   · subst e1; exact (hnew b m h1 h2).2.1 hb'
   · obtain ⟨a1, a2⟩ := ho n1 e1
     exact (h.hF b hb').2.2 ⟨n1, m, by rw [← a1]; exact h1, by rw [← a2]; exact h2⟩
 · exact hst.2 g w S F w' S' h.hJ h.hS (fun b hb' => (h.hF b hb').1) (fun b hb' => by
    rcases hb' with hb' | hb'
    · exact hfr.stable h b hb'
    · exact hF b hb') hfr.smono hfr.size hfr.os hfr.tape hfr.output hS1 hfr.sizedS
theorem upt_self (σ : Store) (nm : Nat) (b : Blk) : ups σ nm b nm = b := by simp [ups]
theorem upt_ne (σ : Store) {nm nm' : Nat} (b : Blk) (h : nm' ≠ nm) : ups σ nm b nm' = σ nm' := by
 unfold ups
 cases hb : Nat.beq nm' nm with
 | true => exact absurd (Nat.eq_of_beq_eq_true hb) h
 | false => rfl
theorem upd_self (ρ : Env) (t : Nat) (v : V) : upd ρ t v t = v := by simp [upd]
theorem upd_ne (ρ : Env) {t t' : Nat} (v : V) (h : t' ≠ t) : upd ρ t v t' = ρ t' := by
 unfold upd
 cases hb : Nat.beq t' t with
 | true => exact absurd (Nat.eq_of_beq_eq_true hb) h
 | false => rfl
def upn (θ : Names) (nm : Nat) (b : Option (Nat × Nat)) : Names := fun t => if t = nm then b else θ t
theorem upn_self (θ : Names) (nm : Nat) (b : Option (Nat × Nat)) : upn θ nm b nm = b := by simp [upn]
theorem upn_ne (θ : Names) {nm nm' : Nat} (b : Option (Nat × Nat)) (h : nm' ≠ nm) : upn θ nm b nm' = θ nm' := by simp [upn, h]
theorem live_lt (h : St J w S F θ σ l g) {nm b m : Nat} (hl : (σ nm).live) (hb : θ nm = some (b, m)) : b < w.heap.size := by
 have hk := h.hblk nm
 cases hs : σ nm with
 | unused => rw [hs] at hl; exact hl.elim
 | dead => rw [hs] at hl; exact hl.elim
 | box row =>
  rw [hs] at hk
  obtain ⟨b', c, e, h1, h2, _⟩ := hk
  rw [hb] at h1; simp at h1; rw [← h1.1] at h2; exact (Array.getElem?_eq_some_iff.1 h2).1
 | arr gen rows =>
  rw [hs] at hk
  rcases hk with ⟨h1, _⟩ | ⟨b', m', c, e, h1, h2, _⟩
  · rw [hb] at h1; cases h1
  · rw [hb] at h1; simp at h1; rw [← h1.1] at h2; exact (Array.getElem?_eq_some_iff.1 h2).1
 | vec k =>
  rw [hs] at hk
  rcases hk with ⟨h1, _⟩ | ⟨b', m', c, e, h1, h2, _⟩
  · rw [hb] at h1; cases h1
  · rw [hb] at h1; simp at h1; rw [← h1.1] at h2; exact (Array.getElem?_eq_some_iff.1 h2).1
 | mp k ns vs =>
  rw [hs] at hk
  obtain ⟨r, es, clk, h1, h2, _⟩ := hk
  rw [hb] at h1; simp at h1; rw [← h1.1] at h2; exact (Array.getElem?_eq_some_iff.1 h2).1
theorem heap_alloc_old' (w : World) (o : Obj) {b : Nat} (h : b < w.heap.size) : (w.alloc o).heap[b]? = w.heap[b]? := by
 simp only [World.alloc, Array.getElem?_push]
 rw [if_neg (by omega)]
theorem heap_alloc_new' (w : World) (o : Obj) : (w.alloc o).heap[w.heap.size]? = some o := by
 show (w.heap.push o)[w.heap.size]? = some o
 simp
theorem Fr.alloc (hs : St J w S F θ σ l g) (o : Obj) (nm m : Nat) (blk : Blk) (hu : σ nm = .unused) :
  Fr w S F θ σ (w.alloc o) S F (upn θ nm (some (w.heap.size, m))) (ups σ nm blk) where
 size := by simp
 os := rfl
 tape := rfl
 output := ⟨rfl, by first | exact fun _ => Nat.le_refl _ | exact fun _ => Nat.le_succ _⟩
 same := fun b hb _ _ => heap_alloc_old' w o hb
 sized := fun b c e fr h => ⟨c, fr, by rw [heap_alloc_old' w o (Array.getElem?_eq_some_iff.1 h).1]; exact h, rfl, .inl rfl⟩
 vecs := fun nm' k b m' h1 h2 j hj => cell_of_heap (heap_alloc_old' w o (live_lt hs (live_vec h1) h2))
 smono := fun _ h => h
 snew := fun _ h => .inl h
 live := fun b => by
  rintro ⟨n1, m1, h1, h2⟩ hlt
  by_cases e : n1 = nm
  · subst e; rw [upn_self] at h2; simp at h2; omega
  · rw [upt_ne σ blk e] at h1; rw [upn_ne θ _ e] at h2; exact ⟨n1, m1, h1, h2⟩
 fsub := fun _ h _ => h
 kdead := fun n h => by rw [upt_ne σ blk (fun e => by rw [e, hu] at h; cases h)]; exact h
 kbox := fun n row h => by
  have e : n ≠ nm := fun e => by rw [e, hu] at h; cases h
  exact .inr ⟨row, by rw [upt_ne σ blk e]; exact h, upn_ne θ _ e⟩
 karr := fun n gen rows h => by
  have e : n ≠ nm := fun e => by rw [e, hu] at h; cases h
  exact .inr ⟨gen, rows, by rw [upt_ne σ blk e]; exact h, Nat.le_refl _, fun _ => ⟨upn_ne θ _ e, Nat.le_refl _⟩⟩
 kvec := fun n k h => by
  have e : n ≠ nm := fun e => by rw [e, hu] at h; cases h
  exact .inr ⟨k, by rw [upt_ne σ blk e]; exact h, Nat.le_refl _, fun _ => upn_ne θ _ e, fun b m hb => .inl (by rw [upn_ne θ _ e]; exact hb)⟩
 kmp := fun n k ns vs h => by
  have e : n ≠ nm := fun e => by rw [e, hu] at h; cases h
  exact .inr ⟨k, ns, vs, by rw [upt_ne σ blk e]; exact h, upn_ne θ _ e⟩
theorem St.alloc (hst : Stable J) (hs : St J w S F θ σ l g) (o : Obj) (nm m : Nat) (blk : Blk) (hu : σ nm = .unused)
  (hk : BlkOk (w.alloc o) S (upn θ nm (some (w.heap.size, m))) (ups σ nm blk) l nm blk) :
  St J (w.alloc o) S F (upn θ nm (some (w.heap.size, m))) (ups σ nm blk) l g := by
 refine St.step hst hs (Fr.alloc hs o nm m blk hu) nm (fun nm' e => ⟨upt_ne σ blk e, upn_ne θ _ e⟩) (fun nm' b m _ h1 h2 => heap_alloc_old' w o (live_lt hs h1 h2)) (fun b hb => heap_alloc_old' w o (hs.hF b hb).1)
  (by rw [upt_self]; exact hk) ?_ (fun b hb => ⟨by have := hs.hS b hb; simp; omega, fun hf => (hs.hF b hf).2.1 hb⟩) (fun b nm' m hb e h1 h2 => hs.hliveS b ⟨nm', m, h1, h2⟩ hb)
 intro b m' _ hb
 rw [upn_self] at hb
 simp at hb
 obtain ⟨rfl, rfl⟩ := hb
 exact ⟨fun h => Nat.lt_irrefl _ (hs.hS _ h), fun h => Nat.lt_irrefl _ (hs.hF _ h).1, fun nm' m' _ h1 h2 => Nat.lt_irrefl _ (live_lt hs h1 h2)⟩
theorem Fr.fresh (nm : Nat) (blk : Blk) (hu : σ nm = .unused) (hθ : θ nm = none) : Fr w S F θ σ w S F θ (ups σ nm blk) where
 size := Nat.le_refl _
 os := rfl
 tape := rfl
 output := ⟨rfl, by first | exact fun _ => Nat.le_refl _ | exact fun _ => Nat.le_succ _⟩
 same := fun _ _ _ _ => rfl
 sized := fun _ c _ fr h => ⟨c, fr, h, rfl, .inl rfl⟩
 vecs := fun _ _ _ _ _ _ _ _ => rfl
 smono := fun _ h => h
 snew := fun _ h => .inl h
 live := fun b => by
  rintro ⟨n1, m1, h1, h2⟩ hlt
  by_cases e : n1 = nm
  · subst e; rw [hθ] at h2; cases h2
  · rw [upt_ne σ blk e] at h1; exact ⟨n1, m1, h1, h2⟩
 fsub := fun _ h _ => h
 kdead := fun n h => by rw [upt_ne σ blk (fun e => by rw [e, hu] at h; cases h)]; exact h
 kbox := fun n row h => by
  have e : n ≠ nm := fun e => by rw [e, hu] at h; cases h
  exact .inr ⟨row, by rw [upt_ne σ blk e]; exact h, rfl⟩
 karr := fun n gen rows h => by
  have e : n ≠ nm := fun e => by rw [e, hu] at h; cases h
  exact .inr ⟨gen, rows, by rw [upt_ne σ blk e]; exact h, Nat.le_refl _, fun _ => ⟨rfl, Nat.le_refl _⟩⟩
 kvec := fun n k h => by
  have e : n ≠ nm := fun e => by rw [e, hu] at h; cases h
  exact .inr ⟨k, by rw [upt_ne σ blk e]; exact h, Nat.le_refl _, fun _ => rfl, fun b m hb => .inl hb⟩
 kmp := fun n k ns vs h => by
  have e : n ≠ nm := fun e => by rw [e, hu] at h; cases h
  exact .inr ⟨k, ns, vs, by rw [upt_ne σ blk e]; exact h, rfl⟩
theorem St.fresh (hst : Stable J) (hs : St J w S F θ σ l g) (nm : Nat) (blk : Blk) (hu : σ nm = .unused) (hk : BlkOk w S θ (ups σ nm blk) l nm blk) : St J w S F θ (ups σ nm blk) l g := by
 have hθ : θ nm = none := by have := hs.hblk nm; rw [hu] at this; exact this
 refine St.step hst hs (Fr.fresh nm blk hu hθ) nm (fun nm' e => ⟨upt_ne σ blk e, rfl⟩) (fun _ _ _ _ _ _ => rfl) (fun _ _ => rfl)
  (by rw [upt_self]; exact hk) (fun b m _ hb => by rw [hθ] at hb; cases hb) (fun b hb => ⟨hs.hS b hb, fun hf => (hs.hF b hf).2.1 hb⟩) (fun b nm' m hb e h1 h2 => hs.hliveS b ⟨nm', m, h1, h2⟩ hb)
theorem Fr.stab (hs : St J w S F θ σ l g) (o : Obj) : Fr w S F θ σ (w.alloc o) (fun b => S b ∨ b = w.heap.size) F θ σ where
 size := by simp
 os := rfl
 tape := rfl
 output := ⟨rfl, by first | exact fun _ => Nat.le_refl _ | exact fun _ => Nat.le_succ _⟩
 same := fun b hb _ _ => heap_alloc_old' w o hb
 sized := fun b c e fr h => ⟨c, fr, by rw [heap_alloc_old' w o (Array.getElem?_eq_some_iff.1 h).1]; exact h, rfl, .inl rfl⟩
 vecs := fun nm' k b m' h1 h2 j hj => cell_of_heap (heap_alloc_old' w o (live_lt hs (live_vec h1) h2))
 smono := fun _ h => .inl h
 snew := fun b h => by
  rcases h with h | h
  · exact .inl h
  · exact .inr (.inr (.inr (by omega)))
 live := fun _ h _ => h
 fsub := fun _ h _ => h
 kdead := fun _ h => h
 kbox := fun _ row h => .inr ⟨row, h, rfl⟩
 karr := fun _ gen rows h => .inr ⟨gen, rows, h, Nat.le_refl _, fun _ => ⟨rfl, Nat.le_refl _⟩⟩
 kvec := fun _ k h => .inr ⟨k, h, Nat.le_refl _, fun _ => rfl, fun _ _ h => .inl h⟩
 kmp := fun _ k ns vs h => .inr ⟨k, ns, vs, h, rfl⟩
theorem St.stab (hst : Stable J) (hs : St J w S F θ σ l g) (o : Obj) : St J (w.alloc o) (fun b => S b ∨ b = w.heap.size) F θ σ l g := by
 have hfr := Fr.stab hs o
 refine ⟨fun b hb => ?_, fun nm => ?_, hs.hinj, fun b hb hS => ?_, fun b hb => ?_, ?_⟩
 · rcases hb with hb | hb
   · have := hs.hS b hb; simp; omega
   · simp; omega
 · have hk := hs.hblk nm
   cases h : σ nm with
   | unused => rw [h] at hk; exact hk
   | dead => trivial
   | box row =>
    rw [h] at hk
    obtain ⟨b, c, e, h1, h2, h3, h4⟩ := hk
    refine ⟨b, c, e, h1, by rw [heap_alloc_old' w o (live_lt hs (live_box h) h1)]; exact h2, h3, fun j v hj => ?_⟩
    obtain ⟨y, hy, hr⟩ := h4 j v hj
    exact ⟨y, hy, hr.fr hfr hs⟩
   | arr gen rows =>
    rw [h] at hk
    rcases hk with ⟨h1, h2⟩ | ⟨b, m, c, e, h1, h2, h3, h4, h5⟩
    · exact .inl ⟨h1, h2⟩
    · refine .inr ⟨b, m, c, e, h1, by rw [heap_alloc_old' w o (live_lt hs (live_arr h) h1)]; exact h2, h3, h4, fun i j row v h6 h7 => ?_⟩
      obtain ⟨y, hy, hr⟩ := h5 i j row v h6 h7
      exact ⟨y, hy, hr.mono (hfr.stable hs) hfr.smono⟩
   | vec k =>
    rw [h] at hk
    rcases hk with ⟨h1, h2⟩ | ⟨b, m, c, e, h1, h2, h3⟩
    · exact .inl ⟨h1, h2⟩
    · exact .inr ⟨b, m, c, e, h1, by rw [heap_alloc_old' w o (live_lt hs (live_vec h) h1)]; exact h2, h3⟩
   | mp k ns vs =>
    rw [h] at hk
    obtain ⟨r, es, clk, h1, h2, h3⟩ := hk
    exact ⟨r, es, clk, h1, by rw [heap_alloc_old' w o (live_lt hs (live_mp h) h1)]; exact h2, h3.mono (hfr.stable hs) hfr.smono⟩
 · obtain ⟨nm, m, h1, h2⟩ := hb
   rcases hS with hS | hS
   · exact hs.hliveS b ⟨nm, m, h1, h2⟩ hS
   · have := live_lt hs h1 h2; omega
 · obtain ⟨h1, h2, h3⟩ := hs.hF b hb
   refine ⟨by simp; omega, fun hS => ?_, h3⟩
   rcases hS with hS | hS
   · exact h2 hS
   · omega
 · exact hst.2 g w S F _ _ hs.hJ hs.hS (fun b hb' => (hs.hF b hb').1) (fun b hb' => by
    rcases hb' with hb' | hb'
    · exact heap_alloc_old' w o (hs.hS b hb')
    · exact heap_alloc_old' w o (hs.hF b hb').1) hfr.smono hfr.size rfl rfl hfr.output (fun b hb => by
    rcases hb with hb | hb
    · exact ⟨by have := hs.hS b hb; simp; omega, fun hf => (hs.hF b hf).2.1 hb⟩
    · exact ⟨by simp; omega, fun hf => by have := (hs.hF b hf).1; omega⟩) hfr.sizedS
theorem St.drew (hst : Stable J) (hs : St J w S F θ σ l g) : St J w.drew S F θ σ l g ∧ Fr w S F θ σ w.drew S F θ σ := by
 have hfr : Fr w S F θ σ w.drew S F θ σ := { Fr.refl w S F θ σ with os := rfl, output := ⟨rfl, fun _ => Nat.le_succ _⟩ }
 refine ⟨⟨hs.hS, fun nm => ?_, hs.hinj, hs.hliveS, hs.hF, ?_⟩, hfr⟩
 · have hk := hs.hblk nm
   cases h : σ nm with
   | unused => rw [h] at hk; exact hk
   | dead => trivial
   | box row =>
    rw [h] at hk
    obtain ⟨b, c, e, h1, h2, h3, h4⟩ := hk
    refine ⟨b, c, e, h1, h2, h3, fun j v hj => ?_⟩
    obtain ⟨y, hy, hr⟩ := h4 j v hj
    exact ⟨y, hy, hr.fr hfr hs⟩
   | arr gen rows =>
    rw [h] at hk
    rcases hk with ⟨h1, h2⟩ | ⟨b, m, c, e, h1, h2, h3, h4, h5⟩
    · exact .inl ⟨h1, h2⟩
    · refine .inr ⟨b, m, c, e, h1, h2, h3, h4, fun i j row v h6 h7 => ?_⟩
      obtain ⟨y, hy, hr⟩ := h5 i j row v h6 h7
      exact ⟨y, hy, hr.mono (hfr.stable hs) hfr.smono⟩
   | vec k =>
    rw [h] at hk
    rcases hk with ⟨h1, h2⟩ | ⟨b, m, c, e, h1, h2, h3⟩
    · exact .inl ⟨h1, h2⟩
    · exact .inr ⟨b, m, c, e, h1, h2, h3⟩
   | mp k ns vs =>
    rw [h] at hk
    obtain ⟨r, es, clk, h1, h2, h3⟩ := hk
    exact ⟨r, es, clk, h1, h2, h3.mono (hfr.stable hs) hfr.smono⟩
 · exact hst.2 g w S F _ _ hs.hJ hs.hS (fun b hb' => (hs.hF b hb').1) (fun _ _ => rfl) (fun _ h => h) (Nat.le_refl _) rfl rfl hfr.output (fun b hb => ⟨hs.hS b hb, fun hf => (hs.hF b hf).2.1 hb⟩) hfr.sizedS
theorem setRow_size (w : World) (b : Nat) (cs : Array Value) : (w.setRow b cs).heap.size = w.heap.size := by simp [World.setRow]
theorem setRow_old (w : World) (b : Nat) (cs : Array Value) {b' : Nat} (h : b' ≠ b) : (w.setRow b cs).heap[b']? = w.heap[b']? := by
 simp only [World.setRow, Array.getElem?_modify]
 rw [if_neg (fun e => h e.symm)]
theorem Fr.write (hs : St J w S F θ σ l g) (nm b m : Nat) (c c' : Array Value) (e : TypeId) (blk : Blk) (hl : (σ nm).live) (hθ : θ nm = some (b, m)) (hb : w.heap[b]? = some (.cells c e (0, 0))) (hc : c'.size = c.size)
  (hk : match σ nm with
    | .box _ => ∃ row', blk = .box row'
    | .arr gen rows => ∃ rows', blk = .arr gen rows' ∧ rows.length ≤ rows'.length ∨ ∃ rows', blk = .arr (gen + 1) rows'
    | .vec k => (∃ k', blk = .vec k' ∧ k ≤ k') ∧ ∀ j, j < k * m → c'[j]? = c[j]?
    | _ => False) :
  Fr w S F θ σ (w.setRow b c') S F θ (ups σ nm blk) where
 size := by rw [setRow_size]; exact Nat.le_refl _
 os := rfl
 tape := rfl
 output := ⟨rfl, by first | exact fun _ => Nat.le_refl _ | exact fun _ => Nat.le_succ _⟩
 same := fun b' _ hl' _ => setRow_old w b c' (fun e => hl' (by subst e; exact ⟨nm, m, hl, hθ⟩))
 sized := fun b' c0 e0 fr h => by
  by_cases e : b' = b
  · subst e
    rw [hb] at h
    injection h with h
    injection h with h1 h2 h3
    subst h1 h2 h3
    exact ⟨c', (0, 0), setRow_heap w b' c c' _ _ hb, hc, .inl rfl⟩
  · exact ⟨c0, fr, by rw [setRow_old w b c' e]; exact h, rfl, .inl rfl⟩
 vecs := fun nm' k b' m' h1 h2 j hj => by
  by_cases e : b' = b
  · subst e
    have e2 := hs.hinj nm nm' b' m m' hl (live_vec h1) hθ h2
    subst e2
    rw [h1] at hk
    rw [hθ] at h2
    simp at h2
    rw [cell_of_row _ b' j c' _ _ (setRow_heap w b' c c' _ _ hb), cell_of_row w b' j c _ _ hb]
    exact hk.2 j (by rw [h2]; exact hj)
  · exact cell_of_heap (setRow_old w b c' e)
 smono := fun _ h => h
 snew := fun _ h => .inl h
 live := fun b' => by
  rintro ⟨n1, m1, h1, h2⟩ hlt
  by_cases e : n1 = nm
  · subst e; exact ⟨n1, m1, hl, h2⟩
  · rw [upt_ne σ blk e] at h1; exact ⟨n1, m1, h1, h2⟩
 fsub := fun _ h _ => h
 kdead := fun n h => by rw [upt_ne σ blk (fun e => by rw [e] at h; rw [h] at hl; exact hl)]; exact h
 kbox := fun n row h => by
  by_cases e : n = nm
  · subst e; rw [h] at hk; obtain ⟨row', rfl⟩ := hk; exact .inr ⟨row', upt_self _ _ _, rfl⟩
  · exact .inr ⟨row, by rw [upt_ne σ blk e]; exact h, rfl⟩
 karr := fun n gen rows h => by
  by_cases e : n = nm
  · subst e
    rw [h] at hk
    rcases hk with ⟨rows', ⟨rfl, hle⟩ | ⟨rows'', rfl⟩⟩
    · exact .inr ⟨gen, rows', upt_self _ _ _, Nat.le_refl _, fun _ => ⟨rfl, hle⟩⟩
    · exact .inr ⟨gen + 1, rows'', upt_self _ _ _, Nat.le_succ _, fun e => by omega⟩
  · exact .inr ⟨gen, rows, by rw [upt_ne σ blk e]; exact h, Nat.le_refl _, fun _ => ⟨rfl, Nat.le_refl _⟩⟩
 kvec := fun n k h => by
  by_cases e : n = nm
  · subst e; rw [h] at hk; obtain ⟨⟨k', rfl, hle⟩, _⟩ := hk; exact .inr ⟨k', upt_self _ _ _, hle, fun _ => rfl, fun b m hb => .inl hb⟩
  · exact .inr ⟨k, by rw [upt_ne σ blk e]; exact h, Nat.le_refl _, fun _ => rfl, fun b m hb => .inl hb⟩
 kmp := fun n k ns vs h => by
  by_cases e : n = nm
  · subst e; rw [h] at hk; exact hk.elim
  · exact .inr ⟨k, ns, vs, by rw [upt_ne σ blk e]; exact h, rfl⟩
theorem St.write (hst : Stable J) (hs : St J w S F θ σ l g) (nm b m : Nat) (c' : Array Value) (blk : Blk) (hl : (σ nm).live) (hθ : θ nm = some (b, m))
  (hfr : Fr w S F θ σ (w.setRow b c') S F θ (ups σ nm blk)) (hk : BlkOk (w.setRow b c') S θ (ups σ nm blk) l nm blk) : St J (w.setRow b c') S F θ (ups σ nm blk) l g := by
 refine St.step hst hs hfr nm (fun nm' e => ⟨upt_ne σ blk e, rfl⟩) (fun nm' b' m' e h1 h2 => setRow_old w b c' fun eb => ?_) (fun b' hb' => setRow_old w b c' fun eb => ?_)
  (by rw [upt_self]; exact hk) (fun b' m' _ hb' => ?_) (fun b' hb' => ⟨by rw [setRow_size]; exact hs.hS b' hb', fun hf => (hs.hF b' hf).2.1 hb'⟩) (fun b' nm' m' hb' e h1 h2 => hs.hliveS b' ⟨nm', m', h1, h2⟩ hb')
 · subst eb; exact e (hs.hinj nm' nm b' m' m h1 hl h2 hθ)
 · subst eb; exact (hs.hF b' hb').2.2 ⟨nm, m, hl, hθ⟩
 · refine ⟨hs.hliveS b' ⟨nm, m', hl, hb'⟩, fun hf => (hs.hF b' hf).2.2 ⟨nm, m', hl, hb'⟩, fun nm' m'' e h1 h2 => e (hs.hinj nm' nm b' m'' m' h1 hl h2 hb')⟩
end
section
variable {G : Type} {J : JT G} {w w' w'' : World} {S F S' F' S'' F'' : Nat → Prop} {θ θ' θ'' : Names} {σ σ' σ'' : Store} {l : Nat} {g g' : G}
@[simp] theorem bsize (l : List UInt8) : (ByteArray.mk l.toArray).size = l.length := rfl
theorem Rep.int_inv {k : IntKind} {n : Int} {x : Value} (h : Rep w S θ σ l (.int k n) x) : x = .int k n := by
 cases h with
 | pure h => cases h; rfl
theorem Rep.bool_inv {b : Bool} {x : Value} (h : Rep w S θ σ l (.bool b) x) : x = .bool b := by
 cases h with
 | pure h => cases h; rfl
theorem Rep.str_inv {s : List UInt8} {x : Value} (h : Rep w S θ σ l (.str s) x) : x = .string ⟨s.toArray⟩ := by
 cases h with
 | pure h => cases h; rfl
theorem Rep.agg_inv {vs : List V} {x : Value} (h : Rep w S θ σ l (.agg vs) x) : ∃ xs : List Value, x = .agg xs.toArray ∧ vs.length = xs.length ∧ ∀ (i : Nat) (v : V) (x : Value), vs[i]? = some v → xs[i]? = some x → Rep w S θ σ l v x := by
 cases h with
 | pure h => cases h with | agg _ xs hl h => exact ⟨xs, rfl, hl, fun i v x h1 h2 => .pure (h i v x h1 h2)⟩
 | agg _ xs hl h => exact ⟨xs, rfl, hl, h⟩
theorem Rep.tup_inv {vs : List V} {x : Value} (h : Rep w S θ σ l (.tup vs) x) : ∃ xs : List Value, x = .tuple xs.toArray ∧ vs.length = xs.length ∧ ∀ (i : Nat) (v : V) (x : Value), vs[i]? = some v → xs[i]? = some x → Rep w S θ σ l v x := by
 cases h with
 | pure h => cases h with | tup _ xs hl h => exact ⟨xs, rfl, hl, fun i v x h1 h2 => .pure (h i v x h1 h2)⟩
 | tup _ xs hl h => exact ⟨xs, rfl, hl, h⟩
theorem Rep.fn_inv {f : Nat} {vs : List V} {x : Value} (h : Rep w S θ σ l (.fn f vs) x) : ∃ xs : List Value, x = .func (.func f) #[] xs.toArray ∧ vs.length = xs.length ∧ ∀ (i : Nat) (v : V) (x : Value), vs[i]? = some v → xs[i]? = some x → Rep w S θ σ l v x := by
 cases h with
 | pure h => cases h with | fn _ _ xs hl h => exact ⟨xs, rfl, hl, fun i v x h1 h2 => .pure (h i v x h1 h2)⟩
 | fn _ _ xs hl h => exact ⟨xs, rfl, hl, h⟩
theorem Rep.rnd_inv {x : Value} (h : Rep w S θ σ l .rnd x) : x = .func (.yield l) #[] #[] := by
 cases h with
 | pure h => cases h
 | rnd => rfl
theorem Rep.sl_inv {t : Tag} {rows : List V} {x : Value} (h : Rep w S θ σ l (.sl t rows) x) :
  ∃ a cap, x = .slice a rows.length cap ∧ rows.length ≤ cap ∧ (rows ≠ [] → ∃ b off m, a = some ⟨b, off, none⟩ ∧ (∀ row ∈ rows, row.cells.length = m) ∧
    ∃ ys : Nat → Nat → Value, ∀ (i j : Nat) (row v : V), rows[i]? = some row → row.cells[j]? = some v → w.cell? ⟨b, off + i * m + j, none⟩ = some (ys i j) ∧ RepP w S v (ys i j)) := by
 cases h with
 | pure h =>
  cases h with
  | nilsl a => exact ⟨a, 0, rfl, Nat.le_refl _, fun h => absurd rfl h⟩
  | emp a cap => exact ⟨a, cap, rfl, Nat.zero_le _, fun h => absurd rfl h⟩
  | sl _ b off cap m ys hS hcap hw hc hr => exact ⟨_, cap, rfl, hcap, fun _ => ⟨b, off, m, rfl, hw, ys, fun i j row v h1 h2 => ⟨hc i j row v h1 h2, hr i j row v h1 h2⟩⟩⟩
 | own nm _ b off cap m ys hn hb hcap hw hc hr hf => exact ⟨_, cap, rfl, hcap, fun _ => ⟨b, off, m, rfl, hw, ys, fun i j row v h1 h2 => ⟨hc i j row v h1 h2, hr i j row v h1 h2⟩⟩⟩
 | ownemp nm a hn => exact ⟨a, 0, rfl, Nat.le_refl _, fun h => absurd rfl h⟩
theorem Rep.cptr_inv {t : Tag} {row : V} {j : Nat} {x : Value} (h : Rep w S θ σ l (.cptr t row j) x) :
  ∃ (b oo : Nat) (ys : Nat → Value), x = .pointer (some ⟨b, oo + j, none⟩) ∧ (∀ (i : Nat) (u : V), row.cells[i]? = some u → w.cell? ⟨b, oo + i, none⟩ = some (ys i) ∧ RepP w S u (ys i)) ∧
    ∀ j', Rep w S θ σ l (.cptr t row j') (.pointer (some ⟨b, oo + j', none⟩)) := by
 cases h with
 | pure h =>
  cases h with
  | cptr _ b oo _ ys hS hc hr => exact ⟨b, oo, ys, rfl, fun i u hu => ⟨hc i u hu, hr i u hu⟩, fun j' => .pure (.cptr row b oo j' ys hS hc hr)⟩
 | cptro nm _ b oo _ ys hn hb hc hr => exact ⟨b, oo, ys, rfl, fun i u hu => ⟨hc i u hu, hr i u hu⟩, fun j' => .cptro nm row b oo j' ys hn hb hc hr⟩
theorem constLeaf_rep {x : Value} {v : V} (h : constLeaf x v = true) : RepP w S v x := by
 unfold constLeaf at h
 split at h
 · exact .any _
 · simp at h; subst h; exact .bool _
 · simp at h; obtain ⟨rfl, rfl⟩ := h; exact .int _ _
 · rename_i s l
   have e : s.data.toList = l := by simpa using h
   subst e
   have : s = ⟨s.data.toList.toArray⟩ := by cases s; simp
   rw [this]; exact .str _
 · exact .nilsl none
 · exact .emp none 0
 · exact .nilfn
 · exact .nilmp
 · exact .nilptr
 · cases h
theorem constLeaves_rep (w : World) (S : Nat → Prop) : ∀ {xs : List Value} {vs : List V}, constLeaves xs vs = true → vs.length = xs.length ∧ ∀ (i : Nat) (v : V) (x : Value), vs[i]? = some v → xs[i]? = some x → RepP w S v x
 | [], [], _ => ⟨rfl, fun i v x h => by simp at h⟩
 | x :: xs, v :: vs, h => by
  simp only [constLeaves, Bool.and_eq_true] at h
  obtain ⟨h1, h2⟩ := constLeaves_rep w S h.2
  refine ⟨by simp [h1], fun i u y h3 h4 => ?_⟩
  cases i with
  | zero => simp at h3 h4; subst h3 h4; exact constLeaf_rep h.1
  | succ i => simp at h3 h4; exact h2 i u y h3 h4
 | [], _ :: _, h => by simp [constLeaves] at h
 | _ :: _, [], h => by simp [constLeaves] at h
theorem constV_rep {x : Value} {v : V} (h : constV x v = true) : RepP w S v x := by
 unfold constV at h
 split at h
 · rename_i cs l
   obtain ⟨h1, h2⟩ := constLeaves_rep w S h
   have := RepP.agg (w := w) (S := S) l cs.toList h1 h2
   simpa using this
 · exact constLeaf_rep h
def EnvRep (w : World) (S : Nat → Prop) (θ : Names) (σ : Store) (l : Nat) (ρ : Env) (tmps : Array Value) : Prop := ∀ t, Rep w S θ σ l (ρ t) (tmps.getD t undef)
theorem opd_rep {ρ : Env} {a : Act} (he : EnvRep w S θ σ l ρ a.tmps) {x : Operand} {y : Opd} (h : chkOpd x y = true) : Rep w S θ σ l (ev ρ y) (a.eval x) := by
 unfold chkOpd at h
 split at h
 · rename_i t n
   have e := Nat.eq_of_beq_eq_true h
   subst e
   exact he t
 · exact .pure (constV_rep h)
 · rename_i f f'
   have e := Nat.eq_of_beq_eq_true h
   subst e
   have := Rep.fn (w := w) (S := S) (θ := θ) (σ := σ) (l := l) f [] [] rfl (by intro i v x h; simp at h)
   exact this
 · cases h
theorem opds_rep {ρ : Env} {a : Act} (he : EnvRep w S θ σ l ρ a.tmps) : ∀ {xs : List Operand} {ys : List Opd}, chkOpds xs ys = true → Reps (Rep w S θ σ l) (ys.map (ev ρ)) (xs.map a.eval)
 | [], [], _ => ⟨rfl, fun i v x h => by simp at h⟩
 | x :: xs, y :: ys, h => by
  simp only [chkOpds, Bool.and_eq_true] at h
  obtain ⟨h1, h2⟩ := opds_rep he h.2
  refine ⟨by simpa using h1, fun i v u h3 h4 => ?_⟩
  cases i with
  | zero => simp at h3 h4; subst h3 h4; exact opd_rep he h.1
  | succ i => simp at h3 h4; exact h2 i v u (by simpa using h3) (by simpa using h4)
 | [], _ :: _, h => by simp [chkOpds] at h
 | _ :: _, [], h => by simp [chkOpds] at h
def RunsTo (P : Program) (o : Oper) (a : Act) (w : World) (post : Value → World → Prop) : Prop :=
 ∃ x w', ((execOp a.eval o).run P w = .ok (.value x) w' ∨ ((execOp a.eval o).run P w = .ok .skip w' ∧ x = undef)) ∧ post x w'
def OpPost (J : JT G) (w : World) (S F : Nat → Prop) (θ : Names) (σ : Store) (l : Nat) (K : V → Store → G → Prop) (x : Value) (w' : World) : Prop :=
 ∃ v σ' g' S' F' θ', K v σ' g' ∧ St J w' S' F' θ' σ' l g' ∧ Fr w S F θ σ w' S' F' θ' σ' ∧ Rep w' S' θ' σ' l v x
theorem OpPost.same {K : V → Store → G → Prop} (hs : St J w S F θ σ l g) {v : V} {x : Value} (hk : K v σ g) (hr : Rep w S θ σ l v x) : OpPost J w S F θ σ l K x w :=
 ⟨v, σ, g, S, F, θ, hk, hs, Fr.refl w S F θ σ, hr⟩
variable {P : Program} {o : Oper} {a : Act} {ρ : Env} {K : V → Store → G → Prop} {H : HT G}
theorem sop_mov {y : Opd} (hs : St J w S F θ σ l g) (he : EnvRep w S θ σ l ρ a.tmps) (hc : chkOp P o.op (.mov y) = true) (h : AWop P H ρ σ g (.mov y) K) : RunsTo P o a w (OpPost J w S F θ σ l K) := by
 cases ho : o.op <;> rw [ho] at hc <;> simp only [chkOp, Bool.false_eq_true] at hc
 all_goals
  refine ⟨_, w, .inl ?_, OpPost.same hs h (opd_rep he hc)⟩
  simp [execOp, ho]
theorem sop_newVec {nm : Nat} (hst : Stable J) (hs : St J w S F θ σ l g) (hc : chkOp P o.op (.newVec nm) = true) (h : AWop P H ρ σ g (.newVec nm) K) : RunsTo P o a w (OpPost J w S F θ σ l K) := by
 cases ho : o.op <;> rw [ho] at hc <;> simp only [chkOp, Bool.false_eq_true] at hc
 rename_i x
 unfold isNilSlice at hc
 split at hc
 · simp only [AWop] at h
   split at h
   · rename_i hu
     have hθ : θ nm = none := by have := hs.hblk nm; rw [hu] at this; exact this
     refine ⟨.slice none 0 0, w, .inl ?_, _, _, g, S, F, θ, h, St.fresh hst hs nm (.vec 0) hu (.inl ⟨hθ, rfl⟩), Fr.fresh nm _ hu hθ, .ownemp nm none (by rw [upt_self]; intro h; cases h)⟩
     simp [execOp, ho, Act.eval]
   · exact h.elim
 · cases hc
theorem sop_newArr {nm : Nat} (hst : Stable J) (hs : St J w S F θ σ l g) (hc : chkOp P o.op (.newArr nm) = true) (h : AWop P H ρ σ g (.newArr nm) K) : RunsTo P o a w (OpPost J w S F θ σ l K) := by
 cases ho : o.op <;> rw [ho] at hc <;> simp only [chkOp, Bool.false_eq_true] at hc
 rename_i x
 unfold isNilSlice at hc
 split at hc
 · simp only [AWop] at h
   split at h
   · rename_i hu
     have hθ : θ nm = none := by have := hs.hblk nm; rw [hu] at this; exact this
     refine ⟨.slice none 0 0, w, .inl ?_, _, _, g, S, F, θ, h, St.fresh hst hs nm (.arr 0 []) hu (.inl ⟨hθ, rfl⟩), Fr.fresh nm _ hu hθ, ?_⟩
     · simp [execOp, ho, Act.eval]
     · refine .msl nm 0 0 0 _ rfl (by rw [upt_self]; intro h; cases h) (fun _ _ _ => Nat.zero_le _) fun rows hrows => .inr ⟨rfl, none, rfl⟩
   · exact h.elim
 · cases hc
theorem sop_pick {c x y : Opd} (hs : St J w S F θ σ l g) (he : EnvRep w S θ σ l ρ a.tmps) (hc : chkOp P o.op (.pick c x y) = true) (h : AWop P H ρ σ g (.pick c x y) K) : RunsTo P o a w (OpPost J w S F θ σ l K) := by
 cases ho : o.op <;> rw [ho] at hc <;> simp only [chkOp, Bool.false_eq_true] at hc
 rename_i c' x' y'
 simp only [Bool.and_eq_true] at hc
 obtain ⟨⟨hc1, hc2⟩, hc3⟩ := hc
 simp only [AWop] at h
 have r1 := opd_rep he hc1
 have r2 := opd_rep he hc2
 have r3 := opd_rep he hc3
 split at h
 · rename_i t ht
   rw [ht] at r1
   have e1 := r1.bool_inv
   refine ⟨if t then a.eval x' else a.eval y', w, .inl ?_, OpPost.same hs h ?_⟩
   · simp [execOp, ho, e1, asBool]
   · cases t
     · exact r3
     · exact r2
 · exact h.elim
theorem sop_not {y : Opd} (hs : St J w S F θ σ l g) (he : EnvRep w S θ σ l ρ a.tmps) (hc : chkOp P o.op (.not y) = true) (h : AWop P H ρ σ g (.not y) K) : RunsTo P o a w (OpPost J w S F θ σ l K) := by
 cases ho : o.op <;> rw [ho] at hc <;> simp only [chkOp, Bool.false_eq_true] at hc
 rename_i u T x'
 cases u <;> simp only [Bool.false_eq_true] at hc
 simp only [AWop] at h
 have r1 := opd_rep he hc
 split at h
 · rename_i t ht
   rw [ht] at r1
   have e1 := r1.bool_inv
   refine ⟨.bool (!t), w, .inl ?_, OpPost.same hs h (.pure (.bool _))⟩
   simp [execOp, ho, e1, Op.unary]
 · exact h.elim
theorem sop_len {s : Bool} {y : Opd} (hs : St J w S F θ σ l g) (he : EnvRep w S θ σ l ρ a.tmps) (hc : chkOp P o.op (.len s y) = true) (h : AWop P H ρ σ g (.len s y) K) : RunsTo P o a w (OpPost J w S F θ σ l K) := by
 cases ho : o.op <;> rw [ho] at hc <;> simp only [chkOp, Bool.false_eq_true] at hc
 rename_i c
 simp only [Bool.and_eq_true] at hc
 obtain ⟨hc1, hc2⟩ := hc
 obtain ⟨callee, args, argTypes⟩ := c
 dsimp only at hc1 hc2
 have hcal : callee = .builtin .len := by split at hc1 <;> first | rfl | cases hc1
 subst hcal
 have hsh : ∃ y' t, args = #[y'] ∧ argTypes[0]? = some t ∧ chkOpd y' y = true ∧ (match s with
   | true => tString P t
   | false => (match P.underlying t with
     | some (.slice _) => true
     | _ => false)) = true := by
  split at hc2
  · rename_i y' t rest hargs htys
    simp only [Bool.and_eq_true] at hc2
    refine ⟨y', t, by rw [← hargs], by rw [← Array.getElem?_toList, htys]; rfl, hc2.1, hc2.2⟩
  · cases hc2
 obtain ⟨y', t, rfl, htys', hc2, hc3⟩ := hsh
 have r1 := opd_rep he hc2
 simp only [AWop] at h
 cases s with
 | true =>
  cases hv : ev ρ y <;> rw [hv] at h r1 <;> try (exact False.elim h)
  rename_i s
  have e1 := r1.str_inv
  simp only [tString] at hc3
  split at hc3
  · rename_i hu
    refine ⟨_, w, .inl ?_, OpPost.same hs h (.pure (.int _ _))⟩
    simp [execOp, ho, resolve, invoke, builtin, Builtin.len_, e1, htys', run_underlying hu, goInt, bsize]
  · cases hc3
 | false =>
  simp only at hc3
  split at hc3
  · rename_i e hu
    cases hv : ev ρ y <;> rw [hv] at h r1 <;> try (exact False.elim h)
    · obtain ⟨ad, cap, e1, _⟩ := r1.sl_inv
      refine ⟨_, w, .inl ?_, OpPost.same hs h (.pure (.int _ _))⟩
      simp [execOp, ho, resolve, invoke, builtin, Builtin.len_, e1, htys', run_underlying hu, goInt]
    · rename_i nm gen i n
      simp only at h
      split at h
      · rename_i gen' rows hσ
        obtain ⟨rfl, h⟩ := h
        cases r1 with
        | pure h1 => cases h1
        | msl _ _ _ _ x _ hn hg h1 =>
         rcases h1 rows hσ with ⟨b, m, cap, _, _, e1, _⟩ | ⟨rfl, ad, e1⟩
         · refine ⟨_, w, .inl ?_, OpPost.same hs h (.pure (.int _ _))⟩
           simp [execOp, ho, resolve, invoke, builtin, Builtin.len_, e1, htys', run_underlying hu, goInt]
         · refine ⟨_, w, .inl ?_, OpPost.same hs h (.pure (.int _ _))⟩
           simp [execOp, ho, resolve, invoke, builtin, Builtin.len_, e1, htys', run_underlying hu, goInt]
      · exact h.elim
    · obtain ⟨e1, _⟩ := r1.rsl_inv
      refine ⟨_, w, .inl ?_, OpPost.same hs h (.pure (.int _ _))⟩
      simp [execOp, ho, resolve, invoke, builtin, Builtin.len_, e1, htys', run_underlying hu, goInt]
  · cases hc3
theorem sop_extract {y : Opd} {i : Nat} (hs : St J w S F θ σ l g) (he : EnvRep w S θ σ l ρ a.tmps) (hc : chkOp P o.op (.extract y i) = true) (h : AWop P H ρ σ g (.extract y i) K) : RunsTo P o a w (OpPost J w S F θ σ l K) := by
 cases ho : o.op <;> rw [ho] at hc <;> simp only [chkOp, Bool.false_eq_true] at hc
 rename_i x' i'
 simp only [Bool.and_eq_true] at hc
 have ei := Nat.eq_of_beq_eq_true hc.2
 subst ei
 have r1 := opd_rep he hc.1
 simp only [AWop] at h
 split at h
 · rename_i vs hv
   rw [hv] at r1
   obtain ⟨xs, e1, hl, hr⟩ := r1.tup_inv
   split at h
   · rename_i v hvi
     have hlt := (List.getElem?_eq_some_iff.1 hvi).1
     have hx : xs[i']? = some xs[i'] := List.getElem?_eq_getElem (by omega)
     refine ⟨xs[i'], w, .inl ?_, OpPost.same hs h (hr i' v _ hvi hx)⟩
     simp [execOp, ho, e1, Instr.extract, hx]
   · exact h.elim
 · exact h.elim
theorem sop_mkfn {f : Nat} {caps : List Opd} (hs : St J w S F θ σ l g) (he : EnvRep w S θ σ l ρ a.tmps) (hc : chkOp P o.op (.mkfn f caps) = true) (h : AWop P H ρ σ g (.mkfn f caps) K) : RunsTo P o a w (OpPost J w S F θ σ l K) := by
 cases ho : o.op <;> rw [ho] at hc <;> simp only [chkOp, Bool.false_eq_true] at hc
 rename_i fn first caps'
 simp only [Bool.and_eq_true] at hc
 obtain ⟨⟨h1, h2⟩, h3⟩ := hc
 split at h1
 · rename_i f'
   have e := Nat.eq_of_beq_eq_true h1
   subst e
   have e2 : first = #[] := by simpa using h2
   subst e2
   obtain ⟨r1, r2⟩ := opds_rep he h3
   have := Rep.fn (w := w) (S := S) (θ := θ) (σ := σ) (l := l) f _ _ r1 r2
   refine ⟨_, w, .inl ?_, OpPost.same hs h this⟩
   have hm : Array.map a.eval caps' = (List.map a.eval caps'.toList).toArray := by apply Array.ext'; simp
   simp [execOp, ho, Instr.makeFunc, hm]
 · cases h1
theorem wrap_id {k : IntKind} {n : Int} (h : InR k n) : k.wrap n = n := by
 cases k <;> simp only [InR] at h <;> try (exact h.elim)
 all_goals (unfold IntKind.wrap; simp only [IntKind.bits, IntKind.signed]; simp; omega)
theorem sop_conv {k : IntKind} {y : Opd} (hs : St J w S F θ σ l g) (he : EnvRep w S θ σ l ρ a.tmps) (hc : chkOp P o.op (.conv k y) = true) (h : AWop P H ρ σ g (.conv k y) K) : RunsTo P o a w (OpPost J w S F θ σ l K) := by
 cases ho : o.op <;> rw [ho] at hc <;> simp only [chkOp, Bool.false_eq_true] at hc
 rename_i src dst x'
 simp only [Bool.and_eq_true] at hc
 obtain ⟨⟨h1, h2⟩, h3⟩ := hc
 have r1 := opd_rep he h1
 unfold tInt at h2
 split at h2
 · rename_i k' hu
   have ek : k' = k := by simpa using h2
   subst ek
   obtain ⟨d, hd⟩ := Option.isSome_iff_exists.1 h3
   simp only [AWop] at h
   split at h
   · rename_i k0 n hv
     rw [hv] at r1
     have e1 := r1.int_inv
     refine ⟨_, w, .inl ?_, OpPost.same hs h.2 (.pure (.int _ _))⟩
     simp [execOp, ho, e1, convert, run_underlying hu, run_underlying hd, Conv.intToInt, wrap_id h.1]
   · exact h.elim
 · cases h2
theorem kEq_eq {k k' : IntKind} (h : kEq k k' = true) : k = k' := by
 cases k <;> cases k' <;> simp [kEq] at h <;> rfl
theorem sop_max {x y : Opd} (hs : St J w S F θ σ l g) (he : EnvRep w S θ σ l ρ a.tmps) (hc : chkOp P o.op (.max x y) = true) (h : AWop P H ρ σ g (.max x y) K) : RunsTo P o a w (OpPost J w S F θ σ l K) := by
 cases ho : o.op <;> rw [ho] at hc <;> simp only [chkOp, Bool.false_eq_true] at hc
 rename_i c
 simp only [Bool.and_eq_true] at hc
 obtain ⟨hc1, hc2⟩ := hc
 obtain ⟨callee, args, argTypes⟩ := c
 dsimp only at hc1 hc2
 have hcal : callee = .builtin .max := by split at hc1 <;> first | rfl | cases hc1
 subst hcal
 have hsh : ∃ x' y', args = #[x', y'] ∧ chkOpd x' x = true ∧ chkOpd y' y = true := by
  split at hc2
  · rename_i x' y' hargs
    simp only [Bool.and_eq_true] at hc2
    exact ⟨x', y', by rw [← hargs], hc2.1, hc2.2⟩
  · cases hc2
 clear hc2
 obtain ⟨x', y', rfl, hc2⟩ := hsh
 have r1 := opd_rep he hc2.1
 have r2 := opd_rep he hc2.2
 simp only [AWop] at h
 split at h
 · rename_i k n k' n' h1 h2
   rw [h1] at r1
   rw [h2] at r2
   have e1 := r1.int_inv
   have e2 := r2.int_inv
   cases hk : kEq k k' with
   | true =>
    rw [hk] at h
    have ek := kEq_eq hk
    subst ek
    refine ⟨_, w, .inl ?_, OpPost.same hs h (.pure (.int _ _))⟩
    simp [execOp, ho, resolve, invoke, builtin, Builtin.max_, Builtin.max2, e1, e2]
   | false => rw [hk] at h; exact h.elim
 · exact h.elim
theorem sop_min {x y : Opd} (hs : St J w S F θ σ l g) (he : EnvRep w S θ σ l ρ a.tmps) (hc : chkOp P o.op (.min x y) = true) (h : AWop P H ρ σ g (.min x y) K) : RunsTo P o a w (OpPost J w S F θ σ l K) := by
 cases ho : o.op <;> rw [ho] at hc <;> simp only [chkOp, Bool.false_eq_true] at hc
 rename_i c
 simp only [Bool.and_eq_true] at hc
 obtain ⟨hc1, hc2⟩ := hc
 obtain ⟨callee, args, argTypes⟩ := c
 dsimp only at hc1 hc2
 have hcal : callee = .builtin .min := by split at hc1 <;> first | rfl | cases hc1
 subst hcal
 have hsh : ∃ x' y', args = #[x', y'] ∧ chkOpd x' x = true ∧ chkOpd y' y = true := by
  split at hc2
  · rename_i x' y' hargs
    simp only [Bool.and_eq_true] at hc2
    exact ⟨x', y', by rw [← hargs], hc2.1, hc2.2⟩
  · cases hc2
 clear hc2
 obtain ⟨x', y', rfl, hc2⟩ := hsh
 have r1 := opd_rep he hc2.1
 have r2 := opd_rep he hc2.2
 simp only [AWop] at h
 split at h
 · rename_i k n k' n' h1 h2
   rw [h1] at r1
   rw [h2] at r2
   have e1 := r1.int_inv
   have e2 := r2.int_inv
   cases hk : kEq k k' with
   | true =>
    rw [hk] at h
    have ek := kEq_eq hk
    subst ek
    refine ⟨_, w, .inl ?_, OpPost.same hs h (.pure (.int _ _))⟩
    simp [execOp, ho, resolve, invoke, builtin, Builtin.min_, Builtin.min2, e1, e2]
   | false => rw [hk] at h; exact h.elim
 · exact h.elim
end
section
variable {G : Type} {J : JT G} {w w' w'' : World} {S F S' F' S'' F'' : Nat → Prop} {θ θ' θ'' : Names} {σ σ' σ'' : Store} {l : Nat} {g g' : G}
variable {P : Program} {o : Oper} {a : Act} {ρ : Env} {K : V → Store → G → Prop} {H : HT G}
theorem leaf_run {T : TypeId} {t : LT} (ht : tLeaf P T t = true) {v u : V} {b : Bool} (hb : leafEq t v u = some b) {x y : Value} (hx : Rep w S θ σ l v x) (hy : Rep w S θ σ l u y) (d : Nat) (w : World) :
  (Op.equalIn (d + 1) T x y).run P w = .ok b w ∧ (∀ cs : Array Value, x ≠ .agg cs) := by
 cases t with
 | b =>
  simp only [tLeaf] at ht
  split at ht
  · rename_i hu
    cases v <;> cases u <;> simp only [leafEq] at hb <;> try (cases hb; done)
    have e1 := hx.bool_inv
    have e2 := hy.bool_inv
    subst e1 e2
    injection hb with hb
    subst hb
    exact ⟨run_equalIn_bool w d T _ _ hu, fun _ h => by cases h⟩
  · cases ht
 | i =>
  simp only [tLeaf] at ht
  split at ht
  · rename_i k0 hu
    cases v <;> cases u <;> simp only [leafEq] at hb <;> try (cases hb; done)
    rename_i k n k' n'
    have e1 := hx.int_inv
    have e2 := hy.int_inv
    subst e1 e2
    cases hk : kEq k k' with
    | false => rw [hk] at hb; cases hb
    | true =>
     rw [hk] at hb
     have := kEq_eq hk
     subst this
     injection hb with hb
     subst hb
     exact ⟨run_equalIn_int w d T k k0 _ _ hu, fun _ h => by cases h⟩
  · cases ht
 | s =>
  simp only [tLeaf] at ht
  split at ht
  · rename_i hu
    cases v <;> cases u <;> simp only [leafEq] at hb <;> try (cases hb; done)
    have e1 := hx.str_inv
    have e2 := hy.str_inv
    subst e1 e2
    injection hb with hb
    subst hb
    refine ⟨?_, fun _ h => by cases h⟩
    rw [run_equalIn_string w d T _ _ hu]
    simp [ByteArray.toList_eq]
  · cases ht
theorem isAgg_leaf {T : TypeId} {t : LT} (ht : tLeaf P T t = true) (w : World) : (isAgg T).run P w = .ok false w := by
 unfold isAgg
 cases t <;> simp only [tLeaf] at ht <;> split at ht <;> first | (cases ht; done) | (rename_i hu; simp [run_underlying hu])
theorem fields_run (d : Nat) (xs ys : Array Value) : ∀ (fs : List Field) (ts : List LT) (n : Nat) (l1 l2 : List V) (b : Bool) (w0 : World), plainFields P n fs ts = true → leafEqL ts l1 l2 = some b →
  (∀ i v, l1[i]? = some v → ∃ x, xs[n + i]? = some x ∧ Rep w S θ σ l v x) → (∀ i v, l2[i]? = some v → ∃ x, ys[n + i]? = some x ∧ Rep w S θ σ l v x) →
  (Op.eqFields (d + 1) xs ys fs).run P w0 = .ok b w0
 | [], [], n, l1, l2, b, w0, _, hb, _, _ => by
  cases l1 <;> cases l2 <;> simp only [leafEqL] at hb <;> try (cases hb; done)
  injection hb with hb
  subst hb
  simp [Op.eqFields]
 | [], t :: ts, n, l1, l2, b, w0, hp, _, _, _ => by simp [plainFields] at hp
 | f :: fs, [], n, l1, l2, b, w0, hp, _, _, _ => by simp [plainFields] at hp
 | f :: fs, t :: ts, n, l1, l2, b, w0, hp, hb, h1, h2 => by
  simp only [plainFields, Bool.and_eq_true] at hp
  obtain ⟨⟨⟨hp1, hp2⟩, hp3⟩, hp4⟩ := hp
  have hoff := Nat.eq_of_beq_eq_true hp3
  cases l1 <;> cases l2 <;> simp only [leafEqL] at hb <;> try (cases hb; done)
  rename_i v l1 u l2
  split at hb
  · rename_i bx by' hb1 hb2
    injection hb with hb
    subst hb
    obtain ⟨x, hx, hrx⟩ := h1 0 v rfl
    obtain ⟨y, hy, hry⟩ := h2 0 u rfl
    simp only [Nat.add_zero] at hx hy
    have hn : f.name ≠ "_" := by simpa using hp1
    have ih := fields_run d xs ys fs ts (n + 1) l1 l2 by' w0 hp4 hb2 (fun i v hv => by
     have := h1 (i + 1) v (by simpa using hv)
     rwa [show n + (i + 1) = n + 1 + i from by omega] at this) (fun i v hv => by
     have := h2 (i + 1) v (by simpa using hv)
     rwa [show n + (i + 1) = n + 1 + i from by omega] at this)
    have hl := (leaf_run hp2 hb1 hrx hry d w0).1
    simp only [Op.eqFields, hn, ne_eq, not_false_eq_true, if_true, Sem.run_bind, part, isAgg_leaf hp2 w0, Result.andThen_ok, Bool.false_eq_true, if_false, hoff, hx, hy, Sem.run_pure, hl, ih, Sem.run_ite]
    cases bx <;> simp
  · cases hb
def eqElems (d : Nat) (e : TypeId) (xs ys : Array Value) : List Nat → Sem Bool
 | [] => pure true
 | i :: r => do
   let a ← part e xs i
   let b ← part e ys i
   let c ← Op.equalIn d e a b
   if (!c) = true then pure false else eqElems d e xs ys r
theorem run_equalIn_arr (d : Nat) (t : TypeId) (n : Nat) (e : TypeId) (xs ys : Array Value) (w : World) (ht : P.underlying t = some (.array n e)) (hs : (Go.sizeOf e).run P w = .ok 1 w) :
  (Op.equalIn (d + 1) t (.agg xs) (.agg ys)).run P w = (eqElems d e xs ys (List.range' 0 n)).run P w := by
 simp only [Op.equalIn, Sem.run_bind, run_underlying ht, Result.andThen_ok, hs, Std.Legacy.Range.forIn_eq_forIn_range', Std.Legacy.Range.size, Nat.sub_zero, Nat.add_sub_cancel, Nat.div_one, Nat.mul_one]
 clear hs
 generalize List.range' 0 n = l
 induction l generalizing w with
 | nil => simp [eqElems]
 | cons i r ih =>
  simp only [List.forIn_cons, eqElems, Sem.run_bind]
  generalize (part e xs i).run P w = r1
  cases r1 with
  | ok a w1 =>
   simp only [Result.andThen_ok]
   generalize (part e ys i).run P w1 = r2
   cases r2 with
   | ok b w2 =>
    simp only [Result.andThen_ok]
    generalize (Op.equalIn d e a b).run P w2 = r3
    cases r3 with
    | ok c w3 =>
     cases c
     · simp only [Sem.run_ite, Result.andThen_ok, Bool.not_false, if_true, Sem.run_pure]
     · simp only [Sem.run_ite, Result.andThen_ok, Bool.not_true, Bool.false_eq_true, if_false, Sem.run_pure]
       exact ih w3
    | halt x w3 => simp [Result.andThen]
   | halt x w2 => simp [Result.andThen]
  | halt x w1 => simp [Result.andThen]
theorem elems_run (d : Nat) (e : TypeId) (xs ys : Array Value) : ∀ (ts : List LT) (n : Nat) (l1 l2 : List V) (b : Bool) (w0 : World), ts.all (tLeaf P e) = true → leafEqL ts l1 l2 = some b →
  (∀ i v, l1[i]? = some v → ∃ x, xs[n + i]? = some x ∧ Rep w S θ σ l v x) → (∀ i v, l2[i]? = some v → ∃ x, ys[n + i]? = some x ∧ Rep w S θ σ l v x) →
  (eqElems (d + 1) e xs ys (List.range' n ts.length)).run P w0 = .ok b w0
 | [], n, l1, l2, b, w0, _, hb, _, _ => by
  cases l1 <;> cases l2 <;> simp only [leafEqL] at hb <;> try (cases hb; done)
  injection hb with hb
  subst hb
  simp [eqElems]
 | t :: ts, n, l1, l2, b, w0, hp, hb, h1, h2 => by
  simp only [List.all_cons, Bool.and_eq_true] at hp
  cases l1 <;> cases l2 <;> simp only [leafEqL] at hb <;> try (cases hb; done)
  rename_i v l1 u l2
  split at hb
  · rename_i bx by' hb1 hb2
    injection hb with hb
    subst hb
    obtain ⟨x, hx, hrx⟩ := h1 0 v rfl
    obtain ⟨y, hy, hry⟩ := h2 0 u rfl
    simp only [Nat.add_zero] at hx hy
    have ih := elems_run d e xs ys ts (n + 1) l1 l2 by' w0 hp.2 hb2 (fun i v hv => by
     have := h1 (i + 1) v (by simpa using hv)
     rwa [show n + (i + 1) = n + 1 + i from by omega] at this) (fun i v hv => by
     have := h2 (i + 1) v (by simpa using hv)
     rwa [show n + (i + 1) = n + 1 + i from by omega] at this)
    have hl := (leaf_run hp.1 hb1 hrx hry d w0).1
    simp only [List.length_cons, List.range'_succ, eqElems, Sem.run_bind, part, isAgg_leaf hp.1 w0, Result.andThen_ok, Bool.false_eq_true, if_false, hx, hy, Sem.run_pure, hl, ih, Sem.run_ite]
    cases bx <;> simp
  · cases hb
theorem fieldsOf_eq {T : TypeId} {fs : Array Field} (h : P.underlying T = some (.struct fs)) : P.fieldsOf T = fs := by unfold Program.fieldsOf; rw [h]
theorem eq_run {T : TypeId} {st : Bool} {et : List LT} (ht : tEq P T st et = true) {v u : V} {b : Bool} (hb : eqv st et v u = some b) {x y : Value} (hx : Rep w S θ σ l v x) (hy : Rep w S θ σ l u y) (op : BinOp) (hop : op = .eql ∨ op = .neq) (xo yo : Operand) (w0 : World) :
  (eqGuard op T xo yo x y).run P w0 = .ok () w0 ∧ (binOp op T x y).run P w0 = .ok (.bool (if op = .eql then b else !b)) w0 := by
 cases st with
 | true =>
  cases v <;> cases u <;> (try (cases et <;> first | (cases hb; done) | (rename_i tl; cases tl <;> cases hb; done)))
  rename_i l1 l2
  simp only [tEq] at ht
  split at ht
  · rename_i fs hu
    simp only [Bool.and_eq_true] at ht
    obtain ⟨⟨h1, h2⟩, h3⟩ := ht
    obtain ⟨xs, rfl, hlx, hrx⟩ := hx.agg_inv
    obtain ⟨ys, rfl, hly, hry⟩ := hy.agg_inv
    have hstood : P.stoodInHeld T = false := by simpa using h1
    have hgd : P.eqGuardType P.depth T = false := by simpa using h2
    have hb' : leafEqL et l1 l2 = some b := by cases et <;> first | exact hb | (rename_i tl; cases tl <;> exact hb)
    have hfld := fieldsOf_eq hu
    have hrun : (Op.equal T (.agg xs.toArray) (.agg ys.toArray)).run P w0 = .ok b w0 := by
     show (Op.equalIn (9999 + 1) T _ _).run P w0 = _
     rw [run_equalIn_struct w0 9999 T _ _ (by rw [hfld]; exact hu) hstood, hfld]
     refine fields_run (w := w) (S := S) (θ := θ) (σ := σ) (l := l) 9998 _ _ fs.toList et 0 l1 l2 b w0 h3 hb' (fun i v hv => ?_) (fun i v hv => ?_)
     · have hlt := (List.getElem?_eq_some_iff.1 hv).1
       have hxi : xs[i]? = some xs[i] := List.getElem?_eq_getElem (by omega)
       exact ⟨xs[i], by simp, hrx i v _ hv hxi⟩
     · have hlt := (List.getElem?_eq_some_iff.1 hv).1
       have hxi : ys[i]? = some ys[i] := List.getElem?_eq_getElem (by omega)
       exact ⟨ys[i], by simp, hry i v _ hv hxi⟩
    rcases hop with rfl | rfl
    · refine ⟨by simp [eqGuard, hgd], ?_⟩
      simp [binOp, hrun]
    · refine ⟨by simp [eqGuard, hgd], ?_⟩
      simp [binOp, hrun]
  · rename_i n e hu
    simp only [Bool.and_eq_true] at ht
    obtain ⟨⟨⟨h2, h3⟩, h4⟩, h5⟩ := ht
    obtain ⟨xs, rfl, hlx, hrx⟩ := hx.agg_inv
    obtain ⟨ys, rfl, hly, hry⟩ := hy.agg_inv
    have hgd : P.eqGuardType P.depth T = false := by simpa using h2
    have hlen := Nat.eq_of_beq_eq_true h3
    have hb' : leafEqL et l1 l2 = some b := by cases et <;> first | exact hb | (rename_i tl; cases tl <;> exact hb)
    have hsz : (Go.sizeOf e).run P w0 = .ok 1 w0 := by
     unfold tSize at h4
     split at h4
     · rename_i i hi
       have := Nat.eq_of_beq_eq_true h4
       simp [Go.sizeOf, typeInfo, hi, this]
     · cases h4
    have hrun : (Op.equal T (.agg xs.toArray) (.agg ys.toArray)).run P w0 = .ok b w0 := by
     show (Op.equalIn (9999 + 1) T _ _).run P w0 = _
     rw [run_equalIn_arr 9999 T n e _ _ w0 hu hsz, ← hlen]
     refine elems_run (w := w) (S := S) (θ := θ) (σ := σ) (l := l) 9998 e _ _ et 0 l1 l2 b w0 h5 hb' (fun i v hv => ?_) (fun i v hv => ?_)
     · have hlt := (List.getElem?_eq_some_iff.1 hv).1
       have hxi : xs[i]? = some xs[i] := List.getElem?_eq_getElem (by omega)
       exact ⟨xs[i], by simp, hrx i v _ hv hxi⟩
     · have hlt := (List.getElem?_eq_some_iff.1 hv).1
       have hxi : ys[i]? = some ys[i] := List.getElem?_eq_getElem (by omega)
       exact ⟨ys[i], by simp, hry i v _ hv hxi⟩
    rcases hop with rfl | rfl
    · refine ⟨by simp [eqGuard, hgd], ?_⟩
      simp [binOp, hrun]
    · refine ⟨by simp [eqGuard, hgd], ?_⟩
      simp [binOp, hrun]
  · cases ht
 | false =>
  cases et with
  | nil => simp [eqv] at hb
  | cons t tl =>
   cases tl with
   | cons t2 tl => simp [eqv] at hb
   | nil =>
    have hb' : leafEq t v u = some b := by simpa [eqv] using hb
    have hrun := leaf_run ht hb' hx hy 9999 w0
    have hl : (Op.equal T x y).run P w0 = .ok b w0 := hrun.1
    cases t with
    | b =>
     cases v <;> cases u <;> simp only [leafEq] at hb' <;> try (cases hb'; done)
     have e1 := hx.bool_inv
     have e2 := hy.bool_inv
     subst e1 e2
     rcases hop with rfl | rfl
     · exact ⟨by simp [eqGuard], by simp [binOp, hl]⟩
     · exact ⟨by simp [eqGuard], by simp [binOp, hl]⟩
    | i =>
     cases v <;> cases u <;> simp only [leafEq] at hb' <;> try (cases hb'; done)
     rename_i k n k' n'
     have e1 := hx.int_inv
     have e2 := hy.int_inv
     subst e1 e2
     cases hk : kEq k k' with
     | false => rw [hk] at hb'; cases hb'
     | true =>
      rw [hk] at hb'
      have := kEq_eq hk
      subst this
      injection hb' with hb'
      subst hb'
      rcases hop with rfl | rfl
      · exact ⟨by simp [eqGuard], by simp [binOp, Op.intCmp]⟩
      · exact ⟨by simp [eqGuard], by simp [binOp, Op.intCmp, bne]⟩
    | s =>
     cases v <;> cases u <;> simp only [leafEq] at hb' <;> try (cases hb'; done)
     have e1 := hx.str_inv
     have e2 := hy.str_inv
     subst e1 e2
     injection hb' with hb'
     subst hb'
     rcases hop with rfl | rfl
     · exact ⟨by simp [eqGuard], by simp [binOp, Op.stringOp, ByteArray.toList_eq]⟩
     · exact ⟨by simp [eqGuard], by simp [binOp, Op.stringOp, ByteArray.toList_eq]⟩
theorem int_run {op : BinOp} {st : Bool} {et : List LT} {T : TypeId} {k k' : IntKind} {n n' : Int} {Kv : V → Prop} (hop : ¬ (op = .eql ∨ op = .neq)) (h : abin op st et (.int k n) (.int k' n') Kv) (w0 : World) :
  ∃ v x, Kv v ∧ (binOp op T (.int k n) (.int k' n')).run P w0 = .ok x w0 ∧ RepP w S v x := by
 by_cases hsh : op = .shl ∨ op = .shr
 · rcases hsh with rfl | rfl
   · obtain ⟨h1, h2⟩ := h
     refine ⟨_, _, h2, ?_, .int _ _⟩
     have : ¬ n' < 0 := by omega
     simp [binOp, Op.shift, this]
   · obtain ⟨h1, h2⟩ := h
     refine ⟨_, _, h2, ?_, .int _ _⟩
     have : ¬ n' < 0 := by omega
     simp [binOp, Op.shift, this]
 · cases hk : kEq k k' with
   | false =>
    cases op <;> simp only [abin, hk, cond_false] at h <;> first | exact h.elim | (exact absurd (.inl rfl) hsh) | (exact absurd (.inr rfl) hsh) | (exact absurd (.inl rfl) hop) | (exact absurd (.inr rfl) hop)
   | true =>
    have e := kEq_eq hk
    subst e
    cases op <;> simp only [abin, hk, cond_true] at h <;> first | (exact absurd (.inl rfl) hsh) | (exact absurd (.inr rfl) hsh) | (exact absurd (.inl rfl) hop) | (exact absurd (.inr rfl) hop) | exact h.elim | skip
    case add => exact ⟨_, _, h, by simp [binOp, Op.intArith], .int _ _⟩
    case sub => exact ⟨_, _, h, by simp [binOp, Op.intArith], .int _ _⟩
    case mul => exact ⟨_, _, h, by simp [binOp, Op.intArith], .int _ _⟩
    case quo => exact ⟨_, _, h.2.2, by simp [binOp, Op.intDiv, h.1, wrap_id h.2.1], .int _ _⟩
    case rem => exact ⟨_, _, h.2, by simp [binOp, Op.intDiv, h.1], .int _ _⟩
    case and => exact ⟨_, _, h, by simp [binOp, Op.intBits], .int _ _⟩
    case or => exact ⟨_, _, h, by simp [binOp, Op.intBits], .int _ _⟩
    case xor => exact ⟨_, _, h, by simp [binOp, Op.intBits], .int _ _⟩
    case andNot => exact ⟨_, _, h, by simp [binOp, Op.intBits], .int _ _⟩
    case lss => exact ⟨_, _, h, by simp [binOp, Op.intCmp], .bool _⟩
    case leq => exact ⟨_, _, h, by simp [binOp, Op.intCmp], .bool _⟩
    case gtr => exact ⟨_, _, h, by simp [binOp, Op.intCmp], .bool _⟩
    case geq => exact ⟨_, _, h, by simp [binOp, Op.intCmp], .bool _⟩
theorem str_run {op : BinOp} {st : Bool} {et : List LT} {T : TypeId} {s s' : List UInt8} {Kv : V → Prop} (hop : ¬ (op = .eql ∨ op = .neq)) (h : abin op st et (.str s) (.str s') Kv) (w0 : World) :
  ∃ v x, Kv v ∧ (binOp op T (.string ⟨s.toArray⟩) (.string ⟨s'.toArray⟩)).run P w0 = .ok x w0 ∧ RepP w S v x := by
 cases op <;> simp only [abin] at h <;> first | (exact absurd (.inl rfl) hop) | (exact absurd (.inr rfl) hop) | exact h.elim | skip
 refine ⟨_, _, h.2, ?_, .str _⟩
 have h1 := h.1
 have h2 : ¬ ((((ByteArray.mk s.toArray).size + (ByteArray.mk s'.toArray).size : Nat) : Int) > IntKind.i64.max) := by
  simp only [bsize, IntKind.max, IntKind.signed, IntKind.bits]; simp; omega
 simp only [binOp, Op.stringOp, h2, if_false]
 have : (ByteArray.mk s.toArray ++ ByteArray.mk s'.toArray) = ByteArray.mk (s ++ s').toArray := by
  apply ByteArray.ext
  simp
 rw [this]; rfl
theorem sop_bin {op : BinOp} {st : Bool} {et : List LT} {x y : Opd} (hs : St J w S F θ σ l g) (he : EnvRep w S θ σ l ρ a.tmps) (hc : chkOp P o.op (.bin op st et x y) = true) (h : AWop P H ρ σ g (.bin op st et x y) K) : RunsTo P o a w (OpPost J w S F θ σ l K) := by
 by_cases hneg : ∃ T x', o.op = .unOp .neg T x'
 · obtain ⟨T, x', ho⟩ := hneg
   rw [ho] at hc
   have hk : op = .sub ∧ x = .c (.int .i64 0) ∧ chkOpd x' y = true := by
    unfold chkOp at hc
    split at hc <;> simp_all
   obtain ⟨rfl, rfl, hc1⟩ := hk
   have r1 := opd_rep he hc1
   have h : abin .sub st et (V.int .i64 0) (ev ρ y) (fun v => K v σ g) := h
   cases e1 : ev ρ y <;> rw [e1] at h r1 <;> simp only [abin] at h
   rename_i k n
   cases hkk : kEq .i64 k
   · rw [hkk] at h; exact h.elim
   · rw [hkk, cond_true] at h
     have e2 := r1.int_inv
     have e3 := kEq_eq hkk
     subst e3
     refine ⟨_, w, .inl ?_, OpPost.same hs h (.pure (.int _ _))⟩
     simp [execOp, ho, e2, Op.unary, Op.intArith]
 cases ho : o.op <;> rw [ho] at hc <;> simp only [chkOp, Bool.false_eq_true] at hc
 rotate_left
 · exfalso
   rename_i u T x'
   cases u <;> first | (exact hneg ⟨_, _, ho⟩) | (simp only [Bool.false_eq_true] at hc)
 rename_i op' T x' y' T'
 simp only [Bool.and_eq_true, decide_eq_true_eq] at hc
 obtain ⟨⟨⟨rfl, hc1⟩, hc2⟩, hc3⟩ := hc
 have r1 := opd_rep he hc1
 have r2 := opd_rep he hc2
 simp only [AWop] at h
 have hex : ∀ w0 v, (eqGuard op' T x' y' (a.eval x') (a.eval y')).run P w0 = .ok () w0 → (binOp op' T (a.eval x') (a.eval y')).run P w0 = .ok v w0 → (execOp a.eval o).run P w0 = .ok (.value v) w0 := by
  intro w0 v h1 h2
  simp [execOp, ho, h1, h2]
 by_cases hop : op' = .eql ∨ op' = .neq
 · have ht : tEq P T st et = true := by rcases hop with rfl | rfl <;> exact hc3
   have hb : ∃ b, eqv st et (ev ρ x) (ev ρ y) = some b ∧ K (.bool (if op' = .eql then b else !b)) σ g := by
    have key : ∀ (v u : V), abin op' st et v u (fun v => K v σ g) → ∃ b, eqv st et v u = some b ∧ K (.bool (if op' = .eql then b else !b)) σ g := by
     intro v u h
     rcases hop with rfl | rfl
     · have h' : (match eqv st et v u with | some b => K (.bool b) σ g | none => False) := by
        first | exact h | (cases v <;> cases u <;> exact h)
       split at h' <;> first | exact ⟨_, ‹_›, by simpa using h'⟩ | exact h'.elim
     · have h' : (match eqv st et v u with | some b => K (.bool (!b)) σ g | none => False) := by
        first | exact h | (cases v <;> cases u <;> exact h)
       split at h' <;> first | exact ⟨_, ‹_›, by simpa using h'⟩ | exact h'.elim
    exact key _ _ h
   obtain ⟨b, hb, hk⟩ := hb
   obtain ⟨e1, e2⟩ := eq_run ht hb r1 r2 op' hop x' y' w
   exact ⟨_, w, .inl (hex w _ e1 e2), OpPost.same hs hk (.pure (.bool _))⟩
 · have hgd : (eqGuard op' T x' y' (a.eval x') (a.eval y')).run P w = .ok () w := by
    cases op' <;> first | (exact absurd (.inl rfl) hop) | (exact absurd (.inr rfl) hop) | simp [eqGuard]
   have key : ∀ (v u : V), ev ρ x = v → ev ρ y = u → (∃ k n k' n', v = .int k n ∧ u = .int k' n') ∨ (∃ s s', v = .str s ∧ u = .str s') := by
    intro v u e1 e2
    rw [e1, e2] at h
    unfold abin at h
    split at h <;> first
     | exact .inl ⟨_, _, _, _, rfl, rfl⟩
     | exact .inr ⟨_, _, rfl, rfl⟩
     | exact absurd (.inl rfl) hop
     | exact absurd (.inr rfl) hop
     | exact h.elim
   rcases key _ _ rfl rfl with ⟨k, n, k', n', e1, e2⟩ | ⟨s, s', e1, e2⟩
   · rw [e1, e2] at h
     rw [e1] at r1
     rw [e2] at r2
     obtain ⟨v, xv, hk, hrun, hrep⟩ := int_run (P := P) (w := w) (S := S) (T := T) hop h w
     rw [r1.int_inv, r2.int_inv] at hex hgd
     exact ⟨xv, w, .inl (hex w _ hgd hrun), OpPost.same hs hk (.pure hrep)⟩
   · rw [e1, e2] at h
     rw [e1] at r1
     rw [e2] at r2
     obtain ⟨v, xv, hk, hrun, hrep⟩ := str_run (P := P) (w := w) (S := S) (T := T) hop h w
     rw [r1.str_inv, r2.str_inv] at hex hgd
     exact ⟨xv, w, .inl (hex w _ hgd hrun), OpPost.same hs hk (.pure hrep)⟩
end
section
variable {G : Type} {J : JT G} {w w' w'' : World} {S F S' F' S'' F'' : Nat → Prop} {θ θ' θ'' : Names} {σ σ' σ'' : Store} {l : Nat} {g g' : G}
variable {P : Program} {o : Oper} {a : Act} {ρ : Env} {K : V → Store → G → Prop} {H : HT G}
theorem leaf_one {v : V} {x : Value} (hv : leafB v = true) (h : Rep w S θ σ l v x) : x.oneCell' = true := by
 cases h with
 | pure h => cases h <;> first | rfl | (simp [leafB] at hv)
 | agg => simp [leafB] at hv
 | tup => simp [leafB] at hv
 | fn => rfl
 | bptr _ _ _ ho => exact ho
 | ptr _ _ _ _ _ ho => exact ho
 | msl _ _ _ _ _ ho => exact ho
 | own => rfl
 | ownemp => rfl
 | cptro => rfl
 | rnd => rfl
 | mp _ _ ho => exact ho
 | ifv => rfl
theorem one_cells {x : Value} (h : x.oneCell' = true) : x.cells = #[x] := by
 cases x <;> first | rfl | (simp [Value.oneCell'] at h)
theorem leaf_notagg {v : V} (hv : leafB v = true) : ∀ ll, v ≠ .agg ll := by
 intro ll h; subst h; simp [leafB] at hv
theorem leaf_notag {v : V} (hv : leafB v = true) : ∀ b ll, v ≠ .tag b ll := by
 intro b ll h; subst h; simp [leafB] at hv
theorem cells_rep {v : V} {x : Value} (hv : rowB v = true) (h : Rep w S θ σ l v x) :
  ∃ xs : List Value, x.cells = xs.toArray ∧ xs.length = v.cells.length ∧ ∀ (i : Nat) (u : V) (y : Value), v.cells[i]? = some u → xs[i]? = some y → Rep w S θ σ l u y := by
 by_cases hv2 : ∃ ll, v = .agg ll
 · obtain ⟨ll, rfl⟩ := hv2
   obtain ⟨xs, rfl, hl, hr⟩ := h.agg_inv
   exact ⟨xs, rfl, hl.symm, hr⟩
 · have hl : leafB v = true := by cases v <;> first | exact hv | exact absurd ⟨_, rfl⟩ hv2
   refine ⟨[x], by rw [one_cells (leaf_one hl h)], by rw [cells_one (leaf_notagg hl) (leaf_notag hl)]; rfl, fun i u y h1 h2 => ?_⟩
   rw [cells_one (leaf_notagg hl) (leaf_notag hl)] at h1
   cases i with
   | zero => simp at h1 h2; subst h1 h2; exact h
   | succ i => simp at h1
theorem isAgg_run {T : TypeId} (h : (P.underlying T).isSome = true) (w : World) : (isAgg T).run P w = .ok (tAgg P T) w := by
 obtain ⟨d, hd⟩ := Option.isSome_iff_exists.1 h
 unfold isAgg tAgg
 rw [hd]
 cases d <;> simp [run_underlying hd]
theorem sizeOf_run {T size : Nat} (h : tSize P T size = true) (w : World) : (Go.sizeOf T).run P w = .ok size w := by
 unfold tSize at h
 split at h
 · rename_i i hi
   have := Nat.eq_of_beq_eq_true h
   subst this
   simp [Go.sizeOf, typeInfo, hi]
 · cases h
theorem ldrow_spec {agg : Bool} {size j : Nat} {row v : V} (h : ldrow agg size j row = some v) :
  (agg = false ∧ row.cells[j]? = some v) ∨ (agg = true ∧ ∃ ll, v = .agg ll ∧ ll.length = size ∧ ∀ (i : Nat) (u : V), ll[i]? = some u → row.cells[j + i]? = some u) := by
 unfold ldrow at h
 split at h
 · exact .inl ⟨rfl, h⟩
 · rename_i ll
   cases h1 : Nat.beq size ll.length with
   | true =>
    rw [h1] at h
    injection h with h
    subst h
    exact .inr ⟨rfl, ll, rfl, (Nat.eq_of_beq_eq_true h1).symm, fun i u hu => by simpa [V.cells] using hu⟩
   | false =>
    rw [h1] at h
    cases h2 : Nat.ble size ll.length with
    | true =>
     rw [h2] at h
     injection h with h
     subst h
     have hle := Nat.le_of_ble_eq_true h2
     refine .inr ⟨rfl, _, rfl, by simp; omega, fun i u hu => ?_⟩
     rw [List.getElem?_take] at hu
     split at hu
     · simpa [V.cells] using hu
     · cases hu
    | false => rw [h2] at h; cases h
 · rename_i ll _
   cases h2 : Nat.ble (j + size) ll.length with
   | true =>
    rw [h2] at h
    injection h with h
    subst h
    have hle := Nat.le_of_ble_eq_true h2
    refine .inr ⟨rfl, _, rfl, by simp; omega, fun i u hu => ?_⟩
    rw [List.getElem?_take] at hu
    split at hu
    · rw [List.getElem?_drop] at hu; exact hu
    · cases hu
   | false => rw [h2] at h; cases h
 · cases h
theorem load_run {T size : Nat} {agg : Bool} {row v : V} {b oo j : Nat} {ys : Nat → Value} (hld : ldrow agg size j row = some v) (h1 : tSize P T size = true) (h2 : tAgg P T = agg) (h3 : (agg || Nat.beq size 1) = true) (h4 : (P.underlying T).isSome = true)
  (hc : ∀ (i : Nat) (u : V), row.cells[i]? = some u → w.cell? ⟨b, oo + i, none⟩ = some (ys i) ∧ Rep w S θ σ l u (ys i)) :
  ∃ x, (Instr.loadAt T (.pointer (some ⟨b, oo + j, none⟩))).run P w = .ok x w ∧ Rep w S θ σ l v x := by
 have hag := isAgg_run h4 w
 rw [h2] at hag
 rcases ldrow_spec hld with ⟨rfl, hv⟩ | ⟨rfl, ll, rfl, hll, hv⟩
 · obtain ⟨c1, c2⟩ := hc j v hv
   exact ⟨ys j, by simp [Instr.loadAt, Instr.sureAddr, loadVar, hag, c1], c2⟩
 · have hcell : ∀ q, q < size → w.cell? ((⟨b, oo + j, none⟩ : Addr).add q) = some (ys (j + q)) := by
    intro q hq
    have hlt : q < ll.length := by omega
    have := hv q ll[q] (List.getElem?_eq_getElem hlt)
    rw [Addr.add_lit, Nat.add_assoc]
    exact (hc (j + q) _ this).1
   have hl := run_loadCells (P := P) w ⟨b, oo + j, none⟩ size (fun q => ys (j + q)) hcell
   have hsz := sizeOf_run h1 w
   refine ⟨.agg ((List.range size).map fun q => ys (j + q)).toArray, by simp [Instr.loadAt, Instr.sureAddr, loadVar, hag, hl, hsz], ?_⟩
   refine .agg ll _ (by simp [hll]) fun i u y hu hy => ?_
   have hlt := (List.getElem?_eq_some_iff.1 hu).1
   have : y = ys (j + i) := by
    rw [List.getElem?_map, List.getElem?_range (by omega)] at hy
    simpa using hy.symm
   rw [this]
   exact (hc (j + i) u (hv i u hu)).2
theorem tag_of {b : Nat} {v : V} (h : ∀ b ll, v ≠ .tag b ll) : tagOk b v := by
 cases v <;> first | trivial | exact absurd rfl (h _ _)
theorem row_notag {v : V} (h : rowB v = true) : ∀ b ll, v ≠ .tag b ll := by
 intro b ll e; subst e; simp [rowB, leafB] at h
theorem new_box (hst : Stable J) (hs : St J w S F θ σ l g) (nm : Nat) (hu : σ nm = .unused) (v : V) (xs : List Value) (T : TypeId) (hT : tyOk nm T) (hg : ∀ b ll, v ≠ .tag b ll) (hl : xs.length = v.cells.length)
  (hr : ∀ (i : Nat) (u : V) (y : Value), v.cells[i]? = some u → xs[i]? = some y → Rep w S θ σ l u y) :
  St J (w.alloc (.cells xs.toArray T)) S F (upn θ nm (some (w.heap.size, v.cells.length))) (ups σ nm (.box v)) l g ∧
  Fr w S F θ σ (w.alloc (.cells xs.toArray T)) S F (upn θ nm (some (w.heap.size, v.cells.length))) (ups σ nm (.box v)) ∧
  Rep (w.alloc (.cells xs.toArray T)) S (upn θ nm (some (w.heap.size, v.cells.length))) (ups σ nm (.box v)) l (.bptr nm 0) (.pointer (some ⟨w.heap.size, 0, none⟩)) := by
 have hfr := Fr.alloc hs (.cells xs.toArray T) nm v.cells.length (.box v) hu
 refine ⟨St.alloc hst hs _ nm _ _ hu ⟨w.heap.size, xs.toArray, T, upn_self _ _ _, heap_alloc_new' w _, ⟨by simpa using hl, hT, tag_of hg⟩, fun j u hj => ?_⟩, hfr,
  .bptr nm 0 _ rfl (by rw [upt_self]; intro h; cases h) fun row _ => ⟨_, _, upn_self _ _ _, rfl⟩⟩
 have hlt := (List.getElem?_eq_some_iff.1 hj).1
 have hy : xs[j]? = some xs[j] := List.getElem?_eq_getElem (by omega)
 exact ⟨xs[j], by simp, (hr j u _ hj hy).fr hfr hs⟩
theorem newVar_run (T : TypeId) (x : Value) (w : World) : (newVar T x).run P w = .ok ⟨w.heap.size, 0, none⟩ (w.alloc (.cells x.cells T)) := rfl
theorem sop_alloc {nm : Nat} {z : V} (hst : Stable J) (hs : St J w S F θ σ l g) (hc : chkOp P o.op (.alloc nm z) = true) (h : AWop P H ρ σ g (.alloc nm z) K) : RunsTo P o a w (OpPost J w S F θ σ l K) := by
 cases ho : o.op <;> rw [ho] at hc <;> simp only [chkOp, Bool.false_eq_true] at hc
 rename_i T
 rw [Bool.and_eq_true] at hc
 obtain ⟨hc, hT⟩ := hc
 simp only [AWop] at h
 split at h
 · rename_i hu
   unfold tZero at hc
   split at hc
   · rename_i i hi
     split at hc
     · rename_i x hz
       simp only [Bool.and_eq_true] at hc
       obtain ⟨⟨h1, _⟩, h3⟩ := hc
       obtain ⟨xs, hx, hl, hr⟩ := cells_rep h3 (Rep.pure (θ := θ) (σ := σ) (l := l) (constV_rep (w := w) (S := S) h1))
       obtain ⟨a1, a2, a3⟩ := new_box hst hs nm hu z xs T (tyOk_of hT) (row_notag h3) hl hr
       refine ⟨_, _, .inl ?_, _, _, g, S, F, _, h, a1, a2, a3⟩
       simp [execOp, ho, Instr.alloc, zeroValue, typeInfo, hi, hz, newVar_run, hx]
     · cases hc
   · cases hc
 · exact h.elim
end
section
variable {G : Type} {J : JT G} {w w' w'' : World} {S F S' F' S'' F'' : Nat → Prop} {θ θ' θ'' : Names} {σ σ' σ'' : Store} {l : Nat} {g g' : G}
variable {P : Program} {o : Oper} {a : Act} {ρ : Env} {K : V → Store → G → Prop} {H : HT G}
theorem sop_box {nm size : Nat} {y : Opd} (hst : Stable J) (hs : St J w S F θ σ l g) (he : EnvRep w S θ σ l ρ a.tmps) (hc : chkOp P o.op (.box nm size y) = true) (h : AWop P H ρ σ g (.box nm size y) K) : RunsTo P o a w (OpPost J w S F θ σ l K) := by
 cases ho : o.op <;> rw [ho] at hc <;> simp only [chkOp, Bool.false_eq_true] at hc
 rename_i T x'
 rw [Bool.and_eq_true] at hc
 obtain ⟨hc, hT⟩ := hc
 have r1 := opd_rep he hc
 simp only [AWop] at h
 split at h
 · rename_i hu
   cases hb : (rowB (ev ρ y) && Nat.beq size (ev ρ y).cells.length) with
   | false => rw [hb] at h; exact h.elim
   | true =>
    rw [hb] at h
    simp only [Bool.and_eq_true] at hb
    obtain ⟨xs, hx, hl, hr⟩ := cells_rep hb.1 r1
    obtain ⟨a1, a2, a3⟩ := new_box hst hs nm hu (ev ρ y) xs T (tyOk_of hT) (row_notag hb.1) hl hr
    refine ⟨_, _, .inl ?_, _, _, g, S, F, _, h, a1, a2, a3⟩
    simp [execOp, ho, Instr.box, newVar_run, hx]
 · exact h.elim
theorem sop_load {agg : Bool} {size : Nat} {y : Opd} (hs : St J w S F θ σ l g) (he : EnvRep w S θ σ l ρ a.tmps) (hc : chkOp P o.op (.load agg size y) = true) (h : AWop P H ρ σ g (.load agg size y) K) : RunsTo P o a w (OpPost J w S F θ σ l K) := by
 cases ho : o.op <;> rw [ho] at hc <;> simp only [chkOp, Bool.false_eq_true] at hc
 rename_i T x'
 simp only [Bool.and_eq_true] at hc
 obtain ⟨⟨⟨⟨hc1, hc2⟩, hc3⟩, hc4⟩, hc5⟩ := hc
 have hag : tAgg P T = agg := by simpa using hc3
 have r1 := opd_rep he hc1
 simp only [AWop] at h
 have fin : ∀ {row v : V} {b oo j : Nat} {ys : Nat → Value}, a.eval x' = .pointer (some ⟨b, oo + j, none⟩) → ldrow agg size j row = some v → K v σ g →
   (∀ (i : Nat) (u : V), row.cells[i]? = some u → w.cell? ⟨b, oo + i, none⟩ = some (ys i) ∧ Rep w S θ σ l u (ys i)) → RunsTo P o a w (OpPost J w S F θ σ l K) := by
  intro row v b oo j ys e hld hk hcell
  obtain ⟨x, hrun, hrep⟩ := load_run hld hc2 hag hc4 hc5 hcell
  refine ⟨x, w, .inl ?_, OpPost.same hs hk hrep⟩
  simp [execOp, ho, e, hrun]
 split at h
 ·
  rename_i nm j hv
  rw [hv] at r1
  split at h
  · rename_i row hσ
    split at h
    · rename_i v hld
      cases r1 with
      | pure h1 => cases h1
      | bptr _ _ _ _ hn h1 =>
       obtain ⟨b, m, hb, e⟩ := h1 row hσ
       have hk := hs.hblk nm
       rw [hσ] at hk
       obtain ⟨b', c, e', h2, h3, h4, h5⟩ := hk
       have eb : b' = b := by rw [hb] at h2; simp at h2; exact h2.1.symm
       subst eb
       refine fin (oo := 0) (ys := fun i => c.getD i default) (by rw [e, Nat.zero_add]) hld h fun i u hu => ?_
       obtain ⟨y, hy, hr⟩ := h5 i u hu
       have hi := Array.getElem?_eq_some_iff.1 hy
       have e2 : c.getD i default = y := by simp [Array.getD, hi.1, hi.2]
       rw [e2]
       exact ⟨by simpa [World.cell?, h3] using hy, hr⟩
    · exact h.elim
  · exact h.elim
 · rename_i nm gen i j hv
   rw [hv] at r1
   split at h
   · rename_i gen' rows hσ
     obtain ⟨rfl, row, hrow, h⟩ := h
     split at h
     · rename_i v hld
       cases r1 with
       | pure h1 => cases h1
       | ptr _ _ _ _ _ _ hn hg h1 =>
        obtain ⟨b, m, hb, e⟩ := h1 rows hσ
        have hk := hs.hblk nm
        rw [hσ] at hk
        rcases hk with ⟨h2, _⟩ | ⟨b', m', c, e', h2, h3, h4, h5, h6⟩
        · rw [hb] at h2; cases h2
        · have eb : b' = b ∧ m' = m := by rw [hb] at h2; simp at h2; exact ⟨h2.1.symm, h2.2.symm⟩
          obtain ⟨rfl, rfl⟩ := eb
          refine fin (oo := i * m') (ys := fun q => c.getD (i * m' + q) default) e hld h fun q u hu => ?_
          obtain ⟨y, hy, hr⟩ := h6 i q row u hrow hu
          have hi := Array.getElem?_eq_some_iff.1 hy
          have e2 : c.getD (i * m' + q) default = y := by simp [Array.getD, hi.1, hi.2]
          rw [e2]
          exact ⟨by simpa [World.cell?, h3] using hy, .pure hr⟩
     · exact h.elim
   · exact h.elim
 · rename_i t row j hv
   rw [hv] at r1
   split at h
   · rename_i v hld
     obtain ⟨b, oo, ys, e, hcc, _⟩ := r1.cptr_inv
     exact fin e hld h fun i u hu => ⟨(hcc i u hu).1, .pure (hcc i u hu).2⟩
   · exact h.elim
 · rename_i b j hv
   rw [hv] at r1
   obtain ⟨nm, ll, v, hσ, hld, h⟩ := h
   have hk := hs.hblk nm
   rw [hσ] at hk
   obtain ⟨b', c, e', h2, h3, ⟨h4, h4t, h4g⟩, h5⟩ := hk
   have eb : b = b' := h4g
   subst eb
   refine fin (row := .agg ll) (oo := 0) (ys := fun i => c.getD i default) (by rw [r1.raw_inv, Nat.zero_add]) hld h fun i u hu => ?_
   obtain ⟨y, hy, hr⟩ := h5 i u hu
   have hi := Array.getElem?_eq_some_iff.1 hy
   have e2 : c.getD i default = y := by simp [Array.getD, hi.1, hi.2]
   rw [e2]
   exact ⟨by simpa [World.cell?, h3] using hy, hr⟩
 · exact h.elim
theorem fieldAt_run {T f off b q : Nat} (hc : fieldAt P T f off = true) (w : World) : (Instr.fieldAt T (.pointer (some ⟨b, q, none⟩)) f).run P w = .ok (.pointer (some ⟨b, q + off, none⟩)) w := by
 unfold fieldAt at hc
 split at hc
 · rename_i fs hu
   split at hc
   · rename_i x hx
     simp only [Bool.and_eq_true] at hc
     obtain ⟨h1, h2⟩ := hc
     have e := Nat.eq_of_beq_eq_true h1
     subst e
     split at h2
     · rename_i i hi
       have hne : i.size ≠ 0 := by intro e; rw [e] at h2; simp at h2
       simp [Instr.fieldAt, run_underlying hu, hx, Instr.sureAddr, fieldPlace, Go.sizeOf, typeInfo, hi, hne, Addr.add_lit]
     · cases h2
   · cases hc
 · cases hc
theorem indexAt_run {T off b q : Nat} {i : Operand} (hc : idxAt P T i off = true) (w : World) : (Instr.indexAt T (.pointer (some ⟨b, q, none⟩)) (a.eval i)).run P w = .ok (.pointer (some ⟨b, q + off, none⟩)) w := by
 unfold idxAt at hc
 split at hc
 · rename_i n e kk k hu
   simp only [Bool.and_eq_true, decide_eq_true_eq] at hc
   obtain ⟨⟨h1, h2⟩, h3⟩ := hc
   split at h3
   · rename_i inf hi
     have e := Nat.eq_of_beq_eq_true h3
     subst e
     simp [Instr.indexAt, asIntOf, Act.eval, run_underlying hu, Instr.sureAddr, h1, h2, Go.sizeOf, typeInfo, hi, Addr.add_lit]
   · cases h3
 · cases hc
theorem sop_faddr {off : Nat} {y : Opd} (hs : St J w S F θ σ l g) (he : EnvRep w S θ σ l ρ a.tmps) (hc : chkOp P o.op (.faddr off y) = true) (h : AWop P H ρ σ g (.faddr off y) K) : RunsTo P o a w (OpPost J w S F θ σ l K) := by
 have hcase : ∃ x', chkOpd x' y = true ∧ ∀ b q, a.eval x' = .pointer (some ⟨b, q, none⟩) → (execOp a.eval o).run P w = .ok (.value (.pointer (some ⟨b, q + off, none⟩))) w := by
  cases ho : o.op <;> rw [ho] at hc <;> simp only [chkOp, Bool.false_eq_true] at hc
  all_goals simp only [Bool.and_eq_true] at hc
  all_goals obtain ⟨hc1, hc2⟩ := hc
  all_goals refine ⟨_, hc1, fun b q e => ?_⟩
  all_goals first
   | (simp [execOp, ho, e, fieldAt_run hc2]; done)
   | simp [execOp, ho, e, indexAt_run hc2]
 obtain ⟨x', hc1, hex⟩ := hcase
 have r1 := opd_rep he hc1
 simp only [AWop] at h
 split at h
 · rename_i b j hv
   rw [hv] at r1
   exact ⟨_, w, .inl (hex b j r1.raw_inv), OpPost.same hs h (.pure (.raw b (j + off)))⟩
 · rename_i nm j hv
   rw [hv] at r1
   split at h
   · rename_i row hσ
     cases r1 with
     | pure h1 => cases h1
     | bptr _ _ _ _ hn h1 =>
      obtain ⟨b, m, hb, e⟩ := h1 row hσ
      exact ⟨_, w, .inl (hex b j e), OpPost.same hs h (.bptr nm _ _ rfl hn fun row' hr' => ⟨b, m, hb, rfl⟩)⟩
   · exact h.elim
 · rename_i nm gen i j hv
   rw [hv] at r1
   split at h
   · rename_i gen' rows hσ
     obtain ⟨rfl, h⟩ := h
     cases r1 with
     | pure h1 => cases h1
     | ptr _ _ _ _ _ _ hn hg h1 =>
      obtain ⟨b, m, hb, e⟩ := h1 rows hσ
      exact ⟨_, w, .inl (hex b (i * m + j) e), OpPost.same hs h (.ptr nm gen i _ _ rfl hn hg fun rows' hr' => ⟨b, m, hb, by rw [Nat.add_assoc]⟩)⟩
   · exact h.elim
 · rename_i t row j hv
   rw [hv] at r1
   obtain ⟨b, oo, ys, e, hcc, hr⟩ := r1.cptr_inv
   refine ⟨_, w, .inl (hex b (oo + j) e), OpPost.same hs h ?_⟩
   rw [Nat.add_assoc]
   exact hr (j + off)
 · exact h.elim
theorem part_run {T n off : Nat} {agg : Bool} {v u : V} {xs : List Value} (hld : ldrow agg n off (.agg v.cells) = some u) (hv : ∃ ll, v = .agg ll) (hl : v.cells.length = xs.length)
  (hr : ∀ (i : Nat) (u : V) (y : Value), v.cells[i]? = some u → xs[i]? = some y → Rep w S θ σ l u y)
  (h1 : tSize P T n = true) (h2 : tAgg P T = agg) (h4 : (P.underlying T).isSome = true) :
  ∃ x, (part T xs.toArray off).run P w = .ok x w ∧ Rep w S θ σ l u x := by
 have hag := isAgg_run h4 w
 rw [h2] at hag
 obtain ⟨ll0, rfl⟩ := hv
 simp only [V.cells] at hl hr hld
 rcases ldrow_spec hld with ⟨rfl, hv⟩ | ⟨rfl, ll, rfl, hll, hv⟩
 · simp only [V.cells] at hv
   have hlt := (List.getElem?_eq_some_iff.1 hv).1
   have hx : xs[off]? = some xs[off] := List.getElem?_eq_getElem (by omega)
   exact ⟨xs[off], by simp [part, hag, hx], hr off u _ hv hx⟩
 · have hsz := sizeOf_run h1 w
   have hxx : ((xs.drop off).take n).toArray = xs.toArray.extract off (off + n) := by simp [List.extract_eq_take_drop]
   refine ⟨.agg (xs.toArray.extract off (off + n)), by simp [part, hag, hsz], ?_⟩
   rw [← hxx]
   have hlen : ((xs.drop off).take n).length = n := by
    cases n with
    | zero => simp
    | succ n =>
     have := hv n ll[n] (List.getElem?_eq_getElem (by omega))
     simp only [V.cells] at this
     have := (List.getElem?_eq_some_iff.1 this).1
     simp; omega
   refine .agg ll _ (by rw [hlen, hll]) fun i u y hu hy => ?_
   have hi := hv i u hu
   simp only [V.cells] at hi
   rw [List.getElem?_take] at hy
   split at hy
   · rw [List.getElem?_drop] at hy
     exact hr (off + i) u y hi hy
   · cases hy
theorem sop_field {agg : Bool} {size off : Nat} {y : Opd} (hs : St J w S F θ σ l g) (he : EnvRep w S θ σ l ρ a.tmps) (hc : chkOp P o.op (.field agg size off y) = true) (h : AWop P H ρ σ g (.field agg size off y) K) : RunsTo P o a w (OpPost J w S F θ σ l K) := by
 cases ho : o.op <;> rw [ho] at hc <;> simp only [chkOp, Bool.false_eq_true] at hc
 rename_i T x' f
 simp only [Bool.and_eq_true] at hc
 obtain ⟨hc1, hc2⟩ := hc
 have r1 := opd_rep he hc1
 unfold fieldOf at hc2
 split at hc2
 · rename_i fs hu
   split at hc2
   · rename_i fld hf
     simp only [Bool.and_eq_true] at hc2
     obtain ⟨⟨⟨⟨h1, h2⟩, h3⟩, h4⟩, h5⟩ := hc2
     have e := Nat.eq_of_beq_eq_true h1
     subst e
     have hag : tAgg P fld.type = agg := by simpa using h3
     simp only [AWop] at h
     split at h
     · rename_i ll hll
       split at h
       · rename_i v hld
         rw [hll] at r1
         obtain ⟨xs, e, hl, hr⟩ := r1.agg_inv
         obtain ⟨x, hrun, hrep⟩ := part_run (P := P) (v := .agg ll) (T := fld.type) hld ⟨ll, rfl⟩ hl hr h2 hag h5
         refine ⟨x, w, .inl ?_, OpPost.same hs h hrep⟩
         simp [execOp, ho, e, Instr.field, run_underlying hu, hf, asAgg, hrun]
       · exact h.elim
     · exact h.elim
   · cases hc2
 · cases hc2
end
section
variable {G : Type} {J : JT G} {w w' w'' : World} {S F S' F' S'' F'' : Nat → Prop} {θ θ' θ'' : Names} {σ σ' σ'' : Store} {l : Nat} {g g' : G}
variable {P : Program} {o : Oper} {a : Act} {ρ : Env} {K : V → Store → G → Prop} {H : HT G}
theorem Rep.sl_elem {t : Tag} {rows : List V} {x : Value} (h : Rep w S θ σ l (.sl t rows) x) {i : Nat} {row : V} (hi : rows[i]? = some row) :
  ∃ b off m cap, x = .slice (some ⟨b, off, none⟩) rows.length cap ∧ row.cells.length = m ∧ (∀ j, Rep w S θ σ l (.cptr t row j) (.pointer (some ⟨b, off + i * m + j, none⟩))) := by
 have hmem := List.mem_of_getElem? hi
 have hlt := (List.getElem?_eq_some_iff.1 hi).1
 cases h with
 | pure h =>
  cases h with
  | nilsl a => simp at hi
  | emp a cap => simp at hi
  | sl _ b off cap m ys hS hcap hw hc hr => exact ⟨b, off, m, cap, rfl, hw row hmem, fun j => .pure (.cptr row b (off + i * m) j (ys i) hS (fun q v hq => hc i q row v hi hq) fun q v hq => hr i q row v hi hq)⟩
 | own nm _ b off cap m ys hn hb hcap hw hc hr hf =>
  refine ⟨b, off, m, cap, rfl, hw row hmem, fun j => .cptro nm row b (off + i * m) j (ys i) hn ?_ (fun q v hq => hc i q row v hi hq) fun q v hq => hr i q row v hi hq⟩
  rcases hb with hb | ⟨m', k, h1, h2, h3⟩
  · exact .inl hb
  · refine .inr ⟨m', k, h1, h2, ?_⟩
    rw [hw row hmem]
    have : i * m + m ≤ rows.length * m := by rw [← Nat.succ_mul]; exact Nat.mul_le_mul_right m hlt
    omega
 | ownemp nm a hn => simp at hi
theorem sop_iaddr {size : Nat} {y z : Opd} (hs : St J w S F θ σ l g) (he : EnvRep w S θ σ l ρ a.tmps) (hc : chkOp P o.op (.iaddr size y z) = true) (h : AWop P H ρ σ g (.iaddr size y z) K) : RunsTo P o a w (OpPost J w S F θ σ l K) := by
 cases ho : o.op <;> rw [ho] at hc <;> simp only [chkOp, Bool.false_eq_true] at hc
 rename_i T y' z'
 simp only [Bool.and_eq_true] at hc
 obtain ⟨⟨hc1, hc2⟩, hc3⟩ := hc
 have r1 := opd_rep he hc1
 have r2 := opd_rep he hc2
 simp only [tSlice] at hc3
 split at hc3
 · rename_i e hu
   simp only [Bool.and_eq_true] at hc3
   have hsz := fun w => sizeOf_run (P := P) hc3.1 w
   simp only [AWop] at h
   split at h
   · rename_i t rows k n hy hz
     rw [hy] at r1
     rw [hz] at r2
     obtain ⟨h0, row, hrow, hw, h⟩ := h
     have e2 := r2.int_inv
     obtain ⟨b, off, m, cap, e1, hm, hr⟩ := r1.sl_elem hrow
     have hlt := (List.getElem?_eq_some_iff.1 hrow).1
     have em : size = m := (Nat.eq_of_beq_eq_true hw).trans hm
     subst em
     have hb : 0 ≤ n ∧ n < (rows.length : Int) := ⟨h0, by omega⟩
     refine ⟨.pointer (some ⟨b, off + n.toNat * size, none⟩), w, .inl ?_, OpPost.same hs h ?_⟩
     · simp [execOp, ho, e1, e2, Instr.indexAt, asIntOf, run_underlying hu, hb.1, hb.2, hsz, Addr.add_lit]
     · have := hr 0
       simpa using this
   · rename_i nm gen i len k n hy hz
     rw [hy] at r1
     rw [hz] at r2
     have e2 := r2.int_inv
     split at h
     · rename_i gen' rows hσ
       obtain ⟨rfl, h0, h1, hw, h⟩ := h
       cases r1 with
       | pure h1 => cases h1
       | msl _ _ _ _ _ _ hn hg hx =>
        rcases hx rows hσ with ⟨b, m, cap, hb, hle, e1, hcap, hlen⟩ | ⟨rfl, ad, e1⟩
        · have hk := hs.hblk nm
          rw [hσ] at hk
          rcases hk with ⟨h2, _⟩ | ⟨b', m', c, e', h2, h3, h4, h5, h6⟩
          · rw [hb] at h2; cases h2
          · have eb : b' = b ∧ m' = m := by rw [hb] at h2; simp at h2; exact ⟨h2.1.symm, h2.2.symm⟩
            obtain ⟨rfl, rfl⟩ := eb
            have em : size = m' := (Nat.eq_of_beq_eq_true hw).symm.trans h5.1.symm
            subst em
            refine ⟨.pointer (some ⟨b', i * size + n.toNat * size, none⟩), w, .inl ?_, OpPost.same hs h (.ptr nm gen _ _ _ rfl hn hg fun rows' hr' => ⟨b', size, hb, by rw [Nat.add_mul]; simp⟩)⟩
            simp [execOp, ho, e1, e2, Instr.indexAt, asIntOf, run_underlying hu, h0, h1, hsz, Addr.add_lit]
        · exact absurd h1 (by simp; omega)
     · exact h.elim
   · rename_i b len cc k n hy hz
     rw [hy] at r1
     rw [hz] at r2
     obtain ⟨h0, h1, h⟩ := h
     have e2 := r2.int_inv
     obtain ⟨e1, _⟩ := r1.rsl_inv
     refine ⟨.pointer (some ⟨b, n.toNat * size, none⟩), w, .inl ?_, OpPost.same hs h (.pure (.raw _ _))⟩
     simp [execOp, ho, e1, e2, Instr.indexAt, asIntOf, run_underlying hu, h0, h1, hsz, Addr.add_lit]
   · exact h.elim
 · cases hc3
theorem sop_idxA {len : Nat} {y z : Opd} (hs : St J w S F θ σ l g) (he : EnvRep w S θ σ l ρ a.tmps) (hc : chkOp P o.op (.idxA len y z) = true) (h : AWop P H ρ σ g (.idxA len y z) K) : RunsTo P o a w (OpPost J w S F θ σ l K) := by
 cases ho : o.op <;> rw [ho] at hc <;> simp only [chkOp, Bool.false_eq_true] at hc
 rename_i T y' z'
 simp only [Bool.and_eq_true] at hc
 obtain ⟨⟨hc1, hc2⟩, hc3⟩ := hc
 have r1 := opd_rep he hc1
 have r2 := opd_rep he hc2
 unfold tArr1 at hc3
 split at hc3
 · rename_i n e hu
   simp only [Bool.and_eq_true] at hc3
   obtain ⟨⟨⟨k1, k2⟩, k3⟩, k4⟩ := hc3
   have en := Nat.eq_of_beq_eq_true k1
   subst en
   have hsz := fun w => sizeOf_run (P := P) k2 w
   simp only [AWop] at h
   split at h
   · rename_i ll k m hy hz
     rw [hy] at r1
     rw [hz] at r2
     obtain ⟨h0, h1, v, hv, h⟩ := h
     obtain ⟨xs, e1, hl, hr⟩ := r1.agg_inv
     have e2 := r2.int_inv
     obtain ⟨x, hrun, hrep⟩ := part_run (P := P) (w := w) (v := .agg ll) (T := e) (n := 1) (off := m.toNat) (agg := false) (u := v) (by simpa [ldrow, V.cells] using hv) ⟨ll, rfl⟩ hl hr k2 (by simpa using k3) k4
     refine ⟨x, w, .inl ?_, OpPost.same hs h hrep⟩
     simp [execOp, ho, e1, e2, Instr.index, asIntOf, run_underlying hu, h0, h1, hsz, hrun]
   · exact h.elim
 · cases hc3
theorem sop_index {y z : Opd} (hs : St J w S F θ σ l g) (he : EnvRep w S θ σ l ρ a.tmps) (hc : chkOp P o.op (.index y z) = true) (h : AWop P H ρ σ g (.index y z) K) : RunsTo P o a w (OpPost J w S F θ σ l K) := by
 cases ho : o.op <;> rw [ho] at hc <;> simp only [chkOp, Bool.false_eq_true] at hc
 rename_i T y' z'
 simp only [Bool.and_eq_true] at hc
 obtain ⟨⟨hc1, hc2⟩, hc3⟩ := hc
 have r1 := opd_rep he hc1
 have r2 := opd_rep he hc2
 unfold tString at hc3
 split at hc3
 · rename_i hu
   simp only [AWop] at h
   split at h
   · rename_i s k n hy hz
     rw [hy] at r1
     rw [hz] at r2
     obtain ⟨h0, c, hcc, h⟩ := h
     have e1 := r1.str_inv
     have e2 := r2.int_inv
     have hlt := (List.getElem?_eq_some_iff.1 hcc).1
     have hget : (ByteArray.mk s.toArray)[n.toNat]? = some c := by
      rw [getElem?_pos _ _ (by simpa using hlt)]
      have := List.getElem?_eq_some_iff.1 hcc
      obtain ⟨h1, h2⟩ := this
      show some (s.toArray[n.toNat]) = some c
      simp [h2]
     refine ⟨.int .u8 c.toNat, w, .inl ?_, OpPost.same hs h (.pure (.int _ _))⟩
     simp [execOp, ho, e1, e2, Instr.index, asIntOf, run_underlying hu, h0, hget]
   · exact h.elim
 · cases hc3
theorem sop_nilck {y : Opd} (hs : St J w S F θ σ l g) (he : EnvRep w S θ σ l ρ a.tmps) (hc : chkOp P o.op (.nilck y) = true) (h : AWop P H ρ σ g (.nilck y) K) : RunsTo P o a w (OpPost J w S F θ σ l K) := by
 cases ho : o.op <;> rw [ho] at hc <;> simp only [chkOp, Bool.false_eq_true] at hc
 rename_i y'
 have r1 := opd_rep he hc
 simp only [AWop] at h
 split at h
 · rename_i nm j hv
   rw [hv] at r1
   split at h
   · rename_i row hσ
     cases hr : r1 with
     | pure h1 => cases h1
     | bptr _ _ _ _ hn h1 =>
      obtain ⟨b, m, hb, e⟩ := h1 row hσ
      refine ⟨a.eval y', w, .inl ?_, OpPost.same hs h r1⟩
      simp [execOp, ho, e]
   · exact h.elim
 · rename_i t row j hv
   rw [hv] at r1
   obtain ⟨b, oo, ys, e, _, _⟩ := r1.cptr_inv
   refine ⟨a.eval y', w, .inl ?_, OpPost.same hs h r1⟩
   simp [execOp, ho, e]
 · rename_i b j hv
   rw [hv] at r1
   have e := r1.raw_inv
   refine ⟨a.eval y', w, .inl ?_, OpPost.same hs h r1⟩
   simp [execOp, ho, e]
 · rename_i f caps hv
   rw [hv] at r1
   obtain ⟨xs, e, _, _⟩ := r1.fn_inv
   refine ⟨a.eval y', w, .inl ?_, OpPost.same hs h r1⟩
   simp [execOp, ho, e]
 · rename_i hv
   rw [hv] at r1
   have e := r1.rnd_inv
   refine ⟨a.eval y', w, .inl ?_, OpPost.same hs h r1⟩
   simp [execOp, ho, e]
 · exact h.elim
theorem isnil_run {T e : TypeId} {op : BinOp} {neg : Bool} {ad : Option Addr} {n cap : Nat} {x y : Operand} (hu : P.underlying T = some (.slice e)) (hop : op = (bif neg then .neq else .eql)) (w : World) :
  (eqGuard op T x y (.slice ad n cap) (.slice none 0 0)).run P w = .ok () w ∧ (binOp op T (.slice ad n cap) (.slice none 0 0)).run P w = .ok (.bool (ad.isNone != neg)) w := by
 have he : ∀ d, (Op.equalIn (d + 1) T (.slice ad n cap) (.slice none 0 0)).run P w = .ok ad.isNone w := by
  intro d
  cases ad <;> simp [Op.equalIn, run_underlying hu]
 have he' : (Op.equal T (.slice ad n cap) (.slice none 0 0)).run P w = .ok ad.isNone w := he 9999
 subst hop
 refine ⟨by cases neg <;> simp [eqGuard], ?_⟩
 cases neg
 · simp only [cond_false, binOp]
   simp [he']
 · simp only [cond_true, binOp]
   simp [he']
theorem isnili_run {T : TypeId} {ms : _} {op : BinOp} {neg : Bool} {v : Value} {x : Operand} (hu : P.underlying T = some (.interface ms)) (hop : op = (bif neg then .neq else .eql)) (w : World) {c : Bool} (hv : (c = true ∧ v = .nilIface) ∨ (c = false ∧ ∃ t p, v = .iface t p)) :
  (eqGuard op T x (.const .nilIface) v .nilIface).run P w = .ok () w ∧ (binOp op T v .nilIface).run P w = .ok (.bool (c != neg)) w := by
 have he : ∀ d, (Op.equalIn (d + 1) T v .nilIface).run P w = .ok c w := by
  intro d
  rcases hv with ⟨rfl, rfl⟩ | ⟨rfl, t, p, rfl⟩ <;> simp [Op.equalIn, run_underlying hu]
 have he' : (Op.equal T v .nilIface).run P w = .ok c w := he 9999
 subst hop
 refine ⟨?_, ?_⟩
 · rcases hv with ⟨rfl, rfl⟩ | ⟨rfl, t, p, rfl⟩ <;> cases neg <;> simp [eqGuard]
 · rcases hv with ⟨rfl, rfl⟩ | ⟨rfl, t, p, rfl⟩ <;> cases neg
   all_goals
    simp only [cond_false, cond_true, binOp]
    simp [he']
theorem sop_isnili {neg : Bool} {y : Opd} (hs : St J w S F θ σ l g) (he : EnvRep w S θ σ l ρ a.tmps) (hc : chkOp P o.op (.isnili neg y) = true) (h : AWop P H ρ σ g (.isnili neg y) K) : RunsTo P o a w (OpPost J w S F θ σ l K) := by
 cases ho : o.op <;> rw [ho] at hc <;> simp only [chkOp, Bool.false_eq_true] at hc
 rename_i op T x' y' T'
 simp only [Bool.and_eq_true, decide_eq_true_eq] at hc
 obtain ⟨⟨hc1, hc3⟩, hc4⟩ := hc
 have r1 := opd_rep he hc1
 simp only [AWop] at h
 split at h
 · rename_i c hv
   rw [hv] at r1
   have hx := r1.ifc_inv
   split at hc4
   · rename_i ms hu
     obtain ⟨k1, k2⟩ := isnili_run (x := x') hu hc3 w hx
     refine ⟨.bool (c != neg), w, .inl ?_, OpPost.same hs h (.pure (.bool _))⟩
     have e2 : a.eval (.const .nilIface) = .nilIface := rfl
     simp [execOp, ho, e2, k1, k2]
   · cases hc4
 · exact h.elim
theorem sop_isnil {neg : Bool} {y : Opd} (hs : St J w S F θ σ l g) (he : EnvRep w S θ σ l ρ a.tmps) (hc : chkOp P o.op (.isnil neg y) = true) (h : AWop P H ρ σ g (.isnil neg y) K) : RunsTo P o a w (OpPost J w S F θ σ l K) := by
 cases ho : o.op <;> rw [ho] at hc <;> simp only [chkOp, Bool.false_eq_true] at hc
 rename_i op T x' y' T'
 simp only [Bool.and_eq_true, decide_eq_true_eq] at hc
 obtain ⟨⟨⟨hc1, hc2⟩, hc3⟩, hc4⟩ := hc
 have r1 := opd_rep he hc1
 have hy' : y' = .const (.slice none 0 0) := by
  unfold isNilSlice at hc2
  split at hc2
  · rfl
  · cases hc2
 simp only [AWop] at h
 split at h
 · rename_i t rows hv
   rw [hv] at r1
   obtain ⟨ad, cap, e, _, hne⟩ := r1.sl_inv
   split at hc4
   · rename_i e0 hu
     obtain ⟨k1, k2⟩ := isnil_run (x := x') (y := y') (ad := ad) (n := rows.length) (cap := cap) hu hc3 w
     have hb : ad.isNone = true → rows = [] := by
      intro hn
      apply Classical.byContradiction
      intro hr
      obtain ⟨b, off, m, e1, _⟩ := hne hr
      rw [e1] at hn
      cases hn
     refine ⟨.bool (ad.isNone != neg), w, .inl ?_, OpPost.same hs (h _ hb) (.pure (.bool _))⟩
     have e2 : a.eval y' = .slice none 0 0 := by rw [hy']; rfl
     simp [execOp, ho, e, e2, k1, k2]
   · cases hc4
 · exact h.elim
theorem sop_cut0 {y : Opd} (hs : St J w S F θ σ l g) (he : EnvRep w S θ σ l ρ a.tmps) (hc : chkOp P o.op (.cut0 y) = true) (h : AWop P H ρ σ g (.cut0 y) K) : RunsTo P o a w (OpPost J w S F θ σ l K) := by
 cases ho : o.op <;> rw [ho] at hc <;> simp only [chkOp, Bool.false_eq_true] at hc
 rename_i T y' lo hi mx
 simp only [Bool.and_eq_true, Bool.or_eq_true] at hc
 obtain ⟨⟨⟨⟨hc1, hlo⟩, hhi⟩, hmx⟩, hc5⟩ := hc
 have r1 := opd_rep he hc1
 have zero : ∀ q : Option Operand, isZero q = true → q = some (.const (.int .i64 0)) := by
  intro q hq; unfold isZero at hq; split at hq
  · rfl
  · cases hq
 have e1 := zero hi hhi
 have e2 := zero mx hmx
 subst e1 e2
 split at hc5
 · rename_i e hu
   obtain ⟨i, hi⟩ := Option.isSome_iff_exists.1 hc5
   simp only [AWop] at h
   split at h
   · rename_i t rows hv
     rw [hv] at r1
     obtain ⟨ad, cap, e, _⟩ := r1.sl_inv
     refine ⟨.slice ad 0 0, w, .inl ?_, OpPost.same hs h (.pure (.nilsl _))⟩
     have hz : a.eval (.const (.int .i64 0)) = .int .i64 0 := rfl
     rcases hlo with hlo | hlo
     · have : lo = none := by simpa using hlo
       subst this
       simp [execOp, ho, e, Instr.sliceAt, Instr.slice, run_underlying hu, Instr.sliceBounds, Instr.sliceBound, asIntOf, hz, Go.sizeOf, typeInfo, hi]
     · have := zero lo hlo
       subst this
       simp [execOp, ho, e, Instr.sliceAt, Instr.slice, run_underlying hu, Instr.sliceBounds, Instr.sliceBound, asIntOf, hz, Go.sizeOf, typeInfo, hi]
   · exact h.elim
 · cases hc5
end
section
variable {G : Type} {J : JT G} {w w' w'' : World} {S F S' F' S'' F'' : Nat → Prop} {θ θ' θ'' : Names} {σ σ' σ'' : Store} {l : Nat} {g g' : G}
variable {P : Program} {o : Oper} {a : Act} {ρ : Env} {K : V → Store → G → Prop} {H : HT G}
theorem bounds_run (isSl : Bool) (len cap A B : Nat) (lo hi : Option Value) (hlo : (lo = none ∧ A = 0) ∨ ∃ k, lo = some (.int k A)) (hhi : (hi = none ∧ B = len) ∨ ∃ k, hi = some (.int k B)) (hAB : A ≤ B) (hB : B ≤ len) (hc : len ≤ cap) (w : World) :
  (Instr.sliceBounds isSl len cap lo hi none).run P w = .ok (A, B, cap) w := by
 have hBc : B ≤ cap := by omega
 rcases hlo with ⟨rfl, rfl⟩ | ⟨k, rfl⟩ <;> rcases hhi with ⟨rfl, rfl⟩ | ⟨k', rfl⟩ <;>
  simp [Instr.sliceBounds, Instr.sliceBound, asIntOf] <;> (try omega) <;> simp [hBc, hAB]
theorem Rep.sl_cut {t : Tag} {rows : List V} {x : Value} (h : Rep w S θ σ l (.sl t rows) x) {A B size : Nat} (hAB : A ≤ B) (hB : B ≤ rows.length) (hsz : A = 0 ∨ ∀ row ∈ rows, row.cells.length = size) :
  ∃ ad cap, x = .slice ad rows.length cap ∧ rows.length ≤ cap ∧ Rep w S θ σ l (.sl t ((rows.take B).drop A)) (.slice (if cap = A then ad else ad.map (·.add (A * size))) (B - A) (cap - A)) := by
 have hlen : ((rows.take B).drop A).length = B - A := by simp; omega
 have hget : ∀ i row, ((rows.take B).drop A)[i]? = some row → rows[A + i]? = some row := by
  intro i row hi
  rw [List.getElem?_drop, List.getElem?_take] at hi
  split at hi
  · exact hi
  · cases hi
 have hmem : ∀ row, row ∈ (rows.take B).drop A → row ∈ rows := fun row hr => List.mem_of_mem_take (List.mem_of_mem_drop hr)
 cases h with
 | pure h =>
  cases h with
  | nilsl ad =>
   have e1 : B = 0 := by simpa using hB
   have e2 : A = 0 := by omega
   subst e1 e2
   exact ⟨ad, 0, rfl, Nat.le_refl _, .pure (by simpa using RepP.nilsl (w := w) (S := S) ad)⟩
  | emp ad cap =>
   have e1 : B = 0 := by simpa using hB
   have e2 : A = 0 := by omega
   subst e1 e2
   refine ⟨ad, cap, rfl, Nat.zero_le _, .pure ?_⟩
   simpa using RepP.emp (w := w) (S := S) _ cap
  | sl _ b off cap m ys hS hcap hw hc hr =>
   refine ⟨_, cap, rfl, hcap, .pure ?_⟩
   by_cases hlt : A < B
   · have hm : A * size = A * m := by
      rcases hsz with rfl | hsz
      · simp
      · obtain ⟨r0, h0⟩ : ∃ r0, r0 ∈ rows := ⟨rows[A], List.getElem_mem (by omega)⟩
        rw [← hsz r0 h0, hw r0 h0]
     have := RepP.sl (w := w) (S := S) ((rows.take B).drop A) b (off + A * m) (cap - A) m (fun i j => ys (A + i) j) hS (by rw [hlen]; omega) (fun row hr' => hw row (hmem row hr'))
      (fun i j row v h1 h2 => by rw [Nat.add_assoc off, ← Nat.add_mul]; exact hc (A + i) j row v (hget i row h1) h2) (fun i j row v h1 h2 => hr (A + i) j row v (hget i row h1) h2)
     rw [hlen] at this
     rw [if_neg (by omega), hm]
     simpa [Addr.add_lit] using this
   · have e : B - A = 0 := by omega
     have e2 : (rows.take B).drop A = [] := List.eq_nil_of_length_eq_zero (by rw [hlen]; exact e)
     rw [e2, e]
     exact .emp _ _
 | own nm _ b off cap m ys hn hb hcap hw hc hr hf =>
  refine ⟨_, cap, rfl, hcap, ?_⟩
  have hm : A < B → A * size = A * m := by
   intro hlt
   rcases hsz with rfl | hsz
   · simp
   · obtain ⟨r0, h0⟩ : ∃ r0, r0 ∈ rows := ⟨rows[A], List.getElem_mem (by omega)⟩
     rw [← hsz r0 h0, hw r0 h0]
  have hfin : ∀ off', (A < B → off' = off + A * m) → (A = 0 → off' = off) → (A = B → off' + 0 ≤ off + rows.length * m) → Rep w S θ σ l (.sl (.own nm) ((rows.take B).drop A)) (.slice (some ⟨b, off', none⟩) (B - A) (cap - A)) := by
   intro off' ho1 ho2 ho3
   have hle : (B - A) * m + A * m ≤ rows.length * m := by rw [← Nat.add_mul]; exact Nat.mul_le_mul_right m (by omega)
   have := Rep.own (w := w) (S := S) (θ := θ) (σ := σ) (l := l) nm ((rows.take B).drop A) b off' (cap - A) m (fun i j => ys (A + i) j) hn (by
     rcases hb with hb | ⟨m', k, h1, h2, h3⟩
     · exact .inl hb
     · refine .inr ⟨m', k, h1, h2, ?_⟩
       rw [hlen]
       by_cases hlt : A < B
       · rw [ho1 hlt]; omega
       · have e : A = B := by omega
         have := ho3 e
         have e2 : B - A = 0 := by omega
         rw [e2]; omega) (by rw [hlen]; omega) (fun row hr' => hw row (hmem row hr'))
    (fun i j row v h1 h2 => by
      have hlt : A < B := by
       have := (List.getElem?_eq_some_iff.1 h1).1
       rw [hlen] at this; omega
      rw [ho1 hlt, Nat.add_assoc off, ← Nat.add_mul]; exact hc (A + i) j row v (hget i row h1) h2) (fun i j row v h1 h2 => hr (A + i) j row v (hget i row h1) h2)
    (fun k hk => by
      obtain ⟨h1, h2⟩ := hf k hk
      rw [hlen]
      refine ⟨by omega, fun e => ?_⟩
      have eA : A = 0 := by omega
      obtain ⟨h3, h4, h5⟩ := h2 (by omega)
      refine ⟨h3, by rw [ho2 eA]; exact h4, ?_⟩
      rw [eA]; exact h5)
   rw [hlen] at this
   exact this
  by_cases hcA : cap = A
  · rw [if_pos hcA]
    exact hfin off (fun h => by omega) (fun _ => rfl) (fun _ => by omega)
  · rw [if_neg hcA]
    simp only [Option.map_some, Addr.add_lit]
    refine hfin _ (fun h => by rw [hm h]) (fun h => by subst h; simp) (fun e => ?_)
    rcases hsz with rfl | hsz
    · simp
    · by_cases hrow : rows = []
      · subst hrow; simp at hB; have : A = 0 := by omega
        subst this; simp
      · obtain ⟨r0, rest, rfl⟩ := List.exists_cons_of_ne_nil hrow
        have h1 : size = m := (hsz r0 (by simp)).symm.trans (hw r0 (by simp))
        rw [h1]
        have : A * m ≤ (r0 :: rest).length * m := Nat.mul_le_mul_right m (by omega)
        omega
 | ownemp nm ad hn =>
  have e1 : B = 0 := by simpa using hB
  have e2 : A = 0 := by omega
  subst e1 e2
  exact ⟨ad, 0, rfl, Nat.le_refl _, by simpa using Rep.ownemp (w := w) (S := S) (θ := θ) (σ := σ) (l := l) nm ad hn⟩
theorem opt_rep (he : EnvRep w S θ σ l ρ a.tmps) {x : Option Operand} {y : Option Opd} (h : chkOpt x y = true) : (x = none ∧ y = none) ∨ ∃ u v, x = some u ∧ y = some v ∧ Rep w S θ σ l (ev ρ v) (a.eval u) := by
 unfold chkOpt at h
 split at h
 · exact .inl ⟨rfl, rfl⟩
 · exact .inr ⟨_, _, rfl, rfl, opd_rep he h⟩
 · cases h
theorem sop_slice {s : Bool} {size : Nat} {y : Opd} {lo hi : Option Opd} (hs : St J w S F θ σ l g) (he : EnvRep w S θ σ l ρ a.tmps) (hc : chkOp P o.op (.slice s size y lo hi) = true) (h : AWop P H ρ σ g (.slice s size y lo hi) K) : RunsTo P o a w (OpPost J w S F θ σ l K) := by
 cases ho : o.op <;> rw [ho] at hc <;> simp only [chkOp, Bool.false_eq_true] at hc
 rename_i T y' lo' hi' mx
 simp only [Bool.and_eq_true] at hc
 obtain ⟨⟨⟨⟨hc1, hc2⟩, hc3⟩, hc4⟩, hc5⟩ := hc
 have emx : mx = none := by simpa using hc4
 subst emx
 have r1 := opd_rep he hc1
 simp only [AWop] at h
 have hlo : ∀ A : Nat, (∃ k, (lo.map (ev ρ)).getD (.int .i64 0) = .int k A) → (lo'.map a.eval = none ∧ A = 0) ∨ ∃ k, lo'.map a.eval = some (.int k A) := by
  rintro A ⟨k, hk⟩
  rcases opt_rep he hc2 with ⟨rfl, rfl⟩ | ⟨u, v, rfl, rfl, hr⟩
  · simp at hk; exact .inl ⟨rfl, by omega⟩
  · simp at hk; rw [hk] at hr; exact .inr ⟨k, by simp [hr.int_inv]⟩
 have hhi : ∀ (len B : Nat), (hi.map (ev ρ) = none ∧ B = len) ∨ (∃ k, hi.map (ev ρ) = some (.int k B)) → (hi'.map a.eval = none ∧ B = len) ∨ ∃ k, hi'.map a.eval = some (.int k B) := by
  intro len B hB
  rcases opt_rep he hc3 with ⟨rfl, rfl⟩ | ⟨u, v, rfl, rfl, hr⟩
  · rcases hB with hB | ⟨k, hk⟩
    · exact .inl ⟨rfl, hB.2⟩
    · simp at hk
  · rcases hB with hB | ⟨k, hk⟩
    · simp at hB
    · simp at hk; rw [hk] at hr; exact .inr ⟨k, by simp [hr.int_inv]⟩
 cases s with
 | true =>
  simp only at hc5
  unfold tString at hc5
  split at hc5
  · rename_i hu
    have key : ∀ (str : List UInt8) (A B : Nat), ev ρ y = .str str → (∃ k, (lo.map (ev ρ)).getD (.int .i64 0) = .int k A) → ((hi.map (ev ρ) = none ∧ B = str.length) ∨ (∃ k, hi.map (ev ρ) = some (.int k B))) → A ≤ B → B ≤ str.length →
      K (.str ((str.take B).drop A)) σ g → RunsTo P o a w (OpPost J w S F θ σ l K) := by
     intro str A B hv hA hB hAB hBl hk
     rw [hv] at r1
     have e1 := r1.str_inv
     have hb := bounds_run (P := P) false str.length str.length A B _ _ (hlo A hA) (hhi str.length B hB) hAB hBl (Nat.le_refl _) w
     refine ⟨.string ((ByteArray.mk str.toArray).extract A B), w, .inl ?_, OpPost.same hs hk ?_⟩
     · simp [execOp, ho, e1, Instr.sliceAt, Instr.slice, run_underlying hu, hb, bsize]
     · have : (ByteArray.mk str.toArray).extract A B = ByteArray.mk ((str.take B).drop A).toArray := by
        apply ByteArray.ext
        simp [ByteArray.data_extract, List.extract_eq_take_drop, List.drop_take]
       rw [this]; exact .pure (.str _)
    generalize hA : (lo.map (ev ρ)).getD (.int .i64 0) = A0 at h
    generalize hB : hi.map (ev ρ) = B0 at h
    generalize hv : ev ρ y = v0 at h
    cases v0 <;> try (exact False.elim h)
    rename_i str
    cases A0 <;> try (exact False.elim h)
    rename_i k A
    cases B0 with
    | none =>
     obtain ⟨h0, h1, h2⟩ := h
     exact key str A.toNat str.length hv ⟨k, by rw [hA]; congr 1; omega⟩ (.inl ⟨hB, rfl⟩) (by omega) (Nat.le_refl _) (by rw [List.take_length]; exact h2)
    | some b0 =>
     cases b0 <;> try (exact False.elim h)
     rename_i k' B
     obtain ⟨h0, h1, h2, h3⟩ := h
     exact key str A.toNat B.toNat hv ⟨k, by rw [hA]; congr 1; omega⟩ (.inr ⟨k', by rw [hB]; congr 2; omega⟩) (by omega) (by omega) h3
  · cases hc5
 | false =>
  simp only at hc5
  unfold tSlice at hc5
  split at hc5
  · rename_i e hu
    simp only [Bool.and_eq_true] at hc5
    have hsz := sizeOf_run (P := P) hc5.1 w
    have key : ∀ (t : Tag) (rows : List V) (A B : Nat), ev ρ y = .sl t rows → (∃ k, (lo.map (ev ρ)).getD (.int .i64 0) = .int k A) → ((hi.map (ev ρ) = none ∧ B = rows.length) ∨ (∃ k, hi.map (ev ρ) = some (.int k B))) → A ≤ B → B ≤ rows.length →
      (A = 0 ∨ ∀ row ∈ rows, row.cells.length = size) → K (.sl t ((rows.take B).drop A)) σ g → RunsTo P o a w (OpPost J w S F θ σ l K) := by
     intro t rows A B hv hA hB hAB hBl hw hk
     rw [hv] at r1
     obtain ⟨ad, cap, e1, hcap, hrep⟩ := r1.sl_cut hAB hBl hw
     have hb := bounds_run (P := P) true rows.length cap A B _ _ (hlo A hA) (hhi rows.length B hB) hAB hBl hcap w
     refine ⟨_, w, .inl ?_, OpPost.same hs hk hrep⟩
     simp [execOp, ho, e1, Instr.sliceAt, Instr.slice, run_underlying hu, hb, hsz]
    have keym : ∀ (nm gen i len : Nat) (rows : List V) (A B : Nat), ev ρ y = .msl nm gen i len → σ nm = .arr gen rows → (∃ k, (lo.map (ev ρ)).getD (.int .i64 0) = .int k A) → ((hi.map (ev ρ) = none ∧ B = len) ∨ (∃ k, hi.map (ev ρ) = some (.int k B))) → A ≤ B → B ≤ len →
      Nat.beq (wd nm) size = true → K (.msl nm gen (i + A) (B - A)) σ g → RunsTo P o a w (OpPost J w S F θ σ l K) := by
     intro nm gen i len rows A B hv hσ hA hB hAB hBl hw hk
     rw [hv] at r1
     cases r1 with
     | pure h1 => cases h1
     | msl _ _ _ _ _ _ hn hg hx =>
      rcases hx rows hσ with ⟨b, m, cap, hb, hle, e1, hcap, hlen⟩ | ⟨rfl, ad, e1⟩
      · have hbd := bounds_run (P := P) true len cap A B _ _ (hlo A hA) (hhi len B hB) hAB hBl hle w
        have hm : A * size = A * m := by
         have hk := hs.hblk nm
         rw [hσ] at hk
         rcases hk with ⟨h2, _⟩ | ⟨b', m', c, e', h2, h3, h4, h5, h6⟩
         · rw [hb] at h2; cases h2
         · have eb : m' = m := by rw [hb] at h2; simp at h2; exact h2.2.symm
           rw [← eb, h5.1, ← Nat.eq_of_beq_eq_true hw]
        refine ⟨_, w, .inl (by simp [execOp, ho, e1, Instr.sliceAt, Instr.slice, run_underlying hu, hbd, hsz]; rfl), OpPost.same hs hk ?_⟩
        by_cases hcA : cap = A
        · rw [if_pos hcA]
          have eB : B = A := by omega
          refine .msl nm gen _ _ _ rfl hn hg fun rows' hr' => .inr ⟨by omega, some ⟨b, i * m, none⟩, ?_⟩
          rw [show B - A = 0 from by omega, show cap - A = 0 from by omega]
        · rw [if_neg hcA]
          refine .msl nm gen _ _ _ rfl hn hg fun rows' hr' => .inl ⟨b, m, cap - A, hb, by omega, ?_, ?_, ?_⟩
          · simp only [Addr.add_lit, hm]
            rw [Nat.add_mul]
          · rw [show i + A + (cap - A) = i + cap from by omega]; exact hcap
          · rw [hσ] at hr'
            injection hr' with _ e2
            subst e2
            omega
      · have eA : A = 0 := by omega
        have eB : B = 0 := by omega
        subst eA eB
        have hbd := bounds_run (P := P) true 0 0 0 0 _ _ (hlo 0 hA) (hhi 0 0 hB) (Nat.le_refl _) (Nat.le_refl _) (Nat.le_refl _) w
        refine ⟨_, w, .inl (by simp [execOp, ho, e1, Instr.sliceAt, Instr.slice, run_underlying hu, hbd, hsz]; rfl), OpPost.same hs hk ?_⟩
        exact .msl nm gen _ _ _ rfl hn hg fun rows' hr' => .inr ⟨rfl, ad, by simp⟩
    generalize hA : (lo.map (ev ρ)).getD (.int .i64 0) = A0 at h
    generalize hB : hi.map (ev ρ) = B0 at h
    generalize hv : ev ρ y = v0 at h
    cases v0 <;> try (exact False.elim h)
    · rename_i t rows
      cases A0 <;> try (exact False.elim h)
      rename_i k A
      cases B0 with
      | none =>
       obtain ⟨h0, h1, hw, h2⟩ := h
       exact key t rows A.toNat rows.length hv ⟨k, by rw [hA]; congr 1; omega⟩ (.inl ⟨hB, rfl⟩) (by omega) (Nat.le_refl _) (hw.imp (fun h => by omega) id) (by rw [List.take_length]; exact h2)
      | some b0 =>
       cases b0 <;> try (exact False.elim h)
       rename_i k' B
       obtain ⟨h0, h1, h2, hw, h3⟩ := h
       exact key t rows A.toNat B.toNat hv ⟨k, by rw [hA]; congr 1; omega⟩ (.inr ⟨k', by rw [hB]; congr 2; omega⟩) (by omega) (by omega) (hw.imp (fun h => by omega) id) h3
    · rename_i nm gen i len
      cases A0 <;> try (exact False.elim h)
      rename_i k A
      cases B0 with
      | none =>
       simp only at h
       split at h
       · rename_i gen' rows hσ
         obtain ⟨rfl, h0, h1, hw, h2⟩ := h
         exact keym nm gen i len rows A.toNat len hv hσ ⟨k, by rw [hA]; congr 1; omega⟩ (.inl ⟨hB, rfl⟩) (by omega) (Nat.le_refl _) hw h2
       · exact h.elim
      | some b0 =>
       cases b0 <;> try (exact False.elim h)
       rename_i k' B
       simp only at h
       split at h
       · rename_i gen' rows hσ
         obtain ⟨rfl, h0, h1, h2, hw, h3⟩ := h
         exact keym nm gen i len rows A.toNat B.toNat hv hσ ⟨k, by rw [hA]; congr 1; omega⟩ (.inr ⟨k', by rw [hB]; congr 2; omega⟩) (by omega) (by omega) hw h3
       · exact h.elim
    · rename_i b n c
      cases A0 <;> try (exact False.elim h)
      rename_i k A
      cases B0 with
      | none => exact h.elim
      | some b0 =>
       cases b0 <;> try (exact False.elim h)
       rename_i k' B
       obtain ⟨h0, h1, h2, h3⟩ := h
       subst h0
       rw [hv] at r1
       obtain ⟨e1, hle⟩ := r1.rsl_inv
       have hbd := bounds_run (P := P) true n c 0 B.toNat _ _ (hlo 0 ⟨k, by rw [hA]; rfl⟩) (hhi n B.toNat (.inr ⟨k', by rw [hB]; congr 2; omega⟩)) (Nat.zero_le _) (by omega) hle w
       refine ⟨.slice (some ⟨b, 0, none⟩) B.toNat c, w, .inl ?_, OpPost.same hs h3 (.pure (.rsl b B.toNat c (by omega)))⟩
       simp [execOp, ho, e1, Instr.sliceAt, Instr.slice, run_underlying hu, hbd, hsz, Addr.add_lit]
  · cases hc5
end
section
variable {G : Type} {J : JT G} {w w' w'' : World} {S F S' F' S'' F'' : Nat → Prop} {θ θ' θ'' : Names} {σ σ' σ'' : Store} {l : Nat} {g g' : G}
variable {P : Program} {o : Oper} {a : Act} {ρ : Env} {K : V → Store → G → Prop} {H : HT G}
theorem splice_get {α : Type} (l v : List α) (j : Nat) (h : j + v.length ≤ l.length) (k : Nat) :
  (l.take j ++ v ++ l.drop (j + v.length))[k]? = if j ≤ k ∧ k < j + v.length then v[k - j]? else l[k]? := by
 have h1 : (l.take j).length = j := by simp; omega
 by_cases c1 : k < j
 · rw [List.append_assoc, List.getElem?_append_left (by omega), if_neg (by omega), List.getElem?_take, if_pos c1]
 · rw [List.append_assoc, List.getElem?_append_right (by omega), h1]
   by_cases c2 : k < j + v.length
   · rw [List.getElem?_append_left (by omega), if_pos (by omega)]
   · rw [List.getElem?_append_right (by omega), if_neg (by omega), List.getElem?_drop]
     congr 1
     omega
theorem splice_len {α : Type} (l v : List α) (j : Nat) (h : j + v.length ≤ l.length) : (l.take j ++ v ++ l.drop (j + v.length)).length = l.length := by
 simp; omega
theorem strow_spec {size j : Nat} {row v row' : V} (h : strow size j row v = some row') :
  v.cells.length = size ∧ (∀ u ∈ v.cells, leafB u = true) ∧ j + size ≤ row.cells.length ∧ row'.cells.length = row.cells.length ∧
  (∀ k, row'.cells[k]? = if j ≤ k ∧ k < j + size then v.cells[k - j]? else row.cells[k]?) ∧ ((∃ ll, row = .agg ll) → ∃ ll, row' = .agg ll) ∧ rowB v = true := by
 unfold strow at h
 split at h
 · rename_i ll l'
   cases h1 : (Nat.beq l'.length size && l'.all leafB) with
   | false => rw [h1] at h; cases h
   | true =>
    rw [h1] at h
    simp only [Bool.and_eq_true] at h1
    have hl := Nat.eq_of_beq_eq_true h1.1
    have hleaf : ∀ u ∈ l', leafB u = true := by simpa using h1.2
    cases h2 : (Nat.beq j 0 && Nat.beq size ll.length) with
    | true =>
     rw [h2] at h
     simp only [cond_true, Option.some.injEq] at h
     subst h
     simp only [Bool.and_eq_true] at h2
     have e1 := Nat.eq_of_beq_eq_true h2.1
     have e2 := Nat.eq_of_beq_eq_true h2.2
     subst e1
     refine ⟨hl, hleaf, by simp [V.cells]; omega, by simp [V.cells]; omega, fun k => ?_, fun _ => ⟨_, rfl⟩, rfl⟩
     simp only [V.cells]
     split
     · simp
     · rename_i hk
       rw [List.getElem?_eq_none (by omega), List.getElem?_eq_none (by omega)]
    | false =>
     rw [h2] at h
     simp only [cond_true, cond_false] at h
     cases h3 : Nat.ble (j + size) ll.length with
     | false => rw [h3] at h; cases h
     | true =>
      rw [h3] at h
      simp only [cond_true, Option.some.injEq] at h
      subst h
      have hle := Nat.le_of_ble_eq_true h3
      subst hl
      exact ⟨rfl, hleaf, hle, splice_len ll l' j hle, fun k => splice_get ll l' j hle k, fun _ => ⟨_, rfl⟩, rfl⟩
 · rename_i ll hv
   cases h1 : (Nat.beq size 1 && leafB v && Nat.ble (j + 1) ll.length) with
   | false => rw [h1] at h; cases h
   | true =>
    rw [h1] at h
    simp only [cond_true, Option.some.injEq] at h
    subst h
    simp only [Bool.and_eq_true] at h1
    obtain ⟨⟨h1, h2⟩, h3⟩ := h1
    have e1 := Nat.eq_of_beq_eq_true h1
    subst e1
    have hle := Nat.le_of_ble_eq_true h3
    have hcv := cells_one (leaf_notagg h2) (leaf_notag h2)
    refine ⟨by rw [hcv]; rfl, fun u hu => ?_, hle, by simp [V.cells], fun k => ?_, fun _ => ⟨_, rfl⟩, by cases v <;> first | rfl | exact h2⟩
    · rw [hcv] at hu; simp at hu; rw [hu]; exact h2
    · rw [hcv]
      simp only [V.cells]
      rw [List.getElem?_set]
      by_cases hk : j = k
      · subst hk; simp; omega
      · rw [if_neg hk, if_neg (by omega)]
 · cases h
 · cases h
 · cases h
 · rename_i hr1 hr2 hr3 hv
   cases h1 : (Nat.beq size 1 && Nat.beq j 0 && leafB v) with
   | false => rw [h1] at h; cases h
   | true =>
    rw [h1] at h
    simp only [cond_true, Option.some.injEq] at h
    subst h
    simp only [Bool.and_eq_true] at h1
    obtain ⟨⟨h1, h2⟩, h3⟩ := h1
    have e1 := Nat.eq_of_beq_eq_true h1
    have e2 := Nat.eq_of_beq_eq_true h2
    subst e1 e2
    have hcv := cells_one (leaf_notagg h3) (leaf_notag h3)
    have hrow : ∀ ll, row ≠ .agg ll := by intro ll e; first | exact hr2 ll e | exact hr1 ll e | (subst e; simp_all)
    have hrow2 : ∀ b ll, row ≠ .tag b ll := by intro b ll e; first | exact hr3 b ll e | exact hr2 b ll e | exact hr1 b ll e | (subst e; simp_all)
    have hcr := cells_one hrow hrow2
    refine ⟨by rw [hcv]; rfl, fun u hu => ?_, by rw [hcr]; simp, by rw [hcv, hcr]; rfl, fun k => ?_, fun ⟨ll, e⟩ => absurd e (hrow ll), by cases v <;> first | rfl | exact h3⟩
    · rw [hcv] at hu; simp at hu; rw [hu]; exact h3
    · rw [hcv, hcr]
      split
      · simp
      · rw [List.getElem?_eq_none (by simp; omega), List.getElem?_eq_none (by simp; omega)]
theorem strow_notag {size j : Nat} {row v row' : V} (h : strow size j row v = some row') : ∀ b ll, row' ≠ .tag b ll := by
 intro b ll e
 subst e
 unfold strow at h
 split at h
 · cases h1 : (Nat.beq _ size && List.all _ leafB) with
   | false => rw [h1] at h; cases h
   | true =>
    rw [h1] at h
    simp only [cond_true] at h
    cases h2 : (Nat.beq j 0 && Nat.beq size _) with
    | true => rw [h2] at h; cases h
    | false =>
     rw [h2] at h
     simp only [cond_false] at h
     cases h3 : Nat.ble (j + size) _ with
     | false => rw [h3] at h; cases h
     | true => rw [h3] at h; cases h
 · cases h1 : (Nat.beq size 1 && leafB _ && Nat.ble (j + 1) _) with
   | false => rw [h1] at h; cases h
   | true => rw [h1] at h; cases h
 · cases h
 · cases h
 · cases h
 · cases h1 : (Nat.beq size 1 && Nat.beq j 0 && leafB v) with
   | false => rw [h1] at h; cases h
   | true =>
    rw [h1] at h
    simp only [cond_true, Option.some.injEq] at h
    subst h
    simp [leafB] at h1
theorem store_run {T size : Nat} (h1 : tSize P T size = true) {x : Value} {xs : List Value} (hx : x.cells = xs.toArray) (hl : xs.length = size) (ho : ∀ y ∈ xs, y.oneCell' = true) {b q : Nat} {c : Array Value} {e : TypeId}
  (hb : w.heap[b]? = some (.cells c e (0, 0))) (hq : q + xs.length ≤ c.size) :
  (Instr.storeAt T (.pointer (some ⟨b, q, none⟩)) x).run P w = .ok () (w.setRow b (c.toList.take q ++ xs ++ c.toList.drop (q + xs.length)).toArray) := by
 have hst := run_storeCells_at P b q e xs 0 c w hb (by simpa using hq) ho
 simp only [Nat.add_zero] at hst
 have hsz := sizeOf_run h1 w
 simp [Instr.storeAt, Instr.sureAddr, storeVar, hsz, hx, hl, hst]
theorem sop_store {size : Nat} {y z : Opd} (hst : Stable J) (hs : St J w S F θ σ l g) (he : EnvRep w S θ σ l ρ a.tmps) (hc : chkOp P o.op (.store size y z) = true) (h : AWop P H ρ σ g (.store size y z) K) : RunsTo P o a w (OpPost J w S F θ σ l K) := by
 cases ho : o.op <;> rw [ho] at hc <;> simp only [chkOp, Bool.false_eq_true] at hc
 rename_i T y' z'
 simp only [Bool.and_eq_true] at hc
 obtain ⟨⟨hc1, hc2⟩, hc3⟩ := hc
 have r1 := opd_rep he hc1
 have r2 := opd_rep he hc2
 simp only [AWop] at h
 have fin : ∀ {nm b' j : Nat} {row row' : V} {c : Array Value} {e' : TypeId}, σ nm = .box row → a.eval y' = .pointer (some ⟨b', j, none⟩) → θ nm = some (b', row.cells.length) → w.heap[b']? = some (.cells c e' (0, 0)) → c.size = row.cells.length → tyOk nm e' → tagOk b' row' →
   (∀ (j : Nat) (v : V), row.cells[j]? = some v → ∃ y, c[j]? = some y ∧ Rep w S θ σ l v y) → (ev ρ z).cells.length = size → (∀ u ∈ (ev ρ z).cells, leafB u = true) → j + size ≤ row.cells.length → row'.cells.length = row.cells.length →
   (∀ k, row'.cells[k]? = if j ≤ k ∧ k < j + size then (ev ρ z).cells[k - j]? else row.cells[k]?) → rowB (ev ρ z) = true → K (.tup []) (ups σ nm (.box row')) g → RunsTo P o a w (OpPost J w S F θ σ l K) := by
  intro nm b' j row row' c e' hσ e h2 h3 h4 h4t h4g h5 s1 s2 s3 s4 s5 s7 h
  obtain ⟨xs, hx, hl, hr⟩ := cells_rep s7 r2
  have hq : j + xs.length ≤ c.toList.length := by simp; omega
  have hone : ∀ y ∈ xs, y.oneCell' = true := by
   intro y hy
   obtain ⟨i, hi, rfl⟩ := List.mem_iff_getElem.1 hy
   have hiv : i < (ev ρ z).cells.length := by omega
   exact leaf_one (s2 _ (List.getElem_mem hiv)) (hr i _ _ (List.getElem?_eq_getElem hiv) (List.getElem?_eq_getElem hi))
  have hrun := store_run (w := w) hc3 hx (by omega) hone h3 (by simpa using hq)
  obtain ⟨c', hc'⟩ : ∃ c' : Array Value, c' = (c.toList.take j ++ xs ++ c.toList.drop (j + xs.length)).toArray := ⟨_, rfl⟩
  have hcs : c'.size = c.size := by rw [hc']; have := splice_len c.toList xs j hq; simpa using this
  rw [← hc'] at hrun
  have hfr := Fr.write hs nm b' row.cells.length c c' e' (.box row') (live_box hσ) h2 h3 hcs (by rw [hσ]; exact ⟨row', rfl⟩)
  refine ⟨undef, w.setRow b' c', .inr ⟨?_, rfl⟩, _, _, g, S, F, θ, h, St.write hst hs nm b' row.cells.length c' _ (live_box hσ) h2 hfr ?_, hfr, .pure (.tup [] [] rfl (by intro i v x h; simp at h))⟩
  · simp [execOp, ho, e, hrun]
  · refine ⟨b', c', e', by rw [s4]; exact h2, setRow_heap w b' c c' _ _ h3, ⟨by rw [hcs, h4, s4], h4t, h4g⟩, fun k u hu => ?_⟩
    rw [s5] at hu
    have hget : c'[k]? = if j ≤ k ∧ k < j + xs.length then xs[k - j]? else c.toList[k]? := by
     rw [hc', List.getElem?_toArray]; exact splice_get c.toList xs j hq k
    rw [hget]
    split at hu
    · rename_i hk
      have hlt := (List.getElem?_eq_some_iff.1 hu).1
      have hy : xs[k - j]? = some xs[k - j] := List.getElem?_eq_getElem (by omega)
      rw [if_pos (by omega)]
      exact ⟨_, hy, (hr (k - j) u _ hu hy).fr hfr hs⟩
    · rename_i hk
      obtain ⟨y, hy, hry⟩ := h5 k u hu
      rw [if_neg (by omega)]
      exact ⟨y, by simpa using hy, hry.fr hfr hs⟩
 split at h
 · rename_i nm j hv
   rw [hv] at r1
   split at h
   · rename_i row hσ
     split at h
     · rename_i row' hstr
       obtain ⟨s1, s2, s3, s4, s5, s6, s7⟩ := strow_spec hstr
       cases r1 with
       | pure h1 => cases h1
       | bptr _ _ _ _ hn h1 =>
        obtain ⟨b, m, hb, e⟩ := h1 row hσ
        have hk := hs.hblk nm
        rw [hσ] at hk
        obtain ⟨b', c, e', h2, h3, ⟨h4, h4t, _⟩, h5⟩ := hk
        have eb : b' = b := by rw [hb] at h2; simp at h2; exact h2.1.symm
        subst eb
        exact fin hσ e h2 h3 h4 h4t (tag_of (strow_notag hstr)) h5 s1 s2 s3 s4 s5 s7 h
     · exact h.elim
   · exact h.elim
 · rename_i nm gen i j hv
   rw [hv] at r1
   split at h
   · rename_i gen' rows hσ
     obtain ⟨rfl, hpure, row, hrow, h⟩ := h
     split at h
     · rename_i row' hstr
       obtain ⟨s1, s2, s3, s4, s5, s6, s7⟩ := strow_spec hstr
       obtain ⟨xs, hx, hl, hr⟩ := cells_rep s7 (Rep.pure (θ := θ) (σ := σ) (l := l) (r2.toP hpure))
       have hrP : ∀ (i : Nat) (u : V) (y : Value), (ev ρ z).cells[i]? = some u → xs[i]? = some y → RepP w S u y := by
        intro i u y h1 h2
        refine (hr i u y h1 h2).toP ?_
        have hm := mem_of_get h1
        cases hz : ev ρ z with
        | agg ll => rw [hz] at hm hpure; exact (pureL_iff ll).1 (by simpa [pureB] using hpure) u hm
        | tag b ll => rw [hz] at hpure; simp [pureB] at hpure
        | _ => rw [hz] at hm hpure; simp only [V.cells, List.mem_singleton] at hm; rw [hm]; exact hpure
       cases r1 with
       | pure h1 => cases h1
       | ptr _ _ _ _ _ _ hn hg h1 =>
        obtain ⟨b, m, hb, e⟩ := h1 rows hσ
        have hk := hs.hblk nm
        rw [hσ] at hk
        rcases hk with ⟨h2, _⟩ | ⟨b', m', c, e', h2, h3, h4, h5, h6⟩
        · rw [hb] at h2; cases h2
        · have eb : b' = b ∧ m' = m := by rw [hb] at h2; simp at h2; exact ⟨h2.1.symm, h2.2.symm⟩
          obtain ⟨rfl, rfl⟩ := eb
          have hilt := (List.getElem?_eq_some_iff.1 hrow).1
          have hm := h4 row (List.mem_of_getElem? hrow)
          have himul : i * m' + m' ≤ rows.length * m' := by rw [← Nat.succ_mul]; exact Nat.mul_le_mul_right m' hilt
          have hq : i * m' + j + xs.length ≤ c.toList.length := by simp; omega
          have hone : ∀ y ∈ xs, y.oneCell' = true := by
           intro y hy
           obtain ⟨i, hi, rfl⟩ := List.mem_iff_getElem.1 hy
           have hiv : i < (ev ρ z).cells.length := by omega
           exact leaf_one (s2 _ (List.getElem_mem hiv)) (hr i _ _ (List.getElem?_eq_getElem hiv) (List.getElem?_eq_getElem hi))
          have hrun := store_run (w := w) hc3 hx (by omega) hone h3 (by simpa using hq)
          obtain ⟨c', hc'⟩ : ∃ c' : Array Value, c' = (c.toList.take (i * m' + j) ++ xs ++ c.toList.drop (i * m' + j + xs.length)).toArray := ⟨_, rfl⟩
          have hcs : c'.size = c.size := by rw [hc']; have := splice_len c.toList xs (i * m' + j) hq; simpa using this
          rw [← hc'] at hrun
          have hfr := Fr.write hs nm b' m' c c' e' (.arr gen (rows.set i row')) (live_arr hσ) h2 h3 hcs (by rw [hσ]; exact ⟨_, .inl ⟨rfl, by simp⟩⟩)
          refine ⟨undef, w.setRow b' c', .inr ⟨?_, rfl⟩, _, _, g, S, F, θ, h, St.write hst hs nm b' m' c' _ (live_arr hσ) h2 hfr ?_, hfr, .pure (.tup [] [] rfl (by intro i v x h; simp at h))⟩
          · simp [execOp, ho, e, hrun]
          · refine .inr ⟨b', m', c', e', h2, setRow_heap w b' c c' _ _ h3, fun r hr' => ?_, ⟨h5.1, by rw [hcs]; simpa using h5.2⟩, fun i' j' r u hr' hu => ?_⟩
            · rcases List.mem_or_eq_of_mem_set hr' with hr' | rfl
              · exact h4 r hr'
              · rw [s4, hm]
            · have hget : ∀ q, c'[q]? = if i * m' + j ≤ q ∧ q < i * m' + j + xs.length then xs[q - (i * m' + j)]? else c.toList[q]? := by
               intro q; rw [hc', List.getElem?_toArray]; exact splice_get c.toList xs (i * m' + j) hq q
              rw [hget]
              rw [List.getElem?_set] at hr'
              by_cases hii : i = i'
              · subst hii
                rw [if_pos rfl, if_pos hilt] at hr'
                injection hr' with hr'
                subst hr'
                rw [s5] at hu
                split at hu
                · rename_i hk
                  have hlt := (List.getElem?_eq_some_iff.1 hu).1
                  rw [if_pos (by omega), show i * m' + j' - (i * m' + j) = j' - j from by omega]
                  have hy : xs[j' - j]? = some xs[j' - j] := List.getElem?_eq_getElem (by omega)
                  exact ⟨_, hy, (hrP (j' - j) u _ hu hy).mono (hfr.stable hs) hfr.smono⟩
                · rename_i hk
                  rw [if_neg (by omega)]
                  obtain ⟨y, hy, hry⟩ := h6 i j' row u hrow hu
                  exact ⟨y, by simpa using hy, hry.mono (hfr.stable hs) hfr.smono⟩
              · rw [if_neg hii] at hr'
                obtain ⟨y, hy, hry⟩ := h6 i' j' r u hr' hu
                have hj' : j' < m' := by
                 have := (List.getElem?_eq_some_iff.1 hu).1
                 rw [h4 r (List.mem_of_getElem? hr')] at this; exact this
                have hne : ¬ (i * m' + j ≤ i' * m' + j' ∧ i' * m' + j' < i * m' + j + xs.length) := by
                 rcases Nat.lt_or_gt_of_ne hii with hlt | hlt
                 · have : i * m' + m' ≤ i' * m' := by rw [← Nat.succ_mul]; exact Nat.mul_le_mul_right m' hlt
                   omega
                 · have : i' * m' + m' ≤ i * m' := by rw [← Nat.succ_mul]; exact Nat.mul_le_mul_right m' hlt
                   omega
                rw [if_neg hne]
                exact ⟨y, by simpa using hy, hry.mono (hfr.stable hs) hfr.smono⟩
     · exact h.elim
   · exact h.elim
 · rename_i b j hv
   rw [hv] at r1
   obtain ⟨nm, ll, ll', hσ, hstr, h⟩ := h
   obtain ⟨s1, s2, s3, s4, s5, s6, s7⟩ := strow_spec hstr
   have hk := hs.hblk nm
   rw [hσ] at hk
   obtain ⟨b', c, e', h2, h3, ⟨h4, h4t, h4g⟩, h5⟩ := hk
   have eb : b = b' := h4g
   subst eb
   exact fin (row' := .tag b ll') hσ r1.raw_inv h2 h3 h4 h4t rfl h5 s1 s2 s3 s4 s5 s7 h
 · exact h.elim
end
section
variable {G : Type} {J : JT G} {w w' w'' : World} {S F S' F' S'' F'' : Nat → Prop} {θ θ' θ'' : Names} {σ σ' σ'' : Store} {l : Nat} {g g' : G}
variable {P : Program} {o : Oper} {a : Act} {ρ : Env} {K : V → Store → G → Prop} {H : HT G}
theorem foldl_set (vs : List Value) : ∀ (n : Nat) (cs : Array Value) (off : Nat), off + n + vs.length ≤ cs.size →
  ((vs.zipIdx n).foldl (fun cs (p : Value × Nat) => cs.setIfInBounds (off + p.2) p.1) cs).size = cs.size ∧
  ∀ k, ((vs.zipIdx n).foldl (fun cs (p : Value × Nat) => cs.setIfInBounds (off + p.2) p.1) cs)[k]? = if off + n ≤ k ∧ k < off + n + vs.length then vs[k - (off + n)]? else cs[k]? := by
 induction vs with
 | nil => intro n cs off h; refine ⟨rfl, fun k => ?_⟩; simp; omega
 | cons v vs ih =>
  intro n cs off h
  simp only [List.length_cons] at h
  obtain ⟨h1, h2⟩ := ih (n + 1) (cs.setIfInBounds (off + n) v) off (by simp; omega)
  simp only [List.zipIdx_cons, List.foldl_cons]
  refine ⟨by rw [h1]; simp, fun k => ?_⟩
  rw [h2 k]
  by_cases c1 : off + (n + 1) ≤ k ∧ k < off + (n + 1) + vs.length
  · rw [if_pos c1, if_pos (by simp only [List.length_cons]; omega)]
    rw [show k - (off + n) = (k - (off + (n + 1))) + 1 from by omega]
    simp
  · rw [if_neg c1, Array.getElem?_setIfInBounds]
    by_cases c2 : off + n = k
    · rw [if_pos c2, if_pos (by omega), if_pos (by simp only [List.length_cons]; omega)]
      subst c2; simp
    · rw [if_neg c2, if_neg (by simp only [List.length_cons]; omega)]
theorem fill_rep (he : EnvRep w S θ σ l ρ a.tmps) (place : Nat → Option (Nat × Nat)) : ∀ (ps : List (Nat × Operand)) (ps' : List (Nat × Nat × Opd)) (ll ll' : List V) (cs : Array Value),
  chkParts P place ps ps' = true → partsOf ρ ll ps' = some ll' → ll.length = cs.size → (∀ (i : Nat) (v : V) (x : Value), ll[i]? = some v → cs[i]? = some x → Rep w S θ σ l v x) →
  ∃ cs', Instr.fill place cs (ps.map fun p => (p.1, a.eval p.2)) = some cs' ∧ ll'.length = cs'.size ∧ ∀ (i : Nat) (v : V) (x : Value), ll'[i]? = some v → cs'[i]? = some x → Rep w S θ σ l v x
 | [], [], ll, ll', cs, _, hp, hl, hr => by
  simp only [partsOf, Option.some.injEq] at hp
  subst hp
  exact ⟨cs, rfl, hl, hr⟩
 | [], _ :: _, ll, ll', cs, hc, _, _, _ => by simp [chkParts] at hc
 | _ :: _, [], ll, ll', cs, hc, _, _, _ => by simp [chkParts] at hc
 | (i, x) :: ps, (off, size, y) :: ps', ll, ll', cs, hc, hp, hl, hr => by
   simp only [chkParts, Bool.and_eq_true] at hc
   obtain ⟨⟨h1, h2⟩, h3⟩ := hc
   simp only [partsOf] at hp
   split at h1
   · rename_i o' s' hpl
     simp only [Bool.and_eq_true] at h1
     have e1 := Nat.eq_of_beq_eq_true h1.1
     have e2 := Nat.eq_of_beq_eq_true h1.2
     subst e1 e2
     split at hp
     · rename_i l1 hst
       obtain ⟨s1, s2, s3, s4, s5, s6, s7⟩ := strow_spec hst
       have r := opd_rep he h2
       obtain ⟨xs, hx, hxl, hxr⟩ := cells_rep s7 r
       simp only [V.cells] at s3 s4 s5
       obtain ⟨f1, f2⟩ := foldl_set xs 0 cs o' (by omega)
       obtain ⟨cs', hf, hf2, hf3⟩ := fill_rep he place ps ps' l1 ll' ((xs.zipIdx 0).foldl (fun cs (p : Value × Nat) => cs.setIfInBounds (o' + p.2) p.1) cs) h3 hp (by rw [f1, s4, hl]) (fun k v u hv hu => by
        rw [s5] at hv
        rw [f2] at hu
        split at hv
        · rename_i hk
          rw [if_pos (by omega)] at hu
          exact hxr (k - o') v u hv (by simpa using hu)
        · rename_i hk
          rw [if_neg (by omega)] at hu
          exact hr k v u hv hu)
       refine ⟨cs', ?_, hf2, hf3⟩
       simp only [List.map_cons, Instr.fill, hpl, hx]
       rw [if_neg (by simp; omega)]
       have ez : xs.toArray.zipIdx.foldl (fun cs (p : Value × Nat) => cs.setIfInBounds (o' + p.2) p.1) cs = (xs.zipIdx 0).foldl (fun cs (p : Value × Nat) => cs.setIfInBounds (o' + p.2) p.1) cs := by
        rw [← Array.foldl_toList]; simp
       rw [ez]
       exact hf
     · cases hp
   · cases h1
theorem place_struct (fs : Array Field) (hall : fs.toList.all (fun f => (P.info? f.type).isSome) = true) :
  ∃ places : List (Nat × Nat), fs.toList.mapM (fun f => (P.info? f.type).map fun i => (f.offset, i.size)) = some places ∧ ∀ i, places.toArray[i]? = structPlace P fs i := by
 have key : ∀ (l : List Field), l.all (fun f => (P.info? f.type).isSome) = true → ∃ places : List (Nat × Nat), l.mapM (fun f => (P.info? f.type).map fun i => (f.offset, i.size)) = some places ∧
   ∀ i : Nat, places[i]? = (match l[i]? with | some f => (P.info? f.type).map fun t => (f.offset, t.size) | none => none) := by
  intro l
  induction l with
  | nil => intro _; exact ⟨[], rfl, fun i => by simp⟩
  | cons f l ih =>
   intro h
   simp only [List.all_cons, Bool.and_eq_true] at h
   obtain ⟨places, h1, h2⟩ := ih h.2
   obtain ⟨t, ht⟩ := Option.isSome_iff_exists.1 h.1
   refine ⟨(f.offset, t.size) :: places, by simp [ht, h1], fun i => ?_⟩
   cases i with
   | zero => simp [ht]
   | succ i => simpa using h2 i
 obtain ⟨places, h1, h2⟩ := key fs.toList hall
 refine ⟨places, h1, fun i => ?_⟩
 have := h2 i
 have e : fs.toList[i]? = fs[i]? := by simp
 rw [e] at this
 unfold structPlace
 cases hf : fs[i]? <;> rw [hf] at this <;> simpa using this
theorem sop_build {z : List V} {parts : List (Nat × Nat × Opd)} (hs : St J w S F θ σ l g) (he : EnvRep w S θ σ l ρ a.tmps) (hc : chkOp P o.op (.build z parts) = true) (h : AWop P H ρ σ g (.build z parts) K) : RunsTo P o a w (OpPost J w S F θ σ l K) := by
 cases ho : o.op <;> rw [ho] at hc <;> simp only [chkOp, Bool.false_eq_true] at hc
 rename_i T ps
 simp only [Bool.and_eq_true] at hc
 obtain ⟨hc1, hc2⟩ := hc
 simp only [AWop] at h
 split at h
 · rename_i ll hpo
   split at hc1
   · rename_i i hi
     split at hc1
     · rename_i x hz
       obtain ⟨z1, z2⟩ := constLeaves_rep w S hc1
       have hzr : ∀ (i : Nat) (v : V) (y : Value), z[i]? = some v → x.cells[i]? = some y → Rep w S θ σ l v y := fun i v y h1 h2 => .pure (z2 i v y h1 (by simpa using h2))
       have hzl : z.length = x.cells.size := by simpa using z1
       have hmap : (ps.map fun (p : Nat × Operand) => (p.1, a.eval p.2)).toList = ps.toList.map fun p => (p.1, a.eval p.2) := by simp
       split at hc2
       · rename_i fs hu
         simp only [Bool.and_eq_true] at hc2
         obtain ⟨places, hp1, hp2⟩ := place_struct fs hc2.1
         obtain ⟨cs', f1, f2, f3⟩ := fill_rep he (structPlace P fs) ps.toList parts z ll x.cells hc2.2 hpo hzl hzr
         have hb : P.built T (ps.map fun (p : Nat × Operand) => (p.1, a.eval p.2)).toList = some cs' := by
          unfold Program.built
          rw [hi, hu]
          simp only [hz, hp1, hmap]
          rw [← f1]
          congr 1
          funext i
          exact hp2 i
         have hrun := run_build (P := P) w T _ cs' hb
         refine ⟨.agg cs', w, .inl ?_, OpPost.same hs h ?_⟩
         · simp [execOp, ho, hrun]
         · have := Rep.agg (w := w) (S := S) (θ := θ) (σ := σ) (l := l) ll cs'.toList (by simpa using f2) (fun i v x h1 h2 => f3 i v x h1 (by simpa using h2))
           simpa using this
       · rename_i n e hu
         split at hc2
         · rename_i ie hie
           obtain ⟨cs', f1, f2, f3⟩ := fill_rep he (fun k => some (k * ie.size, ie.size)) ps.toList parts z ll x.cells hc2 hpo hzl hzr
           have hb : P.built T (ps.map fun (p : Nat × Operand) => (p.1, a.eval p.2)).toList = some cs' := by
            unfold Program.built
            rw [hi, hu]
            simp only [hz, hie, hmap]
            exact f1
           have hrun := run_build (P := P) w T _ cs' hb
           refine ⟨.agg cs', w, .inl ?_, OpPost.same hs h ?_⟩
           · simp [execOp, ho, hrun]
           · have := Rep.agg (w := w) (S := S) (θ := θ) (σ := σ) (l := l) ll cs'.toList (by simpa using f2) (fun i v x h1 h2 => f3 i v x h1 (by simpa using h2))
             simpa using this
         · cases hc2
       · cases hc2
     · cases hc1
   · cases hc1
 · exact h.elim
theorem flat_rows (R : V → Value → Prop) (size : Nat) : ∀ (vs : List V) (xs : List Value), vs.length = xs.length → (∀ v ∈ vs, rowB v = true ∧ v.cells.length = size) →
  (∀ (i : Nat) (v : V) (x : Value), vs[i]? = some v → xs[i]? = some x → ∃ cs : List Value, x.cells = cs.toArray ∧ cs.length = v.cells.length ∧ ∀ (j : Nat) (u : V) (y : Value), v.cells[j]? = some u → cs[j]? = some y → R u y) →
  ∃ cs : List Value, (xs.map fun x => x.cells.toList).flatten = cs ∧ cs.length = vs.length * size ∧ ∀ (i j : Nat) (v u : V), vs[i]? = some v → v.cells[j]? = some u → ∃ y, cs[i * size + j]? = some y ∧ R u y
 | [], [], _, _, _ => ⟨[], rfl, by simp, fun i j v u h => by simp at h⟩
 | v :: vs, x :: xs, hl, hw, hr => by
  obtain ⟨cs, h1, h2, h3⟩ := flat_rows R size vs xs (by simpa using hl) (fun u hu => hw u (by simp [hu])) (fun i u y h1 h2 => hr (i + 1) u y (by simpa using h1) (by simpa using h2))
  obtain ⟨c0, k1, k2, k3⟩ := hr 0 v x rfl rfl
  have hv := (hw v (by simp)).2
  refine ⟨c0 ++ cs, by simp [k1, h1], by simp [h2, k2, hv, Nat.succ_mul]; omega, fun i j v' u h4 h5 => ?_⟩
  cases i with
  | zero =>
   simp at h4
   subst h4
   have hlt := (List.getElem?_eq_some_iff.1 h5).1
   have hy : c0[j]? = some c0[j] := List.getElem?_eq_getElem (by omega)
   exact ⟨_, by rw [Nat.zero_mul, Nat.zero_add, List.getElem?_append_left (by omega)]; exact hy, k3 j u _ h5 hy⟩
  | succ i =>
   obtain ⟨y, hy, hru⟩ := h3 i j v' u (by simpa using h4) h5
   refine ⟨y, ?_, hru⟩
   rw [List.getElem?_append_right (by rw [Nat.succ_mul]; omega)]
   rw [show (i + 1) * size + j - c0.length = i * size + j from by rw [Nat.succ_mul]; omega]
   exact hy
 | [], _ :: _, hl, _, _ => by simp at hl
 | _ :: _, [], hl, _, _ => by simp at hl
theorem enum_parts (he : EnvRep w S θ σ l ρ a.tmps) : ∀ (n : Nat) (ps : List (Nat × Operand)) (ys : List Opd), chkEnum n ps ys = true →
  ps.map (fun p => (p.1, a.eval p.2)) = ((ps.map fun p => a.eval p.2).zipIdx n).map (fun p => (p.2, p.1)) ∧ Reps (Rep w S θ σ l) (ys.map (ev ρ)) (ps.map fun p => a.eval p.2)
 | n, [], [], _ => ⟨rfl, rfl, fun i v x h => by simp at h⟩
 | n, (i, x) :: ps, y :: ys, h => by
  simp only [chkEnum, Bool.and_eq_true] at h
  obtain ⟨⟨h1, h2⟩, h3⟩ := h
  have e := Nat.eq_of_beq_eq_true h1
  subst e
  obtain ⟨k1, k2, k3⟩ := enum_parts he (i + 1) ps ys h3
  refine ⟨by simp [k1], by simpa using k2, fun j v u h4 h5 => ?_⟩
  cases j with
  | zero => simp at h4 h5; subst h4 h5; exact opd_rep he h2
  | succ j => exact k3 j v u (by simpa using h4) (by simpa using h5)
 | n, [], _ :: _, h => by simp [chkEnum] at h
 | n, _ :: _, [], h => by simp [chkEnum] at h
theorem fill_enum (size : Nat) : ∀ (xs : List Value) (n : Nat) (cs : Array Value), (∀ x ∈ xs, x.cells.size = size) → (n + xs.length) * size ≤ cs.size →
  Instr.fill (fun i => some (i * size, size)) cs ((xs.zipIdx n).map fun p => (p.2, p.1)) = some (cs.toList.take (n * size) ++ (xs.map fun x => x.cells.toList).flatten ++ cs.toList.drop ((n + xs.length) * size)).toArray
 | [], n, cs, _, _ => by simp [Instr.fill]
 | x :: xs, n, cs, hx, hn => by
  simp only [List.length_cons] at hn
  have hxs := hx x (by simp)
  have hle : n * size + size ≤ cs.size := by
   have : (n + 1) * size ≤ (n + (xs.length + 1)) * size := Nat.mul_le_mul_right _ (by omega)
   rw [Nat.succ_mul] at this; omega
  obtain ⟨f1, f2⟩ := foldl_set x.cells.toList 0 cs (n * size) (by simp; omega)
  simp only [List.zipIdx_cons, List.map_cons, Instr.fill]
  rw [if_neg (by simp [hxs]; omega)]
  have ez : x.cells.zipIdx.foldl (fun cs (p : Value × Nat) => cs.setIfInBounds (n * size + p.2) p.1) cs = (x.cells.toList.zipIdx 0).foldl (fun cs (p : Value × Nat) => cs.setIfInBounds (n * size + p.2) p.1) cs := by
   rw [← Array.foldl_toList]; simp
  rw [ez]
  obtain ⟨cs1, hcs1⟩ : ∃ cs1, cs1 = (x.cells.toList.zipIdx 0).foldl (fun cs (p : Value × Nat) => cs.setIfInBounds (n * size + p.2) p.1) cs := ⟨_, rfl⟩
  rw [← hcs1] at f1 f2 ⊢
  have ih := fill_enum size xs (n + 1) cs1 (fun y hy => hx y (by simp [hy])) (by rw [f1]; rw [show n + 1 + xs.length = n + (xs.length + 1) from by omega]; exact hn)
  rw [ih]
  congr 2
  have hlx : x.cells.toList.length = size := by simpa using hxs
  simp only [Nat.add_zero] at f2
  have e1 : cs1.toList.take ((n + 1) * size) = cs.toList.take (n * size) ++ x.cells.toList := by
   apply List.ext_getElem?
   intro k
   rw [List.getElem?_take, Nat.succ_mul]
   by_cases c1 : k < n * size
   · rw [if_pos (by omega), List.getElem?_append_left (by simp; omega), List.getElem?_take, if_pos c1]
     have := f2 k
     rw [if_neg (by omega)] at this
     simpa using this
   · have hl1 : (cs.toList.take (n * size)).length = n * size := by simp; omega
     rw [List.getElem?_append_right (by omega), hl1]
     split
     · have := f2 k
       rw [if_pos (by omega)] at this
       simpa using this
     · rw [List.getElem?_eq_none (by omega)]
  have e2 : cs1.toList.drop ((n + 1 + xs.length) * size) = cs.toList.drop ((n + (xs.length + 1)) * size) := by
   apply List.ext_getElem?
   intro k
   rw [List.getElem?_drop, List.getElem?_drop, show n + 1 + xs.length = n + (xs.length + 1) from by omega]
   have hge : n * size + size ≤ (n + (xs.length + 1)) * size := by
    have : (n + 1) * size ≤ (n + (xs.length + 1)) * size := Nat.mul_le_mul_right _ (by omega)
    rw [Nat.succ_mul] at this; omega
   have := f2 ((n + (xs.length + 1)) * size + k)
   rw [if_neg (by omega)] at this
   simpa using this
  simp [e1, e2]
theorem bsl_facts {T len size : Nat} {ps : Array (Nat × Operand)} {xs : List Opd} (he : EnvRep w S θ σ l ρ a.tmps)
  (hc : ((match P.underlying T with
    | some (.slice e) => (match P.info? e with
      | some i => Nat.beq i.size size && !Nat.beq size 0 && (match i.zero with
        | some z => Nat.beq z.cells.size size
        | none => false)
      | none => false)
    | _ => false) && Nat.beq len xs.length && Nat.ble (len * size) 16777216 && chkEnum 0 ps.toList xs) = true)
  (hp : (xs.map (ev ρ)).all (fun v => pureB v && rowB v && Nat.beq v.cells.length size) = true) (w0 : World) :
  ∃ (cs : List Value) (e : TypeId), (Instr.buildSlice T len (ps.map fun p => (p.1, a.eval p.2))).run P w0 = .ok (.slice (some ⟨w0.heap.size, 0, none⟩) xs.length xs.length) (w0.alloc (.cells cs.toArray e)) ∧
    cs.length = xs.length * size ∧ (∀ row ∈ xs.map (ev ρ), row.cells.length = size) ∧ ∀ (i j : Nat) (v u : V), (xs.map (ev ρ))[i]? = some v → v.cells[j]? = some u → ∃ y, cs[i * size + j]? = some y ∧ RepP w S u y := by
 simp only [Bool.and_eq_true] at hc
 obtain ⟨⟨⟨h1, h2⟩, h3⟩, h4⟩ := hc
 have hlen := Nat.eq_of_beq_eq_true h2
 subst hlen
 obtain ⟨k1, k2, k3⟩ := enum_parts he 0 ps.toList xs h4
 have hall : ∀ v ∈ xs.map (ev ρ), pureB v = true ∧ rowB v = true ∧ v.cells.length = size := by
  intro v hv
  have := (List.all_eq_true.1 hp) v hv
  simp only [Bool.and_eq_true] at this
  exact ⟨this.1.1, this.1.2, Nat.eq_of_beq_eq_true this.2⟩
 obtain ⟨cs, f1, f2, f3⟩ := flat_rows (RepP w S) size (xs.map (ev ρ)) (ps.toList.map fun p => a.eval p.2) k2 (fun v hv => ⟨(hall v hv).2.1, (hall v hv).2.2⟩) (fun i v x h5 h6 => by
  have hm := mem_of_get h5
  have hr := (k3 i v x h5 h6).toP (hall v hm).1
  obtain ⟨c0, q1, q2, q3⟩ := cells_rep (hall v hm).2.1 (Rep.pure (θ := θ) (σ := σ) (l := l) hr)
  refine ⟨c0, q1, q2, fun j u y h7 h8 => (q3 j u y h7 h8).toP ?_⟩
  have hmu := mem_of_get h7
  cases v with
  | agg ll => exact (pureL_iff ll).1 (by simpa [pureB] using (hall _ hm).1) u hmu
  | tag b ll => have := (hall _ hm).1; simp [pureB] at this
  | _ => simp only [V.cells, List.mem_singleton] at hmu; rw [hmu]; exact (hall _ hm).1)
 split at h1
 · rename_i e hu
   split at h1
   · rename_i i hi
     simp only [Bool.and_eq_true] at h1
     obtain ⟨⟨h5, h6⟩, h7⟩ := h1
     have es := Nat.eq_of_beq_eq_true h5
     split at h7
     · rename_i z hz
       have ez := Nat.eq_of_beq_eq_true h7
       refine ⟨cs, e, ?_, by simpa using f2, fun row hr => (hall row hr).2.2, f3⟩
       have hxs : ∀ x ∈ ps.toList.map (fun p => a.eval p.2), x.cells.size = size := by
        intro x hx
        obtain ⟨i, hi', rfl⟩ := List.mem_iff_getElem.1 hx
        have hlt : i < (xs.map (ev ρ)).length := by rw [k2]; exact hi'
        have hv : (xs.map (ev ρ))[i]? = some (xs.map (ev ρ))[i] := List.getElem?_eq_getElem hlt
        have hr := k3 i _ _ hv (List.getElem?_eq_getElem hi')
        have hm := List.getElem_mem hlt
        obtain ⟨c0, q1, q2, q3⟩ := cells_rep (hall _ hm).2.1 hr
        rw [q1]
        simp only [List.size_toArray]
        rw [q2, (hall _ hm).2.2]
       have hlp : (ps.toList.map fun p => a.eval p.2).length = xs.length := by rw [← k2]; simp
       have hfill := fill_enum size (ps.toList.map fun p => a.eval p.2) 0 ((Array.range (xs.length * size)).map (z.cells[· % z.cells.size]!)) hxs (by rw [hlp]; simp)
       rw [f1] at hfill
       have hdrop : ((Array.range (xs.length * size)).map (z.cells[· % z.cells.size]!)).toList.drop ((0 + (ps.toList.map fun p => a.eval p.2).length) * size) = [] := by
        apply List.drop_eq_nil_of_le
        rw [hlp]; simp
       rw [hdrop] at hfill
       simp only [Nat.zero_mul, List.take_zero, List.nil_append, List.append_nil] at hfill
       have hparts : (ps.map fun (p : Nat × Operand) => (p.1, a.eval p.2)).toList = (ps.toList.map fun p => a.eval p.2).zipIdx.map fun p => (p.2, p.1) := by rw [← k1]; simp
       have hble := Nat.le_of_ble_eq_true h3
       have hz0 : size ≠ 0 := by intro e0; rw [e0] at h6; simp at h6
       have hfill' : Instr.fill (fun i => some (i * size, size)) ((Array.range (xs.length * size)).map (z.cells[· % z.cells.size]!)) (ps.map fun (p : Nat × Operand) => (p.1, a.eval p.2)).toList = some cs.toArray := by rw [hparts]; exact hfill
       by_cases hx0 : xs.length * size = 0
       · have hx1 : xs.length = 0 := by
          rcases Nat.mul_eq_zero.1 hx0 with h | h
          · exact h
          · exact absurd h hz0
         have hcs : cs = [] := List.eq_nil_of_length_eq_zero (by rw [f2]; simp [hx1])
         subst hcs
         have hp0 : ps = #[] := by
          have : ps.size = 0 := by simpa [hx1] using hlp
          exact Array.eq_empty_of_size_eq_zero this
         subst hp0
         simp [Instr.buildSlice, run_underlying hu, Go.sizeOf, typeInfo, hi, hx1, Instr.fill, newRow, Array.range_zero']
       · have hne : ¬ (16777216 < xs.length * size) := by omega
         simp [Instr.buildSlice, run_underlying hu, Go.sizeOf, typeInfo, hi, es, hx0, hne, zeroValue, hz, newRow]
         have hf2 := hfill'
         simp at hf2
         rw [hf2]
         simp
     · cases h7
   · cases h1
 · cases h1
end
section
variable {G : Type} {J : JT G} {w w' w'' : World} {S F S' F' S'' F'' : Nat → Prop} {θ θ' θ'' : Names} {σ σ' σ'' : Store} {l : Nat} {g g' : G}
variable {P : Program} {o : Oper} {a : Act} {ρ : Env} {K : V → Store → G → Prop} {H : HT G}
theorem cell_new (w : World) (cs : List Value) (e : TypeId) (q : Nat) : (w.alloc (.cells cs.toArray e (0, 0))).cell? ⟨w.heap.size, q, none⟩ = cs[q]? := by
 rw [cell_of_row _ _ q cs.toArray e (0, 0) (heap_alloc_new' w _)]
 simp
theorem sop_bsl {size : Nat} {xs : List Opd} (hst : Stable J) (hs : St J w S F θ σ l g) (he : EnvRep w S θ σ l ρ a.tmps) (hc : chkOp P o.op (.bsl size xs) = true) (h : AWop P H ρ σ g (.bsl size xs) K) : RunsTo P o a w (OpPost J w S F θ σ l K) := by
 cases ho : o.op <;> rw [ho] at hc <;> simp only [chkOp, Bool.false_eq_true] at hc
 rename_i T len ps
 simp only [AWop] at h
 obtain ⟨hp, hk⟩ := h
 obtain ⟨cs, e, h1, h2, h3, h4⟩ := bsl_facts he hc hp w
 refine ⟨_, _, .inl (by simp only [execOp, ho]; simp [h1]; exact ⟨rfl, rfl⟩), _, _, g, _, F, θ, hk, St.stab hst hs _, Fr.stab hs _, .pure ?_⟩
 have hl : (xs.map (ev ρ)).length = xs.length := by simp
 rw [← hl]
 refine .sl (xs.map (ev ρ)) w.heap.size 0 _ size (fun i j => cs.getD (i * size + j) undef) (.inr rfl) (Nat.le_refl _) h3 (fun i j row v h5 h6 => ?_) (fun i j row v h5 h6 => ?_)
 · obtain ⟨y, hy, hr⟩ := h4 i j row v h5 h6
   rw [Nat.zero_add, cell_new, List.getD_eq_getElem?_getD, hy]
   rfl
 · obtain ⟨y, hy, hr⟩ := h4 i j row v h5 h6
   rw [List.getD_eq_getElem?_getD, hy]
   exact hr.mono ((Fr.stab hs _).stable hs) (fun b hb => .inl hb)
theorem sop_bslO {nm size : Nat} {xs : List Opd} (hst : Stable J) (hs : St J w S F θ σ l g) (he : EnvRep w S θ σ l ρ a.tmps) (hc : chkOp P o.op (.bslO nm size xs) = true) (h : AWop P H ρ σ g (.bslO nm size xs) K) : RunsTo P o a w (OpPost J w S F θ σ l K) := by
 cases ho : o.op <;> rw [ho] at hc <;> simp only [chkOp, Bool.false_eq_true] at hc
 rename_i T len ps
 simp only [AWop] at h
 split at h
 · rename_i hu
   obtain ⟨hw, hp, hk⟩ := h
   obtain ⟨cs, e, h1, h2, h3, h4⟩ := bsl_facts he hc hp w
   rw [Bool.and_eq_true] at hw
   obtain ⟨hw, hw2⟩ := hw
   have ew := Nat.eq_of_beq_eq_true hw
   have hfr := Fr.alloc hs (.cells cs.toArray e (0, 0)) nm size (.vec xs.length) hu
   refine ⟨_, _, .inl (by simp only [execOp, ho]; simp [h1]; rfl), _, _, g, S, F, _, hk,
    St.alloc hst hs (.cells cs.toArray e (0, 0)) nm size (.vec xs.length) hu (.inr ⟨w.heap.size, size, cs.toArray, e, upn_self _ _ _, heap_alloc_new' w _, ew.symm, by simp [h2], .inl (Nat.eq_of_beq_eq_true hw2)⟩), hfr, ?_⟩
   have hl : (xs.map (ev ρ)).length = xs.length := by simp
   rw [← hl]
   refine .own nm (xs.map (ev ρ)) w.heap.size 0 _ size (fun i j => cs.getD (i * size + j) undef) (by rw [upt_self]; intro h; cases h) (.inr ⟨size, xs.length, upn_self _ _ _, by rw [hl]; exact upt_self _ _ _, by simp⟩) (Nat.le_refl _) h3
    (fun i j row v h5 h6 => ?_) (fun i j row v h5 h6 => ?_) (fun k hk' => ?_)
   · obtain ⟨y, hy, hr⟩ := h4 i j row v h5 h6
     rw [Nat.zero_add, cell_new, List.getD_eq_getElem?_getD, hy]
     rfl
   · obtain ⟨y, hy, hr⟩ := h4 i j row v h5 h6
     rw [List.getD_eq_getElem?_getD, hy]
     exact hr.mono (hfr.stable hs) (fun b hb => hb)
   · rw [hl] at hk'
     rw [upt_self] at hk'
     injection hk' with hk'
     refine ⟨by rw [hl, hk']; exact Nat.le_refl _, fun _ => ⟨upn_self _ _ _, rfl, cs.toArray, e, heap_alloc_new' w _, ?_⟩⟩
     simp [h2]
 · exact h.elim
theorem constLeaf_pure {x : Value} {v : V} (h : constLeaf x v = true) : pureB v = true := by
 unfold constLeaf at h
 split at h <;> first | rfl | cases h
theorem constLeaves_pure : ∀ {xs : List Value} {vs : List V}, constLeaves xs vs = true → pureL vs = true
 | [], [], _ => rfl
 | x :: xs, v :: vs, h => by
  simp only [constLeaves, Bool.and_eq_true] at h
  simp only [pureL, Bool.and_eq_true]
  exact ⟨constLeaf_pure h.1, constLeaves_pure h.2⟩
 | [], _ :: _, h => by simp [constLeaves] at h
 | _ :: _, [], h => by simp [constLeaves] at h
theorem constV_pure {x : Value} {v : V} (h : constV x v = true) : pureB v = true := by
 unfold constV at h
 split at h
 · exact constLeaves_pure h
 · exact constLeaf_pure h
theorem pure_cells {v : V} (h : pureB v = true) : ∀ u ∈ v.cells, pureB u = true := by
 intro u hu
 cases v with
 | agg ll => exact (pureL_iff ll).1 (by simpa [pureB] using h) u hu
 | tag b ll => simp [pureB] at h
 | _ => simp only [V.cells, List.mem_singleton] at hu; rw [hu]; exact h
theorem zcells_rep {v : V} {x : Value} {n : Nat} (h : constV x v = true) (hr : rowB v = true) (hcl : x.cells.size = n) : v.cells.length = n ∧ ∀ (j : Nat) (u : V), v.cells[j]? = some u → ∃ y, x.cells[j]? = some y ∧ RepP w S u y := by
 have hrep : Rep w S θ0 σ0 0 v x := .pure (constV_rep h)
 obtain ⟨cs, h1, h2, h3⟩ := cells_rep hr hrep
 rw [h1] at hcl ⊢
 simp only [List.size_toArray] at hcl
 refine ⟨by omega, fun j u hu => ?_⟩
 have hlt := (List.getElem?_eq_some_iff.1 hu).1
 have hy : cs[j]? = some cs[j] := List.getElem?_eq_getElem (by omega)
 exact ⟨cs[j], by simp [hy], (h3 j u _ hu hy).toP (pure_cells (constV_pure h) u (mem_of_get hu))⟩
theorem sliceZ_facts {T size bytes : Nat} (h : tSliceZ P T size bytes = true) : ∃ e i z, P.underlying T = some (.slice e) ∧ P.info? e = some i ∧ i.zero = some z ∧ i.size = size ∧ i.bytes = bytes ∧ z.cells.size = size ∧ 0 < size := by
 unfold tSliceZ at h
 split at h
 · rename_i e hu
   split at h
   · rename_i i hi
     simp only [Bool.and_eq_true] at h
     obtain ⟨⟨⟨⟨h1, h2⟩, h3⟩, h4⟩, h5⟩ := h
     split at h5
     · rename_i z hz
       refine ⟨e, i, z, hu, hi, hz, Nat.eq_of_beq_eq_true h1, Nat.eq_of_beq_eq_true h3, Nat.eq_of_beq_eq_true h5, ?_⟩
       have : size ≠ 0 := by intro e0; rw [e0] at h2; simp at h2
       omega
     · cases h5
   · cases h
 · cases h
theorem sop_mkVec {nm size bytes : Nat} {y z : Opd} (hst : Stable J) (hs : St J w S F θ σ l g) (he : EnvRep w S θ σ l ρ a.tmps) (hc : chkOp P o.op (.mkVec nm size bytes y z) = true) (h : AWop P H ρ σ g (.mkVec nm size bytes y z) K) : RunsTo P o a w (OpPost J w S F θ σ l K) := by
 cases ho : o.op <;> rw [ho] at hc <;> simp only [chkOp, Bool.false_eq_true] at hc
 rename_i T y' z'
 simp only [Bool.and_eq_true] at hc
 obtain ⟨⟨⟨hc1, hc2⟩, hc3⟩, hc4⟩ := hc
 have r1 := opd_rep he hc1
 have r2 := opd_rep he hc2
 obtain ⟨e, i, zv, hu, hi, hz, hsize, hby, hzs, h0⟩ := sliceZ_facts hc3
 simp only [AWop] at h
 split at h
 · rename_i A B hun hA hB
   obtain ⟨rfl, hB0, hBb, hB1, hw, hk⟩ := h
   rw [hA] at r1
   rw [hB] at r2
   have e1 := r1.int_inv
   have e2 := r2.int_inv
   have hrun := run_make (P := P) w T e i zv hu hi hz .i64 .i64 0 B (Int.le_refl _) hB0 (by rw [hby, Int.mul_comm]; omega) (by omega)
   obtain ⟨C, hC⟩ : ∃ C, C = madeCells zv.cells (B.toNat * i.size) := ⟨_, rfl⟩
   have hCs : C.size = B.toNat * size := by rw [hC, size_madeCells, hsize]
   rw [← hC] at hrun
   have ew := Nat.eq_of_beq_eq_true hw
   refine ⟨_, _, .inl (by simp only [execOp, ho]; simp [e1, e2, hrun]; rfl), _, _, g, S, F, _, hk, St.alloc hst hs (.cells C e (0, 0)) nm size (.vec 0) hun (.inr ⟨w.heap.size, size, C, e, upn_self _ _ _, heap_alloc_new' w _, ew.symm, by simp, .inl (Nat.eq_of_beq_eq_true hc4)⟩), Fr.alloc hs _ nm size _ hun, ?_⟩
   refine .own nm [] w.heap.size 0 B.toNat size (fun _ _ => undef) (by rw [upt_self]; intro h; cases h) (.inr ⟨size, 0, upn_self _ _ _, upt_self _ _ _, by simp⟩) (Nat.zero_le _) (by simp) (fun i j row v h5 => by simp at h5) (fun i j row v h5 => by simp at h5) (fun k hk' => ?_)
   refine ⟨Nat.zero_le _, fun _ => ⟨upn_self _ _ _, rfl, C, e, heap_alloc_new' w _, by rw [hCs]; exact Nat.le_refl _⟩⟩
 · exact h.elim
theorem sop_mkSl {nm size bytes : Nat} {zero : V} {y z : Opd} (hst : Stable J) (hs : St J w S F θ σ l g) (he : EnvRep w S θ σ l ρ a.tmps) (hc : chkOp P o.op (.mkSl nm size bytes zero y z) = true) (h : AWop P H ρ σ g (.mkSl nm size bytes zero y z) K) : RunsTo P o a w (OpPost J w S F θ σ l K) := by
 cases ho : o.op <;> rw [ho] at hc <;> simp only [chkOp, Bool.false_eq_true] at hc
 rename_i T y' z'
 simp only [Bool.and_eq_true] at hc
 obtain ⟨⟨⟨hc1, hc2⟩, hc3⟩, hc4⟩ := hc
 have r1 := opd_rep he hc1
 have r2 := opd_rep he hc2
 obtain ⟨e, i, zv, hu, hi, hz, hsize, hby, hzs, h0⟩ := sliceZ_facts hc3
 have hzr : ∀ w : World, ∀ (j : Nat) (u : V), zero.cells[j]? = some u → ∃ y, zv.cells[j]? = some y ∧ RepP w S u y := by
  intro w
  unfold tSliceZV at hc4
  rw [hu] at hc4
  simp only [tZero, hi, hz, Bool.and_eq_true] at hc4
  exact (zcells_rep hc4.1.1 hc4.2 hzs).2
 simp only [AWop] at h
 split at h
 · rename_i A B hun hA hB
   obtain ⟨hA0, hAB, hBb, hB1, hw, hzl, hk⟩ := h
   rw [hA] at r1
   rw [hB] at r2
   have e1 := r1.int_inv
   have e2 := r2.int_inv
   have ezl := Nat.eq_of_beq_eq_true hzl
   have hrun := run_make (P := P) w T e i zv hu hi hz .i64 .i64 A B hA0 hAB (by rw [hby, Int.mul_comm]; omega) (by omega)
   obtain ⟨C, hC⟩ : ∃ C, C = madeCells zv.cells (B.toNat * i.size) := ⟨_, rfl⟩
   have hCs : C.size = B.toNat * size := by rw [hC, size_madeCells, hsize]
   rw [← hC] at hrun
   have ew := Nat.eq_of_beq_eq_true hw
   have hAB' : A.toNat * size ≤ B.toNat * size := Nat.mul_le_mul_right _ (by omega)
   refine ⟨_, _, .inl (by simp only [execOp, ho]; simp [e1, e2, hrun]; rfl), _, _, g, S, F, _, hk, St.alloc hst hs (.cells C e (0, 0)) nm size (.arr 0 (List.replicate A.toNat zero)) hun ?_, Fr.alloc hs _ nm size _ hun, ?_⟩
   · refine .inr ⟨w.heap.size, size, C, e, upn_self _ _ _, heap_alloc_new' w _, fun row hrow => by rw [(List.mem_replicate.1 hrow).2]; exact ezl, ⟨ew.symm, by simp; omega⟩, fun i' j row v h5 h6 => ?_⟩
     have hrow := (List.mem_replicate.1 (mem_of_get h5)).2
     subst hrow
     obtain ⟨yv, hy, hr⟩ := hzr (w.alloc (.cells C e (0, 0))) j v h6
     refine ⟨yv, ?_, hr⟩
     have hilt : i' < A.toNat := by have := (List.getElem?_eq_some_iff.1 h5).1; simpa using this
     have hjlt : j < size := by have := (List.getElem?_eq_some_iff.1 h6).1; omega
     have hlt : i' * size + j < B.toNat * size := by
      have : (i' + 1) * size ≤ B.toNat * size := Nat.mul_le_mul_right _ (by omega)
      rw [Nat.succ_mul] at this; omega
     rw [hC]
     unfold madeCells
     rw [Array.getElem?_map, Array.getElem?_range]
     rw [if_pos (by rw [hsize]; exact hlt)]
     simp only [Option.map_some]
     rw [hzs, Nat.mul_comm i' size, Nat.mul_add_mod, Nat.mod_eq_of_lt hjlt]
     have := Array.getElem?_eq_some_iff.1 hy
     obtain ⟨q1, q2⟩ := this
     rw [getElem!_pos zv.cells j q1, q2]
   · refine .msl nm 0 0 A.toNat _ rfl (by rw [upt_self]; intro h; cases h) (fun _ _ _ => Nat.zero_le _) fun rows hrows => .inl ⟨w.heap.size, size, B.toNat, upn_self _ _ _, by omega, by simp, ⟨C, e, heap_alloc_new' w _, by simp [hCs]⟩, ?_⟩
     rw [upt_self] at hrows
     injection hrows with _ hrows
     subst hrows
     simp
 · exact h.elim
theorem sop_bslA {nm size : Nat} {xs : List Opd} (hst : Stable J) (hs : St J w S F θ σ l g) (he : EnvRep w S θ σ l ρ a.tmps) (hc : chkOp P o.op (.bslA nm size xs) = true) (h : AWop P H ρ σ g (.bslA nm size xs) K) : RunsTo P o a w (OpPost J w S F θ σ l K) := by
 cases ho : o.op <;> rw [ho] at hc <;> simp only [chkOp, Bool.false_eq_true] at hc
 rename_i T len ps
 simp only [AWop] at h
 split at h
 · rename_i hu
   obtain ⟨hw, hp, hk⟩ := h
   obtain ⟨cs, e, h1, h2, h3, h4⟩ := bsl_facts he hc hp w
   have ew := Nat.eq_of_beq_eq_true hw
   have hfr := Fr.alloc hs (.cells cs.toArray e (0, 0)) nm size (.arr 0 (xs.map (ev ρ))) hu
   have hl : (xs.map (ev ρ)).length = xs.length := by simp
   refine ⟨_, _, .inl (by simp only [execOp, ho]; simp [h1]; rfl), _, _, g, S, F, _, hk,
    St.alloc hst hs (.cells cs.toArray e (0, 0)) nm size (.arr 0 (xs.map (ev ρ))) hu (.inr ⟨w.heap.size, size, cs.toArray, e, upn_self _ _ _, heap_alloc_new' w _, h3, ⟨ew.symm, by simp [h2]⟩, fun i j row v h5 h6 => ?_⟩), hfr, ?_⟩
   · obtain ⟨y, hy, hr⟩ := h4 i j row v h5 h6
     exact ⟨y, by simpa using hy, hr.mono (hfr.stable hs) (fun b hb => hb)⟩
   · refine .msl nm 0 0 xs.length _ rfl (by rw [upt_self]; intro h; cases h) (fun _ _ _ => Nat.zero_le _) fun rows hrows => .inl ⟨w.heap.size, size, xs.length, upn_self _ _ _, Nat.le_refl _, by simp, ⟨cs.toArray, e, heap_alloc_new' w _, by simp [h2]⟩, ?_⟩
     rw [upt_self] at hrows
     injection hrows with _ hrows
     subst hrows
     simp
 · exact h.elim
theorem rows_clear {rows : List V} {zero : V} {i len : Nat} (h : i + len ≤ rows.length) (k : Nat) : (rows.take i ++ List.replicate len zero ++ rows.drop (i + len))[k]? = if i ≤ k ∧ k < i + len then some zero else rows[k]? := by
 have := splice_get rows (List.replicate len zero) i (by simpa using h) k
 rw [List.length_replicate] at this
 rw [this]
 split
 · rename_i hk
   rw [List.getElem?_replicate, if_pos (by omega)]
 · rfl
theorem sop_clear {size bytes : Nat} {zero : V} {y : Opd} (hst : Stable J) (hs : St J w S F θ σ l g) (he : EnvRep w S θ σ l ρ a.tmps) (hc : chkOp P o.op (.clear size bytes zero y) = true) (h : AWop P H ρ σ g (.clear size bytes zero y) K) : RunsTo P o a w (OpPost J w S F θ σ l K) := by
 cases ho : o.op <;> rw [ho] at hc <;> simp only [chkOp, Bool.false_eq_true] at hc
 rename_i c
 simp only [Bool.and_eq_true] at hc
 obtain ⟨hc1, hc2⟩ := hc
 obtain ⟨callee, args, argTypes⟩ := c
 dsimp only at hc1 hc2
 have hcal : callee = .builtin .clear := by split at hc1 <;> first | rfl | cases hc1
 subst hcal
 have hsh : ∃ y' t, args = #[y'] ∧ argTypes[0]? = some t ∧ chkOpd y' y = true ∧ tSliceZ P t size bytes = true ∧ tSliceZV P t zero = true := by
  split at hc2
  · rename_i y' t rest hargs htys
    simp only [Bool.and_eq_true] at hc2
    refine ⟨y', t, by rw [← hargs], by rw [← Array.getElem?_toList, htys]; rfl, hc2.1.1, hc2.1.2, hc2.2⟩
  · cases hc2
 obtain ⟨y', t, rfl, htys', hc2, hc3, hc4⟩ := hsh
 have r1 := opd_rep he hc2
 obtain ⟨e, i0, zv, hu, hi, hz, hsize, hby, hzs, h0⟩ := sliceZ_facts hc3
 have hzr : zero.cells.length = size ∧ ∀ (j : Nat) (u : V), zero.cells[j]? = some u → ∃ y, zv.cells[j]? = some y ∧ RepP w S u y := by
  unfold tSliceZV at hc4
  rw [hu] at hc4
  simp only [tZero, hi, hz, Bool.and_eq_true] at hc4
  exact zcells_rep hc4.1.1 hc4.2 hzs
 simp only [AWop] at h
 split at h
 · rename_i nm gen i len hv
   rw [hv] at r1
   split at h
   · rename_i gen' rows hσ
     obtain ⟨rfl, hw, hlf, h⟩ := h
     have ew := Nat.eq_of_beq_eq_true hw
     have hone : ∀ y ∈ zv.cells.toList, y.oneCell' = true := by
      intro y hy
      obtain ⟨j, hj, rfl⟩ := List.mem_iff_getElem.1 hy
      have hj2 : j < zero.cells.length := by rw [hzr.1]; simp at hj; omega
      obtain ⟨y2, g1, g2⟩ := hzr.2 j _ (List.getElem?_eq_getElem hj2)
      have hj3 : j < zv.cells.size := by simpa using hj
      rw [Array.getElem?_eq_getElem hj3] at g1
      injection g1 with g1
      have := leaf_one (θ := θ0) (σ := σ0) (l := 0) ((List.all_eq_true.1 hlf) _ (List.getElem_mem hj2)) (.pure g2)
      rw [← g1] at this
      simpa using this
     cases r1 with
     | pure h1 => cases h1
     | msl _ _ _ _ x _ hn hg h1 =>
      by_cases hl0 : len = 0
      · subst hl0
        have hx : ∃ ad cap, a.eval y' = .slice ad 0 cap := by
         rcases h1 rows hσ with ⟨b, m, cap, _, _, e1, _⟩ | ⟨_, ad, e1⟩
         · exact ⟨_, _, e1⟩
         · exact ⟨_, _, e1⟩
        obtain ⟨ad, cap, e1⟩ := hx
        have hrows : rows.take i ++ List.replicate 0 zero ++ rows.drop (i + 0) = rows := by simp
        rw [hrows] at h
        have hσ' : ups σ nm (.arr gen rows) = σ := by
         funext q
         unfold ups
         cases hb : Nat.beq q nm with
         | true => rw [Nat.eq_of_beq_eq_true hb, hσ]; rfl
         | false => rfl
        rw [hσ'] at h
        refine ⟨.tuple #[], w, .inl ?_, OpPost.same hs h (.pure (.tup [] [] rfl (by intro i v x h; simp at h)))⟩
        cases ad <;> simp [execOp, ho, resolve, invoke, builtin, Builtin.clear_, e1, htys', run_underlying hu]
      · rcases h1 rows hσ with ⟨b, m, cap, hb, hcap, e1, hcapok, hlen⟩ | ⟨e0, _⟩
        · have hk := hs.hblk nm
          rw [hσ] at hk
          rcases hk with ⟨h2, _⟩ | ⟨b', m', c, e', h2, h3, h4, h5, h6⟩
          · rw [hb] at h2; cases h2
          · have eb : b' = b ∧ m' = m := by rw [hb] at h2; simp at h2; exact ⟨h2.1.symm, h2.2.symm⟩
            obtain ⟨rfl, rfl⟩ := eb
            have hm : m' = size := h5.1.trans ew
            subst hm
            obtain ⟨xs, hxs⟩ : ∃ xs, xs = (Builtin.zeroCells zv.cells len).toList := ⟨_, rfl⟩
            have hxl : xs.length = len * m' := by rw [hxs, Array.length_toList, size_zeroCells, hzs]
            have hget : ∀ q, q < len * m' → ∃ y, xs[q]? = some y ∧ zv.cells[q % m']? = some y := by
             intro q hq
             have hmod : q % m' < zv.cells.size := by rw [hzs]; exact Nat.mod_lt _ h0
             refine ⟨zv.cells[q % m'], ?_, Array.getElem?_eq_getElem hmod⟩
             rw [hxs]
             unfold Builtin.zeroCells
             rw [Array.getElem?_toList, Array.getElem?_map, Array.getElem?_range, hzs, if_pos hq]
             simp only [Option.map_some]
             rw [getElem!_pos zv.cells (q % m') hmod]
            have himul : i * m' + len * m' ≤ rows.length * m' := by rw [← Nat.add_mul]; exact Nat.mul_le_mul_right m' hlen
            have hq : i * m' + xs.length ≤ c.toList.length := by simp; omega
            have hones : ∀ y ∈ xs, y.oneCell' = true := by
             intro y hy
             obtain ⟨q, hq1, rfl⟩ := List.mem_iff_getElem.1 hy
             obtain ⟨y2, g1, g2⟩ := hget q (by omega)
             rw [List.getElem?_eq_getElem hq1] at g1
             injection g1 with g1
             rw [g1]
             exact hone _ (Array.mem_toList_iff.2 (Array.mem_of_getElem? g2))
            have hst0 := run_storeCells_at P b' (i * m') e' xs 0 c w h3 (by simpa using hq) hones
            simp only [Nat.add_zero] at hst0
            obtain ⟨c', hc'⟩ : ∃ c' : Array Value, c' = (c.toList.take (i * m') ++ xs ++ c.toList.drop (i * m' + xs.length)).toArray := ⟨_, rfl⟩
            have hcs : c'.size = c.size := by rw [hc']; have := splice_len c.toList xs (i * m') hq; simpa using this
            rw [← hc', hxs] at hst0
            obtain ⟨rows', hr'⟩ : ∃ rows', rows' = rows.take i ++ List.replicate len zero ++ rows.drop (i + len) := ⟨_, rfl⟩
            have hrl : rows'.length = rows.length := by rw [hr']; simp; omega
            rw [← hr'] at h
            have hfr := Fr.write hs nm b' m' c c' e' (.arr gen rows') (live_arr hσ) h2 h3 hcs (by rw [hσ]; exact ⟨_, .inl ⟨rfl, by omega⟩⟩)
            refine ⟨.tuple #[], w.setRow b' c', .inl ?_, _, _, g, S, F, θ, h, St.write hst hs nm b' m' c' _ (live_arr hσ) h2 hfr ?_, hfr, .pure (.tup [] [] rfl (by intro i v x h; simp at h))⟩
            · obtain ⟨len', rfl⟩ : ∃ len', len = len' + 1 := ⟨len - 1, by omega⟩
              simp [execOp, ho, resolve, invoke, builtin, Builtin.clear_, e1, htys', run_underlying hu, zeroValue, typeInfo, hi, hz, hst0]
            · refine .inr ⟨b', m', c', e', h2, setRow_heap w b' c c' _ _ h3, fun r hrm => ?_, ⟨h5.1, by rw [hcs, hrl]; exact h5.2⟩, fun i' j' r u hri hu' => ?_⟩
              · obtain ⟨q, hq1, rfl⟩ := List.mem_iff_getElem.1 hrm
                have hg := rows_clear (zero := zero) hlen q
                rw [← hr', List.getElem?_eq_getElem hq1] at hg
                split at hg
                · injection hg with hg; rw [hg]; exact hzr.1
                · exact h4 _ (List.mem_of_getElem? hg.symm)
              · have hgc : ∀ q, c'[q]? = if i * m' ≤ q ∧ q < i * m' + xs.length then xs[q - i * m']? else c.toList[q]? := by
                 intro q; rw [hc', List.getElem?_toArray]; exact splice_get c.toList xs (i * m') hq q
                have hg := rows_clear (zero := zero) hlen i'
                rw [← hr', hri] at hg
                rw [hgc]
                split at hg
                · rename_i hk
                  injection hg with hg
                  subst hg
                  have hj' : j' < m' := by have := (List.getElem?_eq_some_iff.1 hu').1; rw [hzr.1] at this; exact this
                  have h7 : (i' - i) * m' + m' ≤ len * m' := by rw [← Nat.succ_mul]; exact Nat.mul_le_mul_right m' (by omega)
                  have h8 : i' * m' = i * m' + (i' - i) * m' := by rw [← Nat.add_mul]; congr 1; omega
                  rw [if_pos (by omega)]
                  obtain ⟨y2, g1, g2⟩ := hget ((i' - i) * m' + j') (by omega)
                  rw [show i' * m' + j' - i * m' = (i' - i) * m' + j' from by omega]
                  refine ⟨y2, g1, ?_⟩
                  rw [Nat.mul_comm (i' - i) m', Nat.mul_add_mod, Nat.mod_eq_of_lt hj'] at g2
                  obtain ⟨y3, g3, g4⟩ := hzr.2 j' u hu'
                  rw [g2] at g3
                  injection g3 with g3
                  rw [g3]
                  exact g4.mono (hfr.stable hs) hfr.smono
                · rename_i hk
                  obtain ⟨y2, g1, g2⟩ := h6 i' j' r u hg.symm hu'
                  have hj' : j' < m' := by
                   have := (List.getElem?_eq_some_iff.1 hu').1
                   rw [h4 r (List.mem_of_getElem? hg.symm)] at this; exact this
                  have hne : ¬ (i * m' ≤ i' * m' + j' ∧ i' * m' + j' < i * m' + xs.length) := by
                   rcases Nat.lt_or_ge i' i with hlt | hge
                   · have : i' * m' + m' ≤ i * m' := by rw [← Nat.succ_mul]; exact Nat.mul_le_mul_right m' hlt
                     omega
                   · have : (i + len) * m' ≤ i' * m' := Nat.mul_le_mul_right m' (by omega)
                     rw [Nat.add_mul] at this
                     omega
                  rw [if_neg hne]
                  exact ⟨y2, by simpa using g1, g2.mono (hfr.stable hs) hfr.smono⟩
        · exact absurd e0 hl0
   · exact h.elim
 · exact h.elim
end
end Hm
end
