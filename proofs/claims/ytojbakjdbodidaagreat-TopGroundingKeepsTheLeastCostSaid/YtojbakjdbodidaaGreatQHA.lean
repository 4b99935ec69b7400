/- Part QHA of the proof. -/
import Derived.Test.YtojbakjdbodidaaGreatQPC
import Derived.Shelf.SlSortCmp.WholeK
import Derived.Shelf.Sort.Plain
import Derived.Shelf.SlSortCmp.Whole1
set_option linter.unusedVariables false
set_option linter.unusedSimpArgs false
section
namespace Hm
open Go
theorem zew {G:Type}{P:Program}{H:HT G}{f:Nat}{args:List V}{r:V}{pn:List Nat}{σ:za}{g:G} (h:Fn P f (args.map (er σ 6)) r)(hfl:xj r=true)(hpn:∀ nm,nm ∉ pn→σ nm=.zc) :
  CT P H f args pn σ g fun v σ' g'=>v=r∧σ' = σ∧g' = g :=
 ⟨h.1, fun J l hst hM hH w S F θ xs hs hargs=>by
  have hcall:=h.2 w (All w) _ (fun b hb=>hb) ((hst.1 _ _ _ _ hs.hJ).same (fun _ _=>rfl) hs.hS) (qr hargs (fun v x _ hr=>hr.er hs 6))
  refine hcall.mono fun e w' he'=>?_
  obtain ⟨x',S',rfl,hr,hS1,hS2,hg⟩:=he'
  exact ⟨r,x',σ,g,_,F,θ,rfl,⟨rfl,rfl,rfl⟩,St.grow hst hs hg (N:=fun _=>False) (fun b hb=>hb.elim) (fun b hb=>hb.elim),.pure (hr.flat hfl),Fr.grow hs hg (fun b hb=>hb.elim),hpn⟩⟩
theorem zdj (w:World)(b:Nat)(c:Array Value)(e:TypeId)(fr:Nat × Nat)(d:Array Value)(hb:w.heap[b]? = some (.cells c e fr)) :
  Sort.putRow id w b 0 d=w.setRow b (Sort.putCells id 0 d c):=by
 unfold Sort.putRow Sort.mapBlock World.setRow
 congr 1
 apply Array.ext_getElem?
 intro k
 simp only [Array.getElem?_modify]
 by_cases hk:b=k
 · subst hk
   simp [hb,Sort.onCells]
 · simp [hk]
theorem znZ (d:Array Value)(c:Array Value)(j:Nat):(Sort.putCells id 0 d c)[j]? = (c[j]?).map fun x=>if j < d.size then d[j]! else x:=by
 unfold Sort.putCells
 rw [Array.getElem?_mapIdx]
 simp
theorem zex {σ:za}{nm:Nat}{b:Blk} (h:σ nm=b):ups σ nm b=σ:=by
 funext k
 unfold ups
 cases hb:Nat.beq k nm with
 | true=>have:=Nat.eq_of_beq_eq_true hb;subst this;exact h.symm
 | false=>rfl
theorem zl4 {w w':World} (h:Grow w w'):∃ q os',w' = Sort.grow (w.drewN q) os':=by
 refine ⟨w'.drawn - w.drawn,w'.heap.extract w.heap.size w'.heap.size,?_⟩
 obtain ⟨heap',tape',drawn',os',output'⟩:=w'
 obtain ⟨hs,e1,e2,e3,hb⟩:=h
 have e1:os' = w.os:=e1
 have e2:tape' = w.tape:=e2
 obtain ⟨e3,e4⟩:=e3
 have e3:output' = w.output:=e3
 have e4:w.drawn≤drawn':=e4 (by first|rfl|trivial)
 have hs:w.heap.size≤heap'.size:=hs
 have hb:∀ k,k < w.heap.size→heap'[k]? = w.heap[k]?:=hb
 subst e1 e2 e3
 have eh:heap' = w.heap ++ heap'.extract w.heap.size heap'.size:=by
  apply Array.ext_getElem?
  intro k
  by_cases hk:k < w.heap.size
  · rw [Array.getElem?_append_left hk];exact hb k hk
  · rw [Array.getElem?_append_right (by omega),Array.getElem?_extract]
    by_cases hk2:k < heap'.size
    · rw [if_pos (by omega)];congr 1;omega
    · rw [if_neg (by omega),Array.getElem?_eq_none (by omega)]
 simp only [Sort.grow,World.drewN]
 congr 1
 omega
theorem zl5 {w:World}{S:Nat→Prop}{u:V}{v:Value} (h:RepP w S u v)(hl:zR u=true):v.oneCell' = true:=by
 cases h<;>first
  | rfl
  | (exact absurd hl (by simp [zR]))
theorem zuC {w:World}{S:Nat→Prop}{lv:List V}{arr:Array Value} (h:RepP w S (.agg lv) (.agg arr)):lv.length=arr.size∧∀ (j:Nat)(v:V),lv[j]? = some v→∃ y,arr[j]? = some y∧RepP w S v y:=by
 cases h with
 | agg _ xs hl h =>
  refine ⟨by simpa using hl,fun j v hv=>?_⟩
  have hj:=(List.getElem?_eq_some_iff.1 hv).1
  have hx:xs[j]? = some xs[j]:=List.getElem?_eq_getElem (by omega)
  exact ⟨xs[j],by simp,h j v _ hv hx⟩
structure EC {α:Type} (f:α→V)(ok:α→Prop)(k:Nat)(w:World)(S:Nat→Prop) where
 e:α
 cs:List Value
 hl:cs.length=k
 h1:∀ v∈cs,v.oneCell' = true
 ok:ok e
 rep:RepP w S (f e) (.agg cs.toArray)
theorem zuD {G:Type}{P:Program}{H:HT G}{ρ:Shelf.Ren} (Ly:Go.Proofs.SlLaysF0.n6 P ρ) {α:Type} (f:α→V)(ok:α→Prop)(k:Nat)(k0:0 < k)
  (aE:∀ w,(isAgg (ρ.t 24)).run P w=.ok true w)(zE:∀ w,(Go.sizeOf (ρ.t 24)).run P w=.ok k w)(hf:∀ x,∃ lv,f x=.agg lv∧lv.length=k∧lv.all zR=true)
  (cf:α→α→Int)(hO:Sort.SWO (Go.Proofs.ltOf cf))(g0:Nat)(eg:∀ args w,(callFunc g0 args).run P w=.ok (.enter g0 args) w)(hcmp:∀ a b,ok a→ok b→Fn P g0 [f a,f b] (.int .i64 (cf a b)))
  (nm gen:Nat)(l:List α)(hok:∀ x∈l,ok x) {pn:List Nat}{σ:za}{g:G} (hw:wd nm=k)(hσ:σ nm=.arr gen (l.map f))(hpn:∀ nm',nm' ∉ pn→σ nm' = .zc)
  (h0:Fn P (ρ.f 6) [.sl .p [],.fn g0 []] (.tup []))(hsz:l.length < 4611686018427387904) :
  CT P H (ρ.f 6) [.msl nm gen 0 l.length,.fn g0 []] pn σ g fun v σ' g'=>v=.tup []∧(∃ l':List α,l'.Perm l∧(l'.Pairwise fun x y=>¬ cf y x < 0)∧σ' = ups σ nm (.arr gen (l'.map f)))∧g' = g:=by
 by_cases hl:l=[]
 · subst hl
   have:=zew (G:=G) (H:=H) (P:=P) (f:=ρ.f 6) (args:=[.msl nm gen 0 0,.fn g0 []]) (r:=.tup []) (pn:=pn) (σ:=σ) (g:=g) (by simpa [er,hσ] using h0) rfl hpn
   refine wg (fun v σ' g' h=>?_) this
   refine ⟨h.1,⟨[],List.Perm.refl _,List.Pairwise.nil,?_⟩,h.2.2⟩
   rw [h.2.1]
   exact (zex (by simpa using hσ)).symm
 refine ⟨h0.1,fun J lc hst hM hH w S F θ xs hs hargs=>?_⟩
 obtain ⟨hlen,hrep⟩:=hargs
 match xs,hlen with
 | [x,y],_ =>
 have hx:=hrep 0 _ x rfl rfl
 have hy:=hrep 1 _ y rfl rfl
 have hy0:y=.func (.func g0) #[] #[]:=by
  cases hy with
  | pure h =>
   cases h with
   | fn _ _ xs hl _=>match xs,hl with
     | [],_=>rfl
  | fn _ _ xs hl _=>match xs,hl with
    | [],_=>rfl
 subst hy0
 have hlen0:0 < l.length:=List.length_pos_iff.2 hl
 obtain ⟨b,m,cap,hθ,hcap,rfl,hck,hle⟩:∃ b m cap,θ nm=some (b,m)∧l.length≤cap∧x=.slice (some ⟨b,0 * m,none⟩) l.length cap∧CapOk w b ((0 + cap) * m)∧0 + l.length≤(l.map f).length:=by
  cases hx with
  | pure h=>cases h
  | msl _ _ _ _ _ _ _ _ h =>
   rcases h _ hσ with h|⟨h,_⟩
   · exact h
   · omega
 have hlv:(σ nm).live:=yQ hσ
 have hblk:=hs.hblk nm
 rw [hσ] at hblk
 simp only [BlkOk] at hblk
 rcases hblk with ⟨hn,_⟩|⟨b',m',c,e,hθ',hb,hrows,⟨hm,hsz'⟩,hcells⟩
 · rw [hθ] at hn;cases hn
 rw [hθ] at hθ'
 injection hθ' with hθ'
 injection hθ' with e1 e2
 subst e1 e2
 rw [hw] at hm
 subst hm
 have hgl:b < w.heap.size:=(Array.getElem?_eq_some_iff.1 hb).1
 have hcs:l.length * m≤c.size:=by simpa using hsz'
 have hnS:∀ b',S b'→b'≠b:=fun b' hb' e=>hs.hliveS b' ⟨nm,m,hlv,by rw [e];exact hθ⟩ hb'
 have hpos:∀ i j,i < l.length→j < m→i * m + j < c.size:=fun i j hi hj=>by
  have:(i + 1) * m≤l.length * m:=Nat.mul_le_mul_right _ hi
  rw [Nat.add_mul] at this
  omega
 have hex:∀ i (hi:i < l.length),∃ E:EC f ok m w S,E.e=l[i]∧∀ j,j < m→E.cs[j]? = c[i * m + j]?:=fun i hi=>by
  obtain ⟨lv,q1,q2,q3⟩:=hf l[i]
  have hcell:∀ j v,lv[j]? = some v→∃ y,c[i * m + j]? = some y∧RepP w S v y:=fun j v hv=>hcells i j (f l[i]) v (by rw [List.getElem?_map,List.getElem?_eq_getElem hi];rfl) (by rw [q1];exact hv)
  have hget:∀ j,j < m→((List.range m).map fun j=>c.getD (i * m + j) undef)[j]? = c[i * m + j]?:=fun j hj=>by
   have:=hpos i j hi hj
   simp [hj,Array.getD,this]
  refine ⟨⟨l[i],(List.range m).map fun j=>c.getD (i * m + j) undef,by simp,fun v hv=>?_,hok _ (List.getElem_mem hi),?_⟩,rfl,hget⟩
  · obtain ⟨j,hj⟩:=List.getElem?_of_mem hv
    have hjm:j < m:=by have:=(List.getElem?_eq_some_iff.1 hj).1;simpa using this
    obtain ⟨u,hu⟩:∃ u,lv[j]? = some u:=⟨lv[j],List.getElem?_eq_getElem (by omega)⟩
    obtain ⟨y,hy1,hy2⟩:=hcell j u hu
    rw [hget j hjm,hy1] at hj
    cases hj
    exact zl5 hy2 (by rw [List.all_eq_true] at q3;exact q3 u (List.mem_of_getElem? hu))
  · rw [q1]
    refine .agg lv _ (by simp [q2]) fun j v x hv hxv=>?_
    have hjm:j < m:=by have:=(List.getElem?_eq_some_iff.1 hv).1;omega
    obtain ⟨y,hy1,hy2⟩:=hcell j v hv
    rw [hget j hjm,hy1] at hxv
    cases hxv
    exact hy2
 obtain ⟨el,hel⟩:∃ el:Fin l.length→EC f ok m w S,∀ i,(el i).e=l[i.1]∧∀ j,j < m→(el i).cs[j]? = c[i.1 * m + j]? :=
  ⟨fun i=>(hex i.1 i.2).choose,fun i=>(hex i.1 i.2).choose_spec⟩
 haveI:Inhabited (EC f ok m w S):=⟨el ⟨0,hlen0⟩⟩
 obtain ⟨d,hd⟩:∃ d:Array (EC f ok m w S),d=Array.ofFn el:=⟨_,rfl⟩
 have hds:d.size=l.length:=by rw [hd];simp
 have hdg:∀ i (hi:i < l.length),d[i]! = el ⟨i,hi⟩:=fun i hi=>by
  rw [getElem!_pos d i (by omega)]
  simp [hd]
 have hH:Sort.HoldsK (fun E:EC f ok m w S=>E.cs) m w b 0 d:=by
  intro t ht
  have ht':t < l.length * m:=by rw [Sort.size_flatK,hds] at ht;exact ht
  have hdiv:t / m < l.length:=Nat.div_lt_of_lt_mul (by rw [Nat.mul_comm];exact ht')
  have hmod:t % m < m:=Nat.mod_lt _ k0
  have htm:t / m * m + t % m=t:=by rw [Nat.mul_comm];exact Nat.div_add_mod t m
  refine ⟨?_,?_⟩
  · rw [Nat.zero_add,cell_of_row w b t c e (0,0) hb]
    show _=some (id (Sort.flatK _ m d)[t]!)
    rw [Sort.get_flatK _ _ _ _ (by rw [hds];exact ht'),hdg _ hdiv]
    have h2:=(hel ⟨t / m,hdiv⟩).2 (t % m) hmod
    simp only at h2
    rw [htm] at h2
    have h3:t < c.size:=by omega
    rw [Array.getElem?_eq_getElem h3] at h2 ⊢
    simp only [id]
    congr 1
    rw [getElem!_pos (el ⟨t / m,hdiv⟩).cs (t % m) (List.getElem?_eq_some_iff.1 h2).1]
    exact (List.getElem?_eq_some_iff.1 h2).2.symm
  · simp [World.frozen?,hb]
 have hheap:∀ (mm:Nat)(dk:Array (EC f ok m w S))(os:Array Go.Obj)(b':Nat),b'≠b→b' < w.heap.size→(Go.Proofs.sortWorldK (fun E:EC f ok m w S=>E.cs) m w b 0 mm dk os).heap[b']? = w.heap[b']?:=fun mm dk os b' hne hlt=>by
  unfold Go.Proofs.sortWorldK Sort.putRowK
  rw [zdj (Sort.ahead w mm) b c e (0,0) _ hb]
  show ((World.setRow _ b _).heap ++ os)[b']? = _
  rw [Array.getElem?_append_left (by rw [vu];exact hlt),xU _ _ _ hne]
  rfl
 have hcmp':Go.Proofs.CmpLays P g0 #[] (fun E:EC f ok m w S=>E.cs) m (fun x y=>cf x.e y.e) b 0 d.size w:=by
  intro mm os dk hdk x y
  have hc:=(hcmp x.e y.e x.ok y.ok).2 (Go.Proofs.sortWorldK (fun E:EC f ok m w S=>E.cs) m w b 0 mm dk os) S [.agg x.cs.toArray,.agg y.cs.toArray] (fun b' hb'=>by
    have h1:=hs.hS b' hb'
    unfold Go.Proofs.sortWorldK Sort.putRowK
    rw [zdj (Sort.ahead w mm) b c e (0,0) _ hb]
    show b' < ((World.setRow _ b _).heap ++ os).size
    rw [Array.size_append,vu]
    show b' < w.heap.size + _
    omega)
   ((hst.1 _ _ _ _ hs.hJ).same (fun b' hb'=>hheap mm dk os b' (hnS b' hb') (hs.hS b' hb')) fun _ h=>h)
   ⟨rfl, fun i v z h1 h2=>by
    match i with
    | 0=>cases h1;cases h2;exact x.rep.mono (fun b' hb'=>hheap mm dk os b' (hnS b' hb') (hs.hS b' hb')) fun _ h=>h
    | 1=>cases h1;cases h2;exact y.rep.mono (fun b' hb'=>hheap mm dk os b' (hnS b' hb') (hs.hS b' hb')) fun _ h=>h
    | i + 2=>cases h1⟩
  refine ((callsIn_wide (n:=0)).1 hc).mono fun en w' he'=>?_
  obtain ⟨x',S',rfl,hr,_,_,hgw⟩:=he'
  cases hr
  exact ⟨rfl,zl4 hgw⟩
 have hO':Sort.SWO (Go.Proofs.ltOf fun x y:EC f ok m w S=>cf x.e y.e):=⟨fun x=>hO.irrefl x.e,fun x y z=>hO.trans x.e y.e z.e,fun x y z=>hO.ntrans x.e y.e z.e⟩
 have hcall:=(callsIn_wide (n:=0)).2 (Go.Proofs.AnyQ.slices_SortFunc Ly m aE zE (fun E:EC f ok m w S=>E.cs) (fun x=>x.hl) (fun x=>x.h1) (fun x y=>cf x.e y.e) hO' g0 #[] b 0 cap d w eg hcmp' hH hgl (by rw [hds];exact hsz))
 rw [hds] at hcall
 simp only [Nat.zero_mul]
 refine hcall.mono fun en w' he'=>?_
 obtain ⟨rfl,d',n,os,hperm,hsorted,rfl⟩:=he'
 have hd's:d'.size=l.length:=hperm.1.trans hds
 obtain ⟨l',hl'⟩:∃ l':List α,l' = d'.toList.map EC.e:=⟨_,rfl⟩
 have hll:l'.length=l.length:=by rw [hl'];simp [hd's]
 have hpl:l'.Perm l:=by
  have h1:=hperm.2.2
  rw [← hds] at h1
  rw [show d'.extract 0 d.size=d' from by rw [show d.size=d'.size by omega];simp,show d.extract 0 d.size=d by simp] at h1
  have h2:=h1.map EC.e
  rw [hl']
  refine h2.trans ?_
  have:d.toList.map EC.e=l:=by
   apply List.ext_getElem
   · simp [hds]
   · intro i h3 h4
     simp only [List.getElem_map,Array.getElem_toList]
     have:=hdg i h4
     rw [getElem!_pos d i (by omega)] at this
     rw [this]
     exact (hel ⟨i,h4⟩).1
  rw [this]
 have hsl:l'.Pairwise fun x y=>¬ cf y x < 0:=by
  rw [hl',List.pairwise_iff_getElem]
  intro i j hi hj hij
  have hi':i < d'.size:=by simpa using hi
  have hj':j < d'.size:=by simpa using hj
  have:=hsorted i j (Nat.zero_le _) hij (by omega)
  rw [getElem!_pos d' i hi',getElem!_pos d' j hj'] at this
  simp only [List.getElem_map,Array.getElem_toList]
  simpa [Go.Proofs.ltOf] using this
 have hg1:Grow w (Sort.ahead w n):=⟨Nat.le_refl _,rfl,rfl,⟨rfl,by simp⟩,fun _ _=>rfl⟩
 have hs1:=St.grow hst hs hg1 (N:=fun _=>False) (fun b hb=>hb.elim) (fun b hb=>hb.elim)
 have hf1:=Fr.grow hs hg1 (N:=fun _=>False) (fun b hb=>hb.elim)
 have hb1:(Sort.ahead w n).heap[b]? = some (.cells c e (0,0)):=hb
 unfold Go.Proofs.sortWorldK Sort.putRowK
 rw [zdj _ b c e (0,0) _ hb1]
 obtain ⟨c',hc'⟩:∃ c',c' = Sort.putCells id 0 (Sort.flatK (fun E:EC f ok m w S=>E.cs) m d') c:=⟨_,rfl⟩
 rw [← hc']
 have hcz:c'.size=c.size:=by rw [hc'];simp [Sort.putCells]
 have hf2:Fr (Sort.ahead w n) (fun b=>S b∨False) F θ σ ((Sort.ahead w n).setRow b c') (fun b=>S b∨False) F θ (ups σ nm (.arr gen (l'.map f))):=by
  refine Fr.write hs1 nm b m c c' e _ hlv hθ hb1 hcz ?_
  rw [hσ]
  exact ⟨l'.map f,.inl ⟨rfl,by simp [hll]⟩⟩
 have hk:BlkOk ((Sort.ahead w n).setRow b c') (fun b=>S b∨False) θ (ups σ nm (.arr gen (l'.map f))) lc nm (.arr gen (l'.map f)):=by
  refine .inr ⟨b,m,c',e,hθ,setRow_heap _ b c c' _ _ hb1,fun row hrow=>?_,⟨hw.symm,by simp [hll,hcz];exact hcs⟩,fun i j row v h1 h2=>?_⟩
  · obtain ⟨z,_,rfl⟩:=List.mem_map.1 hrow
    obtain ⟨lv,q1,q2,_⟩:=hf z
    rw [q1]
    exact q2
  · rw [List.getElem?_map] at h1
    cases h3:l'[i]? with
    | none=>rw [h3] at h1;cases h1
    | some z =>
     rw [h3] at h1
     cases h1
     have hi:i < l'.length:=(List.getElem?_eq_some_iff.1 h3).1
     have hid:i < d'.size:=by omega
     obtain ⟨lv,q1,q2,q3⟩:=hf z
     rw [q1] at h2
     have hjm:j < m:=by have:=(List.getElem?_eq_some_iff.1 h2).1;simp only [V.cells] at this;omega
     have hez:(d'[i]!).e=z:=by
      have:=(List.getElem?_eq_some_iff.1 h3).2
      simp only [hl',List.getElem_map,Array.getElem_toList] at this
      rw [getElem!_pos d' i hid]
      exact this
     have hrp:=(d'[i]!).rep
     rw [hez,q1] at hrp
     obtain ⟨_,hrp2⟩:=zuC hrp
     obtain ⟨y,hy1,hy2⟩:=hrp2 j v h2
     have hp:=hpos i j (by omega) hjm
     have hlt:i * m + j < d'.size * m:=by
      have:(i + 1) * m≤d'.size * m:=Nat.mul_le_mul_right _ hid
      rw [Nat.add_mul] at this
      omega
     refine ⟨y,?_,hy2.mono (fun b' hb'=>?_) fun _ h=>.inl h⟩
     · rw [hc',znZ,Array.getElem?_eq_getElem hp]
       simp only [Option.map_some,Sort.size_flatK,if_pos hlt]
       rw [Sort.get_flatK _ _ _ _ hlt]
       have e1:(i * m + j) / m=i:=by rw [Nat.mul_comm,Nat.mul_add_div k0,Nat.div_eq_of_lt hjm,Nat.add_zero]
       have e2:(i * m + j) % m=j:=by rw [Nat.mul_comm,Nat.mul_add_mod,Nat.mod_eq_of_lt hjm]
       rw [e1,e2]
       congr 1
       have hy3:(d'[i]!).cs[j]? = some y:=by simpa using hy1
       rw [getElem!_pos (d'[i]!).cs j (List.getElem?_eq_some_iff.1 hy3).1]
       exact (List.getElem?_eq_some_iff.1 hy3).2
     · rw [xU _ _ _ (hnS b' hb')]
       rfl
 have hs2:=St.write hst hs1 nm b m c' _ hlv hθ hf2 hk
 have hg3:Grow ((Sort.ahead w n).setRow b c') (Sort.grow ((Sort.ahead w n).setRow b c') os) :=
  ⟨by simp [Sort.grow],rfl,rfl,Out.refl _,fun b' hb'=>by simp [Sort.grow,Array.getElem?_append_left hb']⟩
 have hs3:=St.grow hst hs2 hg3 (N:=fun _=>False) (fun b hb=>hb.elim) (fun b hb=>hb.elim)
 have hf3:=Fr.grow hs2 hg3 (N:=fun _=>False) (fun b hb=>hb.elim)
 refine ⟨.tup [],_,_,g,_,F,θ,rfl,⟨rfl,⟨l',hpl,hsl,rfl⟩,rfl⟩,hs3,.pure (.tup [] [] rfl fun i v x h1 h2=>by simp at h1),(hf1.trans hs1 hf2).trans hs2 hf3,fun nm' hnm=>?_⟩
 have h5:nm'≠nm:=fun h=>by rw [h] at hnm;have:=hpn nm hnm;rw [this] at hσ;cases hσ
 rw [ze σ _ h5]
 exact hpn nm' hnm
end Hm
end
section
namespace Go.Proofs
open Go.Shelf
def Tryz.sortA_ren:Go.Shelf.Ren:=⟨fun|6=>161|14=>185|15=>53|20=>195|21=>196|22=>197|23=>198|24=>199|25=>200|26=>201|27=>202|28=>103|29=>104|46=>212|47=>137|48=>138|49=>213|50=>214|57=>218|n=>n,fun|0=>0|3=>3|4=>4|5=>5|9=>9|22=>48|25=>240|39=>126|45=>196|46=>197|50=>132|53=>88|55=>204|66=>247|70=>251|76=>279|77=>73|24=>111|n=>n,fun n=>n⟩
theorem Tryz.sortA_lays:SlLaysF0.n6 Tryz.prog Tryz.sortA_ren :=
 {
  mixed:=by kernel_rfl,
  f6:=⟨Tryz.f161.name,by kernel_rfl,Tryz.func161.trans (congrArg some (by kernel_rfl))⟩,
  f14:=⟨Tryz.f185.name,by kernel_rfl,Tryz.func185.trans (congrArg some (by kernel_rfl))⟩,
  f15:=Tryz.func53.trans (congrArg some (by kernel_rfl)),
  f20:=⟨Tryz.f195.name,by kernel_rfl,Tryz.func195.trans (congrArg some (by kernel_rfl))⟩,
  f21:=⟨Tryz.f196.name,by kernel_rfl,Tryz.func196.trans (congrArg some (by kernel_rfl))⟩,
  f22:=⟨Tryz.f197.name,by kernel_rfl,Tryz.func197.trans (congrArg some (by kernel_rfl))⟩,
  f23:=⟨Tryz.f198.name,by kernel_rfl,Tryz.func198.trans (congrArg some (by kernel_rfl))⟩,
  f24:=⟨Tryz.f199.name,by kernel_rfl,Tryz.func199.trans (congrArg some (by kernel_rfl))⟩,
  f25:=⟨Tryz.f200.name,by kernel_rfl,Tryz.func200.trans (congrArg some (by kernel_rfl))⟩,
  f26:=⟨Tryz.f201.name,by kernel_rfl,Tryz.func201.trans (congrArg some (by kernel_rfl))⟩,
  f27:=⟨Tryz.f202.name,by kernel_rfl,Tryz.func202.trans (congrArg some (by kernel_rfl))⟩,
  f28:=Tryz.func103.trans (congrArg some (by kernel_rfl)),
  f29:=Tryz.func104.trans (congrArg some (by kernel_rfl)),
  f46:=⟨Tryz.f212.name,by kernel_rfl,Tryz.func212.trans (congrArg some (by kernel_rfl))⟩,
  f47:=Tryz.func137.trans (congrArg some (by kernel_rfl)),
  f48:=Tryz.func138.trans (congrArg some (by kernel_rfl)),
  f49:=⟨Tryz.f213.name,by kernel_rfl,Tryz.func213.trans (congrArg some (by kernel_rfl))⟩,
  f50:=⟨Tryz.f214.name,by kernel_rfl,Tryz.func214.trans (congrArg some (by kernel_rfl))⟩,
  f57:=⟨Tryz.f218.name,by kernel_rfl,Tryz.func218.trans (congrArg some (by kernel_rfl))⟩,
  t0:=Tryz.underlying0,
  a0:=Tryz.isAgg0,
  z0:=Tryz.sizeOf0,
  v0:=Tryz.zeroValue0,
  t3:=Tryz.underlying3,
  a3:=Tryz.isAgg3,
  z3:=Tryz.sizeOf3,
  v3:=Tryz.zeroValue3,
  t4:=Tryz.underlying4,
  a4:=Tryz.isAgg4,
  z4:=Tryz.sizeOf4,
  v4:=Tryz.zeroValue4,
  t5:=Tryz.underlying5,
  a5:=Tryz.isAgg5,
  z5:=Tryz.sizeOf5,
  v5:=Tryz.zeroValue5,
  t9:=Tryz.underlying9,
  a9:=Tryz.isAgg9,
  z9:=Tryz.sizeOf9,
  v9:=Tryz.zeroValue9,
  t22:=Tryz.underlying48,
  a22:=Tryz.isAgg48,
  z22:=Tryz.sizeOf48,
  v22:=Tryz.zeroValue48,
  t25:=Tryz.underlying240,
  a25:=Tryz.isAgg240,
  z25:=Tryz.sizeOf240,
  v25:=Tryz.zeroValue240,
  t39:=Tryz.underlying126,
  a39:=Tryz.isAgg126,
  z39:=Tryz.sizeOf126,
  v39:=Tryz.zeroValue126,
  t45:=Tryz.underlying196,
  a45:=Tryz.isAgg196,
  z45:=Tryz.sizeOf196,
  v45:=Tryz.zeroValue196,
  t46:=Tryz.underlying197,
  a46:=Tryz.isAgg197,
  z46:=Tryz.sizeOf197,
  v46:=Tryz.zeroValue197,
  t50:=Tryz.underlying132,
  a50:=Tryz.isAgg132,
  z50:=Tryz.sizeOf132,
  v50:=Tryz.zeroValue132,
  t53:=Tryz.underlying88,
  a53:=Tryz.isAgg88,
  z53:=Tryz.sizeOf88,
  v53:=Tryz.zeroValue88,
  t55:=Tryz.underlying204,
  a55:=Tryz.isAgg204,
  z55:=Tryz.sizeOf204,
  v55:=Tryz.zeroValue204,
  t66:=Tryz.underlying247,
  a66:=Tryz.isAgg247,
  z66:=Tryz.sizeOf247,
  v66:=Tryz.zeroValue247,
  t70:=Tryz.underlying251,
  a70:=Tryz.isAgg251,
  z70:=Tryz.sizeOf251,
  v70:=Tryz.zeroValue251,
  t76:=Tryz.underlying279,
  a76:=Tryz.isAgg279,
  z76:=Tryz.sizeOf279,
  v76:=Tryz.zeroValue279,
  t77:=Tryz.underlying73,
  a77:=Tryz.isAgg73,
  z77:=Tryz.sizeOf73,
  v77:=Tryz.zeroValue73 }
end Go.Proofs
end
section
namespace Hm
open Go
theorem ku (w:World)(b:Nat)(c:Array Value)(e:TypeId)(fr:Nat × Nat)(d:Array Int)(hb:w.heap[b]? = some (.cells c e fr)) :
  Sort.putRow (Value.int .i64) w b 0 d=w.setRow b (Sort.putCells (Value.int .i64) 0 d c):=by
 unfold Sort.putRow Sort.mapBlock World.setRow
 congr 1
 apply Array.ext_getElem?
 intro k
 simp only [Array.getElem?_modify]
 by_cases hk:b=k
 · subst hk
   simp [hb,Sort.onCells]
 · simp [hk]
theorem zb7 (d:Array Int)(c:Array Value)(j:Nat):(Sort.putCells (Value.int .i64) 0 d c)[j]? = (c[j]?).map fun x=>if j < d.size then Value.int .i64 d[j]! else x:=by
 unfold Sort.putCells
 rw [Array.getElem?_mapIdx]
 simp
theorem ct_sort {G:Type}{P:Program}{H:HT G}{ρ:Shelf.Ren} (Ly:Go.Proofs.Lays.n189 P ρ)(nm gen:Nat)(l:List Int) {pn:List Nat}{σ:za}{g:G} (hw:wd nm=1)(hσ:σ nm=.arr gen (l.map zk))(hpn:∀ nm',nm' ∉ pn→σ nm' = .zc)
  (h0:Fn P (ρ.f 189) [.sl .p []] (.tup []))(hsz:l.length < 4611686018427387904) :
  CT P H (ρ.f 189) [.msl nm gen 0 l.length] pn σ g fun v σ' g'=>v=.tup []∧σ' = ups σ nm (.arr gen ((wA l).map zk))∧g' = g:=by
 by_cases hl:l=[]
 · subst hl
   have:=zew (G:=G) (H:=H) (P:=P) (f:=ρ.f 189) (args:=[.msl nm gen 0 0]) (r:=.tup []) (pn:=pn) (σ:=σ) (g:=g) (by simpa [er,hσ] using h0) rfl hpn
   refine wg (fun v σ' g' h=>?_) this
   refine ⟨h.1,?_,h.2.2⟩
   rw [h.2.1]
   exact (zex (by simpa [wA] using hσ)).symm
 refine ⟨h0.1,fun J lc hst hM hH w S F θ xs hs hargs=>?_⟩
 obtain ⟨hlen,hrep⟩:=hargs
 match xs,hlen with
 | [x],_ =>
 have hx:=hrep 0 _ x rfl rfl
 have hlen0:0 < l.length:=List.length_pos_iff.2 hl
 obtain ⟨b,m,cap,hθ,hcap,rfl,hck,hle⟩:∃ b m cap,θ nm=some (b,m)∧l.length≤cap∧x=.slice (some ⟨b,0 * m,none⟩) l.length cap∧CapOk w b ((0 + cap) * m)∧0 + l.length≤(l.map zk).length:=by
  cases hx with
  | pure h=>cases h
  | msl _ _ _ _ _ _ _ _ h =>
   rcases h _ hσ with h|⟨h,_⟩
   · exact h
   · omega
 have hlv:(σ nm).live:=yQ hσ
 have hblk:=hs.hblk nm
 rw [hσ] at hblk
 simp only [BlkOk] at hblk
 rcases hblk with ⟨hn,_⟩|⟨b',m',c,e,hθ',hb,hrows,⟨hm,hsz'⟩,hcells⟩
 · rw [hθ] at hn;cases hn
 rw [hθ] at hθ'
 injection hθ' with hθ'
 injection hθ' with e1 e2
 subst e1 e2
 rw [hw] at hm
 subst hm
 have hgl:b < w.heap.size:=(Array.getElem?_eq_some_iff.1 hb).1
 have hcs:l.length≤c.size:=by simpa using hsz'
 have hcell:∀ j (hj:j < l.length),c[j]? = some (.int .i64 l[j]):=by
  intro j hj
  obtain ⟨y,h1,h2⟩:=hcells j 0 (zk l[j]) (zk l[j]) (by rw [List.getElem?_map,List.getElem?_eq_getElem hj];rfl) rfl
  cases h2
  simpa using h1
 have hH:Sort.Holds (Value.int .i64) w b 0 l.toArray:=by
  intro j hj
  have hj':j < l.length:=by simpa using hj
  refine ⟨?_,?_⟩
  · rw [Nat.zero_add,cell_of_row w b j c e (0,0) hb,hcell j hj']
    simp [hj']
  · simp [World.frozen?,hb]
 have hcall:=(callsIn_wide (n:=0)).2 (Go.Proofs.Any.slices_Sort_int Ly b 0 cap l w hH hgl hsz)
 simp only [Nat.zero_mul]
 refine hcall.mono fun en w' he'=>?_
 obtain ⟨rfl,n,os,rfl⟩:=he'
 have hg1:Grow w (Sort.ahead w n):=⟨Nat.le_refl _,rfl,rfl,⟨rfl,by first|exact Nat.le_refl _|exact Nat.le_add_right _ _|(unfold Sort.ahead;simp)⟩,fun _ _=>rfl⟩
 have hs1:=St.grow hst hs hg1 (N:=fun _=>False) (fun b hb=>hb.elim) (fun b hb=>hb.elim)
 have hf1:=Fr.grow hs hg1 (N:=fun _=>False) (fun b hb=>hb.elim)
 have hb1:(Sort.ahead w n).heap[b]? = some (.cells c e (0,0)):=hb
 have hsl:(wA l).length=l.length:=zjr l
 rw [show (l.mergeSort fun x y=>decide (x≤y))=wA l from rfl,ku _ b c e (0,0) _ hb1]
 generalize hc':Sort.putCells (Value.int .i64) 0 (wA l).toArray c=c'
 have hcz:c'.size=c.size:=by rw [← hc'];simp [Sort.putCells]
 have hf2:Fr (Sort.ahead w n) (fun b=>S b∨False) F θ σ ((Sort.ahead w n).setRow b c') (fun b=>S b∨False) F θ (ups σ nm (.arr gen ((wA l).map zk))):=by
  refine Fr.write hs1 nm b 1 c c' e _ hlv hθ hb1 hcz ?_
  rw [hσ]
  exact ⟨(wA l).map zk,.inl ⟨rfl,by simp [hsl]⟩⟩
 have hk:BlkOk ((Sort.ahead w n).setRow b c') (fun b=>S b∨False) θ (ups σ nm (.arr gen ((wA l).map zk))) lc nm (.arr gen ((wA l).map zk)):=by
  refine .inr ⟨b,1,c',e,hθ,setRow_heap _ b c c' _ _ hb1,fun row hrow=>?_,⟨hw.symm,by simp [hsl,hcz];exact hcs⟩,fun i j row v h1 h2=>?_⟩
  · obtain ⟨_,_,rfl⟩:=List.mem_map.1 hrow;rfl
  · rw [List.getElem?_map] at h1
    cases h3:(wA l)[i]? with
    | none=>rw [h3] at h1;cases h1
    | some z =>
     rw [h3] at h1
     cases h1
     have hi:i < (wA l).length:=yn h3
     cases j with
     | succ j=>cases h2
     | zero =>
      cases h2
      refine ⟨.int .i64 z,?_,.int _ _⟩
      rw [Nat.mul_one,Nat.add_zero,← hc',zb7,hcell i (by omega)]
      have h4:i < l.length:=by omega
      simp only [Option.map_some,List.size_toArray,hsl,if_pos h4]
      rw [getElem!_pos _ i (by simpa using hi)]
      simp [(List.getElem?_eq_some_iff.1 h3).2]
 have hs2:=St.write hst hs1 nm b 1 c' _ hlv hθ hf2 hk
 have hg3:Grow ((Sort.ahead w n).setRow b c') (Sort.grow ((Sort.ahead w n).setRow b c') os) :=
  ⟨by simp [Sort.grow],rfl,rfl,⟨rfl,by first|exact Nat.le_refl _|(unfold Sort.grow;simp)⟩,fun b' hb'=>by simp [Sort.grow,Array.getElem?_append_left hb']⟩
 have hs3:=St.grow hst hs2 hg3 (N:=fun _=>False) (fun b hb=>hb.elim) (fun b hb=>hb.elim)
 have hf3:=Fr.grow hs2 hg3 (N:=fun _=>False) (fun b hb=>hb.elim)
 refine ⟨.tup [],_,_,g,_,F,θ,rfl,⟨rfl,rfl,rfl⟩,hs3,.pure (.tup [] [] rfl fun i v x h1 h2=>by simp at h1),(hf1.trans hs1 hf2).trans hs2 hf3,fun nm' hnm=>?_⟩
 have h5:nm'≠nm:=fun h=>by rw [h] at hnm;have:=hpn nm hnm;rw [this] at hσ;cases hσ
 rw [ze σ _ h5]
 exact hpn nm' hnm
end Hm
end
section
namespace Go.Proofs
open Go.Shelf
def Tryz.sort_ren:Go.Shelf.Ren:=⟨fun|189=>165|125=>53|257=>186|128=>103|129=>104|294=>203|295=>204|296=>205|297=>206|298=>207|299=>208|216=>108|300=>209|301=>210|328=>215|329=>137|330=>138|331=>216|332=>217|215=>105|343=>219|n=>n,fun|28=>22|3=>3|46=>126|0=>0|51=>88|53=>204|4=>4|183=>197|182=>196|131=>132|5=>5|9=>9|218=>247|222=>251|228=>279|229=>73|n=>n,fun n=>n⟩
theorem Tryz.sort_lays:Lays.n189 Tryz.prog Tryz.sort_ren :=
 {
  mixed:=by kernel_rfl,
  f125:=Tryz.func53.trans (congrArg some (by kernel_rfl)),
  f128:=Tryz.func103.trans (congrArg some (by kernel_rfl)),
  f129:=Tryz.func104.trans (congrArg some (by kernel_rfl)),
  f189:=Tryz.func165.trans (congrArg some (by kernel_rfl)),
  f215:=Tryz.func105.trans (congrArg some (by kernel_rfl)),
  f216:=Tryz.func108.trans (congrArg some (by kernel_rfl)),
  f257:=Tryz.func186.trans (congrArg some (by kernel_rfl)),
  f294:=Tryz.func203.trans (congrArg some (by kernel_rfl)),
  f295:=Tryz.func204.trans (congrArg some (by kernel_rfl)),
  f296:=Tryz.func205.trans (congrArg some (by kernel_rfl)),
  f297:=Tryz.func206.trans (congrArg some (by kernel_rfl)),
  f298:=Tryz.func207.trans (congrArg some (by kernel_rfl)),
  f299:=Tryz.func208.trans (congrArg some (by kernel_rfl)),
  f300:=Tryz.func209.trans (congrArg some (by kernel_rfl)),
  f301:=Tryz.func210.trans (congrArg some (by kernel_rfl)),
  f328:=Tryz.func215.trans (congrArg some (by kernel_rfl)),
  f329:=Tryz.func137.trans (congrArg some (by kernel_rfl)),
  f330:=Tryz.func138.trans (congrArg some (by kernel_rfl)),
  f331:=Tryz.func216.trans (congrArg some (by kernel_rfl)),
  f332:=Tryz.func217.trans (congrArg some (by kernel_rfl)),
  f343:=Tryz.func219.trans (congrArg some (by kernel_rfl)),
  t0:=Tryz.underlying0,
  a0:=Tryz.isAgg0,
  z0:=Tryz.sizeOf0,
  v0:=Tryz.zeroValue0,
  t3:=Tryz.underlying3,
  a3:=Tryz.isAgg3,
  z3:=Tryz.sizeOf3,
  v3:=Tryz.zeroValue3,
  t4:=Tryz.underlying4,
  a4:=Tryz.isAgg4,
  z4:=Tryz.sizeOf4,
  v4:=Tryz.zeroValue4,
  t5:=Tryz.underlying5,
  a5:=Tryz.isAgg5,
  z5:=Tryz.sizeOf5,
  v5:=Tryz.zeroValue5,
  t9:=Tryz.underlying9,
  a9:=Tryz.isAgg9,
  z9:=Tryz.sizeOf9,
  v9:=Tryz.zeroValue9,
  t28:=Tryz.underlying22,
  a28:=Tryz.isAgg22,
  z28:=Tryz.sizeOf22,
  v28:=Tryz.zeroValue22,
  t46:=Tryz.underlying126,
  a46:=Tryz.isAgg126,
  z46:=Tryz.sizeOf126,
  v46:=Tryz.zeroValue126,
  t51:=Tryz.underlying88,
  a51:=Tryz.isAgg88,
  z51:=Tryz.sizeOf88,
  v51:=Tryz.zeroValue88,
  t53:=Tryz.underlying204,
  a53:=Tryz.isAgg204,
  z53:=Tryz.sizeOf204,
  v53:=Tryz.zeroValue204,
  t131:=Tryz.underlying132,
  a131:=Tryz.isAgg132,
  z131:=Tryz.sizeOf132,
  v131:=Tryz.zeroValue132,
  t182:=Tryz.underlying196,
  a182:=Tryz.isAgg196,
  z182:=Tryz.sizeOf196,
  v182:=Tryz.zeroValue196,
  t183:=Tryz.underlying197,
  a183:=Tryz.isAgg197,
  z183:=Tryz.sizeOf197,
  v183:=Tryz.zeroValue197,
  t218:=Tryz.underlying247,
  a218:=Tryz.isAgg247,
  z218:=Tryz.sizeOf247,
  v218:=Tryz.zeroValue247,
  t222:=Tryz.underlying251,
  a222:=Tryz.isAgg251,
  z222:=Tryz.sizeOf251,
  v222:=Tryz.zeroValue251,
  t228:=Tryz.underlying279,
  a228:=Tryz.isAgg279,
  z228:=Tryz.sizeOf279,
  v228:=Tryz.zeroValue279,
  t229:=Tryz.underlying73,
  a229:=Tryz.isAgg73,
  z229:=Tryz.sizeOf73,
  v229:=Tryz.zeroValue73 }
end Go.Proofs
namespace Hm
open Go
set_option maxRecDepth 100000
set_option maxHeartbeats 1000000
def zhx:Cmd :=
 (qS [qc 2 0]
 (qT (qS [qm 3 0,qq 4 (.bin .geq false [] (.t 3) (.c (.int .u64 4294967296)))]
 (.cond (.t 4) (qS [qm 5 0,qq 6 (.bin .shr false [] (.t 5) (.c (.int .u64 32))),qm 0 6]
 (.ops [qc 2 32])) .skip))
 (qT (qS [qm 7 0,qq 8 (.bin .geq false [] (.t 7) (.c (.int .u64 65536)))]
 (.cond (.t 8) (qS [qm 9 0,qq 10 (.bin .shr false [] (.t 9) (.c (.int .u64 16))),qm 0 10]
 (.ops [qm 11 2,qv 12 .add [] 11 16,qm 2 12])) .skip))
 (qT (qS [qm 13 0,qq 14 (.bin .geq false [] (.t 13) (.c (.int .u64 256)))]
 (.cond (.t 14) (qS [qm 15 0,qq 16 (.bin .shr false [] (.t 15) (.c (.int .u64 8))),qm 0 16]
 (.ops [qm 17 2,qv 18 .add [] 17 8,qm 2 18])) .skip))
 (.seq (.ops [qm 19 2,qm 20 0,qq 21 (.conv .u8 (.t 20)),qq 22 (.index (.c (.str [0,1,2,2,3,3,3,3,4,4,4,4,4,4,4,4,5,5,5,5,5,5,5,5,5,5,5,5,5,5,5,5,6,6,6,6,6,6,6,6,6,6,6,6,6,6,6,6,6,6,6,6,6,6,6,6,6,6,6,6,6,6,6,6,7,7,7,7,7,7,7,7,7,7,7,7,7,7,7,7,7,7,7,7,7,7,7,7,7,7,7,7,7,7,7,7,7,7,7,7,7,7,7,7,7,7,7,7,7,7,7,7,7,7,7,7,7,7,7,7,7,7,7,7,7,7,7,7,8,8,8,8,8,8,8,8,8,8,8,8,8,8,8,8,8,8,8,8,8,8,8,8,8,8,8,8,8,8,8,8,8,8,8,8,8,8,8,8,8,8,8,8,8,8,8,8,8,8,8,8,8,8,8,8,8,8,8,8,8,8,8,8,8,8,8,8,8,8,8,8,8,8,8,8,8,8,8,8,8,8,8,8,8,8,8,8,8,8,8,8,8,8,8,8,8,8,8,8,8,8,8,8,8,8,8,8,8,8,8,8,8,8,8,8,8,8,8,8,8,8,8,8,8,8,8,8])) (.t 21)),qq 23 (.conv .i64 (.t 22)),qu 24 .add [] 19 23,qm 2 24]) .ret)))))
def zhy:List RVar:=[.tmp 2]
def zhz:Nat:=25
theorem zhA:zj Go.Proofs.Tryz.prog 104 zhz zhy zhx=true:=by kernel_rfl
theorem zl6:Fc Go.Proofs.Tryz.prog 104 [.int .u64 0] (.int .i64 0):=by
 refine Fn.step zf zhA ?_
 repeat' (first|refine i_s rfl ?_|refine sw ?_|refine c_f rfl ?_|refine jc rfl ?_|fail)
 refine zwC rfl rfl (by decide) (c:=0) (by decide +kernel) ?_
 skip
 refine zfS (n:=0) rfl ⟨by decide,by decide⟩ ?_
 repeat' (first|refine i_s rfl ?_|refine sw ?_|refine ja rfl rfl ?_|fail)
 exact zb ⟨rfl,_,rfl,rfl⟩
def zkD:Cmd :=
 (qS [qc 2 0]
 (qT (.cond (.c (.bool false)) (.seq (.ops [qm 3 0,qq 4 (.conv .u32 (.t 3)),qk 5 103 [4],qm 2 5]) .ret) .skip)
 (.seq (.ops [qm 6 0,qk 7 104 [6],qm 2 7]) .ret)))
def zkE:List RVar:=[.tmp 2]
def zkF:Nat:=8
theorem zkG:zj Go.Proofs.Tryz.prog 53 zkF zkE zkD=true:=by kernel_rfl
theorem zb8:Fc Go.Proofs.Tryz.prog 53 [.int .u64 0] (.int .i64 0):=by
 refine Fn.step zf zkG ?_
 repeat' (first|refine i_s rfl ?_|refine sw ?_|refine c_f rfl ?_|refine sf rfl rfl zl6 ?_|fail)
 exact zb ⟨rfl,_,rfl,rfl⟩
def uE:Cmd :=
 (qS [qm 8 1,qv 9 .add [] 8 1,qm 6 9]
 (.block 0 (.loop (qT (qS [qm 10 6,qm 11 2,qu 12 .lss [] 10 11]
 (.cond (.t 12) .skip (.exit 0)))
 (qT (.block 1 (qS [qm 15 6,qm 7 15]
 (.block 2 (.loop (qT (qS [qm 16 7,qm 17 1,qu 18 .gtr [] 16 17,qm 19 18,qg 20 19 true (.mov (.t 0)),qg 21 19 true (.mov (.t 7)),qg 22 19 true (.iaddr 1 (.t 20) (.t 21)),qg 23 19 true (.load false 1 (.t 22)),qg 24 19 true (.mov (.t 0)),qg 25 19 true (.mov (.t 7)),qg 26 19 true (.bin .sub false [] (.t 25) (.c (.int .i64 1))),qg 27 19 true (.iaddr 1 (.t 24) (.t 26)),qg 28 19 true (.load false 1 (.t 27)),qg 29 19 true (.call .f (.c (.fn 108 [])) [.t 23,.t 28]),qq 30 (.pick (.t 19) (.t 29) (.c (.bool false)))]
 (.cond (.t 30) .skip (.exit 2)))
 (qT (.block 3 (.ops [qm 33 0,qm 34 7,qm 35 0,qm 36 7,qv 37 .sub [] 36 1,qm 38 0,qm 39 7,qv 40 .sub [] 39 1,qi 41 1 38 40,ql 42 1 41,qm 43 0,qm 44 7,qi 45 1 43 44,ql 46 1 45,qi 47 1 33 34,qs 1 47 42,qi 48 1 35 37,qs 1 48 46]))
 (.ops [qm 31 7,qv 32 .sub [] 31 1,qm 7 32])))))))
 (.ops [qm 13 6,qv 14 .add [] 13 1,qm 6 14]))))))
def uF:List RVar:=[]
def uG:Nat:=49
theorem uH:zj Go.Proofs.Tryz.prog 203 uG uF uE=true:=by kernel_rfl
theorem zhB:Fc Go.Proofs.Tryz.prog 203 [.sl .p [],.int .i64 0,.int .i64 0] (.tup []):=by
 refine Fn.step zf uH ?_
 repeat' (first|refine i_s rfl ?_|refine sw ?_|refine ja rfl rfl ?_|fail)
 refine x5 (ι:=Unit) (fun _=>[(0,.sl .p []),(1,.int .i64 0),(2,.int .i64 0),(6,.int .i64 1)]) (fun _=>[]) (fun _=>True) (fun _=>0) () trivial ft fun _ _=>?_
 repeat' (first|refine i_s rfl ?_|refine sw ?_|refine c_f rfl ?_)
 refine ym ⟨rfl,_,rfl,rfl⟩
def jR:Cmd :=
 (qS [qb 8 true]
 (qS [qb 9 true]
 (.block 0 (.loop (.block 1 (qS [qm 19 2,qm 20 1,qu 21 .sub [] 19 20,qm 10 21]
 (qT (qS [qm 22 10,qv 23 .leq [] 22 12]
 (.cond (.t 23) (.seq (.ops [qm 24 0,qm 25 1,qm 26 2,qk 27 203 [24,25,26]]) .ret) .skip))
 (qT (qS [qm 28 3,qv 29 .eql [.i] 28 0]
 (.cond (.t 29) (.seq (.ops [qm 30 0,qm 31 1,qm 32 2,qk 33 204 [30,31,32]]) .ret) .skip))
 (qT (qS [qm 34 8,qq 35 (.not (.t 34))]
 (.cond (.t 35) (qS [qm 36 0,qm 37 1,qm 38 2,qk 39 205 [36,37,38]]
 (.ops [qm 40 3,qv 41 .sub [] 40 1,qm 3 41])) .skip))
 (qS [qm 43 0,qm 44 1,qm 45 2,qk 46 206 [43,44,45],qm 42 46,qq 47 (.extract (.t 42) 0),qq 48 (.extract (.t 42) 1),qm 11 47,qm 12 48]
 (qT (qS [qm 49 12,qv 50 .eql [.i] 49 2]
 (.cond (.t 50) (qS [qm 51 0,qm 52 1,qm 53 2,qk 54 207 [51,52,53]]
 (qS [qm 55 2,qv 56 .sub [] 55 1,qm 57 11,qm 58 1,qu 59 .sub [] 57 58,qu 60 .sub [] 56 59,qm 11 60]
 (.ops [qc 12 1]))) .skip))
 (qT (qS [qm 61 8,qm 62 61,qg 63 62 true (.mov (.t 9)),qq 64 (.pick (.t 62) (.t 63) (.c (.bool false))),qm 65 64,qg 66 65 true (.mov (.t 12)),qg 67 65 true (.bin .eql false [.i] (.t 66) (.c (.int .i64 1))),qq 68 (.pick (.t 65) (.t 67) (.c (.bool false)))]
 (.cond (.t 68) (qS [qm 69 0,qm 70 1,qm 71 2,qk 72 208 [69,70,71]]
 (.cond (.t 72) .ret .skip)) .skip))
 (qT (qS [qm 73 1,qv 74 .gtr [] 73 0,qm 75 74,qg 76 75 true (.mov (.t 0)),qg 77 75 true (.mov (.t 1)),qg 78 75 true (.bin .sub false [] (.t 77) (.c (.int .i64 1))),qg 79 75 true (.iaddr 1 (.t 76) (.t 78)),qg 80 75 true (.load false 1 (.t 79)),qg 81 75 true (.mov (.t 0)),qg 82 75 true (.mov (.t 11)),qg 83 75 true (.iaddr 1 (.t 81) (.t 82)),qg 84 75 true (.load false 1 (.t 83)),qg 85 75 true (.call .f (.c (.fn 108 [])) [.t 80,.t 84]),qg 86 75 true (.not (.t 85)),qq 87 (.pick (.t 75) (.t 86) (.c (.bool false)))]
 (.cond (.t 87) (qS [qm 88 0,qm 89 1,qm 90 2,qm 91 11,qk 92 209 [88,89,90,91],qm 13 92]
 (qS [qm 93 13,qm 1 93]
 (.exit 1))) .skip))
 (qS [qm 95 0,qm 96 1,qm 97 2,qm 98 11,qk 99 210 [95,96,97,98],qm 94 99,qq 100 (.extract (.t 94) 0),qq 101 (.extract (.t 94) 1),qm 14 100,qm 15 101]
 (qS [qm 102 15,qm 9 102]
 (qS [qm 103 14,qm 104 1,qu 105 .sub [] 103 104,qm 106 2,qm 107 14,qu 108 .sub [] 106 107,qm 16 105,qm 17 108]
 (qS [qm 109 10,qv 110 .quo [] 109 8,qm 18 110]
 (qS [qm 111 16,qm 112 17,qu 113 .lss [] 111 112]
 (.cond (.t 113) (qS [qm 114 16,qm 115 18,qu 116 .geq [] 114 115,qm 8 116]
 (qS [qm 117 0,qm 118 1,qm 119 14,qm 120 3,qk 121 186 [117,118,119,120]]
 (.ops [qm 122 14,qv 123 .add [] 122 1,qm 1 123]))) (qS [qm 124 17,qm 125 18,qu 126 .geq [] 124 125,qm 8 126]
 (qS [qm 127 0,qm 128 14,qv 129 .add [] 128 1,qm 130 2,qm 131 3,qk 132 186 [127,129,130,131]]
 (.ops [qm 133 14,qm 2 133]))))))))))))))))))))))
def jS:List RVar:=[]
def jT:Nat:=134
theorem jU:zj Go.Proofs.Tryz.prog 186 jT jS jR=true:=by kernel_rfl
theorem zqH:Fc Go.Proofs.Tryz.prog 186 [.sl .p [],.int .i64 0,.int .i64 0,.int .i64 0] (.tup []):=by
 refine Fn.step zf jU ?_
 repeat' (first|refine i_s rfl ?_|refine sw ?_|fail)
 refine x5 (ι:=Unit) (fun _=>[(0,.sl .p []),(1,.int .i64 0),(2,.int .i64 0),(3,.int .i64 0)]) (fun _=>[]) (fun _=>True) (fun _=>0) () trivial ft fun _ _=>?_
 repeat' (first|refine i_s rfl ?_|refine sw ?_|refine c_t rfl ?_|refine jb rfl rfl ?_|refine sf rfl rfl zhB ?_|fail)
 exact zb ⟨rfl,_,rfl,rfl⟩
def zhC:Cmd :=
 (qS [qm 3 0,qn 4 3,qm 2 4]
 (.ops [qm 5 0,qm 6 2,qm 7 2,qq 8 (.conv .u64 (.t 7)),qk 9 53 [8],qq 10 (.call .f (.c (.fn 186 [])) [.t 5,.c (.int .i64 0),.t 6,.t 9])]))
def zhD:List RVar:=[]
def zhE:Nat:=11
theorem zhF:zj Go.Proofs.Tryz.prog 165 zhE zhD zhC=true:=by kernel_rfl
theorem zuE:Fc Go.Proofs.Tryz.prog 165 [.sl .p []] (.tup []):=by
 refine Fn.step zf zhF ?_
 repeat' (first|refine i_s rfl ?_|refine sw ?_|fail)
 refine zfS (n:=0) rfl ⟨by decide,by decide⟩ ?_
 repeat' (first|refine sw ?_|refine sf rfl rfl zb8 ?_|refine sf rfl rfl zqH ?_|fail)
 refine ym ⟨rfl,_,rfl,rfl⟩
theorem zwK {G:Type}{H:HT G} (nm gen:Nat)(l:List Int) {pn:List Nat}{σ:za}{g:G} (hw:wd nm=1)(hσ:σ nm=.arr gen (l.map zk))(hpn:∀ nm',σ nm'≠.zc→nm'∈pn)(hsz:l.length < 4611686018427387904) :
  Cc Go.Proofs.Tryz.prog H 165 [.msl nm gen 0 l.length] pn σ g fun v σ' g'=>v=.tup []∧σ' = ups σ nm (.arr gen ((wA l).map zk))∧g' = g :=
 ⟨ct_sort (ρ:=Go.Proofs.Tryz.sort_ren) Go.Proofs.Tryz.sort_lays nm gen l hw hσ (fun nm' h=>Classical.byContradiction fun h'=>h (hpn nm' h')) zuE.out hsz⟩
end Hm
end
section
namespace Hm
open Go
set_option maxRecDepth 100000
set_option maxHeartbeats 4000000
def uu:Cmd :=
 (qS [qm 10 1,qv 11 .add [] 10 1,qm 8 11]
 (.block 0 (.loop (qT (qS [qm 12 8,qm 13 2,qu 14 .lss [] 12 13]
 (.cond (.t 14) .skip (.exit 0)))
 (qT (.block 1 (qS [qm 17 8,qm 9 17]
 (.block 2 (.loop (qT (qS [qm 18 9,qm 19 1,qu 20 .gtr [] 18 19,qm 21 20,qg 22 21 true (.mov (.t 3)),qg 23 21 true (.mov (.t 0)),qg 24 21 true (.mov (.t 9)),qg 25 21 true (.iaddr 2 (.t 23) (.t 24)),qg 26 21 true (.load true 2 (.t 25)),qg 27 21 true (.mov (.t 0)),qg 28 21 true (.mov (.t 9)),qg 29 21 true (.bin .sub false [] (.t 28) (.c (.int .i64 1))),qg 30 21 true (.iaddr 2 (.t 27) (.t 29)),qg 31 21 true (.load true 2 (.t 30)),qg 32 21 true (.call .f (.t 22) [.t 26,.t 31]),qg 33 21 true (.bin .lss false [] (.t 32) (.c (.int .i64 0))),qq 34 (.pick (.t 21) (.t 33) (.c (.bool false)))]
 (.cond (.t 34) .skip (.exit 2)))
 (qT (.block 3 (.ops [qm 37 0,qm 38 9,qm 39 0,qm 40 9,qv 41 .sub [] 40 1,qm 42 0,qm 43 9,qv 44 .sub [] 43 1,qi 45 2 42 44,qL 46 2 45,qm 47 0,qm 48 9,qi 49 2 47 48,qL 50 2 49,qi 51 2 37 38,qs 2 51 46,qi 52 2 39 41,qs 2 52 50]))
 (.ops [qm 35 9,qv 36 .sub [] 35 1,qm 9 36])))))))
 (.ops [qm 15 8,qv 16 .add [] 15 1,qm 8 16]))))))
def uv:List RVar:=[]
def uw:Nat:=53
theorem ux:zj PG 195 uw uv uu=true:=by kernel_rfl
theorem zfZ (v:V)(hv:zt [] v=true):Fc PG 195 [.sl .p [],.int .i64 0,.int .i64 0,v] (.tup []):=by
 refine Fn.step zf ux ?_
 repeat' (first|refine i_s rfl ?_|refine sw ?_|refine ja rfl rfl ?_|fail)
 refine x5 (ι:=Unit) (fun _=>[(0,.sl .p []),(1,.int .i64 0),(2,.int .i64 0),(8,.int .i64 1)]) (fun _=>[]) (fun _=>True) (fun _=>0) () trivial ft fun _ _=>?_
 repeat' (first|refine i_s rfl ?_|refine sw ?_|refine c_f rfl ?_)
 refine ym ⟨rfl,_,rfl,rfl⟩
def qA:Cmd :=
 (qS [qb 10 true]
 (qS [qb 11 true]
 (.block 0 (.loop (.block 1 (qS [qm 21 2,qm 22 1,qu 23 .sub [] 21 22,qm 12 23]
 (qT (qS [qm 24 12,qv 25 .leq [] 24 12]
 (.cond (.t 25) (.seq (.ops [qm 26 0,qm 27 1,qm 28 2,qm 29 4,qk 30 195 [26,27,28,29]]) .ret) .skip))
 (qT (qS [qm 31 3,qv 32 .eql [.i] 31 0]
 (.cond (.t 32) (.seq (.ops [qm 33 0,qm 34 1,qm 35 2,qm 36 4,qk 37 196 [33,34,35,36]]) .ret) .skip))
 (qT (qS [qm 38 10,qq 39 (.not (.t 38))]
 (.cond (.t 39) (qS [qm 40 0,qm 41 1,qm 42 2,qm 43 4,qk 44 197 [40,41,42,43]]
 (.ops [qm 45 3,qv 46 .sub [] 45 1,qm 3 46])) .skip))
 (qS [qm 48 0,qm 49 1,qm 50 2,qm 51 4,qk 52 198 [48,49,50,51],qm 47 52,qq 53 (.extract (.t 47) 0),qq 54 (.extract (.t 47) 1),qm 13 53,qm 14 54]
 (qT (qS [qm 55 14,qv 56 .eql [.i] 55 2]
 (.cond (.t 56) (qS [qm 57 0,qm 58 1,qm 59 2,qm 60 4,qk 61 199 [57,58,59,60]]
 (qS [qm 62 2,qv 63 .sub [] 62 1,qm 64 13,qm 65 1,qu 66 .sub [] 64 65,qu 67 .sub [] 63 66,qm 13 67]
 (.ops [qc 14 1]))) .skip))
 (qT (qS [qm 68 10,qm 69 68,qg 70 69 true (.mov (.t 11)),qq 71 (.pick (.t 69) (.t 70) (.c (.bool false))),qm 72 71,qg 73 72 true (.mov (.t 14)),qg 74 72 true (.bin .eql false [.i] (.t 73) (.c (.int .i64 1))),qq 75 (.pick (.t 72) (.t 74) (.c (.bool false)))]
 (.cond (.t 75) (qS [qm 76 0,qm 77 1,qm 78 2,qm 79 4,qk 80 200 [76,77,78,79]]
 (.cond (.t 80) .ret .skip)) .skip))
 (qT (qS [qm 81 1,qv 82 .gtr [] 81 0,qm 83 82,qg 84 83 true (.mov (.t 4)),qg 85 83 true (.mov (.t 0)),qg 86 83 true (.mov (.t 1)),qg 87 83 true (.bin .sub false [] (.t 86) (.c (.int .i64 1))),qg 88 83 true (.iaddr 2 (.t 85) (.t 87)),qg 89 83 true (.load true 2 (.t 88)),qg 90 83 true (.mov (.t 0)),qg 91 83 true (.mov (.t 13)),qg 92 83 true (.iaddr 2 (.t 90) (.t 91)),qg 93 83 true (.load true 2 (.t 92)),qg 94 83 true (.call .f (.t 84) [.t 89,.t 93]),qg 95 83 true (.bin .lss false [] (.t 94) (.c (.int .i64 0))),qg 96 83 true (.not (.t 95)),qq 97 (.pick (.t 83) (.t 96) (.c (.bool false)))]
 (.cond (.t 97) (qS [qm 98 0,qm 99 1,qm 100 2,qm 101 13,qm 102 4,qk 103 201 [98,99,100,101,102],qm 15 103]
 (qS [qm 104 15,qm 1 104]
 (.exit 1))) .skip))
 (qS [qm 106 0,qm 107 1,qm 108 2,qm 109 13,qm 110 4,qk 111 202 [106,107,108,109,110],qm 105 111,qq 112 (.extract (.t 105) 0),qq 113 (.extract (.t 105) 1),qm 16 112,qm 17 113]
 (qS [qm 114 17,qm 11 114]
 (qS [qm 115 16,qm 116 1,qu 117 .sub [] 115 116,qm 118 2,qm 119 16,qu 120 .sub [] 118 119,qm 18 117,qm 19 120]
 (qS [qm 121 12,qv 122 .quo [] 121 8,qm 20 122]
 (qS [qm 123 18,qm 124 19,qu 125 .lss [] 123 124]
 (.cond (.t 125) (qS [qm 126 18,qm 127 20,qu 128 .geq [] 126 127,qm 10 128]
 (qS [qm 129 0,qm 130 1,qm 131 16,qm 132 3,qm 133 4,qk 134 185 [129,130,131,132,133]]
 (.ops [qm 135 16,qv 136 .add [] 135 1,qm 1 136]))) (qS [qm 137 19,qm 138 20,qu 139 .geq [] 137 138,qm 10 139]
 (qS [qm 140 0,qm 141 16,qv 142 .add [] 141 1,qm 143 2,qm 144 3,qm 145 4,qk 146 185 [140,142,143,144,145]]
 (.ops [qm 147 16,qm 2 147]))))))))))))))))))))))
def qC:List RVar:=[]
def qD:Nat:=148
theorem qE:zj PG 185 qD qC qA=true:=by kernel_rfl
theorem zpn:Fc PG 185 [.sl .p [],.int .i64 0,.int .i64 0,.int .i64 0,.fn 129 []] (.tup []):=by
 refine Fn.step zf qE ?_
 repeat' (first|refine i_s rfl ?_|refine sw ?_|fail)
 refine x5 (ι:=Unit) (fun _=>[(0,.sl .p []),(1,.int .i64 0),(2,.int .i64 0),(3,.int .i64 0),(4,.fn 129 [])]) (fun _=>[]) (fun _=>True) (fun _=>0) () trivial ft fun _ _=>?_
 repeat' (first|refine i_s rfl ?_|refine sw ?_|refine c_t rfl ?_|refine jb rfl rfl ?_|refine sf rfl rfl (zfZ _ rfl) ?_|fail)
 exact zb ⟨rfl,_,rfl,rfl⟩
def zdk:Cmd :=
 (qS [qm 5 0,qn 6 5,qm 4 6]
 (.ops [qm 7 0,qm 8 4,qm 9 4,qq 10 (.conv .u64 (.t 9)),qk 11 53 [10],qm 12 1,qq 13 (.call .f (.c (.fn 185 [])) [.t 7,.c (.int .i64 0),.t 8,.t 11,.t 12])]))
def zdl:List RVar:=[]
def zdm:Nat:=14
theorem zdn:zj PG 161 zdm zdl zdk=true:=by kernel_rfl
theorem ztm:Fc PG 161 [.sl .p [],.fn 129 []] (.tup []):=by
 refine Fn.step zf zdn ?_
 repeat' (first|refine i_s rfl ?_|refine sw ?_|fail)
 refine zfS (n:=0) rfl ⟨by decide,by decide⟩ ?_
 repeat' (first|refine i_s rfl ?_|refine sw ?_|refine sf rfl rfl zb8 ?_|refine sf rfl rfl zpn ?_|fail)
 refine ym ⟨rfl,_,rfl,rfl⟩
theorem zvP:Go.Sort.SWO (Go.Proofs.ltOf yb):=⟨fun x=>by
  unfold Go.Proofs.ltOf
  rw [yD.2 rfl]
  rfl,fun x y z h1 h2=>by
  unfold Go.Proofs.ltOf at *
  simp only [decide_eq_true_eq] at *
  exact zaM h1 h2,fun x y z h1 h2=>by
  unfold Go.Proofs.ltOf at *
  simp only [decide_eq_false_iff_not] at *
  intro h3
  have e1:=jG x y
  have e2:=jG y z
  rcases Int.lt_or_eq_of_le (show yb y x≤0 by omega) with a|a
  · exact h2 (zaM a h3)
  · have:=yD.1 a
    subst this
    exact h2 h3⟩
theorem zvQ {G:Type}{H:HT G} (nm gen:Nat)(l:List At)(hok:∀ x∈l,AtOk x) {pn:List Nat}{σ:za}{g:G} (hw:wd nm=2)(hσ:σ nm=.arr gen (l.map atV))(hpn:∀ nm',σ nm'≠.zc→nm'∈pn)(hsz:l.length < 4611686018427387904) :
  Cc PG H 161 [.msl nm gen 0 l.length,.fn 129 []] pn σ g fun v σ' g'=>v=.tup []∧(∃ l':List At,l'.Perm l∧(l'.Pairwise fun x y=>¬ yb y x < 0)∧σ' = ups σ nm (.arr gen (l'.map atV)))∧g' = g :=
 ⟨zuD (ρ:=Go.Proofs.Tryz.sortA_ren) Go.Proofs.Tryz.sortA_lays atV (fun x=>AtOk x) 2 (by decide) Go.Proofs.Tryz.isAgg111 Go.Proofs.Tryz.sizeOf111 (fun x=>⟨_,rfl,rfl,rfl⟩) yb zvP 129
  (Go.Proofs.enters_of Go.Proofs.Tryz.func129 (by kernel_rfl) rfl) (fun a b ha hb=>(x8 a b ha hb).out) nm gen l hok hw hσ (fun nm' h=>Classical.byContradiction fun h'=>h (hpn nm' h')) ztm.out hsz⟩
def zf0:Cmd :=
 (qS [qx 2 10432130 2 0,qx 3 10432194 2 1,qb 4 false]
 (.seq (.ops [qL 5 2 2,qL 6 2 3,qk 7 129 [5,6],qv 8 .eql [.i] 7 0,qm 4 8]) .ret))
def zf1:List RVar:=[.tmp 4]
def zf2:Nat:=9
theorem zf3:zj PG 163 zf2 zf1 zf0=true:=by kernel_rfl
theorem ziG (x y:At)(hx:AtOk x)(hy:AtOk y):Fc PG 163 [atV x,atV y] (.bool (decide (x=y))):=by
 have h:=x8 x y hx hy
 refine Fn.step zf zf3 ?_
 repeat' (first|refine i_s rfl ?_|refine sw ?_|refine zr rfl rfl ?_|refine sf rfl rfl h ?_|fail)
 refine zb ⟨rfl,_,rfl,congrArg V.bool ?_⟩
 by_cases e:x=y
 · rw [yD.2 e,decide_eq_true e];rfl
 · have:yb x y≠0:=fun h=>e (yD.1 h)
   rw [decide_eq_false e]
   simpa using this
def zbi:Cmd :=
 (qS [qq 4 (.mov (.c (.sl .nil [])))]
 (qT (qS [qm 8 0,qn 9 8,qv 10 .lss [] 9 2]
 (.cond (.t 10) (.seq (.ops [qm 11 0,qm 4 11]) .ret) .skip))
 (qT (qS [qc 5 1]
 (.block 0 (.loop (qT (qS [qm 12 5,qm 13 0,qn 14 13,qu 15 .lss [] 12 14]
 (.cond (.t 15) .skip (.exit 0)))
 (qT (.block 1 (qS [qm 18 1,qm 19 0,qm 20 5,qi 21 2 19 20,qL 22 2 21,qm 23 0,qm 24 5,qv 25 .sub [] 24 1,qi 26 2 23 25,qL 27 2 26,qq 28 (.call .f (.t 18) [.t 22,.t 27])]
 (.cond (.t 28) (qS [qm 29 0,qm 30 5,qq 31 (.slice false 2 (.t 29) (some (.t 30)) none),qm 6 31]
 (qT (qS [qc 7 1]
 (.block 2 (.loop (qT (qS [qm 32 7,qm 33 6,qn 34 33,qu 35 .lss [] 32 34]
 (.cond (.t 35) .skip (.exit 2)))
 (qT (.block 3 (qS [qm 38 1,qm 39 6,qm 40 7,qi 41 2 39 40,qL 42 2 41,qm 43 6,qm 44 7,qv 45 .sub [] 44 1,qi 46 2 43 45,qL 47 2 46,qq 48 (.call .f (.t 38) [.t 42,.t 47]),qq 49 (.not (.t 48))]
 (.cond (.t 49) (qS [qm 50 0,qm 51 5,qm 52 6,qm 53 7,qi 54 2 52 53,qL 55 2 54,qi 56 2 50 51,qs 2 56 55]
 (.ops [qm 57 5,qv 58 .add [] 57 1,qm 5 58])) .skip)))
 (.ops [qm 36 7,qv 37 .add [] 36 1,qm 7 37]))))))
 (qS [qm 59 0,qm 60 5,qq 61 (.slice false 2 (.t 59) (some (.t 60)) none),.op none none (.clear 2 32 (.agg [.int .i64 0,.sl .nil []]) (.t 61))]
 (.seq (.ops [qm 62 0,qm 63 5,qq 64 (.slice false 2 (.t 62) none (some (.t 63))),qm 4 64]) .ret)))) .skip)))
 (.ops [qm 16 5,qv 17 .add [] 16 1,qm 5 17]))))))
 (.seq (.ops [qm 65 0,qm 4 65]) .ret))))
def zbj:List RVar:=[.tmp 4]
def zbk:Nat:=66
theorem zbl:zj PG 162 zbk zbj zbi=true:=by kernel_rfl
theorem zqI {G : Type} {H : HT G} (gen : Nat) (l:List At)(hl:l.length≤1000000000)(hok:∀ x∈l,AtOk x)(σ:za)(g:G)(hσ:σ 8064322=.arr gen (l.map atV))(hp:∀ nm,σ nm≠.zc→nm∈[8064322]) :
  Cc PG H 162 [.msl 8064322 gen 0 l.length,.fn 163 []] [8064322] σ g fun v σ' g'=>(∃ rows,v=.msl 8064322 gen 0 (xX l).length∧σ' = zy [(8064322,.arr gen rows)]∧rows.take (xX l).length=(xX l).map atV)∧g' = g:=by
 refine CT.step _ zf zbl hp fun hM=>?_
 refine zrT ?_
 refine zrU ?_
 refine i_s rfl ?_
 refine zhg ?_
 refine zbg ?_
 refine zcX [(0,.msl 8064322 gen 0 l.length),(1,.fn 163 [])] [(8064322,.arr gen (l.map atV))] ⟨⟨rfl,rfl,trivial⟩,⟨hσ,trivial⟩,rfl⟩ ?_
 have fin:xX l=l→∃ rows,V.msl 8064322 gen 0 l.length=.msl 8064322 gen 0 (xX l).length∧zy [(8064322,.arr gen (l.map atV))]=zy [(8064322,.arr gen rows)]∧rows.take (xX l).length=(xX l).map atV:=fun e=>⟨l.map atV,by rw [e],rfl,by rw [e,List.take_of_length_le (by simp)]⟩
 repeat (first|refine i_s rfl ?_|refine uB rfl rfl rfl ?_|refine sw ?_)
 refine zd rfl (fun h=>?_) (fun h=>?_)
 · have h2 : l.length < 2 := by have:(l.length:Int) < 2:=by simpa using h
                                omega
   repeat (first|refine i_s rfl ?_|refine sw ?_)
   refine zb ⟨rfl,_,rfl,rfl,rfl,?_,rfl⟩
   rw [zu]
   exact fin (by unfold xX;rw [zhl _ (Nat.le_refl _) fun j h1 h3=>by omega,List.take_length])
 have h2 : 2 ≤ l.length := by have:¬ (l.length:Int) < 2:=by simpa using h
                              omega
 clear h
 repeat (first|refine i_s rfl ?_|refine sw ?_)
 refine x5 (ι:=Nat) (fun k=>[(0,.msl 8064322 gen 0 l.length),(1,.fn 163 []),(5,.int .i64 k)]) (fun _=>[(8064322,.arr gen (l.map atV))]) (fun k=>1≤k∧k≤l.length∧∀ j,0 < j→j < k→l[j]?≠l[j - 1]?) (fun k=>l.length - k) 1 ⟨Nat.le_refl _,by omega,fun j h1 h2=>by omega⟩ ft fun k hi=>?_
 obtain ⟨k1,k2,k3⟩:=hi
 repeat (first|refine i_s rfl ?_|refine uB rfl rfl rfl ?_|refine sw ?_)
 refine zd rfl (fun h=>?_) (fun h=>?_)
 · have hlt : k < l.length := by have : (k:Int) < l.length:=by simpa using h
                                 omega
   obtain ⟨x,hx⟩:=zh hlt
   obtain ⟨y,hy⟩:=zh (l:=l) (k:=k - 1) (by omega)
   have hE:=ziG x y (hok x (zm hx)) (hok y (zm hy))
   clear h
   repeat (first|refine i_s rfl ?_|refine sw ?_)
   refine yJ rfl rfl rfl rfl (by omega) (by omega) rfl ?_
   refine xB (row:=atV x) rfl rfl rfl (by simp [hx]) rfl ?_
   repeat (first|refine i_s rfl ?_|refine jb rfl rfl ?_)
   refine yJ rfl rfl rfl rfl (by omega) (by omega) rfl ?_
   refine xB (row:=atV y) rfl rfl rfl (by rw [show 0 + ((k:Int) - 1).toNat=k - 1 from by omega];simp [hy]) rfl ?_
   repeat (first|refine sw ?_|refine sf rfl rfl hE ?_)
   refine zd rfl (fun h=>?_) (fun h=>?_)
   · have e:x=y:=by simpa using h
     subst e
     clear h hE
     repeat (first|refine i_s rfl ?_|refine sw ?_)
     refine zrX rfl rfl rfl rfl (by omega) (by omega) rfl ?_
     repeat (first|refine i_s rfl ?_|refine sw ?_)
     have e0:=zhl k (by omega) k3
     have e1:ddG l (k + 1)=l.take k:=by rw [zes hx (by omega) hy,e0]
     refine x5 (ι:=Nat) (fun j=>[(0,.msl 8064322 gen 0 l.length),(1,.fn 163 []),(5,.int .i64 (ddG l (k + j)).length),(6,.msl 8064322 gen (0 + k) (l.length - k)),(7,.int .i64 j)])
      (fun j=>[(8064322,.arr gen ((ddG l (k + j) ++ l.drop (ddG l (k + j)).length).map atV))]) (fun j=>1≤j∧k + j≤l.length∧(ddG l (k + j)).length + 1≤k + j) (fun j=>l.length - j) 1 ⟨Nat.le_refl _,by omega,by rw [e1];simp;omega⟩ ⟨⟨rfl,rfl,?_,rfl,rfl,trivial⟩,⟨?_,trivial⟩,rfl⟩ fun j hj=>?_
     · rw [e1,List.length_take,Nat.min_eq_left (by omega)];rfl
     · rw [e1,List.length_take,Nat.min_eq_left (by omega),List.take_append_drop];rfl
     obtain ⟨j1,j2,j3⟩:=hj
     have hdl:=zvM l (k + j)
     have hAl:(ddG l (k + j) ++ l.drop (ddG l (k + j)).length).length=l.length:=by simp;omega
     repeat (first|refine i_s rfl ?_|refine uB rfl rfl rfl ?_|refine sw ?_)
     refine zd rfl (fun h=>?_) (fun h=>?_)
     · have hlt2 : j < l.length - k := by have:(j:Int) < ((l.length - k:Nat):Int):=by simpa using h
                                          omega
       obtain ⟨a,ha⟩:=zh (l:=l) (k:=k + j) (by omega)
       obtain ⟨b,hb⟩:=zh (l:=l) (k:=k + j - 1) (by omega)
       have hE:=ziG a b (hok a (zm ha)) (hok b (zm hb))
       have ha':=ha
       rw [← zq8 (m:=k + j) (by omega)] at ha'
       have hb':=hb
       rw [← zq8 (m:=k + j) (by omega)] at hb'
       clear h
       repeat (first|refine i_s rfl ?_|refine sw ?_)
       refine yJ rfl rfl rfl rfl (by omega) (by omega) rfl ?_
       refine xB (row:=atV a) rfl rfl rfl (by rw [show 0 + k + (j:Int).toNat=k + j from by omega,List.getElem?_map,ha'];rfl) rfl ?_
       repeat (first|refine i_s rfl ?_|refine jb rfl rfl ?_)
       refine yJ rfl rfl rfl rfl (by omega) (by omega) rfl ?_
       refine xB (row:=atV b) rfl rfl rfl (by rw [show 0 + k + ((j:Int) - 1).toNat=k + j - 1 from by omega,List.getElem?_map,hb'];rfl) rfl ?_
       repeat (first|refine i_s rfl ?_|refine sw ?_|refine sf rfl rfl hE ?_)
       refine zd rfl (fun h=>?_) (fun h=>?_)
       · have hne:a≠b:=by simpa using h
         have ek:ddG l (k + (j + 1))=ddG l (k + j) ++ [a]:=zer (k:=k + j) ha (.inr (by rw [hb];simpa using fun e=>hne e.symm))
         obtain ⟨z,hz⟩:=zh (l:=ddG l (k + j) ++ l.drop (ddG l (k + j)).length) (k:=(ddG l (k + j)).length) (by omega)
         clear h hE
         repeat (first|refine i_s rfl ?_|refine sw ?_)
         refine yJ rfl rfl rfl rfl (by omega) (by omega) rfl ?_
         refine xB (row:=atV a) rfl rfl rfl (by rw [show 0 + k + (j:Int).toNat=k + j from by omega,List.getElem?_map,ha'];rfl) rfl ?_
         skip
         refine yJ rfl rfl rfl rfl (by omega) (by omega) rfl ?_
         refine km (row:=atV z) rfl rfl rfl (by rw [show 0 + ((ddG l (k + j)).length:Int).toNat=(ddG l (k + j)).length from by omega,List.getElem?_map,hz];rfl) rfl rfl ?_
         repeat (first|refine i_s rfl ?_|refine sw ?_|refine ja rfl rfl ?_)
         refine xL (j + 1) ⟨by omega,by omega,by rw [ek];simp;omega⟩ (by omega) ⟨⟨rfl,rfl,?_,rfl,rfl,trivial⟩,⟨?_,trivial⟩,rfl⟩
         · rw [ek];simp;rfl
         · have:=zvN (l:=l) (m:=k + j) (x:=a) (by omega)
           show Blk.arr gen _=Blk.arr gen _
           rw [ek,← this,show (0 + ((ddG l (k + j)).length:Int).toNat)=(ddG l (k + j)).length from by omega,List.map_set]
           rfl
       · have he:a=b:=by simpa using h
         subst he
         have ek:ddG l (k + (j + 1))=ddG l (k + j):=zes (k:=k + j) ha (by omega) hb
         clear h hE
         repeat (first|refine i_s rfl ?_|refine sw ?_|refine ja rfl rfl ?_)
         refine xL (j + 1) ⟨by omega,by omega,by rw [ek];omega⟩ (by omega) ⟨⟨rfl,rfl,?_,rfl,rfl,trivial⟩,⟨?_,trivial⟩,rfl⟩
         · rw [ek];rfl
         · rw [ek];rfl
     · have hje : k + j = l.length := by have:¬ (j:Int) < ((l.length - k:Nat):Int):=by simpa using h
                                         omega
       have ec:xX l=ddG l (k + j):=by unfold xX;rw [hje]
       clear fin
       clear h
       repeat (first|refine i_s rfl ?_|refine sw ?_)
       refine zrX rfl rfl rfl rfl (by omega) (by omega) rfl ?_
       refine zq2 rfl rfl rfl rfl ?_
       repeat (first|refine i_s rfl ?_|refine sw ?_)
       refine zrW rfl rfl rfl rfl rfl (by omega) (by omega) (by omega) rfl ?_
       repeat (first|refine i_s rfl ?_|refine sw ?_)
       rw [ec]
       refine zb ⟨rfl,_,rfl,rfl,rfl,⟨_,?_,zu _ _,?_⟩,rfl⟩
       · show V.msl _ _ _ _=V.msl _ _ _ _
         simp
       · have e1:(0 + ((ddG l (k + j)).length:Int).toNat)=(ddG l (k + j)).length:=by omega
         rw [e1,List.append_assoc,List.take_append_of_le_length (by simp),List.take_take,Nat.min_self,← List.map_take,List.take_append_of_le_length (Nat.le_refl _),List.take_length]
   · have hne:x≠y:=by simpa using h
     clear h hE
     repeat (first|refine i_s rfl ?_|refine sw ?_|refine ja rfl rfl ?_)
     refine xL (k + 1) ⟨by omega,by omega,fun j h1 h3=>?_⟩ (by omega) ft
     by_cases e:j=k
     · subst e;rw [hx,hy];simpa using hne
     · exact k3 j h1 (by omega)
 · have hke : k = l.length := by have:¬ (k:Int) < l.length:=by simpa using h
                                 omega
   subst hke
   repeat (first|refine i_s rfl ?_|refine sw ?_)
   refine zb ⟨rfl,_,rfl,rfl,rfl,?_,rfl⟩
   rw [zu]
   exact fin (by unfold xX;rw [zhl _ (Nat.le_refl _) k3,List.take_length])
theorem ztn {l s:List At} (hp:s.Perm l)(hs:s.Pairwise fun x y=>¬ yb y x < 0):xX s=sdA l:=by
 have hm:xX (s.map yK)=(xX s).map yK:=by
  unfold xX
  rw [List.length_map]
  suffices h:∀ k,k≤s.length→ddG (s.map yK) k=(ddG s k).map yK from h _ (Nat.le_refl _)
  intro k
  induction k with
  | zero=>intro _;rfl
  | succ k ih =>
   intro hk
   rw [zeq,zeq,List.map_append,ih (by omega)]
   congr 1
   unfold zhk
   rw [List.getElem?_map,List.getElem?_map]
   cases hx:s[k]? with
   | none=>rfl
   | some x =>
    simp only [Option.map_some]
    by_cases h:k=0∨s[k - 1]?≠some x
    · have h':k=0∨(s[k - 1]?).map yK≠some (yK x):=h.imp id fun h1 h2=>h1 (by
       cases hy:s[k - 1]? with
       | none=>rw [hy] at h2;cases h2
       | some y=>rw [hy] at h2;simp only [Option.map_some,Option.some.injEq,yK,Lit.mk.injEq,true_and] at h2;rw [h2])
      rw [if_pos h,if_pos h'];rfl
    · have h':¬ (k=0∨(s[k - 1]?).map yK≠some (yK x)):=fun h1=>h (h1.imp id fun h2 h3=>h2 (by rw [h3];rfl))
      rw [if_neg h,if_neg h'];rfl
 have hsp:(s.map yK).Pairwise fun x y=>z7 x y≤0:=by
  refine List.Pairwise.map _ (fun a b h=>?_) hs
  have hn:=jG a b
  unfold z7 yK
  simp only
  split
  · omega
  · simp
 have hsl:=zkx hsp (s.map yK).length (Nat.le_refl _)
 have hsl:SLt (xX (s.map yK)):=hsl
 rw [hm] at hsl
 refine zwQ hsl fun a=>?_
 rw [zth]
 exact hp.mem_iff
structure FitA (args:List Int)(a:At):Prop where
 len:a.args.length≤17592186044416
 lo:∀ x∈a.args,-(args.length:Int)≤x
 ok:AtOk (zL args a)
theorem zl7 {d:Dom}{ps args:List Int} (ha:zky d ps args)(hd:DoTy d) {a:At} (hao:AtOk a)(h:yF d ps a=0):FitA args a :=
 ⟨hao.len,fun x hx=>by have:=(zo7 h x hx).1;rw [ha.1];exact this,zet ha hd hao h⟩
def zi8:Cmd :=
 (qS [qq 4 (.mov (.c (.sl .nil [])))]
 (qS [qq 5 (.newArr 8064322)]
 (qT (qS [qm 8 0,qn 9 8,qc 10 0]
 (.block 0 (.loop (qS [qu 11 .lss [] 10 9]
 (qT (.cond (.t 11) .skip (.exit 0))
 (qT (.block 1 (qS [qi 12 2 8 10,qL 13 2 12,qq 7 (.alloc 8064450 (.agg [.int .i64 0,.sl .nil []])),qs 2 7 13]
 (.ops [qm 14 5,qL 15 2 7,qm 16 1,qk 17 124 [15,16],qq 18 (.bsl 2 [.t 17]),qq 19 (.append 2 32 111 (.t 14) (.t 18)),qm 5 19])))
 (.ops [qv 20 .add [] 10 1,qm 10 20])))))))
 (qS [qm 21 5,qq 22 (.call (.s [8064322]) (.c (.fn 161 [])) [.t 21,.c (.fn 129 [])])]
 (.seq (.ops [qm 23 5,qq 24 (.call (.s [8064322]) (.c (.fn 162 [])) [.t 23,.c (.fn 163 [])]),qm 4 24]) .ret)))))
def zi9:List RVar:=[.tmp 4]
def zja:Nat:=25
theorem zjb:zj PG 126 zja zi9 zi8=true:=by kernel_rfl
theorem znA (l : List At) (args : List Int)(hl:l.length≤1000000)(hal:args.length≤140737488355328)(hf:∀ a∈l,FitA args a) :
  Fc PG 126 [.sl .p (l.map atV),.sl .p (args.map zk)] (.sl .p ((sdA (l.map (zL args))).map atV)):=by
 refine Fn.step zf zjb ?_
 repeat (first|refine i_s rfl ?_|refine sw ?_)
 refine zi1 rfl ?_
 repeat (first|refine zo rfl ?_|refine i_s rfl ?_|refine sw ?_)
 refine ye l.length (fun k=>[(1,.sl .p (args.map zk)),(5,.msl 8064322 ((l.take k).map (zL args)).length 0 ((l.take k).map (zL args)).length),(8,.sl .p (l.map atV)),(9,.int .i64 l.length),(10,.int .i64 k)])
  (fun k=>[(8064322,.arr ((l.take k).map (zL args)).length (((l.take k).map (zL args)).map atV))]) (fun _=>True) trivial ft fun k hk _=>?_
 have hTl:((l.take k).map (zL args)).length≤k:=by simp;omega
 repeat (first|refine i_s rfl ?_|refine sw ?_)
 refine zd rfl (fun h=>?_) (fun h=>?_)
 · have hlt:k < l.length:=by simpa using h
   obtain ⟨a,hget⟩:=zh hlt
   have hfa:=hf a (zm hget)
   have hB:=zcn args hal a hfa.len hfa.lo
   have e:(l.take (k + 1)).map (zL args)=(l.take k).map (zL args) ++ [zL args a]:=by rw [zz hget,List.map_append];rfl
   clear h hf hfa
   repeat (first|refine i_s rfl ?_|refine sw ?_|refine jd rfl rfl ?_|refine zl rfl ?_|refine zi rfl ?_|refine sf rfl rfl hB ?_)
   refine wJ [zL args a] rfl rfl rfl rfl rfl (fun c hc=>⟨rfl,rfl⟩) (by simp only [List.length_singleton];omega) (by simp only [List.length_singleton];omega) ?_
   repeat (first|refine i_s rfl ?_|refine sw ?_|refine ja rfl rfl ?_)
   refine zK hlt trivial ⟨⟨rfl,?_,rfl,rfl,rfl,trivial⟩,⟨?_,trivial⟩,rfl⟩
   · rw [e,List.length_append];rfl
   · rw [e,List.length_append];rfl
 · have hge : k = l.length := by have:¬ k < l.length:=by simpa using h
                                 omega
   subst hge
   rw [List.take_length] at hTl ⊢
   have hT:∀ x∈l.map (zL args),AtOk x:=fun x hx=>by
    obtain ⟨a,h1,rfl⟩:=List.mem_map.1 hx
    exact (hf a h1).ok
   clear h hk hf
   have hl2:(l.map (zL args)).length≤1000000:=by omega
   clear hTl
   generalize l.map (zL args)=L at *
   repeat (first|refine i_s rfl ?_|refine sw ?_)
   refine i_c rfl rfl rfl (zvQ 8064322 L.length L hT rfl rfl (fun nm h=>yC nm h) (by omega)) ?_
   rintro _ _ _ ⟨rfl,⟨s,hsp,hss,rfl⟩,rfl⟩
   have hsl:=hsp.length_eq
   have hos:∀ x∈s,AtOk x:=fun x hx=>hT x (hsp.mem_iff.1 hx)
   rw [← ztn hsp hss]
   clear hT hss hsp
   refine zhg ?_
   refine zbg ?_
   refine zcX [(5,.msl 8064322 L.length 0 s.length)] [(8064322,.arr L.length (s.map atV))] ⟨⟨?_,trivial⟩,⟨rfl,trivial⟩,rfl⟩ ?_
   · rw [hsl];rfl
   repeat (first|refine i_s rfl ?_|refine sw ?_)
   refine i_c rfl rfl rfl (zqI L.length s (by omega) hos _ _ rfl (fun nm h=>yC nm h)) ?_
   rintro _ _ _ ⟨⟨rows,rfl,rfl,hr⟩,rfl⟩
   repeat (first|refine i_s rfl ?_|refine sw ?_)
   exact zb ⟨rfl,_,rfl,((zf8 (rows:=rows) (i:=0) (len:=(xX s).length) (n:=5) rfl).trans (by rw [List.drop_zero,hr])).symm⟩
theorem x7 {α:Type}{l:List α}{k:Nat}{x:α} (h:l[k]? = some x)(p:α→Bool):(l.take (k + 1)).filter p=(l.take k).filter p ++ if p x=true then [x] else []:=by
 rw [zz h,List.filter_append,List.filter_cons,List.filter_nil]
def zbm:Cmd :=
 (qS [qx 4 5440263 7 1,qq 6 (.newVec 5440387),qq 7 (.newVec 5440451)]
 (qS [qf 14 4 4,ql 15 1 14,qm 16 2,qk 17 126 [15,16],qf 18 5 4,ql 19 1 18,qm 20 2,qk 21 126 [19,20],qm 8 17,qm 9 21]
 (qT (qS [qm 22 8,qn 23 22,qc 24 0]
 (.block 0 (.loop (qS [qu 25 .lss [] 24 23]
 (qT (.cond (.t 25) .skip (.exit 0))
 (qT (.block 1 (qS [qi 26 2 22 24,qL 27 2 26,qq 11 (.alloc 5440706 (.agg [.int .i64 0,.sl .nil []])),qs 2 11 27]
 (qS [qm 28 6,qL 29 2 11,qq 30 (.build [.bool false,.int .i64 0,.sl .nil []] [(1 ,2 ,.t 29)]),qq 31 (.bsl 3 [.t 30]),qq 32 (.append 3 40 113 (.t 28) (.t 31)),qm 6 32]
 (.ops [qm 33 7,qL 34 2 11,qq 35 (.build [.bool false,.int .i64 0,.sl .nil []] [(0 ,1 ,.c (.bool true)),(1 ,2 ,.t 34)]),qq 36 (.bsl 3 [.t 35]),qq 37 (.append 3 40 113 (.t 33) (.t 36)),qm 7 37]))))
 (.ops [qv 38 .add [] 24 1,qm 24 38])))))))
 (qT (qS [qm 39 9,qn 40 39,qc 41 0]
 (.block 2 (.loop (qS [qu 42 .lss [] 41 40]
 (qT (.cond (.t 42) .skip (.exit 2))
 (qT (.block 3 (qS [qi 43 2 39 41,qL 44 2 43,qq 13 (.alloc 5440834 (.agg [.int .i64 0,.sl .nil []])),qs 2 13 44]
 (qS [qm 45 8,qL 46 2 13,qk 47 86 [45,46],qq 48 (.not (.t 47))]
 (.cond (.t 48) (qS [qm 49 7,qL 50 2 13,qq 51 (.build [.bool false,.int .i64 0,.sl .nil []] [(1 ,2 ,.t 50)]),qq 52 (.bsl 3 [.t 51]),qq 53 (.append 3 40 113 (.t 49) (.t 52)),qm 7 53]
 (.ops [qm 54 6,qL 55 2 13,qq 56 (.build [.bool false,.int .i64 0,.sl .nil []] [(0 ,1 ,.c (.bool true)),(1 ,2 ,.t 55)]),qq 57 (.bsl 3 [.t 56]),qq 58 (.append 3 40 113 (.t 54) (.t 57)),qm 6 58])) .skip))))
 (.ops [qv 59 .add [] 41 1,qm 41 59])))))))
 (.seq (.ops [qm 60 6,qm 61 7,qm 6 60,qm 7 61]) .ret)))))
def zbn:List RVar:=[.tmp 6,.tmp 7]
def zbo:Nat:=62
theorem zbp:zj PG 85 zbo zbn zbm=true:=by kernel_rfl
theorem zto (d:Dom)(fl ng:List Bool)(s:Sch)(args:List Int)(hal:args.length≤140737488355328)(ha8:s.add.length≤1000000)(hd8:s.del.length≤1000000)(hfa:∀ a∈s.add,FitA args a)(hfd:∀ a∈s.del,FitA args a)
  (hP8:(sdA (s.add.map (zL args))).length≤1000000)(hM8:(sdA (s.del.map (zL args))).length≤1000000) :
  Fc PG 85 [grP d fl ng,xF s,.sl .p (args.map zk)] (.tup [.sl .p ((xm (sdA (s.add.map (zL args))) (sdA (s.del.map (zL args)))).map zY),.sl .p ((xn (sdA (s.add.map (zL args))) (sdA (s.del.map (zL args)))).map zY)]):=by
 have hA:=znA s.add args ha8 hal hfa
 have hD:=znA s.del args hd8 hal hfd
 have hPo:∀ x∈sdA (s.add.map (zL args)),AtOk x:=fun x hx=>by
  rw [zho] at hx
  obtain ⟨a,h1,rfl⟩:=List.mem_map.1 hx
  exact (hfa a h1).ok
 have hMo:∀ x∈sdA (s.del.map (zL args)),AtOk x:=fun x hx=>by
  rw [zho] at hx
  obtain ⟨a,h1,rfl⟩:=List.mem_map.1 hx
  exact (hfd a h1).ok
 clear hfa hfd ha8 hd8
 generalize sdA (s.add.map (zL args))=P at *
 generalize sdA (s.del.map (zL args))=M at *
 refine Fn.step zf zbp ?_
 repeat' (first|refine zo rfl ?_|refine i_s rfl ?_|refine sw ?_|refine zr rfl rfl ?_|refine zem rfl ?_|refine sf rfl rfl hA ?_|refine sf rfl rfl hD ?_|fail)
 all_goals clear hA hD
 all_goals
  refine ye P.length (fun k=>[(6,.sl (.own 5440387) (((P.take k).map yK).map zY)),(7,.sl (.own 5440451) (((P.take k).map ut).map zY)),(8,.sl .p (P.map atV)),(9,.sl .p (M.map atV)),(22,.sl .p (P.map atV)),(23,.int .i64 P.length),(24,.int .i64 k)])
   (fun k=>[(5440387,.vec ((P.take k).map yK).length),(5440451,.vec ((P.take k).map ut).length)]) (fun _=>True) trivial ft fun k hk _=>?_
  by_cases hlt:k < P.length
  · obtain ⟨x,hx⟩:=zh hlt
    have l1:((P.take k).map yK).length=k:=by simp;omega
    have l2:((P.take k).map ut).length=k:=by simp;omega
    have e1:(P.take (k + 1)).map yK=(P.take k).map yK ++ [yK x]:=by rw [zz hx,List.map_append];rfl
    have e2:(P.take (k + 1)).map ut=(P.take k).map ut ++ [ut x]:=by rw [zz hx,List.map_append];rfl
    repeat' (first|refine zo rfl ?_|refine i_s rfl ?_|refine sw ?_|refine jd rfl rfl ?_|refine zl rfl ?_|refine zi rfl ?_|refine zd rfl (fun h=>?_) (fun h=>?_))
    all_goals first
     | (exfalso;simp at *;done)
     | (exfalso;simp at *;omega)
     | skip
    refine yU (c:=yK x) rfl rfl rfl rfl rfl (by omega) (by omega) ?_
    repeat (first|refine i_s rfl ?_|refine sw ?_)
    refine yU (c:=ut x) rfl rfl rfl rfl rfl (by omega) (by omega) ?_
    repeat (first|refine i_s rfl ?_|refine sw ?_|refine ja rfl rfl ?_)
    refine zK hlt trivial ⟨⟨?_,?_,rfl,rfl,rfl,rfl,rfl,trivial⟩,⟨?_,?_,trivial⟩,rfl⟩
    · rw [e1];rfl
    · rw [e2];rfl
    · rw [e1];simp;rfl
    · rw [e2];simp;rfl
  have hge:k=P.length:=by omega
  subst hge
  rw [List.take_length]
  repeat' (first|refine zo rfl ?_|refine i_s rfl ?_|refine sw ?_|refine zd rfl (fun h=>?_) (fun h=>?_))
  all_goals first
   | (exfalso;simp at *;done)
   | (exfalso;simp at *;omega)
   | skip
  refine ye M.length (fun k=>[(6,.sl (.own 5440387) ((xm P (M.take k)).map zY)),(7,.sl (.own 5440451) ((xn P (M.take k)).map zY)),(8,.sl .p (P.map atV)),(39,.sl .p (M.map atV)),(40,.int .i64 M.length),(41,.int .i64 k)])
   (fun k=>[(5440387,.vec (xm P (M.take k)).length),(5440451,.vec (xn P (M.take k)).length)]) (fun _=>True) trivial ⟨⟨?_,?_,rfl,rfl,rfl,rfl,trivial⟩,⟨?_,?_,trivial⟩,rfl⟩ fun k hk _=>?_
  · rw [show xm P (M.take 0)=P.map yK from by simp [xm]];rfl
  · rw [show xn P (M.take 0)=P.map ut from by simp [xn]];rfl
  · rw [show xm P (M.take 0)=P.map yK from by simp [xm]];rfl
  · rw [show xn P (M.take 0)=P.map ut from by simp [xn]];rfl
  by_cases hlt:k < M.length
  · obtain ⟨x,hx⟩:=zh hlt
    have hH:=zgk P x (by omega) hPo (hMo x (zm hx))
    have hfl:((M.take k).filter fun a=>!decide (a∈P)).length≤k:=Nat.le_trans (List.length_filter_le _ _) (by simp;omega)
    have l1:(xm P (M.take k)).length≤P.length + k:=by simp only [xm,List.length_append,List.length_map];omega
    have l2:(xn P (M.take k)).length≤P.length + k:=by simp only [xn,List.length_append,List.length_map];omega
    by_cases hm:x∈P
    · rw [decide_eq_true hm] at hH
      have e1:xm P (M.take (k + 1))=xm P (M.take k):=by unfold xm;rw [x7 hx,if_neg (by simp [hm]),List.append_nil]
      have e2:xn P (M.take (k + 1))=xn P (M.take k):=by unfold xn;rw [x7 hx,if_neg (by simp [hm]),List.append_nil]
      repeat' (first|refine i_s rfl ?_|refine sw ?_|refine c_f rfl ?_|refine ja rfl rfl ?_|refine jd rfl rfl ?_|refine zl rfl ?_|refine zi rfl ?_|refine zd rfl (fun h=>?_) (fun h=>?_)|refine sf rfl rfl hH ?_|fail)
      all_goals first
       | (exfalso;clear hH;simp at *;done)
       | (exfalso;clear hH;simp at *;omega)
       | skip
      refine zK hlt trivial ⟨⟨?_,?_,rfl,rfl,rfl,rfl,trivial⟩,⟨?_,?_,trivial⟩,rfl⟩
      · rw [e1];rfl
      · rw [e2];rfl
      · rw [e1];rfl
      · rw [e2];rfl
    · rw [decide_eq_false hm] at hH
      have e1:xm P (M.take (k + 1))=xm P (M.take k) ++ [ut x]:=by unfold xm;rw [x7 hx,if_pos (by simp [hm]),List.map_append,List.append_assoc];rfl
      have e2:xn P (M.take (k + 1))=xn P (M.take k) ++ [yK x]:=by unfold xn;rw [x7 hx,if_pos (by simp [hm]),List.map_append,List.append_assoc];rfl
      repeat' (first|refine i_s rfl ?_|refine sw ?_|refine c_t rfl ?_|refine jd rfl rfl ?_|refine zl rfl ?_|refine zi rfl ?_|refine zd rfl (fun h=>?_) (fun h=>?_)|refine sf rfl rfl hH ?_|fail)
      all_goals first
       | (exfalso;clear hH;simp at *;done)
       | (exfalso;clear hH;simp at *;omega)
       | skip
      refine yU (c:=yK x) rfl rfl rfl rfl rfl (by omega) (by omega) ?_
      repeat (first|refine i_s rfl ?_|refine sw ?_)
      refine yU (c:=ut x) rfl rfl rfl rfl rfl (by omega) (by omega) ?_
      repeat (first|refine i_s rfl ?_|refine sw ?_|refine ja rfl rfl ?_)
      refine zK hlt trivial ⟨⟨?_,?_,rfl,rfl,rfl,rfl,trivial⟩,⟨?_,?_,trivial⟩,rfl⟩
      · rw [e1];rfl
      · rw [e2];rfl
      · rw [e1];simp;rfl
      · rw [e2];simp;rfl
  have hge:k=M.length:=by omega
  subst hge
  rw [List.take_length]
  repeat' (first|refine i_s rfl ?_|refine sw ?_|refine zd rfl (fun h=>?_) (fun h=>?_))
  all_goals first
   | exact zb ⟨rfl,_,rfl,rfl⟩
   | (exfalso;simp at *;done)
   | (exfalso;simp at *;omega)
def zxI:Option (List Lit)→V
 | some l=>.tup [.sl .p (l.map zY),.bool true]
 | none=>.tup [.sl .p [],.bool false]
def zcA:Cmd :=
 (qS [qq 6 (.mov (.c (.sl .nil []))),qb 7 false]
 (qS [qq 8 (.newVec 5376515)]
 (qT (qS [qm 12 1,qn 13 12,qc 14 0]
 (.block 0 (.loop (qS [qu 15 .lss [] 14 13]
 (qT (.cond (.t 15) .skip (.exit 0))
 (qT (.block 1 (qS [qi 16 3 12 14,qL 17 3 16,qq 10 (.alloc 5376643 (.agg [.bool false,.int .i64 0,.sl .nil []])),qs 3 10 17]
 (qS [qf 18 0 10,ql 19 1 18,qf 20 1 10,qL 21 2 20,qm 22 2,qk 23 124 [21,22],qq 24 (.build [.bool false,.int .i64 0,.sl .nil []] [(0 ,1 ,.t 19),(1 ,2 ,.t 23)]),qq 11 (.alloc 5376707 (.agg [.bool false,.int .i64 0,.sl .nil []])),qs 3 11 24]
 (.block 2 (qS [qm 26 0,qq 27 (.nilck (.t 26)),qf 28 6 27,ql 29 1 28,qf 30 1 10,qf 31 0 30,ql 32 1 31,qi 33 1 29 32,ql 34 1 33,qq 35 (.not (.t 34)),qm 25 35]
 (.cond (.t 25) (qS [qm 36 0,qq 37 (.nilck (.t 36)),qf 38 0 37,qf 39 4 38,ql 40 1 39,qf 41 1 11,qL 42 2 41,qk 43 86 [40,42],qf 44 0 10,ql 45 1 44,qu 46 .eql [.b] 43 45]
 (.cond (.t 46) (.seq (.ops [qq 6 (.mov (.c (.sl .nil []))),qb 7 false]) .ret) .skip)) (qS [qm 48 8,qL 49 3 11,qk 50 125 [49],qk 51 44 [48,50],qm 47 51]
 (.cond (.t 47) (.seq (.ops [qq 6 (.mov (.c (.sl .nil []))),qb 7 false]) .ret) (qS [qm 53 8,qL 54 3 11,qk 55 44 [53,54],qq 56 (.not (.t 55)),qm 52 56]
 (.cond (.t 52) (.ops [qm 57 8,qL 58 3 11,qq 59 (.bsl 3 [.t 58]),qq 60 (.append 3 40 113 (.t 57) (.t 59)),qm 8 60]) .skip))))))))))
 (.ops [qv 61 .add [] 14 1,qm 14 61])))))))
 (.seq (.ops [qm 62 8,qm 6 62,qb 7 true]) .ret))))
def zcB:List RVar:=[.tmp 6,.tmp 7]
def zcC:Nat:=63
theorem zcD:zj PG 84 zcC zcB zcA=true:=by kernel_rfl
theorem zvR (d:Dom)(hd:DomV d)(hdo:d.init.length≤140737488355328)(hio:∀ x∈d.init,AtOk x)(ng:List Bool)(l:List Lit)(args:List Int)(hl:l.length≤1000000)(hal:args.length≤140737488355328)(hf:∀ x∈l,FitA args x.at_)
  (hp:∀ x∈l,0≤x.at_.pred∧x.at_.pred < d.preds.length) :
  Fc PG 84 [grP d (wN d) ng,.sl .p (l.map zY),.sl .p (args.map zk)] (zxI (ws d args l [])):=by
 generalize hr:ws d args l []=r
 refine Fn.step zf zcD ?_
 repeat (first|refine zo rfl ?_|refine i_s rfl ?_|refine sw ?_|refine zem rfl ?_)
 refine x5 (ι:=Nat × List Lit) (fun i=>[(0,grP d (wN d) ng),(2,.sl .p (args.map zk)),(8,.sl (.own 5376515) (i.2.map zY)),(12,.sl .p (l.map zY)),(13,.int .i64 l.length),(14,.int .i64 i.1)])
  (fun i=>[(5376515,.vec i.2.length)]) (fun i=>i.1≤l.length∧i.2.length≤i.1∧(∀ x∈i.2,AtOk x.at_)∧ws d args (l.drop i.1) i.2=r) (fun i=>l.length - i.1) (0,[]) ⟨Nat.zero_le _,Nat.le_refl _,fun x hx=>(by cases hx),hr⟩ ft fun i hi=>?_
 obtain ⟨k,out⟩:=i
 obtain ⟨k1,k2,k3,k4⟩:=hi
 simp only at k1 k2 k3 k4 ⊢
 clear hr
 by_cases hlt:k < l.length
 · obtain ⟨x, hx⟩:=zh hlt
   have hfx:=hf x (zm hx)
   obtain ⟨p0,p1⟩:=hp x (zm hx)
   have p2:(wN d)[x.at_.pred.toNat]? = some (w9 d x.at_.pred):=by
    rw [yI (by omega)]
    unfold zwS
    rw [show ((x.at_.pred.toNat:Nat):Int)=x.at_.pred from by omega]
   have hB:=zcn args hal x.at_ hfx.len hfx.lo
   have hI:=zgk d.init (zL args x.at_) hdo hio hfx.ok
   have hN:=zpW (vA args x)
   have hO:=kE out (opp (vA args x)) (by omega) k3 (show AtOk (zL args x.at_) from hfx.ok)
   have hY:=kE out (vA args x) (by omega) k3 (show AtOk (zL args x.at_) from hfx.ok)
   have hcons:l.drop k=x :: l.drop (k + 1):=by
    rw [List.drop_eq_getElem_cons hlt]
    congr 1
    exact (List.getElem?_eq_some_iff.1 hx).2
   rw [hcons] at k4
   unfold ws at k4
   have hok2:∀ y∈out ++ [vA args x],AtOk y.at_:=fun y hy=>by
    rcases List.mem_append.1 hy with h|h
    · exact k3 y h
    · rw [List.mem_singleton] at h;subst h;exact hfx.ok
   cases hfb:w9 d x.at_.pred
   · rw [hfb] at p2 k4
     rw [if_pos rfl] at k4
     by_cases hin:decide (zL args x.at_∈d.init)=x.neg
     · rw [if_pos hin] at k4
       subst k4
       rw [hin] at hI
       clear hf hp hfx hok2 k3 hN hO hY hcons
       repeat' (first|refine i_s rfl ?_|refine sw ?_|refine c_t rfl ?_|refine ja rfl rfl ?_|refine jd rfl rfl ?_|refine zl rfl ?_|refine zi rfl ?_|refine zd rfl (fun h=>?_) (fun h=>?_)|refine sf rfl rfl hB ?_|refine sf rfl rfl hI ?_|fail)
       all_goals first
        | exact zb ⟨rfl,_,rfl,rfl⟩
        | (exfalso;clear hB hI;simp at *;done)
        | (exfalso;clear hB hI;simp at *;omega)
     · rw [if_neg hin] at k4
       generalize hq:decide (zL args x.at_∈d.init)=q at *
       clear hf hp hfx hok2 hN hO hY hcons
       repeat' (first|refine i_s rfl ?_|refine sw ?_|refine c_t rfl ?_|refine ja rfl rfl ?_|refine jd rfl rfl ?_|refine zl rfl ?_|refine zi rfl ?_|refine zd rfl (fun h=>?_) (fun h=>?_)|refine sf rfl rfl hB ?_|refine sf rfl rfl hI ?_|fail)
       all_goals first
        | exact xL (k + 1,out) ⟨by omega,by simp only;omega,k3,k4⟩ (by simp only;omega) ft
        | (exfalso;clear hB hI;simp at *;done)
        | (exfalso;clear hB hI;simp at *;omega)
        | (exfalso;clear hB hI;simp_all;done)
   · rw [hfb] at p2 k4
     rw [if_neg (by simp)] at k4
     by_cases h1:opp (vA args x)∈out
     · rw [if_pos h1] at k4
       subst k4
       rw [decide_eq_true h1] at hO
       clear hf hp hfx hok2 k3 hI hY hcons
       repeat' (first|refine i_s rfl ?_|refine sw ?_|refine c_t rfl ?_|refine c_f rfl ?_|refine jd rfl rfl ?_|refine zl rfl ?_|refine zi rfl ?_|refine zd rfl (fun h=>?_) (fun h=>?_)|refine sf rfl rfl hB ?_|refine sf rfl rfl hN ?_|refine sf rfl rfl hO ?_|fail)
       all_goals first
        | exact zb ⟨rfl,_,rfl,rfl⟩
        | (exfalso;clear hB hN hO;simp at *;done)
        | (exfalso;clear hB hN hO;simp at *;omega)
     · rw [if_neg h1] at k4
       rw [decide_eq_false h1] at hO
       by_cases h2:vA args x∈out
       · rw [if_pos h2] at k4
         rw [decide_eq_true h2] at hY
         clear hf hp hfx hok2 hI hcons
         repeat' (first|refine i_s rfl ?_|refine sw ?_|refine c_f rfl ?_|refine ja rfl rfl ?_|refine jd rfl rfl ?_|refine zl rfl ?_|refine zi rfl ?_|refine zd rfl (fun h=>?_) (fun h=>?_)|refine sf rfl rfl hB ?_|refine sf rfl rfl hN ?_|refine sf rfl rfl hO ?_|refine sf rfl rfl hY ?_|fail)
         all_goals first
          | exact xL (k + 1,out) ⟨by omega,by simp only;omega,k3,k4⟩ (by simp only;omega) ft
          | (exfalso;clear hB hN hO hY;simp at *;done)
          | (exfalso;clear hB hN hO hY;simp at *;omega)
       · rw [if_neg h2] at k4
         rw [decide_eq_false h2] at hY
         clear hf hp hfx k3 hI hcons
         repeat' (first|refine i_s rfl ?_|refine sw ?_|refine c_t rfl ?_|refine c_f rfl ?_|refine jd rfl rfl ?_|refine zl rfl ?_|refine zi rfl ?_|refine zd rfl (fun h=>?_) (fun h=>?_)|refine sf rfl rfl hB ?_|refine sf rfl rfl hN ?_|refine sf rfl rfl hO ?_|refine sf rfl rfl hY ?_|fail)
         all_goals first
          | (exfalso;clear hB hN hO hY;simp at *;done)
          | (exfalso;clear hB hN hO hY;simp at *;omega)
          | skip
         refine yU (c:=vA args x) rfl rfl rfl rfl rfl (by omega) (by omega) ?_
         repeat (first|refine i_s rfl ?_|refine sw ?_|refine ja rfl rfl ?_)
         refine xL (k + 1,out ++ [vA args x]) ⟨by omega,by simp;omega,hok2,k4⟩ (by simp only;omega) ⟨⟨rfl,rfl,rfl,rfl,rfl,rfl,trivial⟩,⟨?_,trivial⟩,rfl⟩
         simp;rfl
 · have hge:k=l.length:=by omega
   subst hge
   rw [List.drop_length] at k4
   have k5:some out=r:=k4
   subst k5
   repeat' (first|refine i_s rfl ?_|refine sw ?_|refine zd rfl (fun h=>?_) (fun h=>?_))
   all_goals first
    | exact zb ⟨rfl,_,rfl,rfl⟩
    | (exfalso;simp at *;done)
    | (exfalso;simp at *;omega)
def kN:Cmd :=
 (qS [qx 2 5248130 2 0,qb 3 false]
 (.seq (.ops [ql 4 1 1,qf 5 0 2,ql 6 1 5,qi 7 1 4 6,ql 8 1 7,ql 9 1 1,qf 10 1 2,ql 11 1 10,qi 12 1 9 11,ql 13 1 12,qu 14 .eql [.i] 8 13,qm 3 14]) .ret))
def kO:List RVar:=[.tmp 3]
def kP:Nat:=15
theorem kQ:zj PG 82 kP kO kN=true:=by kernel_rfl
theorem zn0 (p:Int × Int)(args:List Int)(h1:0≤p.1)(h2:p.1 < args.length)(h3:0≤p.2)(h4:p.2 < args.length):Fc PG 82 [uM p,.cptr .p (.sl .p (args.map zk)) 0] (.bool (zbS args p)):=by
 obtain ⟨x,hx⟩:=zh (l:=args) (k:=p.1.toNat) (by omega)
 obtain ⟨y,hy⟩:=zh (l:=args) (k:=p.2.toNat) (by omega)
 refine Fn.step zf kQ ?_
 repeat' (first|refine i_s rfl ?_|refine sw ?_|refine jd rfl rfl ?_|refine zr rfl rfl ?_)
 refine zb ⟨rfl,_,rfl,congrArg V.bool ?_⟩
 unfold zbS
 rw [hx,hy]
 by_cases e:x=y
 · simp [e]
 · simp [e]
def zbq:Cmd :=
 (qS [qx 1 2560065 1 0,qq 2 (.mov (.c (.nilfn)))]
 (.seq (.ops [qq 3 (.mkfn 81 [.t 1]),qm 2 3]) .ret))
def zbr:List RVar:=[.tmp 2]
def zbs:Nat:=4
theorem zbt:zj PG 40 zbs zbr zbq=true:=by kernel_rfl
theorem zb9 (d:Dom):Fc PG 40 [grP d (wN d) (vz d)] (.fn 81 [gP d]):=by
 refine Fn.step zf zbt ?_
 repeat' (first|refine i_s rfl ?_|refine sw ?_|refine zr rfl rfl ?_)
 exact zb ⟨rfl,_,rfl,rfl⟩
def jV:Cmd :=
 (qS [qx 2 5184129 1 0]
 (qS [ql 10 1 1,qq 11 (.nilck (.t 10)),qf 12 0 11,qf 13 3 12,ql 14 1 13,qn 15 14,qc 16 0]
 (.block 0 (.loop (qS [qu 17 .lss [] 16 15]
 (qT (.cond (.t 17) .skip (.exit 0))
 (qT (.block 1 (qS [qm 18 16,qi 19 7 14 16,qL 20 7 19,qq 3 (.alloc 5184193 (.int .i64 0)),qq 4 (.alloc 5184263 (.agg [.str [],.sl .nil [],.sl .nil [],.sl .nil [],.sl .nil [],.sl .nil [],.int .i64 0])),qs 1 3 18,qs 7 4 20]
 (qS [ql 21 1 1,qq 22 (.nilck (.t 21)),qf 23 0 22,qL 24 6 23,qf 25 1 4,ql 26 1 25,qk 27 79 [24,26]]
 (.block 2 (.rangeF [] (.t 27) [28] (.ops [qq 5 (.alloc 5184321 (.sl .nil [])),qs 1 5 28]) (.block 3 (qS [qq 29 (.mkfn 82 [.t 5]),qm 6 29]
 (qT (qS [qf 30 2 4,ql 31 1 30,qm 32 6,qk 33 83 [31,32]]
 (.cond (.t 33) (.exit 3) .skip))
 (qS [ql 35 1 1,qf 36 3 4,ql 37 1 36,ql 38 1 5,qk 39 84 [35,37,38],qm 34 39,qq 40 (.extract (.t 34) 0),qq 41 (.extract (.t 34) 1),qm 7 40,qm 8 41]
 (qT (qS [qm 42 8,qq 43 (.not (.t 42))]
 (.cond (.t 43) (.exit 3) .skip))
 (qS [ql 44 1 3,ql 45 1 5,qq 46 (.build [.int .i64 0,.sl .nil []] [(0 ,1 ,.t 44),(1 ,1 ,.t 45)]),qm 47 7,qf 48 6 4,ql 49 1 48,qq 50 (.build [.int .i64 0,.sl .nil [],.sl .nil [],.sl .nil [],.sl .nil [],.int .i64 0] [(0 ,2 ,.t 46),(2 ,1 ,.t 47),(5 ,1 ,.t 49)]),qq 9 (.alloc 5184582 (.agg [.int .i64 0,.sl .nil [],.sl .nil [],.sl .nil [],.sl .nil [],.int .i64 0])),qs 6 9 50]
 (qS [ql 52 1 1,qL 53 7 4,ql 54 1 5,qk 55 85 [52,53,54],qm 51 55,qq 56 (.extract (.t 51) 0),qq 57 (.extract (.t 51) 1),qf 58 3 9,qs 1 58 56,qf 59 4 9,qs 1 59 57]
 (qS [ql 60 1 2,qL 61 6 9,qq 62 (.call .y (.t 60) [.t 61]),qq 63 (.not (.t 62))]
 (.cond (.t 63) .ret .skip))))))))))))))
 (.ops [qv 64 .add [] 16 1,qm 16 64]))))))))
def jW:List RVar:=[]
def jX:Nat:=65
theorem jY:zj PG 81 jX jW jV=true:=by kernel_rfl
abbrev acS (k:Nat)(s:Sch):List (Nat × Blk):=[(5184129,.box .rnd),(5184193,.box (.int .i64 k)),(5184263,.box (xF s))]
theorem zpo {G:Type}{H:HT G} (d:Dom)(hd:DomV d)(ho:DoOk d)(g0:G)(K:G→Prop)(hy0:YL H ((zD d).map acY) g0 K) :
  Cc PG H 81 [.rnd,gP d] [] (zy []) g0 fun _ σ' g'=>σ' = zy []∧K g':=by
 have hsl:=hd.sl
 refine CT.step _ zf jY (fun nm hnm=>w7 _ nm hnm) fun hM=>?_
 have hy1:=zi6 hM _ _ _ hy0
 rw [zsu] at hy1
 clear hy0
 repeat' (first|refine zo rfl ?_|refine i_s rfl ?_|refine sw ?_|refine zr rfl rfl ?_)
 refine jO (ι:=Nat × G) (fun i=>[(1,gP d),(2,.bptr 5184129 0),(14,.sl .p (d.schemas.map xF)),(15,.int .i64 d.schemas.length),(16,.int .i64 i.1)]) (fun i=>[(5184129,.box .rnd)]) (fun i=>i.2)
  (fun i=>i.1≤d.schemas.length∧YB H ((zeS (zuW d) i.1 (d.schemas.drop i.1)).map acY) i.2 fun _=>K) (fun i=>d.schemas.length - i.1) (0,g0) ⟨Nat.zero_le _,hy1⟩ ft rfl fun i hi=>?_
 obtain ⟨k,g⟩:=i
 obtain ⟨h1,hy⟩:=hi
 simp only at h1 hy
 clear hy1
 by_cases hlt:k < d.schemas.length
 · obtain ⟨s, hs⟩:=zh hlt
   rw [ztN hs] at hy
   simp only [zeS,List.map_append] at hy
   have hyb:=jP hM _ _ _ _ hy
   clear hy
   have hv:=(zb6 hd hs).val
   have hso:=ho.schemas.2 s (zm hs)
   have hCh:=uU d s.types
   have htl:=hv.types.1
   have hdl:=hv.dl
   repeat' (first|refine i_s rfl ?_|refine sw ?_|refine jd rfl rfl ?_|refine zl rfl ?_|refine zi rfl ?_|refine zd rfl (fun h=>?_) (fun h=>?_)|refine sf rfl rfl hCh ?_|fail)
   all_goals first
    | (exfalso;simp at *;done)
    | (exfalso;simp at *;omega)
    | skip
   refine qw [(1,gP d),(2,.bptr 5184129 0),(3,.bptr 5184193 0),(4,.bptr 5184263 0),(14,.sl .p (d.schemas.map xF)),(15,.int .i64 d.schemas.length),(16,.int .i64 k)] (acS k s) [5184129,5184193,5184263]
    [] (acS k s) rfl ft rfl rfl rfl rfl ?_
   clear hCh
   refine u3 ?_ (zct d hd.ty s.types (by omega) _ (fun st=>∃ g',(st=(zy (acS k s),g',none)∧YB H ((zeS (zuW d) (k + 1) (d.schemas.drop (k + 1))).map acY) g' fun _=>K)∨(st=(zy (acS k s),g',some .ret)∧K g')) ?_)
   · rintro _ σ' st ⟨rfl,g',⟨rfl,hk⟩|⟨rfl,hk⟩⟩
     · refine ⟨rfl,?_⟩
       show WE _ _ _ _ _ .normal _ _ _
       repeat (first|refine i_s rfl ?_|refine sw ?_|refine ja rfl rfl ?_)
       exact kl ⟨(k + 1,g'),⟨hlt,hk⟩,ft,rfl,by simp only;omega⟩
     · refine ⟨rfl,?_⟩
       show WE _ _ _ _ _ .ret _ _ _
       exact zb ⟨rfl,_,rfl,rfl,rfl,zu _ _,hk⟩
   · refine zrc (h:=acY) hM (RHm hM) (acP d k s) (fun g=>(zy (acS k s),g,none)) (fun g=>(zy (acS k s),g,some .ret)) (yB d s.types) g (fun c hc g K' hK=>?_) ?_
     · clear hyb
       have hargs:=zdu hc
       obtain ⟨ha1,ha2⟩:=hargs
       have hargs:=zdu hc
       have hC:=kA s.diff (zbS c) 82 [.cptr .p (.sl .p (c.map zk)) 0] (by omega) (fun _ _=>rfl) rfl (fun p hp=>by
        have:=hv.diff p hp
        exact zn0 p c (by omega) (by omega) (by omega) (by omega))
       have hN:=zvR d hd (by have:=ho.init.1;omega) ho.init.2 (vz d) s.pre c (by have:=hv.prel;omega) (by omega) (fun x hx=>zl7 hargs hd.ty (hso.preA x hx) (hv.pre x hx)) (fun x hx=>(vO (hv.pre x hx)).1)
       have hE:=zto d (wN d) (vz d) s c (by omega) (by have:=hv.addl;omega) (by have:=hv.dell;omega) (fun x hx=>zl7 hargs hd.ty (hso.addA x hx) (hv.add x hx)) (fun x hx=>zl7 hargs hd.ty (hso.delA x hx) (hv.del x hx))
        (by have:=zhq (s.add.map (zL c));have:=hv.addl;simp only [List.length_map] at *;omega) (by have:=zhq (s.del.map (zL c));have:=hv.dell;simp only [List.length_map] at *;omega)
       refine w6 hM rfl ?_
       repeat (first|refine sw ?_|refine zl rfl ?_|refine zi rfl ?_)
       refine ym ?_
       show WC _ _ _ _ [] _ _ _ _
       cases hdf:s.diff.any (zbS c) with
       | true =>
        have e:acP d k s c=none:=by unfold acP;rw [if_pos hdf]
        rw [e] at hK
        change K' (.bool true) _ at hK
        rw [hdf] at hC
        clear hN hE e
        repeat' (first|refine i_s rfl ?_|refine sw ?_|refine c_t rfl ?_|refine sf rfl rfl hC ?_|fail)
        all_goals first
         | (exfalso;clear hC;simp at *;done)
         | skip
        refine ym ?_
        exact ko rfl rfl hK
       | false =>
        rw [hdf] at hC
        cases hn:ws d c s.pre [] with
        | none =>
         have e:acP d k s c=none:=by unfold acP;rw [hn,hdf];rfl
         rw [e] at hK
         change K' (.bool true) _ at hK
         rw [hn] at hN
         have hN:Fc PG 84 [grP d (wN d) (vz d),.sl .p (s.pre.map zY),.sl .p (c.map zk)] (.tup [.sl .p [],.bool false]):=hN
         clear hE e
         repeat' (first|refine i_s rfl ?_|refine sw ?_|refine c_t rfl ?_|refine c_f rfl ?_|refine sf rfl rfl hC ?_|refine sf rfl rfl hN ?_|fail)
         all_goals first
          | (exfalso;clear hC hN;simp at *;done)
          | skip
         refine ym ?_
         exact ko rfl rfl hK
        | some n =>
         have e:acP d k s c=some ⟨k,c,n,xm (sdA (s.add.map (zL c))) (sdA (s.del.map (zL c))),xn (sdA (s.add.map (zL c))) (sdA (s.del.map (zL c))),s.cost⟩:=by unfold acP;rw [hn,hdf];rfl
         rw [e] at hK
         simp only at hK
         rw [hn] at hN
         have hN:Fc PG 84 [grP d (wN d) (vz d),.sl .p (s.pre.map zY),.sl .p (c.map zk)] (.tup [.sl .p (n.map zY),.bool true]):=hN
         clear e
         generalize xm (sdA (s.add.map (zL c))) (sdA (s.del.map (zL c)))=A at *
         generalize xn (sdA (s.add.map (zL c))) (sdA (s.del.map (zL c)))=D at *
         repeat' (first|refine i_s rfl ?_|refine sw ?_|refine c_f rfl ?_|refine zl rfl ?_|refine zi rfl ?_|refine sf rfl rfl hC ?_|refine sf rfl rfl hN ?_|refine sf rfl rfl hE ?_|fail)
         all_goals first
          | (exfalso;clear hC hN hE;simp at *;done)
          | skip
         refine i_y hM rfl rfl rfl (hM _ _ _ _ (fun u g' hu=>?_) hK)
         rcases hu with ⟨rfl,hu⟩|⟨rfl,hu⟩
         · repeat (first|refine i_s rfl ?_|refine sw ?_|refine c_f rfl ?_)
           refine ym ?_
           exact ko rfl rfl hu
         · repeat (first|refine i_s rfl ?_|refine sw ?_|refine c_t rfl ?_)
           refine zb ?_
           exact zrY rfl rfl hu
     · refine zrb hM _ _ _ _ (fun b g' hb=>?_) hyb
       rcases hb with ⟨rfl,hb⟩|⟨rfl,hb⟩
       · exact ⟨g',.inl ⟨rfl,hb⟩⟩
       · exact ⟨g',.inr ⟨rfl,hb⟩⟩
 · have hge:k=d.schemas.length:=by omega
   subst hge
   rw [List.drop_length] at hy
   repeat' (first|refine i_s rfl ?_|refine sw ?_|refine zd rfl (fun h=>?_) (fun h=>?_))
   all_goals first
    | (exfalso;simp at *;done)
    | (exfalso;simp at *;omega)
    | skip
   exact ym ⟨rfl,_,rfl,rfl,rfl,zu _ _,hy⟩
def zbu:Cmd :=
 (qS [qx 2 5120129 1 0,qq 4 (.mov (.c (.sl .nil [])))]
 (qT (.seq (.ops [qm 6 1]) (.nvs 2 5121286 (.cut (.block 0 (.rangeF [] (.t 6) [7] (.ops [qq 5 (.alloc 5120326 (.agg [.int .i64 0,.sl .nil [],.sl .nil [],.sl .nil [],.sl .nil [],.int .i64 0])),qs 6 5 7]) (.block 1 (.ops [ql 8 1 2,qL 9 6 5,qq 10 (.bsl 6 [.t 9]),qq 11 (.append 6 112 106 (.t 8) (.t 10)),qs 1 2 11])))))))
 (.seq (.ops [ql 12 1 2,qm 4 12]) .ret)))
def zbv:List RVar:=[.tmp 4]
def zbw:Nat:=13
theorem zbx:zj PG 80 zbw zbv zbu=true:=by kernel_rfl
abbrev apS (l:List Ac):List (Nat × Blk):=[(5120129,.box (.sl (.own 5121286) (l.map acV))),(5121286,.vec l.length)]
theorem zfm {G:Type}{H:HT G} (d:Dom)(hd:DomV d)(ho:DoOk d)(g:G) :
  Cc PG H 80 [.sl .nil [],.fn 81 [gP d]] [5121286] (zy [(5121286,.zc)]) g fun r σ' g'=>(r=.sl (.own 5121286) ((zD d).map acV)∧σ' = zy [(5121286,.vec (zD d).length)])∧g' = g:=by
 have hL:=zan hd
 refine CT.step _ zf zbx (fun nm hnm=>w7 _ nm hnm) fun hM=>?_
 repeat (first|refine i_s rfl ?_|refine sw ?_|refine zr rfl rfl ?_)
 refine zoE rfl rfl rfl ?_
 repeat refine sw ?_
 refine qw [(2,.bptr 5120129 0)] (apS []) [5120129,5121286] [] (apS []) rfl ft rfl rfl rfl rfl ?_
 refine u3 ?_ (zpo d hd ho _ (fun st=>st=(zy (apS (zD d)),g,none)) ?_)
 · rintro _ σ' st ⟨rfl,rfl⟩
   refine ⟨rfl,?_⟩
   show WE _ _ _ _ _ .normal _ _ _
   repeat (first|refine i_s rfl ?_|refine sw ?_)
   exact zb ⟨rfl,_,rfl,rfl,rfl,⟨rfl,zu _ _⟩,rfl⟩
 · refine zl2 (RHm hM) (fun k=>(zy (apS ((zD d).take k)),g,none)) (zD d) 0 (fun i c hc K' hk=>?_) ?_
   · rw [Nat.zero_add] at hk ⊢
     have hlt:=yn hc
     have hpl:((zD d).take i).length≤i:=by simp;omega
     rw [show (zD d).take (i + 1)=(zD d).take i ++ [c] from zz hc] at hk
     generalize (zD d).take i=pre at *
     refine w6 hM rfl ?_
     repeat (first|refine sw ?_|refine zl rfl ?_|refine zi rfl ?_)
     refine ym ?_
     show WC _ _ _ _ [] _ _ _ _
     repeat (first|refine i_s rfl ?_|refine sw ?_)
     refine yU (c:=c) rfl rfl rfl rfl rfl (by omega) (by omega) ?_
     repeat (first|refine sw ?_|refine zl rfl ?_)
     refine ym ?_
     refine ko rfl rfl ?_
     have e2:(pre ++ [c]).length=pre.length + 1:=by simp
     simp only [apS,e2] at hk
     exact hk
   · rw [Nat.zero_add,List.take_length]
def zcE:Cmd :=
 (qS [qq 2 (.mov (.c (.sl .nil [])))]
 (.seq (.ops [qm 3 0,qq 4 (.call (.s [5121286]) (.c (.fn 80 [])) [.c (.sl .nil []),.t 3]),qm 2 4]) .ret))
def zcF:List RVar:=[.tmp 2]
def zcG:Nat:=5
theorem zcH:zj PG 39 zcG zcF zcE=true:=by kernel_rfl
theorem zca (d:Dom)(hd:DomV d)(ho:DoOk d):Fc PG 39 [.fn 81 [gP d]] (.sl .p ((zD d).map acV)):=by
 refine Fn.step zf zcH ?_
 repeat (first|refine i_s rfl ?_|refine sw ?_)
 refine zpe rfl rfl rfl rfl (zfm d hd ho _) ?_
 rintro _ _ _ ⟨⟨rfl,rfl⟩,rfl⟩
 repeat (first|refine i_s rfl ?_|refine sw ?_)
 exact zb ⟨rfl,_,rfl,rfl⟩
theorem zuF {d:Dom} (hd:DomV d) {a:At} (h:a∈wb d):AtOk a:=by
 obtain ⟨p,x,hx,h1,h2⟩:=znt.1 h
 obtain ⟨l1,l2⟩:=zi4 h2
 have hpl:=hd.pl
 have hol:=hd.ty.ol
 have hp:=yn hx
 have ht:=(zc1 hd hx).types.1
 refine ⟨by omega,fun c hc=>?_,?_⟩
 · have:=l2 c hc
   exact ⟨by omega,by omega⟩
 · rw [h1];exact ⟨by omega,by omega⟩
theorem zcb {d:Dom} (hd:DomV d):GFOk (ya d):=by
 refine ⟨?_,fun x hx=>zuF hd (znu.1 hx).1⟩
 unfold ya
 rw [List.length_append]
 have h1:=Nat.le_trans (zjR d d.preds.length) (vy hd (Nat.le_refl _))
 have h2:=Nat.le_trans (zjS d d.preds.length) (vy hd (Nat.le_refl _))
 omega
theorem zpp {d:Dom} (hd:DomV d)(ho:DoOk d) {a:Ac} (h:a∈zD d):ActOk a:=by
 obtain ⟨i,s,args,n,hs,hl,hn,_,rfl⟩:=zc7 h
 have hv:=(zb6 hd hs).val
 have hso:=ho.schemas.2 s (zm hs)
 have hargs:=zdu hl
 have hpl:=hv.prel
 have hal:=hv.addl
 have hdl:=hv.dell
 have hA:∀ a∈sdA (s.add.map (zL args)),AtOk a:=fun a ha=>by
  rw [zho] at ha
  obtain ⟨b,hb,rfl⟩:=List.mem_map.1 ha
  exact zet hargs hd.ty (hso.addA b hb) (hv.add b hb)
 have hD:∀ a∈sdA (s.del.map (zL args)),AtOk a:=fun a ha=>by
  rw [zho] at ha
  obtain ⟨b,hb,rfl⟩:=List.mem_map.1 ha
  exact zet hargs hd.ty (hso.delA b hb) (hv.del b hb)
 have lA:=zhq (s.add.map (zL args))
 have lD:=zhq (s.del.map (zL args))
 rw [List.length_map] at lA lD
 have lf:=List.length_filter_le (fun a=>!decide (a∈sdA (s.add.map (zL args)))) (sdA (s.del.map (zL args)))
 refine ⟨⟨by have:=zc8 hn;simp only [List.length_nil] at this;simp only;omega,fun y hy=>?_⟩,⟨by simp only [xm,List.length_append,List.length_map];omega,fun y hy=>?_⟩,⟨by simp only [xn,List.length_append,List.length_map];omega,fun y hy=>?_⟩⟩
 · rcases zam hn y hy with h|⟨x,hx,_,rfl⟩
   · cases h
   · exact zet hargs hd.ty (hso.preA x hx) (hv.pre x hx)
 · rcases znG.1 hy with ⟨_,h⟩|⟨_,h,_⟩
   · exact hA _ h
   · exact hD _ h
 · rcases znH.1 hy with ⟨_,h⟩|⟨_,h,_⟩
   · exact hA _ h
   · exact hD _ h
def fuG (d:Dom):Grd:=if atF d=okF then x9 d (ya d) (zD d) else grZ
def fuF (d:Dom):Flt:=if atF d=okF then vl (ya d) (zD d) else atF d
def reG (d:Dom):Grd:=if atF d=okF then x9 d (zag d (wL d (zD d))) (uk (zD d) (wL d (zD d))) else grZ
def reF (d:Dom):Flt:=if atF d=okF then vl (zag d (wL d (zD d))) (uk (zD d) (wL d (zD d))) else atF d
def zn1:Cmd :=
 (qS [qx 1 704070 6 0,qq 2 (.alloc 704134 (.agg [.int .i64 0,.sl .nil [],.sl .nil [],.sl .nil [],.sl .nil [],.sl .nil []])),qq 3 (.alloc 704194 (.agg [.int .i64 0,.int .i64 0]))]
 (qS [qL 7 6 1,qk 8 36 [7],qm 6 8,qq 9 (.extract (.t 6) 0),qq 10 (.extract (.t 6) 1),qq 5 (.alloc 704322 (.agg [.int .i64 0,.int .i64 0])),qm 4 9,qs 2 5 10]
 (qT (qS [qL 11 2 5,qq 12 (.build [.int .i64 0,.int .i64 0] []),qq 13 (.bin .neq true [.i,.i] (.t 11) (.t 12))]
 (.cond (.t 13) (.seq (.opsT (.node 1 2 (.leaf [0,1,2,3]) (.leaf [0,2,1,3])) [qq 14 (.build [.int .i64 0,.sl .nil [],.sl .nil [],.sl .nil [],.sl .nil [],.sl .nil []] []),qL 15 2 5,qs 6 2 14,qs 2 3 15]) .ret) .skip))
 (.seq (.ops [qm 16 4,qm 17 4,qk 18 38 [17],qm 19 4,qk 20 40 [19],qk 21 39 [20],qk 22 37 [16,18,21],qq 23 (.extract (.t 22) 0),qq 24 (.extract (.t 22) 1),qs 6 2 23,qs 2 3 24]) .ret))))
def zn2:List RVar:=[.cell true 6 2,.cell true 2 3]
def zn3:Nat:=25
theorem zfj:zj PG 11 zn3 zn2 zn1=true:=by kernel_rfl
theorem zwL (d:Dom)(ho:DoOk d):Fc PG 11 [yW d] (.tup [zjs (fuG d),ftV (fuF d)]):=by
 by_cases h:atF d=okF
 · have hS:=zlz d ho h
   have hd:=ui (u4 h).1
   have hL:=zli d hd
   have hA:=zb9 d
   have hC:=zca d hd ho
   have hB:=zrk d hd ho (ya d) (zD d) (zcb hd) (by have:=zan hd;omega) (fun a ha=>zpp hd ho ha)
   have e1:fuG d=x9 d (ya d) (zD d):=by unfold fuG;rw [if_pos h]
   have e2:fuF d=vl (ya d) (zD d):=by unfold fuF;rw [if_pos h]
   rw [e1,e2]
   clear e1 e2
   refine Fn.step zf zfj ?_
   repeat' (first|refine i_s rfl ?_|refine sw ?_|refine c_f rfl ?_|refine zl rfl ?_|refine zi rfl ?_|refine zr rfl rfl ?_|refine sf rfl rfl hS ?_|refine sf rfl rfl hL ?_|refine sf rfl rfl hA ?_|refine sf rfl rfl hC ?_|refine sf rfl rfl hB ?_|fail)
   all_goals first
    | exact zb ⟨rfl,_,rfl,rfl⟩
    | (exfalso;clear hS hL hA hC hB;simp at *;done)
 · have hS:=ziL d ho h
   have e1:fuG d=grZ:=by unfold fuG;rw [if_neg h]
   have e2:fuF d=atF d:=by unfold fuF;rw [if_neg h]
   rw [e1,e2]
   refine Fn.step zf zfj ?_
   repeat' (first|refine i_s rfl ?_|refine sw ?_|refine zl rfl ?_|refine zi rfl ?_|refine zr rfl rfl ?_|(refine sp ?_ ?_<;>try intro h)|refine sf rfl rfl hS ?_|fail)
   all_goals first
    | exact zb ⟨rfl,_,rfl,rfl⟩
    | exact absurd (zkt h) (by assumption)
def zjc:Cmd :=
 (qS [qb 3 false]
 (.seq (.ops [ql 4 1 1,qm 5 0,qi 6 1 4 5,ql 7 1 6,qq 8 (.not (.t 7)),qm 3 8]) .ret))
def zjd:List RVar:=[.tmp 3]
def zje:Nat:=9
theorem zjf:zj PG 43 zje zjd zjc=true:=by kernel_rfl
theorem ztp (n:Nat)(q:Nat→Bool)(p:Int)(p0:0≤p)(p1:p < n):Fc PG 43 [.int .i64 p,.cptr .p (.sl .p (flV n q)) 0] (.bool (!q p.toNat)):=by
 have hg:(xP n q)[p.toNat]? = some (q p.toNat):=yI (by omega)
 refine Fn.step zf zjf ?_
 repeat' (first|refine i_s rfl ?_|refine sw ?_|refine jd rfl rfl ?_|fail)
 exact zb ⟨rfl,_,rfl,rfl⟩
theorem ziH {n:Nat}{q q':Nat→Bool} (h:∀ p,p < n→q p=q' p):xP n q=xP n q':=by
 apply List.ext_getElem?
 intro k
 by_cases hk:k < n
 · rw [yI hk,yI hk,h k hk]
 · rw [List.getElem?_eq_none_iff.2 (by rw [wT];omega),List.getElem?_eq_none_iff.2 (by rw [wT];omega)]
theorem zpq {A:List V}{z v:V}{m k:Nat} (hA:A.length=k)(hk:k < m):(A ++ List.replicate (m - k) z).set k v=(A ++ [v]) ++ List.replicate (m - (k + 1)) z:=by
 rw [List.set_append_right _ _ (by omega),show m - k=(m - (k + 1)) + 1 from by omega,List.replicate_succ,hA,Nat.sub_self,List.set_cons_zero,List.append_assoc]
 rfl
theorem zpr {A:List V}{z:V}{m k:Nat} (hA:A.length=k)(hk:k < m):(A ++ List.replicate (m - k) z)[k]? = some z:=by
 rw [List.getElem?_append_right (by omega),hA,Nat.sub_self,List.getElem?_replicate,if_pos (by omega)]
theorem zuG {F:List Lit}{a:Ac}{hv:List Lit} (h:∀ x∈a.pre,x∈F):(yL F a.pre).any (fun p=>!xi F hv p.toNat) = !vk a hv:=by
 rw [Bool.eq_iff_iff]
 simp only [List.any_eq_true,Bool.not_eq_true',vk]
 constructor
 · rintro ⟨p,hp,h1⟩
   obtain ⟨p0,x,hx,h2⟩:=vY.1 hp
   unfold xi at h1
   rw [hx] at h1
   have h1:decide (x∈hv)=false:=h1
   apply Bool.eq_false_iff.2
   intro h3
   have:=List.all_eq_true.1 h3 x h2
   rw [h1] at this
   cases this
 · intro h1
   have h2:=Bool.eq_false_iff.1 h1
   have:∃ x∈a.pre,¬ x∈hv:=by
    apply Classical.byContradiction
    intro hn
    apply h2
    rw [List.all_eq_true]
    intro x hx
    have:x∈hv:=Classical.byContradiction fun h'=>hn ⟨x,hx,h'⟩
    exact decide_eq_true this
   obtain ⟨x,hx,hn⟩:=this
   obtain ⟨i,hi⟩:=List.getElem?_of_mem (h x hx)
   refine ⟨(i:Int),vY.2 ⟨by omega,x,by simpa using hi,hx⟩,?_⟩
   unfold xi
   rw [Int.toNat_natCast,hi]
   exact decide_eq_false hn
def zl8:Cmd :=
 (qS [qx 1 768070 6 0,qq 2 (.alloc 768134 (.agg [.int .i64 0,.sl .nil [],.sl .nil [],.sl .nil [],.sl .nil [],.sl .nil []])),qq 3 (.alloc 768194 (.agg [.int .i64 0,.int .i64 0]))]
 (qS [qL 27 6 1,qk 28 36 [27],qm 26 28,qq 29 (.extract (.t 26) 0),qq 30 (.extract (.t 26) 1),qq 5 (.alloc 768322 (.agg [.int .i64 0,.int .i64 0])),qm 4 29,qs 2 5 30]
 (qT (qS [qL 31 2 5,qq 32 (.build [.int .i64 0,.int .i64 0] []),qq 33 (.bin .neq true [.i,.i] (.t 31) (.t 32))]
 (.cond (.t 33) (.seq (.opsT (.node 1 2 (.leaf [0,1,2,3]) (.leaf [0,2,1,3])) [qq 34 (.build [.int .i64 0,.sl .nil [],.sl .nil [],.sl .nil [],.sl .nil [],.sl .nil []] []),qL 35 2 5,qs 6 2 34,qs 2 3 35]) .ret) .skip))
 (qS [qm 36 4,qk 37 38 [36],qm 38 4,qk 39 40 [38],qk 40 39 [39],qm 6 37,qm 7 40]
 (qS [qm 41 6,qn 42 41,qq 43 (.mkSl 770753 1 1 (.bool false) (.t 42) (.t 42)),qq 8 (.alloc 768513 (.sl .nil [])),qs 1 8 43]
 (qT (qS [qm 44 6,qn 45 44,qc 46 0]
 (.block 0 (.loop (qS [qu 47 .lss [] 46 45]
 (qT (.cond (.t 47) .skip (.exit 0))
 (qT (.block 1 (qS [qm 48 46,qi 49 3 44 46,qL 50 3 49,qq 10 (.alloc 768643 (.agg [.bool false,.int .i64 0,.sl .nil []])),qm 9 48,qs 3 10 50]
 (.ops [ql 51 1 8,qm 52 9,qm 53 4,qL 54 3 10,qk 55 41 [53,54],qi 56 1 51 52,qs 1 56 55])))
 (.ops [qv 57 .add [] 46 1,qm 46 57])))))))
 (qT (.opsT (.node 2 5 (.leaf [0,1,3,4,2,6,5,7]) (.leaf [0,1,3,4,5,2,6,7])) [qm 58 7,qn 59 58,qq 60 (.mkSl 771841 1 24 (.sl .nil []) (.t 59) (.t 59)),qm 61 7,qn 62 61,qq 63 (.mkSl 772033 1 24 (.sl .nil []) (.t 62) (.t 62)),qm 11 60,qm 12 63])
 (.seq (qS [qm 64 7,qn 65 64,qc 66 0]
 (.block 2 (.loop (qS [qu 67 .lss [] 66 65]
 (qT (.cond (.t 67) .skip (.exit 2))
 (qT (.block 3 (qS [qm 68 66,qi 69 6 64 66,qL 70 6 69,qq 14 (.alloc 768902 (.agg [.int .i64 0,.sl .nil [],.sl .nil [],.sl .nil [],.sl .nil [],.int .i64 0])),qm 13 68,qs 6 14 70]
 (.ops [qm 71 11,qm 72 13,qm 73 12,qm 74 13,qm 75 6,qf 76 2 14,ql 77 1 76,qk 78 42 [75,77],qm 79 6,qf 80 3 14,ql 81 1 80,qk 82 42 [79,81],qi 83 1 71 72,qs 1 83 78,qi 84 1 73 74,qs 1 84 82])))
 (.ops [qv 85 .add [] 66 1,qm 66 85]))))))) (.seq (.frz 12) (qT (.frz 11)
 (qS [qm 86 7,qn 87 86,qq 88 (.mkSl 773633 1 1 (.bool false) (.t 87) (.t 87)),qm 15 88]
 (qT (qS [qb 16 true]
 (.block 4 (.loop (qT (qS [qm 89 16]
 (.cond (.t 89) .skip (.exit 4)))
 (.block 5 (qS [qb 16 false]
 (qS [qm 90 7,qn 91 90,qc 92 0]
 (.block 6 (.loop (qS [qu 93 .lss [] 92 91]
 (qT (.cond (.t 93) .skip (.exit 6))
 (qT (.block 7 (qS [qm 94 92,qm 17 94]
 (qS [qm 95 15,qm 96 17,qi 97 1 95 96,ql 98 1 97,qq 99 (.not (.t 98)),qm 100 99,qg 101 100 true (.mov (.t 11)),qg 102 100 true (.mov (.t 17)),qg 103 100 true (.iaddr 1 (.t 101) (.t 102)),qg 104 100 true (.load false 1 (.t 103)),qg 105 100 true (.mkfn 43 [.t 8]),qg 106 100 true (.call .f (.c (.fn 17 [])) [.t 104,.t 105]),qg 107 100 true (.not (.t 106)),qq 108 (.pick (.t 100) (.t 107) (.c (.bool false)))]
 (.cond (.t 108) (qS [qm 109 15,qm 110 17,qi 111 1 109 110,.op none none (.store 1 (.t 111) (.c (.bool true))),qb 16 true]
 (qS [qm 112 12,qm 113 17,qi 114 1 112 113,ql 115 1 114,qn 116 115,qc 117 0]
 (.block 8 (.loop (qS [qu 118 .lss [] 117 116]
 (qT (.cond (.t 118) .skip (.exit 8))
 (qT (.block 9 (qS [qi 119 1 115 117,ql 120 1 119,qm 19 120]
 (.ops [ql 121 1 8,qm 122 19,qi 123 1 121 122,.op none none (.store 1 (.t 123) (.c (.bool true)))])))
 (.ops [qv 124 .add [] 117 1,qm 117 124])))))))) .skip))))
 (.ops [qv 125 .add [] 92 1,qm 92 125])))))))))))))
 (qS [qq 20 (.newVec 769283)]
 (qT (qS [qm 126 6,qn 127 126,qc 128 0]
 (.block 10 (.loop (qS [qu 129 .lss [] 128 127]
 (qT (.cond (.t 129) .skip (.exit 10))
 (qT (.block 11 (qS [qm 130 128,qi 131 3 126 128,qL 132 3 131,qq 22 (.alloc 769411 (.agg [.bool false,.int .i64 0,.sl .nil []])),qm 21 130,qs 3 22 132]
 (qS [ql 133 1 8,qm 134 21,qi 135 1 133 134,ql 136 1 135,qm 137 136,qg 138 137 false (.faddr 5 (.t 1)),qg 139 137 false (.load false 1 (.t 138)),qg 140 137 false (.load true 3 (.t 22)),qg 141 137 false (.call .f (.c (.fn 44 [])) [.t 139,.t 140]),qq 142 (.pick (.t 137) (.c (.bool true)) (.t 141))]
 (.cond (.t 142) (.ops [qm 143 20,qL 144 3 22,qq 145 (.bsl 3 [.t 144]),qq 146 (.append 3 40 113 (.t 143) (.t 145)),qm 20 146]) .skip))))
 (.ops [qv 147 .add [] 128 1,qm 128 147])))))))
 (qS [qq 23 (.newVec 769478)]
 (.seq (qS [qm 148 7,qn 149 148,qc 150 0]
 (.block 12 (.loop (qS [qu 151 .lss [] 150 149]
 (qT (.cond (.t 151) .skip (.exit 12))
 (qT (.block 13 (qS [qm 152 150,qi 153 6 148 150,qL 154 6 153,qq 25 (.alloc 769606 (.agg [.int .i64 0,.sl .nil [],.sl .nil [],.sl .nil [],.sl .nil [],.int .i64 0])),qm 24 152,qs 6 25 154]
 (qS [qm 155 15,qm 156 24,qi 157 1 155 156,ql 158 1 157]
 (.cond (.t 158) (.ops [qm 159 23,qL 160 6 25,qq 161 (.bsl 6 [.t 160]),qq 162 (.append 6 112 106 (.t 159) (.t 161)),qm 23 162]) .skip))))
 (.ops [qv 163 .add [] 150 1,qm 150 163]))))))) (.seq (.frz 23) (qT (.frz 20)
 (.seq (.ops [qm 164 4,qm 165 20,qm 166 23,qk 167 37 [164,165,166],qq 168 (.extract (.t 167) 0),qq 169 (.extract (.t 167) 1),qs 6 2 168,qs 2 3 169]) .ret)))))))))))))))))))
def zl9:List RVar:=[.cell true 6 2,.cell true 2 3]
def zma:Nat:=170
theorem zdH:zj PG 12 zma zl9 zl8=true:=by kernel_rfl
abbrev reE (d:Dom)(F:List Lit)(L:List Ac)(r:List (Nat × V)):List (Nat × V):=(1,.bptr 768070 0) :: (2,.bptr 768134 0) :: (3,.bptr 768194 0) :: (4,grP d (wN d) (vz d)) :: (6,.sl .p (F.map zY)) :: (7,.sl .p (L.map acV)) :: (8,.bptr 768513 0) :: r
abbrev reS (d:Dom)(F:List Lit)(q:Nat→Bool)(r:List (Nat × Blk)):List (Nat × Blk):=(768070,.box (yW d)) :: (768134,.box gZn) :: (768194,.box (ftV okF)) :: (768513,.box (.msl 770753 0 0 F.length)) :: (770753,.arr 0 (flV F.length q)) :: r
abbrev nuV (F l:List Lit):V:=.sl .p ((yL F l).map zk)
abbrev nuR (F:List Lit)(f:Ac→List Lit)(L:List Ac)(k:Nat):List V:=((L.take k).map fun a=>nuV F (f a)) ++ List.replicate (L.length - k) (.sl .nil [])
abbrev prR (F:List Lit)(L:List Ac):V:=.sl .p (L.map fun a=>nuV F a.pre)
abbrev adR (F:List Lit)(L:List Ac):V:=.sl .p (L.map fun a=>nuV F a.add)
theorem zr4 (d:Dom)(ho:DoOk d)(h:atF d=okF):Fc PG 12 [yW d] (.tup [zjs (reG d),ftV (reF d)]):=by
 have hS:=zlz d ho h
 have hd:=ui (u4 h).1
 have hdi:=ho.init
 have hdg:=ho.goal
 have hLi:=zli d hd
 have hAc:=zb9 d
 have hCo:=zca d hd ho
 have hFo:=zcb hd
 have hLo:∀ a∈zD d,ActOk a:=fun a ha=>zpp hd ho ha
 have hLl:=zan hd
 have hpf:∀ a∈zD d,∀ x∈a.pre,x∈ya d:=fun a ha=>znM (zcu hd) ha
 have hB:=fun s=>zrk d hd ho ((ya d).filter fun x=>decide (x∈RS.hv s) || decide (x∈d.goal)) (uk (zD d) s) ⟨Nat.le_trans (List.length_filter_le _ _) hFo.len,fun x hx=>hFo.ok x (List.mem_filter.1 hx).1⟩ (by have:=zgF (zD d) s;omega) (fun a ha=>hLo a (zgE ha))
 have e1:reG d=x9 d ((ya d).filter fun x=>decide (x∈(wL d (zD d)).hv) || decide (x∈d.goal)) (uk (zD d) (wL d (zD d))):=by unfold reG;rw [if_pos h];rfl
 have e2:reF d=vl ((ya d).filter fun x=>decide (x∈(wL d (zD d)).hv) || decide (x∈d.goal)) (uk (zD d) (wL d (zD d))):=by unfold reF;rw [if_pos h];rfl
 rw [e1,e2]
 have eR:wL d (zD d)=zaf (zD d) ⟨List.replicate (zD d).length false,(ya d).filter (vB d),true⟩:=rfl
 obtain ⟨R,hR⟩:∃ R,R=wL d (zD d):=⟨_,rfl⟩
 rw [← hR]
 rw [← hR] at eR
 clear e1 e2 hR
 obtain ⟨F,hF⟩:∃ F,F=ya d:=⟨_,rfl⟩
 obtain ⟨L,hL⟩:∃ L,L=zD d:=⟨_,rfl⟩
 rw [← hF] at hLi hFo hpf eR ⊢
 rw [← hL] at hCo hLo hLl hpf eR ⊢
 simp only [← hF,← hL] at hB
 clear hF hL
 have hFl:=hFo.len
 replace hB:=hB R
 refine Fn.step zf zdH ?_
 repeat' (first|refine zo rfl ?_|refine i_s rfl ?_|refine sw ?_|refine c_f rfl ?_|refine zl rfl ?_|refine zi rfl ?_|refine zr rfl rfl ?_|refine sf rfl rfl hS ?_|refine sf rfl rfl hLi ?_|refine sf rfl rfl hAc ?_|refine sf rfl rfl hCo ?_|fail)
 all_goals first
  | (exfalso;clear hS hLi hAc hCo;simp at *;done)
  | skip
 clear hS hLi hAc hCo
 refine zhh rfl rfl rfl (by omega) (by omega) (by omega) (by omega) rfl ?_
 repeat (first|refine zo rfl ?_|refine i_s rfl ?_|refine sw ?_|refine zl rfl ?_|refine zi rfl ?_)
 refine ye F.length (fun k=>reE d F L [(44,.sl .p (F.map zY)),(45,.int .i64 F.length),(46,.int .i64 k)]) (fun k=>reS d F (fun p=>decide (p < k) && xO d F p) []) (fun _=>True) trivial ⟨⟨rfl,rfl,rfl,rfl,rfl,rfl,rfl,rfl,rfl,rfl,trivial⟩,⟨rfl,rfl,rfl,?_,?_,trivial⟩,rfl⟩ fun k hk _=>?_
 · show Blk.box (V.msl _ 0 0 _)=_
   simp
 · show Blk.arr 0 _=Blk.arr 0 _
   rw [show ((F.length:Int).toNat)=F.length from by simp]
   refine congrArg (Blk.arr 0) ((zeM F.length).trans ?_)
   congr 1
 by_cases hlt:k < F.length
 · obtain ⟨x,hx⟩:=zh hlt
   have hI:=ziJ d (wN d) (vz d) (by omega) hdi.2 x (hFo.ok x (zm hx))
   have hfl:=qU (n:=F.length) (q:=fun p=>decide (p < k) && xO d F p) (q':=fun p=>decide (p < k + 1) && xO d F p) (c:=(k:Int)) (b:=vB d x) (by omega) (by omega) fun p hp=>by
    by_cases e:k=p
    · subst e
      have:xO d F k=vB d x:=by unfold xO;rw [hx]
      simp [this]
    · have h2:¬ ((k:Int)=(p:Int)):=by omega
      rw [decide_eq_false h2,Bool.and_false,Bool.or_false]
      congr 1
      exact decide_eq_decide.2 (by omega)
   repeat' (first|refine zo rfl ?_|refine i_s rfl ?_|refine sw ?_|refine jd rfl rfl ?_|refine zl rfl ?_|refine zi rfl ?_|(refine sp ?_ ?_<;>try intro h)|refine sf rfl rfl hI ?_|fail)
   all_goals first
    | (exfalso;clear hI;simp at *;done)
    | (exfalso;clear hI;simp at *;omega)
    | skip
   refine yJ rfl rfl rfl rfl (by omega) (by omega) rfl ?_
   skip
   refine km (row:=.bool false) rfl rfl rfl (by rw [Nat.zero_add,List.getElem?_map,yI (by omega)];simp) rfl rfl ?_
   repeat (first|refine i_s rfl ?_|refine sw ?_|refine ja rfl rfl ?_)
   refine zK hlt trivial ⟨⟨rfl,rfl,rfl,rfl,rfl,rfl,rfl,rfl,rfl,rfl,trivial⟩,⟨rfl,rfl,rfl,rfl,?_,trivial⟩,rfl⟩
   show Blk.arr 0 _=Blk.arr 0 _
   rw [Nat.zero_add]
   refine congrArg (Blk.arr 0) (Eq.trans ?_ hfl)
   simp
 have hge:k=F.length:=by omega
 subst hge
 repeat (first|refine i_s rfl ?_|refine sw ?_)
 refine c_f (by exact congrArg V.bool (by simp)) ?_
 repeat refine sw ?_
 have hq0:flV F.length (fun p=>decide (p < F.length) && xO d F p)=flV F.length (xi F (F.filter (vB d))):=by
  exact congrArg (List.map V.bool) (ziH fun p hp=>by
   obtain ⟨x,hx⟩:=zh hp
   rw [decide_eq_true hp,Bool.true_and]
   unfold xO xi
   rw [hx]
   simp only
   rw [Bool.eq_iff_iff,decide_eq_true_eq,List.mem_filter]
   exact ⟨fun h=>⟨zm hx,h⟩,fun h=>h.2⟩)
 generalize (fun p=>decide (p < F.length) && xO d F p)=q0 at *
 clear hlt hk
 refine zo1 xx (fun e ρ' σ' g'=>e=.normal∧g' = ()∧wx [] (reE d F L [(11,.msl 771841 0 0 L.length),(12,.msl 772033 0 0 L.length)]) (reS d F q0 [(771841,.arr 0 (nuR F Ac.pre L 0)),(772033,.arr 0 (nuR F Ac.add L 0))]) ρ' σ') ?_ ?_
 · repeat' (first|refine zo rfl ?_|refine i_s rfl ?_|refine sw ?_|refine jN ?_ ?_)
   all_goals
    refine zhh rfl rfl rfl (by omega) (by omega) (by omega) (by omega) rfl ?_
    repeat' refine i_s rfl ?_
   all_goals
    refine zhh rfl rfl rfl (by omega) (by omega) (by omega) (by omega) rfl ?_
    repeat' (first|refine i_s rfl ?_|refine sw ?_|fail)
   all_goals
    refine ym ⟨rfl,rfl,⟨rfl,rfl,rfl,rfl,rfl,rfl,rfl,?_,?_,trivial⟩,⟨rfl,rfl,rfl,rfl,rfl,?_,?_,trivial⟩,rfl⟩
    · show V.msl _ 0 0 _=_;simp
    · show V.msl _ 0 0 _=_;simp
    · show Blk.arr 0 _=Blk.arr 0 _;simp [nuR]
    · show Blk.arr 0 _=Blk.arr 0 _;simp [nuR]
 rintro _ ρ' σ' g' ⟨rfl,rfl,hf⟩
 refine zbg ?_
 refine zcX _ _ hf ?_
 clear hf
 repeat (first|refine zo rfl ?_|refine i_s rfl ?_|refine sw ?_)
 refine ye L.length (fun k=>reE d F L [(11,.msl 771841 0 0 L.length),(12,.msl 772033 0 0 L.length),(64,.sl .p (L.map acV)),(65,.int .i64 L.length),(66,.int .i64 k)]) (fun k=>reS d F q0 [(771841,.arr 0 (nuR F Ac.pre L k)),(772033,.arr 0 (nuR F Ac.add L k))]) (fun _=>True) trivial ft fun k hk _=>?_
 by_cases hlt:k < L.length
 · obtain ⟨a,hx⟩:=zh hlt
   have hao:=hLo a (zm hx)
   have hP:=zbT F a.pre hFl (by have:=hao.pre.len;omega) hFo.ok hao.pre.ok
   have hA:=zbT F a.add hFl (by have:=hao.add.len;omega) hFo.ok hao.add.ok
   have n1:((L.take k).map fun a=>nuV F a.pre).length=k:=by simp;omega
   have n2:((L.take k).map fun a=>nuV F a.add).length=k:=by simp;omega
   have s1:(nuR F Ac.pre L k).set k (nuV F a.pre)=nuR F Ac.pre L (k + 1):=by
    show (_ ++ _:List V).set _ _=_ ++ _
    rw [zpq n1 hlt,zz hx,List.map_append];rfl
   have s2:(nuR F Ac.add L k).set k (nuV F a.add)=nuR F Ac.add L (k + 1):=by
    show (_ ++ _:List V).set _ _=_ ++ _
    rw [zpq n2 hlt,zz hx,List.map_append];rfl
   clear hao
   repeat' (first|refine i_s rfl ?_|refine sw ?_|refine jd rfl rfl ?_|refine zl rfl ?_|refine zi rfl ?_|refine zd rfl (fun h=>?_) (fun h=>?_)|refine sf rfl rfl hP ?_|refine sf rfl rfl hA ?_|fail)
   all_goals first
    | (exfalso;clear hP hA;simp at *;done)
    | (exfalso;clear hP hA;simp at *;omega)
    | skip
   refine yJ rfl rfl rfl rfl (by omega) (by omega) rfl ?_
   skip
   refine km (row:=.sl .nil []) rfl rfl rfl (by rw [Nat.zero_add];exact zpr n1 hlt) rfl rfl ?_
   skip
   refine yJ rfl rfl rfl rfl (by omega) (by omega) rfl ?_
   skip
   refine km (row:=.sl .nil []) rfl rfl rfl (by rw [Nat.zero_add];exact zpr n2 hlt) rfl rfl ?_
   repeat (first|refine i_s rfl ?_|refine sw ?_|refine ja rfl rfl ?_)
   refine zK hlt trivial ⟨⟨rfl,rfl,rfl,rfl,rfl,rfl,rfl,rfl,rfl,rfl,rfl,rfl,trivial⟩,⟨rfl,rfl,rfl,rfl,rfl,?_,?_,trivial⟩,rfl⟩
   · show Blk.arr 0 _=Blk.arr 0 _
     rw [Nat.zero_add]
     exact congrArg (Blk.arr 0) s1
   · show Blk.arr 0 _=Blk.arr 0 _
     rw [Nat.zero_add]
     exact congrArg (Blk.arr 0) s2
 have hge:k=L.length:=by omega
 subst hge
 repeat' (first|refine i_s rfl ?_|refine sw ?_|refine zd rfl (fun h=>?_) (fun h=>?_))
 all_goals first
  | (exfalso;simp at *;done)
  | (exfalso;simp at *;omega)
  | skip
 refine zeH rfl rfl rfl (by simp [nuR]) ?_
 repeat refine sw ?_
 refine zeH rfl rfl rfl (by simp [nuR]) ?_
 repeat (first|refine zo rfl ?_|refine i_s rfl ?_|refine sw ?_)
 refine zhh rfl rfl rfl (by omega) (by omega) (by omega) (by omega) rfl ?_
 repeat (first|refine i_s rfl ?_|refine sw ?_)
 have hnu:∀ f:Ac→List Lit,nuR F f L L.length=L.map fun a=>nuV F (f a):=fun f=>by simp [nuR]
 clear hlt hk
 refine x5 (ι:=RS) (fun s=>reE d F L [(11,prR F L),(12,adR F L),(15,.msl 773633 0 0 L.length),(16,.bool s.again)]) (fun s=>reS d F (xi F s.hv) [(773633,.arr 0 (s.used.map V.bool))])
  (fun s=>s.used.length=L.length∧zaf L s=R) (fun s=>zc s + if s.again=true then 1 else 0) ⟨List.replicate L.length false,F.filter (vB d),true⟩ ⟨by simp,eR.symm⟩ ⟨⟨rfl,rfl,rfl,rfl,rfl,rfl,rfl,?_,?_,?_,rfl,trivial⟩,⟨rfl,rfl,rfl,rfl,?_,?_,trivial⟩,rfl⟩ fun s hi=>?_
 · exact congrArg (V.sl .p) (hnu Ac.pre)
 · exact congrArg (V.sl .p) (hnu Ac.add)
 · show V.msl _ 0 0 _=_;simp
 · exact congrArg (Blk.arr 0) hq0
 · show Blk.arr 0 _=Blk.arr 0 _;simp
 clear hnu hq0 eR
 obtain ⟨h1,h2⟩:=hi
 repeat (first|refine i_s rfl ?_|refine sw ?_)
 refine zd rfl (fun ha=>?_) (fun ha=>?_)
 · have h3:=zqO (acts:=L) ha
   rw [h2] at h3
   obtain ⟨p1,p2⟩:=jH L s
   have hpl:∀ k,(xC L ⟨s.used,s.hv,false⟩ k).used.length=L.length:=fun k=>by rw [znJ];exact h1
   repeat (first|refine zo rfl ?_|refine i_s rfl ?_|refine sw ?_)
   refine ye L.length (fun k=>reE d F L [(11,prR F L),(12,adR F L),(15,.msl 773633 0 0 L.length),(16,.bool (xC L ⟨s.used,s.hv,false⟩ k).again),(90,.sl .p (L.map acV)),(91,.int .i64 L.length),(92,.int .i64 k)])
    (fun k=>reS d F (xi F (xC L ⟨s.used,s.hv,false⟩ k).hv) [(773633,.arr 0 ((xC L ⟨s.used,s.hv,false⟩ k).used.map V.bool))]) (fun _=>True) trivial ft fun k hk _=>?_
   by_cases hlt:k < L.length
   · obtain ⟨a,hx⟩:=zh hlt
     have hpk:=uj L ⟨s.used,s.hv,false⟩ k
     have hpl:=hpl k
     generalize hu:xC L ⟨s.used,s.hv,false⟩ (k + 1)=u at *
     generalize xC L ⟨s.used,s.hv,false⟩ k=t at *
     obtain ⟨b,hb⟩:=zh (l:=t.used) (k:=k) (by omega)
     have hre:=zuG (F:=F) (hv:=t.hv) (hpf a (zm hx))
     have hst:xp L t k=if t.used[k]? = some false∧vk a t.hv=true then ⟨t.used.set k true,t.hv ++ a.add,true⟩ else t:=by unfold xp;rw [hx]
     rw [hst] at hpk
     clear hst p1 p2 h3 ha h2
     have nl1:(yL F a.pre).length≤F.length:=qQ _ _
     have nl2:(yL F a.add).length≤F.length:=qQ _ _
     have hC0:=vW (yL F a.pre) (fun p=>!xi F t.hv p.toNat) 43 [.cptr .p (.sl .p (flV F.length (xi F t.hv))) 0] (by omega) (fun _ _=>rfl) rfl (fun p hp=>by
      obtain ⟨q0,x,q1,_⟩:=vY.1 hp
      have:=yn q1
      exact ztp F.length _ p q0 (by omega))
     rw [hre] at hC0
     have ed:(List.drop 0 (flV F.length (xi F t.hv))).take F.length=flV F.length (xi F t.hv):=by rw [List.drop_zero,List.take_of_length_le (by simp [wT])]
     rw [← ed] at hC0
     clear hre ed
     cases b with
     | true =>
      rw [if_neg (by rw [hb];simp)] at hpk
      subst hpk
      clear hC0
      repeat (first|refine i_s rfl ?_|refine sw ?_)
      refine c_t (by exact congrArg V.bool (by simp [hlt])) ?_
      repeat (first|refine i_s rfl ?_|refine sw ?_)
      refine yJ rfl rfl rfl rfl (by omega) (by omega) rfl ?_
      skip
      refine xB (row:=.bool true) rfl rfl rfl (by rw [Nat.zero_add,List.getElem?_map,Int.toNat_natCast,hb];rfl) rfl ?_
      repeat' (first|refine i_s rfl ?_|refine sw ?_|refine yw rfl ?_|refine c_f rfl ?_|refine ja rfl rfl ?_|fail)
      all_goals first
       | (exfalso;simp at *;done)
       | (exfalso;simp at *;omega)
       | (refine zK hlt trivial ⟨⟨rfl,rfl,rfl,rfl,rfl,rfl,rfl,rfl,rfl,rfl,?_,rfl,rfl,rfl,trivial⟩,⟨rfl,rfl,rfl,rfl,?_,?_,trivial⟩,rfl⟩<;>(rw [hu];first|done|rfl))
     | false =>
      cases hr:vk a t.hv with
      | false =>
       rw [if_neg (by rw [hr];simp)] at hpk
       subst hpk
       rw [hr] at hC0
       repeat (first|refine i_s rfl ?_|refine sw ?_)
       refine c_t (by exact congrArg V.bool (by simp [hlt])) ?_
       repeat (first|refine i_s rfl ?_|refine sw ?_)
       refine yJ rfl rfl rfl rfl (by omega) (by omega) rfl ?_
       skip
       refine xB (row:=.bool false) rfl rfl rfl (by rw [Nat.zero_add,List.getElem?_map,Int.toNat_natCast,hb];rfl) rfl ?_
       repeat' (first|refine i_s rfl ?_|refine sw ?_|refine yi rfl ?_|refine c_f rfl ?_|refine ja rfl rfl ?_|refine jd rfl rfl ?_|refine sf rfl rfl hC0 ?_|fail)
       all_goals first
        | (exfalso;clear hC0;simp at *;done)
        | (exfalso;clear hC0;simp at *;omega)
        | (refine zK hlt trivial ⟨⟨rfl,rfl,rfl,rfl,rfl,rfl,rfl,rfl,rfl,rfl,?_,rfl,rfl,rfl,trivial⟩,⟨rfl,rfl,rfl,rfl,?_,?_,trivial⟩,rfl⟩<;>(rw [hu];first|done|rfl))
      | true =>
       rw [if_pos ⟨hb,hr⟩] at hpk
       rw [hr] at hC0
       repeat (first|refine i_s rfl ?_|refine sw ?_)
       refine c_t (by exact congrArg V.bool (by simp [hlt])) ?_
       repeat (first|refine i_s rfl ?_|refine sw ?_)
       refine yJ rfl rfl rfl rfl (by omega) (by omega) rfl ?_
       skip
       refine xB (row:=.bool false) rfl rfl rfl (by rw [Nat.zero_add,List.getElem?_map,Int.toNat_natCast,hb];rfl) rfl ?_
       repeat' (first|refine i_s rfl ?_|refine sw ?_|refine yi rfl ?_|refine c_t rfl ?_|refine jd rfl rfl ?_|refine sf rfl rfl hC0 ?_|fail)
       all_goals first
        | (exfalso;clear hC0;simp at *;done)
        | (exfalso;clear hC0;simp at *;omega)
        | skip
       refine yJ rfl rfl rfl rfl (by omega) (by omega) rfl ?_
       skip
       refine km (row:=.bool false) rfl rfl rfl (by rw [Nat.zero_add,List.getElem?_map,Int.toNat_natCast,hb];rfl) rfl rfl ?_
       clear hC0
       repeat' (first|refine zo rfl ?_|refine i_s rfl ?_|refine sw ?_|refine jd rfl rfl ?_|fail)
       refine ye (yL F a.add).length (fun j=>reE d F L [(11,prR F L),(12,adR F L),(15,.msl 773633 0 0 L.length),(16,.bool true),(90,.sl .p (L.map acV)),(91,.int .i64 L.length),(92,.int .i64 k),(115,nuV F a.add),(116,.int .i64 (yL F a.add).length),(117,.int .i64 j)])
        (fun j=>reS d F (fun p=>xi F t.hv p || decide ((p:Int)∈(yL F a.add).take j)) [(773633,.arr 0 ((t.used.set k true).map V.bool))]) (fun _=>True) trivial ⟨⟨rfl,rfl,rfl,rfl,rfl,rfl,rfl,rfl,rfl,rfl,rfl,rfl,rfl,rfl,rfl,rfl,rfl,trivial⟩,⟨rfl,rfl,rfl,rfl,?_,?_,trivial⟩,rfl⟩ fun j hj _=>?_
       · refine congrArg (fun q=>Blk.arr 0 (flV F.length q)) (funext fun p=>?_)
         simp
       · show Blk.arr 0 _=Blk.arr 0 _
         rw [Nat.zero_add,Int.toNat_natCast,List.map_set]
       by_cases hlj:j < (yL F a.add).length
       · obtain ⟨p,hp⟩:=zh hlj
         obtain ⟨q0,x,q1,_⟩:=vY.1 (zm hp)
         have q2:=yn q1
         have hfl:=qU (n:=F.length) (q:=fun p=>xi F t.hv p || decide ((p:Int)∈(yL F a.add).take j)) (q':=fun p=>xi F t.hv p || decide ((p:Int)∈(yL F a.add).take (j + 1))) (c:=p) (b:=true) q0 (by omega) fun i _=>by
          rw [zz hp,Bool.true_and,Bool.or_assoc]
          congr 1
          rw [Bool.eq_iff_iff,Bool.or_eq_true,decide_eq_true_eq,decide_eq_true_eq,decide_eq_true_eq,List.mem_append,List.mem_singleton]
          exact ⟨fun h=>h.imp id fun h=>h.symm,fun h=>h.imp id fun h=>h.symm⟩
         rw [Bool.or_true] at hfl
         repeat' (first|refine i_s rfl ?_|refine sw ?_|refine ja rfl rfl ?_|refine jd rfl rfl ?_|refine zd rfl (fun h=>?_) (fun h=>?_))
         all_goals first
          | (exfalso;simp at *;done)
          | (exfalso;simp at *;omega)
          | skip
         refine yJ rfl rfl rfl rfl (by omega) (by omega) rfl ?_
         skip
         refine km (row:=.bool (xi F t.hv p.toNat || decide ((p.toNat:Int)∈(yL F a.add).take j))) rfl rfl rfl (by rw [Nat.zero_add,List.getElem?_map,yI (by omega)];rfl) rfl rfl ?_
         repeat (first|refine i_s rfl ?_|refine sw ?_|refine ja rfl rfl ?_)
         refine zK hlj trivial ⟨⟨rfl,rfl,rfl,rfl,rfl,rfl,rfl,rfl,rfl,rfl,rfl,rfl,rfl,rfl,rfl,rfl,rfl,trivial⟩,⟨rfl,rfl,rfl,rfl,?_,rfl,trivial⟩,rfl⟩
         show Blk.arr 0 _=Blk.arr 0 _
         rw [Nat.zero_add]
         exact congrArg (Blk.arr 0) hfl
       have hge:j=(yL F a.add).length:=by omega
       subst hge
       rw [List.take_length]
       have hfin:flV F.length (fun p=>xi F t.hv p || decide ((p:Int)∈yL F a.add))=flV F.length (xi F (t.hv ++ a.add)):=by
        exact congrArg (List.map V.bool) (ziH fun p hp=>by
         obtain ⟨x,hx⟩:=zh hp
         have h5:=q7 (l:=a.add) hx
         unfold xi
         rw [hx]
         simp only
         rw [Bool.eq_iff_iff,Bool.or_eq_true,decide_eq_true_eq,decide_eq_true_eq,decide_eq_true_eq,List.mem_append,h5])
       repeat' (first|refine i_s rfl ?_|refine sw ?_|refine ja rfl rfl ?_|refine zd rfl (fun h=>?_) (fun h=>?_))
       all_goals first
        | (exfalso;simp at *;done)
        | (exfalso;simp at *;omega)
        | skip
       refine zK hlt trivial ⟨⟨rfl,rfl,rfl,rfl,rfl,rfl,rfl,rfl,rfl,rfl,?_,rfl,rfl,rfl,trivial⟩,⟨rfl,rfl,rfl,rfl,?_,?_,trivial⟩,rfl⟩
       · rw [hu,hpk];rfl
       · rw [hu,hpk];exact congrArg (Blk.arr 0) hfin
       · rw [hu,hpk];first|done|rfl
   have hge:k=L.length:=by omega
   subst hge
   repeat' (first|refine i_s rfl ?_|refine sw ?_|refine zd rfl (fun h=>?_) (fun h=>?_))
   all_goals first
    | (exfalso;simp at *;done)
    | (exfalso;simp at *;omega)
    | skip
   refine xL (ve L s) ⟨hpl _,h3.symm⟩ ?_ ft
   rw [ha]
   cases hpa:(ve L s).again with
   | true=>have:=p2 hpa;simp;omega
   | false=>simp;omega
 have h3:=zsf (acts:=L) ha
 rw [h2] at h3
 subst h3
 clear h2
 have hpr:∃ pr:Lit→Bool,pr=fun x=>decide (x∈R.hv) || decide (x∈d.goal):=⟨_,rfl⟩
 obtain ⟨pr,hpr⟩:=hpr
 rw [← hpr] at hB ⊢
 repeat (first|refine zo rfl ?_|refine i_s rfl ?_|refine sw ?_|refine zem rfl ?_)
 refine ye F.length (fun k=>reE d F L [(15,.msl 773633 0 0 L.length),(20,.sl (.own 769283) (((F.take k).filter pr).map zY)),(126,.sl .p (F.map zY)),(127,.int .i64 F.length),(128,.int .i64 k)])
  (fun k=>reS d F (xi F R.hv) [(773633,.arr 0 (R.used.map V.bool)),(769283,.vec ((F.take k).filter pr).length)]) (fun _=>True) trivial ft fun k hk _=>?_
 by_cases hlt:k < F.length
 · obtain ⟨x,hx⟩:=zh hlt
   have hH:=kE d.goal x (by omega) hdg.2 (hFo.ok x (zm hx))
   have hin:xi F R.hv k=decide (x∈R.hv):=by unfold xi;rw [hx]
   have hpx:pr x=(decide (x∈R.hv) || decide (x∈d.goal)):=by rw [hpr]
   have e1:=x7 hx pr
   have l1:=List.length_filter_le pr (F.take k)
   have l2:(F.take k).length≤k:=by simp;omega
   generalize hb1:decide (x∈R.hv)=b1 at *
   generalize hb2:decide (x∈d.goal)=b2 at *
   clear hb1 hb2
   cases b1 with
   | true =>
    rw [hpx,Bool.true_or,if_pos rfl] at e1
    clear hH
    repeat (first|refine i_s rfl ?_|refine sw ?_)
    refine c_t (by exact congrArg V.bool (by simp [hlt])) ?_
    repeat (first|refine i_s rfl ?_|refine sw ?_|refine jd rfl rfl ?_|refine zl rfl ?_|refine zi rfl ?_)
    refine yJ rfl rfl rfl rfl (by omega) (by omega) rfl ?_
    skip
    refine xB (row:=.bool true) rfl rfl rfl (by rw [Nat.zero_add,List.getElem?_map,Int.toNat_natCast,yI hlt,hin];rfl) rfl ?_
    repeat' (first|refine i_s rfl ?_|refine sw ?_|refine yw rfl ?_|refine c_t rfl ?_)
    all_goals first
     | (exfalso;simp at *;done)
     | (exfalso;simp at *;omega)
     | skip
    refine yU (c:=x) rfl rfl rfl rfl rfl (by omega) (by omega) ?_
    repeat' (first|refine i_s rfl ?_|refine sw ?_|refine ja rfl rfl ?_|fail)
    refine zK hlt trivial ⟨⟨rfl,rfl,rfl,rfl,rfl,rfl,rfl,rfl,?_,rfl,rfl,rfl,trivial⟩,⟨rfl,rfl,rfl,rfl,rfl,rfl,?_,trivial⟩,rfl⟩
    · rw [e1];rfl
    · rw [e1];simp;rfl
   | false =>
    rw [Bool.false_or] at hpx
    cases b2 with
    | true =>
     rw [hpx,if_pos rfl] at e1
     repeat (first|refine i_s rfl ?_|refine sw ?_)
     refine c_t (by exact congrArg V.bool (by simp [hlt])) ?_
     repeat (first|refine i_s rfl ?_|refine sw ?_|refine jd rfl rfl ?_|refine zl rfl ?_|refine zi rfl ?_)
     refine yJ rfl rfl rfl rfl (by omega) (by omega) rfl ?_
     skip
     refine xB (row:=.bool false) rfl rfl rfl (by rw [Nat.zero_add,List.getElem?_map,Int.toNat_natCast,yI hlt,hin];rfl) rfl ?_
     repeat' (first|refine i_s rfl ?_|refine sw ?_|refine yi rfl ?_|refine c_t rfl ?_|refine sf rfl rfl hH ?_|fail)
     all_goals first
      | (exfalso;clear hH;simp at *;done)
      | (exfalso;clear hH;simp at *;omega)
      | skip
     refine yU (c:=x) rfl rfl rfl rfl rfl (by omega) (by omega) ?_
     repeat' (first|refine i_s rfl ?_|refine sw ?_|refine ja rfl rfl ?_|fail)
     refine zK hlt trivial ⟨⟨rfl,rfl,rfl,rfl,rfl,rfl,rfl,rfl,?_,rfl,rfl,rfl,trivial⟩,⟨rfl,rfl,rfl,rfl,rfl,rfl,?_,trivial⟩,rfl⟩
     · rw [e1];rfl
     · rw [e1];simp;rfl
    | false =>
     rw [hpx,if_neg (by simp),List.append_nil] at e1
     repeat (first|refine i_s rfl ?_|refine sw ?_)
     refine c_t (by exact congrArg V.bool (by simp [hlt])) ?_
     repeat (first|refine i_s rfl ?_|refine sw ?_|refine jd rfl rfl ?_|refine zl rfl ?_|refine zi rfl ?_)
     refine yJ rfl rfl rfl rfl (by omega) (by omega) rfl ?_
     skip
     refine xB (row:=.bool false) rfl rfl rfl (by rw [Nat.zero_add,List.getElem?_map,Int.toNat_natCast,yI hlt,hin];rfl) rfl ?_
     repeat' (first|refine i_s rfl ?_|refine sw ?_|refine yi rfl ?_|refine c_f rfl ?_|refine ja rfl rfl ?_|refine sf rfl rfl hH ?_|fail)
     all_goals first
      | (exfalso;clear hH;simp at *;done)
      | (exfalso;clear hH;simp at *;omega)
      | skip
     refine zK hlt trivial ⟨⟨rfl,rfl,rfl,rfl,rfl,rfl,rfl,rfl,?_,rfl,rfl,rfl,trivial⟩,⟨rfl,rfl,rfl,rfl,rfl,rfl,?_,trivial⟩,rfl⟩
     · rw [e1];rfl
     · rw [e1];rfl
 have hge:k=F.length:=by omega
 subst hge
 rw [List.take_length]
 clear hk hlt
 generalize F.filter pr=A at *
 repeat (first|refine i_s rfl ?_|refine sw ?_)
 refine c_f (by exact congrArg V.bool (by simp)) ?_
 repeat (first|refine zo rfl ?_|refine i_s rfl ?_|refine sw ?_|refine zem rfl ?_)
 refine ye L.length (fun k=>reE d F L [(15,.msl 773633 0 0 L.length),(20,.sl (.own 769283) (A.map zY)),(23,.sl (.own 769478) ((vg L R.used k).map acV)),(148,.sl .p (L.map acV)),(149,.int .i64 L.length),(150,.int .i64 k)])
  (fun k=>reS d F (xi F R.hv) [(773633,.arr 0 (R.used.map V.bool)),(769283,.vec A.length),(769478,.vec (vg L R.used k).length)]) (fun _=>True) trivial ft fun k hk _=>?_
 by_cases hlt:k < L.length
 · obtain ⟨a,hx⟩:=zh hlt
   obtain ⟨b,hb⟩:=zh (l:=R.used) (k:=k) (by omega)
   have e1:=zsg L R.used k
   rw [hb,hx] at e1
   have l1:(vg L R.used k).length≤k:=by
    unfold vg
    exact Nat.le_trans (List.length_filterMap_le _ _) (by simp)
   cases b with
   | true =>
    rw [if_pos rfl] at e1
    have e1:vg L R.used (k + 1)=vg L R.used k ++ [a]:=e1
    repeat (first|refine i_s rfl ?_|refine sw ?_)
    refine c_t (by exact congrArg V.bool (by simp [hlt])) ?_
    repeat (first|refine i_s rfl ?_|refine sw ?_|refine jd rfl rfl ?_|refine zl rfl ?_|refine zi rfl ?_)
    refine yJ rfl rfl rfl rfl (by omega) (by omega) rfl ?_
    skip
    refine xB (row:=.bool true) rfl rfl rfl (by rw [Nat.zero_add,List.getElem?_map,Int.toNat_natCast,hb];rfl) rfl ?_
    repeat' (first|refine i_s rfl ?_|refine sw ?_|refine c_t rfl ?_)
    all_goals first
     | (exfalso;simp at *;done)
     | (exfalso;simp at *;omega)
     | skip
    refine yU (c:=a) rfl rfl rfl rfl rfl (by omega) (by omega) ?_
    repeat' (first|refine i_s rfl ?_|refine sw ?_|refine ja rfl rfl ?_|fail)
    refine zK hlt trivial ⟨⟨rfl,rfl,rfl,rfl,rfl,rfl,rfl,rfl,rfl,?_,rfl,rfl,rfl,trivial⟩,⟨rfl,rfl,rfl,rfl,rfl,rfl,rfl,?_,trivial⟩,rfl⟩
    · rw [e1];rfl
    · rw [e1];simp;rfl
   | false =>
    rw [if_neg (by simp)] at e1
    have e1:vg L R.used (k + 1)=vg L R.used k:=by rw [e1];simp
    repeat (first|refine i_s rfl ?_|refine sw ?_)
    refine c_t (by exact congrArg V.bool (by simp [hlt])) ?_
    repeat (first|refine i_s rfl ?_|refine sw ?_|refine jd rfl rfl ?_|refine zl rfl ?_|refine zi rfl ?_)
    refine yJ rfl rfl rfl rfl (by omega) (by omega) rfl ?_
    skip
    refine xB (row:=.bool false) rfl rfl rfl (by rw [Nat.zero_add,List.getElem?_map,Int.toNat_natCast,hb];rfl) rfl ?_
    repeat' (first|refine i_s rfl ?_|refine sw ?_|refine c_f rfl ?_|refine ja rfl rfl ?_|fail)
    all_goals first
     | (exfalso;simp at *;done)
     | (exfalso;simp at *;omega)
     | skip
    refine zK hlt trivial ⟨⟨rfl,rfl,rfl,rfl,rfl,rfl,rfl,rfl,rfl,?_,rfl,rfl,rfl,trivial⟩,⟨rfl,rfl,rfl,rfl,rfl,rfl,rfl,?_,trivial⟩,rfl⟩
    · rw [e1];rfl
    · rw [e1];rfl
 have hge:k=L.length:=by omega
 subst hge
 repeat (first|refine i_s rfl ?_|refine sw ?_)
 refine c_f (by exact congrArg V.bool (by simp)) ?_
 repeat refine sw ?_
 refine zo2 rfl rfl ?_
 repeat refine sw ?_
 refine zo2 rfl rfl ?_
 repeat' (first|refine i_s rfl ?_|refine sw ?_|refine zl rfl ?_|refine sf rfl rfl hB ?_|fail)
 all_goals exact zb ⟨rfl,_,rfl,rfl⟩
theorem zvS (d:Dom)(ho:DoOk d):Fc PG 12 [yW d] (.tup [zjs (reG d),ftV (reF d)]):=by
 by_cases h:atF d=okF
 · exact zr4 d ho h
 · have hS:=ziL d ho h
   have e1:reG d=grZ:=by unfold reG;rw [if_neg h]
   have e2:reF d=atF d:=by unfold reF;rw [if_neg h]
   rw [e1,e2]
   refine Fn.step zf zdH ?_
   repeat' (first|refine i_s rfl ?_|refine sw ?_|refine zl rfl ?_|refine zi rfl ?_|refine zr rfl rfl ?_|(refine sp ?_ ?_<;>try intro h)|refine sf rfl rfl hS ?_|fail)
   all_goals first
    | exact zb ⟨rfl,_,rfl,rfl⟩
    | exact absurd (zkt h) (by assumption)
theorem zps {d:Dom} (h:atF d≠okF):(atF d).code≠0:=by
 by_cases h1:yR d=okF
 · by_cases h2:(wb d).length > 400
   · rw [(zhs h1 h2).1];decide
   · exact absurd (zp7 h1 (by omega)).1 h
 · rw [(zhr h1).1]
   exact fun e=>h1 ((zl1 d).1 e)
structure GrOk (g:Grd):Prop where
 sk:SkOk g.task
 f:GFOk g.facts
 n:g.insts.length≤1000000
 a:∀ i∈g.insts,i.2.length≤1000
theorem zpt:GrOk grZ:=by
 refine ⟨⟨by simp [grZ,skZ],by simp [grZ,skZ],by simp [grZ,skZ],fun o ho=>by simp [grZ,skZ] at ho⟩,⟨by simp [grZ],fun x hx=>by simp [grZ] at hx⟩,by simp [grZ],fun i hi=>by simp [grZ] at hi⟩
theorem zey (F l:List Lit):(yL F l).length≤F.length:=qQ _ _
theorem znB {d:Dom}{F:List Lit}{L:List Ac} (hF:GFOk F)(hL:L.length≤1000000)(ha:∀ a∈L,a.args.length≤1000):GrOk (x9 d F L):=by
 unfold x9
 split
 · exact zpt
 · have:=hF.len
   refine ⟨⟨?_,?_,?_,fun o ho=>?_⟩,hF,by simpa [xZ] using hL,fun i hi=>?_⟩
   · have h:=qQ (xO d F) F.length
     show (kD d F).length≤_
     unfold kD
     omega
   · have h:=zey F d.goal
     show (yL F d.goal).length≤_
     omega
   · simp only [xZ,List.length_map];omega
   · simp only [xZ,List.mem_map] at ho
     obtain ⟨a,h1,rfl⟩:=ho
     have q1:=zey F a.pre
     have q2:=zey F a.add
     have q3:=zey F a.del
     simp only [zcq]
     exact ⟨by omega,by omega,by omega⟩
   · simp only [xZ,List.mem_map] at hi
     obtain ⟨a,h1,rfl⟩:=hi
     exact ha a h1
theorem zkH {d:Dom} (hd:DomV d) {a:Ac} (h:a∈zD d):a.args.length≤1000:=by
 obtain ⟨i,s,args,n,hs,hl,_,_,rfl⟩:=zc7 h
 have:=(zi4 hl).1
 have:=(zb6 hd hs).val.types.1
 simp only
 omega
theorem zxJ {d:Dom} (hd:DomV d)(s:RS):GFOk (zag d s):=⟨Nat.le_trans (List.length_filter_le _ _) (zcb hd).len,fun x hx=>(zcb hd).ok x (List.mem_filter.1 hx).1⟩
theorem zwM (d:Dom):GrOk (fuG d):=by
 unfold fuG
 split
 · rename_i h
   have hd:=ui (u4 h).1
   exact znB (zcb hd) (by have:=zan hd;omega) (fun a ha=>zkH hd ha)
 · exact zpt
theorem zwN (d:Dom):GrOk (reG d):=by
 unfold reG
 split
 · rename_i h
   have hd:=ui (u4 h).1
   exact znB (zxJ hd _) (by have:=zan hd;have:=zgF (zD d) (wL d (zD d));omega) (fun a ha=>zkH hd (zgE ha))
 · exact zpt
theorem zf4 {d:Dom} (hd:DomV d) {F:List Lit}{L:List Ac} (h:(vl F L).code=0)(ha:∀ a∈L,a∈zD d):SV (x9 d F L).task∧uT F L=false:=by
 have hb:uT F L=false:=by
  cases hb:uT F L with
  | false=>rfl
  | true=>unfold vl at h;rw [if_pos hb] at h;cases h
 unfold x9
 rw [if_neg (by rw [hb];simp)]
 exact ⟨ztJ (zcu hd) hb ha,hb⟩
theorem zjg {d:Dom} (h:(fuF d).code=0):atF d=okF∧SV (fuG d).task∧uT (ya d) (zD d)=false:=by
 have ha:atF d=okF:=Classical.byContradiction fun h'=>by
  unfold fuF at h;rw [if_neg h'] at h;exact zps h' h
 have hd:=ui (u4 ha).1
 unfold fuF at h
 rw [if_pos ha] at h
 unfold fuG
 rw [if_pos ha]
 exact ⟨ha,zf4 hd h (fun a h=>h)⟩
theorem zpu {d:Dom} (h:(reF d).code=0):atF d=okF∧SV (reG d).task∧uT (zag d (wL d (zD d))) (uk (zD d) (wL d (zD d)))=false:=by
 have ha:atF d=okF:=Classical.byContradiction fun h'=>by
  unfold reF at h;rw [if_neg h'] at h;exact zps h' h
 have hd:=ui (u4 ha).1
 unfold reF at h
 rw [if_pos ha] at h
 unfold reG
 rw [if_pos ha]
 exact ⟨ha,zf4 hd h (fun a h=>zgE h)⟩
theorem zr5 {d:Dom} (h:(fuF d).code=0):fuG d=uO d:=by
 obtain ⟨h1,_,h2⟩:=zjg h
 unfold fuG x9
 rw [if_pos h1,if_neg (by rw [h2];simp)]
 rfl
theorem zr6 {d:Dom} (h:(reF d).code=0):reG d=vo d:=by
 obtain ⟨h1,_,h2⟩:=zpu h
 unfold reG x9
 rw [if_pos h1,if_neg (by rw [h2];simp)]
 rfl
theorem zxK {d:Dom} (h:(fuF d).code=0):(reF d).code=0∧(reG d).facts.length≤(fuG d).facts.length∧(reG d).insts.length≤(fuG d).insts.length:=by
 obtain ⟨h1,_,h2⟩:=zjg h
 obtain ⟨n1,n2⟩:=zmi h2
 have l1:(zag d (wL d (zD d))).length≤(ya d).length:=List.length_filter_le _ _
 have l2:=zgF (zD d) (wL d (zD d))
 have hb:uT (zag d (wL d (zD d))) (uk (zD d) (wL d (zD d)))=false:=by
  unfold uT
  rw [decide_eq_false (by omega),decide_eq_false (by omega)];rfl
 have hc:(reF d).code=0:=by
  unfold reF vl
  rw [if_pos h1,if_neg (by rw [hb];simp)];rfl
 refine ⟨hc,?_,?_⟩
 · rw [zr6 hc,zr5 h];exact l1
 · rw [zr6 hc,zr5 h]
   simp only [vo,uO,xZ,List.length_map]
   exact l2
end Hm
end
section
namespace Hm
open Go
namespace W1
theorem zew {G:Type}{P:Program}{H:HT G}{f:Nat}{args:List V}{r:V}{pn:List Nat}{σ:za}{g:G} (h:Fn P f (args.map (er σ 6)) r)(hfl:xj r=true)(hpn:∀ nm,nm ∉ pn→σ nm=.zc) :
  CT P H f args pn σ g fun v σ' g'=>v=r∧σ' = σ∧g' = g :=
 ⟨h.1, fun J l hst hM hH w S F θ xs hs hargs=>by
  have hcall:=h.2 w (All w) _ (fun b hb=>hb) ((hst.1 _ _ _ _ hs.hJ).same (fun _ _=>rfl) hs.hS) (qr hargs (fun v x _ hr=>hr.er hs 6))
  refine hcall.mono fun e w' he'=>?_
  obtain ⟨x',S',rfl,hr,hS1,hS2,hg⟩:=he'
  exact ⟨r,x',σ,g,_,F,θ,rfl,⟨rfl,rfl,rfl⟩,St.grow hst hs hg (N:=fun _=>False) (fun b hb=>hb.elim) (fun b hb=>hb.elim),.pure (hr.flat hfl),Fr.grow hs hg (fun b hb=>hb.elim),hpn⟩⟩
theorem ku {α:Type} [Inhabited α] (enc:α→Value)(w:World)(b:Nat)(c:Array Value)(e:TypeId)(fr:Nat × Nat)(d:Array α)(hb:w.heap[b]? = some (.cells c e fr)) :
  Sort.putRow enc w b 0 d=w.setRow b (Sort.putCells enc 0 d c):=by
 unfold Sort.putRow Sort.mapBlock World.setRow
 congr 1
 apply Array.ext_getElem?
 intro k
 simp only [Array.getElem?_modify]
 by_cases hk:b=k
 · subst hk
   simp [hb,Sort.onCells]
 · simp [hk]
theorem zb7 {α:Type} [Inhabited α] (enc:α→Value)(d:Array α)(c:Array Value)(j:Nat):(Sort.putCells enc 0 d c)[j]? = (c[j]?).map fun x=>if j < d.size then enc d[j]! else x:=by
 unfold Sort.putCells
 rw [Array.getElem?_mapIdx]
 simp
theorem zex {σ:za}{nm:Nat}{b:Blk} (h:σ nm=b):ups σ nm b=σ:=by
 funext k
 unfold ups
 cases hb:Nat.beq k nm with
 | true=>have:=Nat.eq_of_beq_eq_true hb;subst this;exact h.symm
 | false=>rfl
theorem zl4 {w w':World} (h:Grow w w'):∃ q os',w' = Sort.grow (w.drewN q) os':=by
 refine ⟨w'.drawn - w.drawn,w'.heap.extract w.heap.size w'.heap.size,?_⟩
 obtain ⟨heap',tape',drawn',os',output'⟩:=w'
 obtain ⟨hs,e1,e2,e3,hb⟩:=h
 have e1:os' = w.os:=e1
 have e2:tape' = w.tape:=e2
 obtain ⟨e3,e4⟩:=e3
 have e3:output' = w.output:=e3
 have e4:w.drawn≤drawn':=e4 (by first|rfl|trivial)
 have hs:w.heap.size≤heap'.size:=hs
 have hb:∀ k,k < w.heap.size→heap'[k]? = w.heap[k]?:=hb
 subst e1 e2 e3
 have eh:heap' = w.heap ++ heap'.extract w.heap.size heap'.size:=by
  apply Array.ext_getElem?
  intro k
  by_cases hk:k < w.heap.size
  · rw [Array.getElem?_append_left hk];exact hb k hk
  · rw [Array.getElem?_append_right (by omega),Array.getElem?_extract]
    by_cases hk2:k < heap'.size
    · rw [if_pos (by omega)];congr 1;omega
    · rw [if_neg (by omega),Array.getElem?_eq_none (by omega)]
 simp only [Sort.grow,World.drewN]
 congr 1
 omega
theorem zl5 {w:World}{S:Nat→Prop}{u:V}{v:Value} (h:RepP w S u v)(hl:zR u=true):v.oneCell' = true:=by
 cases h<;>first
  | rfl
  | (exact absurd hl (by simp [zR]))
structure E1 {α:Type} (f:α→V)(ok:α→Prop)(w:World)(S:Nat→Prop) where
 e:α
 v:Value
 h1:v.oneCell' = true
 ok:ok e
 rep:RepP w S (f e) v
theorem ct_sort {G:Type}{P:Program}{H:HT G}{ρ:Shelf.Ren} (Ly:Go.Proofs.SlLaysF.n6 P ρ) {α:Type} (f:α→V)(ok:α→Prop)(hf:∀ x,zR (f x)=true∧(f x).cells=[f x])
  (cf:α→α→Int)(hO:Sort.SWO (Go.Proofs.ltOf cf))(g0:Nat)(eg:∀ args w,(callFunc g0 args).run P w=.ok (.enter g0 args) w)(hcmp:∀ a b,ok a→ok b→Fn P g0 [f a,f b] (.int .i64 (cf a b)))
  (nm gen:Nat)(l:List α)(hok:∀ x∈l,ok x) {pn:List Nat}{σ:za}{g:G} (hw:wd nm=1)(hσ:σ nm=.arr gen (l.map f))(hpn:∀ nm',nm' ∉ pn→σ nm' = .zc)
  (h0:Fn P (ρ.f 6) [.sl .p [],.fn g0 []] (.tup []))(hsz:l.length < 4611686018427387904) :
  CT P H (ρ.f 6) [.msl nm gen 0 l.length,.fn g0 []] pn σ g fun v σ' g'=>v=.tup []∧(∃ l':List α,l'.Perm l∧(l'.Pairwise fun x y=>¬ cf y x < 0)∧σ' = ups σ nm (.arr gen (l'.map f)))∧g' = g:=by
 by_cases hl:l=[]
 · subst hl
   have:=zew (G:=G) (H:=H) (P:=P) (f:=ρ.f 6) (args:=[.msl nm gen 0 0,.fn g0 []]) (r:=.tup []) (pn:=pn) (σ:=σ) (g:=g) (by simpa [er,hσ] using h0) rfl hpn
   refine wg (fun v σ' g' h=>?_) this
   refine ⟨h.1,⟨[],List.Perm.refl _,List.Pairwise.nil,?_⟩,h.2.2⟩
   rw [h.2.1]
   exact (zex (by simpa using hσ)).symm
 refine ⟨h0.1,fun J lc hst hM hH w S F θ xs hs hargs=>?_⟩
 obtain ⟨hlen,hrep⟩:=hargs
 match xs,hlen with
 | [x,y],_ =>
 have hx:=hrep 0 _ x rfl rfl
 have hy:=hrep 1 _ y rfl rfl
 have hy0:y=.func (.func g0) #[] #[]:=by
  cases hy with
  | pure h =>
   cases h with
   | fn _ _ xs hl _=>match xs,hl with
     | [],_=>rfl
  | fn _ _ xs hl _=>match xs,hl with
    | [],_=>rfl
 subst hy0
 have hlen0:0 < l.length:=List.length_pos_iff.2 hl
 obtain ⟨b,m,cap,hθ,hcap,rfl,hck,hle⟩:∃ b m cap,θ nm=some (b,m)∧l.length≤cap∧x=.slice (some ⟨b,0 * m,none⟩) l.length cap∧CapOk w b ((0 + cap) * m)∧0 + l.length≤(l.map f).length:=by
  cases hx with
  | pure h=>cases h
  | msl _ _ _ _ _ _ _ _ h =>
   rcases h _ hσ with h|⟨h,_⟩
   · exact h
   · omega
 have hlv:(σ nm).live:=yQ hσ
 have hblk:=hs.hblk nm
 rw [hσ] at hblk
 simp only [BlkOk] at hblk
 rcases hblk with ⟨hn,_⟩|⟨b',m',c,e,hθ',hb,hrows,⟨hm,hsz'⟩,hcells⟩
 · rw [hθ] at hn;cases hn
 rw [hθ] at hθ'
 injection hθ' with hθ'
 injection hθ' with e1 e2
 subst e1 e2
 rw [hw] at hm
 subst hm
 have hgl:b < w.heap.size:=(Array.getElem?_eq_some_iff.1 hb).1
 have hcs:l.length≤c.size:=by simpa using hsz'
 have hnS:∀ b',S b'→b'≠b:=fun b' hb' e=>hs.hliveS b' ⟨nm,1,hlv,by rw [e];exact hθ⟩ hb'
 have hex:∀ i (hi:i < l.length),∃ E:E1 f ok w S,E.e=l[i]∧c[i]? = some E.v:=fun i hi=>by
  obtain ⟨q1,q2⟩:=hf l[i]
  obtain ⟨y,h1,h2⟩:=hcells i 0 (f l[i]) (f l[i]) (by rw [List.getElem?_map,List.getElem?_eq_getElem hi];rfl) (by rw [q2];rfl)
  rw [Nat.mul_one,Nat.add_zero] at h1
  exact ⟨⟨l[i],y,zl5 h2 q1,hok _ (List.getElem_mem hi),h2⟩,rfl,h1⟩
 obtain ⟨el,hel⟩:∃ el:Fin l.length→E1 f ok w S,∀ i,(el i).e=l[i.1]∧c[i.1]? = some (el i).v :=
  ⟨fun i=>(hex i.1 i.2).choose,fun i=>(hex i.1 i.2).choose_spec⟩
 haveI:Inhabited (E1 f ok w S):=⟨el ⟨0,hlen0⟩⟩
 obtain ⟨d,hd⟩:∃ d:Array (E1 f ok w S),d=Array.ofFn el:=⟨_,rfl⟩
 have hds:d.size=l.length:=by rw [hd];simp
 have hdg:∀ i (hi:i < l.length),d[i]! = el ⟨i,hi⟩:=fun i hi=>by
  rw [getElem!_pos d i (by omega)]
  simp [hd]
 have hH:Sort.Holds (fun E:E1 f ok w S=>E.v) w b 0 d:=by
  intro t ht
  rw [hds] at ht
  refine ⟨?_,?_⟩
  · rw [Nat.zero_add,cell_of_row w b t c e (0,0) hb,hdg t ht]
    exact (hel ⟨t,ht⟩).2
  · simp [World.frozen?,hb]
 have hheap:∀ (mm:Nat)(dk:Array (E1 f ok w S))(os:Array Go.Obj)(b':Nat),b'≠b→b' < w.heap.size→(Go.Proofs.sortWorld (fun E:E1 f ok w S=>E.v) w b 0 mm dk os).heap[b']? = w.heap[b']?:=fun mm dk os b' hne hlt=>by
  unfold Go.Proofs.sortWorld
  rw [ku _ (Sort.ahead w mm) b c e (0,0) _ hb]
  show ((World.setRow _ b _).heap ++ os)[b']? = _
  rw [Array.getElem?_append_left (by rw [vu];exact hlt),xU _ _ _ hne]
  rfl
 have hcmp':Go.Proofs.CmpLays1 P g0 #[] (fun E:E1 f ok w S=>E.v) (fun x y=>cf x.e y.e) b 0 d.size w:=by
  intro mm os dk hdk x y
  have hc:=(hcmp x.e y.e x.ok y.ok).2 (Go.Proofs.sortWorld (fun E:E1 f ok w S=>E.v) w b 0 mm dk os) S [x.v,y.v] (fun b' hb'=>by
    have h1:=hs.hS b' hb'
    unfold Go.Proofs.sortWorld
    rw [ku _ (Sort.ahead w mm) b c e (0,0) _ hb]
    show b' < ((World.setRow _ b _).heap ++ os).size
    rw [Array.size_append,vu]
    show b' < w.heap.size + _
    omega)
   ((hst.1 _ _ _ _ hs.hJ).same (fun b' hb'=>hheap mm dk os b' (hnS b' hb') (hs.hS b' hb')) fun _ h=>h)
   ⟨rfl, fun i v z h1 h2=>by
    match i with
    | 0=>cases h1;cases h2;exact x.rep.mono (fun b' hb'=>hheap mm dk os b' (hnS b' hb') (hs.hS b' hb')) fun _ h=>h
    | 1=>cases h1;cases h2;exact y.rep.mono (fun b' hb'=>hheap mm dk os b' (hnS b' hb') (hs.hS b' hb')) fun _ h=>h
    | i + 2=>cases h1⟩
  refine ((callsIn_wide (n:=0)).1 hc).mono fun en w' he'=>?_
  obtain ⟨x',S',rfl,hr,_,_,hgw⟩:=he'
  cases hr
  exact ⟨rfl,zl4 hgw⟩
 have hO':Sort.SWO (Go.Proofs.ltOf fun x y:E1 f ok w S=>cf x.e y.e):=⟨fun x=>hO.irrefl x.e,fun x y z=>hO.trans x.e y.e z.e,fun x y z=>hO.ntrans x.e y.e z.e⟩
 have hcall:=(callsIn_wide (n:=0)).2 (Go.Proofs.Any.slices_SortFunc Ly (fun E:E1 f ok w S=>E.v) (fun x=>x.h1) (fun x y=>cf x.e y.e) hO' g0 #[] b 0 cap d w eg hcmp' hH hgl (by rw [hds];exact hsz))
 rw [hds] at hcall
 simp only [Nat.zero_mul]
 refine hcall.mono fun en w' he'=>?_
 obtain ⟨rfl,d',n,os,hperm,hsorted,rfl⟩:=he'
 have hd's:d'.size=l.length:=hperm.1.trans hds
 obtain ⟨l',hl'⟩:∃ l':List α,l' = d'.toList.map E1.e:=⟨_,rfl⟩
 have hll:l'.length=l.length:=by rw [hl'];simp [hd's]
 have hpl:l'.Perm l:=by
  have h1:=hperm.2.2
  rw [← hds] at h1
  rw [show d'.extract 0 d.size=d' from by rw [show d.size=d'.size by omega];simp,show d.extract 0 d.size=d by simp] at h1
  have h2:=h1.map E1.e
  rw [hl']
  refine h2.trans ?_
  have:d.toList.map E1.e=l:=by
   apply List.ext_getElem
   · simp [hds]
   · intro i h3 h4
     simp only [List.getElem_map,Array.getElem_toList]
     have:=hdg i h4
     rw [getElem!_pos d i (by omega)] at this
     rw [this]
     exact (hel ⟨i,h4⟩).1
  rw [this]
 have hsl:l'.Pairwise fun x y=>¬ cf y x < 0:=by
  rw [hl',List.pairwise_iff_getElem]
  intro i j hi hj hij
  have hi':i < d'.size:=by simpa using hi
  have hj':j < d'.size:=by simpa using hj
  have:=hsorted i j (Nat.zero_le _) hij (by omega)
  rw [getElem!_pos d' i hi',getElem!_pos d' j hj'] at this
  simp only [List.getElem_map,Array.getElem_toList]
  simpa [Go.Proofs.ltOf] using this
 have hg1:Grow w (Sort.ahead w n):=⟨Nat.le_refl _,rfl,rfl,⟨rfl,by simp⟩,fun _ _=>rfl⟩
 have hs1:=St.grow hst hs hg1 (N:=fun _=>False) (fun b hb=>hb.elim) (fun b hb=>hb.elim)
 have hf1:=Fr.grow hs hg1 (N:=fun _=>False) (fun b hb=>hb.elim)
 have hb1:(Sort.ahead w n).heap[b]? = some (.cells c e (0,0)):=hb
 unfold Go.Proofs.sortWorld
 rw [ku _ _ b c e (0,0) _ hb1]
 obtain ⟨c',hc'⟩:∃ c',c' = Sort.putCells (fun E:E1 f ok w S=>E.v) 0 d' c:=⟨_,rfl⟩
 rw [← hc']
 have hcz:c'.size=c.size:=by rw [hc'];simp [Sort.putCells]
 have hf2:Fr (Sort.ahead w n) (fun b=>S b∨False) F θ σ ((Sort.ahead w n).setRow b c') (fun b=>S b∨False) F θ (ups σ nm (.arr gen (l'.map f))):=by
  refine Fr.write hs1 nm b 1 c c' e _ hlv hθ hb1 hcz ?_
  rw [hσ]
  exact ⟨l'.map f,.inl ⟨rfl,by simp [hll]⟩⟩
 have hk:BlkOk ((Sort.ahead w n).setRow b c') (fun b=>S b∨False) θ (ups σ nm (.arr gen (l'.map f))) lc nm (.arr gen (l'.map f)):=by
  refine .inr ⟨b,1,c',e,hθ,setRow_heap _ b c c' _ _ hb1,fun row hrow=>?_,⟨hw.symm,by simp [hll,hcz];exact hcs⟩,fun i j row v h1 h2=>?_⟩
  · obtain ⟨z,_,rfl⟩:=List.mem_map.1 hrow
    rw [(hf z).2]
    rfl
  · rw [List.getElem?_map] at h1
    cases h3:l'[i]? with
    | none=>rw [h3] at h1;cases h1
    | some z =>
     rw [h3] at h1
     cases h1
     have hi:i < l'.length:=(List.getElem?_eq_some_iff.1 h3).1
     have hid:i < d'.size:=by omega
     obtain ⟨q1,q2⟩:=hf z
     rw [q2] at h2
     have hj0:j=0:=by have:=(List.getElem?_eq_some_iff.1 h2).1;simpa using this
     subst hj0
     cases h2
     have hez:(d'[i]!).e=z:=by
      have:=(List.getElem?_eq_some_iff.1 h3).2
      simp only [hl',List.getElem_map,Array.getElem_toList] at this
      rw [getElem!_pos d' i hid]
      exact this
     have hrp:=(d'[i]!).rep
     rw [hez] at hrp
     refine ⟨(d'[i]!).v,?_,hrp.mono (fun b' hb'=>?_) fun _ h=>.inl h⟩
     · rw [Nat.mul_one,Nat.add_zero,hc',zb7,Array.getElem?_eq_getElem (show i < c.size by omega)]
       simp only [Option.map_some,if_pos hid]
     · rw [xU _ _ _ (hnS b' hb')]
       rfl
 have hs2:=St.write hst hs1 nm b 1 c' _ hlv hθ hf2 hk
 have hg3:Grow ((Sort.ahead w n).setRow b c') (Sort.grow ((Sort.ahead w n).setRow b c') os) :=
  ⟨by simp [Sort.grow],rfl,rfl,Out.refl _,fun b' hb'=>by simp [Sort.grow,Array.getElem?_append_left hb']⟩
 have hs3:=St.grow hst hs2 hg3 (N:=fun _=>False) (fun b hb=>hb.elim) (fun b hb=>hb.elim)
 have hf3:=Fr.grow hs2 hg3 (N:=fun _=>False) (fun b hb=>hb.elim)
 refine ⟨.tup [],_,_,g,_,F,θ,rfl,⟨rfl,⟨l',hpl,hsl,rfl⟩,rfl⟩,hs3,.pure (.tup [] [] rfl fun i v x h1 h2=>by simp at h1),(hf1.trans hs1 hf2).trans hs2 hf3,fun nm' hnm=>?_⟩
 have h5:nm'≠nm:=fun h=>by rw [h] at hnm;have:=hpn nm hnm;rw [this] at hσ;cases hσ
 rw [ze σ _ h5]
 exact hpn nm' hnm
end W1
end Hm
end
section
namespace Go.Proofs
open Go.Shelf
def Tryz.sortW_ren:Go.Shelf.Ren:=⟨fun|6=>64|14=>113|15=>53|20=>143|21=>144|22=>145|23=>146|24=>147|25=>148|26=>149|27=>150|28=>103|29=>104|46=>168|47=>137|48=>138|49=>169|50=>170|57=>187|n=>n,fun|0=>0|3=>3|4=>4|5=>5|9=>9|22=>83|25=>144|39=>126|45=>196|46=>197|50=>132|53=>88|55=>204|66=>247|70=>251|76=>279|77=>73|24=>88|n=>n,fun n=>n⟩
theorem Tryz.sortW_lays:SlLaysF.n6 Tryz.prog Tryz.sortW_ren :=
 {
  mixed:=by kernel_rfl,
  f6:=⟨Tryz.f64.name,by kernel_rfl,Tryz.func64.trans (congrArg some (by kernel_rfl))⟩,
  f14:=⟨Tryz.f113.name,by kernel_rfl,Tryz.func113.trans (congrArg some (by kernel_rfl))⟩,
  f15:=Tryz.func53.trans (congrArg some (by kernel_rfl)),
  f20:=⟨Tryz.f143.name,by kernel_rfl,Tryz.func143.trans (congrArg some (by kernel_rfl))⟩,
  f21:=⟨Tryz.f144.name,by kernel_rfl,Tryz.func144.trans (congrArg some (by kernel_rfl))⟩,
  f22:=⟨Tryz.f145.name,by kernel_rfl,Tryz.func145.trans (congrArg some (by kernel_rfl))⟩,
  f23:=⟨Tryz.f146.name,by kernel_rfl,Tryz.func146.trans (congrArg some (by kernel_rfl))⟩,
  f24:=⟨Tryz.f147.name,by kernel_rfl,Tryz.func147.trans (congrArg some (by kernel_rfl))⟩,
  f25:=⟨Tryz.f148.name,by kernel_rfl,Tryz.func148.trans (congrArg some (by kernel_rfl))⟩,
  f26:=⟨Tryz.f149.name,by kernel_rfl,Tryz.func149.trans (congrArg some (by kernel_rfl))⟩,
  f27:=⟨Tryz.f150.name,by kernel_rfl,Tryz.func150.trans (congrArg some (by kernel_rfl))⟩,
  f28:=Tryz.func103.trans (congrArg some (by kernel_rfl)),
  f29:=Tryz.func104.trans (congrArg some (by kernel_rfl)),
  f46:=⟨Tryz.f168.name,by kernel_rfl,Tryz.func168.trans (congrArg some (by kernel_rfl))⟩,
  f47:=Tryz.func137.trans (congrArg some (by kernel_rfl)),
  f48:=Tryz.func138.trans (congrArg some (by kernel_rfl)),
  f49:=⟨Tryz.f169.name,by kernel_rfl,Tryz.func169.trans (congrArg some (by kernel_rfl))⟩,
  f50:=⟨Tryz.f170.name,by kernel_rfl,Tryz.func170.trans (congrArg some (by kernel_rfl))⟩,
  f57:=⟨Tryz.f187.name,by kernel_rfl,Tryz.func187.trans (congrArg some (by kernel_rfl))⟩,
  t0:=Tryz.underlying0,
  a0:=Tryz.isAgg0,
  z0:=Tryz.sizeOf0,
  v0:=Tryz.zeroValue0,
  t3:=Tryz.underlying3,
  a3:=Tryz.isAgg3,
  z3:=Tryz.sizeOf3,
  v3:=Tryz.zeroValue3,
  t4:=Tryz.underlying4,
  a4:=Tryz.isAgg4,
  z4:=Tryz.sizeOf4,
  v4:=Tryz.zeroValue4,
  t5:=Tryz.underlying5,
  a5:=Tryz.isAgg5,
  z5:=Tryz.sizeOf5,
  v5:=Tryz.zeroValue5,
  t9:=Tryz.underlying9,
  a9:=Tryz.isAgg9,
  z9:=Tryz.sizeOf9,
  v9:=Tryz.zeroValue9,
  t22:=Tryz.underlying83,
  a22:=Tryz.isAgg83,
  z22:=Tryz.sizeOf83,
  v22:=Tryz.zeroValue83,
  t25:=Tryz.underlying144,
  a25:=Tryz.isAgg144,
  z25:=Tryz.sizeOf144,
  v25:=Tryz.zeroValue144,
  t39:=Tryz.underlying126,
  a39:=Tryz.isAgg126,
  z39:=Tryz.sizeOf126,
  v39:=Tryz.zeroValue126,
  t45:=Tryz.underlying196,
  a45:=Tryz.isAgg196,
  z45:=Tryz.sizeOf196,
  v45:=Tryz.zeroValue196,
  t46:=Tryz.underlying197,
  a46:=Tryz.isAgg197,
  z46:=Tryz.sizeOf197,
  v46:=Tryz.zeroValue197,
  t50:=Tryz.underlying132,
  a50:=Tryz.isAgg132,
  z50:=Tryz.sizeOf132,
  v50:=Tryz.zeroValue132,
  t53:=Tryz.underlying88,
  a53:=Tryz.isAgg88,
  z53:=Tryz.sizeOf88,
  v53:=Tryz.zeroValue88,
  t55:=Tryz.underlying204,
  a55:=Tryz.isAgg204,
  z55:=Tryz.sizeOf204,
  v55:=Tryz.zeroValue204,
  t66:=Tryz.underlying247,
  a66:=Tryz.isAgg247,
  z66:=Tryz.sizeOf247,
  v66:=Tryz.zeroValue247,
  t70:=Tryz.underlying251,
  a70:=Tryz.isAgg251,
  z70:=Tryz.sizeOf251,
  v70:=Tryz.zeroValue251,
  t76:=Tryz.underlying279,
  a76:=Tryz.isAgg279,
  z76:=Tryz.sizeOf279,
  v76:=Tryz.zeroValue279,
  t77:=Tryz.underlying73,
  a77:=Tryz.isAgg73,
  z77:=Tryz.sizeOf73,
  v77:=Tryz.zeroValue73,
  a24:=Tryz.isAgg88,
  z24:=Tryz.sizeOf88 }
end Go.Proofs
end
section
namespace Hm
open Go
set_option maxRecDepth 100000
set_option maxHeartbeats 4000000
def vR:Cmd :=
 (qS [qm 10 1,qv 11 .add [] 10 1,qm 8 11]
 (.block 0 (.loop (qT (qS [qm 12 8,qm 13 2,qu 14 .lss [] 12 13]
 (.cond (.t 14) .skip (.exit 0)))
 (qT (.block 1 (qS [qm 17 8,qm 9 17]
 (.block 2 (.loop (qT (qS [qm 18 9,qm 19 1,qu 20 .gtr [] 18 19,qm 21 20,qg 22 21 true (.mov (.t 3)),qg 23 21 true (.mov (.t 0)),qg 24 21 true (.mov (.t 9)),qg 25 21 true (.iaddr 1 (.t 23) (.t 24)),qg 26 21 true (.load false 1 (.t 25)),qg 27 21 true (.mov (.t 0)),qg 28 21 true (.mov (.t 9)),qg 29 21 true (.bin .sub false [] (.t 28) (.c (.int .i64 1))),qg 30 21 true (.iaddr 1 (.t 27) (.t 29)),qg 31 21 true (.load false 1 (.t 30)),qg 32 21 true (.call .f (.t 22) [.t 26,.t 31]),qg 33 21 true (.bin .lss false [] (.t 32) (.c (.int .i64 0))),qq 34 (.pick (.t 21) (.t 33) (.c (.bool false)))]
 (.cond (.t 34) .skip (.exit 2)))
 (qT (.block 3 (.ops [qm 37 0,qm 38 9,qm 39 0,qm 40 9,qv 41 .sub [] 40 1,qm 42 0,qm 43 9,qv 44 .sub [] 43 1,qi 45 1 42 44,ql 46 1 45,qm 47 0,qm 48 9,qi 49 1 47 48,ql 50 1 49,qi 51 1 37 38,qs 1 51 46,qi 52 1 39 41,qs 1 52 50]))
 (.ops [qm 35 9,qv 36 .sub [] 35 1,qm 9 36])))))))
 (.ops [qm 15 8,qv 16 .add [] 15 1,qm 8 16]))))))
def vS:List RVar:=[]
def vT:Nat:=53
theorem vU:zj PG 143 vT vS vR=true:=by kernel_rfl
theorem zf5 (v:V)(hv:zt [] v=true):Fc PG 143 [.sl .p [],.int .i64 0,.int .i64 0,v] (.tup []):=by
 refine Fn.step zf vU ?_
 repeat' (first|refine i_s rfl ?_|refine sw ?_|refine ja rfl rfl ?_|fail)
 refine x5 (ι:=Unit) (fun _=>[(0,.sl .p []),(1,.int .i64 0),(2,.int .i64 0),(8,.int .i64 1)]) (fun _=>[]) (fun _=>True) (fun _=>0) () trivial ft fun _ _=>?_
 repeat' (first|refine i_s rfl ?_|refine sw ?_|refine c_f rfl ?_)
 refine ym ⟨rfl,_,rfl,rfl⟩
def kw:Cmd :=
 (qS [qb 10 true]
 (qS [qb 11 true]
 (.block 0 (.loop (.block 1 (qS [qm 21 2,qm 22 1,qu 23 .sub [] 21 22,qm 12 23]
 (qT (qS [qm 24 12,qv 25 .leq [] 24 12]
 (.cond (.t 25) (.seq (.ops [qm 26 0,qm 27 1,qm 28 2,qm 29 4,qk 30 143 [26,27,28,29]]) .ret) .skip))
 (qT (qS [qm 31 3,qv 32 .eql [.i] 31 0]
 (.cond (.t 32) (.seq (.ops [qm 33 0,qm 34 1,qm 35 2,qm 36 4,qk 37 144 [33,34,35,36]]) .ret) .skip))
 (qT (qS [qm 38 10,qq 39 (.not (.t 38))]
 (.cond (.t 39) (qS [qm 40 0,qm 41 1,qm 42 2,qm 43 4,qk 44 145 [40,41,42,43]]
 (.ops [qm 45 3,qv 46 .sub [] 45 1,qm 3 46])) .skip))
 (qS [qm 48 0,qm 49 1,qm 50 2,qm 51 4,qk 52 146 [48,49,50,51],qm 47 52,qq 53 (.extract (.t 47) 0),qq 54 (.extract (.t 47) 1),qm 13 53,qm 14 54]
 (qT (qS [qm 55 14,qv 56 .eql [.i] 55 2]
 (.cond (.t 56) (qS [qm 57 0,qm 58 1,qm 59 2,qm 60 4,qk 61 147 [57,58,59,60]]
 (qS [qm 62 2,qv 63 .sub [] 62 1,qm 64 13,qm 65 1,qu 66 .sub [] 64 65,qu 67 .sub [] 63 66,qm 13 67]
 (.ops [qc 14 1]))) .skip))
 (qT (qS [qm 68 10,qm 69 68,qg 70 69 true (.mov (.t 11)),qq 71 (.pick (.t 69) (.t 70) (.c (.bool false))),qm 72 71,qg 73 72 true (.mov (.t 14)),qg 74 72 true (.bin .eql false [.i] (.t 73) (.c (.int .i64 1))),qq 75 (.pick (.t 72) (.t 74) (.c (.bool false)))]
 (.cond (.t 75) (qS [qm 76 0,qm 77 1,qm 78 2,qm 79 4,qk 80 148 [76,77,78,79]]
 (.cond (.t 80) .ret .skip)) .skip))
 (qT (qS [qm 81 1,qv 82 .gtr [] 81 0,qm 83 82,qg 84 83 true (.mov (.t 4)),qg 85 83 true (.mov (.t 0)),qg 86 83 true (.mov (.t 1)),qg 87 83 true (.bin .sub false [] (.t 86) (.c (.int .i64 1))),qg 88 83 true (.iaddr 1 (.t 85) (.t 87)),qg 89 83 true (.load false 1 (.t 88)),qg 90 83 true (.mov (.t 0)),qg 91 83 true (.mov (.t 13)),qg 92 83 true (.iaddr 1 (.t 90) (.t 91)),qg 93 83 true (.load false 1 (.t 92)),qg 94 83 true (.call .f (.t 84) [.t 89,.t 93]),qg 95 83 true (.bin .lss false [] (.t 94) (.c (.int .i64 0))),qg 96 83 true (.not (.t 95)),qq 97 (.pick (.t 83) (.t 96) (.c (.bool false)))]
 (.cond (.t 97) (qS [qm 98 0,qm 99 1,qm 100 2,qm 101 13,qm 102 4,qk 103 149 [98,99,100,101,102],qm 15 103]
 (qS [qm 104 15,qm 1 104]
 (.exit 1))) .skip))
 (qS [qm 106 0,qm 107 1,qm 108 2,qm 109 13,qm 110 4,qk 111 150 [106,107,108,109,110],qm 105 111,qq 112 (.extract (.t 105) 0),qq 113 (.extract (.t 105) 1),qm 16 112,qm 17 113]
 (qS [qm 114 17,qm 11 114]
 (qS [qm 115 16,qm 116 1,qu 117 .sub [] 115 116,qm 118 2,qm 119 16,qu 120 .sub [] 118 119,qm 18 117,qm 19 120]
 (qS [qm 121 12,qv 122 .quo [] 121 8,qm 20 122]
 (qS [qm 123 18,qm 124 19,qu 125 .lss [] 123 124]
 (.cond (.t 125) (qS [qm 126 18,qm 127 20,qu 128 .geq [] 126 127,qm 10 128]
 (qS [qm 129 0,qm 130 1,qm 131 16,qm 132 3,qm 133 4,qk 134 113 [129,130,131,132,133]]
 (.ops [qm 135 16,qv 136 .add [] 135 1,qm 1 136]))) (qS [qm 137 19,qm 138 20,qu 139 .geq [] 137 138,qm 10 139]
 (qS [qm 140 0,qm 141 16,qv 142 .add [] 141 1,qm 143 2,qm 144 3,qm 145 4,qk 146 113 [140,142,143,144,145]]
 (.ops [qm 147 16,qm 2 147]))))))))))))))))))))))
def kx:List RVar:=[]
def ky:Nat:=148
theorem kz:zj PG 113 ky kx kw=true:=by kernel_rfl
theorem zpv:Fc PG 113 [.sl .p [],.int .i64 0,.int .i64 0,.int .i64 0,.fn 65 []] (.tup []):=by
 refine Fn.step zf kz ?_
 repeat' (first|refine i_s rfl ?_|refine sw ?_|fail)
 refine x5 (ι:=Unit) (fun _=>[(0,.sl .p []),(1,.int .i64 0),(2,.int .i64 0),(3,.int .i64 0),(4,.fn 65 [])]) (fun _=>[]) (fun _=>True) (fun _=>0) () trivial ft fun _ _=>?_
 repeat' (first|refine i_s rfl ?_|refine sw ?_|refine c_t rfl ?_|refine jb rfl rfl ?_|refine sf rfl rfl (zf5 _ rfl) ?_|fail)
 exact zb ⟨rfl,_,rfl,rfl⟩
def zcc:Cmd :=
 (qS [qm 5 0,qn 6 5,qm 4 6]
 (.ops [qm 7 0,qm 8 4,qm 9 4,qq 10 (.conv .u64 (.t 9)),qk 11 53 [10],qm 12 1,qq 13 (.call .f (.c (.fn 113 [])) [.t 7,.c (.int .i64 0),.t 8,.t 11,.t 12])]))
def zcd:List RVar:=[]
def zce:Nat:=14
theorem zcf:zj PG 64 zce zcd zcc=true:=by kernel_rfl
theorem ztq:Fc PG 64 [.sl .p [],.fn 65 []] (.tup []):=by
 refine Fn.step zf zcf ?_
 repeat' (first|refine i_s rfl ?_|refine sw ?_|fail)
 refine zfS (n:=0) rfl ⟨by decide,by decide⟩ ?_
 repeat' (first|refine i_s rfl ?_|refine sw ?_|refine sf rfl rfl zb8 ?_|refine sf rfl rfl zpv ?_|fail)
 refine ym ⟨rfl,_,rfl,rfl⟩
theorem zxU:Go.Sort.SWO (Go.Proofs.ltOf wO):=⟨fun x=>by
  unfold Go.Proofs.ltOf
  rw [zdc.2 rfl]
  rfl,fun x y z h1 h2=>by
  unfold Go.Proofs.ltOf at *
  simp only [decide_eq_true_eq] at *
  exact ze2 h1 h2,fun x y z h1 h2=>by
  unfold Go.Proofs.ltOf at *
  simp only [decide_eq_false_iff_not] at *
  intro h3
  have e1:=je x y
  have e2:=je y z
  rcases Int.lt_or_eq_of_le (show wO y x≤0 by omega) with a|a
  · exact h2 (ze2 a h3)
  · have:=zdc.1 a
    subst this
    exact h2 h3⟩
theorem zvT {G:Type}{H:HT G} (nm gen:Nat)(l:List W32) {pn:List Nat}{σ:za}{g:G} (hw:wd nm=1)(hσ:σ nm=.arr gen (l.map yk))(hpn:∀ nm',σ nm'≠.zc→nm'∈pn)(hsz:l.length < 4611686018427387904) :
  Cc PG H 64 [.msl nm gen 0 l.length,.fn 65 []] pn σ g fun v σ' g'=>v=.tup []∧(∃ l':List W32,l'.Perm l∧(l'.Pairwise fun x y=>¬ wO y x < 0)∧σ' = ups σ nm (.arr gen (l'.map yk)))∧g' = g :=
 ⟨W1.ct_sort (ρ:=Go.Proofs.Tryz.sortW_ren) Go.Proofs.Tryz.sortW_lays yk (fun _=>True) (fun x=>⟨rfl,rfl⟩) wO zxU 65
  (Go.Proofs.enters_of Go.Proofs.Tryz.func65 (by kernel_rfl) rfl) (fun a b _ _=>(zin a b).out) nm gen l (fun _ _=>trivial) hw hσ (fun nm' h=>Classical.byContradiction fun h'=>h (hpn nm' h')) ztq.out hsz⟩
theorem zwO {t:STask} (h:SV t):WdT t:=by
 have key:∀ l:List Int,IsSet t.facts l→InW l:=fun l hl=>by
  have h0:=h.f0
  have h1:=h.f1
  refine ⟨fun p hp=>?_,?_⟩
  · have:=hl.rng p hp
    omega
  · have:=znD hl h0
    omega
 refine ⟨key _ h.init,key _ h.goal,fun o ho=>?_,by have:=h.opl;omega⟩
 have:=h.op o ho
 exact ⟨key _ this.pre,key _ this.add,key _ this.del⟩
theorem zr7 {ns:List Nat}{σ:za} (h:∀ n∈ns,σ n=.zc):restr ns σ=zy []:=by
 funext n
 by_cases hn:n∈ns
 · rw [zB hn,h n hn];rfl
 · rw [jQ hn];rfl
def zkI:Cmd :=
 (qS [qx 1 1920068 4 0,qq 2 (.mov (.c (.nilptr))),qq 3 (.mov (.c (.sl .nil []))),qq 4 (.alloc 1920258 (.agg [.int .i64 0,.int .i64 0]))]
 (qT (qS [qL 9 4 1,qk 10 13 [9],qq 5 (.alloc 1920322 (.agg [.int .i64 0,.int .i64 0])),qs 2 5 10]
 (qS [qL 11 2 5,qq 12 (.build [.int .i64 0,.int .i64 0] []),qq 13 (.bin .neq true [.i,.i] (.t 11) (.t 12))]
 (.cond (.t 13) (.seq (.ops [qL 14 2 5,qq 2 (.mov (.c (.nilptr))),qq 3 (.mov (.c (.sl .nil []))),qs 2 4 14]) .ret) .skip)))
 (qS [qL 15 4 1,qk 16 62 [15],qm 6 16]
 (qS [qm 18 6,qq 19 (.mkifc 82 (.t 18)),qq 20 (.call .d (.c (.fn 63 [])) [.t 19]),qm 17 20,qq 21 (.extract (.t 17) 0),qq 22 (.extract (.t 17) 1),qm 7 21,qm 8 22]
 (qT (qS [qm 23 8,qq 24 (.not (.t 23))]
 (.cond (.t 24) (.seq (.ops [qq 25 (.build [.int .i64 0,.int .i64 0] [(0 ,1 ,.c (.int .i64 10)),(1 ,1 ,.c (.int .i64 (-7)))]),qq 2 (.mov (.c (.nilptr))),qq 3 (.mov (.c (.sl .nil []))),qs 2 4 25]) .ret) .skip))
 (.seq (.ops [qm 26 7,qq 27 (.call .d (.c (.fn 64 [])) [.t 26,.c (.fn 65 [])])]) (qT (.frz 7)
 (.seq (.ops [qm 28 6,qm 29 7,qq 30 (.build [.int .i64 0,.int .i64 0] []),qm 2 28,qm 3 29,qs 2 4 30]) .ret))))))))
def zkJ:List RVar:=[.tmp 2,.tmp 3,.cell true 2 4]
def zkK:Nat:=31
theorem zkL:zj PG 30 zkK zkJ zkI=true:=by kernel_rfl
theorem jZ (t:STask)(ho:SkOk t)(hb:yG t=okF):Fc PG 30 [skV t] (match wk t with
  | some l=>.tup [.cptr .p (wdR (yM t)) 0,.sl .p (l.map yk),ftV okF]
  | none=>.tup [.nilptr,.sl .p [],ftV ⟨10,-7⟩]):=by
 have hV:=za8 t ho
 rw [hb] at hV
 have hv:=zc4 hb
 have hO:=zsG t (zwO hv)
 have hol:(yM t).ops.length≤1000000:=by unfold yM;rw [List.length_map];have:=hv.opl;omega
 refine Fn.step zf zkL ?_
 repeat' (first|refine i_s rfl ?_|refine sw ?_|refine c_f rfl ?_|refine zl rfl ?_|refine zi rfl ?_|refine zr rfl rfl ?_|refine sf rfl rfl hV ?_|refine sf rfl rfl hO ?_|refine zks rfl ?_)
 refine zfU [4032385] rfl rfl rfl (by rw [zr7 (fun n hn=>by rw [List.mem_singleton.1 hn];rfl)];exact zxd (yM t) hol) ?_
 rintro v σ' g' ⟨hP,rfl⟩
 unfold zhv at hP
 unfold wk
 cases hA:kJ (yM t) with
 | none =>
  rw [hA] at hP
  subst hP
  repeat' (first|refine i_s rfl ?_|refine sw ?_|refine c_t rfl ?_|refine zl rfl ?_)
  exact zb ⟨rfl,_,rfl,rfl⟩
 | some l =>
  rw [hA] at hP
  obtain ⟨g6,rfl,rfl⟩:=hP
  obtain ⟨_,hl2,_⟩:=(zda (yM t)).1 l hA
  repeat' (first|refine i_s rfl ?_|refine sw ?_|refine c_f rfl ?_)
  refine zfU [4032385] rfl rfl rfl (zvT 4032385 g6 l rfl rfl (fun nm h=>yC nm h) (by omega)) ?_
  rintro v σ' g' ⟨rfl,⟨l',hp,hs,rfl⟩,rfl⟩
  have hll:=hp.length_eq
  have el:l' = zsx l:=zqb (hp.trans (List.mergeSort_perm l _).symm) hs (zrn hA).2.2.2
  repeat refine sw ?_
  refine zte rfl rfl rfl ?_
  rw [List.drop_zero,List.take_of_length_le (by rw [List.length_map];omega)]
  subst el
  repeat' (first|refine i_s rfl ?_|refine sw ?_|refine zl rfl ?_)
  exact zb ⟨rfl,_,rfl,rfl⟩
def zkM:Cmd :=
 (qS [qx 1 512068 4 0,qc 2 0,qq 3 (.alloc 512194 (.agg [.int .i64 0,.int .i64 0]))]
 (qS [qL 8 4 1,qk 9 30 [8],qm 7 9,qq 10 (.extract (.t 7) 0),qq 11 (.extract (.t 7) 1),qq 12 (.extract (.t 7) 2),qq 6 (.alloc 512386 (.agg [.int .i64 0,.int .i64 0])),qm 4 10,qm 5 11,qs 2 6 12]
 (qT (qS [qL 13 2 6,qq 14 (.build [.int .i64 0,.int .i64 0] []),qq 15 (.bin .neq true [.i,.i] (.t 13) (.t 14))]
 (.cond (.t 15) (.seq (.ops [qL 16 2 6,qc 2 0,qs 2 3 16]) .ret) .skip))
 (.seq (.ops [qm 17 4,qm 18 5,qk 19 31 [17,18],qm 20 4,qk 21 32 [20],qq 22 (.mget false (.int .i64 0) (.t 19) (.t 21)),qq 23 (.build [.int .i64 0,.int .i64 0] []),qm 2 22,qs 2 3 23]) .ret))))
def zkN:List RVar:=[.tmp 2,.cell true 2 3]
def zkO:Nat:=24
theorem zc2:zj PG 8 zkO zkN zkM=true:=by kernel_rfl
theorem kZ (t:STask)(ho:SkOk t)(hb:yG t=okF)(hn:wk t=none):Fc PG 8 [skV t] (.tup [.int .i64 0,ftV ⟨10,-7⟩]):=by
 have hV:=jZ t ho hb
 rw [hn] at hV
 simp only at hV
 refine Fn.step zf zc2 ?_
 repeat' (first|refine i_s rfl ?_|refine sw ?_|refine c_t rfl ?_|refine zl rfl ?_|refine zi rfl ?_|refine zr rfl rfl ?_|refine sf rfl rfl hV ?_|fail)
 exact zb ⟨rfl,_,rfl,rfl⟩
theorem vV (t:STask)(ho:SkOk t)(hb:yG t=okF) {l:List W32} (hl:wk t=some l) {d:Int} (hd:Least (yM t) (yM t).start d):Fc PG 8 [skV t] (.tup [.int .i64 d,ftV okF]):=by
 have hV:=jZ t ho hb
 rw [hl] at hV
 simp only at hV
 have hv:=zc4 hb
 have hol:(yM t).ops.length≤1000000:=by unfold yM;rw [List.length_map];have:=hv.opl;omega
 have hI:IsStates (yM t) l:=by
  unfold wk at hl
  cases hA:kJ (yM t) with
  | none=>rw [hA] at hl;cases hl
  | some l0=>rw [hA] at hl;cases hl;exact zrn hA
 obtain ⟨D,hD⟩:=ztP (zdd hv)
 have hC:=zox (yM t) (zdd hv) hol l hI.1 hI.2.1 hI.closed D hD
 have hS:=qd (yM t)
 have hst:(yM t).start∈l:=(hI.2.2.1 _).2 .start
 have hg:zfG false (.int .i64 0) (xf (l.map toI) (l.map fun s=>zk (D s)) ((yM t).start.toNat:Int))=.int .i64 d:=by
  have:xf (l.map toI) (l.map fun s=>zk (D s)) ((yM t).start.toNat:Int)=some (zk (D (yM t).start)):=zrr hst
  rw [this,(hD _).uniq hd]
  rfl
 refine Fn.step zf zc2 ?_
 repeat' (first|refine i_s rfl ?_|refine sw ?_|refine c_f rfl ?_|refine zl rfl ?_|refine zi rfl ?_|refine zr rfl rfl ?_|refine sf rfl rfl hV ?_|refine sf rfl rfl hC ?_|refine sf rfl rfl hS ?_|refine zr0 rfl rfl rfl hg ?_)
 exact zb ⟨rfl,_,rfl,rfl⟩
end Hm
end
section
namespace Hm
open Go
set_option maxRecDepth 100000
set_option maxHeartbeats 2000000
theorem ztr {l:List Int}{m i:Nat} (hi:(ddK l m).length≤i):(ddK l m ++ l.drop (ddK l m).length)[i]? = l[i]?:=by
 rw [List.getElem?_append_right hi,List.getElem?_drop]
 congr 1
 omega
theorem zwP {l:List Int}{m:Nat}{x:Int} (hd:(ddK l m).length < l.length):(ddK l m ++ l.drop (ddK l m).length).set (ddK l m).length x=(ddK l m ++ [x]) ++ l.drop (ddK l m ++ [x]).length:=by
 rw [List.set_append_right _ _ (Nat.le_refl _),Nat.sub_self]
 have:l.drop (ddK l m).length=l[(ddK l m).length] :: l.drop ((ddK l m).length + 1):=List.drop_eq_getElem_cons hd
 rw [this,List.set_cons_zero]
 simp
def zez:Cmd :=
 (qS [qq 2 (.mov (.c (.sl .nil [])))]
 (qT (qS [qm 6 0,qn 7 6,qv 8 .lss [] 7 2]
 (.cond (.t 8) (.seq (.ops [qm 9 0,qm 2 9]) .ret) .skip))
 (qT (qS [qc 3 1]
 (.block 0 (.loop (qT (qS [qm 10 3,qm 11 0,qn 12 11,qu 13 .lss [] 10 12]
 (.cond (.t 13) .skip (.exit 0)))
 (qT (.block 1 (qS [qm 16 0,qm 17 3,qi 18 1 16 17,ql 19 1 18,qm 20 0,qm 21 3,qv 22 .sub [] 21 1,qi 23 1 20 22,ql 24 1 23,qu 25 .eql [.i] 19 24]
 (.cond (.t 25) (qS [qm 26 0,qm 27 3,qq 28 (.slice false 1 (.t 26) (some (.t 27)) none),qm 4 28]
 (qT (qS [qc 5 1]
 (.block 2 (.loop (qT (qS [qm 29 5,qm 30 4,qn 31 30,qu 32 .lss [] 29 31]
 (.cond (.t 32) .skip (.exit 2)))
 (qT (.block 3 (qS [qm 35 4,qm 36 5,qi 37 1 35 36,ql 38 1 37,qm 39 4,qm 40 5,qv 41 .sub [] 40 1,qi 42 1 39 41,ql 43 1 42,qu 44 .neq [.i] 38 43]
 (.cond (.t 44) (qS [qm 45 0,qm 46 3,qm 47 4,qm 48 5,qi 49 1 47 48,ql 50 1 49,qi 51 1 45 46,qs 1 51 50]
 (.ops [qm 52 3,qv 53 .add [] 52 1,qm 3 53])) .skip)))
 (.ops [qm 33 5,qv 34 .add [] 33 1,qm 5 34]))))))
 (qS [qm 54 0,qm 55 3,qq 56 (.slice false 1 (.t 54) (some (.t 55)) none),.op none none (.clear 1 8 (.int .i64 0) (.t 56))]
 (.seq (.ops [qm 57 0,qm 58 3,qq 59 (.slice false 1 (.t 57) none (some (.t 58))),qm 2 59]) .ret)))) .skip)))
 (.ops [qm 14 3,qv 15 .add [] 14 1,qm 3 15]))))))
 (.seq (.ops [qm 60 0,qm 2 60]) .ret))))
def zeA:List RVar:=[.tmp 2]
def zeB:Nat:=61
theorem zeC:zj PG 166 zeB zeA zez=true:=by kernel_rfl
theorem zts {G : Type} {H : HT G} (gen : Nat) (l:List Int)(hl:l.length≤17592186044416)(σ:za)(g:G)(hσ:σ 8640449=.arr gen (l.map zk))(hp:∀ nm,σ nm≠.zc→nm∈[8640449]) :
  Cc PG H 166 [.msl 8640449 gen 0 l.length] [8640449] σ g fun v σ' g'=>(∃ rows,v=.msl 8640449 gen 0 (wE l).length∧σ' = zy [(8640449,.arr gen rows)]∧rows.take (wE l).length=(wE l).map zk)∧g' = g:=by
 refine CT.step _ zf zeC hp fun hM=>?_
 refine zrT ?_
 refine zrU ?_
 refine i_s rfl ?_
 refine zhg ?_
 refine zbg ?_
 refine zcX [(0,.msl 8640449 gen 0 l.length)] [(8640449,.arr gen (l.map zk))] ⟨⟨rfl,trivial⟩,⟨hσ,trivial⟩,rfl⟩ ?_
 have fin:wE l=l→∃ rows,V.msl 8640449 gen 0 l.length=.msl 8640449 gen 0 (wE l).length∧zy [(8640449,.arr gen (l.map zk))]=zy [(8640449,.arr gen rows)]∧rows.take (wE l).length=(wE l).map zk:=fun e=>⟨l.map zk,by rw [e],rfl,by rw [e,List.take_of_length_le (by simp)]⟩
 repeat (first|refine i_s rfl ?_|refine uB rfl rfl rfl ?_|refine sw ?_)
 refine zd rfl (fun h=>?_) (fun h=>?_)
 · have h2 : l.length < 2 := by have:(l.length:Int) < 2:=by simpa using h
                                omega
   repeat (first|refine i_s rfl ?_|refine sw ?_)
   refine zb ⟨rfl,_,rfl,rfl,rfl,?_,rfl⟩
   rw [zu]
   exact fin (by unfold wE;rw [zhm _ (Nat.le_refl _) fun j h1 h3=>by omega,List.take_length])
 have h2 : 2 ≤ l.length := by have:¬ (l.length:Int) < 2:=by simpa using h
                              omega
 clear h
 repeat (first|refine i_s rfl ?_|refine sw ?_)
 refine x5 (ι:=Nat) (fun k=>[(0,.msl 8640449 gen 0 l.length),(3,.int .i64 k)]) (fun _=>[(8640449,.arr gen (l.map zk))]) (fun k=>1≤k∧k≤l.length∧∀ j,0 < j→j < k→l[j]?≠l[j - 1]?) (fun k=>l.length - k) 1 ⟨Nat.le_refl _,by omega,fun j h1 h2=>by omega⟩ ft fun k hi=>?_
 obtain ⟨k1,k2,k3⟩:=hi
 repeat (first|refine i_s rfl ?_|refine uB rfl rfl rfl ?_|refine sw ?_)
 refine zd rfl (fun h=>?_) (fun h=>?_)
 · have hlt : k < l.length := by have : (k:Int) < l.length:=by simpa using h
                                 omega
   obtain ⟨x,hx⟩:=zh hlt
   obtain ⟨y,hy⟩:=zh (l:=l) (k:=k - 1) (by omega)
   clear h
   repeat (first|refine i_s rfl ?_|refine sw ?_)
   refine yJ rfl rfl rfl rfl (by omega) (by omega) rfl ?_
   refine xB (row:=zk x) rfl rfl rfl (by simp [hx]) rfl ?_
   repeat (first|refine i_s rfl ?_|refine jb rfl rfl ?_)
   refine yJ rfl rfl rfl rfl (by omega) (by omega) rfl ?_
   refine xB (row:=zk y) rfl rfl rfl (by rw [show 0 + ((k:Int) - 1).toNat=k - 1 from by omega];simp [hy]) rfl ?_
   repeat (first|refine i_s rfl ?_|refine sw ?_)
   refine zd rfl (fun h=>?_) (fun h=>?_)
   · have e:x=y:=by simpa using h
     subst e
     clear h
     repeat (first|refine i_s rfl ?_|refine sw ?_)
     refine zrX rfl rfl rfl rfl (by omega) (by omega) rfl ?_
     repeat (first|refine i_s rfl ?_|refine sw ?_)
     have e0:=zhm k (by omega) k3
     have e1:ddK l (k + 1)=l.take k:=by rw [zeL hx (by omega) hy,e0]
     refine x5 (ι:=Nat) (fun j=>[(0,.msl 8640449 gen 0 l.length),(3,.int .i64 (ddK l (k + j)).length),(4,.msl 8640449 gen (0 + k) (l.length - k)),(5,.int .i64 j)])
      (fun j=>[(8640449,.arr gen ((ddK l (k + j) ++ l.drop (ddK l (k + j)).length).map zk))]) (fun j=>1≤j∧k + j≤l.length∧(ddK l (k + j)).length + 1≤k + j) (fun j=>l.length - j) 1 ⟨Nat.le_refl _,by omega,by rw [e1];simp;omega⟩ ⟨⟨rfl,?_,rfl,rfl,trivial⟩,⟨?_,trivial⟩,rfl⟩ fun j hj=>?_
     · rw [e1,List.length_take,Nat.min_eq_left (by omega)];rfl
     · rw [e1,List.length_take,Nat.min_eq_left (by omega),List.take_append_drop];rfl
     obtain ⟨j1,j2,j3⟩:=hj
     have hdl:=zvV l (k + j)
     have hAl:(ddK l (k + j) ++ l.drop (ddK l (k + j)).length).length=l.length:=by simp;omega
     repeat (first|refine i_s rfl ?_|refine uB rfl rfl rfl ?_|refine sw ?_)
     refine zd rfl (fun h=>?_) (fun h=>?_)
     · have hlt2 : j < l.length - k := by have:(j:Int) < ((l.length - k:Nat):Int):=by simpa using h
                                          omega
       obtain ⟨a,ha⟩:=zh (l:=l) (k:=k + j) (by omega)
       obtain ⟨b,hb⟩:=zh (l:=l) (k:=k + j - 1) (by omega)
       have ha':=ha
       rw [← ztr (m:=k + j) (by omega)] at ha'
       have hb':=hb
       rw [← ztr (m:=k + j) (by omega)] at hb'
       clear h
       repeat (first|refine i_s rfl ?_|refine sw ?_)
       refine yJ rfl rfl rfl rfl (by omega) (by omega) rfl ?_
       refine xB (row:=zk a) rfl rfl rfl (by rw [show 0 + k + (j:Int).toNat=k + j from by omega,List.getElem?_map,ha'];rfl) rfl ?_
       repeat (first|refine i_s rfl ?_|refine jb rfl rfl ?_)
       refine yJ rfl rfl rfl rfl (by omega) (by omega) rfl ?_
       refine xB (row:=zk b) rfl rfl rfl (by rw [show 0 + k + ((j:Int) - 1).toNat=k + j - 1 from by omega,List.getElem?_map,hb'];rfl) rfl ?_
       repeat (first|refine i_s rfl ?_|refine sw ?_)
       refine zd rfl (fun h=>?_) (fun h=>?_)
       · have hne:a≠b:=by simpa using h
         have ek:ddK l (k + (j + 1))=ddK l (k + j) ++ [a]:=zeK (k:=k + j) ha (.inr (by rw [hb];simpa using fun e=>hne e.symm))
         clear h
         repeat (first|refine i_s rfl ?_|refine sw ?_)
         refine yJ rfl rfl rfl rfl (by omega) (by omega) rfl ?_
         refine xB (row:=zk a) rfl rfl rfl (by rw [show 0 + k + (j:Int).toNat=k + j from by omega,List.getElem?_map,ha'];rfl) rfl ?_
         skip
         refine yJ rfl rfl rfl rfl (by omega) (by omega) rfl ?_
         refine zxD rfl rfl rfl rfl rfl (by rw [hAl];omega) ?_
         repeat (first|refine i_s rfl ?_|refine sw ?_|refine ja rfl rfl ?_)
         refine xL (j + 1) ⟨by omega,by omega,by rw [ek];simp;omega⟩ (by omega) ⟨⟨rfl,?_,rfl,rfl,trivial⟩,⟨?_,trivial⟩,rfl⟩
         · rw [ek];simp;rfl
         · have:=zwP (l:=l) (m:=k + j) (x:=a) (by omega)
           rw [ek,← this,show (ddK l (k + j)).length=0 + ((ddK l (k + j)).length:Int).toNat from by omega]
           simp
           rfl
       · have he:a=b:=by simpa using h
         subst he
         have ek:ddK l (k + (j + 1))=ddK l (k + j):=zeL (k:=k + j) ha (by omega) hb
         clear h
         repeat (first|refine i_s rfl ?_|refine sw ?_|refine ja rfl rfl ?_)
         refine xL (j + 1) ⟨by omega,by omega,by rw [ek];omega⟩ (by omega) ⟨⟨rfl,?_,rfl,rfl,trivial⟩,⟨?_,trivial⟩,rfl⟩
         · rw [ek];rfl
         · rw [ek];rfl
     · have hje : k + j = l.length := by have:¬ (j:Int) < ((l.length - k:Nat):Int):=by simpa using h
                                         omega
       have ec:wE l=ddK l (k + j):=by unfold wE;rw [hje]
       clear fin
       clear h
       repeat (first|refine i_s rfl ?_|refine sw ?_)
       refine zrX rfl rfl rfl rfl (by omega) (by omega) rfl ?_
       refine zq2 rfl rfl rfl rfl ?_
       repeat (first|refine i_s rfl ?_|refine sw ?_)
       refine zrW rfl rfl rfl rfl rfl (by omega) (by omega) (by omega) rfl ?_
       repeat (first|refine i_s rfl ?_|refine sw ?_)
       rw [ec]
       refine zb ⟨rfl,_,rfl,rfl,rfl,⟨_,?_,zu _ _,?_⟩,rfl⟩
       · show V.msl _ _ _ _=V.msl _ _ _ _
         simp
       · have e1:(0 + ((ddK l (k + j)).length:Int).toNat)=(ddK l (k + j)).length:=by omega
         rw [e1,List.append_assoc,List.take_append_of_le_length (by simp),List.take_take,Nat.min_self,← List.map_take,List.take_append_of_le_length (Nat.le_refl _),List.take_length]
   · have hne:x≠y:=by simpa using h
     clear h
     repeat (first|refine i_s rfl ?_|refine sw ?_|refine ja rfl rfl ?_)
     refine xL (k + 1) ⟨by omega,by omega,fun j h1 h3=>?_⟩ (by omega) ft
     by_cases e:j=k
     · subst e;rw [hx,hy];simpa using hne
     · exact k3 j h1 (by omega)
 · have hke : k = l.length := by have:¬ (k:Int) < l.length:=by simpa using h
                                 omega
   subst hke
   repeat (first|refine i_s rfl ?_|refine sw ?_)
   refine zb ⟨rfl,_,rfl,rfl,rfl,?_,rfl⟩
   rw [zu]
   exact fin (by unfold wE;rw [zhm _ (Nat.le_refl _) k3,List.take_length])
theorem zjh {l:List Int}{p:Int→Bool}{k:Nat}{x:Int} (h:l[k]? = some x):(l.take (k + 1)).filter p=(l.take k).filter p ++ (if p x=true then [x] else []):=by
 rw [zz h,List.filter_append]
 congr 1
 cases hx:p x<;>simp [List.filter,hx]
def zkP:Cmd :=
 (qS [qq 6 (.mov (.c (.sl .nil [])))]
 (qS [qq 7 (.newArr 8640449)]
 (qT (qS [qm 12 0,qn 13 12,qc 14 0]
 (.block 0 (.loop (qS [qu 15 .lss [] 14 13]
 (qT (.cond (.t 15) .skip (.exit 0))
 (qT (.block 1 (qS [qi 16 1 12 14,ql 17 1 16,qm 9 17]
 (qS [qm 19 2,qm 20 9,qk 21 59 [19,20],qm 18 21,qq 22 (.extract (.t 18) 0),qq 23 (.extract (.t 18) 1),qm 10 22,qm 11 23]
 (qS [qm 24 11,qq 25 (.not (.t 24))]
 (.cond (.t 25) (.ops [qm 26 7,qm 27 9,qq 28 (.bsl 1 [.t 27]),qq 29 (.append 1 8 3 (.t 26) (.t 28)),qm 7 29]) .skip)))))
 (.ops [qv 30 .add [] 14 1,qm 14 30])))))))
 (qS [qm 31 7,qm 32 1,qq 33 (.append 1 8 3 (.t 31) (.t 32)),qm 7 33]
 (qS [qm 34 7,qq 35 (.call (.s [8640449]) (.c (.fn 165 [])) [.t 34])]
 (.seq (.ops [qm 36 7,qq 37 (.call (.s [8640449]) (.c (.fn 166 [])) [.t 36]),qm 6 37]) .ret))))))
def zkQ:List RVar:=[.tmp 6]
def zkR:Nat:=38
theorem zkS:zj PG 135 zkR zkQ zkP=true:=by kernel_rfl
theorem zkT (s add del : List Int) (hs:s.length≤17592186044)(ha:add.length≤17592186044)(hd:del.length≤17592186044)(hdel:SS del) :
  Fc PG 135 [.sl .p (s.map zk),.sl .p (add.map zk),.sl .p (del.map zk)] (.sl .p ((wC s add del).map zk)):=by
 have hu:wC s add del=wE (wA (s.filter (fun x=>decide (x ∉ del)) ++ add)):=rfl
 rw [hu]
 generalize hp:(fun x=>decide (x ∉ del))=p
 refine Fn.step zf zkS ?_
 repeat (first|refine i_s rfl ?_|refine sw ?_)
 refine zi1 rfl ?_
 repeat (first|refine zo rfl ?_|refine i_s rfl ?_|refine sw ?_)
 refine ye s.length (fun k=>[(1,.sl .p (add.map zk)),(2,.sl .p (del.map zk)),(7,.msl 8640449 ((s.take k).filter p).length 0 ((s.take k).filter p).length),(12,.sl .p (s.map zk)),(13,.int .i64 s.length),(14,.int .i64 k)])
  (fun k=>[(8640449,.arr ((s.take k).filter p).length (((s.take k).filter p).map zk))]) (fun _=>True) trivial ft fun k hk _=>?_
 have hfl:((s.take k).filter p).length≤k:=Nat.le_trans (List.length_filter_le _ _) (by simp;omega)
 repeat (first|refine i_s rfl ?_|refine sw ?_)
 refine zd rfl (fun h=>?_) (fun h=>?_)
 · have hlt:k < s.length:=by simpa using h
   obtain ⟨x,hx⟩:=zh hlt
   have hB:=zed del x (by omega) hdel
   have ef:=zjh (p:=p) hx
   have hpx:p x = !decide (x∈del):=by rw [← hp];simp
   clear h
   repeat (first|refine i_s rfl ?_|refine sw ?_|refine jd rfl rfl ?_|refine sf rfl rfl hB ?_)
   refine zd rfl (fun h=>?_) (fun h=>?_)
   · rw [hpx,if_pos h] at ef
     repeat (first|refine i_s rfl ?_|refine sw ?_)
     refine wJ [x] rfl rfl rfl rfl rfl (fun c hc=>⟨rfl,rfl⟩) (by simp;omega) (by simp;omega) ?_
     repeat (first|refine i_s rfl ?_|refine sw ?_|refine ja rfl rfl ?_)
     refine zK hlt trivial ⟨⟨rfl,rfl,?_,rfl,rfl,rfl,trivial⟩,⟨?_,trivial⟩,rfl⟩
     · rw [ef,List.length_append];rfl
     · rw [ef,List.length_append];rfl
   · rw [hpx,if_neg (by simpa using h),List.append_nil] at ef
     repeat (first|refine i_s rfl ?_|refine sw ?_|refine ja rfl rfl ?_)
     refine zK hlt trivial ⟨⟨rfl,rfl,?_,rfl,rfl,rfl,trivial⟩,⟨?_,trivial⟩,rfl⟩
     · rw [ef];rfl
     · rw [ef];rfl
 · have hge : k = s.length := by have:¬ k < s.length:=by simpa using h
                                 omega
   subst hge
   rw [List.take_length] at hfl ⊢
   clear h hk
   generalize s.filter p=F at *
   repeat (first|refine i_s rfl ?_|refine sw ?_)
   refine wJ add rfl rfl rfl rfl rfl (fun c hc=>⟨rfl,rfl⟩) (by omega) (by omega) ?_
   refine i_s rfl ?_
   refine zhg ?_
   refine zbg ?_
   refine zcX [(7,.msl 8640449 (F.length + 1) 0 (F ++ add).length)] [(8640449,.arr (F.length + 1) ((F ++ add).map zk))] ft ?_
   have hla:(F ++ add).length≤35184372088:=by simp;omega
   generalize F ++ add=L at *
   repeat (first|refine i_s rfl ?_|refine sw ?_)
   refine i_c rfl rfl rfl (zwK 8640449 (F.length + 1) L rfl rfl (fun nm h=>yC nm h) (by omega)) ?_
   rintro _ _ _ ⟨rfl,rfl,rfl⟩
   refine zhg ?_
   refine zbg ?_
   refine zcX [(7,.msl 8640449 (F.length + 1) 0 (wA L).length)] [(8640449,.arr (F.length + 1) ((wA L).map zk))] ⟨⟨?_,trivial⟩,⟨rfl,trivial⟩,rfl⟩ ?_
   · rw [zjr];rfl
   repeat (first|refine i_s rfl ?_|refine sw ?_)
   refine i_c rfl rfl rfl (zts (F.length + 1) (wA L) (by rw [zjr];omega) _ _ rfl (fun nm h=>yC nm h)) ?_
   rintro _ _ _ ⟨⟨rows,rfl,rfl,hr⟩,rfl⟩
   repeat (first|refine i_s rfl ?_|refine sw ?_)
   exact zb ⟨rfl,_,rfl,((zf8 (rows:=rows) (i:=0) (len:=(wE (wA L)).length) (n:=5) rfl).trans (by rw [List.drop_zero,hr])).symm⟩
def zpw:Cmd :=
 (qS [qx 3 9024196 4 0,qb 6 false]
 (.seq (.ops [qm 7 1,qf 8 3 3,ql 9 1 8,qm 10 2,qi 11 4 9 10,qf 12 0 11,ql 13 1 12,qk 14 93 [7,13],qm 6 14]) .ret))
def zpx:List RVar:=[.tmp 6]
def zpy:Nat:=15
theorem zpz:zj PG 141 zpy zpx zpw=true:=by kernel_rfl
theorem zpA (t:STask)(s:List Int)(hs:s.length≤140737488355328)(hss:SS s)(op:Int)(h0:0≤op)(o:SOp)(hc:t.ops[op.toNat]? = some o)(hl:o.pre.length≤140737488355328)(hp:SS o.pre):Fc PG 141 [skV t,.sl .p (s.map zk),.int .i64 op] (.bool (xl o.pre s)):=by
 have h1:=za9 s o.pre hs hl hss hp
 refine Fn.step zf zpz ?_
 repeat' (first|refine i_s rfl ?_|refine sw ?_|refine jd rfl rfl ?_|refine zr rfl rfl ?_|refine sf rfl rfl h1 ?_|fail)
 exact zb ⟨rfl,_,rfl,rfl⟩
def zn4:Cmd :=
 (qS [qx 3 9088196 4 0,qq 6 (.mov (.c (.sl .nil [])))]
 (qS [qf 8 3 3,ql 9 1 8,qm 10 2,qi 11 4 9 10,qL 12 4 11,qq 7 (.alloc 9088452 (.agg [.sl .nil [],.sl .nil [],.sl .nil [],.int .i64 0])),qs 4 7 12]
 (.seq (.ops [qm 13 1,qf 14 1 7,ql 15 1 14,qf 16 2 7,ql 17 1 16,qk 18 135 [13,15,17],qm 6 18]) .ret)))
def zn5:List RVar:=[.tmp 6]
def zn6:Nat:=19
theorem zn7:zj PG 142 zn6 zn5 zn4=true:=by kernel_rfl
theorem zn8 (t:STask)(s:List Int)(hs:s.length≤17592186044)(op:Int)(h0:0≤op)(o:SOp)(hc:t.ops[op.toNat]? = some o)(ha:o.add.length≤17592186044)(hd:o.del.length≤17592186044)(hdel:SS o.del):Fc PG 142 [skV t,.sl .p (s.map zk),.int .i64 op] (.sl .p ((wC s o.add o.del).map zk)):=by
 have h1:=zkT s o.add o.del hs ha hd hdel
 refine Fn.step zf zn7 ?_
 repeat' (first|refine i_s rfl ?_|refine sw ?_|refine jd rfl rfl ?_|refine zl rfl ?_|refine zi rfl ?_|refine zr rfl rfl ?_|refine sf rfl rfl h1 ?_|fail)
 exact zb ⟨rfl,_,rfl,rfl⟩
def ssV (s:List Int):V:=.sl .p (s.map zk)
theorem zcg {t:STask} (hv:SV t) {l:List Int} (h:IsSet t.facts l):l.length≤24:=by
 have:=znD h hv.f0
 have:=hv.f1
 omega
def zpB:Cmd :=
 (qS [qx 3 6848196 4 0,qq 6 (.mov (.c (.sl .nil [])))]
 (qS [qm 10 1,qk 11 119 [10],qq 12 (.bslO 6848769 1 [.t 11]),qm 7 12]
 (qT (qS [qm 13 2,qn 14 13,qc 15 0]
 (.block 0 (.loop (qS [qu 16 .lss [] 15 14]
 (qT (.cond (.t 16) .skip (.exit 0))
 (qT (.block 1 (qS [qi 17 1 13 15,ql 18 1 17,qm 9 18]
 (qT (qS [qL 19 4 3,qm 20 1,qm 21 9,qk 22 141 [19,20,21],qq 23 (.not (.t 22))]
 (.cond (.t 23) (.exit 0) .skip))
 (qS [qL 24 4 3,qm 25 1,qm 26 9,qk 27 142 [24,25,26],qm 1 27]
 (.ops [qm 28 7,qm 29 1,qq 30 (.bsl 1 [.t 29]),qq 31 (.append 1 24 22 (.t 28) (.t 30)),qm 7 31])))))
 (.ops [qv 32 .add [] 15 1,qm 15 32])))))))
 (.seq (.ops [qm 33 7,qm 6 33]) .ret))))
def zpC:List RVar:=[.tmp 6]
def zpD:Nat:=34
theorem zpE:zj PG 107 zpD zpC zpB=true:=by kernel_rfl
theorem zpF (t : STask) (hv : SV t) (s:List Int)(hs:IsSet t.facts s)(plan:List Int)(hl:plan.length≤1000000)(hp:∀ x∈plan,0≤x∧x < t.ops.length):Fc PG 107 [skV t,.sl .p (s.map zk),.sl .p (plan.map zk)] (.sl .p ((s :: uy t s plan).map ssV)):=by
 have hsl:=zcg hv hs
 have hC:=xG s (by omega)
 refine Fn.step zf zpE ?_
 repeat (first|refine i_s rfl ?_|refine sw ?_|refine zr rfl rfl ?_|refine sf rfl rfl hC ?_)
 refine zwD rfl rfl rfl rfl ?_
 repeat (first|refine zo rfl ?_|refine i_s rfl ?_|refine sw ?_)
 refine x5 (ι:=Nat × List Int × List (List Int)) (fun i=>[(1,.sl .p (i.2.1.map zk)),(3,.bptr 6848196 0),(7,.sl (.own 6848769) (i.2.2.map ssV)),(13,.sl .p (plan.map zk)),(14,.int .i64 plan.length),(15,.int .i64 i.1)])
  (fun i=>[(6848196,.box (skV t)),(6848769,.vec i.2.2.length)])
  (fun i=>i.1≤plan.length∧i.2.2.length=i.1 + 1∧IsSet t.facts i.2.1∧i.2.2 ++ uy t i.2.1 (plan.drop i.1)=s :: uy t s plan) (fun i=>plan.length - i.1) (0,s,[s]) ⟨Nat.zero_le _,rfl,hs,rfl⟩ ft fun i hi=>?_
 obtain ⟨k,u,acc⟩:=i
 obtain ⟨h1,h2,h3,h4⟩:=hi
 simp only at h1 h2 h3 h4
 have hul:=zcg hv h3
 clear hC hs hsl
 repeat (first|refine i_s rfl ?_|refine sw ?_)
 refine zd rfl (fun h=>?_) (fun h=>?_)
 · have hlt:k < plan.length:=by simpa using h
   obtain ⟨x,hx⟩:=zh hlt
   obtain ⟨x0,x1⟩:=hp x (zm hx)
   obtain ⟨o,hc⟩:=zh (l:=t.ops) (k:=x.toNat) (by omega)
   have hoo:=hv.op o (zm hc)
   have hC:=zpA t u (by omega) h3.ss x x0 o hc (by have:=zcg hv hoo.pre;omega) hoo.pre.ss
   have hN:=zn8 t u (by omega) x x0 o hc (by have:=zcg hv hoo.add;omega) (by have:=zcg hv hoo.del;omega) hoo.del.ss
   have ed:plan.drop k=x :: plan.drop (k + 1):=by
    obtain ⟨h5,h6⟩:=List.getElem?_eq_some_iff.1 hx
    rw [← h6];exact List.drop_eq_getElem_cons hlt
   have hst:=zpY (s:=u) hc
   rw [ed] at h4
   simp only [uy,hst] at h4
   clear h
   cases hi:xl o.pre u with
   | true =>
    rw [hi] at hC
    rw [hi,if_pos rfl] at h4
    repeat (first|refine i_s rfl ?_|refine sw ?_|refine c_f rfl ?_|refine jd rfl rfl ?_|refine sf rfl rfl hC ?_|refine sf rfl rfl hN ?_)
    refine yU (f:=ssV) (c:=wC u o.add o.del) rfl rfl rfl rfl rfl (by dsimp only;omega) (by dsimp only;omega) ?_
    repeat (first|refine i_s rfl ?_|refine sw ?_|refine ja rfl rfl ?_)
    exact xL (k + 1,wC u o.add o.del,acc ++ [wC u o.add o.del]) ⟨hlt,by simp [h2],uS h3 hoo.add,by simpa using h4⟩ (by simp only;omega) ⟨⟨rfl,rfl,rfl,rfl,rfl,rfl,trivial⟩,⟨rfl,by simp;rfl,trivial⟩,rfl⟩
   | false =>
    rw [hi] at hC
    rw [hi,if_neg (by simp),List.append_nil] at h4
    repeat (first|refine i_s rfl ?_|refine sw ?_|refine c_t rfl ?_|refine jd rfl rfl ?_|refine sf rfl rfl hC ?_)
    exact zb ⟨rfl,_,rfl,by rw [h4];rfl⟩
 · have hge : k = plan.length := by have:¬ k < plan.length:=by simpa using h
                                    omega
   subst hge
   rw [List.drop_length] at h4
   simp only [uy,List.append_nil] at h4
   repeat (first|refine i_s rfl ?_|refine sw ?_)
   exact zb ⟨rfl,_,rfl,by rw [h4];rfl⟩
def zmb:Cmd :=
 (qS [qx 3 3584196 4 0,qb 6 false]
 (qS [qL 8 4 3,qm 9 1,qm 10 2,qk 11 107 [8,9,10],qm 7 11]
 (.seq (.ops [qm 12 7,qn 13 12,qm 14 2,qn 15 14,qv 16 .add [] 15 1,qu 17 .eql [.i] 13 16,qm 18 17,qg 19 18 true (.mov (.t 7)),qg 20 18 true (.mov (.t 2)),qg 21 18 true (.len false (.t 20)),qg 22 18 true (.iaddr 1 (.t 19) (.t 21)),qg 23 18 true (.load false 1 (.t 22)),qg 24 18 true (.faddr 2 (.t 3)),qg 25 18 true (.load false 1 (.t 24)),qg 26 18 true (.call .f (.c (.fn 93 [])) [.t 23,.t 25]),qq 27 (.pick (.t 18) (.t 26) (.c (.bool false))),qm 6 27]) .ret)))
def zmc:List RVar:=[.tmp 6]
def zmd:Nat:=28
theorem zdI:zj PG 56 zmd zmc zmb=true:=by kernel_rfl
theorem zme (t:STask)(hv:SV t)(s:List Int)(hs:IsSet t.facts s)(plan:List Int)(hl:plan.length≤1000000)(hp:∀ x∈plan,0≤x∧x < t.ops.length):Fc PG 56 [skV t,.sl .p (s.map zk),.sl .p (plan.map zk)] (.bool (zlh t s plan)):=by
 have hR:=zpF t hv s hs plan hl hp
 have hle:=zeQ t plan s
 have heq:=zsq t plan s
 have hget:=zmG t plan s
 have hgl:=zcg hv hv.goal
 unfold zlh
 cases he:zdt t s plan with
 | some e =>
  have hes:=zpX hv plan s e hs he
  have hel:=zcg hv hes
  have hC:=za9 e t.goal (by omega) (by omega) hes.ss hv.goal.ss
  rw [he] at hget heq
  have hlen:(uy t s plan).length=plan.length:=heq.2 rfl
  generalize uy t s plan=R at *
  have hl2:(s :: R).length=plan.length + 1:=by simp [hlen]
  generalize s :: R=L at *
  refine Fn.step zf zdI ?_
  repeat' (first|refine zo rfl ?_|refine i_s rfl ?_|refine sw ?_|refine yi rfl ?_|refine yw rfl ?_|refine ja rfl rfl ?_|refine jd rfl rfl ?_|refine zr rfl rfl ?_|refine i_g rfl (fun h=>?_) (fun h=>?_)|refine sf rfl rfl hR ?_|refine sf rfl rfl hC ?_|fail)
  all_goals first
   | exact zb ⟨rfl,_,rfl,rfl⟩
   | (exfalso;clear hR hC hs hv hes heq;simp at *;omega)
 | none =>
  rw [he] at heq
  have hlen:¬ (uy t s plan).length=plan.length:=fun h=>by have:=heq.1 h;cases this
  generalize uy t s plan=R at *
  have hl2:¬ (s :: R).length=plan.length + 1:=by simp;omega
  generalize s :: R=L at *
  refine Fn.step zf zdI ?_
  repeat' (first|refine zo rfl ?_|refine i_s rfl ?_|refine sw ?_|refine yi rfl ?_|refine yw rfl ?_|refine ja rfl rfl ?_|refine zr rfl rfl ?_|refine i_g rfl (fun h=>?_) (fun h=>?_)|refine sf rfl rfl hR ?_|fail)
  all_goals first
   | exact zb ⟨rfl,_,rfl,rfl⟩
   | (exfalso;clear hR hs hv heq;simp at *;omega)
def zkU:Cmd :=
 (qS [qx 2 1344132 4 0,qb 4 false,qq 5 (.alloc 1344322 (.agg [.int .i64 0,.int .i64 0]))]
 (qT (qS [qL 7 4 2,qm 8 1,qk 9 55 [7,8],qq 6 (.alloc 1344386 (.agg [.int .i64 0,.int .i64 0])),qs 2 6 9]
 (qS [qL 10 2 6,qq 11 (.build [.int .i64 0,.int .i64 0] []),qq 12 (.bin .neq true [.i,.i] (.t 10) (.t 11))]
 (.cond (.t 12) (.seq (.ops [qL 13 2 6,qb 4 false,qs 2 5 13]) .ret) .skip)))
 (.seq (.ops [qL 14 4 2,qf 15 1 2,ql 16 1 15,qm 17 1,qk 18 56 [14,16,17],qq 19 (.build [.int .i64 0,.int .i64 0] []),qm 4 18,qs 2 5 19]) .ret)))
def zkV:List RVar:=[.tmp 4,.cell true 2 5]
def zkW:Nat:=20
theorem zkX:zj PG 21 zkW zkV zkU=true:=by kernel_rfl
theorem zf6 (t:STask)(ho:SkOk t)(plan:List Int)(hb:zbU t plan=okF):Fc PG 21 [skV t,.sl .p (plan.map zk)] (.tup [.bool (zlh t t.init plan),ftV okF]):=by
 obtain ⟨hv,h60,hr,_⟩:=zsI hb
 have hF:=zg3 t ho plan (by omega)
 rw [hb] at hF
 have hW:=zme t hv t.init hv.init plan (by omega) hr
 refine Fn.step zf zkX ?_
 repeat' (first|refine i_s rfl ?_|refine sw ?_|refine c_f rfl ?_|refine zl rfl ?_|refine zi rfl ?_|refine zr rfl rfl ?_|refine sf rfl rfl hF ?_|refine sf rfl rfl hW ?_|fail)
 exact zb ⟨rfl,_,rfl,rfl⟩
end Hm
end
section
namespace Hm
open Go
set_option maxRecDepth 100000
set_option maxHeartbeats 4000000
def vd:STask:=⟨2,[0],[1],[⟨[0],[1],[0],3⟩]⟩
theorem zrf:SkOk vd:=by
 refine ⟨by decide,by decide,by decide,fun o ho=>?_⟩
 rw [List.mem_singleton.1 ho]
 exact ⟨by decide,by decide,by decide⟩
theorem ztt:yG vd=okF:=by decide +kernel
theorem zqJ:wk vd≠none:=by
 have:(wk vd).isSome=true:=by decide +kernel
 intro h
 rw [h] at this
 cases this
theorem zr8:Least (yM vd) (yM vd).start 3:=by
 have hv:=zc4 ztt
 have hw:WayTo (yM vd) (yM vd).start 3:=ziN hv [0] [0] [1] hv.init (by decide) (by decide +kernel) (by decide +kernel)
 refine ⟨by decide,fun c h=>?_,.inr hw⟩
 cases h with
 | goal h=>exact absurd h (by decide +kernel)
 | step he h =>
  have h0:=zp8 (zdd hv) h
  obtain ⟨o,h1,_,h3,_⟩:=(u6 (t:=vd) hv (s:=[0]) (by intro p hp;simp at hp;omega)).1 he
  have:o∈vd.ops:=List.mem_of_getElem? h1
  rw [List.mem_singleton.1 this] at h3
  rw [h3]
  show (3:Int)≤3 + _
  omega
theorem zr9:zlh vd vd.init [0]=true:=by decide +kernel
def zpG:Cmd :=
 (qS [qq 0 (.alloc 1280004 (.agg [.int .i64 0,.sl .nil [],.sl .nil [],.sl .nil []]))]
 (.seq (.ops [qq 1 (.bsl 1 [.c (.int .i64 0)]),qq 2 (.bsl 1 [.c (.int .i64 1)]),qq 3 (.bsl 1 [.c (.int .i64 0)]),qq 4 (.bsl 1 [.c (.int .i64 1)]),qq 5 (.bsl 1 [.c (.int .i64 0)]),qq 6 (.build [.sl .nil [],.sl .nil [],.sl .nil [],.int .i64 0] [(0 ,1 ,.t 3),(1 ,1 ,.t 4),(2 ,1 ,.t 5),(3 ,1 ,.c (.int .i64 3))]),qq 7 (.bsl 4 [.t 6]),qq 8 (.build [.int .i64 0,.sl .nil [],.sl .nil [],.sl .nil []] [(0 ,1 ,.c (.int .i64 2)),(1 ,1 ,.t 1),(2 ,1 ,.t 2),(3 ,1 ,.t 7)]),qs 4 0 8]) .ret))
def zpH:List RVar:=[.cell true 4 0]
def zpI:Nat:=9
theorem zpJ:zj PG 20 zpI zpH zpG=true:=by kernel_rfl
theorem zsa:Fc PG 20 [] (skV vd):=by
 refine Fn.step zf zpJ ?_
 repeat' (first|refine i_s rfl ?_|refine sw ?_|refine zl rfl ?_|refine zi rfl ?_)
 exact zb ⟨rfl,_,rfl,rfl⟩
def zn9:Cmd :=
 (qS [qb 0 false]
 (qS [qk 6 20 [],qk 7 8 [6],qm 5 7,qq 8 (.extract (.t 5) 0),qq 9 (.extract (.t 5) 1),qq 2 (.alloc 384130 (.agg [.int .i64 0,.int .i64 0])),qm 1 8,qs 2 2 9]
 (qS [qk 11 20 [],qq 12 (.bsl 1 [.c (.int .i64 0)]),qk 13 21 [11,12],qm 10 13,qq 14 (.extract (.t 10) 0),qq 15 (.extract (.t 10) 1),qq 4 (.alloc 384258 (.agg [.int .i64 0,.int .i64 0])),qm 3 14,qs 2 4 15]
 (.seq (.ops [qf 16 0 2,ql 17 1 16,qv 18 .eql [.i] 17 0,qm 19 18,qg 20 19 true (.faddr 0 (.t 4)),qg 21 19 true (.load false 1 (.t 20)),qg 22 19 true (.bin .eql false [.i] (.t 21) (.c (.int .i64 0))),qq 23 (.pick (.t 19) (.t 22) (.c (.bool false))),qm 24 23,qg 25 24 true (.mov (.t 1)),qg 26 24 true (.bin .eql false [.i] (.t 25) (.c (.int .i64 3))),qq 27 (.pick (.t 24) (.t 26) (.c (.bool false))),qm 28 27,qg 29 28 true (.mov (.t 3)),qq 30 (.pick (.t 28) (.t 29) (.c (.bool false))),qm 0 30]) .ret))))
def zoa:List RVar:=[.tmp 0]
def zob:Nat:=31
theorem zoc:zj PG 6 zob zoa zn9=true:=by kernel_rfl
theorem zqK:Fc PG 6 [] (.bool true):=by
 obtain ⟨l,hl⟩:=Option.ne_none_iff_exists'.1 zqJ
 have h1:=vV vd zrf ztt hl zr8
 have h2:=zf6 vd zrf [0] (by decide +kernel)
 rw [zr9] at h2
 have h0:=zsa
 refine Fn.step zf zoc ?_
 repeat' (first|refine i_s rfl ?_|refine sw ?_|refine yi rfl ?_|refine zl rfl ?_|refine zi rfl ?_|refine sf rfl rfl h0 ?_|refine sf rfl rfl h1 ?_|refine sf rfl rfl h2 ?_|fail)
 all_goals first
  | (exfalso;simp at *;done)
  | exact zb ⟨rfl,_,rfl,rfl⟩
theorem zqL {a b:STask} (ha:SkOk a)(hb:SkOk b)(va:SV a)(vb:SV b) {R:W32→W32→Prop} (h:Bis (yM a) (yM b) R) :
  (∃ d,Fc PG 8 [skV a] (.tup [.int .i64 d,ftV okF])∧Fc PG 8 [skV b] (.tup [.int .i64 d,ftV okF]))∨(Fc PG 8 [skV a] (.tup [.int .i64 0,ftV ⟨10,-7⟩])∧Fc PG 8 [skV b] (.tup [.int .i64 0,ftV ⟨10,-7⟩])):=by
 have fa:=znE va
 have fb:=znE vb
 cases hA:wk a with
 | none=>exact .inr ⟨kZ a ha fa hA,kZ b hb fb (h.states.1 hA)⟩
 | some l =>
  cases hB:wk b with
  | none=>rw [h.states.2 hB] at hA;cases hA
  | some l2 =>
   obtain ⟨d,hd⟩:=zjZ (zdd va) (yM a).start
   exact .inl ⟨d,vV a ha fa hA hd,vV b hb fb hB (h.least h.start hd)⟩
def uI:Cmd :=
 (qS [qx 1 256070 6 0,qb 2 false]
 (qS [qL 12 6 1,qk 13 11 [12],qm 11 13,qq 14 (.extract (.t 11) 0),qq 15 (.extract (.t 11) 1),qq 3 (.alloc 256198 (.agg [.int .i64 0,.sl .nil [],.sl .nil [],.sl .nil [],.sl .nil [],.sl .nil []])),qq 4 (.alloc 256258 (.agg [.int .i64 0,.int .i64 0])),qs 6 3 14,qs 2 4 15]
 (qS [qL 17 6 1,qk 18 12 [17],qm 16 18,qq 19 (.extract (.t 16) 0),qq 20 (.extract (.t 16) 1),qq 5 (.alloc 256326 (.agg [.int .i64 0,.sl .nil [],.sl .nil [],.sl .nil [],.sl .nil [],.sl .nil []])),qq 6 (.alloc 256386 (.agg [.int .i64 0,.int .i64 0])),qs 6 5 19,qs 2 6 20]
 (qT (qS [qk 21 6 [],qq 22 (.not (.t 21)),qm 23 22,qg 24 23 false (.faddr 0 (.t 4)),qg 25 23 false (.load false 1 (.t 24)),qg 26 23 false (.bin .neq false [.i] (.t 25) (.c (.int .i64 0))),qq 27 (.pick (.t 23) (.c (.bool true)) (.t 26)),qm 28 27,qg 29 28 false (.faddr 0 (.t 6)),qg 30 28 false (.load false 1 (.t 29)),qg 31 28 false (.bin .neq false [.i] (.t 30) (.c (.int .i64 0))),qq 32 (.pick (.t 28) (.c (.bool true)) (.t 31))]
 (.cond (.t 32) (.seq (.ops [qk 33 6 [],qm 34 33,qg 35 34 true (.faddr 0 (.t 4)),qg 36 34 true (.load false 1 (.t 35)),qg 37 34 true (.bin .neq false [.i] (.t 36) (.c (.int .i64 0))),qg 38 34 true (.mov (.t 37)),qg 39 38 false (.faddr 0 (.t 6)),qg 40 38 false (.load false 1 (.t 39)),qg 41 38 false (.bin .eql false [.i] (.t 40) (.c (.int .i64 0))),qg 42 34 true (.pick (.t 38) (.c (.bool true)) (.t 41)),qq 43 (.pick (.t 34) (.t 42) (.c (.bool false))),qm 2 43]) .ret) .skip))
 (qS [qf 45 0 3,qL 46 4 45,qk 47 8 [46],qm 44 47,qq 48 (.extract (.t 44) 0),qq 49 (.extract (.t 44) 1),qq 8 (.alloc 256514 (.agg [.int .i64 0,.int .i64 0])),qm 7 48,qs 2 8 49]
 (qS [qf 51 0 5,qL 52 4 51,qk 53 8 [52],qm 50 53,qq 54 (.extract (.t 50) 0),qq 55 (.extract (.t 50) 1),qq 10 (.alloc 256642 (.agg [.int .i64 0,.int .i64 0])),qm 9 54,qs 2 10 55]
 (.seq (.ops [qL 56 2 8,qL 57 2 10,qq 58 (.bin .eql true [.i,.i] (.t 56) (.t 57)),qm 59 58,qg 60 59 true (.mov (.t 7)),qg 61 59 true (.mov (.t 9)),qg 62 59 true (.bin .eql false [.i] (.t 60) (.t 61)),qq 63 (.pick (.t 59) (.t 62) (.c (.bool false))),qm 2 63]) .ret)))))))
def uJ:List RVar:=[.tmp 2]
def uK:Nat:=64
theorem x2:zj PG 4 uK uJ uI=true:=by kernel_rfl
theorem ztu (d:Dom)(ho:DoOk d):Fc PG 4 [yW d] (.bool true):=by
 have hK:=zqK
 have hF:=zwL d ho
 have hR:=zvS d ho
 by_cases hf:(fuF d).code=0
 · obtain ⟨hre,_,_⟩:=zxK hf
   obtain ⟨haf,hsv,_⟩:=zjg hf
   obtain ⟨_,hrv,_⟩:=zpu hre
   have hd:=ui (u4 haf).1
   have hsk:=(zwM d).sk
   have hrk:=(zwN d).sk
   have hb:Bis (yM (fuG d).task) (yM (reG d).task) (gR d):=by
    rw [zr5 hf] at hsv ⊢
    rw [zr6 hre] at hrv ⊢
    exact zsy (zcu hd) hsv hrv
   have hO:=zqL hsk hrk hsv hrv hb
   clear hsv hrv hsk hrk hb
   generalize fuG d=a at *
   generalize reG d=b at *
   generalize fuF d=f at *
   generalize reF d=g at *
   rcases hO with ⟨c,h1,h2⟩|⟨h1,h2⟩
   all_goals
    refine Fn.step zf x2 ?_
    repeat' (first|refine i_s rfl ?_|refine sw ?_|refine yi rfl ?_|refine yw rfl ?_|refine c_t rfl ?_|refine zl rfl ?_|refine zi rfl ?_|refine zr rfl rfl ?_|(refine sp ?_ ?_<;>try intro h)|refine sf rfl rfl hK ?_|refine sf rfl rfl hF ?_|refine sf rfl rfl hR ?_|refine sf rfl rfl h1 ?_|refine sf rfl rfl h2 ?_|fail)
    all_goals first
     | (exfalso;clear hK hF hR h1 h2 ho;simp at *;done)
     | (exfalso;clear hK hF hR h1 h2 ho;simp at *;omega)
     | exact zb ⟨rfl,_,rfl,rfl⟩
     | exact zb ⟨rfl,_,rfl,congrArg V.bool (by simp)⟩
 · generalize fuG d=a at *
   generalize reG d=b at *
   generalize fuF d=f at *
   generalize reF d=g at *
   refine Fn.step zf x2 ?_
   repeat' (first|refine i_s rfl ?_|refine sw ?_|refine yi rfl ?_|refine yw rfl ?_|refine c_t rfl ?_|refine zl rfl ?_|refine zi rfl ?_|refine zr rfl rfl ?_|(refine sp ?_ ?_<;>try intro h)|refine sf rfl rfl hK ?_|refine sf rfl rfl hF ?_|refine sf rfl rfl hR ?_|fail)
   all_goals first
    | (exfalso;clear hK hF hR ho;simp at *;done)
    | (exfalso;clear hK hF hR ho;simp at *;omega)
    | exact zb ⟨rfl,_,rfl,rfl⟩
end Hm
end
