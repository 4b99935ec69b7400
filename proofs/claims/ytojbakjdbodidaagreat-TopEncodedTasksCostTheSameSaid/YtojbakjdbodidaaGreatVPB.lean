/- Part VPB of the proof. -/
import Derived.Test.YtojbakjdbodidaaGreatVPA
import Derived.ProofKit
import Derived.SizedLaws
import Derived.Carry
import Derived.Deep.Slices
import Derived.OpenShut
set_option linter.unusedVariables false
set_option linter.unusedSimpArgs false
section
namespace Hm
open Go
abbrev QC := Nat × Nat × W32 × Int
def QC.item (c : QC) : W32 := c.2.2.1
def kvOf (cs : List QC) : List (W32 × Int) := cs.map fun c => (c.2.2.1, c.2.2.2)
structure FMc (F : Int → Option V) (cs : List QC) : Prop where
 here : ∀ c ∈ cs, F (c.2.2.1.toNat : Int) = some (.raw c.2.1 0)
 gone : ∀ x : W32, (∀ c ∈ cs, c.2.2.1 ≠ x) → F (x.toNat : Int) = none
 nd : (cs.map QC.item).Nodup
theorem FMc.perm {F : Int → Option V} {cs cs' : List QC} (h : FMc F cs) (p : cs.Perm cs') : FMc F cs' :=
 ⟨fun c hc => h.here c (p.mem_iff.2 hc), fun x hx => h.gone x fun c hc => hx c (p.mem_iff.1 hc), (p.map QC.item).nodup_iff.1 h.nd⟩
theorem FMc.nil : FMc (fun _ => none) [] := ⟨fun c hc => (by cases hc), fun _ _ => rfl, List.nodup_nil⟩
theorem toNat_eq {x y : W32} (h : (x.toNat : Int) = y.toNat) : x = y := BitVec.eq_of_toNat_eq (Int.ofNat_inj.1 h)
theorem FMc.put {F : Int → Option V} {cs : List QC} (h : FMc F cs) (nm b : Nat) (x : W32) (k : Int) (hx : ∀ c ∈ cs, c.2.2.1 ≠ x) : FMc (fun m => if m = x.toNat then some (.raw b 0) else F m) ((nm, b, x, k) :: cs) := by
 refine ⟨fun c hc => ?_, fun y hy => ?_, List.nodup_cons.2 ⟨fun hm => ?_, h.nd⟩⟩
 · rcases List.mem_cons.1 hc with rfl | hc
   · exact if_pos rfl
   · exact (if_neg fun e => hx c hc (toNat_eq e)).trans (h.here c hc)
 · exact (if_neg fun e => hy (nm, b, x, k) (by simp) (toNat_eq e).symm).trans (h.gone y fun c hc => hy c (by simp [hc]))
 · obtain ⟨c, h1, h2⟩ := List.mem_map.1 hm
   exact hx c h1 h2
theorem FMc.del {F : Int → Option V} {cs : List QC} {c : QC} (h : FMc F (c :: cs)) : FMc (fun m => if m = c.2.2.1.toNat then none else F m) cs := by
 have hn := List.nodup_cons.1 h.nd
 have hne : ∀ d ∈ cs, d.2.2.1 ≠ c.2.2.1 := fun d hd e => hn.1 (List.mem_map.2 ⟨d, hd, e⟩)
 refine ⟨fun d hd => (if_neg fun e => hne d hd (toNat_eq e)).trans (h.here d (by simp [hd])), fun x hx => ?_, hn.2⟩
 by_cases e : x = c.2.2.1
 · exact if_pos (by rw [e])
 · exact (if_neg fun e2 => e (toNat_eq e2)).trans (h.gone x fun d hd => by
    rcases List.mem_cons.1 hd with rfl | hd
    · exact fun e2 => e e2.symm
    · exact hx d hd)
theorem FMc.rekey {F : Int → Option V} {cs : List QC} {nm b : Nat} {x : W32} {k k' : Int} (h : FMc F ((nm, b, x, k) :: cs)) : FMc F ((nm, b, x, k') :: cs) :=
 ⟨fun c hc => by
  rcases List.mem_cons.1 hc with rfl | hc
  · exact h.here (nm, b, x, k) (by simp)
  · exact h.here c (by simp [hc]), fun y hy => h.gone y fun c hc => by
  rcases List.mem_cons.1 hc with rfl | hc
  · exact hy (nm, b, x, k') (by simp)
  · exact hy c (by simp [hc]), h.nd⟩
theorem kv_not {cs : List QC} {x : W32} (h : ∀ c ∈ cs, c.2.2.1 ≠ x) : (kvOf cs).filter (fun p => p.1 != x) = kvOf cs := by
 rw [List.filter_eq_self]
 intro p hp
 obtain ⟨c, h1, rfl⟩ := List.mem_map.1 hp
 simpa using h c h1
theorem kv_filter {cs : List QC} {c : QC} (h : ((c :: cs).map QC.item).Nodup) : (kvOf (c :: cs)).filter (fun p => p.1 != c.2.2.1) = kvOf cs := by
 have hn := List.nodup_cons.1 h
 unfold kvOf
 rw [List.map_cons, List.filter_cons]
 rw [if_neg (by simp)]
 exact kv_not (cs := cs) fun d hd e => hn.1 (List.mem_map.2 ⟨d, hd, e⟩)
section
variable {ns : List Nat} {σ σ' : Store} {q : HS}
theorem HOk.frame (ho : HOk ns σ q) (hs : ∀ n, n = q.nQ ∨ n = q.nH ∨ n ∈ q.es.map QE.nm → σ' n = σ n) (hc : Cl ns σ') (hout : ∀ nm, σ' nm ≠ .unused → nm ∈ ns) : HOk ns σ' q :=
 ⟨(hs _ (.inl rfl)).trans ho.hQ, (hs _ (.inr (.inl rfl))).trans ho.hH, ho.hbl, ho.hle, ho.hsz, ho.ht, fun e he => (hs _ (.inr (.inr (List.mem_map.2 ⟨e, he, rfl⟩)))).trans (ho.hE e he), ho.hat, ho.nd, ho.sub, ho.pur, hc, hout⟩
theorem HZ.frame (hz : HZ ns σ q) (hs : σ' q.nQ = σ q.nQ) (hs2 : σ' q.nH = σ q.nH) (hc : Cl ns σ') (hout : ∀ nm, σ' nm ≠ .unused → nm ∈ ns) : HZ ns σ' q :=
 ⟨hs.trans hz.hQ, hz.es, hz.HH, hs2.trans hz.Hu, hz.QF, hz.inQ, hz.inF, hc, hout⟩
theorem HAny.frame (ha : HAny ns σ q) (hs : ∀ n, n = q.nQ ∨ n = q.nH ∨ n ∈ q.es.map QE.nm → σ' n = σ n) (hc : Cl ns σ') (hout : ∀ nm, σ' nm ≠ .unused → nm ∈ ns) : HAny ns σ' q :=
 ha.imp (fun h => h.frame hs hc hout) (fun h => h.frame (hs _ (.inl rfl)) (hs _ (.inr (.inl rfl))) hc hout)
theorem HAny.box (ha : HAny ns σ q) : ∃ hv : V, σ q.nQ = .box (.tag q.bq [hv, .mp q.nF, .int .i64 q.time]) ∧ pureB hv = true ∧ leafB hv = true ∧ fz hv = some hv := by
 rcases ha with h | h
 · exact ⟨_, h.hQ, rfl, rfl, rfl⟩
 · exact ⟨_, h.hQ, rfl, rfl, rfl⟩
theorem HAny.QF (ha : HAny ns σ q) : q.nQ ≠ q.nF := ha.elim HOk.QF HZ.QF
theorem HAny.inQ (ha : HAny ns σ q) : q.nQ ∈ ns := ha.elim HOk.inQ HZ.inQ
theorem HAny.inF (ha : HAny ns σ q) : q.nF ∈ ns := ha.elim HOk.inF HZ.inF
theorem HAny.clock (ha : HAny ns σ q) (t : Int) {hv : V} (hq : σ q.nQ = .box (.tag q.bq [hv, .mp q.nF, .int .i64 q.time])) : HAny ns (ups σ q.nQ (.box (.tag q.bq [hv, .mp q.nF, .int .i64 t]))) { q with time := t } := by
 rcases ha with h | h
 · rw [h.hQ] at hq
   injection hq with hq
   injection hq with _ hq
   injection hq with hq
   subst hq
   refine .inl ⟨upt_self _ _ _, (upt_ne _ _ fun e => h.QH e.symm).trans h.hH, h.hbl, h.hle, h.hsz, h.ht, fun e he => (upt_ne _ _ fun k => h.EQ he k.symm).trans (h.hE e he), h.hat, h.nd, h.sub, h.pur, h.cl.ups fun row hr => ?_, ups_mem h.out h.inQ⟩
   cases hr
   exact qbox_closed h.inF
 · rw [h.hQ] at hq
   injection hq with hq
   injection hq with _ hq
   injection hq with hq
   subst hq
   refine .inr ⟨upt_self _ _ _, h.es, h.HH, (upt_ne _ _ h.HH.1).trans h.Hu, h.QF, h.inQ, h.inF, h.cl.ups fun row hr => ?_, ups_mem h.out h.inQ⟩
   cases hr
   show (true && (closedB ns (.mp q.nF) && (true && true))) = true
   rw [mem_closed h.inF]
   rfl
theorem HOk.rekey (ho : HOk ns σ q) {i : Nat} {e : QE} (hi : q.es[i]? = some e) (k t : Int) (hσ : ∀ n, σ' n = if n = e.nm then .box (.tag e.b [.int .u32 e.item.toNat, .int .i64 k, .int .i64 t, .int .i64 e.at_]) else σ n) :
  HOk ns σ' { q with es := q.es.set i ⟨e.nm, e.b, e.item, k, t, e.at_⟩ } ∧ σ' q.nF = σ q.nF ∧ ∃ r : List QC, (q.es.map QE.core).Perm ((e.nm, e.b, e.item, e.key) :: r) ∧ ((q.es.set i ⟨e.nm, e.b, e.item, k, t, e.at_⟩).map QE.core).Perm ((e.nm, e.b, e.item, k) :: r) := by
 obtain ⟨e', he'⟩ : ∃ e', e' = (⟨e.nm, e.b, e.item, k, t, e.at_⟩ : QE) := ⟨_, rfl⟩
 rw [← he']
 have hnm : e'.nm = e.nm := by rw [he']
 have me := mem_get hi
 have li := get_lt hi
 have hg : ∀ j : Nat, (q.es.set i e')[j]? = if j = i then some e' else q.es[j]? := fun j => by
  rw [List.getElem?_set]
  by_cases c : j = i
  · subst c; simp [li]
  · rw [if_neg (fun e => c e.symm), if_neg c]
 have hmap : (q.es.set i e').map QE.nm = q.es.map QE.nm := by
  rw [List.map_set, hnm]
  refine List.ext_getElem? fun j => ?_
  rw [List.getElem?_set]
  by_cases c : i = j
  · subst c
    rw [if_pos rfl, if_pos (by simpa using li), List.getElem?_map, hi]
    rfl
  · rw [if_neg c]
 have hnames : HS.names { q with es := q.es.set i e' } = q.names := by
  unfold HS.names
  show q.nQ :: q.nH :: q.nF :: (q.es.set i e').map QE.nm = _
  rw [hmap]
 have hsplit : q.es = q.es.take i ++ e :: q.es.drop (i + 1) := by
  have h1 : q.es.drop i = e :: q.es.drop (i + 1) := by
   rw [List.drop_eq_getElem_cons li]
   congr 1
   exact (List.getElem?_eq_some_iff.1 hi).2
  rw [← h1]
  exact (List.take_append_drop i q.es).symm
 refine ⟨⟨?_, ?_, ho.hbl, ?_, ?_, fun j x hx => ?_, fun x hx => ?_, fun j x hx => ?_, by rw [hnames]; exact ho.nd, fun n hn => ho.sub n (hnames ▸ hn), ho.pur, ?_, fun n hn => ?_⟩, ?_, ?_⟩
 · show σ' q.nQ = .box (.tag q.bq [.rsl q.bh (q.es.set i e').length q.cap, .mp q.nF, .int .i64 q.time])
   rw [List.length_set, hσ, if_neg (ho.EQ me)]
   exact ho.hQ
 · show σ' q.nH = _
   rw [hσ, if_neg (ho.EH me)]
   exact ho.hH
 · show (q.es.set i e').length ≤ _
   rw [List.length_set]; exact ho.hle
 · show (q.es.set i e').length ≤ _
   rw [List.length_set]; exact ho.hsz
 · have hx : (q.es.set i e')[j]? = some x := hx
   rw [hg] at hx
   by_cases c : j = i
   · rw [if_pos c] at hx
     cases hx
     rw [c]
     have := ho.ht i e hi
     rw [this, he']
     rfl
   · rw [if_neg c] at hx
     exact ho.ht j x hx
 · have hx : x ∈ q.es.set i e' := hx
   obtain ⟨j, hj⟩ := List.getElem?_of_mem hx
   rw [hg] at hj
   by_cases c : j = i
   · rw [if_pos c] at hj
     cases hj
     rw [hσ, hnm, if_pos rfl, he']
     rfl
   · rw [if_neg c] at hj
     rw [hσ, if_neg (ho.neE hj hi c)]
     exact ho.hE x (mem_get hj)
 · have hx : (q.es.set i e')[j]? = some x := hx
   rw [hg] at hx
   by_cases c : j = i
   · rw [if_pos c] at hx
     cases hx
     rw [c, he']
     exact ho.hat i e hi
   · rw [if_neg c] at hx
     exact ho.hat j x hx
 · refine (closedSt_iff _ _ _).2 fun n hn row hr => ?_
   rw [hσ] at hr
   split at hr
   · cases hr; rfl
   · exact ho.cl.at hn hr
 · rw [hσ] at hn
   split at hn
   · rename_i c; rw [c]; exact ho.inE me
   · exact ho.out n hn
 · rw [hσ, if_neg (ho.EF me)]
 · refine ⟨(q.es.take i ++ q.es.drop (i + 1)).map QE.core, ?_, ?_⟩
   · have h1 : (q.es.take i ++ e :: q.es.drop (i + 1)).Perm (e :: (q.es.take i ++ q.es.drop (i + 1))) := List.perm_middle
     rw [← hsplit] at h1
     exact h1.map QE.core
   · have h1 : (q.es.take i ++ e' :: q.es.drop (i + 1)).Perm (e' :: (q.es.take i ++ q.es.drop (i + 1))) := List.perm_middle
     have h2 : q.es.set i e' = q.es.take i ++ e' :: q.es.drop (i + 1) := List.set_eq_take_append_cons_drop.trans (if_pos li)
     rw [h2]
     have h3 := h1.map QE.core
     rw [List.map_cons] at h3
     rw [he'] at h3 ⊢
     exact h3
end
structure QOk (ns : List Nat) (σ : Store) (q : HS) : Prop where
 any : HAny ns σ q
 fm : ∃ F, MP (σ q.nF) F ∧ FMc F (q.es.map QE.core)
def HS.kv (q : HS) : List (W32 × Int) := kvOf (q.es.map QE.core)
end Hm
end
section
namespace Hm
open Go
set_option maxRecDepth 100000
set_option maxHeartbeats 4000000
def c_openlist_New_uint32 : Cmd :=
 (qS [qq 0 (.mov (.c (.nilptr)))]
 (.seq (.ops [qq 1 (.mkMap 4288064 .u32), qq 2 (.build [.sl .nil [], .nilmp, .int .i64 0] [(1 , 1 , .t 1)]), qx 3 4288195 3 2, qm 0 3]) .ret))
def r_openlist_New_uint32 : List RVar := [.tmp 0]
def n_openlist_New_uint32 : Nat := 4
theorem k_openlist_New_uint32 : chkFn PG 67 n_openlist_New_uint32 r_openlist_New_uint32 c_openlist_New_uint32 = true := by kernel_rfl
theorem ct_New {G : Type} {H : HT G} {g : G} {ns : List Nat} {σ : Store} (h1 : 4288064 ∈ ns) (h2 : 4288195 ∈ ns) (hu : ∀ nm, σ nm = .unused) :
  Cc PG H 67 [] ns σ g fun v σ' g' => v = .bptr 4288195 0 ∧ σ' = ups (ups σ 4288064 (.mp .u32 [] [])) 4288195 (.box (.agg [.sl .nil [], .mp 4288064, .int .i64 0])) ∧ g' = g := by
 have hout : ∀ nm, σ nm ≠ .unused → nm ∈ ns := fun nm h => absurd (hu nm) h
 have hcl : Cl ns σ := (closedSt_iff _ _ _).2 fun n hn row hr => by rw [hu n] at hr; cases hr
 have hcl2 : Cl ns (ups (ups σ 4288064 (.mp .u32 [] [])) 4288195 (.box (.agg [.sl .nil [], .mp 4288064, .int .i64 0]))) := by
  refine (hcl.ups fun row hr => by cases hr).ups fun row hr => ?_
  cases hr
  show (true && (closedB ns (.mp 4288064) && (true && true))) = true
  rw [mem_closed h1]
  rfl
 refine CT.step _ mixed k_openlist_New_uint32 hout fun hM => ?_
 repeat (first | refine i_s rfl ?_ | refine sw ?_)
 refine i_mkm (hu _) ?_
 repeat refine i_s rfl ?_
 refine i_box ((upt_ne _ _ (by decide)).trans (hu _)) rfl ?_
 repeat (first | refine i_s rfl ?_ | refine sw ?_)
 exact e_ret ⟨rfl, _, rfl, (memB_iff _ _).2 h2, hcl2, rfl, restr_all (ups_mem (ups_mem hout h1) h2), rfl⟩
def c_openlist_Queue_uint32_Len : Cmd :=
 (qS [qc 2 0]
 (.seq (.ops [qm 3 0, qq 4 (.nilck (.t 3)), qf 5 0 4, ql 6 1 5, qn 7 6, qm 2 7]) .ret))
def r_openlist_Queue_uint32_Len : List RVar := [.tmp 2]
def n_openlist_Queue_uint32_Len : Nat := 8
theorem k_openlist_Queue_uint32_Len : chkFn PG 71 n_openlist_Queue_uint32_Len r_openlist_Queue_uint32_Len c_openlist_Queue_uint32_Len = true := by kernel_rfl
theorem ct_QLen {G : Type} {H : HT G} {g : G} {ns : List Nat} {σ : Store} {q : HS} (ha : HAny ns σ q) :
  Cc PG H 71 [.raw q.bq 0] ns σ g fun v σ' g' => v = .int .i64 q.es.length ∧ σ' = σ ∧ g' = g := by
 refine CT.step _ mixed k_openlist_Queue_uint32_Len ha.base.out fun hM => ?_
 rcases ha with ho | hz
 · repeat' (first | refine i_s rfl ?_ | refine sw ?_ | refine i_ldr q.nQ rfl ho.hQ rfl ?_)
   exact e_ret ⟨rfl, _, rfl, rfl, ho.cl, rfl, restr_all ho.out, rfl⟩
 · have h0 : q.es.length = 0 := by rw [hz.es]; rfl
   repeat' (first | refine i_s rfl ?_ | refine sw ?_ | refine i_ldr q.nQ rfl hz.hQ rfl ?_)
   exact e_ret ⟨rfl, _, rfl, rfl, hz.cl, by rw [h0]; rfl, restr_all hz.out, rfl⟩
structure QNext (ns : List Nat) (q : HS) (σ' : Store) (q' : HS) : Prop where
 ok : QOk ns σ' q'
 nQ : q'.nQ = q.nQ
 bq : q'.bq = q.bq
 nF : q'.nF = q.nF
theorem MP.is {σ : Store} {n : Nat} {F : Int → Option V} {b : Blk} (h : MP (σ n) F) (hb : σ n = b) : MP b F := hb ▸ h
theorem MP.is' {σ : Store} {n : Nat} {F : Int → Option V} {b : Blk} (h : MP b F) (hb : b = σ n) : MP (σ n) F := hb ▸ h
theorem mp_ne {σ : Store} {n f : Nat} {F : Int → Option V} (h : MP (σ n) F) (hf : σ f = .unused) : f ≠ n := fun e => by
 obtain ⟨ks, vs, e2, _⟩ := h
 rw [← e, hf] at e2
 cases e2
def c_openlist_Queue_uint32_Set : Cmd :=
 (qS [qm 9 0, qq 10 (.nilck (.t 9)), qf 11 2 10, ql 12 1 11, qv 13 .add [] 12 1, qq 14 (.nilck (.t 9)), qf 15 2 14, qs 1 15 13]
 (qT (qS [qm 17 0, qq 18 (.nilck (.t 17)), qf 19 1 18, ql 20 1 19, qm 21 1, qq 22 (.mget true (.nilptr) (.t 20) (.t 21)), qm 16 22, qq 23 (.extract (.t 16) 0), qq 24 (.extract (.t 16) 1), qm 6 23, qm 7 24]
 (qS [qm 25 7]
 (.cond (.t 25) (qS [qm 26 6, qm 27 6, qm 28 2, qm 29 0, qq 30 (.nilck (.t 29)), qf 31 2 30, ql 32 1 31, qq 33 (.nilck (.t 26)), qf 34 1 33, qs 1 34 28, qq 35 (.nilck (.t 27)), qf 36 2 35, qs 1 36 32]
 (.seq (.ops [qm 37 0, qq 38 (.nilck (.t 37)), qf 39 0 38, qq 40 (.mkifc 227 (.t 39)), qm 41 6, qq 42 (.nilck (.t 41)), qf 43 3 42, ql 44 1 43, qq 45 (.call .d (.c (.fn 114 [])) [.t 40, .t 44])]) .ret)) .skip)))
 (qS [qm 46 1, qm 47 2, qm 48 0, qq 49 (.nilck (.t 48)), qf 50 2 49, ql 51 1 50, qq 52 (.build [.int .u32 0, .int .i64 0, .int .i64 0, .int .i64 0] [(0 , 1 , .t 46), (1 , 1 , .t 47), (2 , 1 , .t 51)]), qq 53 (.boxR 225 4 (.t 52)), qm 8 53]
 (qS [qm 54 0, qq 55 (.nilck (.t 54)), qf 56 1 55, ql 57 1 56, qm 58 1, qm 59 8, .op none none (.mput (.t 57) (.t 58) (.t 59))]
 (.ops [qm 60 0, qq 61 (.nilck (.t 60)), qf 62 0 61, qq 63 (.mkifc 227 (.t 62)), qm 64 8, qq 65 (.mkifc 222 (.t 64)), qq 66 (.call .d (.c (.fn 115 [])) [.t 63, .t 65])])))))
def r_openlist_Queue_uint32_Set : List RVar := []
def n_openlist_Queue_uint32_Set : Nat := 67
theorem k_openlist_Queue_uint32_Set : chkFn PG 69 n_openlist_Queue_uint32_Set r_openlist_Queue_uint32_Set c_openlist_Queue_uint32_Set = true := by kernel_rfl
theorem ct_Set {G : Type} {H : HT G} {g : G} {ns : List Nat} {σ : Store} {q : HS} (hq : QOk ns σ q) (hlen : q.es.length < 1000000) (x : W32) (k : Int) {f1 f2 : Nat} (h1 : f1 ∈ ns) (h2 : f2 ∈ ns) (u1 : σ f1 = .unused) (u2 : σ f2 = .unused) (ne : f1 ≠ f2) (l1 : f1 < 1000000000000) (l2 : f2 < 1000000000000) (hnew1 : f1 ∉ q.names) :
  Cc PG H 69 [.raw q.bq 0, u32V x, .int .i64 k] ns σ g fun v σ' g' => (∃ q', QNext ns q σ' q' ∧ q'.kv.Perm ((x, k) :: q.kv.filter fun p => p.1 != x)) ∧ g' = g := by
 obtain ⟨ha, F, hF, hc⟩ := hq
 obtain ⟨hv, hb, hvp, hvl, hvf⟩ := ha.box
 have hb0 := ha.base
 have hc1 := ha.clock (IntKind.i64.wrap (q.time + 1)) hb
 have hF1 : MP (ups σ q.nQ (.box (.tag q.bq [hv, .mp q.nF, .int .i64 (IntKind.i64.wrap (q.time + 1))])) q.nF) F := hF.is (b := _) rfl |>.is (upt_ne _ _ fun e => ha.QF e.symm).symm
 refine CT.step _ mixed k_openlist_Queue_uint32_Set hb0.out fun hM => ?_
 have hl2 : fzA (ldrow false 1 (0 + 2) (.agg [hv, .mp q.nF, .int .i64 q.time])) = some (.int .i64 q.time) := rfl
 have hs2 : fzA (strow 1 (0 + 2) (.agg [hv, .mp q.nF, .int .i64 q.time]) (.int .i64 (IntKind.i64.wrap (q.time + 1)))) = some (.agg [hv, .mp q.nF, .int .i64 (IntKind.i64.wrap (q.time + 1))]) := fzA_agg _
 repeat (first | refine i_s rfl ?_ | refine sw ?_)
 refine i_ldr q.nQ rfl hb hl2 ?_
 refine i_addw rfl rfl rfl rfl ?_
 repeat refine i_s rfl ?_
 refine i_str q.nQ rfl hb hs2 ?_
 repeat (first | refine i_s rfl ?_ | refine sw ?_)
 refine i_ldr q.nQ rfl (upt_self _ _ _) rfl ?_
 generalize IntKind.i64.wrap (q.time + 1) = t at *
 repeat refine i_s rfl ?_
 by_cases hx : ∃ c ∈ q.es.map QE.core, c.2.2.1 = x
 · obtain ⟨c, hcm, rfl⟩ := hx
   obtain ⟨e, he, rfl⟩ := List.mem_map.1 hcm
   have hFx := hc.here _ hcm
   have ho1 : HOk ns (ups σ q.nQ (.box (.tag q.bq [hv, .mp q.nF, .int .i64 t]))) { q with time := t } := by
    rcases hc1 with h | h
    · exact h
    · have := h.es
      change q.es = [] at this
      rw [this] at he
      cases he
   obtain ⟨i, hi⟩ := List.getElem?_of_mem he
   have hE1 := ho1.hE e he
   have hat := ho1.hat i e hi
   refine i_mgF rfl hF1 rfl rfl (v := .tup [.raw e.b 0, .bool true]) (by rw [show ((e.core.2.2.1.toNat : Nat) : Int) = (e.core.2.2.1.toNat : Int) from rfl, hFx]; rfl) ?_
   obtain ⟨p1, p2, r, p3, p4⟩ := ho1.rekey hi k t (σ' := ups (ups (ups σ q.nQ (.box (.tag q.bq [hv, .mp q.nF, .int .i64 t]))) e.nm (.box (.tag e.b [.int .u32 e.item.toNat, .int .i64 k, .int .i64 e.time, .int .i64 e.at_]))) e.nm (.box (.tag e.b [.int .u32 e.item.toNat, .int .i64 k, .int .i64 t, .int .i64 e.at_]))) (fun n => by
    simp only [upt_if]
    by_cases c : n = e.nm
    · rw [if_pos c, if_pos c]
    · rw [if_neg c, if_neg c, if_neg c])
   repeat' (first | refine i_s rfl ?_ | refine sw ?_ | refine c_t rfl ?_ | refine i_ldr q.nQ rfl (upt_self _ _ _) rfl ?_)
   refine i_str e.nm rfl hE1 rfl ?_
   repeat refine i_s rfl ?_
   refine i_str e.nm rfl (upt_self _ _ _) rfl ?_
   repeat' (first | refine i_s rfl ?_ | refine sw ?_ | refine i_ifc rfl ?_ | refine i_ldr e.nm rfl (upt_self _ _ _) rfl ?_)
   rw [hat] at p1 p2 p4 ⊢
   refine i_cdn ns rfl rfl p1.cl p1.out (ct_Fix p1 i (by show i < (q.es.set i _).length; rw [List.length_set]; exact get_lt hi)) (fun v σ' g' h => by obtain ⟨⟨_, h, _⟩, _⟩ := h; exact h.out) ?_
   rintro v σ3 g' ⟨⟨q3, ho3, hs3⟩, rfl⟩
   have hcore := hs3.core.trans p4
   have hF3 : σ3 q.nF = σ q.nF := hs3.fm.trans (p2.trans (upt_ne _ _ fun e => ha.QF e.symm))
   repeat refine sw ?_
   refine e_ret ⟨rfl, _, rfl, rfl, ho3.cl, ⟨q3, ⟨⟨.inl ho3.re, F, ?_, (hc.perm p3).rekey.perm hcore.symm⟩, hs3.nQ, hs3.bq, hs3.nF⟩, ?_⟩, rfl⟩
   · rw [hs3.nF]
     exact hF.is (hF3.symm.trans (restr_at ha.inF).symm)
   · have k1 : q3.kv.Perm (kvOf ((e.nm, e.b, e.item, k) :: r)) := hcore.map _
     have k2 : (q.kv.filter fun p => p.1 != e.item).Perm ((kvOf ((e.nm, e.b, e.item, e.key) :: r)).filter fun p => p.1 != e.item) := (p3.map _).filter _
     rw [kv_filter (c := (e.nm, e.b, e.item, e.key)) ((p3.map QC.item).nodup_iff.1 hc.nd)] at k2
     exact k1.trans (k2.symm.cons _)
 · have hn : ∀ c ∈ q.es.map QE.core, c.2.2.1 ≠ x := fun c hc e => hx ⟨c, hc, e⟩
   have hFx := hc.gone x hn
   refine i_mgF rfl hF1 rfl rfl (v := .tup [.nilptr, .bool false]) (by rw [hFx]; rfl) ?_
   have nQ1 : f1 ≠ q.nQ := fun e => by rw [e, hb] at u1; cases u1
   have nQ2 : f2 ≠ q.nQ := fun e => by rw [e, hb] at u2; cases u2
   have nF1 : f1 ≠ q.nF := mp_ne hF u1
   have nF2 : f2 ≠ q.nF := mp_ne hF u2
   repeat' (first | refine i_s rfl ?_ | refine sw ?_ | refine c_f rfl ?_ | refine i_ldr q.nQ rfl (upt_self _ _ _) rfl ?_)
   refine i_boxR f1 rfl rfl rfl ((upt_ne _ _ nQ1).trans u1) (ty_low l1) fun b => ?_
   repeat (first | refine i_s rfl ?_ | refine sw ?_)
   refine i_ldr q.nQ rfl ((upt_ne _ _ (fun e => nQ1 e.symm)).trans (upt_self _ _ _)) rfl ?_
   repeat refine i_s rfl ?_
   have hF2 : MP (ups (ups σ q.nQ (.box (.tag q.bq [hv, .mp q.nF, .int .i64 t]))) f1 (.box (.tag b [.int .u32 x.toNat, .int .i64 k, .int .i64 t, .int .i64 0])) q.nF) F := hF1.is (upt_ne _ _ fun e => nF1 e.symm).symm
   refine i_mputF rfl rfl hF2 rfl rfl rfl fun bF hbF => ?_
   obtain ⟨e, he⟩ : ∃ e : QE, e = ⟨f1, b, x, k, t, 0⟩ := ⟨_, rfl⟩
   have hcl3 : Cl ns (ups (ups (ups σ q.nQ (.box (.tag q.bq [hv, .mp q.nF, .int .i64 t]))) f1 (.box (.tag b [.int .u32 x.toNat, .int .i64 k, .int .i64 t, .int .i64 0]))) q.nF bF) :=
    (hc1.base.cl.ups fun row hr => by cases hr; rfl).ups fun row hr => (hbF.box row hr).elim
   have hout3 := ups_mem (b := bF) (ups_mem (b := .box (.tag b [.int .u32 x.toNat, .int .i64 k, .int .i64 t, .int .i64 0])) hc1.base.out h1) ha.inF
   have hnew1' : f1 ≠ q.nQ ∧ f1 ≠ q.nH ∧ f1 ≠ q.nF ∧ f1 ∉ q.es.map QE.nm := by
    simp only [HS.names, List.mem_cons, not_or] at hnew1
    exact hnew1
   have hFd : q.nF ≠ q.nQ ∧ q.nF ≠ q.nH ∧ q.nF ∉ q.es.map QE.nm := by
    rcases ha with h | h
    · exact ⟨fun e => h.QF e.symm, fun e => h.HF e.symm, fun hm => by
       obtain ⟨y, hy, k⟩ := List.mem_map.1 hm
       exact h.EF hy k.symm⟩
    · exact ⟨fun e => h.QF e.symm, fun e => h.HH.2.1 e.symm, by rw [h.es]; simp⟩
   have ha3 : HAny ns (ups (ups (ups σ q.nQ (.box (.tag q.bq [hv, .mp q.nF, .int .i64 t]))) f1 (.box (.tag b [.int .u32 x.toNat, .int .i64 k, .int .i64 t, .int .i64 0]))) q.nF bF) { q with time := t } :=
    hc1.frame (fun n hn => by
     rcases hn with rfl | rfl | hn
     · rw [upt_ne _ _ (fun e => hFd.1 e.symm), upt_ne _ _ (fun e => hnew1'.1 e.symm)]
     · rw [upt_ne _ _ (fun e => hFd.2.1 e.symm), upt_ne _ _ (fun e => hnew1'.2.1 e.symm)]
     · rw [upt_ne _ _ (fun (e : n = q.nF) => hFd.2.2 (e ▸ hn)), upt_ne _ _ (fun (e : n = f1) => hnew1'.2.2.2 (e ▸ hn))]) hcl3 hout3
   repeat' (first | refine i_s rfl ?_ | refine sw ?_ | refine i_ifc rfl ?_)
   refine i_cdn ns rfl rfl hcl3 hout3 (ct_heapPush (q := { q with time := t }) ha3 hlen (e := ⟨f1, b, x, k, t, 0⟩) ((upt_ne _ _ nF1).trans (upt_self _ _ _)) h1 hnew1 (f := f2) h2 nF2 (by rw [upt_ne _ _ nF2, upt_ne _ _ (fun e => ne e.symm), upt_ne _ _ nQ2]; exact u2) l2) (fun v σ' g' h => by obtain ⟨⟨_, h, _⟩, _⟩ := h; exact h.ok.out) ?_
   rintro v σ4 g' ⟨⟨q4, hk4, hp4⟩, rfl⟩
   have hF4 : σ4 q.nF = bF := hk4.fm.trans (upt_self _ _ _)
   repeat refine sw ?_
   refine e_end ⟨rfl, _, rfl, rfl, hk4.ok.cl, ⟨q4, ⟨⟨.inl hk4.ok.re, _, ?_, (hc.put f1 b x k hn).perm hp4.symm⟩, hk4.nQ, hk4.bq, hk4.nF⟩, ?_⟩, rfl⟩
   · rw [hk4.nF]
     exact hbF.is' (hF4.symm.trans (restr_at ha.inF).symm)
   · have k1 : q4.kv.Perm (kvOf ((f1, b, x, k) :: q.es.map QE.core)) := hp4.map _
     rw [show (q.kv.filter fun p => p.1 != x) = q.kv from kv_not hn]
     exact k1
def c_openlist_Queue_uint32_Take : Cmd :=
 (qS [qq 2 (.mov (.c (.int .u32 0))), qc 3 0, qb 4 false]
 (qT (qS [qm 6 0, qq 7 (.nilck (.t 6)), qf 8 0 7, ql 9 1 8, qn 10 9, qv 11 .eql [.i] 10 0]
 (.cond (.t 11) (.seq (.ops [qm 12 2, qm 2 12, qc 3 0, qb 4 false]) .ret) .skip))
 (qS [qm 13 0, qq 14 (.nilck (.t 13)), qf 15 0 14, qq 16 (.mkifc 227 (.t 15)), qq 17 (.call .d (.c (.fn 117 [])) [.t 16]), qq 18 (.tass 222 (.t 17)), qm 5 18]
 (qS [qm 19 0, qq 20 (.nilck (.t 19)), qf 21 1 20, ql 22 1 21, qm 23 5, qq 24 (.nilck (.t 23)), qf 25 0 24, ql 26 1 25, .op none none (.mdel (.t 22) (.t 26))]
 (.seq (.ops [qm 27 5, qq 28 (.nilck (.t 27)), qf 29 0 28, ql 30 1 29, qm 31 5, qq 32 (.nilck (.t 31)), qf 33 1 32, ql 34 1 33, qm 2 30, qm 3 34, qb 4 true]) .ret)))))
def r_openlist_Queue_uint32_Take : List RVar := [.tmp 2, .tmp 3, .tmp 4]
def n_openlist_Queue_uint32_Take : Nat := 35
theorem k_openlist_Queue_uint32_Take : chkFn PG 72 n_openlist_Queue_uint32_Take r_openlist_Queue_uint32_Take c_openlist_Queue_uint32_Take = true := by kernel_rfl
theorem ct_Take {G : Type} {H : HT G} {g : G} {ns : List Nat} {σ : Store} {q : HS} (hq : QOk ns σ q) (hne : q.es ≠ []) :
  Cc PG H 72 [.raw q.bq 0] ns σ g fun v σ' g' => (∃ (q' : HS) (x : W32) (k : Int), QNext ns q σ' q' ∧ q.kv.Perm ((x, k) :: q'.kv) ∧ v = .tup [u32V x, .int .i64 k, .bool true]) ∧ g' = g := by
 obtain ⟨ha, F, hF, hc⟩ := hq
 have ho : HOk ns σ q := by
  rcases ha with h | h
  · exact h
  · exact absurd h.es hne
 have hpos : 0 < q.es.length := List.length_pos_iff.2 hne
 refine CT.step _ mixed k_openlist_Queue_uint32_Take ho.out fun hM => ?_
 have h0 : (((q.es.length : Nat) : Int) == 0) = false := by
  rw [beq_eq_false_iff_ne]
  omega
 repeat' (first | refine i_s rfl ?_ | refine sw ?_ | refine c_cond rfl (fun h => ?_) (fun h => ?_) | refine i_ldr q.nQ rfl ho.hQ rfl ?_)
 · exfalso
   simp_all
 repeat' refine i_ifc rfl ?_
 refine i_cdn ns rfl rfl ho.cl ho.out (ct_heapPop ho hne) (fun v σ' g' h => by obtain ⟨⟨_, _, h, _⟩, _⟩ := h; exact h.ok.out) ?_
 rintro v σ2 g' ⟨⟨q2, e, hk2, hp2, rfl, he2, hnF⟩, rfl⟩
 have hF2 : MP (σ2 q.nF) F := hF.is hk2.fm.symm
 have hc2 := hc.perm hp2
 rw [← hk2.bq]
 have hQ2 := hk2.ok.hQ
 repeat' (first | refine i_s rfl ?_ | refine sw ?_ | refine i_tas rfl ?_ | refine i_ldr q2.nQ rfl hQ2 rfl ?_ | refine i_ldr e.nm rfl he2 rfl ?_)
 rw [hk2.nF]
 refine i_mdelF rfl rfl hF2 rfl fun bF hbF => ?_
 have hcl3 : Cl ns (ups σ2 q.nF bF) := hk2.ok.cl.ups fun row hr => (hbF.box row hr).elim
 have hout3 := ups_mem (b := bF) hk2.ok.out ho.inF
 have ho3 : HOk ns (ups σ2 q.nF bF) q2 := hk2.ok.frame (fun n hn => by
  rw [← hk2.nF]
  rcases hn with rfl | rfl | hn
  · exact upt_ne _ _ hk2.ok.QF
  · exact upt_ne _ _ hk2.ok.HF
  · obtain ⟨y, hy, k⟩ := List.mem_map.1 hn
    exact upt_ne _ _ (fun e => hk2.ok.EF hy (e ▸ k.symm))) hcl3 hout3
 repeat' (first | refine i_s rfl ?_ | refine sw ?_ | refine i_ldr e.nm rfl ((upt_ne _ _ hnF).trans he2) rfl ?_)
 refine e_ret ⟨rfl, _, rfl, rfl, ho3.cl, ⟨q2, e.item, e.key, ⟨⟨.inl ho3.re, _, ?_, hc2.del⟩, hk2.nQ, hk2.bq, hk2.nF⟩, hp2.map _, rfl⟩, rfl⟩
 rw [hk2.nF]
 exact hbF.is' ((upt_self _ _ _).symm.trans (restr_at ho.inF).symm)
end Hm
end
section
namespace Hm
open Go
theorem fresh_list (av : List Nat) : ∀ k : Nat, av.length + k < 1000000000000 → ∃ L : List Nat, L.length = k ∧ L.Nodup ∧ ∀ n ∈ L, n ∉ av ∧ n < 1000000000000
 | 0, _ => ⟨[], rfl, List.nodup_nil, fun n hn => by cases hn⟩
 | k + 1, h => by
  obtain ⟨L, h1, h2, h3⟩ := fresh_list av k (by omega)
  obtain ⟨n, h4, h5⟩ := fresh_name (L ++ av) (by rw [List.length_append]; omega)
  refine ⟨n :: L, by simp [h1], List.nodup_cons.2 ⟨fun h => h4 (List.mem_append_left _ h), h2⟩, fun m hm => ?_⟩
  rcases List.mem_cons.1 hm with rfl | hm
  · exact ⟨fun h => h4 (List.mem_append_right _ h), h5⟩
  · exact h3 m hm
section
variable {ns : List Nat} {σ σ' : Store} {q : HS}
theorem HAny.nd (h : HAny ns σ q) : q.names.Nodup ∧ ∀ n ∈ q.names, n ∈ ns := by
 rcases h with h | h
 · exact ⟨h.nd, h.sub⟩
 · unfold HS.names
   rw [h.es]
   refine ⟨?_, fun n hn => ?_⟩
   · have h1 := h.HH
     have h2 := h.QF
     simp only [List.map_nil, List.nodup_cons, List.mem_cons, List.not_mem_nil, or_false, not_or, not_false_eq_true, List.nodup_nil, and_true]
     exact ⟨⟨fun e => h1.1 e.symm, h2⟩, h1.2.1⟩
   · simp only [List.map_nil, List.mem_cons, List.not_mem_nil, or_false] at hn
     rcases hn with rfl | rfl | rfl
     · exact h.inQ
     · exact h.HH.2.2
     · exact h.inF
theorem HAny.move (h : HAny ns σ q) {ns2 : List Nat} {σ2 : Store} (he : ∀ n ∈ q.names, σ2 n = σ n) (hsub : ∀ n ∈ q.names, n ∈ ns2) (hcl : Cl ns2 σ2) (hout : ∀ nm, σ2 nm ≠ .unused → nm ∈ ns2) : HAny ns2 σ2 q := by
 have hQ := he q.nQ (by simp [HS.names])
 have hH := he q.nH (by simp [HS.names])
 rcases h with h | h
 · exact .inl ⟨hQ.trans h.hQ, hH.trans h.hH, h.hbl, h.hle, h.hsz, h.ht, fun e hm => (he _ (by unfold HS.names; simp only [List.mem_cons]; exact .inr (.inr (.inr (List.mem_map.2 ⟨e, hm, rfl⟩))))).trans (h.hE e hm), h.hat, h.nd, hsub, h.pur, hcl, hout⟩
 · exact .inr ⟨hQ.trans h.hQ, h.es, ⟨h.HH.1, h.HH.2.1, hsub _ (by simp [HS.names])⟩, hH.trans h.Hu, h.QF, hsub _ (by simp [HS.names]), hsub _ (by simp [HS.names]), hcl, hout⟩
theorem QOk.closed (h : QOk ns σ q) {ns2 : List Nat} (hsub : ∀ n ∈ q.names, n ∈ ns2) {n : Nat} (hn : n ∈ q.names) {row : V} (hr : σ n = .box row) : closedB ns2 row = true := by
 obtain ⟨ha, F, hF, _⟩ := h
 have hinF : q.nF ∈ ns2 := hsub _ (by simp [HS.names])
 simp only [HS.names, List.mem_cons] at hn
 rcases hn with rfl | rfl | rfl | hn
 · obtain ⟨hv, hb, hp, _⟩ := ha.box
   rw [hb] at hr
   cases hr
   show (closedB ns2 hv && (closedB ns2 (.mp q.nF) && (true && true))) = true
   rw [closed_pure ns2 hv hp, mem_closed hinF]
   rfl
 · rcases ha with h | h
   · rw [h.hH] at hr
     cases hr
     exact box_closed ns2 h.pur
   · rw [h.Hu] at hr
     cases hr
 · exact (hF.box row hr).elim
 · obtain ⟨e, he, rfl⟩ := List.mem_map.1 hn
   rw [ha.base.hE e he] at hr
   cases hr
   rfl
theorem QOk.move (h : QOk ns σ q) {ns2 : List Nat} {σ2 : Store} (he : ∀ n ∈ q.names, σ2 n = σ n) (hsub : ∀ n ∈ q.names, n ∈ ns2) (hcl : Cl ns2 σ2) (hout : ∀ nm, σ2 nm ≠ .unused → nm ∈ ns2) : QOk ns2 σ2 q := by
 obtain ⟨ha, F, hF, hc⟩ := h
 refine ⟨ha.move he hsub hcl hout, F, ?_, hc⟩
 rw [he _ (by simp [HS.names])]
 exact hF
end
def QIn (σ : Store) (q : HS) : Prop := QOk q.names (restr q.names σ) q
section
variable {ns : List Nat} {σ σ' : Store} {q : HS}
theorem QIn.congr (h : QIn σ q) (he : ∀ n ∈ q.names, σ' n = σ n) : QIn σ' q := by
 have e : restr q.names σ' = restr q.names σ := by
  funext n
  by_cases hn : n ∈ q.names
  · rw [restr_at hn, restr_at hn, he n hn]
  · rw [restr_off hn, restr_off hn]
 unfold QIn
 rw [e]
 exact h
theorem QIn.closed (h : QIn σ q) (hsub : ∀ n ∈ q.names, n ∈ ns) {n : Nat} (hn : n ∈ q.names) {row : V} (hr : σ n = .box row) : closedB ns row = true :=
 QOk.closed h hsub hn ((restr_at hn).trans hr)
theorem QIn.to (h : QIn σ q) (hsub : ∀ n ∈ q.names, n ∈ ns) (hrest : ∀ n ∈ ns, n ∉ q.names → σ n = .unused) : QOk ns (restr ns σ) q := by
 refine QOk.move h (fun n hn => by rw [restr_at (hsub n hn), restr_at hn]) hsub ?_ (fun nm hn => restr_mem nm hn)
 refine (closedSt_iff _ _ _).2 fun n hn row hr => ?_
 rw [restr_at hn] at hr
 by_cases c : n ∈ q.names
 · exact h.closed hsub c hr
 · rw [hrest n hn c] at hr
   cases hr
theorem QIn.of (h : QOk ns σ' q) (he : ∀ n ∈ q.names, σ n = σ' n) : QIn σ q := by
 refine h.move (fun n hn => (restr_at hn).trans (he n hn)) (fun n hn => hn) ?_ (fun nm hn => restr_mem nm hn)
 refine (closedSt_iff _ _ _).2 fun n hn row hr => ?_
 rw [restr_at hn, he n hn] at hr
 exact h.closed (fun n hn => hn) hn hr
end
end Hm
end
section
namespace Hm
open Go
set_option maxRecDepth 100000
set_option maxHeartbeats 1000000
def c_space_Words_Steps : Cmd :=
 (qS [qx 2 4480129 1 0, qx 3 4480193 1 1, qq 4 (.mov (.c (.nilfn)))]
 (.seq (.ops [qq 5 (.mkfn 116 [.t 2, .t 3]), qm 4 5]) .ret))
def r_space_Words_Steps : List RVar := [.tmp 4]
def n_space_Words_Steps : Nat := 6
theorem k_space_Words_Steps : chkFn PG 70 n_space_Words_Steps r_space_Words_Steps c_space_Words_Steps = true := by kernel_rfl
theorem f_space_Words_Steps (w : Wd) (s : W32) : Fc PG 70 [.cptr .p (wdR w) 0, u32V s] (.fn 116 [.cptr .p (.cptr .p (wdR w) 0) 0, .cptr .p (u32V s) 0]) := by
 refine Fn.step mixed k_space_Words_Steps ?_
 repeat' (first | refine i_s rfl ?_ | refine sw ?_ | refine i_box rfl rfl ?_)
 exact e_ret ⟨rfl, _, rfl, rfl⟩
def c_space_Words_Steps_1 : Cmd :=
 (qS [ql 6 1 1, qq 7 (.nilck (.t 6)), qf 8 2 7, ql 9 1 8, qn 10 9, qc 11 0]
 (.block 0 (.loop (qS [qu 12 .lss [] 11 10]
 (qT (.cond (.t 12) .skip (.exit 0))
 (qT (.block 1 (qS [qm 13 11, qi 14 4 9 11, qL 15 4 14, qq 5 (.alloc 7424324 (.agg [.int .u32 0, .int .u32 0, .int .u32 0, .int .i64 0])), qm 4 13, qs 4 5 15]
 (qS [ql 16 1 2, qf 17 0 5, ql 18 1 17, qu 19 .and [] 16 18, qf 20 0 5, ql 21 1 20, qu 22 .eql [.i] 19 21, qm 23 22, qg 24 23 true (.mov (.t 0)), qg 25 23 true (.mov (.t 4)), qg 26 23 true (.faddr 3 (.t 5)), qg 27 23 true (.load false 1 (.t 26)), qg 28 23 true (.load false 1 (.t 2)), qg 29 23 true (.faddr 2 (.t 5)), qg 30 23 true (.load false 1 (.t 29)), qg 31 23 true (.bin .andNot false [] (.t 28) (.t 30)), qg 32 23 true (.faddr 1 (.t 5)), qg 33 23 true (.load false 1 (.t 32)), qg 34 23 true (.bin .or false [] (.t 31) (.t 33)), qg 35 23 true (.build [.int .i64 0, .int .i64 0, .int .u32 0] [(0 , 1 , .t 25), (1 , 1 , .t 27), (2 , 1 , .t 34)]), qg 36 23 true (.call .y (.t 24) [.t 35]), qg 37 23 true (.not (.t 36)), qq 38 (.pick (.t 23) (.t 37) (.c (.bool false)))]
 (.cond (.t 38) .ret .skip))))
 (.ops [qv 39 .add [] 11 1, qm 11 39])))))))
def r_space_Words_Steps_1 : List RVar := []
def n_space_Words_Steps_1 : Nat := 40
theorem k_space_Words_Steps_1 : chkFn PG 116 n_space_Words_Steps_1 r_space_Words_Steps_1 c_space_Words_Steps_1 = true := by kernel_rfl
theorem ct_Steps_1 {G : Type} {H : HT G} (w : Wd) (s : W32) (hl : w.ops.length ≤ 140737488355328) (g0 : G) (K : G → Prop) (hy0 : YL H ((w.steps s).map fun e => [stV e]) g0 K) :
  Cc PG H 116 [.rnd, .cptr .p (.cptr .p (wdR w) 0) 0, .cptr .p (u32V s) 0] [] (stOf []) g0 fun _ σ' g' => σ' = stOf [] ∧ K g' := by
 refine CT.step _ mixed k_space_Words_Steps_1 (fun nm hnm => stOf_mem _ nm hnm) fun hM => ?_
 repeat (first | refine i_len rfl ?_ | refine i_s rfl ?_ | refine sw ?_)
 refine c_loop (ι := Nat × G) (fun i => [(0, .rnd), (1, .cptr .p (.cptr .p (wdR w) 0) 0), (2, .cptr .p (u32V s) 0), (9, .sl .p (w.ops.map mkV)), (10, .int .i64 w.ops.length), (11, .int .i64 i.1)]) (fun i => []) (fun i => i.2)
  (fun i => i.1 ≤ w.ops.length ∧ YL H ((stepsFrom s (w.ops.drop i.1) i.1).map fun e => [stV e]) i.2 K) (fun i => w.ops.length - i.1) (0, g0) ⟨Nat.zero_le _, hy0⟩ ft rfl fun i hi => ?_
 obtain ⟨k, g⟩ := i
 obtain ⟨h1, hy⟩ := hi
 simp only at h1 hy
 clear hy0
 repeat (first | refine i_s rfl ?_ | refine sw ?_)
 refine c_cond rfl (fun h => ?_) (fun h => ?_)
 · have hlt : k < w.ops.length := by simpa using h
   obtain ⟨m, hm⟩ := get_some hlt
   clear h
   have ed : w.ops.drop k = m :: w.ops.drop (k + 1) := by
    rw [List.drop_eq_getElem_cons hlt]
    congr 1
    exact (List.getElem?_eq_some_iff.1 hm).2
   rw [ed, stepsFrom] at hy
   by_cases hc : m.can s = true
   · rw [if_pos hc] at hy
     have hc2 : (((s &&& m.pre).toNat : Int) == (m.pre.toNat : Int)) = true := by rw [u32_beq]; exact hc
     repeat' (first | refine i_s rfl ?_ | refine sw ?_ | refine i_gt rfl ?_ | refine i_gf rfl ?_ | refine c_f rfl ?_ | refine ja rfl rfl ?_ | refine jd rfl rfl ?_ | refine i_stb rfl ?_ | refine i_alloc rfl ?_ | refine i_g rfl (fun h => ?_) (fun h => ?_) | refine w_and rfl rfl ?_ | refine w_andn rfl rfl ?_ | refine w_or rfl rfl ?_)
     all_goals first
      | (exfalso; simp_all; done)
      | (refine i_y hM rfl rfl rfl (hM _ _ _ _ (fun u g' hu => ?_) hy)
         rcases hu with ⟨rfl, hu⟩ | ⟨rfl, hu⟩
         · repeat' (first | refine i_s rfl ?_ | refine sw ?_ | refine i_gt rfl ?_ | refine c_f rfl ?_ | refine ja rfl rfl ?_ | fail)
           exact e_loop ⟨(k + 1, g'), ⟨by simp only; omega, hu⟩, ft, rfl, by simp only; omega⟩
         · repeat' (first | refine i_s rfl ?_ | refine sw ?_ | refine i_gt rfl ?_ | refine c_t rfl ?_)
           exact e_ret ⟨rfl, _, rfl, rfl, rfl, restr_stOf _ _, hu⟩)
   · rw [if_neg hc, List.nil_append] at hy
     have hc2 : (((s &&& m.pre).toNat : Int) == (m.pre.toNat : Int)) = false := by rw [u32_beq]; exact Bool.eq_false_iff.2 hc
     repeat' (first | refine i_s rfl ?_ | refine sw ?_ | refine i_gt rfl ?_ | refine i_gf rfl ?_ | refine c_f rfl ?_ | refine ja rfl rfl ?_ | refine jd rfl rfl ?_ | refine i_stb rfl ?_ | refine i_alloc rfl ?_ | refine i_g rfl (fun h => ?_) (fun h => ?_) | refine w_and rfl rfl ?_)
     all_goals first
      | (exfalso; simp_all; done)
      | exact e_loop ⟨(k + 1, g), ⟨by simp only; omega, hy⟩, ft, rfl, by simp only; omega⟩
 · have hge : k = w.ops.length := by have : ¬ k < w.ops.length := by simpa using h
                                     omega
   subst hge
   rw [List.drop_of_length_le (Nat.le_refl _)] at hy
   repeat refine sw ?_
   exact e_end ⟨rfl, _, rfl, rfl, rfl, restr_stOf _ _, hy⟩
end Hm
end
section
namespace Hm
open Go
set_option maxRecDepth 100000
set_option maxHeartbeats 2000000
def InW (l : List Int) : Prop := (∀ p ∈ l, 0 ≤ p ∧ p < 32) ∧ l.length ≤ 140737488355328
structure WdT (t : STask) : Prop where
 init : InW t.init
 goal : InW t.goal
 ops : ∀ o ∈ t.ops, InW o.pre ∧ InW o.add ∧ InW o.del
 len : t.ops.length ≤ 1000000
def c_space_Of : Cmd :=
 (qS [qx 1 3968068 4 0, qq 2 (.mov (.c (.nilptr)))]
 (.seq (.ops [qf 6 1 1, ql 7 1 6, qk 8 112 [7], qf 9 2 1, ql 10 1 9, qk 11 112 [10], qq 12 (.build [.int .u32 0, .int .u32 0, .sl .nil []] [(0 , 1 , .t 8), (1 , 1 , .t 11)]), qx 13 3968835 3 12, qm 3 13]) (.nvb 13 2 3976452 (.cut (qT (qS [qf 14 3 1, ql 15 1 14, qn 16 15, qc 17 0]
 (.block 0 (.loop (qS [qu 18 .lss [] 17 16]
 (qT (.cond (.t 18) .skip (.exit 0))
 (qT (.block 1 (qS [qi 19 4 15 17, qL 20 4 19, qq 5 (.alloc 3968324 (.agg [.sl .nil [], .sl .nil [], .sl .nil [], .int .i64 0])), qs 4 5 20]
 (.ops [qm 21 3, qm 22 3, qq 23 (.nilck (.t 22)), qf 24 2 23, ql 25 1 24, qf 26 0 5, ql 27 1 26, qk 28 112 [27], qf 29 1 5, ql 30 1 29, qk 31 112 [30], qf 32 2 5, ql 33 1 32, qk 34 112 [33], qf 35 3 5, ql 36 1 35, qq 37 (.build [.int .u32 0, .int .u32 0, .int .u32 0, .int .i64 0] [(0 , 1 , .t 28), (1 , 1 , .t 31), (2 , 1 , .t 34), (3 , 1 , .t 36)]), qq 38 (.bsl 4 [.t 37]), qq 39 (.append 4 24 210 (.t 25) (.t 38)), qq 40 (.nilck (.t 21)), qf 41 2 40, qs 1 41 39])))
 (.ops [qv 42 .add [] 17 1, qm 17 42])))))))
 (.seq (.ops [qm 43 3, qm 2 43]) .ret))))))
def r_space_Of : List RVar := [.tmp 2]
def n_space_Of : Nat := 44
theorem k_space_Of : chkFn PG 62 n_space_Of r_space_Of c_space_Of = true := by kernel_rfl
theorem f_space_Of (t : STask) (ht : WdT t) : Fc PG 62 [skV t] (.cptr .p (wdR (wdOf t)) 0) := by
 have hI := f_space_Word t.init ht.init.1 ht.init.2
 have hG := f_space_Word t.goal ht.goal.1 ht.goal.2
 have hlen := ht.len
 refine Fn.step mixed k_space_Of ?_
 repeat' (first | refine i_s rfl ?_ | refine sw ?_ | refine i_box rfl rfl ?_ | refine sf rfl rfl hI ?_ | refine sf rfl rfl hG ?_ | fail)
 all_goals
  refine c_nvb rfl rfl rfl rfl ?_
  repeat (first | refine i_len rfl ?_ | refine i_s rfl ?_ | refine sw ?_)
  refine c_for t.ops.length (fun k => [(1, .bptr 3968068 0), (3, .bptr 3968835 0), (15, .sl .p (t.ops.map soV)), (16, .int .i64 t.ops.length), (17, .int .i64 k)])
   (fun k => [(3968068, .box (skV t)), (3968835, .box (.agg [u32V (word t.init), u32V (word t.goal), .sl (.own 3976452) (((t.ops.take k).map mkOf).map mkV)])), (3976452, .vec ((t.ops.take k).map mkOf).length)]) (fun _ => True) trivial ft fun k hk _ => ?_
  repeat (first | refine i_s rfl ?_ | refine sw ?_)
  refine c_cond rfl (fun h => ?_) (fun h => ?_)
  · have hlt : k < t.ops.length := by simpa using h
    obtain ⟨o, ho⟩ := get_some hlt
    obtain ⟨h1, h2, h3⟩ := ht.ops o (mem_get ho)
    have hP := f_space_Word o.pre h1.1 h1.2
    have hA := f_space_Word o.add h2.1 h2.2
    have hD := f_space_Word o.del h3.1 h3.2
    have et : (t.ops.take (k + 1)).map mkOf = (t.ops.take k).map mkOf ++ [mkOf o] := by rw [List.take_add_one, ho]; simp
    have hml : ((t.ops.take k).map mkOf).length ≤ 1000000 := by simp; omega
    clear h hI hG
    repeat' (first | refine i_s rfl ?_ | refine sw ?_ | refine ja rfl rfl ?_ | refine jd rfl rfl ?_ | refine i_stb rfl ?_ | refine i_alloc rfl ?_ | refine sf rfl rfl hP ?_ | refine sf rfl rfl hA ?_ | refine sf rfl rfl hD ?_ | refine i_appM (c := mkOf o) rfl rfl rfl rfl rfl (by omega) (by omega) ?_)
    all_goals first
     | (refine e_for hlt trivial ⟨⟨rfl, rfl, rfl, rfl, rfl, trivial⟩, ⟨rfl, ?_, ?_, trivial⟩, rfl⟩
        · rw [et]; rfl
        · rw [et, List.length_append]; rfl)
  · have hge : k = t.ops.length := by have : ¬ k < t.ops.length := by simpa using h
                                      omega
    subst hge
    rw [List.take_length]
    repeat' (first | refine i_s rfl ?_ | refine sw ?_ | fail)
    exact e_ret ⟨rfl, _, rfl, rfl⟩
theorem m_Start : methF PG 82 "Start" = some (32, true) := by kernel_rfl
theorem m_Steps : methF PG 82 "Steps" = some (70, true) := by kernel_rfl
def toI (x : W32) : Int := x.toNat
theorem toI_inj {x y : W32} (h : toI x = toI y) : x = y := BitVec.eq_of_toNat_eq (Int.ofNat_inj.1 h)
theorem idx_none {sn : List W32} {x : W32} (h : x ∉ sn) : (sn.map toI).idxOf? (toI x) = none := by
 rw [List.idxOf?_eq_none_iff]
 intro hm
 obtain ⟨y, hy, e⟩ := List.mem_map.1 hm
 exact h (toI_inj e ▸ hy)
theorem idx_some {sn : List W32} {x : W32} (h : x ∈ sn) : ∃ i, (sn.map toI).idxOf? (toI x) = some i ∧ i < sn.length := by
 cases hi : (sn.map toI).idxOf? (toI x) with
 | none => exact absurd (List.mem_map_of_mem (f := toI) h) (List.idxOf?_eq_none_iff.1 hi)
 | some i =>
  have h1 : (sn.map toI).findIdx? (· == toI x) = some i := hi
  obtain ⟨h2, _⟩ := List.findIdx?_eq_some_iff_getElem.1 h1
  exact ⟨i, rfl, by simpa using h2⟩
def unitV : V := .agg []
theorem seen_get (sn : List W32) (x : W32) : mres true (.agg []) (mgetv (sn.map toI) (sn.map fun _ => unitV) (toI x)) = .tup [.agg [], .bool (decide (x ∈ sn))] := by
 by_cases h : x ∈ sn
 · obtain ⟨i, h1, h2⟩ := idx_some h
   rw [decide_eq_true h]
   simp only [mgetv, h1, Option.bind_some, List.getElem?_map, List.getElem?_eq_getElem h2, Option.map_some, mres, unitV]
 · rw [decide_eq_false h]
   simp only [mgetv, idx_none h, Option.bind_none, mres]
theorem seen_put {sn : List W32} {x : W32} (h : x ∉ sn) : msetB .u32 (sn.map toI) (sn.map fun _ => unitV) (toI x) (.agg []) = .mp .u32 ((sn ++ [x]).map toI) ((sn ++ [x]).map fun _ => unitV) := by
 simp only [msetB, idx_none h, List.map_append, List.map_cons, List.map_nil, unitV]
theorem pushAll_len : ∀ (l : List W32) (a : List W32 × List W32), a.1.length ≤ (pushAll a l).1.length ∧ (pushAll a l).1.length ≤ a.1.length + l.length
 | [], a => ⟨Nat.le_refl _, Nat.le_refl _⟩
 | y :: l, a => by
  have h := pushAll_len l (push1 a y)
  have h2 : a.1.length ≤ (push1 a y).1.length ∧ (push1 a y).1.length ≤ a.1.length + 1 := by unfold push1; split <;> simp
  have e : pushAll a (y :: l) = pushAll (push1 a y) l := rfl
  rw [e, List.length_cons]
  omega
theorem stepsFrom_len (s : W32) : ∀ (l : List Mk) (k : Nat), (stepsFrom s l k).length ≤ l.length
 | [], _ => Nat.le_refl _
 | m :: r, k => by
  have := stepsFrom_len s r (k + 1)
  rw [stepsFrom, List.length_append, List.length_cons]
  split <;> simp <;> omega
theorem succs_len (w : Wd) (s : W32) : (succs w s).length ≤ w.ops.length := by
 unfold succs Wd.steps
 rw [List.length_map]
 exact stepsFrom_len _ _ _
theorem YL_inv {G : Type} {α : Type} {f : α → List V} {H' : HT G} {K : G → Prop} (I : List α → G → Prop) (hs : ∀ c r s, I (c :: r) s → ∀ K : V → G → Prop, (∀ s', I r s' → K (.bool true) s') → H' (f c) s K) (he : ∀ s, I [] s → K s) : ∀ (l : List α) (s : G), I l s → YL H' (l.map f) s K
 | [], s, h => he s h
 | c :: r, s, h => hs c r s h _ fun s' h' => .inl ⟨rfl, YL_inv I hs he r s' h'⟩
abbrev aS (out st sn : List W32) (g6 gen : Nat) (rows : List V) : List (Nat × Blk) := [(4032833, .arr gen rows), (4032896, .mp .u32 (sn.map toI) (sn.map fun _ => unitV)), (4032257, .box (.msl 4032833 gen 0 st.length)), (4032321, .box (.mp 4032896)), (4032385, .arr g6 (out.map u32V))]
def c_space_All_uint32 : Cmd :=
 (qS [qq 2 (.mov (.c (.sl .nil []))), qb 3 false]
 (qS [qm 11 0, qq 12 (.callM .f "Start" (.t 11) []), qq 13 (.bslA 4032833 1 [.t 12]), qq 4 (.alloc 4032257 (.sl .nil [])), qs 1 4 13]
 (qS [qq 14 (.mkMap 4032896 .u32), qm 15 0, qq 16 (.callM .f "Start" (.t 15) []), qq 17 (.build [] []), .op none none (.mput (.t 14) (.t 16) (.t 17)), qm 18 14, qq 5 (.alloc 4032321 (.nilmp)), qs 1 5 18]
 (qS [qq 6 (.newArr 4032385)]
 (qT (.block 0 (.loop (qT (qS [ql 19 1 4, qn 20 19, qv 21 .gtr [] 20 0]
 (.cond (.t 21) .skip (.exit 0)))
 (.block 1 (qS [ql 22 1 4, ql 23 1 4, qn 24 23, qv 25 .sub [] 24 1, qi 26 1 22 25, ql 27 1 26, qm 7 27]
 (qS [ql 28 1 4, ql 29 1 4, qn 30 29, qv 31 .sub [] 30 1, qq 32 (.slice false 1 (.t 28) none (some (.t 31))), qs 1 4 32]
 (qS [qm 33 6, qm 34 7, qq 35 (.bsl 1 [.t 34]), qq 36 (.append 1 4 88 (.t 33) (.t 35)), qm 6 36]
 (qT (qS [qm 37 0, qm 38 7, qq 39 (.callM .f "Steps" (.t 37) [.t 38])]
 (.block 2 (.rangeF [] (.t 39) [40] (.ops [qq 8 (.alloc 4032515 (.agg [.int .i64 0, .int .i64 0, .int .u32 0])), qs 3 8 40]) (.block 3 (qS [ql 42 1 5, qf 43 2 8, ql 44 1 43, qq 45 (.mget true (.agg []) (.t 42) (.t 44)), qm 41 45, qq 46 (.extract (.t 41) 0), qq 47 (.extract (.t 41) 1), qq 9 (.alloc 4032576 (.agg [])), qs 0 9 46, qm 10 47]
 (qS [qm 48 10, qq 49 (.not (.t 48))]
 (.cond (.t 49) (qS [ql 50 1 5, qf 51 2 8, ql 52 1 51, qq 53 (.build [] []), .op none none (.mput (.t 50) (.t 52) (.t 53))]
 (.ops [ql 54 1 4, qf 55 2 8, ql 56 1 55, qq 57 (.bsl 1 [.t 56]), qq 58 (.append 1 4 88 (.t 54) (.t 57)), qs 1 4 58])) .skip)))))))
 (qS [ql 59 1 5, qq 60 (.mlen (.t 59)), qv 61 .gtr [] 60 2000]
 (.cond (.t 61) (.seq (.ops [qq 2 (.mov (.c (.sl .nil []))), qb 3 false]) .ret) .skip))))))))))
 (.seq (.ops [qm 62 6, qm 2 62, qb 3 true]) .ret))))))
def r_space_All_uint32 : List RVar := [.tmp 2, .tmp 3]
def n_space_All_uint32 : Nat := 63
theorem k_space_All_uint32 : chkFn PG 63 n_space_All_uint32 r_space_All_uint32 c_space_All_uint32 = true := by kernel_rfl
abbrev aE (w : Wd) (out : List W32) (g6 : Nat) : List (Nat × V) := [(0, .ifv 82 (.cptr .p (wdR w) 0)), (4, .bptr 4032257 0), (5, .bptr 4032321 0), (6, .msl 4032385 g6 0 out.length)]
structure SA where
 out : List W32
 st : List W32
 sn : List W32
 g6 : Nat
 gen : Nat
 rows : List V
def aI {G : Type} (g0 : G) (w : Wd) (out : List W32) (g6 : Nat) (s : W32) (st sn : List W32) (rem : List (Nat × Int × W32)) (x : RG G) : Prop := x.2.2 = none ∧ x.2.1 = g0 ∧ ∃ (st2 sn2 : List W32) (gen2 : Nat) (rows2 : List V), x.1 = stOf (aS (out ++ [s]) st2 sn2 (g6 + 1) gen2 rows2) ∧ rows2.take st2.length = st2.map u32V ∧
 pushAll (st2, sn2) (rem.map fun e => e.2.2) = pushAll (st, sn) (succs w s)
def AllPost (w : Wd) (v : V) (σ' : Store) : Prop := match allF w with
 | some l => ∃ g6, v = .tup [.msl 4032385 g6 0 l.length, .bool true] ∧ σ' = stOf [(4032385, .arr g6 (l.map u32V))]
 | none => v = .tup [.sl .nil [], .bool false]
theorem ct_All {G : Type} {H : HT G} {g : G} (w : Wd) (hl : w.ops.length ≤ 1000000) : Cc PG H 63 [.ifv 82 (.cptr .p (wdR w) 0)] [4032385] (stOf []) g fun v σ' g' => AllPost w v σ' ∧ g' = g := by
 have hS := f_space_Words_Start w
 refine CT.step _ mixed k_space_All_uint32 (fun nm h => absurd rfl h) fun hM => ?_
 repeat (first | refine i_s rfl ?_ | refine sw ?_)
 refine i_fM rfl m_Start rfl rfl rfl hS rfl ?_
 skip
 refine i_bsla rfl rfl rfl rfl ?_
 repeat (first | refine sw ?_ | refine i_stb rfl ?_ | refine i_alloc rfl ?_)
 refine i_mkm rfl ?_
 repeat refine i_s rfl ?_
 refine i_fM rfl m_Start rfl rfl rfl hS rfl ?_
 repeat refine i_s rfl ?_
 refine i_mput rfl rfl rfl rfl rfl rfl ?_
 repeat (first | refine i_s rfl ?_ | refine sw ?_ | refine i_stb rfl ?_ | refine i_alloc rfl ?_)
 refine i_na rfl ?_
 repeat refine sw ?_
 refine c_lp (fun q : SA => aE w q.out q.g6) (fun q => aS q.out q.st q.sn q.g6 q.gen q.rows) (fun q => q.rows.take q.st.length = q.st.map u32V ∧ AllInv w q.st q.sn q.out ∧ q.sn.length ≤ 2000 ∧ allF w = allR w (2002 - q.out.length) q.st q.sn q.out) (fun q => 2002 - q.out.length) ⟨[], [w.start], [w.start], 0, 0, [u32V w.start]⟩
  ⟨rfl, ⟨by simp, by simp, by simp, by simp, by simp, fun x hx => by simp at hx; subst hx; exact .start, by simp, by simp, rfl⟩, by simp, rfl⟩ ft fun q hq => ?_
 obtain ⟨out, st, sn, g6, gen, rows⟩ := q
 obtain ⟨hrw, hI, hsn, hF⟩ := hq
 dsimp only at hrw hI hsn hF
 have hlen := hI.len
 rcases List.eq_nil_or_concat st with rfl | ⟨st', s, rfl⟩
 · have e : allF w = some out := by
    have hz : 2002 - out.length = (2001 - out.length) + 1 := by simp at hlen; omega
    rw [hF, hz]
    rfl
   repeat' (first | refine i_s rfl ?_ | refine i_lenm rfl rfl rfl ?_ | refine sw ?_ | refine c_f rfl ?_)
   all_goals first
    | (exfalso; simp at *; done)
    | exact e_ret ⟨rfl, _, rfl, rfl, rfl, by unfold AllPost; rw [e]; exact ⟨g6, rfl, restr_stOf _ _⟩, rfl⟩
 · rw [List.concat_eq_append] at hrw hI hF hlen ⊢
   have hln : (st' ++ [s]).length = st'.length + 1 := by simp
   have hrow : rows[st'.length]? = some (u32V s) := by
    have h9 := congrArg (fun l => l[st'.length]?) hrw
    simp only [hln, List.map_append, List.map_cons, List.map_nil] at h9
    rw [List.getElem?_take, if_pos (by omega), List.getElem?_append_right (by simp), List.length_map, Nat.sub_self] at h9
    simpa using h9
   have hz : 0 + (((st' ++ [s]).length : Int) - 1).toNat = st'.length := by omega
   have hst := f_space_Words_Steps w s
   have hol : out.length ≤ 2000 := by omega
   have hpos : ((st' ++ [s]).length : Int) > 0 := by omega
   repeat (first | refine i_s rfl ?_ | refine i_lenm rfl rfl rfl ?_ | refine sw ?_)
   refine c_cond rfl (fun h => ?_) (fun h => ?_)
   rotate_left
   · exfalso
     simp at h
   clear h
   repeat (first | refine i_s rfl ?_ | refine i_lenm rfl rfl rfl ?_ | refine sw ?_ | refine jb rfl rfl ?_)
   refine i_ima rfl rfl rfl rfl (by show 0 ≤ ((st' ++ [s]).length : Int) - 1; omega) (by show ((st' ++ [s]).length : Int) - 1 < ((st' ++ [s]).length : Nat); omega) rfl ?_
   refine i_ldp (row := u32V s) rfl rfl rfl (by show rows[0 + (((st' ++ [s]).length : Int) - 1).toNat]? = _; rw [hz]; exact hrow) rfl ?_
   repeat (first | refine i_s rfl ?_ | refine i_lenm rfl rfl rfl ?_ | refine sw ?_ | refine jb rfl rfl ?_)
   refine i_smh (k1 := .i64) (m := 0) (n := ((st' ++ [s]).length : Int) - 1) (len := (st' ++ [s]).length) rfl rfl rfl rfl rfl (by omega) (by omega) (by omega) rfl ?_
   have hm5 : V.msl 4032833 gen (0 + (0 : Int).toNat) ((((st' ++ [s]).length : Int) - 1).toNat - (0 : Int).toNat) = V.msl 4032833 gen 0 st'.length := by
    rw [show (((st' ++ [s]).length : Int) - 1).toNat - (0 : Int).toNat = st'.length from by omega]; rfl
   rw [hm5]
   repeat (first | refine i_s rfl ?_ | refine sw ?_ | refine i_stb rfl ?_)
   refine i_appmM [s] rfl rfl rfl rfl rfl (fun c _ => ⟨rfl, rfl⟩) (by show (out.length + 1) * 4 ≤ _; omega) (by show out.length + 1 ≤ _; omega) ?_
   repeat (first | refine i_s rfl ?_ | refine sw ?_)
   refine i_fM rfl m_Steps rfl rfl rfl hst rfl ?_
   repeat refine sw ?_
   refine c_rangeS (aE w (out ++ [s]) (g6 + 1)) (aS (out ++ [s]) st' sn (g6 + 1) gen rows) [4032833, 4032896, 4032257, 4032321, 4032385] [] (aS (out ++ [s]) st' sn (g6 + 1) gen rows) rfl
    ⟨⟨rfl, rfl, rfl, rfl, trivial⟩, ⟨rfl, rfl, rfl, rfl, rfl, trivial⟩, rfl⟩ rfl rfl rfl rfl ?_
   have hr0 : rows.take st'.length = st'.map u32V := by
    have h9 := congrArg (List.take st'.length) hrw
    rw [List.take_take, hln, Nat.min_eq_left (by omega), List.map_append, List.take_left' (by simp)] at h9
    exact h9
   have hst2 := allInv_step hI
   refine Cc_mono ?_ (ct_Steps_1 w s (by omega) _ (aI g w out g6 s st' sn []) (YL_inv (aI g w out g6 s st' sn) ?_ (fun s h => h) (w.steps s) _ ⟨rfl, rfl, st', sn, gen, rows, rfl, hr0, rfl⟩))
   · rintro v σ' x ⟨rfl, hx, hgx, st2, sn2, gen2, rows2, hσ2, hr2, hp2⟩
     obtain ⟨σx, gx, ox⟩ := x
     simp only at hx hσ2 hgx
     subst hx hσ2 hgx
     refine ⟨rfl, ?_⟩
     have hp3 : (st2, sn2) = pushAll (st', sn) (succs w s) := hp2
     rw [← hp3] at hst2
     have hF2 : allR w (2002 - out.length) (st' ++ [s]) sn out = if sn2.length > 2000 then none else allR w (2001 - out.length) st2 sn2 (out ++ [s]) := by
      have hz2 : 2002 - out.length = (2001 - out.length) + 1 := by omega
      rw [hz2]
      simp only [allR, List.getLast?_concat, List.dropLast_concat]
      rw [← hp3]
     rw [hF2] at hF
     show WE _ _ _ _ _ .normal _ _ _
     repeat (first | refine i_s rfl ?_ | refine sw ?_)
     refine i_mlen rfl ?_
     repeat (first | refine i_s rfl ?_ | refine sw ?_)
     refine c_cond rfl (fun h => ?_) (fun h => ?_)
     · have hb : sn2.length > 2000 := by have : ((sn2.map toI).length : Int) > 2000 := by simpa using h
                                         rw [List.length_map] at this
                                         omega
       have e : allF w = none := by rw [hF, if_pos hb]
       repeat (first | refine i_s rfl ?_ | refine sw ?_)
       exact e_ret ⟨rfl, _, rfl, rfl, rfl, by unfold AllPost; rw [e]; rfl, rfl⟩
     · have hb : ¬ sn2.length > 2000 := by have : ¬ ((sn2.map toI).length : Int) > 2000 := by simpa using h
                                           rw [List.length_map] at this
                                           omega
       rw [if_neg hb] at hF
       repeat refine sw ?_
       exact e_lp ⟨out ++ [s], st2, sn2, g6 + 1, gen2, rows2⟩ ⟨hr2, hst2, by show sn2.length ≤ 2000; omega, by show allF w = allR w (2002 - (out ++ [s]).length) st2 sn2 (out ++ [s]); rw [hF, List.length_append, List.length_singleton]; congr 1; omega⟩ (by show 2002 - (out ++ [s]).length < 2002 - out.length; rw [List.length_append, List.length_singleton]; omega) ft
   · intro e r x hx K hk
     obtain ⟨σx, gx, ox⟩ := x
     obtain ⟨hx, hgx, st2, sn2, gen2, rows2, hσ2, hr2, hp2⟩ := hx
     simp only at hx hσ2 hgx
     subst hx hσ2 hgx
     refine rh_intro hM rfl ?_
     repeat (first | refine sw ?_ | refine i_stb rfl ?_ | refine i_alloc rfl ?_)
     refine e_end ?_
     show WC _ _ _ _ [] _ _ _ _
     repeat (first | refine i_s rfl ?_ | refine sw ?_)
     refine i_mg rfl rfl rfl (seen_get sn2 e.2.2) ?_
     repeat (first | refine i_s rfl ?_ | refine sw ?_ | refine i_stb rfl ?_ | refine i_alloc rfl ?_)
     refine c_cond rfl (fun h => ?_) (fun h => ?_)
     · have hnm : e.2.2 ∉ sn2 := by simpa using h
       have hp3 : push1 (st2, sn2) e.2.2 = (st2 ++ [e.2.2], sn2 ++ [e.2.2]) := by unfold push1; rw [if_neg hnm]
       have hp4 : pushAll (push1 (st2, sn2) e.2.2) (r.map fun e => e.2.2) = pushAll (st', sn) (succs w s) := hp2
       rw [hp3] at hp4
       have hle : st2.length ≤ 2000000 := by
        have q1 := (pushAll_len (r.map fun e => e.2.2) (st2 ++ [e.2.2], sn2 ++ [e.2.2])).1
        have q2 := (pushAll_len (succs w s) (st', sn)).2
        have q3 := succs_len w s
        rw [hp4] at q1
        simp only [List.length_append, List.length_singleton] at q1 q2 hlen
        omega
       repeat (first | refine i_s rfl ?_ | refine sw ?_)
       refine i_mput rfl rfl rfl rfl rfl (seen_put hnm) ?_
       repeat (first | refine i_s rfl ?_ | refine sw ?_)
       refine i_appm rfl rfl rfl rfl rfl (fun row hr => by rw [List.mem_singleton.1 hr]; exact ⟨rfl, rfl⟩) (by show (st2.length + 1) * 4 ≤ _; omega) (by show st2.length + 1 ≤ _; omega) ?_
       repeat (first | refine sw ?_ | refine i_stb rfl ?_)
       refine e_end ?_
       refine rhq_n rfl rfl (hk _ ⟨rfl, rfl, st2 ++ [e.2.2], sn2 ++ [e.2.2], gen2 + 1, rows2.take st2.length ++ [u32V e.2.2], ?_, ?_, hp4⟩)
       · rw [show aS (out ++ [s]) (st2 ++ [e.2.2]) (sn2 ++ [e.2.2]) (g6 + 1) (gen2 + 1) (rows2.take st2.length ++ [u32V e.2.2]) = [(4032833, .arr (gen2 + 1) (rows2.take st2.length ++ [u32V e.2.2])), (4032896, .mp .u32 ((sn2 ++ [e.2.2]).map toI) ((sn2 ++ [e.2.2]).map fun _ => unitV)), (4032257, .box (.msl 4032833 (gen2 + 1) 0 (st2.length + 1))), (4032321, .box (.mp 4032896)), (4032385, .arr (g6 + 1) ((out ++ [s]).map u32V))] from by simp only [aS, List.length_append, List.length_singleton]]
         rfl
       · rw [hr2, List.take_of_length_le (by simp)]
         simp
     · have hnm : e.2.2 ∈ sn2 := by simpa using h
       have hp3 : push1 (st2, sn2) e.2.2 = (st2, sn2) := by unfold push1; rw [if_pos hnm]
       have hp4 : pushAll (push1 (st2, sn2) e.2.2) (r.map fun e => e.2.2) = pushAll (st', sn) (succs w s) := hp2
       rw [hp3] at hp4
       repeat refine sw ?_
       refine e_end ?_
       exact rhq_n rfl rfl (hk _ ⟨rfl, rfl, st2, sn2, gen2, rows2, rfl, hr2, hp4⟩)
end Hm
end
section
namespace Hm
open Go
set_option maxRecDepth 100000
set_option maxHeartbeats 4000000
section
variable {G : Type} {P : Program} {H : HT G} {pn : List Nat} {Q : Exit → Env → Store → G → Prop} {fs : List (Frm G)} {ρ : Env} {σ : Store} {g : G} {a b : Cmd} {r : List GItem} {d : Nat}
theorem without_nil : ∀ l : List Nat, without [] l = l
 | [] => rfl
 | n :: r => by
  show n :: without [] r = n :: r
  rw [without_nil r]
theorem c_range0 {ps : List Nat} {f : Opd} {fid : Nat} {caps : List V} (ns : List Nat) (E : List (Nat × V)) (hf : ev ρ f = .fn fid caps) (hE : FitsE E ρ) (hcl : Cl ns σ) (hout : ∀ nm, σ nm ≠ .unused → nm ∈ ns) (hpn : ∀ n ∈ pn, n ∈ ns) (hcE : closedE ns E = true) (hcaps : (closedL [] caps && noRndL caps) = true)
  (hc : Cc P (RH P H ns a b ps E) fid (.rnd :: caps) [] (stOf []) (σ, g, none) (fun _ _ st => match st.2.2 with
    | none => WE P H pn Q fs .normal (envOf E) st.1 st.2.1
    | some e => WE P H pn Q fs e (envOf E) st.1 st.2.1)) :
  WC P H pn Q fs (.rangeF [] f ps a b) ρ σ g := by
 have e1 : without [] ((lsn ns σ).map (·.1)) = ns := by rw [lsn_fst, without_nil]
 have e2 : restr ns (stOf (lsn ns σ)) = σ := by rw [stOf_lsn, restr_all (fun nm h => restr_mem nm h), restr_all hout]
 rw [Bool.and_eq_true] at hcaps
 refine c_range E (lsn ns σ) hf (fit_ns hE (fun _ _ => rfl) hcE hcl hpn) ?_ ?_
 · rw [e1, hcaps.1, hcaps.2, hcE]
   have h3 : closedSt ns (stOf (lsn ns σ)) ns = true := by rw [stOf_lsn]; exact hcl.restr
   rw [h3]
   rfl
 · rw [e1, e2]
   have e3 : restr [] (stOf (lsn ns σ)) = stOf [] := rfl
   rw [e3]
   refine Cc_mono (fun v σ1 st h => ⟨rfl, ?_⟩) hc
   have e4 : merge [] st.1 σ1 = st.1 := rfl
   rw [e4]
   exact h
theorem i_lenR {n : Nat} {v : V} {x : Opd} (hx : ev ρ x = v) (hv : (v = .sl .nil [] ∧ n = 0) ∨ ∃ b c, v = .rsl b n c) (h : WI P H pn Q fs r (upd ρ d (.int .i64 n)) σ g) : WI P H pn Q fs (.op (some d) none (.len false x) :: r) ρ σ g := by
 rcases hv with ⟨rfl, rfl⟩ | ⟨b, c, rfl⟩
 · exact i_s (by simp only [sop, hx]; rfl) h
 · exact i_s (by simp only [sop, hx]) h
theorem rhq_ns {ns : List Nat} {K : V → RG G → Prop} (hcl : Cl ns σ) (h : K (.bool true) (restr ns σ, g, none)) : rhQ ns K .normal ρ σ g :=
 rhq_n hcl rfl (by rw [← restr_stOf]; exact h)
end
theorem flatC_append : ∀ a b : List V, flatC (a ++ b) = flatC a ++ flatC b
 | [], _ => rfl
 | x :: a, b => by rw [List.cons_append, flatC, flatC, flatC_append a b, List.append_assoc]
structure BL where
 to : W32
 nm : Nat
 b : Nat
 c : Nat
 box : List V
def arcV (a : W32 × Int) : V := .agg [.int .u32 a.1.toNat, .int .i64 a.2]
theorem arc_len (l : List (W32 × Int)) : ∀ row ∈ l.map arcV, row.cells.length = 2 := fun row h => by
 obtain ⟨a, _, rfl⟩ := List.mem_map.1 h
 rfl
structure BLok (σ : Store) (A : List Arc) (v : BL) : Prop where
 hs : σ v.nm = .box (.tag v.b v.box)
 hl : v.box.length = v.c * 2
 hle : (bkOf A v.to).length ≤ v.c
 ht : v.box.take ((bkOf A v.to).length * 2) = flatC ((bkOf A v.to).map arcV)
 hp : ∀ u ∈ v.box, pureB u = true
structure BkF (A : List Arc) (F : Int → Option V) (bl : List BL) : Prop where
 here : ∀ v ∈ bl, F (v.to.toNat : Int) = some (.rsl v.b (bkOf A v.to).length v.c)
 gone : ∀ t : W32, (∀ v ∈ bl, v.to ≠ t) → F (t.toNat : Int) = none ∧ bkOf A t = []
theorem arc_at {σ : Store} {A : List Arc} {v : BL} (h : BLok σ A v) {j : Nat} {u : W32} {c : Int} (hj : (bkOf A v.to)[j]? = some (u, c)) : fzA (ldrow true 2 ((j : Int).toNat * 2) (.agg v.box)) = some (arcV (u, c)) := by
 rw [Int.toNat_natCast]
 have hlt := get_lt hj
 have hle := h.hle
 have hl := h.hl
 have hrow : ((bkOf A v.to).map arcV)[j]? = some (arcV (u, c)) := by rw [List.getElem?_map, hj]; rfl
 have h0 : v.box[j * 2]? = some (.int .u32 u.toNat) := by
  have h1 := flat_at (arc_len _) hrow (j := 0) (v := .int .u32 u.toNat) rfl
  rw [← h.ht, List.getElem?_take, if_pos (by omega)] at h1
  exact h1
 have h1 : v.box[j * 2 + 1]? = some (.int .i64 c) := by
  have h1 := flat_at (arc_len _) hrow (j := 1) (v := .int .i64 c) rfl
  rw [← h.ht, List.getElem?_take, if_pos (by omega)] at h1
  exact h1
 have e : (v.box.drop (j * 2)).take 2 = [.int .u32 u.toNat, .int .i64 c] := by
  obtain ⟨q0, e0⟩ := List.getElem?_eq_some_iff.1 h0
  obtain ⟨q1, e1⟩ := List.getElem?_eq_some_iff.1 h1
  rw [List.drop_eq_getElem_cons q0, List.drop_eq_getElem_cons q1, e0, e1]
  rfl
 have hb : ldrow true 2 (j * 2) (.agg v.box) = some (arcV (u, c)) := by
  have hle2 : Nat.ble (j * 2 + 2) v.box.length = true := Nat.ble_eq_true_of_le (by omega)
  generalize j * 2 = m at *
  cases m with
  | zero =>
   show (bif Nat.beq 2 v.box.length then some (V.agg v.box) else bif Nat.ble 2 v.box.length then some (.agg (v.box.take 2)) else none) = _
   rw [List.drop_zero] at e
   have hle3 : Nat.ble 2 v.box.length = true := hle2
   by_cases c2 : Nat.beq 2 v.box.length = true
   · rw [c2]
     have := Nat.eq_of_beq_eq_true c2
     rw [List.take_of_length_le (by omega)] at e
     simp only [cond_true, e]
     rfl
   · rw [Bool.eq_false_iff.2 c2, hle3]
     simp only [cond_true, cond_false, e]
     rfl
  | succ m =>
   show (bif Nat.ble (m + 1 + 2) v.box.length then some (V.agg ((v.box.drop (m + 1)).take 2)) else none) = _
   rw [hle2]
   simp only [cond_true, e]
   rfl
 rw [hb]
 exact fzA_agg _
def c_space_Costs : Cmd :=
 (qS [qq 4 (.mov (.c (.nilmp)))]
 (qS [qq 16 (.mkMap 1985024 .u32), qq 5 (.alloc 1984321 (.nilmp)), qs 1 5 16]
 (qS [qq 17 (.mkMap 1985088 .u32), qm 6 17]
 (.seq (.ops [qq 18 (.call .d (.c (.fn 67 [])) []), qm 7 18]) (.tagb 7 (.cut (qT (qS [qm 19 1, qn 20 19, qc 21 0]
 (.block 0 (.loop (qS [qu 22 .lss [] 21 20]
 (qT (.cond (.t 22) .skip (.exit 0))
 (qT (.block 1 (qS [qi 23 1 19 21, ql 24 1 23, qq 9 (.alloc 1984577 (.int .u32 0)), qs 1 9 24]
 (qS [qm 25 6, ql 26 1 9, .op none none (.mput (.t 25) (.t 26) (.c (.int .i64 1000000000)))]
 (qT (qS [qm 27 0, ql 28 1 9, qk 29 68 [27, 28]]
 (.cond (.t 29) (qS [qm 30 6, ql 31 1 9, .op none none (.mput (.t 30) (.t 31) (.c (.int .i64 0)))]
 (.ops [qm 32 7, ql 33 1 9, qq 34 (.call .d (.c (.fn 69 [])) [.t 32, .t 33, .c (.int .i64 0)])])) .skip))
 (qS [qm 35 0, ql 36 1 9, qk 37 70 [35, 36]]
 (.block 2 (.rangeF [] (.t 37) [38] (.ops [qq 10 (.alloc 1984643 (.agg [.int .i64 0, .int .i64 0, .int .u32 0])), qs 3 10 38]) (.block 3 (.opsT (.node 0 12 (.node 1 12 (.node 2 12 (.leaf [0, 1, 2, 3, 4, 5, 6, 7, 8, 9, 10, 11, 12, 13]) (.leaf [0, 1, 3, 4, 5, 6, 7, 8, 9, 10, 11, 12, 2, 13])) (.leaf [0, 3, 4, 5, 6, 7, 8, 9, 10, 11, 12, 1, 2, 13])) (.node 1 12 (.node 2 12 (.leaf [1, 2, 3, 4, 5, 6, 7, 8, 9, 10, 11, 12, 0, 13]) (.leaf [1, 3, 4, 5, 6, 7, 8, 9, 10, 11, 12, 0, 2, 13])) (.leaf [3, 4, 5, 6, 7, 8, 9, 10, 11, 12, 0, 1, 2, 13]))) [ql 39 1 5, qf 40 2 10, ql 41 1 40, ql 42 1 5, qf 43 2 10, ql 44 1 43, qq 45 (.mget false (.sl .nil []) (.t 42) (.t 44)), ql 46 1 9, qf 47 1 10, ql 48 1 47, qq 49 (.build [.int .u32 0, .int .i64 0] [(0 , 1 , .t 46), (1 , 1 , .t 48)]), qq 50 (.bsl 2 [.t 49]), qq 51 (.appR 2 16 157 (.t 45) (.t 50)), .op none none (.mput (.t 39) (.t 41) (.t 51))])))))))))
 (.ops [qv 52 .add [] 21 1, qm 21 52])))))))
 (qT (.block 4 (.loop (qT (qS [qm 53 7, qq 54 (.call .d (.c (.fn 71 [])) [.t 53]), qv 55 .gtr [] 54 0]
 (.cond (.t 55) .skip (.exit 4)))
 (.block 5 (qS [qm 57 7, qq 58 (.call .d (.c (.fn 72 [])) [.t 57]), qm 56 58, qq 59 (.extract (.t 56) 0), qq 60 (.extract (.t 56) 1), qq 61 (.extract (.t 56) 2), qm 11 59, qm 12 60, qm 13 61]
 (qS [ql 62 1 5, qm 63 11, qq 64 (.mget false (.sl .nil []) (.t 62) (.t 63)), qn 65 64, qc 66 0]
 (.block 6 (.loop (qS [qu 67 .lss [] 66 65]
 (qT (.cond (.t 67) .skip (.exit 6))
 (qT (.block 7 (qS [qi 68 2 64 66, qL 69 2 68, qq 15 (.alloc 1984962 (.agg [.int .u32 0, .int .i64 0])), qs 2 15 69]
 (qS [qm 70 12, qf 71 1 15, ql 72 1 71, qu 73 .add [] 70 72, qm 74 6, qf 75 0 15, ql 76 1 75, qq 77 (.mget false (.int .i64 0) (.t 74) (.t 76)), qu 78 .lss [] 73 77]
 (.cond (.t 78) (qS [qm 79 6, qf 80 0 15, ql 81 1 80, qm 82 12, qf 83 1 15, ql 84 1 83, qu 85 .add [] 82 84, .op none none (.mput (.t 79) (.t 81) (.t 85))]
 (.ops [qm 86 7, qf 87 0 15, ql 88 1 87, qm 89 12, qf 90 1 15, ql 91 1 90, qu 92 .add [] 89 91, qq 93 (.call .d (.c (.fn 69 [])) [.t 86, .t 88, .t 92])])) .skip))))
 (.ops [qv 94 .add [] 66 1, qm 66 94]))))))))))))
 (.seq (.ops [qm 95 6, qm 4 95]) .ret)))))))))
def r_space_Costs : List RVar := [.tmp 4]
def n_space_Costs : Nat := 96
theorem k_space_Costs : chkFn PG 31 n_space_Costs r_space_Costs c_space_Costs = true := by kernel_rfl
abbrev n5 : Nat := 1984321
abbrev nB : Nat := 1985024
abbrev nO : Nat := 1985088
abbrev n9 : Nat := 1984577
abbrev nX : Nat := 1984643
abbrev nY : Nat := 1984962
structure CD where
 q : HS
 bl : List BL
 A : List Arc
 ks : List W32
 o : W32 → Int
def CD.names (c : CD) : List Nat := n5 :: nB :: nO :: (c.q.names ++ c.bl.map BL.nm)
def outB (ks : List W32) (o : W32 → Int) : Blk := .mp .u32 (ks.map toI) (ks.map fun s => i64V (o s))
theorem outB_congr {ks : List W32} {o o' : W32 → Int} (h : ∀ s ∈ ks, o s = o' s) : outB ks o = outB ks o' := by
 unfold outB
 congr 1
 exact List.map_congr_left fun s hs => by rw [h s hs]
theorem out_get {ks : List W32} {o : W32 → Int} {s : W32} : s ∈ ks → mgetv (ks.map toI) (ks.map fun s => i64V (o s)) (toI s) = some (i64V (o s)) := by
 induction ks with
 | nil => intro h; cases h
 | cons x r ih =>
  intro h
  rw [List.map_cons, List.map_cons, mgetv_cons]
  by_cases e : toI x = toI s
  · rw [if_pos e, toI_inj e]
  · rw [if_neg e]
    rcases List.mem_cons.1 h with rfl | h
    · exact absurd rfl e
    · exact ih h
theorem setK_map {ks : List W32} {o : W32 → Int} {s : W32} {v : Int} : (s ∉ ks → setK (ks.map toI) (ks.map fun s => i64V (o s)) (toI s) (i64V v) = ((ks ++ [s]).map toI, (ks ++ [s]).map fun x => i64V (updO o s v x))) ∧
  (s ∈ ks → ks.Nodup → setK (ks.map toI) (ks.map fun s => i64V (o s)) (toI s) (i64V v) = (ks.map toI, ks.map fun x => i64V (updO o s v x))) := by
 have hs : updO o s v s = v := by unfold updO; rw [if_pos rfl]
 have hne : ∀ x, x ≠ s → updO o s v x = o x := fun x h => by unfold updO; rw [if_neg h]
 induction ks with
 | nil => exact ⟨fun _ => by simp [setK, hs], fun h => by cases h⟩
 | cons x r ih =>
  have key : ∀ (h : x ≠ s), toI x ≠ toI s := fun h e => h (toI_inj e)
  refine ⟨fun h => ?_, fun h hn => ?_⟩
  · have hx : x ≠ s := fun e => h (by simp [e])
    have ih1 := ih.1 fun hm => h (by simp [hm])
    simp only [List.map_cons, setK, if_neg (key hx), ih1, List.cons_append, hne x hx]
  · have hn' := List.nodup_cons.1 hn
    by_cases hx : x = s
    · subst hx
      have e : r.map (fun y => i64V (updO o x v y)) = r.map fun y => i64V (o y) := List.map_congr_left fun y hy => by rw [hne y (fun e => hn'.1 (e ▸ hy))]
      simp only [List.map_cons, setK, if_true, hs, e]
    · have ih2 := ih.2 ((List.mem_cons.1 h).resolve_left fun e => hx e.symm) hn'.2
      simp only [List.map_cons, setK, if_neg (key hx), ih2, hne x hx]
theorem out_new {ks : List W32} {o : W32 → Int} {s : W32} {v : Int} (h : s ∉ ks) : msetB .u32 (ks.map toI) (ks.map fun s => i64V (o s)) (toI s) (.int .i64 v) = outB (ks ++ [s]) (updO o s v) := by
 have e := (setK_map (o := o) (v := v)).1 h
 refine (msetB_eq .u32 (toI s) (i64V v) _ _ (by simp)).trans ?_
 rw [e]
 rfl
theorem out_upd {ks : List W32} {o : W32 → Int} {s : W32} {v : Int} (h : s ∈ ks) (hn : ks.Nodup) : msetB .u32 (ks.map toI) (ks.map fun s => i64V (o s)) (toI s) (.int .i64 v) = outB ks (updO o s v) := by
 have e := (setK_map (o := o) (v := v)).2 h hn
 refine (msetB_eq .u32 (toI s) (i64V v) _ _ (by simp)).trans ?_
 rw [e]
 rfl
structure CI (σ : Store) (c : CD) : Prop where
 h5 : σ n5 = .box (.mp nB)
 bk : ∃ F, MP (σ nB) F ∧ BkF c.A F c.bl
 ho : σ nO = outB c.ks c.o
 hq : QIn σ c.q
 bl : ∀ v ∈ c.bl, BLok σ c.A v
 nd : c.names.Nodup
 av : n9 ∉ c.names ∧ nX ∉ c.names ∧ nY ∉ c.names
 bto : (c.bl.map BL.to).Nodup
 bll : c.bl.length ≤ c.A.length
section
variable {ns : List Nat} {σ σ' : Store} {c : CD}
theorem CD.in5 (c : CD) : n5 ∈ c.names := by simp [CD.names]
theorem CD.inB (c : CD) : nB ∈ c.names := by simp [CD.names]
theorem CD.inO (c : CD) : nO ∈ c.names := by simp [CD.names]
theorem CD.inq (c : CD) {n : Nat} (h : n ∈ c.q.names) : n ∈ c.names := by simp [CD.names, h]
theorem CD.inbl (c : CD) {v : BL} (h : v ∈ c.bl) : v.nm ∈ c.names := by
 unfold CD.names
 simp only [List.mem_cons, List.mem_append]
 exact .inr (.inr (.inr (.inr (List.mem_map.2 ⟨v, h, rfl⟩))))
theorem CI.congr (h : CI σ c) (he : ∀ n ∈ c.names, σ' n = σ n) : CI σ' c :=
 ⟨(he _ c.in5).trans h.h5, by rw [he _ c.inB]; exact h.bk, (he _ c.inO).trans h.ho, h.hq.congr fun n hn => he n (c.inq hn), fun v hv => ⟨(he _ (c.inbl hv)).trans (h.bl v hv).hs, (h.bl v hv).hl, (h.bl v hv).hle, (h.bl v hv).ht, (h.bl v hv).hp⟩, h.nd, h.av, h.bto, h.bll⟩
theorem CI.cl (h : CI σ c) (hsub : ∀ n ∈ c.names, n ∈ ns) (hx : ∀ n ∈ ns, n ∉ c.names → ∀ row, σ n = .box row → closedB ns row = true) : Cl ns σ := (closedSt_iff _ _ _).2 fun n hn row hr => by
 by_cases hm : n ∈ c.names
 · simp only [CD.names, List.mem_cons, List.mem_append] at hm
   rcases hm with rfl | rfl | rfl | hm | hm
   · rw [h.h5] at hr
     cases hr
     exact mem_closed (hsub _ c.inB)
   · obtain ⟨F, hF, _⟩ := h.bk
     exact (hF.box row hr).elim
   · rw [h.ho] at hr
     cases hr
   · exact h.hq.closed (fun n hn => hsub n (c.inq hn)) hm hr
   · obtain ⟨v, hv, rfl⟩ := List.mem_map.1 hm
     rw [(h.bl v hv).hs] at hr
     cases hr
     exact box_closed ns (h.bl v hv).hp
 · exact hx n hn hm row hr
theorem CI.nd2 (h : CI σ c) : (c.q.names ++ c.bl.map BL.nm).Nodup ∧ n5 ∉ c.q.names ++ c.bl.map BL.nm ∧ nB ∉ c.q.names ++ c.bl.map BL.nm ∧ nO ∉ c.q.names ++ c.bl.map BL.nm := by
 have h1 := List.nodup_cons.1 h.nd
 have h2 := List.nodup_cons.1 h1.2
 have h3 := List.nodup_cons.1 h2.2
 exact ⟨h3.2, fun k => h1.1 (by simp only [List.mem_cons]; exact .inr (.inr k)), fun k => h2.1 (by simp only [List.mem_cons]; exact .inr k), h3.1⟩
theorem nd_cons3 {l : List Nat} (h : l.Nodup) (h5 : n5 ∉ l) (hB : nB ∉ l) (hO : nO ∉ l) : (n5 :: nB :: nO :: l).Nodup := by
 refine List.nodup_cons.2 ⟨?_, List.nodup_cons.2 ⟨?_, List.nodup_cons.2 ⟨hO, h⟩⟩⟩
 · simp only [List.mem_cons, not_or]
   exact ⟨by decide, by decide, h5⟩
 · simp only [List.mem_cons, not_or]
   exact ⟨by decide, hB⟩
theorem CI.out (h : CI σ c) {ks : List W32} {o : W32 → Int} : CI (ups σ nO (outB ks o)) { c with ks := ks, o := o } := by
 obtain ⟨k1, k2, k3, k4⟩ := h.nd2
 have hne : ∀ n ∈ c.q.names ++ c.bl.map BL.nm, n ≠ nO := fun n hn e => k4 (e ▸ hn)
 refine ⟨(upt_ne _ _ (by decide)).trans h.h5, ?_, upt_self _ _ _, h.hq.congr fun n hn => upt_ne _ _ (hne n (List.mem_append_left _ hn)), fun v hv => ⟨(upt_ne _ _ (hne _ (List.mem_append_right _ (List.mem_map.2 ⟨v, hv, rfl⟩)))).trans (h.bl v hv).hs, (h.bl v hv).hl, (h.bl v hv).hle, (h.bl v hv).ht, (h.bl v hv).hp⟩, h.nd, h.av, h.bto, h.bll⟩
 rw [upt_ne _ _ (by decide)]
 exact h.bk
theorem CI.oext (h : CI σ c) {o : W32 → Int} (he : ∀ s ∈ c.ks, c.o s = o s) : CI σ { c with o := o } :=
 ⟨h.h5, h.bk, h.ho.trans (outB_congr he), h.hq, h.bl, h.nd, h.av, h.bto, h.bll⟩
theorem CI.queue (h : CI σ c) {f : List Nat} {q' : HS} {σq : Store} (hf : ∀ n ∈ f, n ∉ c.names ∧ n ≠ n9 ∧ n ≠ nX ∧ n ≠ nY) (hk : QOk (f ++ c.q.names) σq q') : CI (merge (f ++ c.q.names) σ σq) { c with q := q' } := by
 obtain ⟨k1, k2, k3, k4⟩ := h.nd2
 obtain ⟨m1, m2⟩ := hk.any.nd
 have hd := List.nodup_append.1 k1
 have hoff : ∀ n ∈ c.names, n ∉ c.q.names → n ∉ f ++ c.q.names := fun n hn h1 hm => by
  rcases List.mem_append.1 hm with h2 | h2
  · exact (hf n h2).1 hn
  · exact h1 h2
 have hbl : ∀ v ∈ c.bl, v.nm ∉ f ++ c.q.names := fun v hv => hoff _ (c.inbl hv) fun hm => hd.2.2 _ hm _ (List.mem_map.2 ⟨v, hv, rfl⟩) rfl
 have o5 : n5 ∉ f ++ c.q.names := hoff _ c.in5 fun hm => k2 (List.mem_append_left _ hm)
 have oB : nB ∉ f ++ c.q.names := hoff _ c.inB fun hm => k3 (List.mem_append_left _ hm)
 have oO : nO ∉ f ++ c.q.names := hoff _ c.inO fun hm => k4 (List.mem_append_left _ hm)
 have hav : ∀ n, (n = n9 ∨ n = nX ∨ n = nY) → n ∉ c.names → n ∉ CD.names { c with q := q' } := fun n he hn hm => by
  have hm : n ∈ n5 :: nB :: nO :: (q'.names ++ c.bl.map BL.nm) := hm
  simp only [List.mem_cons, List.mem_append] at hm
  have hn' : ¬ (n = n5 ∨ n = nB ∨ n = nO ∨ n ∈ c.q.names ∨ n ∈ c.bl.map BL.nm) := by
   simp only [CD.names, List.mem_cons, List.mem_append] at hn
   exact hn
  rcases hm with h1 | h1 | h1 | h1 | h1
  · exact hn' (.inl h1)
  · exact hn' (.inr (.inl h1))
  · exact hn' (.inr (.inr (.inl h1)))
  · rcases List.mem_append.1 (m2 n h1) with h2 | h2
    · obtain ⟨_, q1, q2, q3⟩ := hf n h2
      rcases he with e | e | e
      · exact q1 e
      · exact q2 e
      · exact q3 e
    · exact hn' (.inr (.inr (.inr (.inl h2))))
  · exact hn' (.inr (.inr (.inr (.inr h1))))
 refine ⟨(merge_off o5).trans h.h5, ?_, (merge_off oO).trans h.ho, QIn.of hk fun n hn => merge_at (m2 n hn), fun v hv => ⟨(merge_off (hbl v hv)).trans (h.bl v hv).hs, (h.bl v hv).hl, (h.bl v hv).hle, (h.bl v hv).ht, (h.bl v hv).hp⟩, nd_cons3 ?_ ?_ ?_ ?_, ⟨hav _ (.inl rfl) h.av.1, hav _ (.inr (.inl rfl)) h.av.2.1, hav _ (.inr (.inr rfl)) h.av.2.2⟩, h.bto, h.bll⟩
 · rw [merge_off oB]
   exact h.bk
 · refine List.nodup_append.2 ⟨m1, hd.2.1, fun a ha b hb e => ?_⟩
   obtain ⟨v, hv, rfl⟩ := List.mem_map.1 hb
   exact hbl v hv (e ▸ m2 a ha)
 · intro hm
   rcases List.mem_append.1 hm with h1 | h1
   · exact o5 (m2 _ h1)
   · exact k2 (List.mem_append_right _ h1)
 · intro hm
   rcases List.mem_append.1 hm with h1 | h1
   · exact oB (m2 _ h1)
   · exact k3 (List.mem_append_right _ h1)
 · intro hm
   rcases List.mem_append.1 hm with h1 | h1
   · exact oO (m2 _ h1)
   · exact k4 (List.mem_append_right _ h1)
theorem CI.arc (h : CI σ c) {F : Int → Option V} (hF : MP (σ nB) F) (hB : BkF c.A F c.bl) (t u : W32) (k : Int) (v' : BL) (hto : v'.to = t) (hnm : v'.nm ∉ n5 :: nB :: nO :: (c.q.names ++ (c.bl.filter fun v => v.to != t).map BL.nm)) (hav : v'.nm ≠ n9 ∧ v'.nm ≠ nX ∧ v'.nm ≠ nY)
  (hl : v'.box.length = v'.c * 2) (hle : (bkOf c.A t).length + 1 ≤ v'.c) (ht : v'.box.take ((bkOf c.A t).length * 2) = flatC ((bkOf c.A t).map arcV)) (hr : (v'.box.drop ((bkOf c.A t).length * 2)).take 2 = (arcV (u, k)).cells) (hp : ∀ u ∈ v'.box, pureB u = true)
  {bB : Blk} (hbB : MP bB fun m => if m = t.toNat then some (.rsl v'.b ((bkOf c.A t).length + 1) v'.c) else F m) (hσ : ∀ n, σ' n = if n = nB then bB else if n = v'.nm then .box (.tag v'.b v'.box) else σ n) :
  CI σ' { c with bl := v' :: c.bl.filter fun v => v.to != t, A := c.A ++ [(t, u, k)] } := by
 obtain ⟨k1, k2, k3, k4⟩ := h.nd2
 have hd := List.nodup_append.1 k1
 simp only [List.mem_cons, List.mem_append, not_or] at hnm
 obtain ⟨q5, qB, qO, qq, qb⟩ := hnm
 have e1 : bkOf (c.A ++ [(t, u, k)]) t = bkOf c.A t ++ [(u, k)] := by rw [bkOf_snoc, if_pos rfl]
 have e2 : ∀ s, s ≠ t → bkOf (c.A ++ [(t, u, k)]) s = bkOf c.A s := fun s hs => by rw [bkOf_snoc, if_neg (fun e => hs e.symm), List.append_nil]
 have hfl : ∀ v ∈ c.bl.filter (fun v => v.to != t), v ∈ c.bl ∧ v.to ≠ t := fun v hv => by
  obtain ⟨h1, h2⟩ := List.mem_filter.1 hv
  exact ⟨h1, by simpa using h2⟩
 have hsl : ((c.bl.filter fun v => v.to != t).map BL.nm).Sublist (c.bl.map BL.nm) := List.filter_sublist.map _
 refine ⟨?_, ⟨fun m => if m = t.toNat then some (.rsl v'.b ((bkOf c.A t).length + 1) v'.c) else F m, ?_, ?_⟩, ?_, ?_, fun v hv => ?_, nd_cons3 ?_ ?_ ?_ ?_, ?_, ?_, ?_⟩
 · rw [hσ, if_neg (by decide), if_neg (fun e => q5 e.symm)]
   exact h.h5
 · rw [hσ, if_pos rfl]
   exact hbB
 · refine ⟨fun v hv => ?_, fun s hs => ?_⟩
   · rcases List.mem_cons.1 hv with rfl | hv
     · show (if (v.to.toNat : Int) = t.toNat then _ else _) = _
       rw [hto, if_pos rfl, e1, List.length_append]
       rfl
     · obtain ⟨h1, h2⟩ := hfl v hv
       show (if (v.to.toNat : Int) = t.toNat then _ else _) = _
       rw [if_neg (fun e => h2 (toNat_eq e)), e2 _ h2]
       exact hB.here v h1
   · have hst : s ≠ t := fun e => hs v' (by simp) (hto.trans e.symm)
     obtain ⟨h1, h2⟩ := hB.gone s fun v hv e => hs v (List.mem_cons_of_mem _ (List.mem_filter.2 ⟨hv, by simpa using fun e2 : v.to = t => hst (e.symm.trans e2)⟩)) e
     refine ⟨(if_neg fun e => hst (toNat_eq e)).trans h1, ?_⟩
     show bkOf (c.A ++ [(t, u, k)]) s = []
     rw [e2 s hst]
     exact h2
 · rw [hσ, if_neg (by decide), if_neg (fun e => qO e.symm)]
   exact h.ho
 · refine h.hq.congr fun n hn => ?_
   rw [hσ, if_neg (fun (e : n = nB) => k3 (e ▸ List.mem_append_left _ hn)), if_neg (fun (e : n = v'.nm) => qq (e ▸ hn))]
 · rcases List.mem_cons.1 hv with rfl | hv
   · refine ⟨?_, hl, ?_, ?_, hp⟩
     · rw [hσ, if_neg qB, if_pos rfl]
     · show (bkOf (c.A ++ [(t, u, k)]) v.to).length ≤ _
       rw [hto, e1, List.length_append]
       exact hle
     · show v.box.take ((bkOf (c.A ++ [(t, u, k)]) v.to).length * 2) = flatC ((bkOf (c.A ++ [(t, u, k)]) v.to).map arcV)
       rw [hto, e1, List.length_append, List.map_append, flatC_append, ← ht]
       have e3 : flatC ([(u, k)].map arcV) = (arcV (u, k)).cells := List.append_nil _
       rw [e3, ← hr, List.length_singleton, Nat.add_mul, Nat.one_mul]
       exact List.take_add
   · obtain ⟨h1, h2⟩ := hfl v hv
     have hb := h.bl v h1
     have hbk : bkOf (c.A ++ [(t, u, k)]) v.to = bkOf c.A v.to := e2 _ h2
     have hm : v.nm ∈ c.bl.map BL.nm := List.mem_map.2 ⟨v, h1, rfl⟩
     refine ⟨?_, hb.hl, by show (bkOf (c.A ++ [(t, u, k)]) v.to).length ≤ _; rw [hbk]; exact hb.hle, by show v.box.take ((bkOf (c.A ++ [(t, u, k)]) v.to).length * 2) = _; rw [hbk]; exact hb.ht, hb.hp⟩
     rw [hσ, if_neg (fun (e : v.nm = nB) => k3 (e ▸ List.mem_append_right _ hm)), if_neg (fun (e : v.nm = v'.nm) => qb (e ▸ List.mem_map.2 ⟨v, hv, rfl⟩))]
     exact hb.hs
 · show (c.q.names ++ (v'.nm :: (c.bl.filter fun v => v.to != t).map BL.nm)).Nodup
   refine List.nodup_append.2 ⟨hd.1, List.nodup_cons.2 ⟨qb, hsl.nodup hd.2.1⟩, fun a ha b hb e => ?_⟩
   rcases List.mem_cons.1 hb with rfl | hb
   · exact qq (e ▸ ha)
   · exact hd.2.2 a ha b (hsl.subset hb) e
 · show n5 ∉ c.q.names ++ (v'.nm :: (c.bl.filter fun v => v.to != t).map BL.nm)
   intro hm
   rcases List.mem_append.1 hm with h1 | h1
   · exact k2 (List.mem_append_left _ h1)
   · rcases List.mem_cons.1 h1 with h1 | h1
     · exact q5 h1.symm
     · exact k2 (List.mem_append_right _ (hsl.subset h1))
 · show nB ∉ c.q.names ++ (v'.nm :: (c.bl.filter fun v => v.to != t).map BL.nm)
   intro hm
   rcases List.mem_append.1 hm with h1 | h1
   · exact k3 (List.mem_append_left _ h1)
   · rcases List.mem_cons.1 h1 with h1 | h1
     · exact qB h1.symm
     · exact k3 (List.mem_append_right _ (hsl.subset h1))
 · show nO ∉ c.q.names ++ (v'.nm :: (c.bl.filter fun v => v.to != t).map BL.nm)
   intro hm
   rcases List.mem_append.1 hm with h1 | h1
   · exact k4 (List.mem_append_left _ h1)
   · rcases List.mem_cons.1 h1 with h1 | h1
     · exact qO h1.symm
     · exact k4 (List.mem_append_right _ (hsl.subset h1))
 · have key : ∀ n, v'.nm ≠ n → n ∉ c.names → n ∉ n5 :: nB :: nO :: (c.q.names ++ (v'.nm :: (c.bl.filter fun v => v.to != t).map BL.nm)) := fun n hn h1 hm => by
    simp only [CD.names, List.mem_cons, List.mem_append, not_or] at h1
    simp only [List.mem_cons, List.mem_append] at hm
    rcases hm with h2 | h2 | h2 | h2 | h2 | h2
    · exact h1.1 h2
    · exact h1.2.1 h2
    · exact h1.2.2.1 h2
    · exact h1.2.2.2.1 h2
    · exact hn h2.symm
    · exact h1.2.2.2.2 (hsl.subset h2)
   exact ⟨key _ hav.1 h.av.1, key _ hav.2.1 h.av.2.1, key _ hav.2.2 h.av.2.2⟩
 · show (v'.to :: (c.bl.filter fun v => v.to != t).map BL.to).Nodup
   refine List.nodup_cons.2 ⟨fun hm => ?_, (List.filter_sublist.map BL.to).nodup h.bto⟩
   obtain ⟨v, hv, e⟩ := List.mem_map.1 hm
   exact (hfl v hv).2 (e.trans hto)
 · show (v' :: c.bl.filter fun v => v.to != t).length ≤ (c.A ++ [(t, u, k)]).length
   rw [List.length_cons, List.length_append, List.length_singleton]
   have := List.length_filter_le (fun v : BL => v.to != t) c.bl
   have := h.bll
   omega
end
end Hm
end
section
namespace Hm
open Go
set_option maxRecDepth 100000
set_option maxHeartbeats 8000000
section
variable {G : Type} {P : Program} {H : HT G} {pn : List Nat} {Q : Exit → Env → Store → G → Prop} {fs : List (Frm G)} {ρ : Env} {σ : Store} {g : G} {r : List GItem} {a : Cmd}
theorem wi_at (n : Nat) (b : Blk) (h : σ n = b) (k : WI P H pn Q fs r ρ (ups σ n b) g) : WI P H pn Q fs r ρ σ g := by
 have e : ups σ n b = σ := by
  funext m
  rw [upt_if]
  by_cases c : m = n
  · rw [if_pos c, c, h]
  · rw [if_neg c]
 rw [e] at k
 exact k
theorem wc_at (n : Nat) (b : Blk) (h : σ n = b) (k : WC P H pn Q fs a ρ (ups σ n b) g) : WC P H pn Q fs a ρ σ g := by
 have e : ups σ n b = σ := by
  funext m
  rw [upt_if]
  by_cases c : m = n
  · rw [if_pos c, c, h]
  · rw [if_neg c]
 rw [e] at k
 exact k
theorem ups_at {n : Nat} {b : Blk} (h : σ n = b) : ups σ n b = σ := by
 funext m
 rw [upt_if]
 by_cases c : m = n
 · rw [if_pos c, c, h]
 · rw [if_neg c]
theorem wi_un {n : Nat} {b : Blk} (h : σ n = b) (k : WI P H pn Q fs r ρ σ g) : WI P H pn Q fs r ρ (ups σ n b) g := by rw [ups_at h]; exact k
theorem wc_un {n : Nat} {b : Blk} (h : σ n = b) (k : WC P H pn Q fs a ρ σ g) : WC P H pn Q fs a ρ (ups σ n b) g := by rw [ups_at h]; exact k
theorem c_if2 (hM : MonoH H) (R : Env → Store → Prop) (h : WC P H pn (fun e ρ' σ' g' => e = .normal ∧ R ρ' σ' ∧ g' = g) [] a ρ σ g) (k : ∀ ρ' σ', R ρ' σ' → WE P H pn Q fs .normal ρ' σ' g) : WC P H pn Q fs a ρ σ g := c_join hM _ h fun e ρ' σ' g' h => by
 obtain ⟨rfl, h2, rfl⟩ := h
 exact k _ _ h2
theorem c_gen (h : ∀ σ', σ' = σ → WC P H pn Q fs a ρ σ' g) : WC P H pn Q fs a ρ σ g := h σ rfl
end
theorem merge_restr (ns : List Nat) (σ : Store) : merge ns σ (restr ns σ) = σ := by
 funext n
 by_cases h : n ∈ ns
 · rw [merge_at h, restr_at h]
 · rw [merge_off h]
theorem unused_of {ns : List Nat} {σ : Store} (h : ∀ nm, σ nm ≠ .unused → nm ∈ ns) {n : Nat} (hn : n ∉ ns) : σ n = .unused := by
 cases hk : σ n with
 | unused => rfl
 | _ => exact absurd (h n (by rw [hk]; intro e; cases e)) hn
theorem arcsL_len {w : Wd} : ∀ l : List W32, (arcsL w l).length ≤ l.length * w.ops.length
 | [] => by simp [arcsL]
 | s :: r => by
  have := arcsL_len (w := w) r
  have h2 : (arcsOf w s).length ≤ w.ops.length := by unfold arcsOf; rw [List.length_map]; exact stepsFrom_len _ _ _
  rw [arcsL, List.length_append, List.length_cons, Nat.succ_mul]
  omega
theorem bkOf_len (A : List Arc) (t : W32) : (bkOf A t).length ≤ A.length := by
 unfold bkOf
 rw [List.length_map]
 exact List.length_filter_le _ _
theorem qbox0_closed {ns : List Nat} {b nF : Nat} {t : Int} (h : nF ∈ ns) : closedB ns (.tag b [.sl .nil [], .mp nF, .int .i64 t]) = true := by
 show (true && (closedB ns (.mp nF) && (true && true))) = true
 rw [mem_closed h]
 rfl
abbrev nQ0 : Nat := 4288195
abbrev nF0 : Nat := 4288064
structure L1 (w : Wd) (l : List W32) (u : Store × CD × Nat) : Prop where
 ci : CI u.1 u.2.1
 ks : u.2.1.ks = l.take u.2.2
 o : u.2.1.o = o0 w
 A : u.2.1.A = arcsL w (l.take u.2.2)
 kv : u.2.1.q.kv.Perm (kv0 w (l.take u.2.2))
 le : u.2.2 ≤ l.length
 out : ∀ nm, u.1 nm ≠ .unused → nm ∈ u.2.1.names
structure LM (w : Wd) (l : List W32) (k : Nat) (s : W32) (σ : Store) (c : CD) : Prop where
 ci : CI σ c
 ks : c.ks = l.take (k + 1)
 o : c.o = o0 w
 A : c.A = arcsL w (l.take k)
 kv : c.q.kv.Perm (kv0 w (l.take (k + 1)))
 h9 : σ n9 = .box (.int .u32 s.toNat)
theorem kv_len (q : HS) : q.kv.length = q.es.length := by simp [HS.kv, kvOf]
theorem kv0_len (w : Wd) (l : List W32) : (kv0 w l).length ≤ l.length := by
 unfold kv0
 rw [List.length_map]
 exact List.length_filter_le _ _
theorem kv0_snoc (w : Wd) (l : List W32) (s : W32) : kv0 w (l ++ [s]) = kv0 w l ++ (if w.isGoal s = true then [(s, 0)] else []) := by
 unfold kv0
 rw [List.filter_append, List.map_append]
 congr 1
 by_cases c : w.isGoal s = true
 · rw [if_pos c, List.filter_cons, if_pos c]; rfl
 · rw [if_neg c, List.filter_cons, if_neg c]; rfl
theorem names_len {σ : Store} {c : CD} (h : CI σ c) (hq : c.q.es.length ≤ 1000000) (hA : c.A.length ≤ 2000000000) : c.names.length ≤ 2001000006 := by
 have := h.bll
 simp only [CD.names, HS.names, List.length_cons, List.length_append, List.length_map]
 omega
theorem spare2 (av : List Nat) (h : av.length < 900000000000) : ∃ f1 f2 : Nat, f1 ≠ f2 ∧ f1 < 1000000000000 ∧ f2 < 1000000000000 ∧ f1 ∉ av ∧ f2 ∉ av := by
 obtain ⟨f1, h1, h2⟩ := fresh_name av (by omega)
 obtain ⟨f2, h3, h4⟩ := fresh_name (f1 :: av) (by simp; omega)
 exact ⟨f1, f2, fun e => h3 (by simp [e]), h2, h4, h1, fun h => h3 (by simp [h])⟩
theorem QIn.call {σ : Store} {q : HS} (h : QIn σ q) (f : List Nat) (hf : ∀ n ∈ f, σ n = .unused) : closedSt (f ++ q.names) σ (f ++ q.names) = true ∧ QOk (f ++ q.names) (restr (f ++ q.names) σ) q := by
 have k : QOk (f ++ q.names) (restr (f ++ q.names) σ) q := h.to (fun n hn => List.mem_append_right _ hn) fun n hn h1 => by
  rcases List.mem_append.1 hn with h2 | h2
  · exact hf n h2
  · exact absurd h2 h1
 exact ⟨Cl.of (σ := restr (f ++ q.names) σ) k.any.base.cl fun n hn => (restr_at hn).symm, k⟩
theorem CI.nmf {c : CD} (t : W32) {f : Nat} (hf : f ∉ c.names) : f ∉ n5 :: nB :: nO :: (c.q.names ++ (c.bl.filter fun v => v.to != t).map BL.nm) := fun hm => hf (by
 simp only [CD.names, List.mem_cons, List.mem_append] at hm ⊢
 rcases hm with h | h | h | h | h
 · exact .inl h
 · exact .inr (.inl h)
 · exact .inr (.inr (.inl h))
 · exact .inr (.inr (.inr (.inl h)))
 · exact .inr (.inr (.inr (.inr ((List.filter_sublist.map BL.nm).subset h)))))
theorem nd_inj {α β : Type} {f : α → β} : ∀ {l : List α} {a b : α}, (l.map f).Nodup → a ∈ l → b ∈ l → f a = f b → a = b
 | x :: r, a, b, h, ha, hb, e => by
  have h' := List.nodup_cons.1 h
  rcases List.mem_cons.1 ha with e1 | ha1
  · rcases List.mem_cons.1 hb with e2 | hb1
    · exact e1.trans e2.symm
    · exact (h'.1 (List.mem_map.2 ⟨b, hb1, by rw [← e1]; exact e.symm⟩)).elim
  · rcases List.mem_cons.1 hb with e2 | hb1
    · exact (h'.1 (List.mem_map.2 ⟨a, ha1, by rw [← e2]; exact e⟩)).elim
    · exact nd_inj h'.2 ha1 hb1 e
theorem CI.nmv {σ : Store} {c : CD} (h : CI σ c) {v : BL} (hv : v ∈ c.bl) : v.nm ∉ n5 :: nB :: nO :: (c.q.names ++ (c.bl.filter fun u => u.to != v.to).map BL.nm) := fun hm => by
 obtain ⟨k1, k2, k3, k4⟩ := h.nd2
 have hd := List.nodup_append.1 k1
 have hvm : v.nm ∈ c.bl.map BL.nm := List.mem_map.2 ⟨v, hv, rfl⟩
 simp only [List.mem_cons, List.mem_append] at hm
 rcases hm with e | e | e | e | e
 · exact k2 (e ▸ List.mem_append_right _ hvm)
 · exact k3 (e ▸ List.mem_append_right _ hvm)
 · exact k4 (e ▸ List.mem_append_right _ hvm)
 · exact hd.2.2 _ e _ hvm rfl
 · obtain ⟨u, hu, e2⟩ := List.mem_map.1 e
   obtain ⟨h1, h2⟩ := List.mem_filter.1 hu
   have := nd_inj hd.2.1 h1 hv e2
   rw [this] at h2
   simp at h2
section
variable {G : Type} {P : Program} {H : HT G} {pn : List Nat} {Q : Exit → Env → Store → G → Prop} {fs : List (Frm G)} {ρ : Env} {σ : Store} {g : G} {r : List GItem} {d : Nat}
theorem i_mgO {ks : List W32} {o : W32 → Int} {s : W32} {nm : Nat} {zero : V} {x i : Opd} (hx : ev ρ x = .mp nm) (hm : σ nm = outB ks o) (hi : ev ρ i = .int .u32 s.toNat) (hs : s ∈ ks) (h : WI P H pn Q fs r (upd ρ d (.int .i64 (o s))) σ g) : WI P H pn Q fs (.op (some d) none (.mget false zero x i) :: r) ρ σ g :=
 i_mg (k := .u32) (ns := ks.map toI) (vs := ks.map fun s => i64V (o s)) (by rw [hx]; simp only [mapOf, hm, outB]) hi rfl (by
  have : mgetv (ks.map toI) (ks.map fun s => i64V (o s)) (s.toNat : Int) = some (i64V (o s)) := out_get hs
  rw [this]
  rfl) h
end
theorem QInv.mono {w : Wd} {l : List W32} {o : W32 → Int} {kv : List (W32 × Int)} {W W' : W32 → W32 → Int → Prop} (h : QInv w l o kv W) (hW : ∀ t u c, W t u c → W' t u c) : QInv w l o kv W' :=
 ⟨h.nn, h.le, h.att, h.goal, h.key, h.nd, fun t u c ha => (h.arcs t u c ha).imp id fun h => h.imp id (hW t u c)⟩
theorem QInv.len {w : Wd} {l : List W32} {o : W32 → Int} {kv : List (W32 × Int)} {W : W32 → W32 → Int → Prop} (h : QInv w l o kv W) : kv.length ≤ l.length := by
 have := List.Nodup.length_le_of_subset h.nd (l₂ := l) fun x hx => by
  obtain ⟨p, hp, rfl⟩ := List.mem_map.1 hx
  exact (h.key p hp).1
 simpa using this
structure L2 (w : Wd) (l : List W32) (u : Store × CD) : Prop where
 ci : CI u.1 u.2
 ks : u.2.ks = l
 A : u.2.A = arcsL w l
 inv : QInv w l u.2.o u.2.q.kv fun _ _ _ => False
 out : ∀ nm, u.1 nm ≠ .unused → nm ∈ u.2.names
structure L3 (w : Wd) (l : List W32) (c0 : CD) (s : W32) (d : Int) (M : Nat) (u : Store × CD × Nat) : Prop where
 ci : CI u.1 u.2.1
 ks : u.2.1.ks = l
 A : u.2.1.A = arcsL w l
 bl : u.2.1.bl = c0.bl
 inv : QInv w l u.2.1.o u.2.1.q.kv fun t x k => t = s ∧ (x, k) ∈ (bkOf (arcsL w l) s).drop u.2.2
 os : u.2.1.o s = d
 le : u.2.2 ≤ (bkOf (arcsL w l) s).length
 out : ∀ nm, u.1 nm ≠ .unused → nm ∈ u.2.1.names
 mu : sumO u.2.1.o l * (l.length + 1) + u.2.1.q.es.length < M
structure RI (w : Wd) (s : W32) (ns : List Nat) (c1 : CD) (rem : List (Nat × Int × W32)) (σ : Store) (c : CD) (sp : List Nat) : Prop where
 ci : CI σ c
 q : c.q = c1.q
 ks : c.ks = c1.ks
 o : c.o = c1.o
 A : c.A ++ rem.map (fun e => (e.2.2, s, e.2.1)) = c1.A ++ arcsOf w s
 h9 : σ n9 = .box (.int .u32 s.toNat)
 len : rem.length ≤ sp.length
 nd : sp.Nodup
 sp : ∀ n ∈ sp, n ∈ ns ∧ n ∉ c.names ∧ (n ≠ n9 ∧ n ≠ nX ∧ n ≠ nY) ∧ n < 1000000000000 ∧ σ n = .unused
 sub : ∀ n ∈ c.names, n ∈ ns
 out : ∀ nm, σ nm ≠ .unused → nm ∈ ns
 cl : Cl ns σ
theorem f_space_Costs (w : Wd) (hc : CostOk w) (hol : w.ops.length ≤ 1000000) (l : List W32) (hnd : l.Nodup) (hll : l.length ≤ 2000) (hcl : ∀ s ∈ l, ∀ e ∈ w.steps s, e.2.2 ∈ l) (D : W32 → Int) (hD : ∀ s, Least w s (D s)) :
  Fc PG 31 [.cptr .p (wdR w) 0, .sl .p (l.map u32V)] (.mps .u32 (l.map toI) (l.map fun s => i64V (D s))) := by
 have hAl : ∀ k, (arcsL w (l.take k)).length ≤ 2000000000 := fun k => by
  refine Nat.le_trans (arcsL_len _) ?_
  have h1 : (l.take k).length ≤ 2000 := by rw [List.length_take]; omega
  exact Nat.le_trans (Nat.mul_le_mul h1 hol) (by decide)
 refine Fn.step mixed k_space_Costs ?_
 repeat (first | refine i_s rfl ?_ | refine sw ?_)
 refine i_mkm rfl ?_
 repeat (first | refine sw ?_ | refine i_stb rfl ?_ | refine i_alloc rfl ?_)
 refine i_mkm rfl ?_
 repeat (first | refine i_s rfl ?_ | refine sw ?_)
 refine i_cd [nF0, nQ0] rfl rfl rfl (ct_New (by simp) (by simp) fun nm => by
  by_cases h : nm ∈ [nF0, nQ0]
  · rw [restr_at h]
    simp only [List.mem_cons, List.not_mem_nil, or_false] at h
    rcases h with rfl | rfl <;> rfl
  · exact restr_off h) ?_
 rintro v σ' g' ⟨rfl, rfl, rfl⟩
 repeat (first | refine i_s rfl ?_ | refine sw ?_)
 refine c_tag rfl rfl fun b => ?_
 refine c_gen fun σa hσa => ?_
 obtain ⟨c0, hc0⟩ : ∃ c0 : CD, c0 = ⟨⟨nQ0, b, 1, 0, 0, [], nF0, 0, []⟩, [], [], [], o0 w⟩ := ⟨_, rfl⟩
 have a5 : σa n5 = .box (.mp nB) := by rw [hσa]; rfl
 have aB : σa nB = .mp .u32 [] [] := by rw [hσa]; rfl
 have aO : σa nO = .mp .u32 [] [] := by rw [hσa]; rfl
 have aQ : σa nQ0 = .box (.tag b [.sl .nil [], .mp nF0, .int .i64 0]) := by rw [hσa]; rfl
 have aF : σa nF0 = .mp .u32 [] [] := by rw [hσa]; rfl
 have a1 : σa 1 = .unused := by rw [hσa]; rfl
 clear hσa
 have hq0 : QIn σa c0.q := by
  subst hc0
  refine ⟨.inr ⟨(restr_at (by simp [HS.names])).trans aQ, rfl, ⟨(by show (1 : Nat) ≠ nQ0; decide), (by show (1 : Nat) ≠ nF0; decide), by simp [HS.names]⟩, (restr_at (by simp [HS.names])).trans a1, (by show nQ0 ≠ nF0; decide), by simp [HS.names], by simp [HS.names], ?_, fun nm h => restr_mem nm h⟩, fun _ => none, ?_, FMc.nil⟩
  · refine (closedSt_iff _ _ _).2 fun n hn row hr => ?_
    rw [restr_at hn] at hr
    simp only [HS.names, List.map_nil, List.mem_cons, List.not_mem_nil, or_false] at hn
    rcases hn with rfl | rfl | rfl
    · rw [aQ] at hr
      cases hr
      exact qbox0_closed (by simp [HS.names])
    · rw [a1] at hr; cases hr
    · rw [aF] at hr; cases hr
  · show MP (restr _ σa nF0) _
    rw [restr_at (by simp [HS.names]), aF]
    exact MP.nil
 have hI0 : CI σa c0 := by
  refine ⟨a5, ⟨fun _ => none, by rw [aB]; exact MP.nil, ?_⟩, by rw [aO, hc0]; rfl, hq0, (fun v hv => by rw [hc0] at hv; cases hv), ?_, ?_, by rw [hc0]; exact List.nodup_nil, by rw [hc0]; exact Nat.le_refl _⟩
  · rw [hc0]
    exact ⟨fun v hv => (by cases hv), fun _ _ => ⟨rfl, rfl⟩⟩
  · rw [hc0]; simp only [CD.names, HS.names, List.map_nil, List.append_nil]; decide
  · rw [hc0]; simp only [CD.names, HS.names, List.map_nil, List.append_nil]; decide
 have hE1 : ∀ (c : CD) (k : Int), closedE c.names [(0, .cptr .p (wdR w) 0), (5, .bptr n5 0), (6, .mp nO), (7, .raw c.q.bq 0), (19, .sl .p (l.map u32V)), (20, .int .i64 l.length), (21, .int .i64 k)] = true := fun c k => by
  simp only [closedE, closedB, (memB_iff n5 c.names).2 c.in5, (memB_iff nO c.names).2 c.inO, Bool.and_self]
 repeat (first | refine i_len rfl ?_ | refine i_s rfl ?_ | refine sw ?_)
 refine c_lp (fun u : Store × CD × Nat => [(0, .cptr .p (wdR w) 0), (5, .bptr n5 0), (6, .mp nO), (7, .raw u.2.1.q.bq 0), (19, .sl .p (l.map u32V)), (20, .int .i64 l.length), (21, .int .i64 u.2.2)]) (fun u => lsn u.2.1.names u.1) (L1 w l) (fun u => l.length - u.2.2) (restr c0.names σa, c0, 0)
  ⟨hI0.congr fun n hn => restr_at hn, by rw [hc0]; rfl, by rw [hc0], by rw [hc0]; rfl, by rw [hc0]; exact List.Perm.refl _, Nat.zero_le _, fun nm h => restr_mem nm h⟩
  (fit_ns ⟨rfl, rfl, rfl, by rw [hc0]; rfl, rfl, rfl, rfl, trivial⟩ (fun n hn => (restr_at hn).symm) (hE1 _ _) ((hI0.congr fun n hn => restr_at hn).cl (fun n hn => hn) fun n hn hm => absurd hn hm) (fun n hn => by cases hn)) fun u hu => ?_
 clear hI0 hq0 a5 aB aO aQ aF a1 hc0
 obtain ⟨σ, c, k⟩ := u
 obtain ⟨hI, hks, ho, hA, hkv, hk, hout⟩ := hu
 dsimp only at hI hks ho hA hkv hk hout
 show WC _ _ _ _ _ _ _ (stOf (lsn c.names σ)) _
 rw [stOf_lsn, restr_all hout]
 repeat (first | refine i_s rfl ?_ | refine sw ?_)
 refine c_cond rfl (fun h => ?_) (fun h => ?_)
 · have hlt : k < l.length := by simpa using h
   obtain ⟨s, hs⟩ := get_some hlt
   clear h
   have hsl : s ∈ l := mem_get hs
   have htk : l.take (k + 1) = l.take k ++ [s] := take_succ_get hs
   have hsn : s ∉ c.ks := by
    rw [hks]
    have := hnd
    rw [← List.take_append_drop (k + 1) l, htk, List.append_assoc] at this
    exact fun hm => (List.nodup_append.1 this).2.2 s hm s (by simp) rfl
   repeat (first | refine i_s rfl ?_ | refine sw ?_ | refine jd rfl rfl ?_)
   refine i_alloc (unused_of hout hI.av.1) ?_
   repeat (first | refine i_s rfl ?_ | refine sw ?_ | refine i_stb rfl ?_)
   refine i_mput (k := .u32) (ns := c.ks.map toI) (vs := c.ks.map fun s => i64V (c.o s)) rfl rfl ((upt_ne _ _ (by decide)).trans ((upt_ne _ _ (by decide)).trans hI.ho)) rfl rfl (out_new (s := s) (v := INF) hsn) ?_
   repeat (first | refine i_s rfl ?_ | refine sw ?_)
   refine i_f rfl rfl (f_space_Words_Goal w s) rfl ?_
   repeat refine sw ?_
   refine c_gen fun σb hσb => ?_
   have hb9 : σb n9 = .box (.int .u32 s.toNat) := by rw [hσb]; rfl
   have hIb : CI σb { c with ks := c.ks ++ [s], o := updO c.o s INF } := by
    rw [hσb]
    exact (hI.congr fun n hn => by rw [upt_ne _ _ (fun (e : n = n9) => hI.av.1 (e ▸ hn)), upt_ne _ _ (fun (e : n = n9) => hI.av.1 (e ▸ hn))]).out
   have hbu : ∀ n, n ≠ n9 → n ∉ c.names → σb n = .unused := fun n h1 h2 => by
    rw [hσb, upt_ne _ _ (fun (e : n = nO) => h2 (e ▸ c.inO)), upt_ne _ _ h1, upt_ne _ _ h1]
    exact unused_of hout h2
   clear hσb
   have hks' : c.ks ++ [s] = l.take (k + 1) := by rw [htk, hks]
   have hkl : c.q.es.length ≤ 2000 := by
    rw [← kv_len, hkv.length_eq]
    refine Nat.le_trans (kv0_len _ _) ?_
    rw [List.length_take]
    omega
   refine c_if2 noH_mono (fun ρ' σ' => FitsE [(0, .cptr .p (wdR w) 0), (5, .bptr n5 0), (6, .mp nO), (7, .raw c.q.bq 0), (9, .bptr n9 0), (19, .sl .p (l.map u32V)), (20, .int .i64 l.length), (21, .int .i64 k)] ρ' ∧ ∃ c', LM w l k s σ' c' ∧ c'.q.bq = c.q.bq) ?_ ?_
   · by_cases hg : w.isGoal s = true
     · rw [hg]
       refine wc_at n9 _ hb9 ?_
       repeat (first | refine i_s rfl ?_ | refine sw ?_ | refine c_t rfl ?_)
       refine i_mput (k := .u32) (ns := (c.ks ++ [s]).map toI) (vs := (c.ks ++ [s]).map fun x => i64V (updO c.o s INF x)) rfl rfl ((upt_ne _ _ (by decide)).trans hIb.ho) rfl rfl (out_upd (s := s) (v := 0) (by simp) (by rw [hks']; exact (List.take_sublist _ _).nodup hnd)) ?_
       repeat (first | refine i_s rfl ?_ | refine sw ?_)
       obtain ⟨f1, f2, fne, fl1, fl2, fn1, fn2⟩ := spare2 (n9 :: nX :: nY :: c.names) (by
        have := names_len hI (by omega) (by rw [hA]; exact hAl k)
        simp only [List.length_cons]
        omega)
       simp only [List.mem_cons, not_or] at fn1 fn2
       have hIc : CI (ups (ups σb n9 (.box (.int .u32 s.toNat))) nO (outB (c.ks ++ [s]) (updO (updO c.o s INF) s 0))) { c with ks := c.ks ++ [s], o := updO (updO c.o s INF) s 0 } :=
        CI.out (hIb.congr fun n hn => upt_ne _ _ fun (e : n = n9) => hIb.av.1 (e ▸ hn))
       have hfu : ∀ n ∈ [f1, f2], ups (ups σb n9 (.box (.int .u32 s.toNat))) nO (outB (c.ks ++ [s]) (updO (updO c.o s INF) s 0)) n = .unused := fun n hn => by
        simp only [List.mem_cons, List.not_mem_nil, or_false] at hn
        rcases hn with rfl | rfl
        · rw [upt_ne _ _ (fun (e : n = nO) => fn1.2.2.2 (e ▸ c.inO)), upt_ne _ _ fn1.1]
          exact hbu n fn1.1 fn1.2.2.2
        · rw [upt_ne _ _ (fun (e : n = nO) => fn2.2.2.2 (e ▸ c.inO)), upt_ne _ _ fn2.1]
          exact hbu n fn2.1 fn2.2.2.2
       obtain ⟨hq1, hq2⟩ := hIc.hq.call [f1, f2] hfu
       have hi1 : f1 ∈ [f1, f2] ++ c.q.names := by simp
       have hi2 : f2 ∈ [f1, f2] ++ c.q.names := by simp
       refine i_cd ([f1, f2] ++ c.q.names) rfl rfl hq1 (ct_Set hq2 (by show c.q.es.length < 1000000; omega) s 0 hi1 hi2 ((restr_at hi1).trans (hfu f1 (by simp))) ((restr_at hi2).trans (hfu f2 (by simp))) fne fl1 fl2 (fun hm => fn1.2.2.2 (c.inq hm))) ?_
       rintro v σ' g' ⟨⟨q', hn', hp'⟩, rfl⟩
       repeat refine sw ?_
       have hI2 := hIc.queue (f := [f1, f2]) (fun n hn => by
        simp only [List.mem_cons, List.not_mem_nil, or_false] at hn
        rcases hn with rfl | rfl
        · exact ⟨fn1.2.2.2, fn1.1, fn1.2.1, fn1.2.2.1⟩
        · exact ⟨fn2.2.2.2, fn2.1, fn2.2.1, fn2.2.2.1⟩) hn'.ok
       have hI3 := hI2.oext (o := o0 w) fun x hx => by
        show updO (updO c.o s INF) s 0 x = o0 w x
        unfold updO
        by_cases e : x = s
        · rw [if_pos e, e]
          unfold o0
          rw [if_pos hg]
        · rw [if_neg e, if_neg e, ho]
       have h9 : n9 ∉ [f1, f2] ++ c.q.names := by
        intro hm
        simp only [List.mem_append, List.mem_cons, List.not_mem_nil, or_false] at hm
        rcases hm with (h1 | h1) | h1
        · exact fn1.1 h1.symm
        · exact fn2.1 h1.symm
        · exact hI.av.1 (c.inq h1)
       refine e_end ⟨rfl, ⟨⟨rfl, rfl, rfl, rfl, rfl, rfl, rfl, rfl, trivial⟩, _, ⟨hI3, hks', rfl, hA, ?_, ?_⟩, hn'.bq⟩, rfl⟩
       · show q'.kv.Perm _
         have hfil : (c.q.kv.filter fun p => p.1 != s) = c.q.kv := by
          rw [List.filter_eq_self]
          intro p hp
          have h1 := hkv.mem_iff.1 hp
          obtain ⟨x, h2, rfl⟩ := List.mem_map.1 h1
          have h3 : x ∈ l.take k := (List.mem_filter.1 h2).1
          rw [← hks] at h3
          simpa using fun e : x = s => hsn (e ▸ h3)
         have hp2 : q'.kv.Perm ((s, 0) :: c.q.kv.filter fun p => p.1 != s) := hp'
         rw [hfil] at hp2
         rw [htk, kv0_snoc, if_pos hg]
         exact hp2.trans ((hkv.cons _).trans (List.perm_append_comm (l₁ := [(s, 0)])))
       · rw [merge_off h9, upt_ne _ _ (by decide), upt_self]
     · rw [Bool.eq_false_iff.2 hg]
       repeat (first | refine sw ?_ | refine c_f rfl ?_)
       have hI3 := hIb.oext (o := o0 w) fun x hx => by
        show updO c.o s INF x = o0 w x
        unfold updO
        by_cases e : x = s
        · rw [if_pos e, e]
          unfold o0
          rw [if_neg hg]
        · rw [if_neg e, ho]
       refine e_end ⟨rfl, ⟨⟨rfl, rfl, rfl, rfl, rfl, rfl, rfl, rfl, trivial⟩, _, ⟨hI3, hks', rfl, hA, ?_, hb9⟩, rfl⟩, rfl⟩
       rw [htk, kv0_snoc, if_neg hg, List.append_nil]
       exact hkv
   intro ρ' σ1 ⟨hE, c1, hL, hbq⟩
   clear hIb hbu hb9
   refine e_seq ?_
   rw [← hbq] at hE
   have hkl1 : c1.q.es.length ≤ 2000 := by
    rw [← kv_len, hL.kv.length_eq]
    refine Nat.le_trans (kv0_len _ _) ?_
    rw [List.length_take]
    omega
   have hcl1 : ∀ ns : List Nat, (∀ n ∈ c1.names, n ∈ ns) → (∀ n ∈ ns, n ∉ n9 :: c1.names → σ1 n = .unused) → Cl ns σ1 := fun ns h1 h2 => hL.ci.cl h1 fun n hn hm row hr => by
    by_cases e : n = n9
    · rw [e, hL.h9] at hr; cases hr; rfl
    · rw [h2 n hn (by simp only [List.mem_cons, not_or]; exact ⟨e, hm⟩)] at hr; cases hr
   have hE9 : ∀ (ns : List Nat), (∀ n ∈ c1.names, n ∈ ns) → n9 ∈ ns → closedE ns [(0, .cptr .p (wdR w) 0), (5, .bptr n5 0), (6, .mp nO), (7, .raw c1.q.bq 0), (9, .bptr n9 0), (19, .sl .p (l.map u32V)), (20, .int .i64 l.length), (21, .int .i64 k)] = true := fun ns h1 h2 => by
    simp only [closedE, closedB, (memB_iff n5 ns).2 (h1 _ c1.in5), (memB_iff nO ns).2 (h1 _ c1.inO), (memB_iff n9 ns).2 h2, Bool.and_self]
   refine c_cut [(0, .cptr .p (wdR w) 0), (5, .bptr n5 0), (6, .mp nO), (7, .raw c1.q.bq 0), (9, .bptr n9 0), (19, .sl .p (l.map u32V)), (20, .int .i64 l.length), (21, .int .i64 k)] (lsn (n9 :: c1.names) σ1)
    (fit_ns hE (fun _ _ => rfl) (hE9 _ (fun n hn => List.mem_cons_of_mem _ hn) (by simp)) (hcl1 _ (fun n hn => List.mem_cons_of_mem _ hn) fun n hn hm => absurd hn hm) (fun n hn => by cases hn)) ?_
   rw [stOf_lsn]
   refine c_gen fun σ2 hσ2 => ?_
   have h29 : σ2 n9 = .box (.int .u32 s.toNat) := by rw [hσ2, restr_at (by simp)]; exact hL.h9
   have hI2 : CI σ2 c1 := by
    rw [hσ2]
    exact hL.ci.congr fun n hn => restr_at (List.mem_cons_of_mem _ hn)
   have hout2 : ∀ nm, σ2 nm ≠ .unused → nm ∈ n9 :: c1.names := fun nm h => by
    rw [hσ2] at h
    exact restr_mem nm h
   have hks2 := hL.ks
   have ho2 := hL.o
   have hA2 := hL.A
   have hkv2 := hL.kv
   clear hσ2 hL hcl1 hE
   refine wc_at n9 _ h29 ?_
   repeat (first | refine i_s rfl ?_ | refine sw ?_)
   refine i_f rfl rfl (f_space_Words_Steps w s) rfl ?_
   repeat refine sw ?_
   refine wc_un h29 ?_
   obtain ⟨sp, hsp1, hsp2, hsp3⟩ := fresh_list (n9 :: nX :: nY :: c1.names) (w.steps s).length (by
    have h1 := names_len hI2 (by omega) (by rw [hA2]; exact hAl k)
    have h2 : (w.steps s).length ≤ w.ops.length := stepsFrom_len _ _ _
    simp only [List.length_cons]
    omega)
   have hsub : ∀ n ∈ c1.names, n ∈ sp ++ n9 :: c1.names := fun n hn => List.mem_append_right _ (List.mem_cons_of_mem _ hn)
   have hn9 : n9 ∈ sp ++ n9 :: c1.names := List.mem_append_right _ (by simp)
   have hnX : nX ∉ sp ++ n9 :: c1.names := fun hm => by
    rcases List.mem_append.1 hm with h1 | h1
    · exact (hsp3 _ h1).1 (by simp)
    · rcases List.mem_cons.1 h1 with h1 | h1
      · exact absurd h1 (by decide)
      · exact hI2.av.2.1 h1
   have hcl2 : Cl (sp ++ n9 :: c1.names) σ2 := hI2.cl hsub fun n hn hm row hr => by
    by_cases e : n = n9
    · rw [e, h29] at hr; cases hr; rfl
    · have hu : σ2 n = .unused := unused_of hout2 (by simp only [List.mem_cons, not_or]; exact ⟨e, hm⟩)
      rw [hu] at hr; cases hr
   refine c_range0 (sp ++ n9 :: c1.names) [(0, .cptr .p (wdR w) 0), (5, .bptr n5 0), (6, .mp nO), (7, .raw c1.q.bq 0), (9, .bptr n9 0), (19, .sl .p (l.map u32V)), (20, .int .i64 l.length), (21, .int .i64 k)] rfl ⟨rfl, rfl, rfl, rfl, rfl, rfl, rfl, rfl, trivial⟩ hcl2 (fun nm h => List.mem_append_right _ (hout2 nm h)) (fun n hn => by cases hn) (hE9 _ hsub hn9) rfl ?_
   refine Cc_mono ?_ (ct_Steps_1 w s (by omega) _ (fun x : RG Unit => x.2.2 = none ∧ ∃ c sp', RI w s (sp ++ n9 :: c1.names) c1 [] x.1 c sp') (YL_inv (fun rem (x : RG Unit) => x.2.2 = none ∧ ∃ c sp', RI w s (sp ++ n9 :: c1.names) c1 rem x.1 c sp') ?_ (fun s h => h) (w.steps s) _
    ⟨rfl, c1, sp, hI2, rfl, rfl, rfl, rfl, h29, by rw [hsp1]; exact Nat.le_refl _, hsp2, fun n hn => ?_, hsub, fun nm h => List.mem_append_right _ (hout2 nm h), hcl2⟩))
   · rintro v σ' x ⟨rfl, hx, c3, sp3, hR⟩
     obtain ⟨σx, gx, ox⟩ := x
     simp only at hx hR
     subst hx
     show WE _ _ _ _ _ .normal _ _ _
     repeat (first | refine i_s rfl ?_ | refine sw ?_ | refine ja rfl rfl ?_)
     have hA3 := hR.A
     rw [List.map_nil, List.append_nil, hA2] at hA3
     have hI3 : CI (restr c3.names σx) c3 := hR.ci.congr fun n hn => restr_at hn
     exact e_lp (restr c3.names σx, c3, k + 1) ⟨hI3, hR.ks.trans hks2, hR.o.trans ho2, by show c3.A = arcsL w (l.take (k + 1)); rw [hA3, htk, arcsL_append]; simp [arcsL], by show c3.q.kv.Perm _; rw [hR.q]; exact hkv2, hlt, fun nm h => restr_mem nm h⟩ (by show l.length - (k + 1) < l.length - k; omega)
      (fit_ns ⟨rfl, rfl, rfl, by rw [hR.q]; rfl, rfl, rfl, rfl, trivial⟩ (fun n hn => (restr_at hn).symm) (hE1 c3 _) (hI3.cl (fun n hn => hn) fun n hn hm => absurd hn hm) (fun n hn => by cases hn))
   · intro e r x hx K hk
     obtain ⟨σx, gx, ox⟩ := x
     obtain ⟨hx0, cx, sp', hR⟩ := hx
     simp only at hx0 hR
     subst hx0
     obtain ⟨f, sp2, rfl⟩ : ∃ f sp2, sp' = f :: sp2 := by
      cases hsp : sp' with
      | nil => have := hR.len; rw [hsp] at this; simp at this
      | cons a b => exact ⟨a, b, rfl⟩
     obtain ⟨hf1, hf2, ⟨hf3, hf4, hf5⟩, hf6, hf7⟩ := hR.sp f (by simp)
     refine rh_intro noH_mono rfl ?_
     refine wc_at n5 _ hR.ci.h5 ?_
     refine wc_at n9 _ ((upt_ne _ _ (by decide)).trans hR.h9) ?_
     repeat refine sw ?_
     refine i_alloc (by rw [upt_ne _ _ (by decide), upt_ne _ _ (by decide)]; exact unused_of hR.out hnX) ?_
     repeat (first | refine sw ?_ | refine i_stb rfl ?_)
     refine e_end ?_
     show WC _ _ _ _ [] _ _ _ _
     refine c_gen fun σy hσy => ?_
     have hyn : ∀ n, n ≠ nX → σy n = σx n := fun n hn => by
      rw [hσy, upt_ne _ _ hn, upt_ne _ _ hn]
      rw [ups_at (show ups σx n5 (.box (.mp nB)) n9 = .box (.int .u32 s.toNat) from (upt_ne _ _ (by decide)).trans hR.h9), ups_at hR.ci.h5]
     have yX : σy nX = .box (stV e) := by rw [hσy]; exact upt_self _ _ _
     have hIy : CI σy cx := hR.ci.congr fun n hn => hyn n fun (e : n = nX) => hR.ci.av.2.1 (e ▸ hn)
     have y9 : σy n9 = .box (.int .u32 s.toNat) := (hyn _ (by decide)).trans hR.h9
     have yf : σy f = .unused := (hyn f hf4).trans hf7
     clear hσy
     obtain ⟨F, hF, hB⟩ := hIy.bk
     have hfB : f ≠ nB := fun h => hf2 (h ▸ cx.inB)
     have hfn5 : f ≠ n5 := fun h => hf2 (h ▸ cx.in5)
     have hS : ups (ups (ups σy n5 (.box (.mp nB))) n9 (.box (.int .u32 s.toNat))) nX (.box (stV e)) = σy := by
      rw [ups_at (show ups (ups σy n5 (.box (.mp nB))) n9 (.box (.int .u32 s.toNat)) nX = .box (stV e) from (upt_ne _ _ (by decide)).trans ((upt_ne _ _ (by decide)).trans yX)), ups_at (show ups σy n5 (.box (.mp nB)) n9 = .box (.int .u32 s.toNat) from (upt_ne _ _ (by decide)).trans y9), ups_at hIy.h5]
     have hAr : cx.A ++ [(e.2.2, s, e.2.1)] ++ r.map (fun e => (e.2.2, s, e.2.1)) = c1.A ++ arcsOf w s := by
      have := hR.A
      rw [List.map_cons] at this
      rw [← this, List.append_assoc]
      rfl
     have hbl : (bkOf cx.A e.2.2).length ≤ 100000000000 := by
      have h1 := bkOf_len cx.A e.2.2
      have h2 := congrArg List.length hR.A
      have h3 : (arcsOf w s).length ≤ w.ops.length := by unfold arcsOf; rw [List.length_map]; exact stepsFrom_len _ _ _
      have h4 := hAl k
      rw [← hA2] at h4
      simp only [List.length_append, List.length_map] at h2
      omega
     have fin : ∀ (v' : BL) (bB : Blk), v'.to = e.2.2 → (v'.nm = f ∨ ∃ v ∈ cx.bl, v.to = e.2.2 ∧ v'.nm = v.nm) → v'.box.length = v'.c * 2 → (bkOf cx.A e.2.2).length + 1 ≤ v'.c → v'.box.take ((bkOf cx.A e.2.2).length * 2) = flatC ((bkOf cx.A e.2.2).map arcV) → (v'.box.drop ((bkOf cx.A e.2.2).length * 2)).take 2 = (arcV (s, e.2.1)).cells → (∀ u ∈ v'.box, pureB u = true) →
       (MP bB fun m => if m = e.2.2.toNat then some (.rsl v'.b ((bkOf cx.A e.2.2).length + 1) v'.c) else F m) →
       Cl (sp ++ n9 :: c1.names) (ups (ups σy v'.nm (.box (.tag v'.b v'.box))) nB bB) ∧ K (.bool true) (restr (sp ++ n9 :: c1.names) (ups (ups σy v'.nm (.box (.tag v'.b v'.box))) nB bB), gx, none) := by
      intro v' bB k1 k2 k3 k4 k5 k6 k7 k8
      have hnm : v'.nm ∉ n5 :: nB :: nO :: (cx.q.names ++ (cx.bl.filter fun v => v.to != e.2.2).map BL.nm) ∧ (v'.nm ≠ n9 ∧ v'.nm ≠ nX ∧ v'.nm ≠ nY) ∧ v'.nm ∈ sp ++ n9 :: c1.names := by
       rcases k2 with k2 | ⟨v, hv, ht, k2⟩
       · rw [k2]
         exact ⟨CI.nmf _ hf2, ⟨hf3, hf4, hf5⟩, hf1⟩
       · rw [k2, ← ht]
         have hvn := cx.inbl hv
         exact ⟨hIy.nmv hv, ⟨fun e => hIy.av.1 (e ▸ hvn), fun e => hIy.av.2.1 (e ▸ hvn), fun e => hIy.av.2.2 (e ▸ hvn)⟩, hR.sub _ hvn⟩
      have hI4 := hIy.arc hF hB e.2.2 s e.2.1 v' k1 hnm.1 hnm.2.1 k3 k4 k5 k6 k7 k8 (σ' := ups (ups σy v'.nm (.box (.tag v'.b v'.box))) nB bB) (fun n => by simp only [upt_if])
      have hcl4 : Cl (sp ++ n9 :: c1.names) (ups (ups σy v'.nm (.box (.tag v'.b v'.box))) nB bB) := by
       refine Cl.ups (Cl.ups (hR.cl.of fun nm hm => hyn nm fun (e : nm = nX) => hnX (e ▸ hm)) fun row hr => ?_) fun row hr => (k8.box row hr).elim
       cases hr
       exact box_closed _ k7
      refine ⟨hcl4, hk _ ⟨rfl, { cx with bl := v' :: cx.bl.filter fun v => v.to != e.2.2, A := cx.A ++ [(e.2.2, s, e.2.1)] }, sp2, ?_⟩⟩
      have hnames : ∀ n ∈ CD.names { cx with bl := v' :: cx.bl.filter fun v => v.to != e.2.2, A := cx.A ++ [(e.2.2, s, e.2.1)] }, n = v'.nm ∨ n ∈ cx.names := fun n hn => by
       have hn : n ∈ n5 :: nB :: nO :: (cx.q.names ++ (v'.nm :: (cx.bl.filter fun v => v.to != e.2.2).map BL.nm)) := hn
       simp only [List.mem_cons, List.mem_append] at hn
       simp only [CD.names, List.mem_cons, List.mem_append]
       rcases hn with h | h | h | h | h | h
       · exact .inr (.inl h)
       · exact .inr (.inr (.inl h))
       · exact .inr (.inr (.inr (.inl h)))
       · exact .inr (.inr (.inr (.inr (.inl h))))
       · exact .inl h
       · exact .inr (.inr (.inr (.inr (.inr ((List.filter_sublist.map BL.nm).subset h)))))
      have hsub4 : ∀ n ∈ CD.names { cx with bl := v' :: cx.bl.filter fun v => v.to != e.2.2, A := cx.A ++ [(e.2.2, s, e.2.1)] }, n ∈ sp ++ n9 :: c1.names := fun n hn => by
       rcases hnames n hn with h | h
       · rw [h]; exact hnm.2.2
       · exact hR.sub n h
      have hnd := List.nodup_cons.1 hR.nd
      refine ⟨hI4.congr fun n hn => restr_at (hsub4 n hn), hR.q, hR.ks, hR.o, hAr, ?_, ?_, hnd.2, fun n hn => ?_, hsub4, fun nm h => restr_mem nm h, hcl4.restr⟩
      · refine (restr_at hn9).trans ?_
        rw [upt_ne _ _ (by decide), upt_ne _ _ (fun e => hnm.2.1.1 e.symm)]
        exact y9
      · have := hR.len
        simp at this
        exact this
      · obtain ⟨q1, q2, q3, q4, q5⟩ := hR.sp n (List.mem_cons_of_mem _ hn)
        have hnv : n ≠ v'.nm := fun h => by
         rcases k2 with k2 | ⟨v, hv, _, k2⟩
         · rw [h, k2] at hn
           exact hnd.1 hn
         · exact q2 (h ▸ k2 ▸ cx.inbl hv)
        refine ⟨q1, fun hm => ?_, q3, q4, ?_⟩
        · rcases hnames n hm with h | h
          · exact hnv h
          · exact q2 h
        · refine (restr_at q1).trans ?_
          rw [upt_ne _ _ (fun (e : n = nB) => q2 (e ▸ cx.inB)), upt_ne _ _ hnv]
          exact (hyn n q3.2.1).trans q5
     refine wc_at n5 _ hIy.h5 ?_
     refine wc_at n9 _ ((upt_ne _ _ (by decide)).trans y9) ?_
     refine wc_at nX _ ((upt_ne _ _ (by decide)).trans ((upt_ne _ _ (by decide)).trans yX)) ?_
     by_cases ht : ∃ v ∈ cx.bl, v.to = e.2.2
     · obtain ⟨v, hv, hvt⟩ := ht
       have hFt := hB.here v hv
       have hvb := hIy.bl v hv
       rw [hvt] at hFt
       have hle := hvb.hle
       rw [hvt] at hle
       have hvn5 : v.nm ≠ n5 := fun h => hIy.nmv hv (by rw [h]; simp)
       have hvn : v.nm ≠ n9 ∧ v.nm ≠ nX := ⟨fun e => hIy.av.1 (e ▸ cx.inbl hv), fun e => hIy.av.2.1 (e ▸ cx.inbl hv)⟩
       repeat' (first | refine i_s rfl ?_ | refine sw ?_ | refine c_node ?_ ?_ | refine i_mgF (v := .rsl v.b (bkOf cx.A e.2.2).length v.c) rfl hF rfl rfl (by rw [hFt]; rfl) ?_)
       all_goals
        rw [hS]
        refine i_ap1 v.nm f rfl rfl ⟨rfl, rfl⟩ (by decide) hbl hvb.hs hvb.hl hle yf hf6 (fun nm2 b2 c2 l2 k0 k1 k2 k3 k4 k5 => ?_)
        have hn2 : nm2 ≠ n5 ∧ nm2 ≠ n9 ∧ nm2 ≠ nX ∧ nm2 ≠ nB := by
         rcases k0 with rfl | rfl
         · exact ⟨hvn5, hvn.1, hvn.2, fun h => hIy.nmv hv (by rw [h]; simp)⟩
         · exact ⟨hfn5, hf3, hf4, hfB⟩
        have g5 : ups σy nm2 (.box (.tag b2 l2)) n5 = .box (.mp nB) := (upt_ne _ _ (fun e => hn2.1 e.symm)).trans hIy.h5
        have gX : ups (ups σy nm2 (.box (.tag b2 l2))) n5 (.box (.mp nB)) nX = .box (stV e) := (upt_ne _ _ (by decide)).trans ((upt_ne _ _ (fun e => hn2.2.2.1 e.symm)).trans yX)
        refine wi_at n5 _ g5 ?_
        refine wi_at nX _ gX ?_
        repeat refine i_s rfl ?_
        refine wi_un gX ?_
        refine wi_un g5 ?_
        refine i_mputF (nm := nB) rfl rfl (hF.is (upt_ne _ _ (fun e => hn2.2.2.2 e.symm)).symm) rfl rfl rfl (fun bB hbB => ?_)
        repeat refine sw ?_
        obtain ⟨z1, z2⟩ := fin ⟨e.2.2, nm2, b2, c2, l2⟩ bB rfl (by
          rcases k0 with k0 | k0
          · exact .inr ⟨v, hv, hvt, k0⟩
          · exact .inl k0) k1 k2 (by rw [← hvt]; rw [← hvt] at k3; exact k3.trans hvb.ht) k4 (k5 hvb.hp (fun u hu => by
            simp only [V.cells, List.mem_cons, List.not_mem_nil, or_false] at hu
            rcases hu with rfl | rfl <;> rfl)) hbB
        refine e_end ?_
        exact rhq_ns z1 z2
     · have hnt : ∀ v ∈ cx.bl, v.to ≠ e.2.2 := fun v hv h => ht ⟨v, hv, h⟩
       obtain ⟨hFt, hnil⟩ := hB.gone _ hnt
       repeat' (first | refine i_s rfl ?_ | refine sw ?_ | refine c_node ?_ ?_ | refine i_mgF (v := .sl .nil []) rfl hF rfl rfl (by rw [hFt]; rfl) ?_)
       all_goals
        rw [hS]
        refine i_ap0 f rfl rfl ⟨rfl, rfl⟩ (by decide) yf hf6 (fun b2 c2 l2 k1 k2 k3 k5 => ?_)
        have g5 : ups σy f (.box (.tag b2 l2)) n5 = .box (.mp nB) := (upt_ne _ _ (fun e => hfn5 e.symm)).trans hIy.h5
        have gX : ups (ups σy f (.box (.tag b2 l2))) n5 (.box (.mp nB)) nX = .box (stV e) := (upt_ne _ _ (by decide)).trans ((upt_ne _ _ (fun e => hf4 e.symm)).trans yX)
        refine wi_at n5 _ g5 ?_
        refine wi_at nX _ gX ?_
        repeat refine i_s rfl ?_
        refine wi_un gX ?_
        refine wi_un g5 ?_
        refine i_mputF (nm := nB) rfl rfl (hF.is (upt_ne _ _ (fun e => hfB e.symm)).symm) rfl rfl rfl (fun bB hbB => ?_)
        repeat refine sw ?_
        obtain ⟨z1, z2⟩ := fin ⟨e.2.2, f, b2, c2, l2⟩ bB rfl (.inl rfl) k1 (by rw [hnil]; exact k2) (by rw [hnil]; simp [flatC]) (by rw [hnil]; exact k3) (k5 (fun u hu => by
           simp only [V.cells, List.mem_cons, List.not_mem_nil, or_false] at hu
           rcases hu with rfl | rfl <;> rfl)) (by rw [hnil]; exact hbB)
        refine e_end ?_
        exact rhq_ns z1 z2
   · have h1 := hsp3 n hn
     simp only [List.mem_cons, not_or] at h1
     refine ⟨List.mem_append_left _ hn, h1.1.2.2.2, ⟨h1.1.1, h1.1.2.1, h1.1.2.2.1⟩, h1.2, unused_of hout2 ?_⟩
     simp only [List.mem_cons, not_or]
     exact ⟨h1.1.1, h1.1.2.2.2⟩
 · have hge : k = l.length := by have : ¬ k < l.length := by simpa using h
                                 omega
   subst hge
   rw [List.take_length] at hks hA hkv
   have hR0 : QInv w l c.o c.q.kv fun _ _ _ => False := by rw [ho]; exact QInv.start hc hnd hcl hkv
   clear h hkv ho hE1 hk
   have hAn : (arcsL w l).length ≤ 2000000000 := by have := hAl l.length; rw [List.take_length] at this; exact this
   have hE2 : ∀ c : CD, closedE c.names [(5, .bptr n5 0), (6, .mp nO), (7, .raw c.q.bq 0)] = true := fun c => by
    simp only [closedE, closedB, (memB_iff n5 c.names).2 c.in5, (memB_iff nO c.names).2 c.inO, Bool.and_self]
   repeat refine sw ?_
   refine c_lp (fun u : Store × CD => [(5, .bptr n5 0), (6, .mp nO), (7, .raw u.2.q.bq 0)]) (fun u => lsn u.2.names u.1) (L2 w l) (fun u => sumO u.2.o l * (l.length + 1) + u.2.q.es.length) (σ, c) ⟨hI, hks, hA, hR0, hout⟩
    (fit_ns ⟨rfl, rfl, rfl, trivial⟩ (fun _ _ => rfl) (hE2 c) (hI.cl (fun n hn => hn) fun n hn hm => absurd hn hm) (fun n hn => by cases hn)) fun u hu => ?_
   clear hI hks hA hR0 hout
   obtain ⟨σ, c⟩ := u
   obtain ⟨hI, hks, hA, hinv, hout⟩ := hu
   dsimp only at hI hks hA hinv hout
   show WC _ _ _ _ _ _ _ (stOf (lsn c.names σ)) _
   rw [stOf_lsn, restr_all hout]
   have hel : c.q.es.length ≤ l.length := by rw [← kv_len]; exact hinv.len
   obtain ⟨hq1, hq2⟩ := hI.hq.call [] (fun n hn => by cases hn)
   repeat (first | refine i_s rfl ?_ | refine sw ?_)
   refine i_cd ([] ++ c.q.names) rfl rfl hq1 (ct_QLen hq2.any) ?_
   rintro v σ' g' ⟨rfl, rfl, rfl⟩
   rw [merge_restr]
   repeat (first | refine i_s rfl ?_ | refine sw ?_)
   refine c_cond rfl (fun h => ?_) (fun h => ?_)
   · have hne : c.q.es ≠ [] := fun e => by rw [e] at h; simp at h
     clear h
     repeat (first | refine i_s rfl ?_ | refine sw ?_)
     refine i_cd ([] ++ c.q.names) rfl rfl hq1 (ct_Take hq2 hne) ?_
     rintro v σ' g' ⟨⟨q', s, d, hn', hp', rfl⟩, rfl⟩
     have hI2 := hI.queue (f := []) (fun n hn => by cases hn) hn'.ok
     obtain ⟨hin2, hsl, hds, hdI⟩ := (hinv.perm hp').take
     have hel2 : q'.es.length + 1 = c.q.es.length := by
      have h1 : c.q.kv.length = _ := hp'.length_eq
      rw [List.length_cons] at h1
      have h2 := kv_len c.q
      have h3 := kv_len q'
      omega
     generalize merge ([] ++ c.q.names) σ σ' = σ2 at hI2 ⊢
     have hd0 : 0 ≤ d := by rw [hds]; exact hinv.nn s hsl
     have hd1 : d < 1000000000 := hdI
     obtain ⟨F, hF, hB⟩ := hI2.bk
     change BkF c.A F c.bl at hB
     rw [hA] at hB
     obtain ⟨vv, hvv, hcase⟩ : ∃ vv, mres false (.sl .nil []) (F (s.toNat : Int)) = vv ∧ ((vv = .sl .nil [] ∧ bkOf (arcsL w l) s = []) ∨ ∃ b0 ∈ c.bl, b0.to = s ∧ vv = .rsl b0.b (bkOf (arcsL w l) s).length b0.c) := by
      by_cases ht : ∃ v ∈ c.bl, v.to = s
      · obtain ⟨v, hv, rfl⟩ := ht
        exact ⟨_, rfl, .inr ⟨v, hv, rfl, by rw [hB.here v hv]; rfl⟩⟩
      · obtain ⟨h1, h2⟩ := hB.gone s fun v hv e => ht ⟨v, hv, e⟩
        exact ⟨_, rfl, .inl ⟨by rw [h1]; rfl, h2⟩⟩
     have hvc : ∀ ns, closedB ns vv = true := fun ns => by rcases hcase with ⟨rfl, _⟩ | ⟨_, _, _, rfl⟩ <;> rfl
     have hE3 : ∀ (c : CD) (j : Int), closedE c.names [(5, .bptr n5 0), (6, .mp nO), (7, .raw c.q.bq 0), (12, .int .i64 d), (64, vv), (65, .int .i64 (bkOf (arcsL w l) s).length), (66, .int .i64 j)] = true := fun c j => by
      simp only [closedE, closedB, (memB_iff n5 c.names).2 c.in5, (memB_iff nO c.names).2 c.inO, hvc, Bool.and_self]
     repeat (first | refine i_s rfl ?_ | refine sw ?_)
     refine wi_at n5 _ hI2.h5 ?_
     repeat refine i_s rfl ?_
     refine i_mgF rfl hF rfl rfl hvv ?_
     refine wi_un hI2.h5 ?_
     skip
     refine i_lenR (n := (bkOf (arcsL w l) s).length) rfl (by
      rcases hcase with ⟨h1, h2⟩ | ⟨b0, _, _, h1⟩
      · exact .inl ⟨h1, by rw [h2]; rfl⟩
      · exact .inr ⟨_, _, h1⟩) ?_
     repeat (first | refine i_s rfl ?_ | refine sw ?_)
     obtain ⟨M, hM⟩ : ∃ M, M = sumO c.o l * (l.length + 1) + c.q.es.length := ⟨_, rfl⟩
     have hI2r : CI (restr (CD.names { c with q := q' }) σ2) { c with q := q' } := hI2.congr fun n hn => restr_at hn
     refine c_lp (fun u : Store × CD × Nat => [(5, .bptr n5 0), (6, .mp nO), (7, .raw u.2.1.q.bq 0), (12, .int .i64 d), (64, vv), (65, .int .i64 (bkOf (arcsL w l) s).length), (66, .int .i64 u.2.2)]) (fun u => lsn u.2.1.names u.1) (L3 w l c s d M) (fun u => (bkOf (arcsL w l) s).length - u.2.2) (restr (CD.names { c with q := q' }) σ2, { c with q := q' }, 0)
      ⟨hI2r, hks, hA, rfl, hin2, hds.symm, Nat.zero_le _, fun nm h => restr_mem nm h, by show sumO c.o l * (l.length + 1) + q'.es.length < M; omega⟩
      (fit_ns ⟨rfl, rfl, by rw [← hn'.bq]; rfl, rfl, rfl, rfl, rfl, trivial⟩ (fun n hn => (restr_at hn).symm) (hE3 _ _) (hI2r.cl (fun n hn => hn) fun n hn hm => absurd hn hm) (fun n hn => by cases hn)) fun u hu => ?_
     clear hI hI2 hI2r hF hB hin2 hds hel2 hinv hq1 hq2 hn' hp' hne hout hvv hks hA hel
     obtain ⟨σ3, c3, j⟩ := u
     obtain ⟨hI, hks, hA, hbl, hinv, hos, hj, hout, hmu⟩ := hu
     dsimp only at hI hks hA hbl hinv hos hj hout hmu
     show WC _ _ _ _ _ _ _ (stOf (lsn c3.names σ3)) _
     rw [stOf_lsn, restr_all hout]
     have hel : c3.q.es.length ≤ l.length := by rw [← kv_len]; exact hinv.len
     have hbkl := bkOf_len (arcsL w l) s
     repeat (first | refine i_s rfl ?_ | refine sw ?_)
     refine c_cond rfl (fun h => ?_) (fun h => ?_)
     · have hjl : j < (bkOf (arcsL w l) s).length := by simpa using h
       clear h
       obtain ⟨⟨x, kk⟩, hjx⟩ := get_some hjl
       obtain ⟨b0, hb0, hto, hvr⟩ : ∃ b0 ∈ c.bl, b0.to = s ∧ vv = .rsl b0.b (bkOf (arcsL w l) s).length b0.c := by
        rcases hcase with ⟨_, h2⟩ | h2
        · rw [h2] at hjl; simp at hjl
        · exact h2
       have hbk := hI.bl b0 (by rw [hbl]; exact hb0)
       rw [hA] at hbk
       have hxA : (s, x, kk) ∈ arcsL w l := mem_bkOf.1 (mem_get hjx)
       obtain ⟨hxl, i0, hst⟩ := mem_arcsL.1 hxA
       have hkk := step_cost hc hst
       simp only at hkk
       have hdrop : (bkOf (arcsL w l) s).drop j = (x, kk) :: (bkOf (arcsL w l) s).drop (j + 1) := by
        rw [List.drop_eq_getElem_cons hjl]
        congr 1
        exact (List.getElem?_eq_some_iff.1 hjx).2
       rw [hdrop] at hinv
       have hxk : x ∈ c3.ks := by rw [hks]; exact hxl
       subst hvr
       have hO2 : ups (ups σ3 nY (.box (.agg [.int .u32 0, .int .i64 0]))) nY (.box (arcV (x, kk))) nO = outB c3.ks c3.o := (upt_ne _ _ (by decide)).trans ((upt_ne _ _ (by decide)).trans hI.ho)
       have nx : ∀ i, i ≤ (bkOf (arcsL w l) s).length → ((i : Nat) : Int) = i := fun _ _ => rfl
       repeat refine sw ?_
       refine i_irs (n := (j : Int)) rfl rfl (by omega) (by omega) ?_
       refine i_ldr b0.nm rfl hbk.hs (arc_at hbk (by rw [hto]; exact hjx)) ?_
       refine i_alloc (unused_of hout hI.av.2.2) ?_
       repeat (first | refine i_s rfl ?_ | refine sw ?_ | refine ja rfl rfl ?_ | refine i_stb rfl ?_)
       refine i_mgO rfl hO2 rfl hxk ?_
       repeat (first | refine i_s rfl ?_ | refine sw ?_)
       refine c_cond rfl (fun h => ?_) (fun h => ?_)
       · have hlt : c3.o s + kk < c3.o x := by rw [hos]; simpa using h
         clear h
         repeat (first | refine i_s rfl ?_ | refine sw ?_ | refine ja rfl rfl ?_)
         refine i_mput (k := .u32) (ns := c3.ks.map toI) (vs := c3.ks.map fun x => i64V (c3.o x)) rfl rfl hO2 rfl rfl (out_upd (s := x) (v := d + kk) hxk (by rw [hks]; exact hnd)) ?_
         repeat (first | refine i_s rfl ?_ | refine sw ?_ | refine ja rfl rfl ?_)
         obtain ⟨f1, f2, fne, fl1, fl2, fn1, fn2⟩ := spare2 (n9 :: nX :: nY :: c3.names) (by
          have := names_len hI (by omega) (by rw [hA]; exact hAn)
          simp only [List.length_cons]
          omega)
         simp only [List.mem_cons, not_or] at fn1 fn2
         have hIy : CI (ups (ups σ3 nY (.box (.agg [.int .u32 0, .int .i64 0]))) nY (.box (arcV (x, kk)))) c3 := hI.congr fun n hn => by
          rw [upt_ne _ _ (fun (e : n = nY) => hI.av.2.2 (e ▸ hn)), upt_ne _ _ (fun (e : n = nY) => hI.av.2.2 (e ▸ hn))]
         have hIc := hIy.out (ks := c3.ks) (o := updO c3.o x (d + kk))
         have hfu : ∀ n ∈ [f1, f2], ups (ups (ups σ3 nY (.box (.agg [.int .u32 0, .int .i64 0]))) nY (.box (arcV (x, kk)))) nO (outB c3.ks (updO c3.o x (d + kk))) n = .unused := fun n hn => by
          simp only [List.mem_cons, List.not_mem_nil, or_false] at hn
          rcases hn with rfl | rfl
          · rw [upt_ne _ _ (fun (e : n = nO) => fn1.2.2.2 (e ▸ c3.inO)), upt_ne _ _ fn1.2.2.1, upt_ne _ _ fn1.2.2.1]
            exact unused_of hout fn1.2.2.2
          · rw [upt_ne _ _ (fun (e : n = nO) => fn2.2.2.2 (e ▸ c3.inO)), upt_ne _ _ fn2.2.2.1, upt_ne _ _ fn2.2.2.1]
            exact unused_of hout fn2.2.2.2
         obtain ⟨hq1, hq2⟩ := hIc.hq.call [f1, f2] hfu
         have hi1 : f1 ∈ [f1, f2] ++ c3.q.names := by simp
         have hi2 : f2 ∈ [f1, f2] ++ c3.q.names := by simp
         refine i_cd ([f1, f2] ++ c3.q.names) rfl rfl hq1 (ct_Set hq2 (by show c3.q.es.length < 1000000; omega) x (d + kk) hi1 hi2 ((restr_at hi1).trans (hfu f1 (by simp))) ((restr_at hi2).trans (hfu f2 (by simp))) fne fl1 fl2 (fun hm => fn1.2.2.2 (c3.inq hm))) ?_
         rintro v σ' g' ⟨⟨q', hn', hp'⟩, rfl⟩
         have hI2 := hIc.queue (f := [f1, f2]) (fun n hn => by
          simp only [List.mem_cons, List.not_mem_nil, or_false] at hn
          rcases hn with rfl | rfl
          · exact ⟨fn1.2.2.2, fn1.1, fn1.2.1, fn1.2.2.1⟩
          · exact ⟨fn2.2.2.2, fn2.1, fn2.2.1, fn2.2.2.1⟩) hn'.ok
         rw [← hos] at hp'
         obtain ⟨r1, r2, r3, r4⟩ := hinv.relax hc hsl hxA hlt hp'
         have hs1 := (sumO_upd r4 hlt (l := l)).2 hxl
         rw [hos] at r1 r2 hs1
         have hel2 : q'.es.length ≤ l.length := by rw [← kv_len]; exact r1.len
         have hmu2 : sumO (updO c3.o x (d + kk)) l * (l.length + 1) + q'.es.length < M := by
          have h1 : (sumO (updO c3.o x (d + kk)) l + 1) * (l.length + 1) ≤ sumO c3.o l * (l.length + 1) := Nat.mul_le_mul_right _ hs1
          rw [Nat.add_mul, Nat.one_mul] at h1
          omega
         have hI2r : CI (restr (CD.names { c3 with q := q', ks := c3.ks, o := updO c3.o x (d + kk) }) (merge ([f1, f2] ++ c3.q.names) (ups (ups (ups σ3 nY (.box (.agg [.int .u32 0, .int .i64 0]))) nY (.box (arcV (x, kk)))) nO (outB c3.ks (updO c3.o x (d + kk)))) σ')) { c3 with q := q', ks := c3.ks, o := updO c3.o x (d + kk) } := hI2.congr fun n hn => restr_at hn
         repeat (first | refine i_s rfl ?_ | refine sw ?_ | refine ja rfl rfl ?_)
         exact e_lp (_, { c3 with q := q', ks := c3.ks, o := updO c3.o x (d + kk) }, j + 1) ⟨hI2r, hks, hA, hbl, r1, r2, hjl, fun nm h => restr_mem nm h, hmu2⟩ (by show (bkOf (arcsL w l) s).length - (j + 1) < (bkOf (arcsL w l) s).length - j; omega)
          (fit_ns ⟨rfl, rfl, by rw [← hn'.bq]; rfl, rfl, rfl, rfl, rfl, trivial⟩ (fun n hn => (restr_at hn).symm) (hE3 _ _) (hI2r.cl (fun n hn => hn) fun n hn hm => absurd hn hm) (fun n hn => by cases hn))
       · have hge : ¬ c3.o s + kk < c3.o x := by rw [hos]; simpa using h
         clear h
         repeat (first | refine i_s rfl ?_ | refine sw ?_ | refine ja rfl rfl ?_)
         exact e_lp (σ3, c3, j + 1) ⟨hI, hks, hA, hbl, hinv.skip hge, hos, hjl, hout, hmu⟩ (by show (bkOf (arcsL w l) s).length - (j + 1) < (bkOf (arcsL w l) s).length - j; omega)
          (fit_ns ⟨rfl, rfl, rfl, rfl, rfl, rfl, rfl, trivial⟩ (fun n hn => by rw [upt_ne _ _ (fun (e : n = nY) => hI.av.2.2 (e ▸ hn)), upt_ne _ _ (fun (e : n = nY) => hI.av.2.2 (e ▸ hn))]) (hE3 _ _) (hI.cl (fun n hn => hn) fun n hn hm => absurd hn hm) (fun n hn => by cases hn))
     · have hje : j = (bkOf (arcsL w l) s).length := by have : ¬ j < (bkOf (arcsL w l) s).length := by simpa using h
                                                        omega
       clear h
       subst hje
       rw [List.drop_length] at hinv
       repeat refine sw ?_
       exact e_lp (σ3, c3) ⟨hI, hks, hA, hinv.mono fun t u k h => by simp at h, hout⟩ (by rw [← hM]; exact hmu) (fit_ns ⟨rfl, rfl, rfl, trivial⟩ (fun _ _ => rfl) (hE2 c3) (hI.cl (fun n hn => hn) fun n hn hm => absurd hn hm) (fun n hn => by cases hn))
   · have he : c.q.es = [] := by
      have : ¬ ((c.q.es.length : Nat) : Int) > 0 := by simpa using h
      exact List.eq_nil_of_length_eq_zero (by omega)
     have hkv0 : c.q.kv = [] := by unfold HS.kv; rw [he]; rfl
     rw [hkv0] at hinv
     have hls := hinv.least hcl
     have hO := hI.ho
     rw [hks, outB_congr (o' := D) fun s hs => (hls s hs).uniq (hD s)] at hO
     repeat (first | refine i_s rfl ?_ | refine sw ?_)
     refine e_ret ⟨rfl, _, rfl, ?_⟩
     show _ = er σ 6 (.mp nO)
     unfold outB at hO
     simp only [er, hO]
end Hm
end
section
namespace Hm
open Go
mutual
def dv {H : Type} : DataW H → V
 | .lit (.bool b) => .bool b
 | .lit (.int k n) => .int k n
 | .lit (.string l) => .str l
 | .slice elems _ => .sl .p (dvL elems)
 | .agg parts => .agg (dvC parts)
 | .nil => .sl .p []
 | _ => .any
def dvL {H : Type} : List (DataW H) → List V
 | [] => []
 | d :: r => dv d :: dvL r
def dvC {H : Type} : List (DataW H) → List V
 | [] => []
 | d :: r => (dv d).cells ++ dvC r
end
theorem dvL_map {H : Type} : ∀ l : List (DataW H), dvL l = l.map dv
 | [] => rfl
 | d :: r => by simp only [dvL, List.map_cons, dvL_map r]
def lay (P : Program) : List Field → Nat → Option Nat
 | [], o => some o
 | f :: r, o => bif Nat.beq f.offset o then lay P r (o + P.cellsOf f.type) else none
def pl (P : Program) : Nat → TypeId → Bool
 | 0, _ => false
 | n + 1, t => match P.underlying t with
   | some .bool => true
   | some (.int _) => true
   | some .string => true
   | some (.slice e) => Nat.blt 0 (P.cellsOf e) && pl P n e
   | some (.struct fs) => (match lay P fs.toList 0 with
     | some m => Nat.beq m (P.cellsOf t)
     | none => false) && fs.toList.all fun f => pl P n f.type
   | some (.array len e) => Nat.beq (len * P.cellsOf e) (P.cellsOf t) && pl P n e
   | _ => false
def arrF (e : TypeId) (c i : Nat) : Field := { name := "", type := e, offset := i * c, embedded := false, tag := "", pkgPath := "", byteOffset := 0 }
theorem lay_arr {P : Program} {e : TypeId} : ∀ (len k : Nat), lay P ((List.range' k len).map (arrF e (P.cellsOf e))) (k * P.cellsOf e) = some ((k + len) * P.cellsOf e)
 | 0, k => rfl
 | len + 1, k => by
  simp only [List.range'_succ, List.map_cons, lay, arrF, Nat.beq_refl, cond_true]
  have := lay_arr (P := P) (e := e) len (k + 1)
  rw [Nat.succ_mul] at this
  rw [show k + (len + 1) = k + 1 + len from by omega]
  exact this
section
variable {H : Type} {enc : TypeId × Value → H} {P : Program} {w : World} {sp : Nat → Bool}
theorem fields_rep {S : Nat → Prop} {cs : List Value} : ∀ (fl : List Field) (ys : List (DataW H × List MemPlace)) (o m : Nat), lay P fl o = some m → m ≤ cs.length → ys.length = fl.length →
  (∀ (i : Nat) (f : Field) (y : DataW H × List MemPlace), fl[i]? = some f → ys[i]? = some y → ((cs.drop f.offset).take (P.cellsOf f.type)).length = (dv y.1).cells.length ∧
    ∀ (j : Nat) (v : V) (x : Value), (dv y.1).cells[j]? = some v → ((cs.drop f.offset).take (P.cellsOf f.type))[j]? = some x → RepP w S v x) →
  o ≤ m ∧ (dvC (ys.map (·.1))).length = m - o ∧ ∀ (j : Nat) (v : V) (x : Value), (dvC (ys.map (·.1)))[j]? = some v → cs[o + j]? = some x → RepP w S v x
 | [], [], o, m, hl, _, _, _ => by
  simp only [lay, Option.some.injEq] at hl
  subst hl
  exact ⟨Nat.le_refl _, by simp [dvC], fun j v x h => by simp [dvC] at h⟩
 | f :: fl, y :: ys, o, m, hl, hm, hlen, h => by
  simp only [lay] at hl
  cases hb : Nat.beq f.offset o with
  | false => rw [hb] at hl; cases hl
  | true =>
   rw [hb] at hl
   have ho := Nat.eq_of_beq_eq_true hb
   obtain ⟨h1, h2, h3⟩ := fields_rep fl ys (o + P.cellsOf f.type) m hl hm (by simpa using hlen) (fun i f y hf hy => h (i + 1) f y (by simpa using hf) (by simpa using hy))
   obtain ⟨k1, k2⟩ := h 0 f y rfl rfl
   rw [ho] at k1 k2
   have hk : (dv y.1).cells.length = P.cellsOf f.type := by
    rw [← k1, List.length_take, List.length_drop]; omega
   refine ⟨by omega, by simp only [List.map_cons, dvC, List.length_append, h2, hk]; omega, fun j v x hv hx => ?_⟩
   simp only [List.map_cons, dvC] at hv
   by_cases hj : j < P.cellsOf f.type
   · rw [List.getElem?_append_left (by omega)] at hv
     refine k2 j v x hv ?_
     rw [List.getElem?_take, if_pos hj, List.getElem?_drop]
     exact hx
   · rw [List.getElem?_append_right (by omega), hk] at hv
     exact h3 _ v x hv (by rw [show o + P.cellsOf f.type + (j - P.cellsOf f.type) = o + j from by omega]; exact hx)
 | [], _ :: _, _, _, _, _, hlen, _ => by simp at hlen
 | _ :: _, [], _, _, _, _, hlen, _ => by simp at hlen
theorem cells_get {w : World} {a : Addr} {n : Nat} {cs : List Value} (h : w.cells? 0 a n = some cs) : cs.length = n ∧ ∀ i, i < n → w.cell? (a.add i) = cs[i]? := by
 unfold World.cells? at h
 rw [if_pos (Nat.zero_le _)] at h
 exact ⟨by simpa using mapM_some_length h, fun i hi => mapM_some_get h i i (by simp [hi])⟩
theorem cell_lt {w : World} {a : Addr} {v : Value} (h : w.cell? a = some v) : a.block < w.heap.size ∧ a.spot = none := by
 unfold World.cell? at h
 split at h
 · rename_i c t fr hc
   refine ⟨(Array.getElem?_eq_some_iff.1 hc).1, ?_⟩
   cases hs : a.spot with
   | none => rfl
   | some _ => rw [hs] at h; simp at h
 · cases h
theorem trod_rep : ∀ (n : Nat) (t : TypeId) (fuel : Nat) (cs : List Value) (x : DataW H × List MemPlace), pl P n t = true → DataW.trod enc P w 0 sp true fuel t cs = some x →
  cs.length = (dv x.1).cells.length ∧ ∀ (i : Nat) (v : V) (y : Value), (dv x.1).cells[i]? = some v → cs[i]? = some y → RepP w (fun b => b < w.heap.size) v y
 | 0, t, fuel, cs, x, hp, _ => by cases hp
 | n + 1, t, fuel, cs, x, hp, h => by
  unfold pl at hp
  split at hp
  · rename_i ht
    obtain ⟨b, rfl, rfl⟩ := DataW.trod_bool ht h
    refine ⟨rfl, fun i v y hv hy => ?_⟩
    cases i with
    | zero => simp [dv, V.cells] at hv hy; subst hv hy; exact .bool b
    | succ i => simp at hy
  · rename_i k ht
    obtain ⟨m, rfl, rfl, _⟩ := DataW.trod_int ht h
    refine ⟨rfl, fun i v y hv hy => ?_⟩
    cases i with
    | zero => simp [dv, V.cells] at hv hy; subst hv hy; exact .int k m
    | succ i => simp at hy
  · rename_i ht
    obtain ⟨s, rfl, rfl, _⟩ := DataW.trod_string ht h
    refine ⟨rfl, fun i v y hv hy => ?_⟩
    cases i with
    | zero =>
     simp [dv, V.cells] at hv hy
     subst hv hy
     have := RepP.str (w := w) (S := fun b => b < w.heap.size) s.data.toList
     simpa using this
    | succ i => simp at hy
  · rename_i e ht
    simp only [Bool.and_eq_true] at hp
    obtain ⟨hc0, hpe⟩ := hp
    have hc : 0 < P.cellsOf e := by simpa [Nat.blt_eq] using hc0
    rcases Go.Deep.open_slice ht h with ⟨rfl, rfl⟩ | ⟨a, len, cap, m, q, D, Pl, rfl, _, hlc, _, hm, rfl, hcell⟩
    · refine ⟨rfl, fun i v y hv hy => ?_⟩
      cases i with
      | zero => simp [dv, V.cells] at hv hy; subst hv hy; exact .emp none 0
      | succ i => simp at hy
    · refine ⟨rfl, fun i v y hv hy => ?_⟩
      cases i with
      | succ i => simp at hy
      | zero =>
       simp only [dv, V.cells, List.getElem?_cons_zero, Option.some.injEq] at hv hy
       subst hv hy
       rw [dvL_map, List.map_map]
       cases len with
       | zero => exact .emp (some a) cap
       | succ len =>
        have hle : len + 1 ≤ m := by rw [hm]; split <;> omega
        have key : ∀ i, i < len + 1 → (∃ cs' : List Value, (∀ j, j < P.cellsOf e → w.cell? ((a.add (i * P.cellsOf e)).add j) = cs'[j]?) ∧ cs'.length = P.cellsOf e ∧ cs'.length = (dv (D i)).cells.length ∧
          ∀ (j : Nat) (v : V) (y : Value), (dv (D i)).cells[j]? = some v → cs'[j]? = some y → RepP w (fun b => b < w.heap.size) v y) := by
         intro i hi
         obtain ⟨cs', h1, h2⟩ := hcell i (by omega)
         obtain ⟨h3, h4⟩ := cells_get h1
         obtain ⟨h5, h6⟩ := trod_rep n e q cs' _ hpe h2
         exact ⟨cs', h4, h3, h5, h6⟩
        obtain ⟨cs0, k1, k2, _, _⟩ := key 0 (by omega)
        have k3 := k1 0 hc
        rw [List.getElem?_eq_getElem (by omega)] at k3
        obtain ⟨hblt, hspot⟩ := cell_lt k3
        simp only [Nat.zero_mul, Addr.add_zero'] at hblt hspot
        have hb : a.block < w.heap.size := hblt
        have hs : a.spot = none := hspot
        obtain ⟨b, off, spot⟩ := a
        simp only at hb hs
        subst hs
        have e1 : len + 1 = ((List.range (len + 1)).map (dv ∘ D)).length := by simp
        have goal : RepP w (fun b => b < w.heap.size) (.sl .p ((List.range (len + 1)).map (dv ∘ D))) (.slice (some ⟨b, off, none⟩) ((List.range (len + 1)).map (dv ∘ D)).length cap) := by
         refine .sl _ b off cap (P.cellsOf e) (fun i j => (w.cell? ⟨b, off + i * P.cellsOf e + j, none⟩).getD default) hb (by omega) (fun row hrow => ?_) (fun i j row v hr hv => ?_) (fun i j row v hr hv => ?_)
         · obtain ⟨i, hi, rfl⟩ := List.mem_map.1 hrow
           obtain ⟨cs', _, g1, g2, _⟩ := key i (List.mem_range.1 hi)
           show (dv (D i)).cells.length = _
           omega
         · rw [List.getElem?_map] at hr
           have hi : i < len + 1 := by
            have := (List.getElem?_eq_some_iff.1 (Option.map_eq_some_iff.1 hr).choose_spec.1).1
            simpa using this
           rw [List.getElem?_range hi] at hr
           simp only [Option.map_some, Option.some.injEq, Function.comp] at hr
           subst hr
           obtain ⟨cs', g0, g1, g2, g3⟩ := key i hi
           have hj := (List.getElem?_eq_some_iff.1 hv).1
           have := g0 j (by omega)
           simp only [Addr.add_lit] at this
           rw [this, List.getElem?_eq_getElem (by omega)]
           rfl
         · rw [List.getElem?_map] at hr
           have hi : i < len + 1 := by
            have := (List.getElem?_eq_some_iff.1 (Option.map_eq_some_iff.1 hr).choose_spec.1).1
            simpa using this
           rw [List.getElem?_range hi] at hr
           simp only [Option.map_some, Option.some.injEq, Function.comp] at hr
           subst hr
           obtain ⟨cs', g0, g1, g2, g3⟩ := key i hi
           have hj := (List.getElem?_eq_some_iff.1 hv).1
           have := g0 j (by omega)
           simp only [Addr.add_lit] at this
           rw [this, List.getElem?_eq_getElem (by omega)]
           exact g3 j v _ hv (by rw [List.getElem?_eq_getElem (by omega)]; rfl)
        rw [← e1] at goal
        exact goal
  · rename_i fs ht
    simp only [Bool.and_eq_true, List.all_eq_true] at hp
    obtain ⟨hlay, hall⟩ := hp
    split at hlay
    · rename_i m hm
      have hme := Nat.eq_of_beq_eq_true hlay
      obtain ⟨xs, q, _, rfl, hlen, hxl, hseg⟩ := DataW.trod_struct ht h
      obtain ⟨_, g1, g2⟩ := fields_rep (P := P) (w := w) (S := fun b => b < w.heap.size) (cs := cs) fs.toList xs 0 m hm (by omega) (by simpa using hxl) (fun i f y hf hy => by
       have hf' : fs[i]? = some f := by simpa using hf
       have := hseg i f hf'
       rw [hy] at this
       exact trod_rep n f.type q _ y (hall f (List.mem_of_getElem? hf)) this)
      refine ⟨by simp only [dv, V.cells, g1]; omega, fun i v y hv hy => g2 i v y (by simpa [dv, V.cells] using hv) (by simpa using hy)⟩
    · cases hlay
  · rename_i len e ht
    simp only [Bool.and_eq_true] at hp
    obtain ⟨hlay, hpe⟩ := hp
    have hme := Nat.eq_of_beq_eq_true hlay
    obtain ⟨xs, q, _, rfl, hlen, hxl, hseg⟩ := DataW.trod_array ht h
    have hla := lay_arr (P := P) (e := e) len 0
    rw [Nat.zero_mul, Nat.zero_add] at hla
    obtain ⟨_, g1, g2⟩ := fields_rep (P := P) (w := w) (S := fun b => b < w.heap.size) (cs := cs) _ xs 0 _ hla (by omega) (by simpa using hxl) (fun i f y hf hy => by
     have hi : i < len := by have := (List.getElem?_eq_some_iff.1 hy).1; omega
     rw [List.getElem?_map, List.getElem?_range' hi] at hf
     simp only [Option.map_some, Option.some.injEq, Nat.zero_add, Nat.one_mul] at hf
     subst hf
     have := hseg i hi
     rw [hy] at this
     exact trod_rep n e q _ y hpe this)
    refine ⟨by simp only [dv, V.cells, g1]; omega, fun i v y hv hy => g2 i v y (by simpa [dv, V.cells] using hv) (by simpa using hy)⟩
  · cases hp
theorem arg_rep {n base : Nat} {t : TypeId} {v : Value} {d : DataW H} {ps : List MemPlace} (hp : pl P n t = true) (hok : Value.okWide P w .any base t v) (h : DataW.Trod enc P w 0 sp true t v d ps) : RepP w (fun b => b < w.heap.size) (dv d) v := by
 obtain ⟨fuel, h⟩ := h
 obtain ⟨h1, h2⟩ := trod_rep n t fuel _ _ hp h
 cases n with
 | zero => cases hp
 | succ n =>
  unfold pl at hp
  split at hp
  · rename_i ht
    obtain ⟨b, e, e2⟩ := DataW.trod_bool ht h
    injection e2 with e2 _
    subst e2
    cases v <;> simp [Value.okWide, ht, Cell.okWide, Cell.ok] at hok
    simp [Value.cells] at e
    subst e
    exact .bool _
  · rename_i k ht
    obtain ⟨m, e, e2, _⟩ := DataW.trod_int ht h
    injection e2 with e2 _
    subst e2
    cases v <;> simp [Value.okWide, ht, Cell.okWide, Cell.ok] at hok
    simp [Value.cells] at e
    obtain ⟨rfl, rfl⟩ := e
    exact .int _ _
  · rename_i ht
    obtain ⟨s, e, e2, _⟩ := DataW.trod_string ht h
    injection e2 with e2 _
    subst e2
    cases v <;> simp [Value.okWide, ht, Cell.okWide, Cell.ok] at hok
    simp [Value.cells] at e
    subst e
    exact h2 0 _ _ rfl rfl
  · rename_i e ht
    have hv : v.cells = #[v] := by
     cases v <;> first | rfl | (simp [Value.okWide, ht, Cell.okWide, Cell.ok] at hok)
    have hd : (dv d).cells = [dv d] := by
     rcases Go.Deep.open_slice ht h with ⟨_, e2⟩ | ⟨_, _, _, _, _, _, _, _, _, _, _, _, e2, _⟩ <;> (injection e2 with e2 _; subst e2; rfl)
    exact h2 0 _ _ (by rw [hd]; rfl) (by rw [hv]; rfl)
  · rename_i fs ht
    simp only [Value.okWide, ht] at hok
    obtain ⟨cs, rfl, _, _⟩ := hok
    obtain ⟨xs, q, _, e2, _⟩ := DataW.trod_struct ht h
    injection e2 with e2 _
    subst e2
    have := RepP.agg (w := w) (S := fun b => b < w.heap.size) (dvC (xs.map (·.1))) cs.toList (by
     have := h1
     simp only [dv, V.cells, Value.cells] at this
     exact this.symm) (fun i v x hv hx => h2 i v x (by simpa [dv, V.cells] using hv) (by simpa [Value.cells] using hx))
    simpa [dv] using this
  · rename_i len e ht
    simp only [Value.okWide, ht] at hok
    obtain ⟨cs, rfl, _, _⟩ := hok
    obtain ⟨xs, q, _, e2, _⟩ := DataW.trod_array ht h
    injection e2 with e2 _
    subst e2
    have := RepP.agg (w := w) (S := fun b => b < w.heap.size) (dvC (xs.map (·.1))) cs.toList (by
     have := h1
     simp only [dv, V.cells, Value.cells] at this
     exact this.symm) (fun i v x hv hx => h2 i v x (by simpa [dv, V.cells] using hv) (by simpa [Value.cells] using hx))
    simpa [dv] using this
  · cases hp
theorem args_rep {n base : Nat} : ∀ (ts : List TypeId) (vs : List Value) (ds : List (DataW H)) (ps : List MemPlace), ts.all (pl P n) = true → (∀ (j : Nat) t v, ts[j]? = some t → vs[j]? = some v → Value.okWide P w .any base t v) →
  DataW.TrodAll enc P w 0 sp true ts vs ds ps → Reps (RepP w (fun b => b < w.heap.size)) (ds.map dv) vs
 | [], [], [], _, _, _, _ => ⟨rfl, fun i v x h => by simp at h⟩
 | t :: ts, v :: vs, d :: ds, ps, hp, hok, h => by
  obtain ⟨p, q, h1, h2, _⟩ := h
  simp only [List.all_cons, Bool.and_eq_true] at hp
  have ih := args_rep ts vs ds q hp.2 (fun j t v ht hv => hok (j + 1) t v (by simpa using ht) (by simpa using hv)) h2
  refine ⟨by simpa using ih.1, fun i u x hu hx => ?_⟩
  cases i with
  | zero =>
   simp at hu hx
   subst hu hx
   exact arg_rep hp.1 (hok 0 t v rfl rfl) h1
  | succ i => exact ih.2 i u x (by simpa using hu) (by simpa using hx)
 | [], _ :: _, _, _, _, _, h => by simp [DataW.TrodAll] at h
 | [], [], _ :: _, _, _, _, h => by simp [DataW.TrodAll] at h
 | _ :: _, [], _, _, _, _, h => by simp [DataW.TrodAll] at h
 | _ :: _, _ :: _, [], _, _, _, h => by simp [DataW.TrodAll] at h
def wt (P : Program) {H : Type} : Nat → TypeId → DataW H → Prop
 | 0, _, _ => False
 | n + 1, t, d => match P.underlying t with
   | some .bool => ∃ b, d = .lit (.bool b)
   | some (.int k) => ∃ m, d = .lit (.int k m) ∧ (Lit.int k m).wf = true
   | some .string => ∃ l, d = .lit (.string l) ∧ l.length ≤ reachBytes
   | some (.slice e) => d = .nil ∨ ∃ elems spare, d = .slice elems spare ∧ elems.length * P.bytesOf e ≤ reachBytes ∧ ∀ x ∈ elems, wt P n e x
   | some (.struct fs) => ∃ parts, d = .agg parts ∧ parts.length = fs.size ∧ ∀ (i : Nat) (f : Field) (p : DataW H), fs[i]? = some f → parts[i]? = some p → wt P n f.type p
   | some (.array len e) => ∃ parts, d = .agg parts ∧ parts.length = len ∧ ∀ x ∈ parts, wt P n e x
   | _ => True
theorem weightsAll_mem {e : TypeId} : ∀ {l : List (DataW H)} {x : DataW H}, x ∈ l → ∀ n ∈ x.weights P e, n ∈ DataW.weightsAll P e l
 | d :: r, x, hx, n, hn => by
  simp only [DataW.weightsAll, List.mem_append]
  rcases List.mem_cons.1 hx with rfl | hx
  · exact .inl hn
  · exact .inr (weightsAll_mem hx n hn)
theorem trod_wt : ∀ (fuel : Nat) (t : TypeId) (cs : List Value) (x : DataW H × List MemPlace), DataW.trod enc P w 0 sp true fuel t cs = some x → (∀ n ∈ x.1.weights P t, n ≤ reachBytes) → wt P fuel t x.1
 | 0, t, cs, x, h, _ => by simp [DataW.trod] at h
 | fuel + 1, t, cs, x, h, hw => by
  unfold wt
  split
  · rename_i ht
    obtain ⟨b, _, rfl⟩ := DataW.trod_bool ht h
    exact ⟨b, rfl⟩
  · rename_i k ht
    obtain ⟨m, _, rfl, hm⟩ := DataW.trod_int ht h
    exact ⟨m, rfl, hm⟩
  · rename_i ht
    obtain ⟨s, _, rfl, _⟩ := DataW.trod_string ht h
    exact ⟨_, rfl, hw _ (by simp [DataW.weights])⟩
  · rename_i e ht
    rcases DataW.trod_slice ht h with ⟨_, rfl⟩ | ⟨a, len, cap, elems, rest, n, hn, _, rfl, _, _, _, hlen, hel, _, _⟩
    · exact .inl rfl
    · injection hn with hn
      subst hn
      refine .inr ⟨_, _, rfl, ?_, fun y hy => ?_⟩
      · have := hw ((elems.length + rest.length) * P.bytesOf e) (by simp [DataW.weights, ht])
        simp only [List.length_map]
        exact Nat.le_trans (Nat.mul_le_mul_right _ (Nat.le_add_right _ _)) this
      · obtain ⟨z, hz, rfl⟩ := List.mem_map.1 hy
        obtain ⟨i, hi, ez⟩ := List.getElem_of_mem hz
        have := hel i (by omega)
        rw [List.getElem?_eq_getElem hi, ez] at this
        obtain ⟨cs', h1, h2⟩ := Option.bind_eq_some_iff.1 this
        refine trod_wt fuel e cs' z h2 fun n hn => hw n ?_
        simp only [DataW.weights, ht, List.mem_cons, List.mem_append]
        exact .inr (.inl (weightsAll_mem hy n hn))
  · rename_i fs ht
    obtain ⟨xs, n, hn, rfl, _, hxl, hseg⟩ := DataW.trod_struct ht h
    injection hn with hn
    subst hn
    refine ⟨_, rfl, by simpa using hxl, fun i f p hf hp => ?_⟩
    rw [List.getElem?_map] at hp
    obtain ⟨z, hz, rfl⟩ := Option.map_eq_some_iff.1 hp
    have := hseg i f hf
    rw [hz] at this
    refine trod_wt fuel f.type _ z this fun n hn => hw n ?_
    simp only [DataW.weights, ht]
    exact DataW.weights_mem_each (j := i) (by rw [List.getElem?_map]; simp [hf]) (by rw [List.getElem?_map, hz]; rfl) n hn
  · rename_i len e ht
    obtain ⟨xs, n, hn, rfl, _, hxl, hseg⟩ := DataW.trod_array ht h
    injection hn with hn
    subst hn
    refine ⟨_, rfl, by simpa using hxl, fun y hy => ?_⟩
    obtain ⟨z, hz, rfl⟩ := List.mem_map.1 hy
    obtain ⟨i, hi, ez⟩ := List.getElem_of_mem hz
    have := hseg i (by omega)
    rw [List.getElem?_eq_getElem hi, ez] at this
    refine trod_wt fuel e _ z this fun n hn => hw n ?_
    simp only [DataW.weights, ht]
    exact weightsAll_mem hy n hn
  · trivial
theorem args_wt : ∀ (ts : List TypeId) (vs : List Value) (ds : List (DataW H)) (ps : List MemPlace), DataW.TrodAll enc P w 0 sp true ts vs ds ps → (∀ n ∈ DataW.weightsEach P ts ds, n ≤ reachBytes) →
  ds.length = ts.length ∧ ∀ (j : Nat) t d, ts[j]? = some t → ds[j]? = some d → ∃ n, wt P n t d
 | [], [], [], _, _, _ => ⟨rfl, fun j t d h => by simp at h⟩
 | t :: ts, v :: vs, d :: ds, ps, h, hw => by
  obtain ⟨p, q, ⟨fuel, h1⟩, h2, _⟩ := h
  have ih := args_wt ts vs ds q h2 (fun n hn => hw n (by simp only [DataW.weightsEach, List.mem_append]; exact .inr hn))
  refine ⟨by simpa using ih.1, fun j t' d' ht hd => ?_⟩
  cases j with
  | zero =>
   simp at ht hd
   subst ht hd
   exact ⟨fuel, trod_wt fuel t _ _ h1 fun n hn => hw n (by simp only [DataW.weightsEach, List.mem_append]; exact .inl hn)⟩
  | succ j => exact ih.2 j t' d' (by simpa using ht) (by simpa using hd)
 | [], _ :: _, _, _, h, _ => by simp [DataW.TrodAll] at h
 | [], [], _ :: _, _, h, _ => by simp [DataW.TrodAll] at h
 | _ :: _, [], _, _, h, _ => by simp [DataW.TrodAll] at h
 | _ :: _, _ :: _, [], _, h, _ => by simp [DataW.TrodAll] at h
end
section
variable {H : Type} {enc : TypeId × Value → H} {P : Program}
theorem below_all (hl : laidOutB P = true) {W W' : World} (hb : Go.RowKit.Below W.heap.size W W') : ∀ (ts : List TypeId) (vs : List Value) (ds : List (DataW H)) (ps : List MemPlace), (ts.all fun t => P.readableRec t && decide (t < P.types.size)) = true → (∀ x ∈ ps, x.block < W.heap.size) →
  DataW.TrodAll enc P W 0 (fun _ => true) true ts vs ds ps → DataW.TrodAll enc P W' 0 (fun b => decide (b < W.heap.size)) true ts vs ds ps
 | [], [], [], _, _, _, h => h
 | t :: ts, v :: vs, d :: ds, ps, hr, hlt, h => by
  obtain ⟨p, q, h1, h2, rfl⟩ := h
  simp only [List.all_cons, Bool.and_eq_true] at hr
  exact ⟨p, q, Go.RowKit.Below.trod hl hr.1.1 (of_decide_eq_true hr.1.2) h1 hb (fun x hx => hlt x (by simp [hx])), below_all hl hb ts vs ds q hr.2 (fun x hx => hlt x (by simp [hx])) h2, rfl⟩
 | [], _ :: _, _, _, _, _, h => by simp [DataW.TrodAll] at h
 | [], [], _ :: _, _, _, _, h => by simp [DataW.TrodAll] at h
 | _ :: _, [], _, _, _, _, h => by simp [DataW.TrodAll] at h
 | _ :: _, _ :: _, [], _, _, _, h => by simp [DataW.TrodAll] at h
end
theorem law_call {C : Checked} {f : FuncId} {fn : Func} {s : ChangeSpec} {H : Type} {enc : TypeId × Value → H} {tb : TypeId} {n : Nat}
  (hvars : s.vars = []) (hs : ∀ ds : List (DataW H), ds.length = fn.params.toList.length → (s.fn H (ds ++ [])).results = [.lit (.bool true)] ∧ (s.fn H (ds ++ [])).args = ds ∧ (s.fn H (ds ++ [])).vars = [])
  (hlaid : laidOutB C.prog = true) (hp : (fn.params.toList.all (pl C.prog n)) = true) (hr : (fn.params.toList.all fun t => C.prog.readableRec t && decide (t < C.prog.types.size)) = true)
  (hres : fn.resultTypes = #[tb]) (htb : C.prog.underlying tb = some .bool)
  (hc : ∀ ds : List (DataW H), ds.length = fn.params.toList.length → (∀ (j : Nat) t d, fn.params.toList[j]? = some t → ds[j]? = some d → ∃ n, wt C.prog n t d) → Fc C.prog f (ds.map dv) (.bool true))
  (W : World) (base : Nat) (args : Array Value) (ds gs : List (DataW H)) (before : List MemPlace)
  (hval : ∀ (j : Nat) t v, fn.params[j]? = some t → args[j]? = some v → Value.okWide C.prog W .any base t v)
  (hW : DataW.Whole enc C.prog fn.params.toList s.vars false W args.toList ds gs before)
  (hsz : (DataW.weightsEach C.prog (fn.params.toList ++ s.plain.varTypes C.prog) (ds ++ gs)).all (· ≤ reachBytes) = true)
  (hgl : ∀ p ∈ glb, ∃ (cs : List Value) (e : TypeId) (fr : Nat × Nat), W.heap[p.1]? = some (.cells cs.toArray e fr) ∧ p.2 cs) :
  Calls C.prog f args W fun e W' => ∃ v, e = .returned v ∧ s.post enc C.prog fn false true false false W args v W' := by
 have hW' := hW
 obtain ⟨p, q, hA, hV, hbe, hfz, hnd⟩ := hW
 rw [hvars] at hV
 have hg : gs = [] ∧ q = [] := by
  cases gs with
  | nil => exact ⟨rfl, by simpa [DataW.TrodVars] using hV⟩
  | cons g gs => simp [DataW.TrodVars] at hV
 obtain ⟨rfl, rfl⟩ := hg
 have hw : ∀ n ∈ DataW.weightsEach C.prog fn.params.toList ds, n ≤ reachBytes := by
  intro n hn
  have h1 := List.all_eq_true.1 hsz n
  have hlen : ds.length = fn.params.toList.length := by
   have : ∀ (ts : List TypeId) (vs : List Value) (ds : List (DataW H)) (ps : List MemPlace), DataW.TrodAll enc C.prog W 0 (fun _ => true) true ts vs ds ps → ds.length = ts.length := by
    intro ts
    induction ts with
    | nil => intro vs ds ps h; cases vs <;> cases ds <;> simp [DataW.TrodAll] at h ⊢
    | cons t ts ih =>
     intro vs ds ps h
     cases vs <;> cases ds <;> simp [DataW.TrodAll] at h ⊢
     obtain ⟨p, _, q, h2, _⟩ := h
     exact ih _ _ _ h2
   exact this _ _ _ _ hA
  have h2 : n ∈ DataW.weightsEach C.prog (fn.params.toList ++ s.plain.varTypes C.prog) (ds ++ []) := by
   have : ∀ (ts us : List TypeId) (ds : List (DataW H)), ds.length = ts.length → ∀ n ∈ DataW.weightsEach C.prog ts ds, n ∈ DataW.weightsEach C.prog (ts ++ us) ds := by
    intro ts
    induction ts with
    | nil => intro us ds h n hn; simp [DataW.weightsEach] at hn
    | cons t ts ih =>
     intro us ds h n hn
     cases ds with
     | nil => simp at h
     | cons d ds =>
      simp only [List.cons_append, DataW.weightsEach, List.mem_append] at hn ⊢
      rcases hn with hn | hn
      · exact .inl hn
      · exact .inr (ih us ds (by simpa using h) n hn)
   rw [List.append_nil]
   exact this _ _ _ hlen n hn
  exact of_decide_eq_true (h1 h2)
 obtain ⟨hdl, hwt⟩ := args_wt _ _ _ _ hA hw
 have hrep := args_rep (n := n) (base := base) _ _ _ _ hp (fun j t v ht hv => hval j t v (by simpa using ht) (by simpa using hv)) hA
 obtain ⟨_, hcall⟩ := (hc ds hdl hwt).out
 have hcw := callsIn_wide.1 (hcall W (fun b => b < W.heap.size) args.toList (fun b h => h) (fun p hp => by
  obtain ⟨cs, e, fr, h1, h2⟩ := hgl p hp
  exact ⟨(Array.getElem?_eq_some_iff.1 h1).1, cs, e, fr, h1, h2⟩) hrep)
 simp only [Array.toArray_toList] at hcw
 refine hcw.mono fun e W' ⟨x', S', he, hx, _, _, hgrow⟩ => ?_
 subst he
 cases hx
 have hb : Go.RowKit.Below W.heap.size W W' := ⟨hgrow.os, hgrow.tape, hgrow.output.1, hgrow.size, fun k hk => hgrow.same k hk⟩
 obtain ⟨s1, s2, s3⟩ := hs ds hdl
 refine ⟨_, rfl, ds, [], before, [], p, [], hW', ?_, ?_, ?_, ?_, fun h => by cases h⟩
 · rw [s1, hres]
   refine ⟨[], [], ⟨1, ?_⟩, rfl, rfl⟩
   unfold DataW.trod
   rw [htb]
   rfl
 · rw [s2]
   have hlt : ∀ x ∈ p, x.block < W.heap.size := fun x hx => hW'.lt x (by rw [hbe]; simp [hx])
   exact below_all hlaid hb _ _ _ _ hr hlt hA
 · rw [s3, hvars]; rfl
 · exact hb.frame _
theorem law_lift {C : Checked} {os : Os} {f : FuncId} {fn : Func} {s : ChangeSpec} {H : Type} {enc : TypeId × Value → H} {tb : TypeId} {n : Nat}
  (own : ownKnob C.prog.godebug = none) (started : os.Started) (noInit : C.prog.inits.idxOf? f = none) (hfn : C.prog.funcs[f]? = some fn)
  (witness : ∃ (w : World) (tape : Tape) (i : Input), w.os = os ∧ (w.forCall tape i).Shaped C.prog ∧ i.vars = [] ∧ Input.okWide C.prog (w.forCall tape i) .any w.heap.size f i ∧
    s.pre6 enc C.prog fn [] false (w.forCall tape i).memory i.args ∧ (({} : Assume)).holds C.prog (lone (Frame.enter C.prog f i.args .normal) [] (w.forCall tape i)))
  (hvars : s.vars = []) (hs : ∀ ds : List (DataW H), ds.length = fn.params.toList.length → (s.fn H (ds ++ [])).results = [.lit (.bool true)] ∧ (s.fn H (ds ++ [])).args = ds ∧ (s.fn H (ds ++ [])).vars = [])
  (hlaid : laidOutB C.prog = true) (hp : (fn.params.toList.all (pl C.prog n)) = true) (hr : (fn.params.toList.all fun t => C.prog.readableRec t && decide (t < C.prog.types.size)) = true)
  (hres : fn.resultTypes = #[tb]) (htb : C.prog.underlying tb = some .bool)
  (hglb : glb = [])
  (hc : ∀ ds : List (DataW H), ds.length = fn.params.toList.length → (∀ (j : Nat) t d, fn.params.toList[j]? = some t → ds[j]? = some d → ∃ n, wt C.prog n t d) → Fc C.prog f (ds.map dv) (.bool true)) :
  ReturnsInHanded {} C os f .any (s.pre6 enc C.prog fn [] false) (s.post enc C.prog fn false true false false) := by
 refine returnsInHanded_of_change_sized own started noInit hfn witness ?_
 intro W base args ds gs before hval hW _ hsz _
 exact law_call hvars hs hlaid hp hr hres htb hc W base args ds gs before hval hW hsz (fun p hp => by rw [hglb] at hp; cases hp)
end Hm
namespace Hm
open Go
section
variable {H : Type} {P : Program}
def wtE (P : Program) {H : Type} (n : Nat) : List TypeId → List (DataW H) → Prop
 | [], [] => True
 | t :: ts, d :: ds => wt P n t d ∧ wtE P n ts ds
 | _, _ => False
theorem wtE_of {n : Nat} : ∀ (ts : List TypeId) (ds : List (DataW H)), ds.length = ts.length → (∀ (i : Nat) (t : TypeId) (d : DataW H), ts[i]? = some t → ds[i]? = some d → wt P n t d) → wtE P n ts ds
 | [], [], _, _ => trivial
 | t :: ts, d :: ds, hl, h => ⟨h 0 t d rfl rfl, wtE_of ts ds (by simpa using hl) fun i t d h1 h2 => h (i + 1) t d (by simpa using h1) (by simpa using h2)⟩
 | [], _ :: _, hl, _ => by simp at hl
 | _ :: _, [], hl, _ => by simp at hl
theorem wt_st {n : Nat} {t : TypeId} {d : DataW H} {fs : Array Field} (ht : P.underlying t = some (.struct fs)) (h : wt P n t d) : ∃ parts m, d = .agg parts ∧ wtE P m (fs.toList.map (·.type)) parts := by
 cases n with
 | zero => exact h.elim
 | succ n =>
  simp only [wt, ht] at h
  obtain ⟨parts, rfl, hl, h⟩ := h
  refine ⟨parts, n, rfl, wtE_of _ _ (by simpa using hl) fun i t d h1 h2 => ?_⟩
  rw [List.getElem?_map] at h1
  obtain ⟨f, hf, rfl⟩ := Option.map_eq_some_iff.1 h1
  exact h i f d (by simpa using hf) h2
theorem wt_int {n : Nat} {t : TypeId} {d : DataW H} (ht : P.underlying t = some (.int .i64)) (h : wt P n t d) : ∃ m, d = .lit (.int .i64 m) ∧ InR .i64 m := by
 cases n with
 | zero => exact h.elim
 | succ n =>
  simp only [wt, ht] at h
  obtain ⟨m, rfl, h⟩ := h
  refine ⟨m, rfl, ?_⟩
  simpa [Lit.wf, IntKind.min, IntKind.max, IntKind.signed, IntKind.bits, InR] using h
theorem ex_map {α : Type} {f : α → V} {Q : α → Prop} : ∀ (ds : List (DataW H)), (∀ d ∈ ds, ∃ a, dv d = f a ∧ Q a) → ∃ l : List α, dvL ds = l.map f ∧ l.length = ds.length ∧ ∀ a ∈ l, Q a
 | [], _ => ⟨[], rfl, rfl, fun a h => by cases h⟩
 | d :: ds, h => by
  obtain ⟨a, h1, h2⟩ := h d (by simp)
  obtain ⟨l, h3, h4, h5⟩ := ex_map ds fun x hx => h x (by simp [hx])
  refine ⟨a :: l, by simp only [dvL, List.map_cons, h1, h3], by simp [h4], fun b hb => ?_⟩
  rcases List.mem_cons.1 hb with rfl | hb
  · exact h2
  · exact h5 b hb
theorem wt_sl {α : Type} {f : α → V} {Q : α → Prop} {t e : TypeId} (ht : P.underlying t = some (.slice e)) (he : ∀ (n : Nat) (d : DataW H), wt P n e d → ∃ a, dv d = f a ∧ Q a) {n : Nat} {d : DataW H} (h : wt P n t d) :
  ∃ l : List α, dv d = .sl .p (l.map f) ∧ l.length * P.bytesOf e ≤ 140737488351232 ∧ ∀ a ∈ l, Q a := by
 cases n with
 | zero => exact h.elim
 | succ n =>
  simp only [wt, ht] at h
  rcases h with rfl | ⟨elems, spare, rfl, hl, h⟩
  · exact ⟨[], rfl, by simp, fun a h => by cases h⟩
  · obtain ⟨l, h1, h2, h3⟩ := ex_map elems fun x hx => he n x (h x hx)
    exact ⟨l, by simp only [dv, h1], by rw [h2]; exact hl, h3⟩
end
theorem in_int {H : Type} {n : Nat} {d : DataW H} (h : wt Go.Proofs.Tryz.prog n 3 d) : ∃ m, dv d = .int .i64 m ∧ InR .i64 m := by
 obtain ⟨m, rfl, hm⟩ := wt_int Go.Proofs.Tryz.underlying3 h
 exact ⟨m, rfl, hm⟩
theorem by_int : Program.bytesOf Go.Proofs.Tryz.prog 3 = 8 := by kernel_rfl
theorem in_Int1 {H : Type} (n : Nat) (d : DataW H) (h : wt Go.Proofs.Tryz.prog n 3 d) : ∃ m, dv d = i64V m ∧ InR .i64 m := in_int h
theorem in_Ints {H : Type} {n : Nat} {d : DataW H} (h : wt Go.Proofs.Tryz.prog n 22 d) : ∃ l : List Int, dv d = .sl .p (l.map i64V) ∧ l.length ≤ 17592186044416 := by
 obtain ⟨l, h1, h2, h3⟩ := wt_sl Go.Proofs.Tryz.underlying22 in_Int1 h
 rw [by_int] at h2
 exact ⟨l, h1, by omega⟩
theorem by_SOp : Program.bytesOf Go.Proofs.Tryz.prog 78 = 80 := by kernel_rfl
theorem in_SOp {H : Type} (n : Nat) (d : DataW H) (h : wt Go.Proofs.Tryz.prog n 78 d) : ∃ t : SOp, dv d = soV t ∧ t.pre.length ≤ 17592186044416 ∧ t.add.length ≤ 17592186044416 ∧ t.del.length ≤ 17592186044416 := by
 obtain ⟨parts, m, rfl, hp⟩ := wt_st Go.Proofs.Tryz.underlying78 h
 match parts, hp with
 | [d0, d1, d2, d3], hp =>
  obtain ⟨h0, h1, h2, h3, _⟩ := hp
  obtain ⟨l0, e0, b0⟩ := in_Ints h0
  obtain ⟨l1, e1, b1⟩ := in_Ints h1
  obtain ⟨l2, e2, b2⟩ := in_Ints h2
  obtain ⟨k, rfl, hk⟩ := wt_int Go.Proofs.Tryz.underlying3 h3
  refine ⟨⟨l0, l1, l2, k⟩, ?_, b0, b1, b2⟩
  simp only [dv, dvC, V.cells, e0, e1, e2, List.append_nil, soV, List.cons_append, List.nil_append]
theorem in_SOps {H : Type} {n : Nat} {d : DataW H} (h : wt Go.Proofs.Tryz.prog n 23 d) : ∃ l : List SOp, dv d = .sl .p (l.map soV) ∧ l.length ≤ 17592186044416 ∧ ∀ t ∈ l, t.pre.length ≤ 17592186044416 ∧ t.add.length ≤ 17592186044416 ∧ t.del.length ≤ 17592186044416 := by
 obtain ⟨l, h1, h2, h3⟩ := wt_sl Go.Proofs.Tryz.underlying23 in_SOp h
 rw [by_SOp] at h2
 exact ⟨l, h1, by omega, h3⟩
theorem in_STask {H : Type} {n : Nat} {d : DataW H} (h : wt Go.Proofs.Tryz.prog n 25 d) : ∃ t : STask, dv d = skV t ∧ SkOk t := by
 obtain ⟨parts, m, rfl, hp⟩ := wt_st Go.Proofs.Tryz.underlying25 h
 match parts, hp with
 | [d0, d1, d2, d3], hp =>
  obtain ⟨h0, h1, h2, h3, _⟩ := hp
  obtain ⟨k, rfl, hk⟩ := wt_int Go.Proofs.Tryz.underlying3 h0
  obtain ⟨l1, e1, b1⟩ := in_Ints h1
  obtain ⟨l2, e2, b2⟩ := in_Ints h2
  obtain ⟨l3, e3, b3, b4⟩ := in_SOps h3
  refine ⟨⟨k, l1, l2, l3⟩, ?_, ?_⟩
  · simp only [dv, dvC, V.cells, e1, e2, e3, List.append_nil, skV, List.cons_append, List.nil_append]
  · exact ⟨Nat.le_trans b1 (by decide), Nat.le_trans b2 (by decide), Nat.le_trans b3 (by decide), fun o ho => ⟨Nat.le_trans (b4 o ho).1 (by decide), Nat.le_trans (b4 o ho).2.1 (by decide), Nat.le_trans (b4 o ho).2.2 (by decide)⟩⟩
end Hm
end
