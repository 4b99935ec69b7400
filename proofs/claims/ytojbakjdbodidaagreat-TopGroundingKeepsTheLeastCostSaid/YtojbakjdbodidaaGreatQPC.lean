/- Part QPC of the proof. -/
import Derived.Test.YtojbakjdbodidaaGreatQPB
import Derived.ProofKit
import Derived.SizedLaws
import Derived.Carry
import Derived.Deep.Slices
import Derived.OpenShut
set_option linter.unusedVariables false
set_option linter.unusedSimpArgs false
section
namespace Hm
open Go
set_option maxRecDepth 100000
set_option maxHeartbeats 2000000
def zm3:Cmd :=
 (qS [qq 4 (.alloc 6784258 (.agg [.int .i64 0,.int .i64 0]))]
 (qT (qS [qm 7 1,qn 8 7,qv 9 .gtr [] 8 60]
 (.cond (.t 9) (.seq (.ops [qq 10 (.build [.int .i64 0,.int .i64 0] [(0 ,1 ,.c (.int .i64 2)),(1 ,1 ,.c (.int .i64 (-5)))]),qs 2 4 10]) .ret) .skip))
 (qT (qS [qm 11 1,qn 12 11,qc 13 0]
 (.block 0 (.loop (qS [qu 14 .lss [] 13 12]
 (qT (.cond (.t 14) .skip (.exit 0))
 (qT (.block 1 (qS [qi 15 1 11 13,ql 16 1 15,qm 6 16]
 (qS [qm 17 6,qv 18 .lss [] 17 0,qm 19 18,qg 20 19 false (.mov (.t 6)),qg 21 19 false (.mov (.t 0)),qg 22 19 false (.bin .geq false [] (.t 20) (.t 21)),qq 23 (.pick (.t 19) (.c (.bool true)) (.t 22))]
 (.cond (.t 23) (.seq (.ops [qq 24 (.build [.int .i64 0,.int .i64 0] [(0 ,1 ,.c (.int .i64 3)),(1 ,1 ,.c (.int .i64 (-6)))]),qs 2 4 24]) .ret) .skip))))
 (.ops [qv 25 .add [] 13 1,qm 13 25])))))))
 (.seq (.ops [qq 26 (.build [.int .i64 0,.int .i64 0] []),qs 2 4 26]) .ret))))
def zm4:List RVar:=[.cell true 2 4]
def zm5:Nat:=27
theorem zm6:zj PG 106 zm5 zm4 zm3=true:=by kernel_rfl
theorem zm7 (n:Nat)(plan:List Int)(hl:plan.length≤140737488355328):Fc PG 106 [.int .i64 n,.sl .p (plan.map zk)] (ftV (zcp n plan)):=by
 refine Fn.step zf zm6 ?_
 repeat' (first|refine zo rfl ?_|refine i_s rfl ?_|refine sw ?_|refine zl rfl ?_|refine zi rfl ?_|refine zd rfl (fun h=>?_) (fun h=>?_))
 · exact zb ⟨rfl,_,rfl,yV (by rw [zcp,if_pos (by grind)])⟩
 have h60:¬ plan.length > 60:=by grind
 clear h
 refine ye plan.length (fun k=>[(0,.int .i64 n),(4,.bptr 6784258 0),(11,.sl .p (plan.map zk)),(12,.int .i64 plan.length),(13,.int .i64 k)]) (fun _=>[(6784258,.box (ftV okF))]) (fun k=>(plan.take k).any (zdM n)=false) (by simp) ft fun k hk hi=>?_
 repeat (first|refine i_s rfl ?_|refine sw ?_)
 refine zd rfl (fun h=>?_) (fun h=>?_)
 · have hlt:k < plan.length:=by simpa using h
   obtain ⟨x,hx⟩:=zh hlt
   clear h
   repeat' (first|refine i_s rfl ?_|refine sw ?_|refine yi rfl ?_|refine yw rfl ?_|refine c_t rfl ?_|refine ja rfl rfl ?_|refine jd rfl rfl ?_|refine zl rfl ?_|(refine sp ?_ ?_<;>try intro h)|fail)
   all_goals first
    | refine zK hlt ?_ ft
      rw [zz hx,List.any_append,hi]
      simp only [List.any_cons,List.any_nil,Bool.or_false,Bool.false_or]
      unfold zdM;clear hi;grind
    | refine zb ⟨rfl,_,rfl,yV ?_⟩
      rw [zcp,if_neg h60,if_pos]
      exact List.any_eq_true.2 ⟨x,zm hx,by unfold zdM;clear hi;grind⟩
 · have hge:¬ k < plan.length:=by simpa using h
   rw [List.take_of_length_le (by omega)] at hi
   repeat' (first|refine i_s rfl ?_|refine sw ?_|refine zl rfl ?_)
   exact zb ⟨rfl,_,rfl,yV (by rw [zcp,if_neg h60,hi,if_neg (by simp)];rfl)⟩
def zbU (t:STask)(plan:List Int):Flt:=if yG t=okF then zcp t.ops.length plan else yG t
theorem zsI {t:STask}{plan:List Int} (h:zbU t plan=okF):SV t∧plan.length≤60∧(∀ x∈plan,0≤x∧x < t.ops.length)∧yG t=okF:=by
 unfold zbU at h
 split at h
 · rename_i h1
   obtain ⟨h2,h3⟩:=ztB h
   exact ⟨zc4 h1,h2,h3,h1⟩
 · rename_i h1;exact absurd h h1
def zgZ:Cmd :=
 (qS [qx 2 3520132 4 0,qq 4 (.alloc 3520258 (.agg [.int .i64 0,.int .i64 0]))]
 (qT (qS [qL 6 4 2,qk 7 13 [6],qq 5 (.alloc 3520322 (.agg [.int .i64 0,.int .i64 0])),qs 2 5 7]
 (qS [qL 8 2 5,qq 9 (.build [.int .i64 0,.int .i64 0] []),qq 10 (.bin .neq true [.i,.i] (.t 8) (.t 9))]
 (.cond (.t 10) (.seq (.ops [qL 11 2 5,qs 2 4 11]) .ret) .skip)))
 (.seq (.ops [qf 12 3 2,ql 13 1 12,qn 14 13,qm 15 1,qk 16 106 [14,15],qs 2 4 16]) .ret)))
def zg0:List RVar:=[.cell true 2 4]
def zg1:Nat:=17
theorem zg2:zj PG 55 zg1 zg0 zgZ=true:=by kernel_rfl
theorem zg3 (t:STask)(ho:SkOk t)(plan:List Int)(hl:plan.length≤140737488355328):Fc PG 55 [skV t,.sl .p (plan.map zk)] (ftV (zbU t plan)):=by
 have l5:=ho.o
 refine Fn.step zf zg2 ?_
 repeat' (first|refine zo rfl ?_|refine i_s rfl ?_|refine sw ?_|refine zl rfl ?_|refine zi rfl ?_|refine zr rfl rfl ?_|refine zd rfl (fun h=>?_) (fun h=>?_)|refine sf rfl rfl (za8 t ho) ?_|refine sf rfl rfl (zm7 t.ops.length plan hl) ?_|fail)
 · exact zb ⟨rfl,_,rfl,yV (by rw [zbU,if_neg (zxH h)])⟩
 · exact zb ⟨rfl,_,rfl,yV (by rw [zbU,if_pos (zkt h)])⟩
def ziw:Cmd :=
 (qS [qb 4 false]
 (qS [qc 5 0]
 (qT (qS [qm 8 1,qn 9 8,qc 10 0]
 (.block 0 (.loop (qS [qu 11 .lss [] 10 9]
 (qT (.cond (.t 11) .skip (.exit 0))
 (qT (.block 1 (qS [qi 12 1 8 10,ql 13 1 12,qm 7 13]
 (qT (.block 2 (.loop (qT (qS [qm 14 5,qm 15 0,qn 16 15,qu 17 .lss [] 14 16,qm 18 17,qg 19 18 true (.mov (.t 0)),qg 20 18 true (.mov (.t 5)),qg 21 18 true (.iaddr 1 (.t 19) (.t 20)),qg 22 18 true (.load false 1 (.t 21)),qg 23 18 true (.mov (.t 7)),qg 24 18 true (.bin .lss false [] (.t 22) (.t 23)),qq 25 (.pick (.t 18) (.t 24) (.c (.bool false)))]
 (.cond (.t 25) .skip (.exit 2)))
 (.block 3 (.ops [qm 26 5,qv 27 .add [] 26 1,qm 5 27])))))
 (qS [qm 28 5,qm 29 0,qn 30 29,qu 31 .eql [.i] 28 30,qm 32 31,qg 33 32 false (.mov (.t 0)),qg 34 32 false (.mov (.t 5)),qg 35 32 false (.iaddr 1 (.t 33) (.t 34)),qg 36 32 false (.load false 1 (.t 35)),qg 37 32 false (.mov (.t 7)),qg 38 32 false (.bin .neq false [.i] (.t 36) (.t 37)),qq 39 (.pick (.t 32) (.c (.bool true)) (.t 38))]
 (.cond (.t 39) (.seq (.ops [qb 4 false]) .ret) .skip)))))
 (.ops [qv 40 .add [] 10 1,qm 10 40])))))))
 (.seq (.ops [qb 4 true]) .ret))))
def zix:List RVar:=[.tmp 4]
def ziy:Nat:=41
theorem ziz:zj PG 93 ziy zix ziw=true:=by kernel_rfl
theorem za9 (s part:List Int)(hl:s.length≤140737488355328)(hl2:part.length≤140737488355328)(hs:SS s)(hp:SS part):Fc PG 93 [.sl .p (s.map zk),.sl .p (part.map zk)] (.bool (xl part s)):=by
 refine Fn.step zf ziz ?_
 repeat' (first|refine zo rfl ?_|refine i_s rfl ?_|refine sw ?_|fail)
 refine x5 (ι:=Nat × Nat) (fun p=>[(0,.sl .p (s.map zk)),(5,.int .i64 p.2),(8,.sl .p (part.map zk)),(9,.int .i64 part.length),(10,.int .i64 p.1)]) (fun _=>[])
  (fun p=>p.1≤part.length∧p.2≤s.length∧(∀ j,j < p.1→∀ y,part[j]? = some y→y∈s)∧(∀ j x,j < p.2→s[j]? = some x→∀ k' y,p.1≤k'→part[k']? = some y→x < y)) (fun p=>part.length - p.1) (0,0) ⟨Nat.zero_le _,Nat.zero_le _,yO,fun j x h=>by omega⟩ ft fun p hi=>?_
 obtain ⟨k,i⟩:=p
 obtain ⟨h1,h2,h3,h4⟩:=hi
 simp only at h1 h2 h3 h4
 repeat (first|refine i_s rfl ?_|refine sw ?_)
 refine zd rfl (fun h=>?_) (fun h=>?_)
 · have hlt : k < part.length:=by simpa using h
   obtain ⟨y,hy⟩:=zh hlt
   clear h
   repeat (first|refine i_s rfl ?_|refine sw ?_|refine jd rfl rfl ?_)
   refine x5 (ι:=Nat) (fun i=>[(0,.sl .p (s.map zk)),(5,.int .i64 i),(7,.int .i64 y),(8,.sl .p (part.map zk)),(9,.int .i64 part.length),(10,.int .i64 k)]) (fun _=>[])
    (fun i=>i≤s.length∧(∀ j x,j < i→s[j]? = some x→∀ k' y,k≤k'→part[k']? = some y→x < y)) (fun i=>s.length - i) i ⟨h2,h4⟩ ft fun i hi=>?_
   clear h2 h4
   obtain ⟨h2,h4⟩:=hi
   by_cases hil:i < s.length
   · obtain ⟨x, hx⟩:=zh hil
     have hil':(i:Int) < s.length:=by omega
     by_cases hxy:x < y
     · repeat' (first|refine zo rfl ?_|refine i_s rfl ?_|refine sw ?_|refine yi rfl ?_|refine yw rfl ?_|refine c_t rfl ?_|refine c_f rfl ?_|refine ja rfl rfl ?_|refine jd rfl rfl ?_|(refine sp ?_ ?_<;>try intro h)|fail)
       all_goals first
        | (refine xL (i + 1) ⟨by omega,fun j x' hj hx' k' y' hk' hy'=>?_⟩ (by omega) ft
           by_cases e:j=i
           · subst e
             rw [hx] at hx';cases hx'
             by_cases e2:k' = k
             · subst e2;rw [hy] at hy';cases hy';exact hxy
             · have:=zdL hp hy hy' (by omega);omega
           · exact h4 j x' (by omega) hx' k' y' hk' hy')
        | (exfalso;clear h3 h4 hs hp;simp at *;omega)
     · by_cases e:x=y
       · subst e
         repeat' (first|refine zo rfl ?_|refine i_s rfl ?_|refine sw ?_|refine yi rfl ?_|refine yw rfl ?_|refine c_t rfl ?_|refine c_f rfl ?_|refine ja rfl rfl ?_|refine jd rfl rfl ?_|(refine sp ?_ ?_<;>try intro h)|fail)
         all_goals first
          | (refine xL (k + 1,i) ⟨by simp only;omega,h2,?_,fun j x' hj hx' k' y' hk' hy'=>h4 j x' hj hx' k' y' (by simp only at hk';omega) hy'⟩ (by simp only;omega) ft
             intro j hj y' hy'
             by_cases e2:j=k
             · subst e2;rw [hy] at hy';cases hy';exact zm hx
             · exact h3 j (by simp only at hj;omega) y' hy')
          | (exfalso;clear h3 h4 hs hp;simp at *;omega)
          | (exfalso;clear h3 h4 hs hp;simp at *;done)
       · have hnm:y ∉ s:=fun hm=>by
          obtain ⟨j,hj,e2⟩:=List.getElem_of_mem hm
          have hg:s[j]? = some y:=by rw [← e2];exact List.getElem?_eq_getElem hj
          by_cases c:j < i
          · have:=h4 j y c hg k y (Nat.le_refl _) hy;omega
          · by_cases c2:j=i
            · subst c2;rw [hx] at hg;cases hg;exact e rfl
            · have:=zdL hs hx hg (by omega);omega
         repeat' (first|refine zo rfl ?_|refine i_s rfl ?_|refine sw ?_|refine yi rfl ?_|refine yw rfl ?_|refine c_t rfl ?_|refine c_f rfl ?_|refine ja rfl rfl ?_|refine jd rfl rfl ?_|(refine sp ?_ ?_<;>try intro h)|fail)
         all_goals first
          | (refine zb ⟨rfl,_,rfl,congrArg V.bool ?_⟩
             unfold xl
             rw [List.all_eq_false]
             exact ⟨y,zm hy,by simpa using hnm⟩)
          | (exfalso;clear h3 h4 hs hp hnm;simp at *;omega)
          | (exfalso;clear h3 h4 hs hp hnm;simp at *;done)
   · have hnm:y ∉ s:=fun hm=>by
      obtain ⟨j,hj,e2⟩:=List.getElem_of_mem hm
      have hg:s[j]? = some y:=by rw [← e2];exact List.getElem?_eq_getElem hj
      have:=h4 j y (by omega) hg k y (Nat.le_refl _) hy
      omega
     have hie:i=s.length:=by omega
     repeat' (first|refine zo rfl ?_|refine i_s rfl ?_|refine sw ?_|refine yi rfl ?_|refine yw rfl ?_|refine c_t rfl ?_|refine c_f rfl ?_|refine i_g rfl (fun h=>?_) (fun h=>?_))
     all_goals first
      | (refine zb ⟨rfl,_,rfl,congrArg V.bool ?_⟩
         unfold xl
         rw [List.all_eq_false]
         exact ⟨y,zm hy,by simpa using hnm⟩)
      | (exfalso;clear h3 h4 hs hp hnm;simp at *;omega)
      | (exfalso;clear h3 h4 hs hp hnm;simp at *;done)
 · have hge:¬ k < part.length:=by simpa using h
   repeat' (first|refine i_s rfl ?_|refine sw ?_|fail)
   refine zb ⟨rfl,_,rfl,congrArg V.bool ?_⟩
   unfold xl
   rw [List.all_eq_true]
   intro y hy
   obtain ⟨j,hj,e⟩:=List.getElem_of_mem hy
   exact decide_eq_true (h3 j (by omega) y (by rw [← e];exact List.getElem?_eq_getElem hj))
end Hm
end
section
namespace Hm
open Go
mutual
def dv {H:Type}:DataW H→V
 | .lit (.bool b)=>.bool b
 | .lit (.int k n)=>.int k n
 | .lit (.string l)=>.str l
 | .slice elems _=>.sl .p (dvL elems)
 | .agg parts=>.agg (dvC parts)
 | .nil=>.sl .p []
 | _=>.any
def dvL {H:Type}:List (DataW H)→List V
 | []=>[]
 | d :: r=>dv d :: dvL r
def dvC {H:Type}:List (DataW H)→List V
 | []=>[]
 | d :: r=>(dv d).cells ++ dvC r
end
theorem zru {H:Type}:∀ l:List (DataW H),dvL l=l.map dv
 | []=>rfl
 | d :: r=>by simp only [dvL,List.map_cons,zru r]
def lay (P:Program):List Field→Nat→Option Nat
 | [],o=>some o
 | f :: r,o=>bif Nat.beq f.offset o then lay P r (o + P.cellsOf f.type) else none
def pl (P:Program):Nat→TypeId→Bool
 | 0,_=>false
 | n + 1,t=>match P.underlying t with
   | some .bool=>true
   | some (.int _)=>true
   | some .string=>true
   | some (.slice e)=>Nat.blt 0 (P.cellsOf e) && pl P n e
   | some (.struct fs)=>(match lay P fs.toList 0 with
     | some m=>Nat.beq m (P.cellsOf t)
     | none=>false) && fs.toList.all fun f=>pl P n f.type
   | some (.array len e)=>Nat.beq (len * P.cellsOf e) (P.cellsOf t) && pl P n e
   | _=>false
def zxi (e:TypeId)(c i:Nat):Field:={ name:="",type:=e,offset:=i * c,embedded:=false,tag:="",pkgPath:="",byteOffset:=0 }
theorem zrv {P:Program}{e:TypeId}:∀ (len k:Nat),lay P ((List.range' k len).map (zxi e (P.cellsOf e))) (k * P.cellsOf e)=some ((k + len) * P.cellsOf e)
 | 0,k=>rfl
 | len + 1,k=>by
  simp only [List.range'_succ,List.map_cons,lay,zxi,Nat.beq_refl,cond_true]
  have:=zrv (P:=P) (e:=e) len (k + 1)
  rw [Nat.succ_mul] at this
  rw [show k + (len + 1)=k + 1 + len from by omega]
  exact this
section
variable {H:Type}{enc:TypeId × Value→H}{P:Program}{w:World}{sp:Nat→Bool}
theorem zfe {S:Nat→Prop}{cs:List Value}:∀ (fl:List Field)(ys:List (DataW H × List MemPlace))(o m:Nat),lay P fl o=some m→m≤cs.length→ys.length=fl.length →
  (∀ (i:Nat)(f:Field)(y:DataW H × List MemPlace),fl[i]? = some f→ys[i]? = some y→((cs.drop f.offset).take (P.cellsOf f.type)).length=(dv y.1).cells.length ∧
    ∀ (j:Nat)(v:V)(x:Value),(dv y.1).cells[j]? = some v→((cs.drop f.offset).take (P.cellsOf f.type))[j]? = some x→RepP w S v x) →
  o≤m∧(dvC (ys.map (·.1))).length=m - o∧∀ (j:Nat)(v:V)(x:Value),(dvC (ys.map (·.1)))[j]? = some v→cs[o + j]? = some x→RepP w S v x
 | [],[],o,m,hl,_,_,_=>by
  simp only [lay,Option.some.injEq] at hl
  subst hl
  exact ⟨Nat.le_refl _,by simp [dvC],fun j v x h=>by simp [dvC] at h⟩
 | f :: fl,y :: ys,o,m,hl,hm,hlen,h=>by
  simp only [lay] at hl
  cases hb:Nat.beq f.offset o with
  | false=>rw [hb] at hl;cases hl
  | true =>
   rw [hb] at hl
   have ho:=Nat.eq_of_beq_eq_true hb
   obtain ⟨h1,h2,h3⟩:=zfe fl ys (o + P.cellsOf f.type) m hl hm (by simpa using hlen) (fun i f y hf hy=>h (i + 1) f y (by simpa using hf) (by simpa using hy))
   obtain ⟨k1,k2⟩:=h 0 f y rfl rfl
   rw [ho] at k1 k2
   have hk:(dv y.1).cells.length=P.cellsOf f.type:=by
    rw [← k1,List.length_take,List.length_drop];omega
   refine ⟨by omega,by simp only [List.map_cons,dvC,List.length_append,h2,hk];omega,fun j v x hv hx=>?_⟩
   simp only [List.map_cons,dvC] at hv
   by_cases hj:j < P.cellsOf f.type
   · rw [List.getElem?_append_left (by omega)] at hv
     refine k2 j v x hv ?_
     rw [List.getElem?_take,if_pos hj,List.getElem?_drop]
     exact hx
   · rw [List.getElem?_append_right (by omega),hk] at hv
     exact h3 _ v x hv (by rw [show o + P.cellsOf f.type + (j - P.cellsOf f.type)=o + j from by omega];exact hx)
 | [],_ :: _,_,_,_,_,hlen,_=>by simp at hlen
 | _ :: _,[],_,_,_,_,hlen,_=>by simp at hlen
theorem zt0 {w:World}{a:Addr}{n:Nat}{cs:List Value} (h:w.cells? 0 a n=some cs):cs.length=n∧∀ i,i < n→w.cell? (a.add i)=cs[i]?:=by
 unfold World.cells? at h
 rw [if_pos (Nat.zero_le _)] at h
 exact ⟨by simpa using mapM_some_length h,fun i hi=>mapM_some_get h i i (by simp [hi])⟩
theorem zwc {w:World}{a:Addr}{v:Value} (h:w.cell? a=some v):a.block < w.heap.size∧a.spot=none:=by
 unfold World.cell? at h
 split at h
 · rename_i c t fr hc
   refine ⟨(Array.getElem?_eq_some_iff.1 hc).1,?_⟩
   cases hs:a.spot with
   | none=>rfl
   | some _=>rw [hs] at h;simp at h
 · cases h
theorem zff : ∀ (n:Nat)(t:TypeId)(fuel:Nat)(cs:List Value)(x:DataW H × List MemPlace),pl P n t=true→DataW.trod enc P w 0 sp true fuel t cs=some x →
  cs.length=(dv x.1).cells.length∧∀ (i:Nat)(v:V)(y:Value),(dv x.1).cells[i]? = some v→cs[i]? = some y→RepP w (fun b=>b < w.heap.size) v y
 | 0,t,fuel,cs,x,hp,_=>by cases hp
 | n + 1, t, fuel,cs,x,hp,h=>by
  unfold pl at hp
  split at hp
  · rename_i ht
    obtain ⟨b,rfl,rfl⟩:=DataW.trod_bool ht h
    refine ⟨rfl,fun i v y hv hy=>?_⟩
    cases i with
    | zero=>simp [dv,V.cells] at hv hy;subst hv hy;exact .bool b
    | succ i=>simp at hy
  · rename_i k ht
    obtain ⟨m,rfl,rfl,_⟩:=DataW.trod_int ht h
    refine ⟨rfl,fun i v y hv hy=>?_⟩
    cases i with
    | zero=>simp [dv,V.cells] at hv hy;subst hv hy;exact .int k m
    | succ i=>simp at hy
  · rename_i ht
    obtain ⟨s,rfl,rfl,_⟩:=DataW.trod_string ht h
    refine ⟨rfl,fun i v y hv hy=>?_⟩
    cases i with
    | zero =>
     simp [dv,V.cells] at hv hy
     subst hv hy
     have:=RepP.str (w:=w) (S:=fun b=>b < w.heap.size) s.data.toList
     simpa using this
    | succ i=>simp at hy
  · rename_i e ht
    simp only [Bool.and_eq_true] at hp
    obtain ⟨hc0,hpe⟩:=hp
    have hc:0 < P.cellsOf e:=by simpa [Nat.blt_eq] using hc0
    rcases Go.Deep.open_slice ht h with ⟨rfl,rfl⟩|⟨a,len,cap,m,q,D,Pl,rfl,_,hlc,_,hm,rfl,hcell⟩
    · refine ⟨rfl,fun i v y hv hy=>?_⟩
      cases i with
      | zero=>simp [dv,V.cells] at hv hy;subst hv hy;exact .emp none 0
      | succ i=>simp at hy
    · refine ⟨rfl,fun i v y hv hy=>?_⟩
      cases i with
      | succ i=>simp at hy
      | zero =>
       simp only [dv,V.cells,List.getElem?_cons_zero,Option.some.injEq] at hv hy
       subst hv hy
       rw [zru,List.map_map]
       cases len with
       | zero=>exact .emp (some a) cap
       | succ len =>
        have hle:len + 1≤m:=by rw [hm];split<;>omega
        have key:∀ i,i < len + 1→(∃ cs':List Value,(∀ j,j < P.cellsOf e→w.cell? ((a.add (i * P.cellsOf e)).add j)=cs'[j]?)∧cs'.length=P.cellsOf e∧cs'.length=(dv (D i)).cells.length ∧
          ∀ (j:Nat)(v:V)(y:Value),(dv (D i)).cells[j]? = some v→cs'[j]? = some y→RepP w (fun b=>b < w.heap.size) v y):=by
         intro i hi
         obtain ⟨cs',h1,h2⟩:=hcell i (by omega)
         obtain ⟨h3,h4⟩:=zt0 h1
         obtain ⟨h5,h6⟩:=zff n e q cs' _ hpe h2
         exact ⟨cs',h4,h3,h5,h6⟩
        obtain ⟨cs0,k1,k2,_,_⟩:=key 0 (by omega)
        have k3:=k1 0 hc
        rw [List.getElem?_eq_getElem (by omega)] at k3
        obtain ⟨hblt,hspot⟩:=zwc k3
        simp only [Nat.zero_mul,Addr.add_zero'] at hblt hspot
        have hb:a.block < w.heap.size:=hblt
        have hs:a.spot=none:=hspot
        obtain ⟨b,off,spot⟩:=a
        simp only at hb hs
        subst hs
        have e1:len + 1=((List.range (len + 1)).map (dv ∘ D)).length:=by simp
        have goal:RepP w (fun b=>b < w.heap.size) (.sl .p ((List.range (len + 1)).map (dv ∘ D))) (.slice (some ⟨b,off,none⟩) ((List.range (len + 1)).map (dv ∘ D)).length cap):=by
         refine .sl _ b off cap (P.cellsOf e) (fun i j=>(w.cell? ⟨b,off + i * P.cellsOf e + j,none⟩).getD default) hb (by omega) (fun row hrow=>?_) (fun i j row v hr hv=>?_) (fun i j row v hr hv=>?_)
         · obtain ⟨i,hi,rfl⟩:=List.mem_map.1 hrow
           obtain ⟨cs',_,g1,g2,_⟩:=key i (List.mem_range.1 hi)
           show (dv (D i)).cells.length=_
           omega
         · rw [List.getElem?_map] at hr
           have hi:i < len + 1:=by
            have:=(List.getElem?_eq_some_iff.1 (Option.map_eq_some_iff.1 hr).choose_spec.1).1
            simpa using this
           rw [List.getElem?_range hi] at hr
           simp only [Option.map_some,Option.some.injEq,Function.comp] at hr
           subst hr
           obtain ⟨cs',g0,g1,g2,g3⟩:=key i hi
           have hj:=(List.getElem?_eq_some_iff.1 hv).1
           have:=g0 j (by omega)
           simp only [Addr.add_lit] at this
           rw [this,List.getElem?_eq_getElem (by omega)]
           rfl
         · rw [List.getElem?_map] at hr
           have hi:i < len + 1:=by
            have:=(List.getElem?_eq_some_iff.1 (Option.map_eq_some_iff.1 hr).choose_spec.1).1
            simpa using this
           rw [List.getElem?_range hi] at hr
           simp only [Option.map_some,Option.some.injEq,Function.comp] at hr
           subst hr
           obtain ⟨cs',g0,g1,g2,g3⟩:=key i hi
           have hj:=(List.getElem?_eq_some_iff.1 hv).1
           have:=g0 j (by omega)
           simp only [Addr.add_lit] at this
           rw [this,List.getElem?_eq_getElem (by omega)]
           exact g3 j v _ hv (by rw [List.getElem?_eq_getElem (by omega)];rfl)
        rw [← e1] at goal
        exact goal
  · rename_i fs ht
    simp only [Bool.and_eq_true,List.all_eq_true] at hp
    obtain ⟨hlay,hall⟩:=hp
    split at hlay
    · rename_i m hm
      have hme:=Nat.eq_of_beq_eq_true hlay
      obtain ⟨xs,q,_,rfl,hlen,hxl,hseg⟩:=DataW.trod_struct ht h
      obtain ⟨_,g1,g2⟩:=zfe (P:=P) (w:=w) (S:=fun b=>b < w.heap.size) (cs:=cs) fs.toList xs 0 m hm (by omega) (by simpa using hxl) (fun i f y hf hy=>by
       have hf':fs[i]? = some f:=by simpa using hf
       have:=hseg i f hf'
       rw [hy] at this
       exact zff n f.type q _ y (hall f (List.mem_of_getElem? hf)) this)
      refine ⟨by simp only [dv,V.cells,g1];omega,fun i v y hv hy=>g2 i v y (by simpa [dv,V.cells] using hv) (by simpa using hy)⟩
    · cases hlay
  · rename_i len e ht
    simp only [Bool.and_eq_true] at hp
    obtain ⟨hlay,hpe⟩:=hp
    have hme:=Nat.eq_of_beq_eq_true hlay
    obtain ⟨xs,q,_,rfl,hlen,hxl,hseg⟩:=DataW.trod_array ht h
    have hla:=zrv (P:=P) (e:=e) len 0
    rw [Nat.zero_mul,Nat.zero_add] at hla
    obtain ⟨_,g1,g2⟩:=zfe (P:=P) (w:=w) (S:=fun b=>b < w.heap.size) (cs:=cs) _ xs 0 _ hla (by omega) (by simpa using hxl) (fun i f y hf hy=>by
     have hi:i < len:=by have:=(List.getElem?_eq_some_iff.1 hy).1;omega
     rw [List.getElem?_map,List.getElem?_range' hi] at hf
     simp only [Option.map_some,Option.some.injEq,Nat.zero_add,Nat.one_mul] at hf
     subst hf
     have:=hseg i hi
     rw [hy] at this
     exact zff n e q _ y hpe this)
    refine ⟨by simp only [dv,V.cells,g1];omega,fun i v y hv hy=>g2 i v y (by simpa [dv,V.cells] using hv) (by simpa using hy)⟩
  · cases hp
theorem zwd {n base:Nat}{t:TypeId}{v:Value}{d:DataW H}{ps:List MemPlace} (hp:pl P n t=true)(hok:Value.okWide P w .any base t v)(h:DataW.Trod enc P w 0 sp true t v d ps):RepP w (fun b=>b < w.heap.size) (dv d) v:=by
 obtain ⟨fuel,h⟩:=h
 obtain ⟨h1,h2⟩:=zff n t fuel _ _ hp h
 cases n with
 | zero=>cases hp
 | succ n =>
  unfold pl at hp
  split at hp
  · rename_i ht
    obtain ⟨b,e,e2⟩:=DataW.trod_bool ht h
    injection e2 with e2 _
    subst e2
    cases v<;>simp [Value.okWide,ht,Cell.okWide,Cell.ok] at hok
    simp [Value.cells] at e
    subst e
    exact .bool _
  · rename_i k ht
    obtain ⟨m,e,e2,_⟩:=DataW.trod_int ht h
    injection e2 with e2 _
    subst e2
    cases v<;>simp [Value.okWide,ht,Cell.okWide,Cell.ok] at hok
    simp [Value.cells] at e
    obtain ⟨rfl,rfl⟩:=e
    exact .int _ _
  · rename_i ht
    obtain ⟨s,e,e2,_⟩:=DataW.trod_string ht h
    injection e2 with e2 _
    subst e2
    cases v<;>simp [Value.okWide,ht,Cell.okWide,Cell.ok] at hok
    simp [Value.cells] at e
    subst e
    exact h2 0 _ _ rfl rfl
  · rename_i e ht
    have hv:v.cells = #[v]:=by
     cases v<;>first|rfl|(simp [Value.okWide,ht,Cell.okWide,Cell.ok] at hok)
    have hd:(dv d).cells=[dv d]:=by
     rcases Go.Deep.open_slice ht h with ⟨_,e2⟩|⟨_,_,_,_,_,_,_,_,_,_,_,_,e2,_⟩<;>(injection e2 with e2 _;subst e2;rfl)
    exact h2 0 _ _ (by rw [hd];rfl) (by rw [hv];rfl)
  · rename_i fs ht
    simp only [Value.okWide,ht] at hok
    obtain ⟨cs,rfl,_,_⟩:=hok
    obtain ⟨xs,q,_,e2,_⟩:=DataW.trod_struct ht h
    injection e2 with e2 _
    subst e2
    have:=RepP.agg (w:=w) (S:=fun b=>b < w.heap.size) (dvC (xs.map (·.1))) cs.toList (by
     have:=h1
     simp only [dv,V.cells,Value.cells] at this
     exact this.symm) (fun i v x hv hx=>h2 i v x (by simpa [dv,V.cells] using hv) (by simpa [Value.cells] using hx))
    simpa [dv] using this
  · rename_i len e ht
    simp only [Value.okWide,ht] at hok
    obtain ⟨cs,rfl,_,_⟩:=hok
    obtain ⟨xs,q,_,e2,_⟩:=DataW.trod_array ht h
    injection e2 with e2 _
    subst e2
    have:=RepP.agg (w:=w) (S:=fun b=>b < w.heap.size) (dvC (xs.map (·.1))) cs.toList (by
     have:=h1
     simp only [dv,V.cells,Value.cells] at this
     exact this.symm) (fun i v x hv hx=>h2 i v x (by simpa [dv,V.cells] using hv) (by simpa [Value.cells] using hx))
    simpa [dv] using this
  · cases hp
theorem zqp {n base:Nat}:∀ (ts:List TypeId)(vs:List Value)(ds:List (DataW H))(ps:List MemPlace),ts.all (pl P n)=true→(∀ (j:Nat) t v,ts[j]? = some t→vs[j]? = some v→Value.okWide P w .any base t v) →
  DataW.TrodAll enc P w 0 sp true ts vs ds ps→xw (RepP w (fun b=>b < w.heap.size)) (ds.map dv) vs
 | [],[],[],_,_,_,_=>⟨rfl,fun i v x h=>by simp at h⟩
 | t :: ts,v :: vs,d :: ds,ps,hp,hok,h=>by
  obtain ⟨p,q,h1,h2,_⟩:=h
  simp only [List.all_cons,Bool.and_eq_true] at hp
  have ih:=zqp ts vs ds q hp.2 (fun j t v ht hv=>hok (j + 1) t v (by simpa using ht) (by simpa using hv)) h2
  refine ⟨by simpa using ih.1,fun i u x hu hx=>?_⟩
  cases i with
  | zero =>
   simp at hu hx
   subst hu hx
   exact zwd hp.1 (hok 0 t v rfl rfl) h1
  | succ i=>exact ih.2 i u x (by simpa using hu) (by simpa using hx)
 | [],_ :: _,_,_,_,_,h=>by simp [DataW.TrodAll] at h
 | [],[],_ :: _,_,_,_,h=>by simp [DataW.TrodAll] at h
 | _ :: _,[],_,_,_,_,h=>by simp [DataW.TrodAll] at h
 | _ :: _,_ :: _,[],_,_,_,h=>by simp [DataW.TrodAll] at h
def wt (P:Program) {H:Type}:Nat→TypeId→DataW H→Prop
 | 0,_,_=>False
 | n + 1,t,d=>match P.underlying t with
   | some .bool=>∃ b,d=.lit (.bool b)
   | some (.int k)=>∃ m,d=.lit (.int k m)∧(Lit.int k m).wf=true
   | some .string=>∃ l,d=.lit (.string l)∧l.length≤reachBytes
   | some (.slice e)=>d=.nil∨∃ elems spare,d=.slice elems spare∧elems.length * P.bytesOf e≤reachBytes∧∀ x∈elems,wt P n e x
   | some (.struct fs)=>∃ parts,d=.agg parts∧parts.length=fs.size∧∀ (i:Nat)(f:Field)(p:DataW H),fs[i]? = some f→parts[i]? = some p→wt P n f.type p
   | some (.array len e)=>∃ parts,d=.agg parts∧parts.length=len∧∀ x∈parts,wt P n e x
   | _=>True
theorem jy {e:TypeId}:∀ {l:List (DataW H)}{x:DataW H},x∈l→∀ n∈x.weights P e,n∈DataW.weightsAll P e l
 | d :: r,x,hx,n,hn=>by
  simp only [DataW.weightsAll,List.mem_append]
  rcases List.mem_cons.1 hx with rfl|hx
  · exact .inl hn
  · exact .inr (jy hx n hn)
theorem zhw:∀ (fuel:Nat)(t:TypeId)(cs:List Value)(x:DataW H × List MemPlace),DataW.trod enc P w 0 sp true fuel t cs=some x→(∀ n∈x.1.weights P t,n≤reachBytes)→wt P fuel t x.1
 | 0,t,cs,x,h,_=>by simp [DataW.trod] at h
 | fuel + 1,t,cs,x,h,hw=>by
  unfold wt
  split
  · rename_i ht
    obtain ⟨b,_,rfl⟩:=DataW.trod_bool ht h
    exact ⟨b,rfl⟩
  · rename_i k ht
    obtain ⟨m,_,rfl,hm⟩:=DataW.trod_int ht h
    exact ⟨m,rfl,hm⟩
  · rename_i ht
    obtain ⟨s,_,rfl,_⟩:=DataW.trod_string ht h
    exact ⟨_,rfl,hw _ (by simp [DataW.weights])⟩
  · rename_i e ht
    rcases DataW.trod_slice ht h with ⟨_,rfl⟩|⟨a,len,cap,elems,rest,n,hn,_,rfl,_,_,_,hlen,hel,_,_⟩
    · exact .inl rfl
    · injection hn with hn
      subst hn
      refine .inr ⟨_,_,rfl,?_,fun y hy=>?_⟩
      · have:=hw ((elems.length + rest.length) * P.bytesOf e) (by simp [DataW.weights,ht])
        simp only [List.length_map]
        exact Nat.le_trans (Nat.mul_le_mul_right _ (Nat.le_add_right _ _)) this
      · obtain ⟨z,hz,rfl⟩:=List.mem_map.1 hy
        obtain ⟨i,hi,ez⟩:=List.getElem_of_mem hz
        have:=hel i (by omega)
        rw [List.getElem?_eq_getElem hi,ez] at this
        obtain ⟨cs',h1,h2⟩:=Option.bind_eq_some_iff.1 this
        refine zhw fuel e cs' z h2 fun n hn=>hw n ?_
        simp only [DataW.weights,ht,List.mem_cons,List.mem_append]
        exact .inr (.inl (jy hy n hn))
  · rename_i fs ht
    obtain ⟨xs,n,hn,rfl,_,hxl,hseg⟩:=DataW.trod_struct ht h
    injection hn with hn
    subst hn
    refine ⟨_,rfl,by simpa using hxl,fun i f p hf hp=>?_⟩
    rw [List.getElem?_map] at hp
    obtain ⟨z,hz,rfl⟩:=Option.map_eq_some_iff.1 hp
    have:=hseg i f hf
    rw [hz] at this
    refine zhw fuel f.type _ z this fun n hn=>hw n ?_
    simp only [DataW.weights,ht]
    exact DataW.weights_mem_each (j:=i) (by rw [List.getElem?_map];simp [hf]) (by rw [List.getElem?_map,hz];rfl) n hn
  · rename_i len e ht
    obtain ⟨xs,n,hn,rfl,_,hxl,hseg⟩:=DataW.trod_array ht h
    injection hn with hn
    subst hn
    refine ⟨_,rfl,by simpa using hxl,fun y hy=>?_⟩
    obtain ⟨z,hz,rfl⟩:=List.mem_map.1 hy
    obtain ⟨i,hi,ez⟩:=List.getElem_of_mem hz
    have:=hseg i (by omega)
    rw [List.getElem?_eq_getElem hi,ez] at this
    refine zhw fuel e _ z this fun n hn=>hw n ?_
    simp only [DataW.weights,ht]
    exact jy hy n hn
  · trivial
theorem zrw:∀ (ts:List TypeId)(vs:List Value)(ds:List (DataW H))(ps:List MemPlace),DataW.TrodAll enc P w 0 sp true ts vs ds ps→(∀ n∈DataW.weightsEach P ts ds,n≤reachBytes) →
  ds.length=ts.length∧∀ (j:Nat) t d,ts[j]? = some t→ds[j]? = some d→∃ n,wt P n t d
 | [],[],[],_,_,_=>⟨rfl,fun j t d h=>by simp at h⟩
 | t :: ts,v :: vs,d :: ds,ps,h,hw=>by
  obtain ⟨p,q,⟨fuel,h1⟩,h2,_⟩:=h
  have ih:=zrw ts vs ds q h2 (fun n hn=>hw n (by simp only [DataW.weightsEach,List.mem_append];exact .inr hn))
  refine ⟨by simpa using ih.1,fun j t' d' ht hd=>?_⟩
  cases j with
  | zero =>
   simp at ht hd
   subst ht hd
   exact ⟨fuel,zhw fuel t _ _ h1 fun n hn=>hw n (by simp only [DataW.weightsEach,List.mem_append];exact .inl hn)⟩
  | succ j=>exact ih.2 j t' d' (by simpa using ht) (by simpa using hd)
 | [],_ :: _,_,_,h,_=>by simp [DataW.TrodAll] at h
 | [],[],_ :: _,_,h,_=>by simp [DataW.TrodAll] at h
 | _ :: _,[],_,_,h,_=>by simp [DataW.TrodAll] at h
 | _ :: _,_ :: _,[],_,h,_=>by simp [DataW.TrodAll] at h
end
section
variable {H:Type}{enc:TypeId × Value→H}{P:Program}
theorem znW (hl:laidOutB P=true) {W W':World} (hb:Go.RowKit.Below W.heap.size W W'):∀ (ts:List TypeId)(vs:List Value)(ds:List (DataW H))(ps:List MemPlace),(ts.all fun t=>P.readableRec t && decide (t < P.types.size))=true→(∀ x∈ps,x.block < W.heap.size) →
  DataW.TrodAll enc P W 0 (fun _=>true) true ts vs ds ps→DataW.TrodAll enc P W' 0 (fun b=>decide (b < W.heap.size)) true ts vs ds ps
 | [],[],[],_,_,_,h=>h
 | t :: ts,v :: vs,d :: ds,ps,hr,hlt,h=>by
  obtain ⟨p,q,h1,h2,rfl⟩:=h
  simp only [List.all_cons,Bool.and_eq_true] at hr
  exact ⟨p,q,Go.RowKit.Below.trod hl hr.1.1 (of_decide_eq_true hr.1.2) h1 hb (fun x hx=>hlt x (by simp [hx])),znW hl hb ts vs ds q hr.2 (fun x hx=>hlt x (by simp [hx])) h2,rfl⟩
 | [],_ :: _,_,_,_,_,h=>by simp [DataW.TrodAll] at h
 | [],[],_ :: _,_,_,_,h=>by simp [DataW.TrodAll] at h
 | _ :: _,[],_,_,_,_,h=>by simp [DataW.TrodAll] at h
 | _ :: _,_ :: _,[],_,_,_,h=>by simp [DataW.TrodAll] at h
end
theorem zu6 {C:Checked}{f:FuncId}{fn:Func}{s:ChangeSpec}{H:Type}{enc:TypeId × Value→H}{tb:TypeId}{n:Nat}
  (hvars:s.vars=[])(hs:∀ ds:List (DataW H),ds.length=fn.params.toList.length→(s.fn H (ds ++ [])).results=[.lit (.bool true)]∧(s.fn H (ds ++ [])).args=ds∧(s.fn H (ds ++ [])).vars=[])
  (hlaid:laidOutB C.prog=true)(hp:(fn.params.toList.all (pl C.prog n))=true)(hr:(fn.params.toList.all fun t=>C.prog.readableRec t && decide (t < C.prog.types.size))=true)
  (hres:fn.resultTypes = #[tb])(htb:C.prog.underlying tb=some .bool)
  (hc:∀ ds:List (DataW H),ds.length=fn.params.toList.length→(∀ (j:Nat) t d,fn.params.toList[j]? = some t→ds[j]? = some d→∃ n,wt C.prog n t d)→Fc C.prog f (ds.map dv) (.bool true))
  (W:World)(base:Nat)(args:Array Value)(ds gs:List (DataW H))(before:List MemPlace)
  (hval:∀ (j:Nat) t v,fn.params[j]? = some t→args[j]? = some v→Value.okWide C.prog W .any base t v)
  (hW:DataW.Whole enc C.prog fn.params.toList s.vars false W args.toList ds gs before)
  (hsz:(DataW.weightsEach C.prog (fn.params.toList ++ s.plain.varTypes C.prog) (ds ++ gs)).all (·≤reachBytes)=true)
  (hgl:∀ p∈glb,∃ (cs:List Value)(e:TypeId)(fr:Nat × Nat),W.heap[p.1]? = some (.cells cs.toArray e fr)∧p.2 cs) :
  Calls C.prog f args W fun e W'=>∃ v,e=.returned v∧s.post enc C.prog fn false true false false W args v W':=by
 have hW':=hW
 obtain ⟨p,q,hA,hV,hbe,hfz,hnd⟩:=hW
 rw [hvars] at hV
 have hg:gs=[]∧q=[]:=by
  cases gs with
  | nil=>exact ⟨rfl,by simpa [DataW.TrodVars] using hV⟩
  | cons g gs=>simp [DataW.TrodVars] at hV
 obtain ⟨rfl,rfl⟩:=hg
 have hw:∀ n∈DataW.weightsEach C.prog fn.params.toList ds,n≤reachBytes:=by
  intro n hn
  have h1:=List.all_eq_true.1 hsz n
  have hlen:ds.length=fn.params.toList.length:=by
   have:∀ (ts:List TypeId)(vs:List Value)(ds:List (DataW H))(ps:List MemPlace),DataW.TrodAll enc C.prog W 0 (fun _=>true) true ts vs ds ps→ds.length=ts.length:=by
    intro ts
    induction ts with
    | nil=>intro vs ds ps h;cases vs<;>cases ds<;>simp [DataW.TrodAll] at h ⊢
    | cons t ts ih =>
     intro vs ds ps h
     cases vs<;>cases ds<;>simp [DataW.TrodAll] at h ⊢
     obtain ⟨p,_,q,h2,_⟩:=h
     exact ih _ _ _ h2
   exact this _ _ _ _ hA
  have h2:n∈DataW.weightsEach C.prog (fn.params.toList ++ s.plain.varTypes C.prog) (ds ++ []):=by
   have:∀ (ts us:List TypeId)(ds:List (DataW H)),ds.length=ts.length→∀ n∈DataW.weightsEach C.prog ts ds,n∈DataW.weightsEach C.prog (ts ++ us) ds:=by
    intro ts
    induction ts with
    | nil=>intro us ds h n hn;simp [DataW.weightsEach] at hn
    | cons t ts ih =>
     intro us ds h n hn
     cases ds with
     | nil=>simp at h
     | cons d ds =>
      simp only [List.cons_append,DataW.weightsEach,List.mem_append] at hn ⊢
      rcases hn with hn|hn
      · exact .inl hn
      · exact .inr (ih us ds (by simpa using h) n hn)
   rw [List.append_nil]
   exact this _ _ _ hlen n hn
  exact of_decide_eq_true (h1 h2)
 obtain ⟨hdl,hwt⟩:=zrw _ _ _ _ hA hw
 have hrep:=zqp (n:=n) (base:=base) _ _ _ _ hp (fun j t v ht hv=>hval j t v (by simpa using ht) (by simpa using hv)) hA
 obtain ⟨_,hcall⟩:=(hc ds hdl hwt).out
 have hcw:=callsIn_wide.1 (hcall W (fun b=>b < W.heap.size) args.toList (fun b h=>h) (fun p hp=>by
  obtain ⟨cs,e,fr,h1,h2⟩:=hgl p hp
  exact ⟨(Array.getElem?_eq_some_iff.1 h1).1,cs,e,fr,h1,h2⟩) hrep)
 simp only [Array.toArray_toList] at hcw
 refine hcw.mono fun e W' ⟨x',S',he,hx,_,_,hgrow⟩=>?_
 subst he
 cases hx
 have hb:Go.RowKit.Below W.heap.size W W':=⟨hgrow.os,hgrow.tape,hgrow.output.1,hgrow.size,fun k hk=>hgrow.same k hk⟩
 obtain ⟨s1,s2,s3⟩:=hs ds hdl
 refine ⟨_,rfl,ds,[],before,[],p,[],hW',?_,?_,?_,?_,fun h=>by cases h⟩
 · rw [s1,hres]
   refine ⟨[],[],⟨1,?_⟩,rfl,rfl⟩
   unfold DataW.trod
   rw [htb]
   rfl
 · rw [s2]
   have hlt:∀ x∈p,x.block < W.heap.size:=fun x hx=>hW'.lt x (by rw [hbe];simp [hx])
   exact znW hlaid hb _ _ _ _ hr hlt hA
 · rw [s3,hvars];rfl
 · exact hb.frame _
theorem zu7 {C:Checked}{os:Os}{f:FuncId}{fn:Func}{s:ChangeSpec}{H:Type}{enc:TypeId × Value→H}{tb:TypeId}{n:Nat}
  (own:ownKnob C.prog.godebug=none)(started:os.Started)(noInit:C.prog.inits.idxOf? f=none)(hfn:C.prog.funcs[f]? = some fn)
  (witness:∃ (w:World)(tape:Tape)(i:Input),w.os=os∧(w.forCall tape i).Shaped C.prog∧i.vars=[]∧Input.okWide C.prog (w.forCall tape i) .any w.heap.size f i ∧
    s.pre6 enc C.prog fn [] false (w.forCall tape i).memory i.args∧(({}:Assume)).holds C.prog (lone (Frame.enter C.prog f i.args .normal) [] (w.forCall tape i)))
  (hvars:s.vars=[])(hs:∀ ds:List (DataW H),ds.length=fn.params.toList.length→(s.fn H (ds ++ [])).results=[.lit (.bool true)]∧(s.fn H (ds ++ [])).args=ds∧(s.fn H (ds ++ [])).vars=[])
  (hlaid:laidOutB C.prog=true)(hp:(fn.params.toList.all (pl C.prog n))=true)(hr:(fn.params.toList.all fun t=>C.prog.readableRec t && decide (t < C.prog.types.size))=true)
  (hres:fn.resultTypes = #[tb])(htb:C.prog.underlying tb=some .bool)
  (hglb:glb=[])
  (hc:∀ ds:List (DataW H),ds.length=fn.params.toList.length→(∀ (j:Nat) t d,fn.params.toList[j]? = some t→ds[j]? = some d→∃ n,wt C.prog n t d)→Fc C.prog f (ds.map dv) (.bool true)) :
  ReturnsInHanded {} C os f .any (s.pre6 enc C.prog fn [] false) (s.post enc C.prog fn false true false false):=by
 refine returnsInHanded_of_change_sized own started noInit hfn witness ?_
 intro W base args ds gs before hval hW _ hsz _
 exact zu6 hvars hs hlaid hp hr hres htb hc W base args ds gs before hval hW hsz (fun p hp=>by rw [hglb] at hp;cases hp)
end Hm
namespace Hm
open Go
section
variable {H:Type}{P:Program}
def wtE (P:Program) {H:Type} (n:Nat):List TypeId→List (DataW H)→Prop
 | [],[]=>True
 | t :: ts,d :: ds=>wt P n t d∧wtE P n ts ds
 | _,_=>False
theorem zt1 {n:Nat}:∀ (ts:List TypeId)(ds:List (DataW H)),ds.length=ts.length→(∀ (i:Nat)(t:TypeId)(d:DataW H),ts[i]? = some t→ds[i]? = some d→wt P n t d)→wtE P n ts ds
 | [],[],_,_=>trivial
 | t :: ts,d :: ds,hl,h=>⟨h 0 t d rfl rfl,zt1 ts ds (by simpa using hl) fun i t d h1 h2=>h (i + 1) t d (by simpa using h1) (by simpa using h2)⟩
 | [],_ :: _,hl,_=>by simp at hl
 | _ :: _,[],hl,_=>by simp at hl
theorem zfg {n:Nat}{t:TypeId}{d:DataW H}{fs:Array Field} (ht:P.underlying t=some (.struct fs))(h:wt P n t d):∃ parts m,d=.agg parts∧wtE P m (fs.toList.map (·.type)) parts:=by
 cases n with
 | zero=>exact h.elim
 | succ n =>
  simp only [wt,ht] at h
  obtain ⟨parts,rfl,hl,h⟩:=h
  refine ⟨parts,n,rfl,zt1 _ _ (by simpa using hl) fun i t d h1 h2=>?_⟩
  rw [List.getElem?_map] at h1
  obtain ⟨f,hf,rfl⟩:=Option.map_eq_some_iff.1 h1
  exact h i f d (by simpa using hf) h2
theorem zxj {n len:Nat}{t e:TypeId}{d:DataW H} (ht:P.underlying t=some (.array len e))(h:wt P n t d):∃ parts m,d=.agg parts∧parts.length=len∧∀ x∈parts,wt P m e x:=by
 cases n with
 | zero=>exact h.elim
 | succ n =>
  simp only [wt,ht] at h
  obtain ⟨parts,rfl,hl,h⟩:=h
  exact ⟨parts,n,rfl,hl,h⟩
theorem zcz {n:Nat}{t:TypeId}{d:DataW H} (ht:P.underlying t=some (.int .i64))(h:wt P n t d):∃ m,d=.lit (.int .i64 m)∧InR .i64 m:=by
 cases n with
 | zero=>exact h.elim
 | succ n =>
  simp only [wt,ht] at h
  obtain ⟨m,rfl,h⟩:=h
  refine ⟨m,rfl,?_⟩
  simpa [Lit.wf,IntKind.min,IntKind.max,IntKind.signed,IntKind.bits,InR] using h
theorem zwe {n:Nat}{t:TypeId}{d:DataW H} (ht:P.underlying t=some .bool)(h:wt P n t d):∃ b,d=.lit (.bool b):=by
 cases n with
 | zero=>exact h.elim
 | succ n=>simpa only [wt,ht] using h
theorem zlM {n:Nat}{t:TypeId}{d:DataW H} (ht:P.underlying t=some .string)(h:wt P n t d):∃ l,d=.lit (.string l)∧l.length≤140737488351232:=by
 cases n with
 | zero=>exact h.elim
 | succ n =>
  simp only [wt,ht] at h
  exact h
theorem zt2 {α:Type}{f:α→V}{Q:α→Prop}:∀ (ds:List (DataW H)),(∀ d∈ds,∃ a,dv d=f a∧Q a)→∃ l:List α,dvL ds=l.map f∧l.length=ds.length∧∀ a∈l,Q a
 | [],_=>⟨[],rfl,rfl,fun a h=>by cases h⟩
 | d :: ds,h=>by
  obtain ⟨a,h1,h2⟩:=h d (by simp)
  obtain ⟨l,h3,h4,h5⟩:=zt2 ds fun x hx=>h x (by simp [hx])
  refine ⟨a :: l,by simp only [dvL,List.map_cons,h1,h3],by simp [h4],fun b hb=>?_⟩
  rcases List.mem_cons.1 hb with rfl|hb
  · exact h2
  · exact h5 b hb
theorem zde {α:Type}{f:α→V}{Q:α→Prop}{t e:TypeId} (ht:P.underlying t=some (.slice e))(he:∀ (n:Nat)(d:DataW H),wt P n e d→∃ a,dv d=f a∧Q a) {n:Nat}{d:DataW H} (h:wt P n t d) :
  ∃ l:List α,dv d=.sl .p (l.map f)∧l.length * P.bytesOf e≤140737488351232∧∀ a∈l,Q a:=by
 cases n with
 | zero=>exact h.elim
 | succ n =>
  simp only [wt,ht] at h
  rcases h with rfl|⟨elems,spare,rfl,hl,h⟩
  · exact ⟨[],rfl,by simp,fun a h=>by cases h⟩
  · obtain ⟨l,h1,h2,h3⟩:=zt2 elems fun x hx=>he n x (h x hx)
    exact ⟨l,by simp only [dv,h1],by rw [h2];exact hl,h3⟩
end
theorem zxk {H:Type} (n:Nat)(d:DataW H)(h:wt Go.Proofs.Tryz.prog n 284 d):∃ t:Typ,dv d=tyV t∧t.name.length≤140737488351232∧InR .i64 t.parent:=by
 obtain ⟨parts,m,rfl,hp⟩:=zfg Go.Proofs.Tryz.underlying284 h
 match parts,hp with
 | [d0,d1],hp =>
  obtain ⟨h0,h1,_⟩:=hp
  obtain ⟨s,rfl,hs⟩:=zlM Go.Proofs.Tryz.underlying9 h0
  obtain ⟨k,rfl,hk⟩:=zcz Go.Proofs.Tryz.underlying3 h1
  exact ⟨⟨s,k⟩,rfl,hs,hk⟩
theorem zxl {H:Type} (n:Nat)(d:DataW H)(h:wt Go.Proofs.Tryz.prog n 272 d):∃ t:Obj,dv d=obV t∧t.name.length≤140737488351232∧InR .i64 t.type:=by
 obtain ⟨parts,m,rfl,hp⟩:=zfg Go.Proofs.Tryz.underlying272 h
 match parts,hp with
 | [d0,d1],hp =>
  obtain ⟨h0,h1,_⟩:=hp
  obtain ⟨s,rfl,hs⟩:=zlM Go.Proofs.Tryz.underlying9 h0
  obtain ⟨k,rfl,hk⟩:=zcz Go.Proofs.Tryz.underlying3 h1
  exact ⟨⟨s,k⟩,rfl,hs,hk⟩
theorem zxm:Program.bytesOf Go.Proofs.Tryz.prog 284=24:=by kernel_rfl
theorem zxn:Program.bytesOf Go.Proofs.Tryz.prog 272=24:=by kernel_rfl
theorem zwf {H:Type}{n:Nat}{d:DataW H} (h:wt Go.Proofs.Tryz.prog n 44 d):∃ l:List Typ,dv d=.sl .p (l.map tyV)∧l.length≤140737488355328∧∀ t∈l,t.name.length≤140737488355328:=by
 obtain ⟨l,h1,h2,h3⟩:=zde Go.Proofs.Tryz.underlying44 zxk h
 rw [zxm] at h2
 exact ⟨l,h1,by omega,fun t ht=>by have:=(h3 t ht).1;omega⟩
theorem zwg {H:Type}{n:Nat}{d:DataW H} (h:wt Go.Proofs.Tryz.prog n 45 d):∃ l:List Obj,dv d=.sl .p (l.map obV)∧l.length≤140737488355328∧∀ t∈l,t.name.length≤140737488355328:=by
 obtain ⟨l,h1,h2,h3⟩:=zde Go.Proofs.Tryz.underlying45 zxl h
 rw [zxn] at h2
 exact ⟨l,h1,by omega,fun t ht=>by have:=(h3 t ht).1;omega⟩
theorem zwh:Program.bytesOf PG 3=8:=by kernel_rfl
theorem zwi:Program.bytesOf PG 183=16:=by kernel_rfl
theorem zwj:Program.bytesOf PG 111=32:=by kernel_rfl
theorem zxo:Program.bytesOf PG 113=40:=by kernel_rfl
theorem zxp:Program.bytesOf PG 174=40:=by kernel_rfl
theorem zxq:Program.bytesOf PG 182=144:=by kernel_rfl
theorem zwk {H:Type} (n:Nat)(d:DataW H)(h:wt PG n 3 d):∃ m,dv d=zk m∧InR .i64 m:=by
 obtain ⟨m,rfl,hm⟩:=zcz Go.Proofs.Tryz.underlying3 h
 exact ⟨m,rfl,hm⟩
theorem zm8 {H:Type}{n:Nat}{d:DataW H} (h:wt PG n 22 d):∃ l:List Int,dv d=.sl .p (l.map zk)∧l.length≤17592186044416∧∀ c∈l,InR .i64 c:=by
 obtain ⟨l,h1,h2,h3⟩:=zde Go.Proofs.Tryz.underlying22 zwk h
 rw [zwh] at h2
 exact ⟨l,h1,by omega,h3⟩
theorem zwl {H:Type} (n:Nat)(d:DataW H)(h:wt PG n 183 d):∃ p:Int × Int,dv d=uM p∧True:=by
 obtain ⟨parts,m,rfl,hl,hp⟩:=zxj Go.Proofs.Tryz.underlying183 h
 match parts,hl with
 | [d0,d1],_ =>
  obtain ⟨x,rfl,_⟩:=zcz Go.Proofs.Tryz.underlying3 (hp d0 (by simp))
  obtain ⟨y,rfl,_⟩:=zcz Go.Proofs.Tryz.underlying3 (hp d1 (by simp))
  exact ⟨(x,y),rfl,trivial⟩
theorem zu8 {H:Type}{n:Nat}{d:DataW H} (h:wt PG n 180 d):∃ l:List (Int × Int),dv d=.sl .p (l.map uM)∧l.length≤17592186044416:=by
 obtain ⟨l,h1,h2,h3⟩:=zde Go.Proofs.Tryz.underlying180 zwl h
 rw [zwi] at h2
 exact ⟨l,h1,by omega⟩
theorem zrx {H:Type} (n:Nat)(d:DataW H)(h:wt PG n 111 d):∃ a:At,dv d=atV a∧AtOk a:=by
 obtain ⟨parts,m,rfl,hp⟩:=zfg Go.Proofs.Tryz.underlying111 h
 match parts,hp with
 | [d0,d1],hp =>
  obtain ⟨h0,h1,_⟩:=hp
  obtain ⟨k,rfl,hk⟩:=zcz Go.Proofs.Tryz.underlying3 h0
  obtain ⟨l,e1,b1,r1⟩:=zm8 h1
  refine ⟨⟨k,l⟩,?_,⟨b1,r1,hk⟩⟩
  simp only [dv,dvC,V.cells,e1,List.append_nil,atV,List.cons_append,List.nil_append]
theorem zj5 {H:Type}{n:Nat}{d:DataW H} (h:wt PG n 48 d):∃ l:List At,dv d=.sl .p (l.map atV)∧l.length≤4398046511104∧∀ a∈l,AtOk a:=by
 obtain ⟨l,h1,h2,h3⟩:=zde Go.Proofs.Tryz.underlying48 zrx h
 rw [zwj] at h2
 exact ⟨l,h1,by omega,h3⟩
theorem zxr {H:Type} (n:Nat)(d:DataW H)(h:wt PG n 113 d):∃ x:Lit,dv d=zY x∧AtOk x.at_:=by
 obtain ⟨parts,m,rfl,hp⟩:=zfg Go.Proofs.Tryz.underlying113 h
 match parts,hp with
 | [d0,d1],hp =>
  obtain ⟨h0,h1,_⟩:=hp
  obtain ⟨b,rfl⟩:=zwe Go.Proofs.Tryz.underlying4 h0
  obtain ⟨a,e1,o1⟩:=zrx _ _ h1
  refine ⟨⟨b,a⟩,?_,o1⟩
  simp only [dv,dvC,V.cells,e1,atV,List.append_nil,zY,List.cons_append,List.nil_append]
theorem zry {H:Type}{n:Nat}{d:DataW H} (h:wt PG n 49 d):∃ l:List Lit,dv d=.sl .p (l.map zY)∧l.length≤3518437208883∧∀ x∈l,AtOk x.at_:=by
 obtain ⟨l,h1,h2,h3⟩:=zde Go.Proofs.Tryz.underlying49 zxr h
 rw [zxo] at h2
 exact ⟨l,h1,by omega,h3⟩
theorem zxs {H:Type} (n:Nat)(d:DataW H)(h:wt PG n 174 d):∃ p:Prd,dv d=wy p∧(p.name.length≤140737488355328∧p.types.length≤17592186044416):=by
 obtain ⟨parts,m,rfl,hp⟩:=zfg Go.Proofs.Tryz.underlying174 h
 match parts,hp with
 | [d0,d1],hp =>
  obtain ⟨h0,h1,_⟩:=hp
  obtain ⟨s,rfl,hs⟩:=zlM Go.Proofs.Tryz.underlying9 h0
  obtain ⟨l,e1,b1,r1⟩:=zm8 h1
  refine ⟨⟨s,l⟩,?_,by simp only;omega,b1⟩
  simp only [dv,dvC,V.cells,e1,List.append_nil,wy,List.cons_append,List.nil_append]
theorem zwm {H:Type}{n:Nat}{d:DataW H} (h:wt PG n 46 d):∃ l:List Prd,dv d=.sl .p (l.map wy)∧l.length≤140737488355328∧∀ p∈l,p.name.length≤140737488355328∧p.types.length≤17592186044416:=by
 obtain ⟨l,h1,h2,h3⟩:=zde Go.Proofs.Tryz.underlying46 zxs h
 rw [zxp] at h2
 exact ⟨l,h1,by omega,h3⟩
theorem zxt {H:Type} (n:Nat)(d:DataW H)(h:wt PG n 182 d):∃ s:Sch,dv d=xF s∧SchOk s:=by
 obtain ⟨parts,m,rfl,hp⟩:=zfg Go.Proofs.Tryz.underlying182 h
 match parts,hp with
 | [d0,d1,d2,d3,d4,d5,d6],hp =>
  obtain ⟨h0,h1,h2,h3,h4,h5,h6,_⟩:=hp
  obtain ⟨s,rfl,hs⟩:=zlM Go.Proofs.Tryz.underlying9 h0
  obtain ⟨l1,e1,b1,r1⟩:=zm8 h1
  obtain ⟨l2,e2,b2⟩:=zu8 h2
  obtain ⟨l3,e3,b3,r3⟩:=zry h3
  obtain ⟨l4,e4,b4,r4⟩:=zj5 h4
  obtain ⟨l5,e5,b5,r5⟩:=zj5 h5
  obtain ⟨k,rfl,hk⟩:=zcz Go.Proofs.Tryz.underlying3 h6
  refine ⟨⟨s,l1,l2,l3,l4,l5,k⟩,?_,⟨by simp only;omega,b1,b2,b3,b4,b5,r3,r4,r5⟩⟩
  simp only [dv,dvC,V.cells,e1,e2,e3,e4,e5,List.append_nil,xF,List.cons_append,List.nil_append]
theorem zwn {H:Type}{n:Nat}{d:DataW H} (h:wt PG n 47 d):∃ l:List Sch,dv d=.sl .p (l.map xF)∧l.length≤140737488355328∧∀ s∈l,SchOk s:=by
 obtain ⟨l,h1,h2,h3⟩:=zde Go.Proofs.Tryz.underlying47 zxt h
 rw [zxq] at h2
 exact ⟨l,h1,by omega,h3⟩
theorem zxu {H:Type}{n:Nat}{d:DataW H} (h:wt PG n 51 d):∃ x:Dom,dv d=yW x∧DoOk x:=by
 obtain ⟨parts,m,rfl,hp⟩:=zfg Go.Proofs.Tryz.underlying51 h
 match parts,hp with
 | [d0,d1,d2,d3,d4,d5],hp =>
  obtain ⟨h0,h1,h2,h3,h4,h5,_⟩:=hp
  obtain ⟨l0,e0,b0⟩:=zwf h0
  obtain ⟨l1,e1,b1⟩:=zwg h1
  obtain ⟨l2,e2,b2⟩:=zwm h2
  obtain ⟨l3,e3,b3⟩:=zwn h3
  obtain ⟨l4,e4,b4⟩:=zj5 h4
  obtain ⟨l5,e5,b5⟩:=zry h5
  refine ⟨⟨l0,l1,l2,l3,l4,l5⟩,?_,⟨b0,b1,b2,b3,b4,b5⟩⟩
  simp only [dv,dvC,V.cells,e0,e1,e2,e3,e4,e5,List.append_nil,yW,List.cons_append,List.nil_append]
end Hm
end
