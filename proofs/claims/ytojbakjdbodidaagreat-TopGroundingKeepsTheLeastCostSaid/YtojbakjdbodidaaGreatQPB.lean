/- Part QPB of the proof. -/
import Derived.Test.YtojbakjdbodidaaGreatQPA
set_option linter.unusedVariables false
set_option linter.unusedSimpArgs false
section
namespace Hm
open Go
set_option maxRecDepth 100000
set_option maxHeartbeats 4000000
theorem zrl {G:Type}{H:HT G} (hM:yz H) {α:Type}{f:α→List V} (st:Nat→G)(s1:G) {K:G→Prop} (lim:Nat):∀ (l:List α)(n:Nat),n≤lim →
  (∀ (i:Nat)(c:α),l[i]? = some c→n + i≤lim→∀ K':V→G→Prop,(n + i < lim→K' (.bool true) (st (n + i + 1)))→(n + i=lim→K' (.bool false) s1)→H (f c) (st (n + i)) K') →
  (n + l.length≤lim→K (st (n + l.length)))→(lim < n + l.length→K s1)→YL H (l.map f) (st n) K
 | [],n,hn,_,h1,_=>h1 (by simpa using hn)
 | c :: r,n,hn,hH,h1,h2=>by
  refine hH 0 c rfl hn _ (fun hlt=>.inl ⟨rfl,?_⟩) (fun he=>.inr ⟨rfl,h2 (by simp only [List.length_cons];omega)⟩)
  refine zrl hM st s1 lim r (n + 1) (by omega) (fun i c' hc hle K' hk1 hk2=>?_) (fun h=>?_) (fun h=>h2 (by simp only [List.length_cons];omega))
  · rw [show n + 1 + i=n + (i + 1) from by omega] at hle hk1 hk2 ⊢
    exact hH (i + 1) c' (by simpa using hc) hle K' hk1 hk2
  · have:=h1 (by simp only [List.length_cons];omega)
    rw [List.length_cons] at this
    rw [show n + 1 + r.length=n + (r.length + 1) from by omega]
    exact this
def atR (d:Dom):List At:=if atF d=okF then wb d else []
theorem zhr {d:Dom} (h:yR d≠okF):atF d=yR d∧atR d=[]:=by
 have e:atF d=yR d:=by unfold atF;rw [if_pos h]
 exact ⟨e,by unfold atR;rw [e,if_neg h]⟩
theorem zhs {d:Dom} (h:yR d=okF)(hb:(wb d).length > 400):atF d=⟨10,-8⟩∧atR d=[]:=by
 have e:atF d=⟨10,-8⟩:=by unfold atF;rw [if_neg (fun h'=>h' h),if_pos hb]
 exact ⟨e,by unfold atR;rw [e,if_neg (by decide)]⟩
theorem zp7 {d:Dom} (h:yR d=okF)(hb:(wb d).length≤400):atF d=okF∧atR d=wb d:=by
 have e:atF d=okF:=by unfold atF;rw [if_neg (fun h'=>h' h),if_neg (by omega)]
 exact ⟨e,by unfold atR;rw [e,if_pos rfl]⟩
theorem u4 {d:Dom} (h:atF d=okF):yR d=okF∧(wb d).length≤400:=by
 by_cases h1:yR d=okF
 · refine ⟨h1,?_⟩
   by_cases h2:(wb d).length > 400
   · rw [(zhs h1 h2).1] at h;exact absurd h (by decide)
   · omega
 · rw [(zhr h1).1] at h;exact absurd h h1
def zmP:Cmd :=
 (qS [qx 1 4864070 6 0,qq 2 (.alloc 4864129 (.sl .nil [])),qq 3 (.alloc 4864194 (.agg [.int .i64 0,.int .i64 0]))]
 (qT (qS [qL 9 6 1,qk 10 118 [9],qq 4 (.alloc 4864258 (.agg [.int .i64 0,.int .i64 0])),qs 2 4 10]
 (qS [qL 11 2 4,qq 12 (.build [.int .i64 0,.int .i64 0] []),qq 13 (.bin .neq true [.i,.i] (.t 11) (.t 12))]
 (.cond (.t 13) (.seq (.opsT (.node 0 1 (.leaf [0,1,2]) (.leaf [1,0,2])) [qL 14 2 4,.op none none (.store 1 (.t 2) (.c (.sl .nil []))),qs 2 3 14]) .ret) .skip)))
 (.seq (.ops [qq 5 (.alloc 4864321 (.sl .nil []))]) (.nvs 5 4867202 (.cut (qT (qS [qf 15 2 1,ql 16 1 15,qn 17 16,qc 18 0]
 (.block 0 (.loop (qS [qu 19 .lss [] 18 17]
 (qT (.cond (.t 19) .skip (.exit 0))
 (qT (.block 1 (qS [qm 20 18,qi 21 2 16 18,qL 22 2 21,qq 6 (.alloc 4864385 (.int .i64 0)),qq 7 (.alloc 4864450 (.agg [.str [],.sl .nil []])),qs 1 6 20,qs 2 7 22]
 (qS [qL 23 6 1,qf 24 1 7,ql 25 1 24,qk 26 79 [23,25]]
 (.block 2 (.rangeF [] (.t 26) [27] (.ops [qm 8 27]) (.block 3 (qT (qS [ql 28 1 5,qn 29 28,qv 30 .eql [.i] 29 400]
 (.cond (.t 30) (.seq (.ops [qq 31 (.build [.int .i64 0,.int .i64 0] [(0 ,1 ,.c (.int .i64 10)),(1 ,1 ,.c (.int .i64 (-8)))]),.op none none (.store 1 (.t 2) (.c (.sl .nil []))),qs 2 3 31]) .ret) .skip))
 (.ops [ql 32 1 5,ql 33 1 6,qm 34 8,qq 35 (.build [.int .i64 0,.sl .nil []] [(0 ,1 ,.t 33),(1 ,1 ,.t 34)]),qq 36 (.bsl 2 [.t 35]),qq 37 (.append 2 32 111 (.t 32) (.t 36)),qs 1 5 37]))))))))
 (.ops [qv 38 .add [] 18 1,qm 18 38])))))))
 (.seq (.ops [ql 39 1 5,qq 40 (.build [.int .i64 0,.int .i64 0] []),qs 1 2 39,qs 2 3 40]) .ret)))))))
def zmQ:List RVar:=[.cell false 1 2,.cell true 2 3]
def zmR:Nat:=41
theorem zdV:zj PG 76 zmR zmQ zmP=true:=by kernel_rfl
abbrev taS (d:Dom)(A:List At):List (Nat × Blk):=[(4864070,.box (yW d)),(4864129,.box (.sl .nil [])),(4864194,.box (ftV okF)),(4864321,.box (.sl (.own 4867202) (A.map atV))),(4867202,.vec A.length)]
abbrev zeY (d:Dom)(k:Nat)(x:Prd)(f:Flt)(A:List At):List (Nat × Blk):=[(4864070,.box (yW d)),(4864129,.box (.sl .nil [])),(4864194,.box (ftV f)),(4864321,.box (.sl (.own 4867202) (A.map atV))),(4864385,.box (.int .i64 k)),(4864450,.box (wy x)),(4867202,.vec A.length)]
abbrev taE (d:Dom)(k:Nat):List (Nat × V):=[(1,.bptr 4864070 0),(2,.bptr 4864129 0),(3,.bptr 4864194 0),(5,.bptr 4864321 0),(16,.sl .p (d.preds.map wy)),(17,.int .i64 d.preds.length),(18,.int .i64 k)]
abbrev zx0 (d:Dom)(k:Nat):List (Nat × V):=[(1,.bptr 4864070 0),(2,.bptr 4864129 0),(3,.bptr 4864194 0),(5,.bptr 4864321 0),(6,.bptr 4864385 0),(7,.bptr 4864450 0),(16,.sl .p (d.preds.map wy)),(17,.int .i64 d.preds.length),(18,.int .i64 k)]
theorem zrm (d:Dom)(ho:DoOk d):Fc PG 76 [yW d] (.tup [.sl .p ((atR d).map atV),ftV (atF d)]):=by
 have hV:=zii d ho
 by_cases hdf:yR d=okF
 · rw [hdf] at hV
   have hd:=ui hdf
   have hpl:=hd.pl
   refine Fn.step zf zdV ?_
   repeat' (first|refine i_s rfl ?_|refine sw ?_|refine c_f rfl ?_|refine zl rfl ?_|refine zi rfl ?_|refine zr rfl rfl ?_|refine sf rfl rfl hV ?_|fail)
   all_goals first
    | (exfalso;clear hV;simp at *;done)
    | skip
   clear hV
   refine zoE rfl rfl rfl ?_
   repeat (first|refine zo rfl ?_|refine i_s rfl ?_|refine sw ?_)
   refine x5 (ι:=Nat) (fun k=>taE d k) (fun k=>taS d (yp d k)) (fun k=>k≤d.preds.length∧(yp d k).length≤400) (fun k=>d.preds.length - k) 0 ⟨Nat.zero_le _,Nat.zero_le _⟩ ft fun k hi=>?_
   obtain ⟨hk,h400⟩:=hi
   by_cases hlt:k < d.preds.length
   · obtain ⟨x, hx⟩:=zh hlt
     have hv:=zc1 hd hx
     have hxt:=hv.types.1
     have hCh:=uU d x.types
     have e1:yp d (k + 1)=yp d k ++ (yB d x.types).map fun a=>⟨k,a⟩:=by rw [ziD,vx hx]
     have hle:=zns d (Nat.succ_le_of_lt hlt)
     rw [Nat.succ_eq_add_one,e1,List.length_append,List.length_map] at hle
     have hle:(yp d k).length + (yB d x.types).length≤(wb d).length:=hle
     repeat' (first|refine i_s rfl ?_|refine sw ?_|refine jd rfl rfl ?_|refine zl rfl ?_|refine zi rfl ?_|refine zd rfl (fun h=>?_) (fun h=>?_)|refine sf rfl rfl hCh ?_|fail)
     all_goals first
      | (exfalso;clear hCh;simp at *;done)
      | (exfalso;clear hCh;simp at *;omega)
      | skip
     refine qw (zx0 d k) (zeY d k x okF (yp d k)) [4864070,4864129,4864194,4864321,4864385,4864450,4867202]
      [] (zeY d k x okF (yp d k)) rfl ft rfl rfl rfl rfl ?_
     clear hCh
     refine u3 ?_ (zct d hd.ty x.types (by omega) _ (fun st=>((yp d (k + 1)).length≤400∧st=(zy (zeY d k x okF (yp d (k + 1))),(),none))∨(400 < (wb d).length∧∃ A,st=(zy (zeY d k x ⟨10,-8⟩ A),(),some .ret))) ?_)
     · rintro _ σ' st ⟨rfl,⟨h4,rfl⟩|⟨h4,A,rfl⟩⟩
       · refine ⟨rfl,?_⟩
         show WE _ _ _ _ _ .normal _ _ _
         repeat (first|refine i_s rfl ?_|refine sw ?_|refine ja rfl rfl ?_)
         exact xL (k + 1) ⟨hlt,h4⟩ (by omega) ft
       · refine ⟨rfl,?_⟩
         show WE _ _ _ _ _ .ret _ _ _
         rw [(zhs hdf h4).1,(zhs hdf h4).2]
         exact zb ⟨rfl,_,rfl,rfl⟩
     · have e0:yp d k=yp d k ++ ((yB d x.types).take 0).map (fun a=>(⟨k,a⟩:At)):=by simp
       rw [show zeY d k x okF (yp d k)=zeY d k x okF (yp d k ++ ((yB d x.types).take 0).map (fun a=>(⟨k,a⟩:At))) from congrArg _ e0]
       refine zrl (f:=fun a:List Int=>[V.sl .p (a.map zk)]) (RHm xx) (fun j=>(zy (zeY d k x okF (yp d k ++ ((yB d x.types).take j).map (fun a=>(⟨k,a⟩:At)))),(),none))
        (zy (zeY d k x ⟨10,-8⟩ (yp d k ++ ((yB d x.types).take (400 - (yp d k).length)).map (fun a=>(⟨k,a⟩:At)))),(),some .ret) (400 - (yp d k).length) (yB d x.types) 0 (Nat.zero_le _) (fun i c hc hil K' hk1 hk2=>?_) (fun h=>?_) (fun h=>?_)
       · rw [Nat.zero_add] at hil hk1 hk2 ⊢
         have hcl:=yn hc
         have ht:=zz hc
         obtain ⟨A,hA⟩:∃ A,A=yp d k ++ ((yB d x.types).take i).map (fun a=>(⟨k,a⟩:At)):=⟨_,rfl⟩
         have hAl:A.length=(yp d k).length + i:=by rw [hA];simp;omega
         have eA:yp d k ++ ((yB d x.types).take (i + 1)).map (fun a=>(⟨k,a⟩:At))=A ++ [⟨k,c⟩]:=by rw [ht,List.map_append,← List.append_assoc,← hA];rfl
         have lA:(A ++ [(⟨k,c⟩:At)]).length=A.length + 1:=by simp
         simp only [eA] at hk1
         simp only [← hA]
         by_cases h4:i < 400 - (yp d k).length
         · have hk1:=hk1 h4
           clear ht hA eA e1 e0 hc hk2 hle
           refine w6 xx rfl ?_
           repeat (first|refine i_s rfl ?_|refine sw ?_)
           refine ym ?_
           show WC _ _ _ _ [] _ _ _ _
           repeat' (first|refine zo rfl ?_|refine i_s rfl ?_|refine sw ?_|refine zl rfl ?_|refine zd rfl (fun h=>?_) (fun h=>?_))
           all_goals first
            | (exfalso;clear hk1;simp at *;done)
            | (exfalso;clear hk1;simp at *;omega)
            | skip
           refine yU (c:=(⟨k,c⟩:At)) rfl rfl rfl rfl rfl (by omega) (by omega) ?_
           repeat' (first|refine sw ?_|refine zl rfl ?_)
           refine ym ?_
           refine ko rfl rfl ?_
           simp only [zeY,lA] at hk1
           exact hk1
         · have h5:i=400 - (yp d k).length:=by omega
           have hk2:=hk2 h5
           rw [← h5] at hk2
           simp only [← hA] at hk2
           clear ht hA eA e1 e0 hc hk1 hle
           refine w6 xx rfl ?_
           repeat (first|refine i_s rfl ?_|refine sw ?_)
           refine ym ?_
           show WC _ _ _ _ [] _ _ _ _
           repeat' (first|refine zo rfl ?_|refine i_s rfl ?_|refine sw ?_|refine zl rfl ?_|refine zd rfl (fun h=>?_) (fun h=>?_))
           all_goals first
            | (exfalso;clear hk2;simp at *;done)
            | (exfalso;clear hk2;simp at *;omega)
            | skip
           refine zb ?_
           refine zrY rfl rfl ?_
           exact hk2
       · left
         rw [Nat.zero_add] at h
         refine ⟨by rw [e1];simp;omega,?_⟩
         rw [Nat.zero_add,List.take_length,e1]
       · right
         exact ⟨by omega,_,rfl⟩
   · have hge:k=d.preds.length:=by omega
     subst hge
     have h4:(wb d).length≤400:=h400
     rw [(zp7 hdf h4).1,(zp7 hdf h4).2]
     repeat' (first|refine i_s rfl ?_|refine sw ?_|refine zl rfl ?_|refine zd rfl (fun h=>?_) (fun h=>?_))
     all_goals first
      | (exfalso;simp at *;done)
      | (exfalso;simp at *;omega)
      | skip
     exact zb ⟨rfl,_,rfl,rfl⟩
 · rw [(zhr hdf).1,(zhr hdf).2]
   refine Fn.step zf zdV ?_
   repeat' (first|refine i_s rfl ?_|refine sw ?_|refine zl rfl ?_|refine zi rfl ?_|refine zr rfl rfl ?_|(refine sp ?_ ?_<;>try intro h)|refine sf rfl rfl hV ?_|fail)
   all_goals first
    | exact zb ⟨rfl,_,rfl,rfl⟩
    | exact absurd (zkt h) hdf
def zmS:Cmd :=
 (qS [qx 1 2304070 6 0,qq 2 (.mov (.c (.nilptr))),qq 3 (.alloc 2304194 (.agg [.int .i64 0,.int .i64 0]))]
 (qT (qS [qL 8 6 1,qk 9 76 [8],qm 7 9,qq 10 (.extract (.t 7) 0),qq 11 (.extract (.t 7) 1),qq 5 (.alloc 2304322 (.agg [.int .i64 0,.int .i64 0])),qm 4 10,qs 2 5 11]
 (qS [qL 12 2 5,qq 13 (.build [.int .i64 0,.int .i64 0] []),qq 14 (.bin .neq true [.i,.i] (.t 12) (.t 13))]
 (.cond (.t 14) (.seq (.ops [qL 15 2 5,qq 2 (.mov (.c (.nilptr))),qs 2 3 15]) .ret) .skip)))
 (qS [qL 16 6 1,qq 17 (.build [.sl .nil [],.sl .nil [],.sl .nil [],.sl .nil [],.sl .nil [],.sl .nil [],.sl .nil [],.sl .nil []] [(0 ,6 ,.t 16)]),qx 18 2305160 8 17,qm 6 18]
 (qS [qm 20 6,qm 21 6,qL 22 6 1,qk 23 77 [22],qm 19 23,qq 24 (.extract (.t 19) 0),qq 25 (.extract (.t 19) 1),qq 26 (.nilck (.t 20)),qf 27 6 26,qs 1 27 24,qq 28 (.nilck (.t 21)),qf 29 7 28,qs 1 29 25]
 (.seq (.ops [qm 30 6,qq 31 (.build [.int .i64 0,.int .i64 0] []),qm 2 30,qs 2 3 31]) .ret)))))
def zmT:List RVar:=[.tmp 2,.cell true 2 3]
def zmU:Nat:=32
theorem zdW:zj PG 36 zmU zmT zmS=true:=by kernel_rfl
theorem ziL (d:Dom)(ho:DoOk d)(h:atF d≠okF):Fc PG 36 [yW d] (.tup [.nilptr,ftV (atF d)]):=by
 have hA:=zrm d ho
 refine Fn.step zf zdW ?_
 repeat' (first|refine i_s rfl ?_|refine sw ?_|refine zl rfl ?_|refine zi rfl ?_|refine zr rfl rfl ?_|refine zd rfl (fun h=>?_) (fun h=>?_)|refine sf rfl rfl hA ?_|fail)
 all_goals first
  | exact zb ⟨rfl,_,rfl,rfl⟩
  | exact absurd (zkt h) (by assumption)
theorem zlz (d:Dom)(ho:DoOk d)(h:atF d=okF):Fc PG 36 [yW d] (.tup [grP d (wN d) (vz d),ftV okF]):=by
 have hA:=zrm d ho
 have hd:=ui (u4 h).1
 have hF:=ztE d hd
 rw [h] at hA
 refine Fn.step zf zdW ?_
 repeat' (first|refine i_s rfl ?_|refine sw ?_|refine c_f rfl ?_|refine zl rfl ?_|refine zi rfl ?_|refine zr rfl rfl ?_|refine sf rfl rfl hA ?_|refine sf rfl rfl hF ?_|fail)
 all_goals first
  | exact zb ⟨rfl,_,rfl,rfl⟩
  | (exfalso;clear hA hF;simp at *;done)
end Hm
end
section
namespace Hm
open Go
abbrev W32:=BitVec 32
def yk (w:W32):V:=.int .u32 w.toNat
def bit (p:Int):W32:=BitVec.ofNat 32 (2 ^ (min p.toNat 32))
def zeZ (a:W32):List Int→W32
 | []=>a
 | p :: r=>zeZ (a ||| bit p) r
def yS (s:List Int):W32:=zeZ 0 s
theorem zlA (a:W32):∀ (l:List Int)(p:Int),zeZ a (l ++ [p])=zeZ a l ||| bit p
 | [],p=>rfl
 | x :: l,p=>zlA (a ||| bit x) l p
theorem znP (a:W32)(q:Nat)(hq:q < 32):∀ s:List Int,(∀ p∈s,0≤p∧p < 32)→(zeZ a s).getLsbD q=(a.getLsbD q || decide ((q:Int)∈s))
 | [],_=>by simp [zeZ]
 | p :: r,h=>by
  have hp:=h p (by simp)
  rw [zeZ,znP _ q hq r fun x hx=>h x (by simp [hx])]
  have hb:(bit p).getLsbD q=decide ((q:Int)=p):=by
   unfold bit
   have e:min p.toNat 32=p.toNat:=by omega
   rw [e,BitVec.getLsbD_ofNat,Nat.testBit_two_pow]
   simp only [hq,decide_true,Bool.true_and]
   by_cases c:(q:Int)=p
   · have:p.toNat=q:=by omega
     simp [this,c]
   · have:¬ p.toNat=q:=by omega
     simp [this,c]
  simp only [BitVec.getLsbD_or,hb,List.mem_cons,Bool.decide_or,Bool.or_assoc]
theorem wa (q:Nat)(hq:q < 32)(s:List Int)(h:∀ p∈s,0≤p∧p < 32):(yS s).getLsbD q=decide ((q:Int)∈s):=by
 unfold yS
 rw [znP 0 q hq s h]
 simp
def y7 (w:W32):Nat→List Int
 | 0=>[]
 | n + 1=>y7 w n ++ (if w.getLsbD n=true then [(n:Int)] else [])
def facts (w:W32):List Int:=y7 w 32
theorem uL (w:W32):∀ (n:Nat)(x:Int),x∈y7 w n↔∃ q:Nat,x=q∧q < n∧w.getLsbD q=true
 | 0,x=>by simp [y7]
 | n + 1, x=>by
  rw [y7,List.mem_append,uL w n x]
  constructor
  · rintro (⟨q,h1,h2,h3⟩|h)
    · exact ⟨q,h1,by omega,h3⟩
    · split at h
      · rename_i h3
        exact ⟨n,by simpa using h,by omega,h3⟩
      · simp at h
  · rintro ⟨q,h1,h2,h3⟩
    by_cases e:q=n
    · subst e
      right
      rw [if_pos h3]
      simp [h1]
    · exact .inl ⟨q,h1,by omega,h3⟩
theorem zlB (w:W32)(n:Nat) {x:Int} (h:x∈y7 w n):0≤x∧x < n:=by
 obtain ⟨q,rfl,h2,_⟩:=(uL w n x).1 h
 omega
theorem zlC (w:W32):∀ n,SS (y7 w n)
 | 0=>List.Pairwise.nil
 | n + 1=>by
  rw [y7]
  refine List.pairwise_append.2 ⟨zlC w n,by split<;>simp,fun a ha b hb=>?_⟩
  split at hb
  · simp at hb;subst hb;exact (zlB w n ha).2
  · simp at hb
theorem zlD (w:W32):yS (facts w)=w:=by
 refine BitVec.eq_of_getLsbD_eq fun q hq=>?_
 rw [wa q hq (facts w) fun p hp=>by have:=zlB w 32 hp;omega]
 cases h:w.getLsbD q with
 | true=>exact decide_eq_true ((uL w 32 q).2 ⟨q,rfl,hq,h⟩)
 | false =>
  refine decide_eq_false fun hm=>?_
  obtain ⟨p,h1,_,h3⟩:=(uL w 32 q).1 hm
  have:p=q:=by omega
  subst this
  rw [h] at h3
  cases h3
theorem ztO {a b:W32} (h:facts a=facts b):a=b:=by rw [← zlD a,h,zlD]
structure Mk where
 pre:W32
 add:W32
 del:W32
 cost:Int
structure Wd where
 start:W32
 goal:W32
 ops:List Mk
def mkV (m:Mk):V:=.agg [yk m.pre,yk m.add,yk m.del,.int .i64 m.cost]
def wdR (w:Wd):V:=.agg [yk w.start,yk w.goal,.sl .p (w.ops.map mkV)]
def zcw (o:SOp):Mk:=⟨yS o.pre,yS o.add,yS o.del,o.cost⟩
def yM (t:STask):Wd:=⟨yS t.init,yS t.goal,t.ops.map zcw⟩
def Mk.can (m:Mk)(s:W32):Bool:=s &&& m.pre == m.pre
def Mk.next (m:Mk)(s:W32):W32:=(s &&& ~~~ m.del) ||| m.add
def Wd.isGoal (w:Wd)(s:W32):Bool:=s &&& w.goal == w.goal
def xH (s:W32):List Mk→Nat→List (Nat × Int × W32)
 | [],_=>[]
 | m :: r,k=>(if m.can s then [(k,m.cost,m.next s)] else []) ++ xH s r (k + 1)
def Wd.steps (w:Wd)(s:W32):List (Nat × Int × W32):=xH s w.ops 0
def stV (e:Nat × Int × W32):V:=.agg [.int .i64 e.1,.int .i64 e.2.1,yk e.2.2]
theorem u5 (w:W32):BitVec.ofInt 32 (w.toNat:Int)=w:=by
 rw [BitVec.ofInt_natCast,BitVec.ofNat_toNat]
 simp
theorem zjY (w:W32):IntKind.u32.wrap (w.toNat:Int)=w.toNat:=zbR ⟨by omega,by have:=w.isLt;omega⟩
inductive Reach (w:Wd):W32→Prop
 | start:Reach w w.start
 | step {s:W32}{e:Nat × Int × W32} (h:Reach w s)(he:e∈w.steps s):Reach w e.2.2
def xD (a:List W32 × List W32)(x:W32):List W32 × List W32:=if x∈a.2 then a else (a.1 ++ [x],a.2 ++ [x])
def zQ (a:List W32 × List W32)(l:List W32):List W32 × List W32:=l.foldl xD a
def xJ (w:Wd)(s:W32):List W32:=(w.steps s).map fun e=>e.2.2
def q8 (w:Wd):Nat→List W32→List W32→List W32→Option (List W32)
 | 0,_,_,_=>none
 | n + 1,st,sn,out=>match st.getLast? with
   | none=>some out
   | some s=>if (zQ (st.dropLast,sn) (xJ w s)).2.length > 2000 then none
     else q8 w n (zQ (st.dropLast,sn) (xJ w s)).1 (zQ (st.dropLast,sn) (xJ w s)).2 (out ++ [s])
def kJ (w:Wd):Option (List W32):=q8 w 2002 [w.start] [w.start] []
theorem ze0:∀ (l:List W32)(a:List W32 × List W32),a.2.Nodup→(∀ x∈a.1,x∈a.2) →
  (zQ a l).2.Nodup∧(∀ x∈(zQ a l).1,x∈(zQ a l).2)∧(∀ x,x∈(zQ a l).2↔x∈a.2∨x∈l)∧(∀ x,x∈a.2→x∈(zQ a l).2) ∧
  (∀ x,x∈(zQ a l).1↔x∈a.1∨(x∈l∧x ∉ a.2))∧(zQ a l).1.length + a.2.length=a.1.length + (zQ a l).2.length
 | [],a,h1,h2=>⟨h1,h2,fun x=>by simp [zQ],fun x h=>h,fun x=>by simp [zQ],rfl⟩
 | y :: l, a,h1,h2=>by
  show (zQ (xD a y) l).2.Nodup∧_
  by_cases hy:y∈a.2
  · have e:xD a y=a:=by unfold xD;rw [if_pos hy]
    obtain ⟨k1,k2,k3,k4,k5,k6⟩:=ze0 l a h1 h2
    have e2:zQ a (y :: l)=zQ a l:=by show zQ (xD a y) l=_;rw [e]
    rw [e2,e]
    refine ⟨k1,k2,fun x=>?_,k4,fun x=>?_,k6⟩
    · rw [k3 x,List.mem_cons]
      constructor
      · rintro (h|h)
        · exact .inl h
        · exact .inr (.inr h)
      · rintro (h|rfl|h)
        · exact .inl h
        · exact .inl hy
        · exact .inr h
    · rw [k5 x,List.mem_cons]
      constructor
      · rintro (h|⟨h,h'⟩)
        · exact .inl h
        · exact .inr ⟨.inr h,h'⟩
      · rintro (h|⟨rfl|h,h'⟩)
        · exact .inl h
        · exact absurd hy h'
        · exact .inr ⟨h,h'⟩
  · have e:xD a y=(a.1 ++ [y],a.2 ++ [y]):=by unfold xD;rw [if_neg hy]
    have e2:zQ a (y :: l)=zQ (a.1 ++ [y],a.2 ++ [y]) l:=by show zQ (xD a y) l=_;rw [e]
    obtain ⟨k1,k2,k3,k4,k5,k6⟩:=ze0 l (a.1 ++ [y],a.2 ++ [y])
     (List.nodup_append.2 ⟨h1,by simp,fun x hx z hz=>by simp at hz;subst hz;exact fun e=>hy (e ▸ hx)⟩)
     (fun x hx=>by
       rcases List.mem_append.1 hx with h|h
       · exact List.mem_append_left _ (h2 x h)
       · exact List.mem_append_right _ h)
    rw [e2,e]
    refine ⟨k1,k2,fun x=>?_,fun x h=>k4 x (by simp [h]),fun x=>?_,by simp at k6;omega⟩
    · rw [k3 x]
      simp only [List.mem_append,List.mem_cons,List.not_mem_nil,or_false]
      constructor
      · rintro ((h|h)|h)
        · exact .inl h
        · exact .inr (.inl h)
        · exact .inr (.inr h)
      · rintro (h|h|h)
        · exact .inl (.inl h)
        · exact .inl (.inr h)
        · exact .inr h
    · rw [k5 x]
      simp only [List.mem_append,List.mem_cons,List.not_mem_nil,or_false,not_or]
      constructor
      · rintro ((h|rfl)|⟨h,h',h''⟩)
        · exact .inl h
        · exact .inr ⟨.inl rfl,hy⟩
        · exact .inr ⟨.inr h,h'⟩
      · rintro (h|⟨rfl|h,h'⟩)
        · exact .inl (.inl h)
        · exact .inl (.inr rfl)
        · by_cases c:x=y
          · exact .inl (.inr c)
          · exact .inr ⟨h,h',c⟩
structure AllInv (w:Wd)(st sn out:List W32):Prop where
 nd:sn.Nodup
 ndo:out.Nodup
 ndst:st.Nodup
 ap:∀ x∈st,x ∉ out
 mem:∀ x,x∈sn↔x∈st∨x∈out
 reach:∀ x∈sn,Reach w x
 start:w.start∈sn
 succ:∀ s∈out,∀ x∈xJ w s,x∈sn
 len:st.length + out.length=sn.length
theorem ze1:∀ (l:List W32)(a:List W32 × List W32),a.1.Nodup→(∀ x∈a.1,x∈a.2)→(zQ a l).1.Nodup
 | [],a,h1,_=>h1
 | y :: l,a,h1,h2=>by
  show (zQ (xD a y) l).1.Nodup
  unfold xD
  split
  · exact ze1 l a h1 h2
  · rename_i hy
    refine ze1 l _ (List.nodup_append.2 ⟨h1,by simp,fun x hx z hz=>?_⟩) fun x hx=>?_
    · simp at hz
      subst hz
      exact fun e=>hy (e ▸ h2 x hx)
    · rcases List.mem_append.1 hx with h|h
      · exact List.mem_append_left _ (h2 x h)
      · exact List.mem_append_right _ h
theorem ziM {w:Wd}{st sn out:List W32}{s:W32} (h:AllInv w (st ++ [s]) sn out):AllInv w (zQ (st,sn) (xJ w s)).1 (zQ (st,sn) (xJ w s)).2 (out ++ [s]):=by
 have hsub:∀ x∈st,x∈sn:=fun x hx=>(h.mem x).2 (.inl (List.mem_append_left _ hx))
 obtain ⟨k1,k2,k3,k4,k5,k6⟩:=ze0 (xJ w s) (st,sn) h.nd hsub
 have hst:=List.nodup_append.1 h.ndst
 have hs:s∈sn:=(h.mem s).2 (.inl (by simp))
 have hso:s ∉ out:=h.ap s (by simp)
 have hss:s ∉ st:=fun hm=>hst.2.2 s hm s (by simp) rfl
 have hrs:=h.reach s hs
 simp only at k3 k4 k5 k6
 have key:∀ x,x∈(zQ (st,sn) (xJ w s)).2↔x∈(zQ (st,sn) (xJ w s)).1∨x∈out ++ [s]:=fun x=>by
  have hm:=h.mem x
  rw [k3 x,k5 x]
  simp only [List.mem_append,List.mem_cons,List.not_mem_nil,or_false] at hm ⊢
  grind
 refine ⟨k1,?_,ze1 _ _ hst.1 hsub,?_,key,?_,k4 _ h.start,?_,?_⟩
 · refine List.nodup_append.2 ⟨h.ndo,by simp,fun x hx z hz=>?_⟩
   simp at hz
   subst hz
   exact fun e=>hso (e ▸ hx)
 · intro x hx ho
   rcases (k5 x).1 hx with h1|⟨_,h1⟩
   · rcases List.mem_append.1 ho with h2|h2
     · exact h.ap x (List.mem_append_left _ h1) h2
     · simp at h2
       subst h2
       exact hss h1
   · rcases List.mem_append.1 ho with h2|h2
     · exact h1 ((h.mem x).2 (.inr h2))
     · simp at h2
       subst h2
       exact h1 hs
 · intro x hx
   rcases (k3 x).1 hx with h1|h1
   · exact h.reach x h1
   · obtain ⟨e,he,rfl⟩:=List.mem_map.1 h1
     exact .step hrs he
 · intro u hu x hx
   rcases List.mem_append.1 hu with h1|h1
   · exact k4 x (h.succ u h1 x hx)
   · simp at h1
     subst h1
     exact (k3 x).2 (.inr hx)
 · have:=h.len
   simp only [List.length_append,List.length_singleton] at this ⊢
   omega
theorem znQ (w:Wd):∀ (n:Nat)(st sn out:List W32),AllInv w st sn out→sn.length≤2000→2001≤n + out.length →
  (∀ l,q8 w n st sn out=some l→l.Nodup∧l.length≤2000∧∀ s,s∈l↔Reach w s)∧(q8 w n st sn out=none→∃ l:List W32,l.Nodup∧2000 < l.length∧∀ s∈l,Reach w s)
 | 0,st,sn,out,h,hs,hn=>by have:=h.len;omega
 | n + 1, st,sn,out,h,hs,hn=>by
  rcases List.eq_nil_or_concat st with rfl|⟨st',s,rfl⟩
  · have hmem:∀ s,s∈out↔Reach w s:=fun s=>by
     constructor
     · exact fun hm=>h.reach s ((h.mem s).2 (.inr hm))
     · intro hr
       induction hr with
       | start=>simpa using (h.mem _).1 h.start
       | step _ he ih=>simpa using (h.mem _).1 (h.succ _ ih _ (List.mem_map.2 ⟨_,he,rfl⟩))
    have hl:=h.len
    rw [show q8 w (n + 1) [] sn out=some out from rfl]
    refine ⟨fun l e=>?_,fun e=>by cases e⟩
    cases e
    exact ⟨h.ndo,by simp at hl;omega,hmem⟩
  · rw [List.concat_eq_append] at h ⊢
    have hI:=ziM h
    have e:q8 w (n + 1) (st' ++ [s]) sn out=if (zQ (st',sn) (xJ w s)).2.length > 2000 then none else q8 w n (zQ (st',sn) (xJ w s)).1 (zQ (st',sn) (xJ w s)).2 (out ++ [s]):=by
     simp only [q8,List.getLast?_concat,List.dropLast_concat]
    rw [e]
    by_cases hbig:(zQ (st',sn) (xJ w s)).2.length > 2000
    · rw [if_pos hbig]
      exact ⟨fun l e=>(by cases e),fun _=>⟨_,hI.nd,hbig,hI.reach⟩⟩
    · rw [if_neg hbig]
      exact znQ w n _ _ _ hI (by omega) (by simp;omega)
theorem zda (w:Wd):(∀ l,kJ w=some l→l.Nodup∧l.length≤2000∧∀ s,s∈l↔Reach w s)∧(kJ w=none→∃ l:List W32,l.Nodup∧2000 < l.length∧∀ s∈l,Reach w s) :=
 znQ w 2002 [w.start] [w.start] [] ⟨by simp,by simp,by simp,by simp,by simp,fun x hx=>by simp at hx;subst hx;exact .start,by simp,by simp,rfl⟩ (by simp) (by simp)
def INF:Int:=1000000000
inductive WayTo (w:Wd):W32→Int→Prop
 | goal {s:W32} (h:w.isGoal s=true):WayTo w s 0
 | step {s:W32}{e:Nat × Int × W32}{c:Int} (he:e∈w.steps s)(h:WayTo w e.2.2 c):WayTo w s (e.2.1 + c)
structure Least (w:Wd)(s:W32)(d:Int):Prop where
 le:d≤INF
 low:∀ c,WayTo w s c→d≤c
 att:d=INF∨WayTo w s d
theorem Least.le_of {w:Wd}{s:W32}{d d':Int} (h:Least w s d)(h':Least w s d'):d≤d':=by
 rcases h'.att with e|e
 · rw [e];exact h.le
 · exact h.low _ e
theorem Least.uniq {w:Wd}{s:W32}{d d':Int} (h:Least w s d)(h':Least w s d'):d=d':=Int.le_antisymm (h.le_of h') (h'.le_of h)
def zao (w:Wd):Prop:=∀ m∈w.ops,0≤m.cost∧m.cost≤100
theorem za5 {s:W32}{e:Nat × Int × W32}:∀ {l:List Mk}{k:Nat},e∈xH s l k→∃ i m,l[i]? = some m∧e=(k + i,m.cost,m.next s)∧m.can s=true
 | [],_,h=>by cases h
 | m :: r,k,h=>by
  rw [xH] at h
  rcases List.mem_append.1 h with h|h
  · split at h
    · rename_i hc
      simp at h
      exact ⟨0,m,rfl,h,hc⟩
    · cases h
  · obtain ⟨i,m',h1,h2,h3⟩:=za5 h
    exact ⟨i + 1,m',h1,by rw [h2,Nat.add_assoc,Nat.add_comm 1],h3⟩
theorem zfk {s:W32}{m:Mk}:∀ {l:List Mk}{k i:Nat},l[i]? = some m→m.can s=true→(k + i,m.cost,m.next s)∈xH s l k
 | [],_,_,h,_=>by cases h
 | m0 :: r,k,0,h,hc=>by
  cases h
  rw [xH,if_pos hc]
  simp
 | m0 :: r,k,i + 1,h,hc=>by
  rw [xH]
  have:=zfk (k:=k + 1) (i:=i) (l:=r) h hc
  rw [show k + 1 + i=k + (i + 1) by omega] at this
  exact List.mem_append_right _ this
theorem zdb {w:Wd} (hc:zao w) {s:W32}{e:Nat × Int × W32} (he:e∈w.steps s):0≤e.2.1∧e.2.1≤100:=by
 obtain ⟨i,m,h1,rfl,_⟩:=za5 he
 exact hc m (List.mem_of_getElem? h1)
theorem zp8 {w:Wd} (hc:zao w) {s:W32}{c:Int} (h:WayTo w s c):0≤c:=by
 induction h with
 | goal h=>exact Int.le_refl _
 | step he _ ih=>have:=(zdb hc he).1;omega
theorem zv3 {P:Nat→Prop}:∀ n:Nat,P n→∃ n,P n∧∀ m,P m→n≤m:=by
 intro n
 induction n using Nat.strongRecOn with
 | ind n ih =>
  intro h
  by_cases c:∃ m,m < n∧P m
  · obtain ⟨m,h1,h2⟩:=c
    exact ih m h1 h2
  · exact ⟨n,h,fun m hm=>Nat.le_of_not_lt fun hl=>c ⟨m,hl,hm⟩⟩
theorem zjZ {w:Wd} (hc:zao w)(s:W32):∃ d,Least w s d:=by
 by_cases c:∃ n:Nat,(n:Int)≤INF∧WayTo w s n
 · obtain ⟨n,h1,h2⟩:=c
   obtain ⟨m,⟨h3,h4⟩,h5⟩:=zv3 (P:=fun n:Nat=>(n:Int)≤INF∧WayTo w s n) n ⟨h1,h2⟩
   refine ⟨m,h3,fun c h=>?_,.inr h4⟩
   have h0:=zp8 hc h
   by_cases hl:c≤INF
   · have:=h5 c.toNat ⟨by omega,by rw [show ((c.toNat:Nat):Int)=c by omega];exact h⟩
     omega
   · omega
 · refine ⟨INF,Int.le_refl _,fun d h=>?_,.inl rfl⟩
   have h0:=zp8 hc h
   refine Int.le_of_not_gt fun hl=>c ⟨d.toNat,by omega,by rw [show ((d.toNat:Nat):Int)=d by omega];exact h⟩
theorem ztP {w:Wd} (hc:zao w):∃ D:W32→Int,∀ s,Least w s (D s):=⟨fun s=>(zjZ hc s).choose,fun s=>(zjZ hc s).choose_spec⟩
abbrev Arc:=W32 × W32 × Int
def zap (w:Wd)(s:W32):List Arc:=(w.steps s).map fun e=>(e.2.2,s,e.2.1)
def yq (w:Wd):List W32→List Arc
 | []=>[]
 | s :: r=>zap w s ++ yq w r
theorem zgM (w:Wd):∀ a b:List W32,yq w (a ++ b)=yq w a ++ yq w b
 | [],_=>rfl
 | s :: a,b=>by rw [List.cons_append,yq,yq,zgM w a b,List.append_assoc]
theorem zaq {w:Wd}{t u:W32}{c:Int}:∀ {l:List W32},(t,u,c)∈yq w l↔u∈l∧∃ i,(i,c,t)∈w.steps u
 | []=>by simp [yq]
 | s :: r=>by
  rw [yq,List.mem_append,zaq (l:=r),zap,List.mem_map,List.mem_cons]
  constructor
  · rintro (⟨⟨i,c',t'⟩,h1,h2⟩|⟨h1,h2⟩)
    · cases h2
      exact ⟨.inl rfl,i,h1⟩
    · exact ⟨.inr h1,h2⟩
  · rintro ⟨rfl|h1,i,h2⟩
    · exact .inl ⟨(i,c,t),h2,rfl⟩
    · exact .inr ⟨h1,i,h2⟩
def yj (A:List Arc)(t:W32):List (W32 × Int):=(A.filter fun a=>a.1 == t).map fun a=>a.2
theorem zp9 {A:List Arc}{t u:W32}{c:Int}:(u,c)∈yj A t↔(t,u,c)∈A:=by
 unfold yj
 rw [List.mem_map]
 constructor
 · rintro ⟨⟨t',u',c'⟩,h1,h2⟩
   cases h2
   obtain ⟨h3,h4⟩:=List.mem_filter.1 h1
   have:t' = t:=by simpa using h4
   exact this ▸ h3
 · intro h
   exact ⟨(t,u,c),List.mem_filter.2 ⟨h,by simp⟩,rfl⟩
theorem znR (A:List Arc)(a:Arc)(t:W32):yj (A ++ [a]) t=yj A t ++ (if a.1=t then [a.2] else []):=by
 unfold yj
 rw [List.filter_append,List.map_append]
 congr 1
 by_cases c:a.1=t
 · simp [c]
 · simp [c]
def yH (o:W32→Int)(x:W32)(v:Int):W32→Int:=fun s=>if s=x then v else o s
def q9 (o:W32→Int):List W32→Nat
 | []=>0
 | s :: r=>(o s).toNat + q9 o r
theorem zqa {o:W32→Int}{x:W32}{v:Int} (h0:0≤v)(h1:v < o x):∀ {l:List W32},q9 (yH o x v) l≤q9 o l∧(x∈l→q9 (yH o x v) l < q9 o l)
 | []=>⟨Nat.le_refl _,fun h=>by cases h⟩
 | s :: r=>by
  obtain ⟨i1,i2⟩:=zqa h0 h1 (l:=r)
  simp only [q9]
  by_cases c:s=x
  · have e:yH o x v s=v:=by unfold yH;rw [if_pos c]
    rw [e,c]
    constructor
    · omega
    · intro _;omega
  · have e:yH o x v s=o s:=by unfold yH;rw [if_neg c]
    rw [e]
    refine ⟨by omega,fun h=>?_⟩
    rcases List.mem_cons.1 h with h|h
    · exact absurd h.symm c
    · have:=i2 h;omega
structure QInv (w:Wd)(l:List W32)(o:W32→Int)(kv:List (W32 × Int))(W:W32→W32→Int→Prop):Prop where
 nn:∀ s∈l,0≤o s
 le:∀ s∈l,o s≤INF
 att:∀ s∈l,o s=INF∨WayTo w s (o s)
 goal:∀ s∈l,w.isGoal s=true→o s=0
 key:∀ p∈kv,p.1∈l∧p.2=o p.1∧p.2 < INF
 nd:(kv.map Prod.fst).Nodup
 arcs:∀ t u c,(t,u,c)∈yq w l→t∈kv.map Prod.fst∨o u≤o t + c∨W t u c
theorem QInv.perm {w:Wd}{l:List W32}{o:W32→Int}{kv kv':List (W32 × Int)}{W:W32→W32→Int→Prop} (h:QInv w l o kv W)(p:kv.Perm kv'):QInv w l o kv' W :=
 ⟨h.nn,h.le,h.att,h.goal,fun q hq=>h.key q (p.mem_iff.2 hq),(p.map Prod.fst).nodup_iff.1 h.nd,fun t u c ha=>(h.arcs t u c ha).imp (fun hm=>(p.map Prod.fst).mem_iff.1 hm) id⟩
theorem QInv.take {w:Wd}{l:List W32}{o:W32→Int}{kv:List (W32 × Int)}{s:W32}{d:Int} (h:QInv w l o ((s,d) :: kv) fun _ _ _=>False) :
  QInv w l o kv (fun t u c=>t=s∧(u,c)∈yj (yq w l) s)∧s∈l∧d=o s∧d < INF:=by
 obtain ⟨k1,k2,k3⟩:=h.key (s,d) (by simp)
 refine ⟨⟨h.nn,h.le,h.att,h.goal,fun p hp=>h.key p (by simp [hp]),(List.nodup_cons.1 h.nd).2,fun t u c ha=>?_⟩,k1,k2,k3⟩
 rcases h.arcs t u c ha with h1|h1|h1
 · simp only [List.map_cons,List.mem_cons] at h1
   rcases h1 with rfl|h1
   · exact .inr (.inr ⟨rfl,zp9.2 ha⟩)
   · exact .inl h1
 · exact .inr (.inl h1)
 · exact h1.elim
theorem QInv.skip {w:Wd}{l:List W32}{o:W32→Int}{kv:List (W32 × Int)}{s u:W32}{c:Int}{r:List (W32 × Int)} (h:QInv w l o kv (fun t u' c'=>t=s∧(u',c')∈(u,c) :: r))(hn:¬ o s + c < o u) :
  QInv w l o kv (fun t u' c'=>t=s∧(u',c')∈r) :=
 ⟨h.nn, h.le,h.att,h.goal,h.key,h.nd,fun t u' c' ha=>by
  rcases h.arcs t u' c' ha with h1|h1|⟨rfl,h1⟩
  · exact .inl h1
  · exact .inr (.inl h1)
  · rcases List.mem_cons.1 h1 with e|h1
    · cases e
      exact .inr (.inl (by omega))
    · exact .inr (.inr ⟨rfl,h1⟩)⟩
theorem QInv.relax {w:Wd} (hc:zao w) {l:List W32}{o:W32→Int}{kv kv':List (W32 × Int)}{s u:W32}{c:Int}{r:List (W32 × Int)} (h:QInv w l o kv (fun t u' c'=>t=s∧(u',c')∈(u,c) :: r))(hs:s∈l)(hA:(s,u,c)∈yq w l)
  (hlt:o s + c < o u)(hp:kv'.Perm ((u,o s + c) :: kv.filter fun p=>p.1 != u)) :
  QInv w l (yH o u (o s + c)) kv' (fun t u' c'=>t=s∧(u',c')∈r)∧yH o u (o s + c) s=o s∧u∈l∧0≤o s + c:=by
 obtain ⟨hu,i,hst⟩:=zaq.1 hA
 have hcc:=zdb hc hst
 simp only at hcc
 have h0:=h.nn s hs
 have hne:s≠u:=fun e=>by rw [← e] at hlt;omega
 have hle:=h.le u hu
 have e1:∀ x,x≠u→yH o u (o s + c) x=o x:=fun x hx=>by unfold yH;rw [if_neg hx]
 have e2:yH o u (o s + c) u=o s + c:=by unfold yH;rw [if_pos rfl]
 refine ⟨QInv.perm ?_ hp.symm,e1 s hne,hu,by omega⟩
 refine ⟨fun x hx=>?_,fun x hx=>?_,fun x hx=>?_,fun x hx hg=>?_,fun p hp=>?_,?_,fun t u' c' ha=>?_⟩
 · by_cases e:x=u
   · subst e;rw [e2];omega
   · rw [e1 x e];exact h.nn x hx
 · by_cases e:x=u
   · subst e;rw [e2];omega
   · rw [e1 x e];exact h.le x hx
 · by_cases e:x=u
   · subst e
     rw [e2]
     refine .inr ?_
     have hw:WayTo w s (o s):=by
      rcases h.att s hs with e|e
      · omega
      · exact e
     have:=WayTo.step (e:=(i,c,s)) hst hw
     simp only at this
     rw [Int.add_comm]
     exact this
   · rw [e1 x e];exact h.att x hx
 · by_cases e:x=u
   · subst e
     have:=h.goal x hx hg
     omega
   · rw [e1 x e];exact h.goal x hx hg
 · rcases List.mem_cons.1 hp with rfl|hp
   · exact ⟨hu,e2.symm,by show o s + c < INF;omega⟩
   · obtain ⟨h1,h2⟩:=List.mem_filter.1 hp
     have h3:p.1≠u:=by simpa using h2
     obtain ⟨k1,k2,k3⟩:=h.key p h1
     exact ⟨k1,by rw [e1 _ h3];exact k2,k3⟩
 · rw [List.map_cons,List.nodup_cons]
   refine ⟨fun hm=>?_,?_⟩
   · obtain ⟨p,h1,h2⟩:=List.mem_map.1 hm
     have:=(List.mem_filter.1 h1).2
     simp at this
     exact this h2
   · exact (List.Sublist.map Prod.fst List.filter_sublist).nodup h.nd
 · by_cases e:t=u
   · exact .inl (by simp [e])
   · rcases h.arcs t u' c' ha with h1|h1|⟨rfl,h1⟩
     · obtain ⟨p,h2,h3⟩:=List.mem_map.1 h1
       refine .inl ?_
       rw [List.map_cons,List.mem_cons]
       refine .inr (List.mem_map.2 ⟨p,List.mem_filter.2 ⟨h2,?_⟩,h3⟩)
       simpa [h3] using e
     · refine .inr (.inl ?_)
       rw [e1 t e]
       by_cases e3:u' = u
       · subst e3;rw [e2];omega
       · rw [e1 u' e3];exact h1
     · rcases List.mem_cons.1 h1 with e4|h1
       · cases e4
         refine .inr (.inl ?_)
         rw [e2,e1 _ hne]
         omega
       · exact .inr (.inr ⟨rfl,h1⟩)
theorem QInv.least {w:Wd}{l:List W32}{o:W32→Int} (h:QInv w l o [] fun _ _ _=>False)(hcl:∀ s∈l,∀ e∈w.steps s,e.2.2∈l):∀ s∈l,Least w s (o s):=by
 have key:∀ s c,WayTo w s c→s∈l→o s≤c:=by
  intro s c hw
  induction hw with
  | goal hg=>intro hs;rw [h.goal _ hs hg];omega
  | @step s e c he _ ih =>
   intro hs
   have ht:=hcl s hs e he
   have:=ih ht
   rcases h.arcs e.2.2 s e.2.1 (zaq.2 ⟨hs,e.1,he⟩) with h1|h1|h1
   · simp at h1
   · omega
   · exact h1.elim
 exact fun s hs=>⟨h.le s hs,fun c hw=>key s c hw hs,h.att s hs⟩
def o0 (w:Wd)(s:W32):Int:=if w.isGoal s=true then 0 else INF
def kv0 (w:Wd)(l:List W32):List (W32 × Int):=(l.filter w.isGoal).map fun s=>(s,0)
theorem QInv.start {w:Wd} (hc:zao w) {l:List W32} (hnd:l.Nodup)(hcl:∀ s∈l,∀ e∈w.steps s,e.2.2∈l) {kv:List (W32 × Int)} (hp:kv.Perm (kv0 w l)):QInv w l (o0 w) kv fun _ _ _=>False:=by
 refine QInv.perm ?_ hp.symm
 have hg:∀ s,w.isGoal s=true→o0 w s=0:=fun s h=>by unfold o0;rw [if_pos h]
 have hng:∀ s,¬ w.isGoal s=true→o0 w s=INF:=fun s h=>by unfold o0;rw [if_neg h]
 have hI:(0:Int) < INF:=by decide
 refine ⟨fun s _=>?_,fun s _=>?_,fun s _=>?_,fun s _ h=>hg s h,fun p hp=>?_,?_,fun t u c ha=>?_⟩
 · by_cases h:w.isGoal s=true
   · rw [hg s h];omega
   · rw [hng s h];omega
 · by_cases h:w.isGoal s=true
   · rw [hg s h];omega
   · rw [hng s h];omega
 · by_cases h:w.isGoal s=true
   · rw [hg s h];exact .inr (.goal h)
   · exact .inl (hng s h)
 · obtain ⟨s,h1,rfl⟩:=List.mem_map.1 hp
   obtain ⟨h2,h3⟩:=List.mem_filter.1 h1
   exact ⟨h2,(hg s h3).symm,hI⟩
 · unfold kv0
   rw [List.map_map]
   have:(Prod.fst ∘ fun s:W32=>(s,(0:Int)))=id:=rfl
   rw [this,List.map_id]
   exact List.filter_sublist.nodup hnd
 · obtain ⟨hu,i,hst⟩:=zaq.1 ha
   have hcc:=(zdb hc hst).1
   simp only at hcc
   have hm:t∈l:=hcl u hu _ hst
   by_cases h:w.isGoal t=true
   · refine .inl ?_
     unfold kv0
     rw [List.map_map]
     exact List.mem_map.2 ⟨t,List.mem_filter.2 ⟨hm,h⟩,rfl⟩
   · refine .inr (.inl ?_)
     rw [hng t h]
     by_cases h2:w.isGoal u=true
     · rw [hg u h2];omega
     · rw [hng u h2];omega
def wO (x y:W32):Int:=xh (facts x) (facts y)
theorem je (x y:W32):wO y x = -wO x y:=by
 unfold wO
 exact zi2 _ _
theorem zdc {x y:W32}:wO x y=0↔x=y:=by
 unfold wO
 exact ⟨fun h=>ztO (zcZ.1 h),fun h=>by rw [h];exact zcZ.2 rfl⟩
theorem ze2 {x y z:W32} (h1:wO x y < 0)(h2:wO y z < 0):wO x z < 0:=by
 unfold wO at *
 exact zep h1 h2
theorem zqb {a b:List W32} (p:a.Perm b)(ha:a.Pairwise fun x y=>¬ wO y x < 0)(hb:b.Pairwise fun x y=>¬ wO y x < 0):a=b :=
 List.Perm.eq_of_pairwise (le:=fun x y=>¬ wO y x < 0) (fun x y _ _ h1 h2=>by
  have:=je x y
  exact zdc.1 (by omega)) ha hb p
def IsStates (w:Wd)(l:List W32):Prop:=l.Nodup∧l.length≤2000∧(∀ s,s∈l↔Reach w s)∧l.Pairwise fun x y=>¬ wO y x < 0
theorem IsStates.uniq {w:Wd}{a b:List W32} (ha:IsStates w a)(hb:IsStates w b):a=b :=
 zqb ((List.perm_ext_iff_of_nodup ha.1 hb.1).2 fun s=>(ha.2.2.1 s).trans (hb.2.2.1 s).symm) ha.2.2.2 hb.2.2.2
def zsx (l:List W32):List W32:=l.mergeSort fun x y=>decide (¬ wO y x < 0)
theorem zrn {w:Wd}{l:List W32} (h:kJ w=some l):IsStates w (zsx l):=by
 obtain ⟨h1,h2,h3⟩:=(zda w).1 l h
 have p:(zsx l).Perm l:=List.mergeSort_perm l _
 refine ⟨p.nodup_iff.2 h1,by rw [p.length_eq];exact h2,fun s=>by rw [p.mem_iff];exact h3 s,?_⟩
 have hs:=List.pairwise_mergeSort (le:=fun x y=>decide (¬ wO y x < 0)) (fun a b c h1 h2=>by
  simp only [decide_eq_true_eq] at *
  intro h3
  have n1:=je a b
  have n2:=je b c
  rcases Int.lt_or_eq_of_le (show wO a b≤0 by omega) with e|e
  · exact h2 (ze2 h3 e)
  · rw [zdc.1 e] at h3
    exact h2 h3) (fun a b=>by
  have n1:=je a b
  simp only [Bool.or_eq_true,decide_eq_true_eq]
  omega) l
 exact hs.imp fun h=>by simpa using h
theorem IsStates.closed {w:Wd}{l:List W32} (h:IsStates w l):∀ s∈l,∀ e∈w.steps s,e.2.2∈l:=fun s hs e he=>(h.2.2.1 _).2 (.step ((h.2.2.1 s).1 hs) he)
theorem zdd {t:STask} (h:SV t):zao (yM t):=fun m hm=>by
 obtain ⟨o,ho,rfl⟩:=List.mem_map.1 hm
 have:=h.op o ho
 exact ⟨this.c0,this.c1⟩
def wk (t:STask):Option (List W32):=(kJ (yM t)).map zsx
def vZ (l:List Int):Prop:=∀ p∈l,0≤p∧p < 32
theorem xK {t:STask} (hv:SV t) {l:List Int} (h:IsSet t.facts l):vZ l:=fun p hp=>by
 have:=h.rng p hp
 have:=hv.f1
 omega
theorem zlE {s:List Int} (h:SS s)(h2:vZ s):facts (yS s)=s:=by
 refine zk2 (zlC _ 32) h fun x=>?_
 unfold facts
 rw [uL]
 constructor
 · rintro ⟨q,rfl,hq,hb⟩
   rw [wa q hq s h2] at hb
   exact of_decide_eq_true hb
 · intro hx
   obtain ⟨h0,h1⟩:=h2 x hx
   refine ⟨x.toNat,by omega,by omega,?_⟩
   rw [wa x.toNat (by omega) s h2,show ((x.toNat:Nat):Int)=x by omega]
   exact decide_eq_true hx
theorem znS {a b:List Int} (ha:vZ a)(hb:vZ b):(yS b &&& yS a == yS a)=xl a b:=by
 rw [Bool.eq_iff_iff]
 simp only [beq_iff_eq]
 unfold xl
 rw [List.all_eq_true]
 constructor
 · intro h x hx
   obtain ⟨h0,h1⟩:=ha x hx
   have h2:=congrArg (fun w:W32=>w.getLsbD x.toNat) h
   simp only [BitVec.getLsbD_and,wa x.toNat (by omega) a ha,wa x.toNat (by omega) b hb] at h2
   rw [show ((x.toNat:Nat):Int)=x by omega,decide_eq_true hx,Bool.and_true] at h2
   exact h2
 · intro h
   refine BitVec.eq_of_getLsbD_eq fun q hq=>?_
   rw [BitVec.getLsbD_and,wa q hq a ha,wa q hq b hb]
   by_cases hm:(q:Int)∈a
   · have:=h q hm
     rw [this,decide_eq_true hm]
     rfl
   · rw [decide_eq_false hm,Bool.and_false]
theorem ztQ {s add del:List Int} (hs:vZ s)(ha:vZ add):vZ (wC s add del):=fun p hp=>by
 rcases qR.1 hp with ⟨h,_⟩|h
 · exact hs p h
 · exact ha p h
theorem zuY {s add del:List Int} (hs:vZ s)(ha:vZ add)(hd:vZ del):(yS s &&& ~~~ yS del) ||| yS add=yS (wC s add del):=by
 refine BitVec.eq_of_getLsbD_eq fun q hq=>?_
 rw [BitVec.getLsbD_or,BitVec.getLsbD_and,BitVec.getLsbD_not,wa q hq s hs,wa q hq add ha,wa q hq del hd,wa q hq _ (ztQ hs ha),Bool.eq_iff_iff]
 simp only [Bool.or_eq_true,Bool.and_eq_true,Bool.not_eq_true',decide_eq_true_eq,decide_eq_false_iff_not,qR]
 constructor
 · rintro (⟨h1,_,h2⟩|h)
   · exact .inl ⟨h1,h2⟩
   · exact .inr h
 · rintro (⟨h1,h2⟩|h)
   · exact .inl ⟨h1,hq,h2⟩
   · exact .inr h
section
variable {t:STask}
theorem zmV (hv:SV t) {o:SOp} (ho:o∈t.ops):vZ o.pre∧vZ o.add∧vZ o.del:=⟨xK hv (hv.op o ho).pre,xK hv (hv.op o ho).add,xK hv (hv.op o ho).del⟩
theorem zqc (hv:SV t) {o:SOp} (ho:o∈t.ops) {s:List Int} (hs:vZ s):(zcw o).can (yS s)=xl o.pre s:=znS (zmV hv ho).1 hs
theorem znT (hv:SV t) {o:SOp} (ho:o∈t.ops) {s:List Int} (hs:vZ s):(zcw o).next (yS s)=yS (wC s o.add o.del):=zuY hs (zmV hv ho).2.1 (zmV hv ho).2.2
theorem zgN (hv:SV t) {s:List Int} (hs:vZ s):(yM t).isGoal (yS s)=xl t.goal s:=znS (xK hv hv.goal) hs
theorem u6 (hv:SV t) {s:List Int} (hs:vZ s) {e:Nat × Int × W32}:e∈(yM t).steps (yS s)↔∃ o,t.ops[e.1]? = some o∧xl o.pre s=true∧e.2.1=o.cost∧e.2.2=yS (wC s o.add o.del):=by
 constructor
 · intro h
   obtain ⟨i,m,h1,h2,h3⟩:=za5 h
   rw [Nat.zero_add] at h2
   subst h2
   unfold yM at h1
   simp only [List.getElem?_map] at h1
   cases ho:t.ops[i]? with
   | none=>rw [ho] at h1;cases h1
   | some o =>
    rw [ho] at h1
    cases h1
    have hm:=List.mem_of_getElem? ho
    refine ⟨o,rfl,?_,rfl,znT hv hm hs⟩
    rw [← zqc hv hm hs]
    exact h3
 · rintro ⟨o,ho,h1,h2,h3⟩
   have hm:=List.mem_of_getElem? ho
   have hk:(yM t).ops[e.1]? = some (zcw o):=by
    unfold yM
    simp only [List.getElem?_map,ho,Option.map_some]
   have:=zfk (s:=yS s) (k:=0) hk (by rw [zqc hv hm hs];exact h1)
   rw [Nat.zero_add,znT hv hm hs] at this
   obtain ⟨a,b,c⟩:=e
   simp only at h2 h3 this
   rw [h2,h3]
   exact this
theorem ziN (hv:SV t):∀ (plan s e:List Int),IsSet t.facts s→(∀ op∈plan,0≤op∧op < t.ops.length)→zdt t s plan=some e→xl t.goal e=true→WayTo (yM t) (yS s) (zsr t plan)
 | [],s,e,hs,_,he,hg=>by
  cases he
  exact .goal ((zgN hv (xK hv hs)).trans hg)
 | op :: r,s,e,hs,hr,he,hg=>by
  obtain ⟨h0,h1⟩:=hr op (by simp)
  have hlt:op.toNat < t.ops.length:=by omega
  have ho:t.ops[op.toNat]? = some t.ops[op.toNat]:=List.getElem?_eq_getElem hlt
  have he2:(match jI t s op with|some s'=>zdt t s' r|none=>none)=some e:=he
  rw [zpY ho] at he2
  by_cases hp:xl (t.ops[op.toNat]).pre s=true
  · rw [if_pos hp] at he2
    have hm:=List.mem_of_getElem? ho
    have ih:=ziN hv r _ e (uS hs (hv.op _ hm).add) (fun x hx=>hr x (by simp [hx])) he2 hg
    have hst:=(u6 hv (xK hv hs) (e:=(op.toNat,(t.ops[op.toNat]).cost,yS (wC s (t.ops[op.toNat]).add (t.ops[op.toNat]).del)))).2 ⟨_,ho,hp,rfl,rfl⟩
    have:=WayTo.step hst ih
    have hc:zhp t op=(t.ops[op.toNat]).cost:=by unfold zhp;rw [ho]
    show WayTo _ _ (zhp t op + zsr t r)
    rw [hc]
    exact this
  · rw [if_neg hp] at he2
    cases he2
end
structure Bis (w1 w2:Wd)(R:W32→W32→Prop):Prop where
 start:R w1.start w2.start
 goal:∀ a b,R a b→w1.isGoal a=w2.isGoal b
 fwd:∀ a b,R a b→∀ e∈w1.steps a,∃ e'∈w2.steps b,e'.2.1=e.2.1∧R e.2.2 e'.2.2
 bwd:∀ a b,R a b→∀ e'∈w2.steps b,∃ e∈w1.steps a,e.2.1=e'.2.1∧R e.2.2 e'.2.2
 fn:∀ a b b',R a b→R a b'→b=b'
 inj:∀ a a' b,R a b→R a' b→a=a'
theorem Bis.symm {w1 w2:Wd}{R:W32→W32→Prop} (h:Bis w1 w2 R):Bis w2 w1 fun a b=>R b a :=
 ⟨h.start,fun a b hr=>(h.goal b a hr).symm,fun a b hr=>h.bwd b a hr,fun a b hr=>h.fwd b a hr,fun a b b' h1 h2=>h.inj b b' a h1 h2,fun a a' b h1 h2=>h.fn b a a' h1 h2⟩
theorem Bis.way {w1 w2:Wd}{R:W32→W32→Prop} (h:Bis w1 w2 R) {a:W32}{c:Int} (hw:WayTo w1 a c):∀ b,R a b→WayTo w2 b c:=by
 induction hw with
 | goal hg=>exact fun b hr=>.goal ((h.goal _ b hr).symm.trans hg)
 | step he _ ih =>
  intro b hr
  obtain ⟨e',h1,h2,h3⟩:=h.fwd _ b hr _ he
  rw [← h2]
  exact .step h1 (ih _ h3)
theorem Bis.least {w1 w2:Wd}{R:W32→W32→Prop} (h:Bis w1 w2 R) {a b:W32}{d:Int} (hr:R a b)(hl:Least w1 a d):Least w2 b d :=
 ⟨hl.le,fun c hw=>hl.low c (h.symm.way hw a hr),hl.att.imp id fun hw=>h.way hw b hr⟩
theorem Bis.reach {w1 w2:Wd}{R:W32→W32→Prop} (h:Bis w1 w2 R) {a:W32} (hr:Reach w1 a):∃ b,Reach w2 b∧R a b:=by
 induction hr with
 | start=>exact ⟨_,.start,h.start⟩
 | step _ he ih =>
  obtain ⟨b,h1,h2⟩:=ih
  obtain ⟨e',h3,_,h5⟩:=h.fwd _ b h2 _ he
  exact ⟨_,.step h1 h3,h5⟩
theorem Bis.many {w1 w2:Wd}{R:W32→W32→Prop} (h:Bis w1 w2 R):∀ L:List W32,L.Nodup→(∀ a∈L,Reach w1 a)→∃ L':List W32,L'.length=L.length∧L'.Nodup∧∀ b∈L',Reach w2 b∧∃ a∈L,R a b
 | [],_,_=>⟨[],rfl,List.nodup_nil,fun b hb=>by cases hb⟩
 | a :: r,hn,hr=>by
  have hn':=List.nodup_cons.1 hn
  obtain ⟨L',h1,h2,h3⟩:=h.many r hn'.2 fun x hx=>hr x (by simp [hx])
  obtain ⟨b,h4,h5⟩:=h.reach (hr a (by simp))
  refine ⟨b :: L',by simp [h1],List.nodup_cons.2 ⟨fun hm=>?_,h2⟩,fun x hx=>?_⟩
  · obtain ⟨_,a',h6,h7⟩:=h3 b hm
    exact hn'.1 (h.inj a a' b h5 h7 ▸ h6)
  · rcases List.mem_cons.1 hx with rfl|hx
    · exact ⟨h4,a,by simp,h5⟩
    · obtain ⟨h6,a',h7,h8⟩:=h3 x hx
      exact ⟨h6,a',by simp [h7],h8⟩
theorem Bis.big {w1 w2:Wd}{R:W32→W32→Prop} (h:Bis w1 w2 R)(hb:kJ w1=none):kJ w2=none:=by
 cases hA:kJ w2 with
 | none=>rfl
 | some l2 =>
  exfalso
  obtain ⟨L,h1,h2,h3⟩:=(zda w1).2 hb
  obtain ⟨L',h4,h5,h6⟩:=h.many L h1 h3
  obtain ⟨_,h8,h9⟩:=(zda w2).1 l2 hA
  have:=List.Nodup.length_le_of_subset h5 (l₂:=l2) fun b hb=>(h9 b).2 (h6 b hb).1
  omega
theorem Bis.states {t1 t2:STask}{R:W32→W32→Prop} (h:Bis (yM t1) (yM t2) R):wk t1=none↔wk t2=none:=by
 unfold wk
 rw [Option.map_eq_none_iff,Option.map_eq_none_iff]
 exact ⟨h.big,h.symm.big⟩
section
variable {d:Dom}
def gR (d:Dom)(a b:W32):Prop:=∃ s t,a=yS s∧b=yS t∧IsSet (uO d).task.facts s∧IsSet (vo d).task.facts t∧Sim (ya d) (gA d) (rA d).hv s t
theorem zqd {t:STask} (hv:SV t) {s s':List Int} (h1:IsSet t.facts s)(h2:IsSet t.facts s')(e:yS s=yS s'):s=s':=by
 have:=congrArg facts e
 rwa [zlE h1.ss (xK hv h1),zlE h2.ss (xK hv h2)] at this
theorem zw5 {s t t':List Int} (ht:IsSet (vo d).task.facts t)(ht':IsSet (vo d).task.facts t')(h:Sim (ya d) (gA d) (rA d).hv s t)(h':Sim (ya d) (gA d) (rA d).hv s t'):t=t':=by
 have key:∀ {t t':List Int},IsSet (vo d).task.facts t→Sim (ya d) (gA d) (rA d).hv s t→Sim (ya d) (gA d) (rA d).hv s t'→∀ x∈t,x∈t':=fun {t t'} ht h h' x hx=>by
  obtain ⟨h0,h1⟩:=ht.rng x hx
  have hl:x.toNat < (gA d).length:=by
   have:(vo d).task.facts=((gA d).length:Int):=rfl
   omega
  obtain ⟨y,hy⟩:=zh hl
  obtain ⟨i,hi⟩:=List.getElem?_of_mem (zdS.1 (zm hy)).1
  have e:((x.toNat:Nat):Int)=x:=by omega
  have h2:=(h.eq i x.toNat y hi hy).2 (by rw [e];exact hx)
  have h3:=(h'.eq i x.toNat y hi hy).1 h2
  rwa [e] at h3
 exact zk2 ht.ss ht'.ss fun x=>⟨key ht h h' x,key ht' h' h x⟩
theorem zv4 {s s' t:List Int} (hs:IsSet (uO d).task.facts s)(hs':IsSet (uO d).task.facts s')(h:Sim (ya d) (gA d) (rA d).hv s t)(h':Sim (ya d) (gA d) (rA d).hv s' t):s=s':=by
 have key:∀ {s s':List Int},IsSet (uO d).task.facts s→Sim (ya d) (gA d) (rA d).hv s t→Sim (ya d) (gA d) (rA d).hv s' t→∀ x∈s,x∈s':=fun {s s'} hs h h' x hx=>by
  obtain ⟨h0,h1⟩:=hs.rng x hx
  have hl:x.toNat < (ya d).length:=by
   have:(uO d).task.facts=((ya d).length:Int):=rfl
   omega
  obtain ⟨y,hy⟩:=zh hl
  have e:((x.toNat:Nat):Int)=x:=by omega
  have hy2:=h.inv x.toNat y hy (by rw [e];exact hx)
  obtain ⟨j,hj⟩:=List.getElem?_of_mem (zdS.2 ⟨zm hy,.inl hy2⟩)
  have h2:=(h.eq x.toNat j y hy hj).1 (by rw [e];exact hx)
  have h3:=(h'.eq x.toNat j y hy hj).2 h2
  rwa [e] at h3
 exact zk2 hs.ss hs'.ss fun x=>⟨key hs h h' x,key hs' h' h x⟩
theorem zsy (hd:DoVal d)(h1:SV (uO d).task)(h2:SV (vo d).task):Bis (yM (uO d).task) (yM (vo d).task) (gR d):=by
 refine ⟨⟨_,_,rfl,rfl,h1.init,h2.init,zuT⟩,?_,?_,?_,?_,?_⟩
 · rintro _ _ ⟨s,t,rfl,rfl,hs,ht,h⟩
   rw [zgN h1 (xK h1 hs),zgN h2 (xK h2 ht)]
   exact zuU h
 · rintro _ _ ⟨s,t,rfl,rfl,hs,ht,h⟩ e he
   obtain ⟨o,ho,hp,hc,hn⟩:=(u6 h1 (xK h1 hs)).1 he
   have hom:=List.mem_of_getElem? ho
   simp only [uO,xZ,List.getElem?_map] at ho
   cases ha:(zD d)[e.1]? with
   | none=>rw [ha] at ho;cases ho
   | some a =>
    rw [ha] at ho
    cases ho
    have hu:=zuV hd h ha hp
    have hra:a∈uk (zD d) (rA d):=zgD.2 ⟨e.1,yn ha,hu,ha⟩
    obtain ⟨k,hk⟩:=List.getElem?_of_mem hra
    have hv:=(zjQ d (zD d)).add e.1 a ha hu
    have hk2:(vo d).task.ops[k]? = some (zcq (gA d) a):=by
     simp only [vo,xZ,List.getElem?_map,hk,Option.map_some]
    refine ⟨(k,a.cost,yS (wC t (yL (gA d) a.add) (yL (gA d) a.del))),(u6 h2 (xK h2 ht)).2 ⟨_,hk2,?_,rfl,rfl⟩,hc.symm,_,_,hn,rfl,uS hs (h1.op _ hom).add,uS ht (h2.op _ (List.mem_of_getElem? hk2)).add,zp4 h hv⟩
    exact (zrj h hv).symm.trans hp
 · rintro _ _ ⟨s,t,rfl,rfl,hs,ht,h⟩ e he
   obtain ⟨o,ho,hp,hc,hn⟩:=(u6 h2 (xK h2 ht)).1 he
   have hom:=List.mem_of_getElem? ho
   simp only [vo,xZ,List.getElem?_map] at ho
   cases ha:(uk (zD d) (rA d))[e.1]? with
   | none=>rw [ha] at ho;cases ho
   | some b =>
    rw [ha] at ho
    cases ho
    obtain ⟨i,hil,hiu,hib⟩:=zgD.1 (zm ha)
    have hv:=(zjQ d (zD d)).add i b hib hiu
    have hk2:(uO d).task.ops[i]? = some (zcq (ya d) b):=by
     simp only [uO,xZ,List.getElem?_map,hib,Option.map_some]
    refine ⟨(i,b.cost,yS (wC s (yL (ya d) b.add) (yL (ya d) b.del))),(u6 h1 (xK h1 hs)).2 ⟨_,hk2,?_,rfl,rfl⟩,hc.symm,_,_,rfl,hn,uS hs (h1.op _ (List.mem_of_getElem? hk2)).add,uS ht (h2.op _ hom).add,zp4 h hv⟩
    exact (zrj h hv).trans hp
 · rintro _ _ _ ⟨s,t,rfl,rfl,hs,ht,h⟩ ⟨s',t',e1,rfl,hs',ht',h'⟩
   have e:=zqd h1 hs hs' e1
   subst e
   rw [zw5 ht ht' h h']
 · rintro _ _ _ ⟨s,t,rfl,rfl,hs,ht,h⟩ ⟨s',t',rfl,e1,hs',ht',h'⟩
   have e:=zqd h2 ht ht' e1
   subst e
   rw [zv4 hs hs' h h']
end
theorem kK (σ:za)(d:Nat)(b:Blk)(t:Nat):ups σ d b t=if t=d then b else σ t:=by
 by_cases e:t=d
 · subst e;rw [zn,if_pos rfl]
 · rw [ze σ b e,if_neg e]
structure QE where
 nm:Nat
 b:Nat
 item:W32
 key:Int
 time:Int
 at_:Int
def QE.cells (e:QE):List V:=[.int .u32 e.item.toNat,.int .i64 e.key,.int .i64 e.time,.int .i64 e.at_]
def QE.ptr (e:QE):V:=.raw e.b 0
def QE.at' (e:QE)(i:Nat):QE:=⟨e.nm,e.b,e.item,e.key,e.time,i⟩
def QE.core (e:QE):Nat × Nat × W32 × Int:=(e.nm,e.b,e.item,e.key)
structure HS where
 nQ:Nat
 bq:Nat
 nH:Nat
 bh:Nat
 cap:Nat
 box:List V
 nF:Nat
 time:Int
 es:List QE
def HS.names (h:HS):List Nat:=h.nQ :: h.nH :: h.nF :: h.es.map QE.nm
structure HOk (ns:List Nat)(σ:za)(h:HS):Prop where
 hQ:σ h.nQ=.box (.tag h.bq [.rsl h.bh h.es.length h.cap,.mp h.nF,.int .i64 h.time])
 hH:σ h.nH=.box (.tag h.bh h.box)
 hbl:h.box.length=h.cap
 hle:h.es.length≤h.cap
 hsz:h.es.length≤1000000
 ht:∀ (i:Nat) e,h.es[i]? = some e→h.box[i]? = some e.ptr
 hE:∀ e∈h.es,σ e.nm=.box (.tag e.b e.cells)
 hat:∀ (i:Nat) e,h.es[i]? = some e→e.at_=i
 nd:h.names.Nodup
 sub:∀ n∈h.names,n∈ns
 pur:∀ v∈h.box,zP v=true
 cl:Cl ns σ
 out:∀ nm,σ nm≠.zc→nm∈ns
structure Same (σ:za)(h:HS)(σ':za)(h':HS):Prop where
 nQ:h'.nQ=h.nQ
 bq:h'.bq=h.bq
 nF:h'.nF=h.nF
 time:h'.time=h.time
 core:(h'.es.map QE.core).Perm (h.es.map QE.core)
 fm:σ' h.nF=σ h.nF
theorem Same.refl (σ:za)(h:HS):Same σ h σ h:=⟨rfl,rfl,rfl,rfl,List.Perm.refl _,rfl⟩
theorem Same.trans {σ σ' σ'':za}{h h' h'':HS} (k:Same σ h σ' h')(k':Same σ' h' σ'' h''):Same σ h σ'' h'' :=
 ⟨k'.nQ.trans k.nQ,k'.bq.trans k.bq,k'.nF.trans k.nF,k'.time.trans k.time,k'.core.trans k.core,by rw [← k.fm,← k.nF];exact k'.fm⟩
theorem Same.len {σ σ':za}{h h':HS} (k:Same σ h σ' h'):h'.es.length=h.es.length:=by simpa using k.core.length_eq
section
variable {ns:List Nat}{σ:za}{h:HS}
theorem HOk.len_cap (ho:HOk ns σ h) {i:Nat} (hi:i < h.es.length):i < h.box.length:=by have:=ho.hbl;have:=ho.hle;omega
theorem HOk.eNd (ho:HOk ns σ h):(h.es.map QE.nm).Nodup:=(List.nodup_cons.1 (List.nodup_cons.1 (List.nodup_cons.1 ho.nd).2).2).2
theorem HOk.neE (ho:HOk ns σ h) {i j:Nat}{e e':QE} (hi:h.es[i]? = some e)(hj:h.es[j]? = some e')(hne:i≠j):e.nm≠e'.nm:=by
 intro he
 have h1:(h.es.map QE.nm)[i]? = some e.nm:=by rw [List.getElem?_map,hi];rfl
 have h2:(h.es.map QE.nm)[j]? = some e.nm:=by rw [List.getElem?_map,hj];exact congrArg some he.symm
 obtain ⟨h3,h4⟩:=List.getElem?_eq_some_iff.1 h1
 obtain ⟨h5,h6⟩:=List.getElem?_eq_some_iff.1 h2
 exact hne ((List.getElem_inj ho.eNd).1 (h4.trans h6.symm))
theorem HOk.QH (ho:HOk ns σ h):h.nQ≠h.nH:=fun e=>(List.nodup_cons.1 ho.nd).1 (by rw [e];simp)
theorem HOk.QF (ho:HOk ns σ h):h.nQ≠h.nF:=fun e=>(List.nodup_cons.1 ho.nd).1 (by rw [e];simp)
theorem HOk.HF (ho:HOk ns σ h):h.nH≠h.nF:=fun e=>(List.nodup_cons.1 (List.nodup_cons.1 ho.nd).2).1 (by rw [e];simp)
theorem HOk.EQ (ho:HOk ns σ h) {e:QE} (he:e∈h.es):h.nQ≠e.nm:=fun k=>(List.nodup_cons.1 ho.nd).1 (by rw [k];simp only [List.mem_cons];exact .inr (.inr (List.mem_map.2 ⟨e,he,rfl⟩)))
theorem HOk.EH (ho:HOk ns σ h) {e:QE} (he:e∈h.es):h.nH≠e.nm:=fun k=>(List.nodup_cons.1 (List.nodup_cons.1 ho.nd).2).1 (by rw [k];simp only [List.mem_cons];exact .inr (List.mem_map.2 ⟨e,he,rfl⟩))
theorem HOk.EF (ho:HOk ns σ h) {e:QE} (he:e∈h.es):h.nF≠e.nm:=fun k=>(List.nodup_cons.1 (List.nodup_cons.1 (List.nodup_cons.1 ho.nd).2).2).1 (by rw [k];exact List.mem_map.2 ⟨e,he,rfl⟩)
theorem HOk.inE (ho:HOk ns σ h) {e:QE} (he:e∈h.es):e.nm∈ns:=ho.sub _ (by unfold HS.names;simp only [List.mem_cons];exact .inr (.inr (.inr (List.mem_map.2 ⟨e,he,rfl⟩))))
theorem HOk.inQ (ho:HOk ns σ h):h.nQ∈ns:=ho.sub _ (by simp [HS.names])
theorem HOk.inH (ho:HOk ns σ h):h.nH∈ns:=ho.sub _ (by simp [HS.names])
theorem HOk.inF (ho:HOk ns σ h):h.nF∈ns:=ho.sub _ (by simp [HS.names])
theorem kL (ns:List Nat) {b:Nat}{l:List V} (h:∀ v∈l,zP v=true):zt ns (.tag b l)=true:=vQ ns l (zny h)
theorem un {ns:List Nat}{n:Nat} (h:n∈ns):zt ns (.mp n)=true:=(yx n ns).2 h
theorem zdv {ns:List Nat}{b n c bh nF:Nat}{t:Int} (h:nF∈ns):zt ns (.tag b [.rsl bh n c,.mp nF,.int .i64 t])=true:=by
 show (true && (zt ns (.mp nF) && (true && true)))=true
 rw [un h]
 rfl
theorem HOk.re (ho:HOk ns σ h):HOk ns (restr ns σ) h:=by rw [yY ho.out];exact ho
theorem Same.re {σ':za}{h':HS} (k:Same σ h σ' h')(ho:HOk ns σ' h'):Same σ h (restr ns σ') h':=by rw [yY ho.out];exact k
theorem ldx {l:List V}{i:Nat}{v:V} (h:l[i]? = some v)(hv:fz v=some v):fzA (xe false 1 ((i:Int).toNat * 1) (.agg l))=some v:=by
 rw [Nat.mul_one,Int.toNat_natCast]
 have e:xe false 1 i (.agg l)=some v:=h
 rw [e]
 cases v<;>first
  | rfl
  | exact zhj _
  | (simp only [fzA,zlU])
theorem stx {l:List V}{i:Nat}{v:V} (h:i < l.length)(hv:zR v=true):fzA (wW 1 ((i:Int).toNat * 1) (.agg l) v)=some (.agg (l.set i v)):=by
 rw [Nat.mul_one,Int.toNat_natCast]
 have e:Nat.ble (i + 1) l.length=true:=Nat.ble_eq_true_of_le h
 have e2:wW 1 i (.agg l) v=some (.agg (l.set i v)):=by
  cases v<;>first
   | (cases hv;done)
   | (simp only [wW,e,hv,Bool.and_true,Bool.and_self];rfl)
 rw [e2]
 exact zhj _
def wv (h:HS)(i j:Nat)(ei ej:QE):HS:={ h with es:=(h.es.set i (ej.at' i)).set j (ei.at' j),box:=(h.box.set i ej.ptr).set j ei.ptr }
theorem zuZ {h:HS}{i j:Nat}{ei ej:QE} (hi:i < h.es.length)(hj:j < h.es.length)(k:Nat):(wv h i j ei ej).es[k]? = if k=j then some (ei.at' j) else if k=i then some (ej.at' i) else h.es[k]?:=by
 unfold wv
 simp only [List.getElem?_set,List.length_set]
 by_cases c:k=j
 · subst c;simp [hj]
 · rw [if_neg (fun e=>c e.symm),if_neg c]
   by_cases c2:k=i
   · subst c2;simp [hi]
   · rw [if_neg (fun e=>c2 e.symm),if_neg c2]
theorem ztR {α:Type}:∀ {l:List α}{i j:Nat}{a b:α},l[i]? = some a→l[j]? = some b→((l.set i b).set j a).Perm l:=fun {l i j a b} hi hj=>by
 obtain ⟨h1,h2⟩:=List.getElem?_eq_some_iff.1 hi
 obtain ⟨h3,h4⟩:=List.getElem?_eq_some_iff.1 hj
 subst h2 h4
 exact List.set_set_perm h1 h3
theorem HOk.swap (ho:HOk ns σ h) {i j:Nat}{ei ej:QE} (hi:h.es[i]? = some ei)(hj:h.es[j]? = some ej) {σ':za}
  (hσ:∀ n,σ' n=if n=ei.nm then .box (.tag ei.b (ei.at' j).cells) else if n=ej.nm then .box (.tag ej.b (ej.at' i).cells) else if n=h.nH then .box (.tag h.bh (wv h i j ei ej).box) else σ n) :
  HOk ns σ' (wv h i j ei ej)∧Same σ h σ' (wv h i j ei ej):=by
 have li:=yn hi
 have lj:=yn hj
 have mi:=zm hi
 have mj:=zm hj
 have hg:=zuZ (h:=h) (ei:=ei) (ej:=ej) li lj
 have hlen:(wv h i j ei ej).es.length=h.es.length:=by simp [wv]
 have hcore:((wv h i j ei ej).es.map QE.core).Perm (h.es.map QE.core):=by
  have e:(wv h i j ei ej).es.map QE.core=((h.es.map QE.core).set i ej.core).set j ei.core:=by simp only [wv,List.map_set];rfl
  rw [e]
  exact ztR (by rw [List.getElem?_map,hi];rfl) (by rw [List.getElem?_map,hj];rfl)
 have hnm:((wv h i j ei ej).es.map QE.nm).Perm (h.es.map QE.nm):=by
  have:=hcore.map Prod.fst
  rw [List.map_map,List.map_map] at this
  exact this
 have hnames:(wv h i j ei ej).names.Perm h.names:=((hnm.cons _).cons _).cons _
 have hQ':σ' h.nQ=σ h.nQ:=by rw [hσ,if_neg (ho.EQ mi),if_neg (ho.EQ mj),if_neg ho.QH]
 have hF':σ' h.nF=σ h.nF:=by rw [hσ,if_neg (ho.EF mi),if_neg (ho.EF mj),if_neg (fun e=>ho.HF e.symm)]
 have hH':σ' h.nH=.box (.tag h.bh (wv h i j ei ej).box):=by rw [hσ,if_neg (ho.EH mi),if_neg (ho.EH mj),if_pos rfl]
 have hpur:∀ v∈(wv h i j ei ej).box,zP v=true:=fun v hv=>by
  rcases List.mem_or_eq_of_mem_set hv with h1|rfl
  · rcases List.mem_or_eq_of_mem_set h1 with h1|rfl
    · exact ho.pur v h1
    · rfl
  · rfl
 refine ⟨⟨?_,hH',by simp [wv,ho.hbl],by rw [hlen];exact ho.hle,by rw [hlen];exact ho.hsz,fun k e hk=>?_,fun e he=>?_,fun k e hk=>?_,hnames.nodup_iff.2 ho.nd,fun n hn=>ho.sub n (hnames.mem_iff.1 hn),hpur,?_,?_⟩,⟨rfl,rfl,rfl,rfl,hcore,hF'⟩⟩
 · rw [hlen];exact hQ'.trans ho.hQ
 · rw [hg] at hk
   have hbi:=ho.len_cap li
   have hbj:=ho.len_cap lj
   show ((h.box.set i ej.ptr).set j ei.ptr)[k]? = _
   simp only [List.getElem?_set,List.length_set]
   by_cases c:k=j
   · subst c
     simp only [if_true] at hk
     cases hk
     simp [hbj,QE.ptr,QE.at']
   · rw [if_neg c] at hk
     rw [if_neg (fun e=>c e.symm)]
     by_cases c2:k=i
     · subst c2
       simp only [if_true] at hk
       cases hk
       simp [hbi,QE.ptr,QE.at']
     · rw [if_neg c2] at hk
       rw [if_neg (fun e=>c2 e.symm)]
       exact ho.ht k e hk
 · obtain ⟨k,hk⟩:=List.getElem?_of_mem he
   rw [hg] at hk
   rw [hσ]
   by_cases c:k=j
   · rw [if_pos c] at hk
     cases hk
     exact if_pos rfl
   · rw [if_neg c] at hk
     by_cases c2:k=i
     · rw [if_pos c2] at hk
       cases hk
       have:ej.nm≠ei.nm:=ho.neE hj hi (by omega)
       exact (if_neg this).trans (if_pos rfl)
     · rw [if_neg c2] at hk
       rw [if_neg (ho.neE hk hi c2),if_neg (ho.neE hk hj c),if_neg (fun e2=>ho.EH (zm hk) e2.symm)]
       exact ho.hE e (zm hk)
 · rw [hg] at hk
   by_cases c:k=j
   · rw [if_pos c] at hk;cases hk;subst c;rfl
   · rw [if_neg c] at hk
     by_cases c2:k=i
     · rw [if_pos c2] at hk;cases hk;subst c2;rfl
     · rw [if_neg c2] at hk;exact ho.hat k e hk
 · refine (z6 _ _ _).2 fun n hn row hr=>?_
   rw [hσ] at hr
   split at hr
   · cases hr;rfl
   · split at hr
     · cases hr;rfl
     · split at hr
       · cases hr;exact kL ns hpur
       · exact ho.cl.at hn hr
 · intro n hn
   rw [hσ] at hn
   split at hn
   · rename_i e;exact e ▸ ho.inE mi
   · split at hn
     · rename_i e;exact e ▸ ho.inE mj
     · split at hn
       · rename_i e;exact e ▸ ho.inH
       · exact ho.out n hn
end
end Hm
end
section
namespace Hm
open Go
set_option maxRecDepth 100000
set_option maxHeartbeats 1000000
section
variable {G:Type}{P:Program}{H:HT G}{pn:List Nat}{Q:Exit→Env→za→G→Prop}{fs:List (Frm G)}{ρ:Env}{σ:za}{g:G}{r:List GItem}{d:Nat}{st:Bool}{et:List LT}{x y:Opd}
theorem zsz {a b:W32} (hx:ev ρ x=yk a)(hy:ev ρ y=yk b)(h:WI P H pn Q fs r (upd ρ d (yk (a &&& b))) σ g):WI P H pn Q fs (.op (some d) none (.bin .and st et x y) :: r) ρ σ g:=zV (by
 simp only [zg,hx,hy,yk,xg,kEq,cond_true]
 rw [show IntKind.u32.bits=32 from rfl,u5,u5,zjY]
 exact h.out)
theorem zw6 {a b:W32} (hx:ev ρ x=yk a)(hy:ev ρ y=yk b)(h:WI P H pn Q fs r (upd ρ d (yk (a ||| b))) σ g):WI P H pn Q fs (.op (some d) none (.bin .or st et x y) :: r) ρ σ g:=zV (by
 simp only [zg,hx,hy,yk,xg,kEq,cond_true]
 rw [show IntKind.u32.bits=32 from rfl,u5,u5,zjY]
 exact h.out)
theorem zw7 {a b:W32} (hx:ev ρ x=yk a)(hy:ev ρ y=yk b)(h:WI P H pn Q fs r (upd ρ d (yk (a &&& ~~~ b))) σ g):WI P H pn Q fs (.op (some d) none (.bin .andNot st et x y) :: r) ρ σ g:=zV (by
 simp only [zg,hx,hy,yk,xg,kEq,cond_true]
 rw [show IntKind.u32.bits=32 from rfl,u5,u5,zjY]
 exact h.out)
theorem zu0 (p:Int):IntKind.u32.wrap ((1:Int) * 2 ^ (min p.toNat IntKind.u32.bits))=((bit p).toNat:Int):=by
 have e:∀ m:Nat,m≤32→IntKind.u32.wrap ((1:Int) * 2 ^ m)=((BitVec.ofNat 32 (2 ^ m)).toNat:Int):=by decide
 exact e _ (by show min p.toNat 32≤32;omega)
theorem zxL {p:Int}{k:IntKind} (hx:ev ρ x=.int .u32 1)(hy:ev ρ y=.int k p)(h0:0≤p)(h:WI P H pn Q fs r (upd ρ d (yk (bit p))) σ g):WI P H pn Q fs (.op (some d) none (.bin .shl st et x y) :: r) ρ σ g:=zV (by
 simp only [zg,hx,hy,xg]
 refine ⟨h0,?_⟩
 rw [zu0]
 exact h.out)
theorem zv5 (w:W32)(q:Nat)(hq:q < 32):IntKind.u32.wrap ((BitVec.ofInt IntKind.u32.bits (((w.toNat:Int)).fdiv (2 ^ (min q IntKind.u32.bits))) &&& BitVec.ofInt IntKind.u32.bits 1).toNat)=if w.getLsbD q=true then 1 else 0:=by
 have e1:min q IntKind.u32.bits=q:=by show min q 32=q;omega
 rw [e1]
 have e2:((w.toNat:Int)).fdiv (2 ^ q)=((w.toNat >>> q:Nat):Int):=by
  rw [Int.fdiv_eq_ediv_of_nonneg _ (Int.le_of_lt (Int.pow_pos (by decide))),Nat.shiftRight_eq_div_pow,Int.natCast_ediv,Int.natCast_pow]
  rfl
 rw [e2]
 show IntKind.u32.wrap ((BitVec.ofInt 32 ((w.toNat >>> q:Nat):Int) &&& BitVec.ofInt 32 1).toNat)=_
 have e3:BitVec.ofInt 32 ((w.toNat >>> q:Nat):Int)=w >>> q:=by
  rw [BitVec.ofInt_natCast]
  apply BitVec.eq_of_toNat_eq
  rw [BitVec.toNat_ofNat,BitVec.toNat_ushiftRight]
  have:=w.isLt
  exact Nat.mod_eq_of_lt (Nat.lt_of_le_of_lt (Nat.shiftRight_le _ _) this)
 rw [e3]
 have e4:(w >>> q &&& BitVec.ofInt 32 1)=if w.getLsbD q=true then 1#32 else 0#32:=by
  have e5:BitVec.ofInt 32 1=1#32:=rfl
  rw [e5]
  refine BitVec.eq_of_getLsbD_eq fun i hi=>?_
  rw [BitVec.getLsbD_and,BitVec.getLsbD_ushiftRight]
  have h1:(1#32:W32).getLsbD i=decide (i=0):=by
   rw [BitVec.getLsbD_one]
   simp
  rw [h1]
  by_cases c:i=0
  · subst c
    cases h:w.getLsbD q<;>simp [h]
  · cases h:w.getLsbD q<;>simp [c,h1]
 rw [e4]
 split<;>rfl
end
def zqe:Cmd :=
 (qS [qq 2 (.mov (.c (.int .u32 0)))]
 (qS [qq 3 (.mov (.c (.int .u32 0)))]
 (qT (qS [qm 6 0,qn 7 6,qc 8 0]
 (.block 0 (.loop (qS [qu 9 .lss [] 8 7]
 (qT (.cond (.t 9) .skip (.exit 0))
 (qT (.block 1 (qS [qi 10 1 6 8,ql 11 1 10,qm 5 11]
 (.ops [qm 12 3,qm 13 5,qq 14 (.bin .shl false [] (.c (.int .u32 1)) (.t 13)),qu 15 .or [] 12 14,qm 3 15])))
 (.ops [qv 16 .add [] 8 1,qm 8 16])))))))
 (.seq (.ops [qm 17 3,qm 2 17]) .ret))))
def zqf:List RVar:=[.tmp 2]
def zqg:Nat:=18
theorem zqh:zj PG 112 zqg zqf zqe=true:=by kernel_rfl
theorem v1 (s:List Int)(hs:∀ p∈s,0≤p∧p < 32)(hl:s.length≤140737488355328):Fc PG 112 [.sl .p (s.map zk)] (yk (yS s)):=by
 refine Fn.step zf zqh ?_
 repeat (first|refine zo rfl ?_|refine i_s rfl ?_|refine sw ?_)
 refine ye s.length (fun k=>[(3,yk (yS (s.take k))),(6,.sl .p (s.map zk)),(7,.int .i64 s.length),(8,.int .i64 k)]) (fun _=>[]) (fun _=>True) trivial ft fun k hk _=>?_
 repeat (first|refine i_s rfl ?_|refine sw ?_)
 refine zd rfl (fun h=>?_) (fun h=>?_)
 · have hlt:k < s.length:=by simpa using h
   obtain ⟨p,hp⟩:=zh hlt
   have hr:=hs p (zm hp)
   clear h
   have et:yS (s.take (k + 1))=yS (s.take k) ||| bit p:=by
    rw [List.take_add_one,hp]
    exact zlA _ _ _
   repeat' (first|refine i_s rfl ?_|refine sw ?_|refine ja rfl rfl ?_|refine jd rfl rfl ?_|refine zxL rfl rfl hr.1 ?_|refine zw6 rfl rfl ?_)
   refine zK hlt trivial ⟨⟨?_,rfl,rfl,rfl,trivial⟩,trivial,rfl⟩
   rw [et]
   rfl
 · have hge:¬ k < s.length:=by simpa using h
   have ek:s.take k=s:=List.take_of_length_le (by omega)
   repeat' (first|refine i_s rfl ?_|refine sw ?_|fail)
   exact zb ⟨rfl,_,rfl,by rw [ek];rfl⟩
def zft:Cmd :=
 (qS [qq 2 (.mov (.c (.int .u32 0)))]
 (.seq (.ops [qm 3 0,qq 4 (.nilck (.t 3)),qf 5 0 4,ql 6 1 5,qm 2 6]) .ret))
def zfu:List RVar:=[.tmp 2]
def zfv:Nat:=7
theorem zfw:zj PG 32 zfv zfu zft=true:=by kernel_rfl
theorem qd (w:Wd):Fc PG 32 [.cptr .p (wdR w) 0] (yk w.start):=by
 refine Fn.step zf zfw ?_
 repeat' (first|refine i_s rfl ?_|refine sw ?_|fail)
 exact zb ⟨rfl,_,rfl,rfl⟩
end Hm
end
section
namespace Hm
open Go
set_option maxRecDepth 100000
set_option maxHeartbeats 2000000
def zar:Cmd :=
 (qS [qc 2 0]
 (.seq (.ops [qm 3 0,qn 4 3,qm 2 4]) .ret))
def zas:List RVar:=[.tmp 2]
def zat:Nat:=5
theorem zau:zj PG 236 zat zas zar=true:=by kernel_rfl
theorem zdw (b n c:Nat):Fc PG 236 [.rsl b n c] (.int .i64 n):=by
 refine Fn.step zf zau ?_
 repeat' (first|refine i_s rfl ?_|refine sw ?_|fail)
 exact zb ⟨rfl,_,rfl,rfl⟩
def jg:Cmd :=
 (qS [qb 6 false]
 (.seq (.ops [qm 7 0,qm 8 1,qi 9 1 7 8,ql 10 1 9,qq 11 (.nilck (.t 10)),qf 12 1 11,ql 13 1 12,qm 14 0,qm 15 2,qi 16 1 14 15,ql 17 1 16,qq 18 (.nilck (.t 17)),qf 19 1 18,ql 20 1 19,qu 21 .lss [] 13 20,qm 22 21,qg 23 22 false (.mov (.t 0)),qg 24 22 false (.mov (.t 1)),qg 25 22 false (.iaddr 1 (.t 23) (.t 24)),qg 26 22 false (.load false 1 (.t 25)),qg 27 22 false (.nilck (.t 26)),qg 28 22 false (.faddr 1 (.t 27)),qg 29 22 false (.load false 1 (.t 28)),qg 30 22 false (.mov (.t 0)),qg 31 22 false (.mov (.t 2)),qg 32 22 false (.iaddr 1 (.t 30) (.t 31)),qg 33 22 false (.load false 1 (.t 32)),qg 34 22 false (.nilck (.t 33)),qg 35 22 false (.faddr 1 (.t 34)),qg 36 22 false (.load false 1 (.t 35)),qg 37 22 false (.bin .eql false [.i] (.t 29) (.t 36)),qg 38 22 false (.mov (.t 37)),qg 39 38 true (.mov (.t 0)),qg 40 38 true (.mov (.t 1)),qg 41 38 true (.iaddr 1 (.t 39) (.t 40)),qg 42 38 true (.load false 1 (.t 41)),qg 43 38 true (.nilck (.t 42)),qg 44 38 true (.faddr 2 (.t 43)),qg 45 38 true (.load false 1 (.t 44)),qg 46 38 true (.mov (.t 0)),qg 47 38 true (.mov (.t 2)),qg 48 38 true (.iaddr 1 (.t 46) (.t 47)),qg 49 38 true (.load false 1 (.t 48)),qg 50 38 true (.nilck (.t 49)),qg 51 38 true (.faddr 2 (.t 50)),qg 52 38 true (.load false 1 (.t 51)),qg 53 38 true (.bin .lss false [] (.t 45) (.t 52)),qg 54 22 false (.pick (.t 38) (.t 53) (.c (.bool false))),qq 55 (.pick (.t 22) (.c (.bool true)) (.t 54)),qm 6 55]) .ret))
def ji:List RVar:=[.tmp 6]
def jj:Nat:=56
theorem jk:zj PG 237 jj ji jg=true:=by kernel_rfl
theorem zht {G:Type}{H:HT G}{g:G}{ns:List Nat}{σ:za}{q:HS} (ho:HOk ns σ q)(i j:Nat)(hi:i < q.es.length)(hj:j < q.es.length) :
  Cc PG H 237 [.rsl q.bh q.es.length q.cap,.int .i64 i,.int .i64 j] ns σ g fun v σ' g'=>(∃ b,v=.bool b)∧σ' = σ∧g' = g:=by
 obtain ⟨ei,hei⟩:=zh hi
 obtain ⟨ej,hej⟩:=zh hj
 have bi:=ho.ht i ei hei
 have bj:=ho.ht j ej hej
 have si:=ho.hE ei (zm hei)
 have sj:=ho.hE ej (zm hej)
 refine CT.step _ zf jk ho.out fun hM=>?_
 repeat' (first|refine i_s rfl ?_|refine sw ?_|refine yi rfl ?_|refine yw rfl ?_|refine zi0 rfl ?_|refine i_g rfl (fun h=>?_) (fun h=>?_)|refine zen rfl rfl (by omega) (by omega) ?_|refine y1 q.nH rfl ho.hH (ldx bi rfl) ?_|refine y1 q.nH rfl ho.hH (ldx bj rfl) ?_|refine y1 ei.nm rfl si rfl ?_|refine y1 ej.nm rfl sj rfl ?_)
 all_goals exact zb ⟨rfl,_,rfl,rfl,ho.cl,⟨_,rfl⟩,yY ho.out,rfl⟩
def jl:Cmd :=
 (qS [qm 6 0,qm 7 1,qm 8 0,qm 9 2,qm 10 0,qm 11 2,qi 12 1 10 11,ql 13 1 12,qm 14 0,qm 15 1,qi 16 1 14 15,ql 17 1 16,qi 18 1 6 7,qs 1 18 13,qi 19 1 8 9,qs 1 19 17]
 (.ops [qm 20 0,qm 21 1,qi 22 1 20 21,ql 23 1 22,qm 24 0,qm 25 2,qi 26 1 24 25,ql 27 1 26,qm 28 1,qm 29 2,qq 30 (.nilck (.t 23)),qf 31 3 30,qs 1 31 28,qq 32 (.nilck (.t 27)),qf 33 3 32,qs 1 33 29]))
def jm:List RVar:=[]
def jn:Nat:=34
theorem jo:zj PG 238 jn jm jl=true:=by kernel_rfl
theorem zhu {G:Type}{H:HT G}{g:G}{ns:List Nat}{σ:za}{q:HS} (ho:HOk ns σ q)(i j:Nat)(hi:i < q.es.length)(hj:j < q.es.length) :
  Cc PG H 238 [.rsl q.bh q.es.length q.cap,.int .i64 i,.int .i64 j] ns σ g fun v σ' g'=>(∃ h',HOk ns σ' h'∧Same σ q σ' h')∧g' = g:=by
 obtain ⟨ei,hei⟩:=zh hi
 obtain ⟨ej,hej⟩:=zh hj
 have bi:=ho.ht i ei hei
 have bj:=ho.ht j ej hej
 have mi:=zm hei
 have mj:=zm hej
 have li:=ho.len_cap hi
 have lj:=ho.len_cap hj
 refine CT.step _ zf jo ho.out fun hM=>?_
 repeat' (first|refine i_s rfl ?_|refine sw ?_|refine zen rfl rfl (by omega) (by omega) ?_|refine y1 q.nH rfl ho.hH (ldx bi rfl) ?_|refine y1 q.nH rfl ho.hH (ldx bj rfl) ?_)
 refine uf q.nH rfl ho.hH (stx (v:=ej.ptr) li rfl) ?_
 skip
 refine zen rfl rfl (by omega) (by omega) ?_
 refine uf q.nH rfl (zn _ _ _) (stx (v:=ei.ptr) (by simpa using lj) rfl) ?_
 repeat (first|refine i_s rfl ?_|refine sw ?_)
 have hb:((q.box.set i ej.ptr).set j ei.ptr)[j]? = some ei.ptr:=by simp [lj]
 have hb2:((q.box.set i ej.ptr).set j ei.ptr)[i]? = some ej.ptr:=by
  by_cases c:i=j
  · subst c
    rw [hei] at hej
    cases hej
    exact hb
  · rw [List.getElem?_set_ne (fun e=>c e.symm)]
    simp [li]
 refine zen rfl rfl (by omega) (by omega) ?_
 refine y1 q.nH rfl (zn _ _ _) (ldx hb2 rfl) ?_
 repeat refine i_s rfl ?_
 refine zen rfl rfl (by omega) (by omega) ?_
 refine y1 q.nH rfl (zn _ _ _) (ldx hb rfl) ?_
 repeat refine i_s rfl ?_
 refine uf ej.nm rfl (by rw [ze _ _ (fun e=>ho.EH mj e.symm),ze _ _ (fun e=>ho.EH mj e.symm)];exact ho.hE ej mj) rfl ?_
 repeat refine i_s rfl ?_
 by_cases c:i=j
 · subst c
   rw [hei] at hej
   cases hej
   refine uf ei.nm rfl (zn _ _ _) rfl ?_
   obtain ⟨k1,k2⟩:=ho.swap hei hei (σ':=ups (ups (ups (ups σ q.nH (.box (.tag q.bh (q.box.set i ei.ptr)))) q.nH (.box (.tag q.bh ((q.box.set i ei.ptr).set i ei.ptr)))) ei.nm (.box (.tag ei.b (ei.at' i).cells))) ei.nm (.box (.tag ei.b (ei.at' i).cells))) (fun n=>by
    simp only [kK]
    by_cases c1:n=ei.nm
    · simp [c1]
    · simp only [c1,if_false]
      by_cases c2:n=q.nH
      · simp [c2,wv]
      · simp [c2])
   repeat refine sw ?_
   exact ym ⟨rfl,_,rfl,rfl,k1.cl,⟨_,k1.re,k2.re k1⟩,rfl⟩
 · refine uf ei.nm rfl (by rw [ze _ _ (ho.neE hei hej c),ze _ _ (fun e=>ho.EH mi e.symm),ze _ _ (fun e=>ho.EH mi e.symm)];exact ho.hE ei mi) rfl ?_
   obtain ⟨k1,k2⟩:=ho.swap hei hej (σ':=ups (ups (ups (ups σ q.nH (.box (.tag q.bh (q.box.set i ej.ptr)))) q.nH (.box (.tag q.bh ((q.box.set i ej.ptr).set j ei.ptr)))) ej.nm (.box (.tag ej.b (ej.at' i).cells))) ei.nm (.box (.tag ei.b (ei.at' j).cells))) (fun n=>by
    simp only [kK]
    by_cases c1:n=ei.nm
    · simp [c1]
    · simp only [c1,if_false]
      by_cases c3:n=ej.nm
      · simp [c3]
      · simp only [c3,if_false]
        by_cases c2:n=q.nH
        · simp [c2,wv]
        · simp [c2])
   repeat refine sw ?_
   exact ym ⟨rfl,_,rfl,rfl,k1.cl,⟨_,k1.re,k2.re k1⟩,rfl⟩
end Hm
end
section
namespace Hm
open Go
section
variable {G:Type}{P:Program}{H:HT G}{pn:List Nat}{Q:Exit→Env→za→G→Prop}{fs:List (Frm G)}{ρ:Env}{σ:za}{g:G}{r:List GItem}{d:Nat}{dst:Option Nat}
theorem zvg (nm':Nat) {m bytes et:Nat}{v:V}{x y:Opd} (hx:ev ρ x=.sl .nil [])(hy:qh σ (ev ρ y)=some [v])(hc:v.cells.length=m∧v.cells.all zR=true)(hb:bytes≤1000)(hs':σ nm' = .zc)(ht:nm' < 1000000000000)
  (h:∀ b2 c2 l2,l2.length=c2 * m→1≤c2→l2.take m=v.cells→((∀ u∈v.cells,zP u=true)→∀ u∈l2,zP u=true)→WI P H pn Q fs r (upd ρ d (.rsl b2 1 c2)) (ups σ nm' (.box (.tag b2 l2))) g) :
  WI P H pn Q fs (.op (some d) none (.appR m bytes et x y) :: r) ρ σ g:=by
 refine zxE nm' hx hy (by simp) (fun row hr=>by rw [List.mem_singleton.1 hr];exact hc) (by simp;omega) (by simp) hs' (zpf ht) fun b c hle=>?_
 have hle:1≤c:=hle
 have e:zU [v]=v.cells:=List.append_nil _
 rw [e]
 refine h b c _ ?_ hle ?_ ?_
 · rw [List.length_append,List.length_replicate,hc.1]
   show m + (c - 1) * m=c * m
   rw [Nat.sub_mul,Nat.one_mul]
   have:=Nat.mul_le_mul_right m hle
   omega
 · rw [List.take_left' hc.1]
 · intro hp u hu
   rcases List.mem_append.1 hu with h1|h1
   · exact hp u h1
   · rw [(List.mem_replicate.1 h1).2];rfl
theorem zvh (nm nm':Nat) {m bytes et b n c:Nat}{v:V}{l:List V}{x y:Opd} (hx:ev ρ x=.rsl b n c)(hy:qh σ (ev ρ y)=some [v])(hc:v.cells.length=m∧v.cells.all zR=true)(hb:bytes≤1000)(hn:n≤100000000000)(hs:σ nm=.box (.tag b l))(hl:l.length=c * m)(hle:n≤c)(hs':σ nm' = .zc)(ht:nm' < 1000000000000)
  (h:∀ nm2 b2 c2 l2,nm2=nm∨nm2=nm'→l2.length=c2 * m→n + 1≤c2→l2.take (n * m)=l.take (n * m)→(l2.drop (n * m)).take m=v.cells→((∀ u∈l,zP u=true)→(∀ u∈v.cells,zP u=true)→∀ u∈l2,zP u=true)→WI P H pn Q fs r (upd ρ d (.rsl b2 (n + 1) c2)) (ups σ nm2 (.box (.tag b2 l2))) g) :
  WI P H pn Q fs (.op (some d) none (.appR m bytes et x y) :: r) ρ σ g:=by
 have e:zU [v]=v.cells:=List.append_nil _
 have hlt:(l.take (n * m)).length=n * m:=by
  rw [List.length_take,hl]
  have:=Nat.mul_le_mul_right m hle
  omega
 refine zxF nm hx hy (by simp) (fun row hr=>by rw [List.mem_singleton.1 hr];exact hc) ?_ ?_ hs (by omega) (fun hle2=>?_) (fun hlt2=>⟨nm',hs',zpf ht,fun b' c' hle2=>?_⟩)
 · have:(n + 1) * bytes≤(n + 1) * 1000:=Nat.mul_le_mul_left _ hb
   show (n + 1) * bytes≤_
   omega
 · show n + 1≤_
   omega
 · have hle2:n + 1≤c:=hle2
   rw [e]
   have h2:=Nat.mul_le_mul_right m hle2
   rw [Nat.add_mul,Nat.one_mul] at h2
   refine h nm b c _ (.inl rfl) ?_ hle2 ?_ ?_ ?_
   · simp only [List.length_append,hlt,hc.1,List.length_drop,hl]
     omega
   · rw [List.append_assoc,List.take_left' hlt]
   · rw [List.append_assoc,List.drop_left' hlt,List.take_left' hc.1]
   · intro hp hq u hu
     rcases List.mem_append.1 hu with h1|h1
     · rcases List.mem_append.1 h1 with h1|h1
       · exact hp u (List.mem_of_mem_take h1)
       · exact hq u h1
     · exact hp u (List.mem_of_mem_drop h1)
 · have hle2:n + 1≤c':=hle2
   rw [e]
   have h2:=Nat.mul_le_mul_right m hle2
   rw [Nat.add_mul,Nat.one_mul] at h2
   refine h nm' b' c' _ (.inr rfl) ?_ hle2 ?_ ?_ ?_
   · simp only [List.length_append,hlt,hc.1,List.length_replicate]
     show n * m + m + (c' - (n + 1)) * m=c' * m
     rw [Nat.sub_mul,Nat.add_mul,Nat.one_mul]
     omega
   · rw [List.append_assoc,List.take_left' hlt]
   · rw [List.append_assoc,List.drop_left' hlt,List.take_left' hc.1]
   · intro hp hq u hu
     rcases List.mem_append.1 hu with h1|h1
     · rcases List.mem_append.1 h1 with h1|h1
       · exact hp u (List.mem_of_mem_take h1)
       · exact hq u h1
     · rw [(List.mem_replicate.1 h1).2];rfl
end
structure HZ (ns:List Nat)(σ:za)(h:HS):Prop where
 hQ:σ h.nQ=.box (.tag h.bq [.sl .nil [],.mp h.nF,.int .i64 h.time])
 es:h.es=[]
 HH:h.nH≠h.nQ∧h.nH≠h.nF∧h.nH∈ns
 Hu:σ h.nH=.zc
 QF:h.nQ≠h.nF
 inQ:h.nQ∈ns
 inF:h.nF∈ns
 cl:Cl ns σ
 out:∀ nm,σ nm≠.zc→nm∈ns
structure HB (ns:List Nat)(σ:za)(h:HS):Prop where
 hsz:h.es.length≤1000000
 hE:∀ e∈h.es,σ e.nm=.box (.tag e.b e.cells)
 hat:∀ (i:Nat) e,h.es[i]? = some e→e.at_=i
 nd:(h.nQ :: h.nF :: h.es.map QE.nm).Nodup
 sub:∀ n∈h.nQ :: h.nF :: h.es.map QE.nm,n∈ns
 cl:Cl ns σ
 out:∀ nm,σ nm≠.zc→nm∈ns
def HAny (ns:List Nat)(σ:za)(h:HS):Prop:=HOk ns σ h∨HZ ns σ h
def HS.nm2 (h:HS):List Nat:=h.nQ :: h.nF :: h.es.map QE.nm
section
variable {ns:List Nat}{σ:za}{h:HS}
theorem HOk.base (ho:HOk ns σ h):HB ns σ h:=by
 have h1:=List.nodup_cons.1 ho.nd
 have h2:=List.nodup_cons.1 h1.2
 refine ⟨ho.hsz,ho.hE,ho.hat,List.nodup_cons.2 ⟨fun hm=>h1.1 (List.mem_cons_of_mem _ hm),h2.2⟩,fun n hn=>ho.sub n ?_,ho.cl,ho.out⟩
 rcases List.mem_cons.1 hn with rfl|hn
 · simp [HS.names]
 · exact List.mem_cons_of_mem _ (List.mem_cons_of_mem _ hn)
theorem HZ.base (hz:HZ ns σ h):HB ns σ h:=by
 have e:=hz.es
 refine ⟨by rw [e];simp,(fun x hx=>by rw [e] at hx;cases hx),(fun i x hx=>by rw [e] at hx;simp at hx),(by rw [e];simpa using hz.QF),fun n hn=>?_,hz.cl,hz.out⟩
 rw [e] at hn
 simp at hn
 rcases hn with rfl|rfl
 · exact hz.inQ
 · exact hz.inF
theorem HAny.base (ha:HAny ns σ h):HB ns σ h:=ha.elim HOk.base HZ.base
theorem HB.push (ho:HB ns σ h) {e:QE} (hlen:h.es.length < 1000000)(he1:e.nm∈ns)(he2:e.nm ∉ h.nm2) {nm2 b2 c2:Nat}{l2:List V} (hm1:nm2∈ns)(hm2:nm2 ∉ h.nm2)(hm3:nm2≠e.nm)
  (k1:l2.length=c2)(k2:h.es.length + 1≤c2)(k3:∀ (i:Nat) x,h.es[i]? = some x→l2[i]? = some x.ptr)(k4:l2[h.es.length]? = some e.ptr)(k5:∀ v∈l2,zP v=true) {σ':za}
  (hσ:∀ n,σ' n=if n=h.nQ then .box (.tag h.bq [.rsl b2 (h.es.length + 1) c2,.mp h.nF,.int .i64 h.time]) else if n=nm2 then .box (.tag b2 l2) else if n=e.nm then .box (.tag e.b (e.at' h.es.length).cells) else σ n) :
  HOk ns σ' { h with nH:=nm2,bh:=b2,cap:=c2,box:=l2,es:=h.es ++ [e.at' h.es.length] }∧σ' h.nF=σ h.nF:=by
 simp only [HS.nm2,List.mem_cons,not_or] at he2 hm2
 have hnd1:=List.nodup_cons.1 ho.nd
 have hnd2:=List.nodup_cons.1 hnd1.2
 have hQF:h.nF≠h.nQ:=fun e=>hnd1.1 (by rw [e];simp)
 have hF':σ' h.nF=σ h.nF:=by rw [hσ,if_neg hQF,if_neg (fun e=>hm2.2.1 e.symm),if_neg (fun e=>he2.2.1 e.symm)]
 have hcl:Cl ns σ':=(z6 _ _ _).2 fun n hn row hr=>by
  rw [hσ] at hr
  split at hr
  · cases hr;exact zdv (ho.sub _ (by simp))
  · split at hr
    · cases hr;exact kL ns k5
    · split at hr
      · cases hr;rfl
      · exact ho.cl.at hn hr
 have hE0:∀ x∈h.es,x.nm≠h.nQ∧x.nm≠nm2∧x.nm≠e.nm:=fun x hx=>by
  have hx2:x.nm∈h.es.map QE.nm:=List.mem_map.2 ⟨x,hx,rfl⟩
  exact ⟨fun k=>hnd1.1 (by rw [← k];simp [hx2]),fun k=>hm2.2.2 (k ▸ hx2),fun k=>he2.2.2 (k ▸ hx2)⟩
 refine ⟨⟨?_,?_,k1,?_,?_,fun i x hx=>?_,fun x hx=>?_,fun i x hx=>?_,?_,fun n hn=>?_,k5,hcl,fun n hn=>?_⟩,hF'⟩
 · show σ' h.nQ=.box (.tag h.bq [.rsl b2 (h.es ++ [e.at' h.es.length]).length c2,.mp h.nF,.int .i64 h.time])
   rw [List.length_append,List.length_singleton,hσ,if_pos rfl]
 · show σ' nm2=_
   rw [hσ,if_neg hm2.1,if_pos rfl]
 · show (h.es ++ [e.at' h.es.length]).length≤c2
   rw [List.length_append,List.length_singleton]
   exact k2
 · show (h.es ++ [e.at' h.es.length]).length≤_
   rw [List.length_append,List.length_singleton]
   omega
 · have hx:(h.es ++ [e.at' h.es.length])[i]? = some x:=hx
   show l2[i]? = _
   by_cases c:i < h.es.length
   · rw [List.getElem?_append_left c] at hx
     exact k3 i x hx
   · rw [List.getElem?_append_right (by omega)] at hx
     have hi:i=h.es.length:=by have:=yn hx;simp at this;omega
     subst hi
     rw [Nat.sub_self] at hx
     cases hx
     exact k4
 · rcases List.mem_append.1 hx with hx|hx
   · obtain ⟨q1,q2,q3⟩:=hE0 x hx
     rw [hσ,if_neg q1,if_neg q2,if_neg q3]
     exact ho.hE x hx
   · rw [List.mem_singleton.1 hx]
     show σ' e.nm=_
     rw [hσ,if_neg he2.1,if_neg (fun k=>hm3 k.symm),if_pos rfl]
     rfl
 · have hx:(h.es ++ [e.at' h.es.length])[i]? = some x:=hx
   by_cases c:i < h.es.length
   · rw [List.getElem?_append_left c] at hx
     exact ho.hat i x hx
   · rw [List.getElem?_append_right (by omega)] at hx
     have hi:i=h.es.length:=by have:=yn hx;simp at this;omega
     subst hi
     rw [Nat.sub_self] at hx
     cases hx
     rfl
 · show (h.nQ :: nm2 :: h.nF :: (h.es ++ [e.at' h.es.length]).map QE.nm).Nodup
   have e1:(h.es ++ [e.at' h.es.length]).map QE.nm=h.es.map QE.nm ++ [e.nm]:=by rw [List.map_append];rfl
   rw [e1]
   have hn3:(h.es.map QE.nm ++ [e.nm]).Nodup:=List.nodup_append.2 ⟨hnd2.2,by simp,fun a ha b hb=>by rw [List.mem_singleton.1 hb];exact fun k=>he2.2.2 (k ▸ ha)⟩
   refine List.nodup_cons.2 ⟨?_,List.nodup_cons.2 ⟨?_,List.nodup_cons.2 ⟨?_,hn3⟩⟩⟩
   · simp only [List.mem_cons,List.mem_append,List.not_mem_nil,or_false,not_or]
     exact ⟨fun k=>hm2.1 k.symm,fun k=>hQF k.symm,fun k=>hnd1.1 (List.mem_cons_of_mem _ k),fun k=>he2.1 k.symm⟩
   · simp only [List.mem_cons,List.mem_append,List.not_mem_nil,or_false,not_or]
     exact ⟨hm2.2.1,hm2.2.2,hm3⟩
   · simp only [List.mem_cons,List.mem_append,List.not_mem_nil,or_false,not_or]
     exact ⟨hnd2.1,fun k=>he2.2.1 k.symm⟩
 · have hn:n∈h.nQ :: nm2 :: h.nF :: (h.es ++ [e.at' h.es.length]).map QE.nm:=hn
   simp only [List.mem_cons,List.map_append,List.mem_append,List.map_nil,List.map_cons,List.not_mem_nil,or_false] at hn
   rcases hn with rfl|rfl|rfl|hn|rfl
   · exact ho.sub _ (by simp)
   · exact hm1
   · exact ho.sub _ (by simp)
   · exact ho.sub n (by simp only [List.mem_cons];exact .inr (.inr hn))
   · exact he1
 · rw [hσ] at hn
   split at hn
   · rename_i c;rw [c];exact ho.sub _ (by simp)
   · split at hn
     · rename_i c;rw [c];exact hm1
     · split at hn
       · rename_i c;rw [c];exact he1
       · exact ho.out n hn
theorem HOk.pop (ho:HOk ns σ h) {es:List QE}{e:QE} (hs:h.es=es ++ [e]) {σ':za} (hσ:∀ n,σ' n=if n=h.nQ then .box (.tag h.bq [.rsl h.bh es.length h.cap,.mp h.nF,.int .i64 h.time]) else σ n) :
  HOk ns σ' { h with es:=es }∧σ' h.nF=σ h.nF∧σ' e.nm=.box (.tag e.b e.cells):=by
 have hl:h.es.length=es.length + 1:=by rw [hs];simp
 have hsub:∀ x∈es,x∈h.es:=fun x hx=>by rw [hs];exact List.mem_append_left _ hx
 have hget:∀ (i:Nat) x,es[i]? = some x→h.es[i]? = some x:=fun i x hx=>by rw [hs,List.getElem?_append_left (yn hx)];exact hx
 have he:e∈h.es:=by rw [hs];simp
 have hF':σ' h.nF=σ h.nF:=by rw [hσ,if_neg (fun k=>ho.QF k.symm)]
 have hnm:h.names=h.nQ :: h.nH :: h.nF :: (es.map QE.nm ++ [e.nm]):=by unfold HS.names;rw [hs,List.map_append];rfl
 have hsl:(HS.names { h with es:=es }).Sublist h.names:=by
  rw [hnm]
  show (h.nQ :: h.nH :: h.nF :: es.map QE.nm).Sublist _
  exact (((List.sublist_append_left _ _).cons_cons _).cons_cons _).cons_cons _
 refine ⟨⟨?_,?_,ho.hbl,?_,?_,fun i x hx=>ho.ht i x (hget i x hx),fun x hx=>?_,fun i x hx=>ho.hat i x (hget i x hx),hsl.nodup ho.nd,fun n hn=>ho.sub n (hsl.subset hn),ho.pur,?_,fun n hn=>?_⟩,hF',?_⟩
 · show σ' h.nQ=_
   rw [hσ,if_pos rfl]
 · show σ' h.nH=_
   rw [hσ,if_neg (fun k=>ho.QH k.symm)]
   exact ho.hH
 · show es.length≤h.cap
   have:=ho.hle;omega
 · show es.length≤_
   have:=ho.hsz;omega
 · rw [hσ,if_neg (fun k=>ho.EQ (hsub x hx) k.symm)]
   exact ho.hE x (hsub x hx)
 · refine (z6 _ _ _).2 fun n hn row hr=>?_
   rw [hσ] at hr
   split at hr
   · cases hr;exact zdv ho.inF
   · exact ho.cl.at hn hr
 · rw [hσ] at hn
   split at hn
   · rename_i c;rw [c];exact ho.inQ
   · exact ho.out n hn
 · rw [hσ,if_neg (fun k=>ho.EQ he k.symm)]
   exact ho.hE e he
end
end Hm
end
section
namespace Hm
open Go
set_option maxRecDepth 100000
set_option maxHeartbeats 2000000
section
variable {G:Type}{P:Program}{H:HT G}{pn:List Nat}{Q:Exit→Env→za→G→Prop}{fs:List (Frm G)}{ρ:Env}{σ:za}{g:G}{r:List GItem}{dst:Option Nat}
theorem jJ (ns:List Nat) {name:String}{x:Opd}{args:List Opd}{t fid:Nat}{pr:Bool}{v0 u:V}{us:List V} (hx:ev ρ x=.ifv t v0)(hm:wX P t name=some (fid,pr))(hr:zuw σ pr v0 u)(has:fzL (args.map (ev ρ))=some us)
  (hcl:zW ns (u :: us)=true)(hcs:Cl ns σ)(ho:∀ nm,σ nm≠.zc→nm∈ns) {K:V→za→G→Prop} (hc:Cc P H fid (u :: us) ns σ g K)(hK:∀ v σ' g',K v σ' g'→∀ nm,σ' nm≠.zc→nm∈ns)
  (h:∀ v σ' g',K v σ' g'→WI P H pn Q fs r (put ρ dst v) σ' g'):WI P H pn Q fs (.op dst none (.callM .d name x args) :: r) ρ σ g :=
 zxT ns hx hm hr has hcl hcs (by rw [yY ho];exact hc) fun v σ' g' hk=>by rw [znw ho (hK v σ' g' hk)];exact h v σ' g' hk
theorem ze3 (ns:List Nat) {f:Opd}{args:List Opd}{fid:Nat}{us:List V} (hf:zek ρ f args=some (fid,us))(hcl:zW ns us=true)(hcs:Cl ns σ)(ho:∀ nm,σ nm≠.zc→nm∈ns) {K:V→za→G→Prop} (hc:Cc P H fid us ns σ g K)
  (hK:∀ v σ' g',K v σ' g'→∀ nm,σ' nm≠.zc→nm∈ns)(h:∀ v σ' g',K v σ' g'→WI P H pn Q fs r (put ρ dst v) σ' g'):WI P H pn Q fs (.op dst none (.call .d f args) :: r) ρ σ g :=
 zfU ns hf hcl hcs (by rw [yY ho];exact hc) fun v σ' g' hk=>by rw [znw ho (hK v σ' g' hk)];exact h v σ' g' hk
end
abbrev tO:Nat:=227
abbrev tE:Nat:=222
theorem zsA:wX PG tO "Len" = some (236,false):=by kernel_rfl
theorem zlF:wX PG tO "Less" = some (237,false):=by kernel_rfl
theorem zlG:wX PG tO "Swap" = some (238,false):=by kernel_rfl
theorem zw8:wX PG tO "Push" = some (240,true):=by kernel_rfl
theorem zxM:wX PG tO "Pop" = some (239,true):=by kernel_rfl
theorem zw9 (σ:za)(a b c:Nat)(x y z:Blk)(n:Nat):ups (ups (ups σ a x) b y) c z n=if n=c then z else if n=b then y else if n=a then x else σ n:=by simp only [kK]
def zxa (ns:List Nat)(σ:za)(q:HS)(e:QE)(σ':za):Prop:=∃ h',HOk ns σ' h'∧h'.nQ=q.nQ∧h'.bq=q.bq∧h'.nF=q.nF∧h'.time=q.time∧h'.es=q.es ++ [e.at' q.es.length]∧σ' q.nF=σ q.nF
def jp:Cmd :=
 (qS [qm 5 1,qq 6 (.tass 222 (.t 5)),qm 4 6]
 (qS [qm 7 4,qm 8 0,qq 9 (.nilck (.t 8)),ql 10 1 9,qn 11 10,qq 12 (.nilck (.t 7)),qf 13 3 12,qs 1 13 11]
 (.ops [qm 14 0,qm 15 0,qq 16 (.nilck (.t 15)),ql 17 1 16,qm 18 4,qq 19 (.bsl 1 [.t 18]),qq 20 (.appR 1 8 222 (.t 17) (.t 19)),qq 21 (.nilck (.t 14)),qs 1 21 20])))
def jq:List RVar:=[]
def jr:Nat:=22
theorem js:zj PG 240 jr jq jp=true:=by kernel_rfl
theorem zu1 {G:Type}{H:HT G}{g:G}{ns:List Nat}{σ:za}{q:HS} (ha:HAny ns σ q)(hlen:q.es.length < 1000000) {e:QE} (he:σ e.nm=.box (.tag e.b e.cells))(he1:e.nm∈ns)(he2:e.nm ∉ q.names) {f:Nat} (hf1:f∈ns)(hfF:f≠q.nF)(hf4:σ f=.zc)(hf5:f < 1000000000000) :
  Cc PG H 240 [.raw q.bq 0,.ifv tE (.raw e.b 0)] ns σ g fun v σ' g'=>zxa ns σ q e σ'∧g' = g:=by
 have hb:=ha.base
 have hne:e.nm≠q.nQ∧e.nm≠q.nH∧e.nm≠q.nF∧e.nm ∉ q.es.map QE.nm:=by
  simp only [HS.names,List.mem_cons,not_or] at he2
  exact he2
 have he3:e.nm ∉ q.nm2:=by
  simp only [HS.nm2,List.mem_cons,not_or]
  exact ⟨hne.1,hne.2.2.1,hne.2.2.2⟩
 have hfe:f≠e.nm:=fun k=>by rw [k,he] at hf4;cases hf4
 refine CT.step _ zf js hb.out fun hM=>?_
 rcases ha with ho|hz
 · have hfQ:f≠q.nQ:=fun k=>by rw [k,ho.hQ] at hf4;cases hf4
   have hfH:f≠q.nH:=fun k=>by rw [k,ho.hH] at hf4;cases hf4
   have hfE:f ∉ q.es.map QE.nm:=fun hm=>by
    obtain ⟨x,hx,rfl⟩:=List.mem_map.1 hm
    rw [ho.hE x hx] at hf4;cases hf4
   have hle:=ho.hle
   have hl1:q.box.length=q.cap * 1:=by rw [Nat.mul_one];exact ho.hbl
   repeat' (first|refine i_s rfl ?_|refine sw ?_|refine zr1 rfl ?_|refine y1 q.nQ rfl ho.hQ rfl ?_)
   refine uf e.nm rfl he rfl ?_
   repeat (first|refine i_s rfl ?_|refine sw ?_)
   refine y1 q.nQ rfl ((ze _ _ (fun k=>hne.1 k.symm)).trans ho.hQ) rfl ?_
   repeat refine i_s rfl ?_
   refine zvh q.nH f rfl rfl ⟨rfl,rfl⟩ (by decide) (by omega) ((ze _ _ (fun k=>hne.2.1 k.symm)).trans ho.hH) hl1 ho.hle ((ze _ _ hfe).trans hf4) hf5 (fun nm2 b2 c2 l2 k0 k1 k2 k3 k4 k5=>?_)
   rw [Nat.mul_one] at k1 k3 k4
   repeat refine i_s rfl ?_
   have hQ2:nm2≠q.nQ:=by
    rcases k0 with k0|k0
    · rw [k0];exact fun k=>ho.QH k.symm
    · rw [k0];exact hfQ
   refine uf q.nQ rfl ((ze _ _ (fun k=>hQ2 k.symm)).trans ((ze _ _ (fun k=>hne.1 k.symm)).trans ho.hQ)) rfl ?_
   repeat refine sw ?_
   obtain ⟨p1,p2⟩:=hb.push hlen he1 he3 (nm2:=nm2) (b2:=b2) (c2:=c2) (l2:=l2) (by rcases k0 with k0|k0<;>rw [k0];exact ho.inH;exact hf1) (by
     simp only [HS.nm2,List.mem_cons,not_or]
     rcases k0 with k0|k0<;>rw [k0]
     · exact ⟨fun k=>ho.QH k.symm,ho.HF,fun hm=>by
        obtain ⟨x,hx,k⟩:=List.mem_map.1 hm
        exact ho.EH hx k.symm⟩
     · exact ⟨hfQ,fun k=>hfF k,hfE⟩) (by rcases k0 with k0|k0<;>rw [k0];exact fun k=>hne.2.1 k.symm;exact hfe) k1 k2 (fun i x hx=>by
     have h1:=ho.ht i x hx
     have h2:=yn hx
     have h3:=congrArg (fun l=>l[i]?) k3
     simp only [List.getElem?_take,if_pos h2] at h3
     exact h3.trans h1) (by
     have h3:=congrArg (fun l=>l[0]?) k4
     simp only [List.getElem?_take,List.getElem?_drop] at h3
     simp at h3
     exact h3) (k5 ho.pur (fun u hu=>by rw [List.mem_singleton.1 hu];rfl))
    (fun n=>zw9 σ e.nm nm2 q.nQ (.box (.tag e.b (e.at' q.es.length).cells)) (.box (.tag b2 l2)) (.box (.tag q.bq [.rsl b2 (q.es.length + 1) c2,.mp q.nF,.int .i64 q.time])) n)
   exact ym ⟨rfl,_,rfl,rfl,p1.cl,⟨_,p1.re,rfl,rfl,rfl,rfl,rfl,(zB ho.inF).trans p2⟩,rfl⟩
 · have hes:=hz.es
   have hfQ:f≠q.nQ:=fun k=>by rw [k,hz.hQ] at hf4;cases hf4
   have h0:q.es.length=0:=by rw [hes];rfl
   repeat' (first|refine i_s rfl ?_|refine sw ?_|refine zr1 rfl ?_|refine y1 q.nQ rfl hz.hQ rfl ?_)
   refine uf e.nm rfl he rfl ?_
   repeat (first|refine i_s rfl ?_|refine sw ?_)
   refine y1 q.nQ rfl ((ze _ _ (fun k=>hne.1 k.symm)).trans hz.hQ) rfl ?_
   repeat refine i_s rfl ?_
   refine zvg f rfl rfl ⟨rfl,rfl⟩ (by decide) ((ze _ _ hfe).trans hf4) hf5 (fun b2 c2 l2 k1 k2 k3 k5=>?_)
   rw [Nat.mul_one] at k1
   repeat refine i_s rfl ?_
   refine uf q.nQ rfl ((ze _ _ (fun k=>hfQ k.symm)).trans ((ze _ _ (fun k=>hne.1 k.symm)).trans hz.hQ)) rfl ?_
   repeat refine sw ?_
   obtain ⟨p1,p2⟩:=hb.push hlen he1 he3 (nm2:=f) (b2:=b2) (c2:=c2) (l2:=l2) hf1 (by
     simp only [HS.nm2,List.mem_cons,not_or,hes]
     exact ⟨hfQ,fun k=>hfF k,by simp⟩) hfe k1 (by omega) (fun i x hx=>by rw [hes] at hx;simp at hx) (by
     rw [h0]
     have h3:=congrArg (fun l=>l[0]?) k3
     simp only [List.getElem?_take] at h3
     simp at h3
     exact h3) (k5 (fun u hu=>by rw [List.mem_singleton.1 hu];rfl))
    (fun n=>zw9 σ e.nm f q.nQ (.box (.tag e.b (e.at' q.es.length).cells)) (.box (.tag b2 l2)) (.box (.tag q.bq [.rsl b2 (q.es.length + 1) c2,.mp q.nF,.int .i64 q.time])) n)
   rw [h0] at p1
   exact ym ⟨rfl,_,rfl,rfl,p1.cl,⟨_,p1.re,rfl,rfl,rfl,rfl,by rw [h0],(zB hz.inF).trans (by rw [h0] at p2;exact p2)⟩,rfl⟩
end Hm
end
section
namespace Hm
open Go
set_option maxRecDepth 100000
set_option maxHeartbeats 4000000
def zav:Cmd :=
 (qS [qq 2 (.mov (.c (.any)))]
 (qS [qm 5 0,qq 6 (.nilck (.t 5)),ql 7 1 6,qm 3 7]
 (qS [qm 8 3,qm 9 3,qn 10 9,qv 11 .sub [] 10 1,qi 12 1 8 11,ql 13 1 12,qm 4 13]
 (qS [qm 14 0,qm 15 3,qm 16 3,qn 17 16,qv 18 .sub [] 17 1,qq 19 (.slice false 1 (.t 15) none (some (.t 18))),qq 20 (.nilck (.t 14)),qs 1 20 19]
 (.seq (.ops [qm 21 4,qq 22 (.mkifc 222 (.t 21)),qm 2 22]) .ret)))))
def zaw:List RVar:=[.tmp 2]
def zax:Nat:=23
theorem zay:zj PG 239 zax zaw zav=true:=by kernel_rfl
theorem zv6 {G:Type}{H:HT G}{g:G}{ns:List Nat}{σ:za}{q:HS} (ho:HOk ns σ q) {es:List QE}{e:QE} (hs:q.es=es ++ [e]) :
  Cc PG H 239 [.raw q.bq 0] ns σ g fun v σ' g'=>(v=.ifv tE (.raw e.b 0)∧HOk ns σ' { q with es:=es }∧σ' q.nF=σ q.nF∧σ' e.nm=.box (.tag e.b e.cells))∧g' = g:=by
 have hl:q.es.length=es.length + 1:=by rw [hs];simp
 have hsz:=ho.hsz
 have e1:((q.es.length:Nat):Int) - 1=(es.length:Nat):=by omega
 have hge:q.es[es.length]? = some e:=by rw [hs];simp
 have bi:=ho.ht es.length e hge
 have he:e∈q.es:=zm hge
 refine CT.step _ zf zay ho.out fun hM=>?_
 repeat' (first|refine i_s rfl ?_|refine sw ?_|refine jb rfl rfl ?_|refine y1 q.nQ rfl ho.hQ rfl ?_)
 rw [e1]
 refine zen rfl rfl (by omega) (by omega) ?_
 refine y1 q.nH rfl ho.hH (ldx bi rfl) ?_
 repeat' (first|refine i_s rfl ?_|refine sw ?_|refine jb rfl rfl ?_|fail)
 rw [e1]
 refine zxG rfl rfl rfl (by omega) (by omega) ?_
 rw [Int.toNat_natCast]
 repeat refine i_s rfl ?_
 refine uf q.nQ rfl ho.hQ rfl ?_
 repeat' (first|refine i_s rfl ?_|refine sw ?_|refine zks rfl ?_)
 obtain ⟨p1,p2,p3⟩:=ho.pop hs (σ':=ups σ q.nQ (.box (.tag q.bq [.rsl q.bh es.length q.cap,.mp q.nF,.int .i64 q.time]))) (fun n=>kK _ _ _ n)
 exact zb ⟨rfl,_,rfl,rfl,p1.cl,⟨rfl,p1.re,(zB ho.inF).trans p2,(zB (ho.inE he)).trans p3⟩,rfl⟩
def zfx:Cmd :=
 (.block 0 (.loop (.block 1 (qS [qm 5 1,qv 6 .sub [] 5 1,qv 7 .quo [] 6 2,qm 4 7]
 (qT (qS [qm 8 4,qm 9 1,qu 10 .eql [.i] 8 9,qm 11 10,qg 12 11 false (.mov (.t 0)),qg 13 11 false (.mov (.t 1)),qg 14 11 false (.mov (.t 4)),qg 15 11 false (.callM .d "Less" (.t 12) [.t 13,.t 14]),qg 16 11 false (.not (.t 15)),qq 17 (.pick (.t 11) (.c (.bool true)) (.t 16))]
 (.cond (.t 17) (.exit 0) .skip))
 (qS [qm 18 0,qm 19 4,qm 20 1,qq 21 (.callM .d "Swap" (.t 18) [.t 19,.t 20])]
 (.ops [qm 22 4,qm 1 22])))))))
def zfy:List RVar:=[]
def zfz:Nat:=23
theorem zfA:zj PG 152 zfz zfy zfx=true:=by kernel_rfl
theorem zvi {G:Type}{H:HT G}{g:G}{ns:List Nat}{σ:za}{q:HS} (ho:HOk ns σ q)(j:Nat)(hj:j < q.es.length) :
  Cc PG H 152 [.ifv tO (.raw q.bq 0),.int .i64 j] ns σ g fun v σ' g'=>(∃ q',HOk ns σ' q'∧Same σ q σ' q')∧g' = g:=by
 refine CT.step _ zf zfA ho.out fun hM=>?_
 repeat refine sw ?_
 refine x5 (fun u:za × HS × Nat=>[(0,.ifv tO (.raw u.2.1.bq 0)),(1,.int .i64 u.2.2)]) (fun u=>lsn ns u.1) (fun u=>HOk ns u.1 u.2.1∧Same σ q u.1 u.2.1∧u.2.2 < u.2.1.es.length) (fun u=>u.2.2) (σ,q,j) ⟨ho,Same.refl _ _,hj⟩
  (x6 ⟨rfl,rfl,trivial⟩ (fun _ _=>rfl) rfl ho.cl (fun n hn=>hn)) fun u hu=>?_
 obtain ⟨σ1,q1,k⟩:=u
 obtain ⟨ho1,hs1,hk⟩:=hu
 dsimp only at ho1 hs1 hk
 clear hj
 have hsz:=ho1.hsz
 show WC _ _ _ _ _ _ _ (zy (lsn ns σ1)) _
 rw [vc,yY ho1.out]
 have hdiv:((k:Int) - 1).tdiv 2=((k - 1) / 2:Nat):=by
  cases k with
  | zero=>rfl
  | succ k =>
   rw [show ((k + 1:Nat):Int) - 1=(k:Nat) by omega,show k + 1 - 1=k by omega]
   rfl
 repeat (first|refine i_s rfl ?_|refine sw ?_|refine jb rfl rfl ?_)
 refine zxA rfl rfl (by decide) (by rw [hdiv];simp only [InR];omega) ?_
 rw [hdiv]
 repeat (first|refine i_s rfl ?_|refine sw ?_)
 refine i_g rfl (fun hne=>?_) (fun heq=>?_)
 · have hlt:(k - 1) / 2 < k:=by
    have:¬ ((((k - 1) / 2:Nat):Int)=(k:Int)):=by simpa using hne
    omega
   repeat (first|refine i_s rfl ?_|refine yi rfl ?_)
   refine jJ ns rfl zlF ⟨_,_,_,_,rfl,ho1.hQ,rfl⟩ rfl rfl ho1.cl ho1.out (zht ho1 k ((k - 1) / 2) hk (by omega)) (fun v σ' g' h=>by rw [h.2.1];exact ho1.out) ?_
   rintro v σ' g' ⟨⟨b,rfl⟩,rfl,rfl⟩
   cases b with
   | false =>
    repeat' (first|refine i_s rfl ?_|refine sw ?_|refine yi rfl ?_|refine c_t rfl ?_)
    exact ym ⟨rfl,_,rfl,rfl,ho1.cl,⟨_,ho1.re,hs1.re ho1⟩,rfl⟩
   | true =>
    repeat (first|refine i_s rfl ?_|refine sw ?_|refine yi rfl ?_|refine c_f rfl ?_)
    refine jJ ns rfl zlG ⟨_,_,_,_,rfl,ho1.hQ,rfl⟩ rfl rfl ho1.cl ho1.out (zhu ho1 ((k - 1) / 2) k (by omega) hk) (fun v σ' g' h=>by obtain ⟨⟨_,h,_⟩,_⟩:=h;exact h.out) ?_
    rintro v σ2 g' ⟨⟨q2,ho2,hs2⟩,rfl⟩
    repeat (first|refine i_s rfl ?_|refine sw ?_)
    exact xL (σ2,q2,(k - 1) / 2) ⟨ho2,hs1.trans hs2,by show (k - 1) / 2 < q2.es.length;rw [hs2.len];omega⟩ hlt (x6 ⟨by rw [hs2.bq];rfl,rfl,trivial⟩ (fun _ _=>rfl) rfl ho2.cl (fun n hn=>hn))
 · repeat' (first|refine i_s rfl ?_|refine sw ?_|refine yw rfl ?_|refine c_t rfl ?_)
   exact ym ⟨rfl,_,rfl,rfl,ho1.cl,⟨_,ho1.re,hs1.re ho1⟩,rfl⟩
def zdX:Cmd :=
 (qS [qb 6 false]
 (qS [qm 11 1,qm 7 11]
 (qT (.block 0 (.loop (.block 1 (qS [qm 12 7,qq 13 (.bin .mul false [] (.c (.int .i64 2)) (.t 12)),qv 14 .add [] 13 1,qm 8 14]
 (qT (qS [qm 15 8,qm 16 2,qu 17 .geq [] 15 16,qm 18 17,qg 19 18 false (.mov (.t 8)),qg 20 18 false (.bin .lss false [] (.t 19) (.c (.int .i64 0))),qq 21 (.pick (.t 18) (.c (.bool true)) (.t 20))]
 (.cond (.t 21) (.exit 0) .skip))
 (qS [qm 22 8,qm 9 22]
 (qT (qS [qm 23 8,qv 24 .add [] 23 1,qm 10 24]
 (qS [qm 25 10,qm 26 2,qu 27 .lss [] 25 26,qm 28 27,qg 29 28 true (.mov (.t 0)),qg 30 28 true (.mov (.t 10)),qg 31 28 true (.mov (.t 8)),qg 32 28 true (.callM .d "Less" (.t 29) [.t 30,.t 31]),qq 33 (.pick (.t 28) (.t 32) (.c (.bool false)))]
 (.cond (.t 33) (.ops [qm 34 10,qm 9 34]) .skip)))
 (qT (qS [qm 35 0,qm 36 9,qm 37 7,qq 38 (.callM .d "Less" (.t 35) [.t 36,.t 37]),qq 39 (.not (.t 38))]
 (.cond (.t 39) (.exit 0) .skip))
 (qS [qm 40 0,qm 41 7,qm 42 9,qq 43 (.callM .d "Swap" (.t 40) [.t 41,.t 42])]
 (.ops [qm 44 9,qm 7 44]))))))))))
 (.seq (.ops [qm 45 7,qm 46 1,qu 47 .gtr [] 45 46,qm 6 47]) .ret))))
def zdY:List RVar:=[.tmp 6]
def zdZ:Nat:=48
theorem zd0:zj PG 151 zdZ zdY zdX=true:=by kernel_rfl
theorem zro {G:Type}{H:HT G}{g:G}{ns:List Nat}{σ:za}{q:HS} (ho:HOk ns σ q)(i n:Nat)(hi:i < q.es.length)(hn:n≤q.es.length) :
  Cc PG H 151 [.ifv tO (.raw q.bq 0),.int .i64 i,.int .i64 n] ns σ g fun v σ' g'=>(∃ b,v=.bool b)∧(∃ q',HOk ns σ' q'∧Same σ q σ' q')∧g' = g:=by
 refine CT.step _ zf zd0 ho.out fun hM=>?_
 repeat (first|refine i_s rfl ?_|refine sw ?_)
 refine x5 (fun u:za × HS × Nat=>[(0,.ifv tO (.raw u.2.1.bq 0)),(1,.int .i64 i),(2,.int .i64 n),(7,.int .i64 u.2.2)]) (fun u=>lsn ns u.1) (fun u=>HOk ns u.1 u.2.1∧Same σ q u.1 u.2.1∧u.2.2 < u.2.1.es.length∧n≤u.2.1.es.length) (fun u=>q.es.length - u.2.2) (σ,q,i) ⟨ho,Same.refl _ _,hi,hn⟩
  (x6 ⟨rfl,rfl,rfl,rfl,trivial⟩ (fun _ _=>rfl) rfl ho.cl (fun n hn=>hn)) fun u hu=>?_
 obtain ⟨σ1,q1,k⟩:=u
 obtain ⟨ho1,hs1,hk,hn1⟩:=hu
 dsimp only at ho1 hs1 hk hn1
 have hsz:=ho1.hsz
 have hlen:=hs1.len
 show WC _ _ _ _ _ _ _ (zy (lsn ns σ1)) _
 rw [vc,yY ho1.out]
 have e1:(2:Int) * (k:Int) + 1=(2 * k + 1:Nat):=by omega
 have e2:((2 * k + 1:Nat):Int) + 1=(2 * k + 2:Nat):=by omega
 repeat (first|refine i_s rfl ?_|refine sw ?_)
 refine zxz rfl rfl (by simp only [InR];omega) ?_
 refine zvb rfl rfl (by simp only [InR];omega) ?_
 rw [e1]
 have fin:∀ (b:Bool),∃ q',HOk ns (restr ns σ1) q'∧Same σ q (restr ns σ1) q':=fun _=>⟨_,ho1.re,hs1.re ho1⟩
 repeat (first|refine i_s rfl ?_|refine sw ?_)
 refine i_g rfl (fun hlt=>?_) (fun hge=>?_)
 rotate_left
 · repeat' (first|refine i_s rfl ?_|refine sw ?_|refine yw rfl ?_|refine c_t rfl ?_)
   exact zb ⟨rfl,_,rfl,rfl,ho1.cl,⟨_,rfl⟩,fin true,rfl⟩
 have hlt:2 * k + 1 < n:=by
  have:¬ (((2 * k + 1:Nat):Int) ≥ (n:Int)):=by simpa using hlt
  omega
 have hnn:decide (((2 * k + 1:Nat):Int) < 0)=false:=decide_eq_false (by omega)
 repeat (first|refine i_s rfl ?_|refine sw ?_|refine yi rfl ?_|refine c_f rfl ?_|refine ja rfl rfl ?_)
 rw [hnn]
 skip
 rw [e2]
 skip
 refine i_g rfl (fun h2=>?_) (fun h2=>?_)
 · have h2:2 * k + 2 < n:=by
    have:((2 * k + 2:Nat):Int) < (n:Int):=by simpa using h2
    omega
   repeat (first|refine i_s rfl ?_|refine yi rfl ?_)
   refine jJ ns rfl zlF ⟨_,_,_,_,rfl,ho1.hQ,rfl⟩ rfl rfl ho1.cl ho1.out (zht ho1 (2 * k + 2) (2 * k + 1) (by omega) (by omega)) (fun v σ' g' h=>by rw [h.2.1];exact ho1.out) ?_
   rintro v σ' g' ⟨⟨b,rfl⟩,rfl,rfl⟩
   cases b
   all_goals
    repeat (first|refine i_s rfl ?_|refine sw ?_|refine c_t rfl ?_|refine c_f rfl ?_)
    refine jJ ns rfl zlF ⟨_,_,_,_,rfl,ho1.hQ,rfl⟩ rfl rfl ho1.cl ho1.out (zht ho1 _ k (by omega) (by omega)) (fun v σ' g' h=>by rw [h.2.1];exact ho1.out) ?_
    rintro v σ' g' ⟨⟨b,rfl⟩,rfl,rfl⟩
    cases b with
    | false =>
     repeat' (first|refine i_s rfl ?_|refine sw ?_|refine c_t rfl ?_)
     exact zb ⟨rfl,_,rfl,rfl,ho1.cl,⟨_,rfl⟩,fin true,rfl⟩
    | true =>
     repeat (first|refine i_s rfl ?_|refine sw ?_|refine c_f rfl ?_)
     refine jJ ns rfl zlG ⟨_,_,_,_,rfl,ho1.hQ,rfl⟩ rfl rfl ho1.cl ho1.out (zhu ho1 k _ hk (by omega)) (fun v σ' g' h=>by obtain ⟨⟨_,h,_⟩,_⟩:=h;exact h.out) ?_
     rintro v σ2 g' ⟨⟨q2,ho2,hs2⟩,rfl⟩
     have hl2:=hs2.len
     repeat (first|refine i_s rfl ?_|refine sw ?_)
     first
      | exact xL (σ2,q2,2 * k + 1) ⟨ho2,hs1.trans hs2,by show 2 * k + 1 < q2.es.length;omega,by show n≤q2.es.length;omega⟩ (by show q.es.length - (2 * k + 1) < q.es.length - k;omega) (x6 ⟨by rw [hs2.bq];rfl,rfl,rfl,rfl,trivial⟩ (fun _ _=>rfl) rfl ho2.cl (fun n hn=>hn))
      | exact xL (σ2,q2,2 * k + 2) ⟨ho2,hs1.trans hs2,by show 2 * k + 2 < q2.es.length;omega,by show n≤q2.es.length;omega⟩ (by show q.es.length - (2 * k + 2) < q.es.length - k;omega) (x6 ⟨by rw [hs2.bq];rfl,rfl,rfl,rfl,trivial⟩ (fun _ _=>rfl) rfl ho2.cl (fun n hn=>hn))
 · repeat (first|refine i_s rfl ?_|refine sw ?_|refine yw rfl ?_|refine c_f rfl ?_)
   refine jJ ns rfl zlF ⟨_,_,_,_,rfl,ho1.hQ,rfl⟩ rfl rfl ho1.cl ho1.out (zht ho1 (2 * k + 1) k (by omega) (by omega)) (fun v σ' g' h=>by rw [h.2.1];exact ho1.out) ?_
   rintro v σ' g' ⟨⟨b,rfl⟩,rfl,rfl⟩
   cases b with
   | false =>
    repeat' (first|refine i_s rfl ?_|refine sw ?_|refine c_t rfl ?_)
    exact zb ⟨rfl,_,rfl,rfl,ho1.cl,⟨_,rfl⟩,fin true,rfl⟩
   | true =>
    repeat (first|refine i_s rfl ?_|refine sw ?_|refine c_f rfl ?_)
    refine jJ ns rfl zlG ⟨_,_,_,_,rfl,ho1.hQ,rfl⟩ rfl rfl ho1.cl ho1.out (zhu ho1 k (2 * k + 1) hk (by omega)) (fun v σ' g' h=>by obtain ⟨⟨_,h,_⟩,_⟩:=h;exact h.out) ?_
    rintro v σ2 g' ⟨⟨q2,ho2,hs2⟩,rfl⟩
    have hl2:=hs2.len
    repeat (first|refine i_s rfl ?_|refine sw ?_)
    exact xL (σ2,q2,2 * k + 1) ⟨ho2,hs1.trans hs2,by show 2 * k + 1 < q2.es.length;omega,by show n≤q2.es.length;omega⟩ (by show q.es.length - (2 * k + 1) < q.es.length - k;omega) (x6 ⟨by rw [hs2.bq];rfl,rfl,rfl,rfl,trivial⟩ (fun _ _=>rfl) rfl ho2.cl (fun n hn=>hn))
def ze4:Cmd :=
 (qS [qm 4 0,qm 5 1,qm 6 0,qq 7 (.callM .f "Len" (.t 6) []),qq 8 (.call .d (.c (.fn 151 [])) [.t 4,.t 5,.t 7]),qq 9 (.not (.t 8))]
 (.cond (.t 9) (.ops [qm 10 0,qm 11 1,qq 12 (.call .d (.c (.fn 152 [])) [.t 10,.t 11])]) .skip))
def ze5:List RVar:=[]
def ze6:Nat:=13
theorem ze7:zj PG 114 ze6 ze5 ze4=true:=by kernel_rfl
theorem zxb {G:Type}{H:HT G}{g:G}{ns:List Nat}{σ:za}{q:HS} (ho:HOk ns σ q)(i:Nat)(hi:i < q.es.length) :
  Cc PG H 114 [.ifv tO (.raw q.bq 0),.int .i64 i] ns σ g fun v σ' g'=>(∃ q',HOk ns σ' q'∧Same σ q σ' q')∧g' = g:=by
 refine CT.step _ zf ze7 ho.out fun hM=>?_
 repeat (first|refine i_s rfl ?_|refine sw ?_)
 refine zlV rfl zsA ⟨_,_,_,_,rfl,ho.hQ,rfl⟩ rfl rfl (zdw _ _ _) rfl ?_
 skip
 refine ze3 ns rfl rfl ho.cl ho.out (zro ho i q.es.length hi (Nat.le_refl _)) (fun v σ' g' h=>by obtain ⟨_,⟨_,h,_⟩,_⟩:=h;exact h.out) ?_
 rintro v σ2 g' ⟨⟨b,rfl⟩,⟨q2,ho2,hs2⟩,rfl⟩
 have hl2:=hs2.len
 cases b with
 | true =>
  repeat' (first|refine i_s rfl ?_|refine sw ?_|refine c_f rfl ?_)
  exact ym ⟨rfl,_,rfl,rfl,ho2.cl,⟨_,ho2.re,hs2.re ho2⟩,rfl⟩
 | false =>
  rw [← hs2.bq]
  repeat (first|refine i_s rfl ?_|refine sw ?_|refine c_t rfl ?_)
  refine ze3 ns rfl rfl ho2.cl ho2.out (zvi ho2 i (by omega)) (fun v σ' g' h=>by obtain ⟨⟨_,h,_⟩,_⟩:=h;exact h.out) ?_
  rintro v σ3 g' ⟨⟨q3,ho3,hs3⟩,rfl⟩
  have hs:=hs2.trans hs3
  repeat refine sw ?_
  exact ym ⟨rfl,_,rfl,rfl,ho3.cl,⟨_,ho3.re,hs.re ho3⟩,rfl⟩
structure Kept (ns:List Nat)(σ:za)(q:HS)(σ':za)(q':HS):Prop where
 ok:HOk ns σ' q'
 nQ:q'.nQ=q.nQ
 bq:q'.bq=q.bq
 nF:q'.nF=q.nF
 time:q'.time=q.time
 fm:σ' q.nF=σ q.nF
def zd1:Cmd :=
 (qS [qm 4 0,qm 5 1,qq 6 (.callM .d "Push" (.t 4) [.t 5])]
 (.ops [qm 7 0,qm 8 0,qq 9 (.callM .f "Len" (.t 8) []),qv 10 .sub [] 9 1,qq 11 (.call .d (.c (.fn 152 [])) [.t 7,.t 10])]))
def zd2:List RVar:=[]
def zd3:Nat:=12
theorem zd4:zj PG 115 zd3 zd2 zd1=true:=by kernel_rfl
theorem zqQ {G:Type}{H:HT G}{g:G}{ns:List Nat}{σ:za}{q:HS} (ha:HAny ns σ q)(hlen:q.es.length < 1000000) {e:QE} (he:σ e.nm=.box (.tag e.b e.cells))(he1:e.nm∈ns)(he2:e.nm ∉ q.names) {f:Nat} (hf1:f∈ns)(hfF:f≠q.nF)(hf4:σ f=.zc)(hf5:f < 1000000000000) :
  Cc PG H 115 [.ifv tO (.raw q.bq 0),.ifv tE (.raw e.b 0)] ns σ g fun v σ' g'=>(∃ q',Kept ns σ q σ' q'∧(q'.es.map QE.core).Perm (e.core :: q.es.map QE.core))∧g' = g:=by
 have hb:=ha.base
 refine CT.step _ zf zd4 hb.out fun hM=>?_
 repeat (first|refine i_s rfl ?_|refine sw ?_)
 refine jJ ns rfl zw8 rfl rfl rfl hb.cl hb.out (zu1 ha hlen he he1 he2 hf1 hfF hf4 hf5) (fun v σ' g' h=>by obtain ⟨⟨_,h,_⟩,_⟩:=h;exact h.out) ?_
 rintro v σ2 g' ⟨⟨q2,ho2,j1,j2,j3,j4,j5,j6⟩,rfl⟩
 have hl2:q2.es.length=q.es.length + 1:=by rw [j5];simp
 have hsz2:=ho2.hsz
 have e1:((q2.es.length:Nat):Int) - 1=(q.es.length:Nat):=by omega
 rw [← j2]
 repeat (first|refine i_s rfl ?_|refine sw ?_)
 refine zlV rfl zsA ⟨_,_,_,_,rfl,ho2.hQ,rfl⟩ rfl rfl (zdw _ _ _) rfl ?_
 repeat refine jb rfl rfl ?_
 rw [e1]
 skip
 refine ze3 ns rfl rfl ho2.cl ho2.out (zvi ho2 q.es.length (by omega)) (fun v σ' g' h=>by obtain ⟨⟨_,h,_⟩,_⟩:=h;exact h.out) ?_
 rintro v σ3 g' ⟨⟨q3,ho3,hs3⟩,rfl⟩
 repeat refine sw ?_
 refine ym ⟨rfl,_,rfl,rfl,ho3.cl,⟨q3,⟨ho3.re,hs3.nQ.trans j1,hs3.bq.trans j2,hs3.nF.trans j3,hs3.time.trans j4,(zB (hb.sub _ (by simp))).trans ?_⟩,?_⟩,rfl⟩
 · rw [← j3,hs3.fm,j3,j6]
 · refine hs3.core.trans ?_
   rw [j5,List.map_append]
   exact List.perm_append_comm
def ze8:Cmd :=
 (qS [qq 2 (.mov (.c (.any)))]
 (qS [qm 4 0,qq 5 (.callM .f "Len" (.t 4) []),qv 6 .sub [] 5 1,qm 3 6]
 (qS [qm 7 0,qm 8 3,qq 9 (.callM .d "Swap" (.t 7) [.c (.int .i64 0),.t 8])]
 (qS [qm 10 0,qm 11 3,qq 12 (.call .d (.c (.fn 151 [])) [.t 10,.c (.int .i64 0),.t 11])]
 (.seq (.ops [qm 13 0,qq 14 (.callM .d "Pop" (.t 13) []),qm 2 14]) .ret)))))
def ze9:List RVar:=[.tmp 2]
def zfa:Nat:=15
theorem zfb:zj PG 117 zfa ze9 ze8=true:=by kernel_rfl
theorem zsB {G:Type}{H:HT G}{g:G}{ns:List Nat}{σ:za}{q:HS} (ho:HOk ns σ q)(hne:q.es≠[]) :
  Cc PG H 117 [.ifv tO (.raw q.bq 0)] ns σ g fun v σ' g'=>(∃ (q':HS)(e:QE),Kept ns σ q σ' q'∧(q.es.map QE.core).Perm (e.core :: q'.es.map QE.core)∧v=.ifv tE (.raw e.b 0)∧σ' e.nm=.box (.tag e.b e.cells)∧e.nm≠q.nF)∧g' = g:=by
 have hpos:0 < q.es.length:=List.length_pos_iff.2 hne
 have e1:((q.es.length:Nat):Int) - 1=(q.es.length - 1:Nat):=by omega
 have hsz:=ho.hsz
 refine CT.step _ zf zfb ho.out fun hM=>?_
 repeat (first|refine i_s rfl ?_|refine sw ?_)
 refine zlV rfl zsA ⟨_,_,_,_,rfl,ho.hQ,rfl⟩ rfl rfl (zdw _ _ _) rfl ?_
 repeat (first|refine i_s rfl ?_|refine sw ?_|refine jb rfl rfl ?_)
 rw [e1]
 skip
 refine jJ ns rfl zlG ⟨_,_,_,_,rfl,ho.hQ,rfl⟩ rfl rfl ho.cl ho.out (zhu ho 0 (q.es.length - 1) hpos (by omega)) (fun v σ' g' h=>by obtain ⟨⟨_,h,_⟩,_⟩:=h;exact h.out) ?_
 rintro v σ2 g' ⟨⟨q2,ho2,hs2⟩,rfl⟩
 have hl2:=hs2.len
 rw [← hs2.bq]
 repeat (first|refine i_s rfl ?_|refine sw ?_)
 refine ze3 ns rfl rfl ho2.cl ho2.out (zro ho2 0 (q.es.length - 1) (by omega) (by omega)) (fun v σ' g' h=>by obtain ⟨_,⟨_,h,_⟩,_⟩:=h;exact h.out) ?_
 rintro v σ3 g' ⟨⟨b,rfl⟩,⟨q3,ho3,hs3⟩,rfl⟩
 have hl3:=hs3.len
 rw [← hs3.bq]
 obtain ⟨es,e,hes⟩:∃ es e,q3.es=es ++ [e]:=by
  rcases List.eq_nil_or_concat q3.es with h|⟨l,x,h⟩
  · rw [h] at hl3;simp at hl3;omega
  · exact ⟨l,x,by rw [h,List.concat_eq_append]⟩
 repeat (first|refine i_s rfl ?_|refine sw ?_)
 refine jJ ns rfl zxM rfl rfl rfl ho3.cl ho3.out (zv6 ho3 hes) (fun v σ' g' h=>by obtain ⟨⟨_,h,_⟩,_⟩:=h;exact h.out) ?_
 rintro v σ4 g' ⟨⟨rfl,ho4,j1,j2⟩,rfl⟩
 repeat (first|refine i_s rfl ?_|refine sw ?_)
 have he:e∈q3.es:=by rw [hes];simp
 refine zb ⟨rfl,_,rfl,rfl,ho4.cl,⟨_,e,⟨ho4.re,hs3.nQ.trans hs2.nQ,hs3.bq.trans hs2.bq,hs3.nF.trans hs2.nF,hs3.time.trans hs2.time,(zB ho.inF).trans ?_⟩,?_,rfl,(zB (ho3.inE he)).trans j2,?_⟩,rfl⟩
 · rw [← hs2.nF,← hs3.nF,j1,hs3.nF,hs3.fm,hs2.nF,hs2.fm]
 · have:=(hs3.core.trans hs2.core).symm
   rw [hes,List.map_append] at this
   exact this.trans List.perm_append_comm
 · rw [← hs2.nF,← hs3.nF]
   exact fun k=>ho3.EF he k.symm
end Hm
end
section
namespace Hm
open Go
abbrev QC:=Nat × Nat × W32 × Int
def QC.item (c:QC):W32:=c.2.2.1
def zdx (cs:List QC):List (W32 × Int):=cs.map fun c=>(c.2.2.1,c.2.2.2)
structure FMc (F:Int→Option V)(cs:List QC):Prop where
 here:∀ c∈cs,F (c.2.2.1.toNat:Int)=some (.raw c.2.1 0)
 gone:∀ x:W32,(∀ c∈cs,c.2.2.1≠x)→F (x.toNat:Int)=none
 nd:(cs.map QC.item).Nodup
theorem FMc.perm {F:Int→Option V}{cs cs':List QC} (h:FMc F cs)(p:cs.Perm cs'):FMc F cs' :=
 ⟨fun c hc=>h.here c (p.mem_iff.2 hc),fun x hx=>h.gone x fun c hc=>hx c (p.mem_iff.1 hc),(p.map QC.item).nodup_iff.1 h.nd⟩
theorem FMc.nil:FMc (fun _=>none) []:=⟨fun c hc=>(by cases hc),fun _ _=>rfl,List.nodup_nil⟩
theorem jt {x y:W32} (h:(x.toNat:Int)=y.toNat):x=y:=BitVec.eq_of_toNat_eq (Int.ofNat_inj.1 h)
theorem FMc.put {F:Int→Option V}{cs:List QC} (h:FMc F cs)(nm b:Nat)(x:W32)(k:Int)(hx:∀ c∈cs,c.2.2.1≠x):FMc (fun m=>if m=x.toNat then some (.raw b 0) else F m) ((nm,b,x,k) :: cs):=by
 refine ⟨fun c hc=>?_,fun y hy=>?_,List.nodup_cons.2 ⟨fun hm=>?_,h.nd⟩⟩
 · rcases List.mem_cons.1 hc with rfl|hc
   · exact if_pos rfl
   · exact (if_neg fun e=>hx c hc (jt e)).trans (h.here c hc)
 · exact (if_neg fun e=>hy (nm,b,x,k) (by simp) (jt e).symm).trans (h.gone y fun c hc=>hy c (by simp [hc]))
 · obtain ⟨c,h1,h2⟩:=List.mem_map.1 hm
   exact hx c h1 h2
theorem FMc.del {F:Int→Option V}{cs:List QC}{c:QC} (h:FMc F (c :: cs)):FMc (fun m=>if m=c.2.2.1.toNat then none else F m) cs:=by
 have hn:=List.nodup_cons.1 h.nd
 have hne:∀ d∈cs,d.2.2.1≠c.2.2.1:=fun d hd e=>hn.1 (List.mem_map.2 ⟨d,hd,e⟩)
 refine ⟨fun d hd=>(if_neg fun e=>hne d hd (jt e)).trans (h.here d (by simp [hd])),fun x hx=>?_,hn.2⟩
 by_cases e:x=c.2.2.1
 · exact if_pos (by rw [e])
 · exact (if_neg fun e2=>e (jt e2)).trans (h.gone x fun d hd=>by
    rcases List.mem_cons.1 hd with rfl|hd
    · exact fun e2=>e e2.symm
    · exact hx d hd)
theorem FMc.rekey {F:Int→Option V}{cs:List QC}{nm b:Nat}{x:W32}{k k':Int} (h:FMc F ((nm,b,x,k) :: cs)):FMc F ((nm,b,x,k') :: cs) :=
 ⟨fun c hc=>by
  rcases List.mem_cons.1 hc with rfl|hc
  · exact h.here (nm,b,x,k) (by simp)
  · exact h.here c (by simp [hc]),fun y hy=>h.gone y fun c hc=>by
  rcases List.mem_cons.1 hc with rfl|hc
  · exact hy (nm,b,x,k') (by simp)
  · exact hy c (by simp [hc]),h.nd⟩
theorem ztS {cs:List QC}{x:W32} (h:∀ c∈cs,c.2.2.1≠x):(zdx cs).filter (fun p=>p.1 != x)=zdx cs:=by
 rw [List.filter_eq_self]
 intro p hp
 obtain ⟨c,h1,rfl⟩:=List.mem_map.1 hp
 simpa using h c h1
theorem ztT {cs:List QC}{c:QC} (h:((c :: cs).map QC.item).Nodup):(zdx (c :: cs)).filter (fun p=>p.1 != c.2.2.1)=zdx cs:=by
 have hn:=List.nodup_cons.1 h
 unfold zdx
 rw [List.map_cons,List.filter_cons]
 rw [if_neg (by simp)]
 exact ztS (cs:=cs) fun d hd e=>hn.1 (List.mem_map.2 ⟨d,hd,e⟩)
section
variable {ns:List Nat}{σ σ':za}{q:HS}
theorem HOk.frame (ho:HOk ns σ q)(hs:∀ n,n=q.nQ∨n=q.nH∨n∈q.es.map QE.nm→σ' n=σ n)(hc:Cl ns σ')(hout:∀ nm,σ' nm≠.zc→nm∈ns):HOk ns σ' q :=
 ⟨(hs _ (.inl rfl)).trans ho.hQ,(hs _ (.inr (.inl rfl))).trans ho.hH,ho.hbl,ho.hle,ho.hsz,ho.ht,fun e he=>(hs _ (.inr (.inr (List.mem_map.2 ⟨e,he,rfl⟩)))).trans (ho.hE e he),ho.hat,ho.nd,ho.sub,ho.pur,hc,hout⟩
theorem HZ.frame (hz:HZ ns σ q)(hs:σ' q.nQ=σ q.nQ)(hs2:σ' q.nH=σ q.nH)(hc:Cl ns σ')(hout:∀ nm,σ' nm≠.zc→nm∈ns):HZ ns σ' q :=
 ⟨hs.trans hz.hQ,hz.es,hz.HH,hs2.trans hz.Hu,hz.QF,hz.inQ,hz.inF,hc,hout⟩
theorem HAny.frame (ha:HAny ns σ q)(hs:∀ n,n=q.nQ∨n=q.nH∨n∈q.es.map QE.nm→σ' n=σ n)(hc:Cl ns σ')(hout:∀ nm,σ' nm≠.zc→nm∈ns):HAny ns σ' q :=
 ha.imp (fun h=>h.frame hs hc hout) (fun h=>h.frame (hs _ (.inl rfl)) (hs _ (.inr (.inl rfl))) hc hout)
theorem HAny.box (ha:HAny ns σ q):∃ hv:V,σ q.nQ=.box (.tag q.bq [hv,.mp q.nF,.int .i64 q.time])∧zP hv=true∧zR hv=true∧fz hv=some hv:=by
 rcases ha with h|h
 · exact ⟨_,h.hQ,rfl,rfl,rfl⟩
 · exact ⟨_,h.hQ,rfl,rfl,rfl⟩
theorem HAny.QF (ha:HAny ns σ q):q.nQ≠q.nF:=ha.elim HOk.QF HZ.QF
theorem HAny.inQ (ha:HAny ns σ q):q.nQ∈ns:=ha.elim HOk.inQ HZ.inQ
theorem HAny.inF (ha:HAny ns σ q):q.nF∈ns:=ha.elim HOk.inF HZ.inF
theorem HAny.clock (ha:HAny ns σ q)(t:Int) {hv:V} (hq:σ q.nQ=.box (.tag q.bq [hv,.mp q.nF,.int .i64 q.time])):HAny ns (ups σ q.nQ (.box (.tag q.bq [hv,.mp q.nF,.int .i64 t]))) { q with time:=t }:=by
 rcases ha with h|h
 · rw [h.hQ] at hq
   injection hq with hq
   injection hq with _ hq
   injection hq with hq
   subst hq
   refine .inl ⟨zn _ _ _,(ze _ _ fun e=>h.QH e.symm).trans h.hH,h.hbl,h.hle,h.hsz,h.ht,fun e he=>(ze _ _ fun k=>h.EQ he k.symm).trans (h.hE e he),h.hat,h.nd,h.sub,h.pur,h.cl.ups fun row hr=>?_,qz h.out h.inQ⟩
   cases hr
   exact zdv h.inF
 · rw [h.hQ] at hq
   injection hq with hq
   injection hq with _ hq
   injection hq with hq
   subst hq
   refine .inr ⟨zn _ _ _,h.es,h.HH,(ze _ _ h.HH.1).trans h.Hu,h.QF,h.inQ,h.inF,h.cl.ups fun row hr=>?_,qz h.out h.inQ⟩
   cases hr
   show (true && (zt ns (.mp q.nF) && (true && true)))=true
   rw [un h.inF]
   rfl
theorem HOk.rekey (ho:HOk ns σ q) {i:Nat}{e:QE} (hi:q.es[i]? = some e)(k t:Int)(hσ:∀ n,σ' n=if n=e.nm then .box (.tag e.b [.int .u32 e.item.toNat,.int .i64 k,.int .i64 t,.int .i64 e.at_]) else σ n) :
  HOk ns σ' { q with es:=q.es.set i ⟨e.nm,e.b,e.item,k,t,e.at_⟩ }∧σ' q.nF=σ q.nF∧∃ r:List QC,(q.es.map QE.core).Perm ((e.nm,e.b,e.item,e.key) :: r)∧((q.es.set i ⟨e.nm,e.b,e.item,k,t,e.at_⟩).map QE.core).Perm ((e.nm,e.b,e.item,k) :: r):=by
 obtain ⟨e',he'⟩:∃ e',e' = (⟨e.nm,e.b,e.item,k,t,e.at_⟩:QE):=⟨_,rfl⟩
 rw [← he']
 have hnm:e'.nm=e.nm:=by rw [he']
 have me:=zm hi
 have li:=yn hi
 have hg:∀ j:Nat,(q.es.set i e')[j]? = if j=i then some e' else q.es[j]?:=fun j=>by
  rw [List.getElem?_set]
  by_cases c:j=i
  · subst c;simp [li]
  · rw [if_neg (fun e=>c e.symm),if_neg c]
 have hmap:(q.es.set i e').map QE.nm=q.es.map QE.nm:=by
  rw [List.map_set,hnm]
  refine List.ext_getElem? fun j=>?_
  rw [List.getElem?_set]
  by_cases c:i=j
  · subst c
    rw [if_pos rfl,if_pos (by simpa using li),List.getElem?_map,hi]
    rfl
  · rw [if_neg c]
 have hnames:HS.names { q with es:=q.es.set i e' } = q.names:=by
  unfold HS.names
  show q.nQ :: q.nH :: q.nF :: (q.es.set i e').map QE.nm=_
  rw [hmap]
 have hsplit:q.es=q.es.take i ++ e :: q.es.drop (i + 1):=by
  have h1:q.es.drop i=e :: q.es.drop (i + 1):=by
   rw [List.drop_eq_getElem_cons li]
   congr 1
   exact (List.getElem?_eq_some_iff.1 hi).2
  rw [← h1]
  exact (List.take_append_drop i q.es).symm
 refine ⟨⟨?_,?_,ho.hbl,?_,?_,fun j x hx=>?_,fun x hx=>?_,fun j x hx=>?_,by rw [hnames];exact ho.nd,fun n hn=>ho.sub n (hnames ▸ hn),ho.pur,?_,fun n hn=>?_⟩,?_,?_⟩
 · show σ' q.nQ=.box (.tag q.bq [.rsl q.bh (q.es.set i e').length q.cap,.mp q.nF,.int .i64 q.time])
   rw [List.length_set,hσ,if_neg (ho.EQ me)]
   exact ho.hQ
 · show σ' q.nH=_
   rw [hσ,if_neg (ho.EH me)]
   exact ho.hH
 · show (q.es.set i e').length≤_
   rw [List.length_set];exact ho.hle
 · show (q.es.set i e').length≤_
   rw [List.length_set];exact ho.hsz
 · have hx:(q.es.set i e')[j]? = some x:=hx
   rw [hg] at hx
   by_cases c:j=i
   · rw [if_pos c] at hx
     cases hx
     rw [c]
     have:=ho.ht i e hi
     rw [this,he']
     rfl
   · rw [if_neg c] at hx
     exact ho.ht j x hx
 · have hx:x∈q.es.set i e':=hx
   obtain ⟨j,hj⟩:=List.getElem?_of_mem hx
   rw [hg] at hj
   by_cases c:j=i
   · rw [if_pos c] at hj
     cases hj
     rw [hσ,hnm,if_pos rfl,he']
     rfl
   · rw [if_neg c] at hj
     rw [hσ,if_neg (ho.neE hj hi c)]
     exact ho.hE x (zm hj)
 · have hx:(q.es.set i e')[j]? = some x:=hx
   rw [hg] at hx
   by_cases c:j=i
   · rw [if_pos c] at hx
     cases hx
     rw [c,he']
     exact ho.hat i e hi
   · rw [if_neg c] at hx
     exact ho.hat j x hx
 · refine (z6 _ _ _).2 fun n hn row hr=>?_
   rw [hσ] at hr
   split at hr
   · cases hr;rfl
   · exact ho.cl.at hn hr
 · rw [hσ] at hn
   split at hn
   · rename_i c;rw [c];exact ho.inE me
   · exact ho.out n hn
 · rw [hσ,if_neg (ho.EF me)]
 · refine ⟨(q.es.take i ++ q.es.drop (i + 1)).map QE.core,?_,?_⟩
   · have h1:(q.es.take i ++ e :: q.es.drop (i + 1)).Perm (e :: (q.es.take i ++ q.es.drop (i + 1))):=List.perm_middle
     rw [← hsplit] at h1
     exact h1.map QE.core
   · have h1:(q.es.take i ++ e' :: q.es.drop (i + 1)).Perm (e' :: (q.es.take i ++ q.es.drop (i + 1))):=List.perm_middle
     have h2:q.es.set i e' = q.es.take i ++ e' :: q.es.drop (i + 1):=List.set_eq_take_append_cons_drop.trans (if_pos li)
     rw [h2]
     have h3:=h1.map QE.core
     rw [List.map_cons] at h3
     rw [he'] at h3 ⊢
     exact h3
end
structure QOk (ns:List Nat)(σ:za)(q:HS):Prop where
 any:HAny ns σ q
 fm:∃ F,MP (σ q.nF) F∧FMc F (q.es.map QE.core)
def HS.kv (q:HS):List (W32 × Int):=zdx (q.es.map QE.core)
end Hm
end
section
namespace Hm
open Go
set_option maxRecDepth 100000
set_option maxHeartbeats 4000000
def zd5:Cmd :=
 (qS [qq 0 (.mov (.c (.nilptr)))]
 (.seq (.ops [qq 1 (.mkMap 4288064 .u32),qq 2 (.build [.sl .nil [],.nilmp,.int .i64 0] [(1 ,1 ,.t 1)]),qx 3 4288195 3 2,qm 0 3]) .ret))
def zd6:List RVar:=[.tmp 0]
def zd7:Nat:=4
theorem zd8:zj PG 67 zd7 zd6 zd5=true:=by kernel_rfl
theorem zxc {G:Type}{H:HT G}{g:G}{ns:List Nat}{σ:za} (h1:4288064∈ns)(h2:4288195∈ns)(hu:∀ nm,σ nm=.zc) :
  Cc PG H 67 [] ns σ g fun v σ' g'=>v=.bptr 4288195 0∧σ' = ups (ups σ 4288064 (.mp .u32 [] [])) 4288195 (.box (.agg [.sl .nil [],.mp 4288064,.int .i64 0]))∧g' = g:=by
 have hout:∀ nm,σ nm≠.zc→nm∈ns:=fun nm h=>absurd (hu nm) h
 have hcl:Cl ns σ:=(z6 _ _ _).2 fun n hn row hr=>by rw [hu n] at hr;cases hr
 have hcl2:Cl ns (ups (ups σ 4288064 (.mp .u32 [] [])) 4288195 (.box (.agg [.sl .nil [],.mp 4288064,.int .i64 0]))):=by
  refine (hcl.ups fun row hr=>by cases hr).ups fun row hr=>?_
  cases hr
  show (true && (zt ns (.mp 4288064) && (true && true)))=true
  rw [un h1]
  rfl
 refine CT.step _ zf zd8 hout fun hM=>?_
 repeat (first|refine i_s rfl ?_|refine sw ?_)
 refine zoG (hu _) ?_
 repeat refine i_s rfl ?_
 refine zr ((ze _ _ (by decide)).trans (hu _)) rfl ?_
 repeat (first|refine i_s rfl ?_|refine sw ?_)
 exact zb ⟨rfl,_,rfl,(yx _ _).2 h2,hcl2,rfl,yY (qz (qz hout h1) h2),rfl⟩
def zaz:Cmd :=
 (qS [qc 2 0]
 (.seq (.ops [qm 3 0,qq 4 (.nilck (.t 3)),qf 5 0 4,ql 6 1 5,qn 7 6,qm 2 7]) .ret))
def zaA:List RVar:=[.tmp 2]
def zaB:Nat:=8
theorem zaC:zj PG 71 zaB zaA zaz=true:=by kernel_rfl
theorem zv7 {G:Type}{H:HT G}{g:G}{ns:List Nat}{σ:za}{q:HS} (ha:HAny ns σ q) :
  Cc PG H 71 [.raw q.bq 0] ns σ g fun v σ' g'=>v=.int .i64 q.es.length∧σ' = σ∧g' = g:=by
 refine CT.step _ zf zaC ha.base.out fun hM=>?_
 rcases ha with ho|hz
 · repeat' (first|refine i_s rfl ?_|refine sw ?_|refine y1 q.nQ rfl ho.hQ rfl ?_)
   exact zb ⟨rfl,_,rfl,rfl,ho.cl,rfl,yY ho.out,rfl⟩
 · have h0:q.es.length=0:=by rw [hz.es];rfl
   repeat' (first|refine i_s rfl ?_|refine sw ?_|refine y1 q.nQ rfl hz.hQ rfl ?_)
   exact zb ⟨rfl,_,rfl,rfl,hz.cl,by rw [h0];rfl,yY hz.out,rfl⟩
structure QNext (ns:List Nat)(q:HS)(σ':za)(q':HS):Prop where
 ok:QOk ns σ' q'
 nQ:q'.nQ=q.nQ
 bq:q'.bq=q.bq
 nF:q'.nF=q.nF
theorem MP.is {σ:za}{n:Nat}{F:Int→Option V}{b:Blk} (h:MP (σ n) F)(hb:σ n=b):MP b F:=hb ▸ h
theorem MP.is' {σ:za}{n:Nat}{F:Int→Option V}{b:Blk} (h:MP b F)(hb:b=σ n):MP (σ n) F:=hb ▸ h
theorem zvj {σ:za}{n f:Nat}{F:Int→Option V} (h:MP (σ n) F)(hf:σ f=.zc):f≠n:=fun e=>by
 obtain ⟨ks,vs,e2,_⟩:=h
 rw [← e,hf] at e2
 cases e2
def zaD:Cmd :=
 (qS [qm 9 0,qq 10 (.nilck (.t 9)),qf 11 2 10,ql 12 1 11,qv 13 .add [] 12 1,qq 14 (.nilck (.t 9)),qf 15 2 14,qs 1 15 13]
 (qT (qS [qm 17 0,qq 18 (.nilck (.t 17)),qf 19 1 18,ql 20 1 19,qm 21 1,qq 22 (.mget true (.nilptr) (.t 20) (.t 21)),qm 16 22,qq 23 (.extract (.t 16) 0),qq 24 (.extract (.t 16) 1),qm 6 23,qm 7 24]
 (qS [qm 25 7]
 (.cond (.t 25) (qS [qm 26 6,qm 27 6,qm 28 2,qm 29 0,qq 30 (.nilck (.t 29)),qf 31 2 30,ql 32 1 31,qq 33 (.nilck (.t 26)),qf 34 1 33,qs 1 34 28,qq 35 (.nilck (.t 27)),qf 36 2 35,qs 1 36 32]
 (.seq (.ops [qm 37 0,qq 38 (.nilck (.t 37)),qf 39 0 38,qq 40 (.mkifc 227 (.t 39)),qm 41 6,qq 42 (.nilck (.t 41)),qf 43 3 42,ql 44 1 43,qq 45 (.call .d (.c (.fn 114 [])) [.t 40,.t 44])]) .ret)) .skip)))
 (qS [qm 46 1,qm 47 2,qm 48 0,qq 49 (.nilck (.t 48)),qf 50 2 49,ql 51 1 50,qq 52 (.build [.int .u32 0,.int .i64 0,.int .i64 0,.int .i64 0] [(0 ,1 ,.t 46),(1 ,1 ,.t 47),(2 ,1 ,.t 51)]),qq 53 (.boxR 225 4 (.t 52)),qm 8 53]
 (qS [qm 54 0,qq 55 (.nilck (.t 54)),qf 56 1 55,ql 57 1 56,qm 58 1,qm 59 8,.op none none (.mput (.t 57) (.t 58) (.t 59))]
 (.ops [qm 60 0,qq 61 (.nilck (.t 60)),qf 62 0 61,qq 63 (.mkifc 227 (.t 62)),qm 64 8,qq 65 (.mkifc 222 (.t 64)),qq 66 (.call .d (.c (.fn 115 [])) [.t 63,.t 65])])))))
def zaE:List RVar:=[]
def zaF:Nat:=67
theorem zaG:zj PG 69 zaF zaE zaD=true:=by kernel_rfl
theorem ztU {G:Type}{H:HT G}{g:G}{ns:List Nat}{σ:za}{q:HS} (hq:QOk ns σ q)(hlen:q.es.length < 1000000)(x:W32)(k:Int) {f1 f2:Nat} (h1:f1∈ns)(h2:f2∈ns)(u1:σ f1=.zc)(u2:σ f2=.zc)(ne:f1≠f2)(l1:f1 < 1000000000000)(l2:f2 < 1000000000000)(hnew1:f1 ∉ q.names) :
  Cc PG H 69 [.raw q.bq 0,yk x,.int .i64 k] ns σ g fun v σ' g'=>(∃ q',QNext ns q σ' q'∧q'.kv.Perm ((x,k) :: q.kv.filter fun p=>p.1 != x))∧g' = g:=by
 obtain ⟨ha,F,hF,hc⟩:=hq
 obtain ⟨hv,hb,hvp,hvl,hvf⟩:=ha.box
 have hb0:=ha.base
 have hc1:=ha.clock (IntKind.i64.wrap (q.time + 1)) hb
 have hF1:MP (ups σ q.nQ (.box (.tag q.bq [hv,.mp q.nF,.int .i64 (IntKind.i64.wrap (q.time + 1))])) q.nF) F:=hF.is (b:=_) rfl |>.is (ze _ _ fun e=>ha.QF e.symm).symm
 refine CT.step _ zf zaG hb0.out fun hM=>?_
 have hl2:fzA (xe false 1 (0 + 2) (.agg [hv,.mp q.nF,.int .i64 q.time]))=some (.int .i64 q.time):=rfl
 have hs2:fzA (wW 1 (0 + 2) (.agg [hv,.mp q.nF,.int .i64 q.time]) (.int .i64 (IntKind.i64.wrap (q.time + 1))))=some (.agg [hv,.mp q.nF,.int .i64 (IntKind.i64.wrap (q.time + 1))]):=zhj _
 repeat (first|refine i_s rfl ?_|refine sw ?_)
 refine y1 q.nQ rfl hb hl2 ?_
 refine zwG rfl rfl rfl rfl ?_
 repeat refine i_s rfl ?_
 refine uf q.nQ rfl hb hs2 ?_
 repeat (first|refine i_s rfl ?_|refine sw ?_)
 refine y1 q.nQ rfl (zn _ _ _) rfl ?_
 generalize IntKind.i64.wrap (q.time + 1)=t at *
 repeat refine i_s rfl ?_
 by_cases hx:∃ c∈q.es.map QE.core,c.2.2.1=x
 · obtain ⟨c,hcm,rfl⟩:=hx
   obtain ⟨e,he,rfl⟩:=List.mem_map.1 hcm
   have hFx:=hc.here _ hcm
   have ho1:HOk ns (ups σ q.nQ (.box (.tag q.bq [hv,.mp q.nF,.int .i64 t]))) { q with time:=t }:=by
    rcases hc1 with h|h
    · exact h
    · have:=h.es
      change q.es=[] at this
      rw [this] at he
      cases he
   obtain ⟨i,hi⟩:=List.getElem?_of_mem he
   have hE1:=ho1.hE e he
   have hat:=ho1.hat i e hi
   refine zkC rfl hF1 rfl rfl (v:=.tup [.raw e.b 0,.bool true]) (by rw [show ((e.core.2.2.1.toNat:Nat):Int)=(e.core.2.2.1.toNat:Int) from rfl,hFx];rfl) ?_
   obtain ⟨p1,p2,r,p3,p4⟩:=ho1.rekey hi k t (σ':=ups (ups (ups σ q.nQ (.box (.tag q.bq [hv,.mp q.nF,.int .i64 t]))) e.nm (.box (.tag e.b [.int .u32 e.item.toNat,.int .i64 k,.int .i64 e.time,.int .i64 e.at_]))) e.nm (.box (.tag e.b [.int .u32 e.item.toNat,.int .i64 k,.int .i64 t,.int .i64 e.at_]))) (fun n=>by
    simp only [kK]
    by_cases c:n=e.nm
    · rw [if_pos c,if_pos c]
    · rw [if_neg c,if_neg c,if_neg c])
   repeat' (first|refine i_s rfl ?_|refine sw ?_|refine c_t rfl ?_|refine y1 q.nQ rfl (zn _ _ _) rfl ?_)
   refine uf e.nm rfl hE1 rfl ?_
   repeat refine i_s rfl ?_
   refine uf e.nm rfl (zn _ _ _) rfl ?_
   repeat' (first|refine i_s rfl ?_|refine sw ?_|refine zks rfl ?_|refine y1 e.nm rfl (zn _ _ _) rfl ?_)
   rw [hat] at p1 p2 p4 ⊢
   refine ze3 ns rfl rfl p1.cl p1.out (zxb p1 i (by show i < (q.es.set i _).length;rw [List.length_set];exact yn hi)) (fun v σ' g' h=>by obtain ⟨⟨_,h,_⟩,_⟩:=h;exact h.out) ?_
   rintro v σ3 g' ⟨⟨q3,ho3,hs3⟩,rfl⟩
   have hcore:=hs3.core.trans p4
   have hF3:σ3 q.nF=σ q.nF:=hs3.fm.trans (p2.trans (ze _ _ fun e=>ha.QF e.symm))
   repeat refine sw ?_
   refine zb ⟨rfl,_,rfl,rfl,ho3.cl,⟨q3,⟨⟨.inl ho3.re,F,?_,(hc.perm p3).rekey.perm hcore.symm⟩,hs3.nQ,hs3.bq,hs3.nF⟩,?_⟩,rfl⟩
   · rw [hs3.nF]
     exact hF.is (hF3.symm.trans (zB ha.inF).symm)
   · have k1:q3.kv.Perm (zdx ((e.nm,e.b,e.item,k) :: r)):=hcore.map _
     have k2:(q.kv.filter fun p=>p.1 != e.item).Perm ((zdx ((e.nm,e.b,e.item,e.key) :: r)).filter fun p=>p.1 != e.item):=(p3.map _).filter _
     rw [ztT (c:=(e.nm,e.b,e.item,e.key)) ((p3.map QC.item).nodup_iff.1 hc.nd)] at k2
     exact k1.trans (k2.symm.cons _)
 · have hn:∀ c∈q.es.map QE.core,c.2.2.1≠x:=fun c hc e=>hx ⟨c,hc,e⟩
   have hFx:=hc.gone x hn
   refine zkC rfl hF1 rfl rfl (v:=.tup [.nilptr,.bool false]) (by rw [hFx];rfl) ?_
   have nQ1:f1≠q.nQ:=fun e=>by rw [e,hb] at u1;cases u1
   have nQ2:f2≠q.nQ:=fun e=>by rw [e,hb] at u2;cases u2
   have nF1:f1≠q.nF:=zvj hF u1
   have nF2:f2≠q.nF:=zvj hF u2
   repeat' (first|refine i_s rfl ?_|refine sw ?_|refine c_f rfl ?_|refine y1 q.nQ rfl (zn _ _ _) rfl ?_)
   refine zwJ f1 rfl rfl rfl ((ze _ _ nQ1).trans u1) (zpf l1) fun b=>?_
   repeat (first|refine i_s rfl ?_|refine sw ?_)
   refine y1 q.nQ rfl ((ze _ _ (fun e=>nQ1 e.symm)).trans (zn _ _ _)) rfl ?_
   repeat refine i_s rfl ?_
   have hF2:MP (ups (ups σ q.nQ (.box (.tag q.bq [hv,.mp q.nF,.int .i64 t]))) f1 (.box (.tag b [.int .u32 x.toNat,.int .i64 k,.int .i64 t,.int .i64 0])) q.nF) F:=hF1.is (ze _ _ fun e=>nF1 e.symm).symm
   refine zl3 rfl rfl hF2 rfl rfl rfl fun bF hbF=>?_
   obtain ⟨e,he⟩:∃ e:QE,e=⟨f1,b,x,k,t,0⟩:=⟨_,rfl⟩
   have hcl3:Cl ns (ups (ups (ups σ q.nQ (.box (.tag q.bq [hv,.mp q.nF,.int .i64 t]))) f1 (.box (.tag b [.int .u32 x.toNat,.int .i64 k,.int .i64 t,.int .i64 0]))) q.nF bF) :=
    (hc1.base.cl.ups fun row hr=>by cases hr;rfl).ups fun row hr=>(hbF.box row hr).elim
   have hout3:=qz (b:=bF) (qz (b:=.box (.tag b [.int .u32 x.toNat,.int .i64 k,.int .i64 t,.int .i64 0])) hc1.base.out h1) ha.inF
   have hnew1':f1≠q.nQ∧f1≠q.nH∧f1≠q.nF∧f1 ∉ q.es.map QE.nm:=by
    simp only [HS.names,List.mem_cons,not_or] at hnew1
    exact hnew1
   have hFd:q.nF≠q.nQ∧q.nF≠q.nH∧q.nF ∉ q.es.map QE.nm:=by
    rcases ha with h|h
    · exact ⟨fun e=>h.QF e.symm,fun e=>h.HF e.symm,fun hm=>by
       obtain ⟨y,hy,k⟩:=List.mem_map.1 hm
       exact h.EF hy k.symm⟩
    · exact ⟨fun e=>h.QF e.symm,fun e=>h.HH.2.1 e.symm,by rw [h.es];simp⟩
   have ha3:HAny ns (ups (ups (ups σ q.nQ (.box (.tag q.bq [hv,.mp q.nF,.int .i64 t]))) f1 (.box (.tag b [.int .u32 x.toNat,.int .i64 k,.int .i64 t,.int .i64 0]))) q.nF bF) { q with time:=t } :=
    hc1.frame (fun n hn=>by
     rcases hn with rfl|rfl|hn
     · rw [ze _ _ (fun e=>hFd.1 e.symm),ze _ _ (fun e=>hnew1'.1 e.symm)]
     · rw [ze _ _ (fun e=>hFd.2.1 e.symm),ze _ _ (fun e=>hnew1'.2.1 e.symm)]
     · rw [ze _ _ (fun (e:n=q.nF)=>hFd.2.2 (e ▸ hn)),ze _ _ (fun (e:n=f1)=>hnew1'.2.2.2 (e ▸ hn))]) hcl3 hout3
   repeat' (first|refine i_s rfl ?_|refine sw ?_|refine zks rfl ?_)
   refine ze3 ns rfl rfl hcl3 hout3 (zqQ (q:={ q with time:=t }) ha3 hlen (e:=⟨f1,b,x,k,t,0⟩) ((ze _ _ nF1).trans (zn _ _ _)) h1 hnew1 (f:=f2) h2 nF2 (by rw [ze _ _ nF2,ze _ _ (fun e=>ne e.symm),ze _ _ nQ2];exact u2) l2) (fun v σ' g' h=>by obtain ⟨⟨_,h,_⟩,_⟩:=h;exact h.ok.out) ?_
   rintro v σ4 g' ⟨⟨q4,hk4,hp4⟩,rfl⟩
   have hF4:σ4 q.nF=bF:=hk4.fm.trans (zn _ _ _)
   repeat refine sw ?_
   refine ym ⟨rfl,_,rfl,rfl,hk4.ok.cl,⟨q4,⟨⟨.inl hk4.ok.re,_,?_,(hc.put f1 b x k hn).perm hp4.symm⟩,hk4.nQ,hk4.bq,hk4.nF⟩,?_⟩,rfl⟩
   · rw [hk4.nF]
     exact hbF.is' (hF4.symm.trans (zB ha.inF).symm)
   · have k1:q4.kv.Perm (zdx ((f1,b,x,k) :: q.es.map QE.core)):=hp4.map _
     rw [show (q.kv.filter fun p=>p.1 != x)=q.kv from ztS hn]
     exact k1
def ju:Cmd :=
 (qS [qq 2 (.mov (.c (.int .u32 0))),qc 3 0,qb 4 false]
 (qT (qS [qm 6 0,qq 7 (.nilck (.t 6)),qf 8 0 7,ql 9 1 8,qn 10 9,qv 11 .eql [.i] 10 0]
 (.cond (.t 11) (.seq (.ops [qm 12 2,qm 2 12,qc 3 0,qb 4 false]) .ret) .skip))
 (qS [qm 13 0,qq 14 (.nilck (.t 13)),qf 15 0 14,qq 16 (.mkifc 227 (.t 15)),qq 17 (.call .d (.c (.fn 117 [])) [.t 16]),qq 18 (.tass 222 (.t 17)),qm 5 18]
 (qS [qm 19 0,qq 20 (.nilck (.t 19)),qf 21 1 20,ql 22 1 21,qm 23 5,qq 24 (.nilck (.t 23)),qf 25 0 24,ql 26 1 25,.op none none (.mdel (.t 22) (.t 26))]
 (.seq (.ops [qm 27 5,qq 28 (.nilck (.t 27)),qf 29 0 28,ql 30 1 29,qm 31 5,qq 32 (.nilck (.t 31)),qf 33 1 32,ql 34 1 33,qm 2 30,qm 3 34,qb 4 true]) .ret)))))
def jv:List RVar:=[.tmp 2,.tmp 3,.tmp 4]
def jw:Nat:=35
theorem jx:zj PG 72 jw jv ju=true:=by kernel_rfl
theorem zv8 {G:Type}{H:HT G}{g:G}{ns:List Nat}{σ:za}{q:HS} (hq:QOk ns σ q)(hne:q.es≠[]) :
  Cc PG H 72 [.raw q.bq 0] ns σ g fun v σ' g'=>(∃ (q':HS)(x:W32)(k:Int),QNext ns q σ' q'∧q.kv.Perm ((x,k) :: q'.kv)∧v=.tup [yk x,.int .i64 k,.bool true])∧g' = g:=by
 obtain ⟨ha,F,hF,hc⟩:=hq
 have ho:HOk ns σ q:=by
  rcases ha with h|h
  · exact h
  · exact absurd h.es hne
 have hpos:0 < q.es.length:=List.length_pos_iff.2 hne
 refine CT.step _ zf jx ho.out fun hM=>?_
 have h0:(((q.es.length:Nat):Int) == 0)=false:=by
  rw [beq_eq_false_iff_ne]
  omega
 repeat' (first|refine i_s rfl ?_|refine sw ?_|refine zd rfl (fun h=>?_) (fun h=>?_)|refine y1 q.nQ rfl ho.hQ rfl ?_)
 · exfalso
   simp_all
 repeat' refine zks rfl ?_
 refine ze3 ns rfl rfl ho.cl ho.out (zsB ho hne) (fun v σ' g' h=>by obtain ⟨⟨_,_,h,_⟩,_⟩:=h;exact h.ok.out) ?_
 rintro v σ2 g' ⟨⟨q2,e,hk2,hp2,rfl,he2,hnF⟩,rfl⟩
 have hF2:MP (σ2 q.nF) F:=hF.is hk2.fm.symm
 have hc2:=hc.perm hp2
 rw [← hk2.bq]
 have hQ2:=hk2.ok.hQ
 repeat' (first|refine i_s rfl ?_|refine sw ?_|refine zr1 rfl ?_|refine y1 q2.nQ rfl hQ2 rfl ?_|refine y1 e.nm rfl he2 rfl ?_)
 rw [hk2.nF]
 refine zvO rfl rfl hF2 rfl fun bF hbF=>?_
 have hcl3:Cl ns (ups σ2 q.nF bF):=hk2.ok.cl.ups fun row hr=>(hbF.box row hr).elim
 have hout3:=qz (b:=bF) hk2.ok.out ho.inF
 have ho3:HOk ns (ups σ2 q.nF bF) q2:=hk2.ok.frame (fun n hn=>by
  rw [← hk2.nF]
  rcases hn with rfl|rfl|hn
  · exact ze _ _ hk2.ok.QF
  · exact ze _ _ hk2.ok.HF
  · obtain ⟨y,hy,k⟩:=List.mem_map.1 hn
    exact ze _ _ (fun e=>hk2.ok.EF hy (e ▸ k.symm))) hcl3 hout3
 repeat' (first|refine i_s rfl ?_|refine sw ?_|refine y1 e.nm rfl ((ze _ _ hnF).trans he2) rfl ?_)
 refine zb ⟨rfl,_,rfl,rfl,ho3.cl,⟨q2,e.item,e.key,⟨⟨.inl ho3.re,_,?_,hc2.del⟩,hk2.nQ,hk2.bq,hk2.nF⟩,hp2.map _,rfl⟩,rfl⟩
 rw [hk2.nF]
 exact hbF.is' ((zn _ _ _).symm.trans (zB ho.inF).symm)
end Hm
end
section
namespace Hm
open Go
theorem zlH (av:List Nat):∀ k:Nat,av.length + k < 1000000000000→∃ L:List Nat,L.length=k∧L.Nodup∧∀ n∈L,n ∉ av∧n < 1000000000000
 | 0,_=>⟨[],rfl,List.nodup_nil,fun n hn=>by cases hn⟩
 | k + 1,h=>by
  obtain ⟨L,h1,h2,h3⟩:=zlH av k (by omega)
  obtain ⟨n,h4,h5⟩:=zeu (L ++ av) (by rw [List.length_append];omega)
  refine ⟨n :: L,by simp [h1],List.nodup_cons.2 ⟨fun h=>h4 (List.mem_append_left _ h),h2⟩,fun m hm=>?_⟩
  rcases List.mem_cons.1 hm with rfl|hm
  · exact ⟨fun h=>h4 (List.mem_append_right _ h),h5⟩
  · exact h3 m hm
section
variable {ns:List Nat}{σ σ':za}{q:HS}
theorem HAny.nd (h:HAny ns σ q):q.names.Nodup∧∀ n∈q.names,n∈ns:=by
 rcases h with h|h
 · exact ⟨h.nd,h.sub⟩
 · unfold HS.names
   rw [h.es]
   refine ⟨?_,fun n hn=>?_⟩
   · have h1:=h.HH
     have h2:=h.QF
     simp only [List.map_nil,List.nodup_cons,List.mem_cons,List.not_mem_nil,or_false,not_or,not_false_eq_true,List.nodup_nil,and_true]
     exact ⟨⟨fun e=>h1.1 e.symm,h2⟩,h1.2.1⟩
   · simp only [List.map_nil,List.mem_cons,List.not_mem_nil,or_false] at hn
     rcases hn with rfl|rfl|rfl
     · exact h.inQ
     · exact h.HH.2.2
     · exact h.inF
theorem HAny.move (h:HAny ns σ q) {ns2:List Nat}{σ2:za} (he:∀ n∈q.names,σ2 n=σ n)(hsub:∀ n∈q.names,n∈ns2)(hcl:Cl ns2 σ2)(hout:∀ nm,σ2 nm≠.zc→nm∈ns2):HAny ns2 σ2 q:=by
 have hQ:=he q.nQ (by simp [HS.names])
 have hH:=he q.nH (by simp [HS.names])
 rcases h with h|h
 · exact .inl ⟨hQ.trans h.hQ,hH.trans h.hH,h.hbl,h.hle,h.hsz,h.ht,fun e hm=>(he _ (by unfold HS.names;simp only [List.mem_cons];exact .inr (.inr (.inr (List.mem_map.2 ⟨e,hm,rfl⟩))))).trans (h.hE e hm),h.hat,h.nd,hsub,h.pur,hcl,hout⟩
 · exact .inr ⟨hQ.trans h.hQ,h.es,⟨h.HH.1,h.HH.2.1,hsub _ (by simp [HS.names])⟩,hH.trans h.Hu,h.QF,hsub _ (by simp [HS.names]),hsub _ (by simp [HS.names]),hcl,hout⟩
theorem QOk.closed (h:QOk ns σ q) {ns2:List Nat} (hsub:∀ n∈q.names,n∈ns2) {n:Nat} (hn:n∈q.names) {row:V} (hr:σ n=.box row):zt ns2 row=true:=by
 obtain ⟨ha,F,hF,_⟩:=h
 have hinF:q.nF∈ns2:=hsub _ (by simp [HS.names])
 simp only [HS.names,List.mem_cons] at hn
 rcases hn with rfl|rfl|rfl|hn
 · obtain ⟨hv,hb,hp,_⟩:=ha.box
   rw [hb] at hr
   cases hr
   show (zt ns2 hv && (zt ns2 (.mp q.nF) && (true && true)))=true
   rw [zdi ns2 hv hp,un hinF]
   rfl
 · rcases ha with h|h
   · rw [h.hH] at hr
     cases hr
     exact kL ns2 h.pur
   · rw [h.Hu] at hr
     cases hr
 · exact (hF.box row hr).elim
 · obtain ⟨e,he,rfl⟩:=List.mem_map.1 hn
   rw [ha.base.hE e he] at hr
   cases hr
   rfl
theorem QOk.move (h:QOk ns σ q) {ns2:List Nat}{σ2:za} (he:∀ n∈q.names,σ2 n=σ n)(hsub:∀ n∈q.names,n∈ns2)(hcl:Cl ns2 σ2)(hout:∀ nm,σ2 nm≠.zc→nm∈ns2):QOk ns2 σ2 q:=by
 obtain ⟨ha,F,hF,hc⟩:=h
 refine ⟨ha.move he hsub hcl hout,F,?_,hc⟩
 rw [he _ (by simp [HS.names])]
 exact hF
end
def QIn (σ:za)(q:HS):Prop:=QOk q.names (restr q.names σ) q
section
variable {ns:List Nat}{σ σ':za}{q:HS}
theorem QIn.congr (h:QIn σ q)(he:∀ n∈q.names,σ' n=σ n):QIn σ' q:=by
 have e:restr q.names σ' = restr q.names σ:=by
  funext n
  by_cases hn:n∈q.names
  · rw [zB hn,zB hn,he n hn]
  · rw [jQ hn,jQ hn]
 unfold QIn
 rw [e]
 exact h
theorem QIn.closed (h:QIn σ q)(hsub:∀ n∈q.names,n∈ns) {n:Nat} (hn:n∈q.names) {row:V} (hr:σ n=.box row):zt ns row=true :=
 QOk.closed h hsub hn ((zB hn).trans hr)
theorem QIn.to (h:QIn σ q)(hsub:∀ n∈q.names,n∈ns)(hrest:∀ n∈ns,n ∉ q.names→σ n=.zc):QOk ns (restr ns σ) q:=by
 refine QOk.move h (fun n hn=>by rw [zB (hsub n hn),zB hn]) hsub ?_ (fun nm hn=>yC nm hn)
 refine (z6 _ _ _).2 fun n hn row hr=>?_
 rw [zB hn] at hr
 by_cases c:n∈q.names
 · exact h.closed hsub c hr
 · rw [hrest n hn c] at hr
   cases hr
theorem QIn.of (h:QOk ns σ' q)(he:∀ n∈q.names,σ n=σ' n):QIn σ q:=by
 refine h.move (fun n hn=>(zB hn).trans (he n hn)) (fun n hn=>hn) ?_ (fun nm hn=>yC nm hn)
 refine (z6 _ _ _).2 fun n hn row hr=>?_
 rw [zB hn,he n hn] at hr
 exact h.closed (fun n hn=>hn) hn hr
end
end Hm
end
section
namespace Hm
open Go
set_option maxRecDepth 100000
set_option maxHeartbeats 1000000
theorem zdy (w:W32):∀ n,(y7 w n).length≤n
 | 0=>Nat.le_refl _
 | n + 1=>by
  have:=zdy w n
  rw [y7,List.length_append]
  split<;>simp<;>omega
theorem zmW (a b:W32):((a.toNat:Int) == (b.toNat:Int))=(a == b):=by
 by_cases h:a=b
 · subst h;simp
 · have h1:(a == b)=false:=by simpa using h
   have h2:¬ a.toNat=b.toNat:=fun e=>h (BitVec.eq_of_toNat_eq e)
   rw [h1]
   simp only [beq_eq_false_iff_ne,ne_eq,Int.natCast_inj]
   exact h2
def zop:Cmd :=
 (qS [qq 2 (.mov (.c (.sl .nil [])))]
 (qS [qq 3 (.newVec 4224193)]
 (qT (qS [qc 5 0]
 (.block 0 (.loop (qS [qv 6 .lss [] 5 32]
 (qT (.cond (.t 6) .skip (.exit 0))
 (qT (.block 1 (qS [qm 7 5,qm 4 7]
 (qS [qm 8 0,qm 9 4,qu 10 .shr [] 8 9,qq 11 (.bin .and false [] (.t 10) (.c (.int .u32 1))),qq 12 (.bin .eql false [.i] (.t 11) (.c (.int .u32 1)))]
 (.cond (.t 12) (.ops [qm 13 3,qm 14 4,qq 15 (.bsl 1 [.t 14]),qq 16 (.append 1 8 3 (.t 13) (.t 15)),qm 3 16]) .skip))))
 (.ops [qv 17 .add [] 5 1,qm 5 17])))))))
 (.seq (.ops [qm 18 3,qm 2 18]) .ret))))
def zoq:List RVar:=[.tmp 2]
def zor:Nat:=19
theorem zos:zj PG 66 zor zoq zop=true:=by kernel_rfl
theorem zfl (w : W32) : Fc PG 66 [yk w] (.sl .p ((facts w).map zk)):=by
 refine Fn.step zf zos ?_
 repeat (first|refine i_s rfl ?_|refine sw ?_|refine zem rfl ?_)
 refine ye 32 (fun k=>[(0,yk w),(3,.sl (.own 4224193) ((y7 w k).map zk)),(5,.int .i64 k)]) (fun k=>[(4224193,.vec (y7 w k).length)]) (fun _=>True) trivial ft fun k hk _=>?_
 repeat (first|refine i_s rfl ?_|refine sw ?_)
 refine zd rfl (fun h=>?_) (fun h=>?_)
 · have hlt : k < 32 := by have:(k:Int) < 32:=by simpa using h
                           omega
   clear h
   have hlen:=zdy w k
   have hq:=zv5 w k hlt
   cases hb:w.getLsbD k with
   | true =>
    have et:y7 w (k + 1)=y7 w k ++ [(k:Int)]:=by rw [y7,if_pos hb]
    rw [hb,if_pos rfl] at hq
    repeat' (first|refine i_s rfl ?_|refine sw ?_|refine c_t rfl ?_|refine ja rfl rfl ?_|refine zrZ rfl rfl (by omega) rfl ?_|refine zve rfl rfl rfl hq ?_|refine yU (c:=(k:Int)) rfl rfl rfl rfl rfl (by omega) (by omega) ?_)
    all_goals first
     | (exfalso;simp at *;done)
     | (refine zK hlt trivial ⟨⟨rfl,?_,rfl,trivial⟩,⟨?_,trivial⟩,rfl⟩
        · rw [et];rfl
        · rw [et,List.length_append];rfl)
   | false =>
    have et:y7 w (k + 1)=y7 w k:=by rw [y7,if_neg (by rw [hb];decide)];simp
    rw [hb,if_neg (by decide)] at hq
    repeat' (first|refine i_s rfl ?_|refine sw ?_|refine c_f rfl ?_|refine ja rfl rfl ?_|refine zrZ rfl rfl (by omega) rfl ?_|refine zve rfl rfl rfl hq ?_)
    all_goals first
     | (exfalso;simp at *;done)
     | (refine zK hlt trivial ⟨⟨rfl,?_,rfl,trivial⟩,⟨?_,trivial⟩,rfl⟩
        · rw [et];rfl
        · rw [et];rfl)
 · have hge : k = 32 := by have:¬ (k:Int) < 32:=by simpa using h
                           omega
   subst hge
   repeat' (first|refine i_s rfl ?_|refine sw ?_|fail)
   exact zb ⟨rfl,_,rfl,rfl⟩
def zgO:Cmd :=
 (qS [qb 4 false]
 (.seq (.ops [qm 5 1,qm 6 0,qq 7 (.nilck (.t 6)),qf 8 1 7,ql 9 1 8,qu 10 .and [] 5 9,qm 11 0,qq 12 (.nilck (.t 11)),qf 13 1 12,ql 14 1 13,qu 15 .eql [.i] 10 14,qm 4 15]) .ret))
def zgP:List RVar:=[.tmp 4]
def zgQ:Nat:=16
theorem zgR:zj PG 68 zgQ zgP zgO=true:=by kernel_rfl
theorem zgS (w:Wd)(s:W32):Fc PG 68 [.cptr .p (wdR w) 0,yk s] (.bool (w.isGoal s)):=by
 refine Fn.step zf zgR ?_
 repeat' (first|refine i_s rfl ?_|refine sw ?_|refine zsz rfl rfl ?_)
 all_goals exact zb ⟨rfl,_,rfl,congrArg V.bool (zmW _ _).symm⟩
def zfB:Cmd :=
 (qS [qx 2 4480129 1 0,qx 3 4480193 1 1,qq 4 (.mov (.c (.nilfn)))]
 (.seq (.ops [qq 5 (.mkfn 116 [.t 2,.t 3]),qm 4 5]) .ret))
def zfC:List RVar:=[.tmp 4]
def zfD:Nat:=6
theorem zfE:zj PG 70 zfD zfC zfB=true:=by kernel_rfl
theorem qe (w:Wd)(s:W32):Fc PG 70 [.cptr .p (wdR w) 0,yk s] (.fn 116 [.cptr .p (.cptr .p (wdR w) 0) 0,.cptr .p (yk s) 0]):=by
 refine Fn.step zf zfE ?_
 repeat' (first|refine i_s rfl ?_|refine sw ?_|refine zr rfl rfl ?_)
 exact zb ⟨rfl,_,rfl,rfl⟩
def zd9:Cmd :=
 (qS [ql 6 1 1,qq 7 (.nilck (.t 6)),qf 8 2 7,ql 9 1 8,qn 10 9,qc 11 0]
 (.block 0 (.loop (qS [qu 12 .lss [] 11 10]
 (qT (.cond (.t 12) .skip (.exit 0))
 (qT (.block 1 (qS [qm 13 11,qi 14 4 9 11,qL 15 4 14,qq 5 (.alloc 7424324 (.agg [.int .u32 0,.int .u32 0,.int .u32 0,.int .i64 0])),qm 4 13,qs 4 5 15]
 (qS [ql 16 1 2,qf 17 0 5,ql 18 1 17,qu 19 .and [] 16 18,qf 20 0 5,ql 21 1 20,qu 22 .eql [.i] 19 21,qm 23 22,qg 24 23 true (.mov (.t 0)),qg 25 23 true (.mov (.t 4)),qg 26 23 true (.faddr 3 (.t 5)),qg 27 23 true (.load false 1 (.t 26)),qg 28 23 true (.load false 1 (.t 2)),qg 29 23 true (.faddr 2 (.t 5)),qg 30 23 true (.load false 1 (.t 29)),qg 31 23 true (.bin .andNot false [] (.t 28) (.t 30)),qg 32 23 true (.faddr 1 (.t 5)),qg 33 23 true (.load false 1 (.t 32)),qg 34 23 true (.bin .or false [] (.t 31) (.t 33)),qg 35 23 true (.build [.int .i64 0,.int .i64 0,.int .u32 0] [(0 ,1 ,.t 25),(1 ,1 ,.t 27),(2 ,1 ,.t 34)]),qg 36 23 true (.call .y (.t 24) [.t 35]),qg 37 23 true (.not (.t 36)),qq 38 (.pick (.t 23) (.t 37) (.c (.bool false)))]
 (.cond (.t 38) .ret .skip))))
 (.ops [qv 39 .add [] 11 1,qm 11 39])))))))
def zea:List RVar:=[]
def zeb:Nat:=40
theorem zec:zj PG 116 zeb zea zd9=true:=by kernel_rfl
theorem zlI {G : Type} {H : HT G} (w : Wd)(s:W32)(hl:w.ops.length≤140737488355328)(g0:G)(K:G→Prop)(hy0:YL H ((w.steps s).map fun e=>[stV e]) g0 K) :
  Cc PG H 116 [.rnd,.cptr .p (.cptr .p (wdR w) 0) 0,.cptr .p (yk s) 0] [] (zy []) g0 fun _ σ' g'=>σ' = zy []∧K g':=by
 refine CT.step _ zf zec (fun nm hnm=>w7 _ nm hnm) fun hM=>?_
 repeat (first|refine zo rfl ?_|refine i_s rfl ?_|refine sw ?_)
 refine jO (ι:=Nat × G) (fun i=>[(0,.rnd),(1,.cptr .p (.cptr .p (wdR w) 0) 0),(2,.cptr .p (yk s) 0),(9,.sl .p (w.ops.map mkV)),(10,.int .i64 w.ops.length),(11,.int .i64 i.1)]) (fun i=>[]) (fun i=>i.2)
  (fun i=>i.1≤w.ops.length∧YL H ((xH s (w.ops.drop i.1) i.1).map fun e=>[stV e]) i.2 K) (fun i=>w.ops.length - i.1) (0,g0) ⟨Nat.zero_le _,hy0⟩ ft rfl fun i hi=>?_
 obtain ⟨k,g⟩:=i
 obtain ⟨h1,hy⟩:=hi
 simp only at h1 hy
 clear hy0
 repeat (first|refine i_s rfl ?_|refine sw ?_)
 refine zd rfl (fun h=>?_) (fun h=>?_)
 · have hlt:k < w.ops.length:=by simpa using h
   obtain ⟨m,hm⟩:=zh hlt
   clear h
   have ed:w.ops.drop k=m :: w.ops.drop (k + 1):=by
    rw [List.drop_eq_getElem_cons hlt]
    congr 1
    exact (List.getElem?_eq_some_iff.1 hm).2
   rw [ed,xH] at hy
   by_cases hc:m.can s=true
   · rw [if_pos hc] at hy
     have hc2:(((s &&& m.pre).toNat:Int) == (m.pre.toNat:Int))=true:=by rw [zmW];exact hc
     repeat' (first|refine i_s rfl ?_|refine sw ?_|refine yi rfl ?_|refine yw rfl ?_|refine c_f rfl ?_|refine ja rfl rfl ?_|refine jd rfl rfl ?_|refine zl rfl ?_|refine zi rfl ?_|refine i_g rfl (fun h=>?_) (fun h=>?_)|refine zsz rfl rfl ?_|refine zw7 rfl rfl ?_|refine zw6 rfl rfl ?_)
     all_goals first
      | (exfalso;simp_all;done)
      | (refine i_y hM rfl rfl rfl (hM _ _ _ _ (fun u g' hu=>?_) hy)
         rcases hu with ⟨rfl,hu⟩|⟨rfl,hu⟩
         · repeat' (first|refine i_s rfl ?_|refine sw ?_|refine yi rfl ?_|refine c_f rfl ?_|refine ja rfl rfl ?_|fail)
           exact kl ⟨(k + 1,g'),⟨by simp only;omega,hu⟩,ft,rfl,by simp only;omega⟩
         · repeat' (first|refine i_s rfl ?_|refine sw ?_|refine yi rfl ?_|refine c_t rfl ?_)
           exact zb ⟨rfl,_,rfl,rfl,rfl,zu _ _,hu⟩)
   · rw [if_neg hc,List.nil_append] at hy
     have hc2:(((s &&& m.pre).toNat:Int) == (m.pre.toNat:Int))=false:=by rw [zmW];exact Bool.eq_false_iff.2 hc
     repeat' (first|refine i_s rfl ?_|refine sw ?_|refine yi rfl ?_|refine yw rfl ?_|refine c_f rfl ?_|refine ja rfl rfl ?_|refine jd rfl rfl ?_|refine zl rfl ?_|refine zi rfl ?_|refine i_g rfl (fun h=>?_) (fun h=>?_)|refine zsz rfl rfl ?_)
     all_goals first
      | (exfalso;simp_all;done)
      | exact kl ⟨(k + 1,g),⟨by simp only;omega,hy⟩,ft,rfl,by simp only;omega⟩
 · have hge : k = w.ops.length := by have:¬ k < w.ops.length:=by simpa using h
                                     omega
   subst hge
   rw [List.drop_of_length_le (Nat.le_refl _)] at hy
   repeat refine sw ?_
   exact ym ⟨rfl,_,rfl,rfl,rfl,zu _ _,hy⟩
end Hm
end
section
namespace Hm
open Go
set_option maxRecDepth 100000
set_option maxHeartbeats 2000000
def InW (l:List Int):Prop:=(∀ p∈l,0≤p∧p < 32)∧l.length≤140737488355328
structure WdT (t:STask):Prop where
 init:InW t.init
 goal:InW t.goal
 ops:∀ o∈t.ops,InW o.pre∧InW o.add∧InW o.del
 len:t.ops.length≤1000000
def zsC:Cmd :=
 (qS [qx 1 3968068 4 0,qq 2 (.mov (.c (.nilptr)))]
 (.seq (.ops [qf 6 1 1,ql 7 1 6,qk 8 112 [7],qf 9 2 1,ql 10 1 9,qk 11 112 [10],qq 12 (.build [.int .u32 0,.int .u32 0,.sl .nil []] [(0 ,1 ,.t 8),(1 ,1 ,.t 11)]),qx 13 3968835 3 12,qm 3 13]) (.nvb 13 2 3976452 (.cut (qT (qS [qf 14 3 1,ql 15 1 14,qn 16 15,qc 17 0]
 (.block 0 (.loop (qS [qu 18 .lss [] 17 16]
 (qT (.cond (.t 18) .skip (.exit 0))
 (qT (.block 1 (qS [qi 19 4 15 17,qL 20 4 19,qq 5 (.alloc 3968324 (.agg [.sl .nil [],.sl .nil [],.sl .nil [],.int .i64 0])),qs 4 5 20]
 (.ops [qm 21 3,qm 22 3,qq 23 (.nilck (.t 22)),qf 24 2 23,ql 25 1 24,qf 26 0 5,ql 27 1 26,qk 28 112 [27],qf 29 1 5,ql 30 1 29,qk 31 112 [30],qf 32 2 5,ql 33 1 32,qk 34 112 [33],qf 35 3 5,ql 36 1 35,qq 37 (.build [.int .u32 0,.int .u32 0,.int .u32 0,.int .i64 0] [(0 ,1 ,.t 28),(1 ,1 ,.t 31),(2 ,1 ,.t 34),(3 ,1 ,.t 36)]),qq 38 (.bsl 4 [.t 37]),qq 39 (.append 4 24 210 (.t 25) (.t 38)),qq 40 (.nilck (.t 21)),qf 41 2 40,qs 1 41 39])))
 (.ops [qv 42 .add [] 17 1,qm 17 42])))))))
 (.seq (.ops [qm 43 3,qm 2 43]) .ret))))))
def zsD:List RVar:=[.tmp 2]
def zsE:Nat:=44
theorem zsF:zj PG 62 zsE zsD zsC=true:=by kernel_rfl
theorem zsG (t : STask) (ht : WdT t) : Fc PG 62 [skV t] (.cptr .p (wdR (yM t)) 0):=by
 have hI:=v1 t.init ht.init.1 ht.init.2
 have hG:=v1 t.goal ht.goal.1 ht.goal.2
 have hlen:=ht.len
 refine Fn.step zf zsF ?_
 repeat' (first|refine i_s rfl ?_|refine sw ?_|refine zr rfl rfl ?_|refine sf rfl rfl hI ?_|refine sf rfl rfl hG ?_|fail)
 all_goals
  refine zkq rfl rfl rfl rfl ?_
  repeat (first|refine zo rfl ?_|refine i_s rfl ?_|refine sw ?_)
  refine ye t.ops.length (fun k=>[(1,.bptr 3968068 0),(3,.bptr 3968835 0),(15,.sl .p (t.ops.map soV)),(16,.int .i64 t.ops.length),(17,.int .i64 k)])
   (fun k=>[(3968068,.box (skV t)),(3968835,.box (.agg [yk (yS t.init),yk (yS t.goal),.sl (.own 3976452) (((t.ops.take k).map zcw).map mkV)])),(3976452,.vec ((t.ops.take k).map zcw).length)]) (fun _=>True) trivial ft fun k hk _=>?_
  repeat (first|refine i_s rfl ?_|refine sw ?_)
  refine zd rfl (fun h=>?_) (fun h=>?_)
  · have hlt:k < t.ops.length:=by simpa using h
    obtain ⟨o,ho⟩:=zh hlt
    obtain ⟨h1,h2,h3⟩:=ht.ops o (zm ho)
    have hP:=v1 o.pre h1.1 h1.2
    have hA:=v1 o.add h2.1 h2.2
    have hD:=v1 o.del h3.1 h3.2
    have et:(t.ops.take (k + 1)).map zcw=(t.ops.take k).map zcw ++ [zcw o]:=by rw [List.take_add_one,ho];simp
    have hml:((t.ops.take k).map zcw).length≤1000000:=by simp;omega
    clear h hI hG
    repeat' (first|refine i_s rfl ?_|refine sw ?_|refine ja rfl rfl ?_|refine jd rfl rfl ?_|refine zl rfl ?_|refine zi rfl ?_|refine sf rfl rfl hP ?_|refine sf rfl rfl hA ?_|refine sf rfl rfl hD ?_|refine yU (c:=zcw o) rfl rfl rfl rfl rfl (by omega) (by omega) ?_)
    all_goals first
     | (refine zK hlt trivial ⟨⟨rfl,rfl,rfl,rfl,rfl,trivial⟩,⟨rfl,?_,?_,trivial⟩,rfl⟩
        · rw [et];rfl
        · rw [et,List.length_append];rfl)
  · have hge : k = t.ops.length := by have:¬ k < t.ops.length:=by simpa using h
                                      omega
    subst hge
    rw [List.take_length]
    repeat' (first|refine i_s rfl ?_|refine sw ?_|fail)
    exact zb ⟨rfl,_,rfl,rfl⟩
theorem zrp:wX PG 82 "Start" = some (32,true):=by kernel_rfl
theorem zv9:wX PG 82 "Steps" = some (70,true):=by kernel_rfl
def toI (x:W32):Int:=x.toNat
theorem zmX {x y:W32} (h:toI x=toI y):x=y:=BitVec.eq_of_toNat_eq (Int.ofNat_inj.1 h)
theorem zqi {sn:List W32}{x:W32} (h:x ∉ sn):(sn.map toI).idxOf? (toI x)=none:=by
 rw [List.idxOf?_eq_none_iff]
 intro hm
 obtain ⟨y,hy,e⟩:=List.mem_map.1 hm
 exact h (zmX e ▸ hy)
theorem zu2 {sn:List W32}{x:W32} (h:x∈sn):∃ i,(sn.map toI).idxOf? (toI x)=some i∧i < sn.length:=by
 cases hi:(sn.map toI).idxOf? (toI x) with
 | none=>exact absurd (List.mem_map_of_mem (f:=toI) h) (List.idxOf?_eq_none_iff.1 hi)
 | some i =>
  have h1:(sn.map toI).findIdx? (· == toI x)=some i:=hi
  obtain ⟨h2,_⟩:=List.findIdx?_eq_some_iff_getElem.1 h1
  exact ⟨i,rfl,by simpa using h2⟩
def zfc:V:=.agg []
theorem zu3 (sn:List W32)(x:W32):zfG true (.agg []) (xf (sn.map toI) (sn.map fun _=>zfc) (toI x))=.tup [.agg [],.bool (decide (x∈sn))]:=by
 by_cases h:x∈sn
 · obtain ⟨i,h1,h2⟩:=zu2 h
   rw [decide_eq_true h]
   simp only [xf,h1,Option.bind_some,List.getElem?_map,List.getElem?_eq_getElem h2,Option.map_some,zfG,zfc]
 · rw [decide_eq_false h]
   simp only [xf,zqi h,Option.bind_none,zfG]
theorem zu4 {sn:List W32}{x:W32} (h:x ∉ sn):jz .u32 (sn.map toI) (sn.map fun _=>zfc) (toI x) (.agg [])=.mp .u32 ((sn ++ [x]).map toI) ((sn ++ [x]).map fun _=>zfc):=by
 simp only [jz,zqi h,List.map_append,List.map_cons,List.map_nil,zfc]
theorem zdz:∀ (l:List W32)(a:List W32 × List W32),a.1.length≤(zQ a l).1.length∧(zQ a l).1.length≤a.1.length + l.length
 | [],a=>⟨Nat.le_refl _,Nat.le_refl _⟩
 | y :: l,a=>by
  have h:=zdz l (xD a y)
  have h2:a.1.length≤(xD a y).1.length∧(xD a y).1.length≤a.1.length + 1:=by unfold xD;split<;>simp
  have e:zQ a (y :: l)=zQ (xD a y) l:=rfl
  rw [e,List.length_cons]
  omega
theorem vp (s:W32):∀ (l:List Mk)(k:Nat),(xH s l k).length≤l.length
 | [],_=>Nat.le_refl _
 | m :: r,k=>by
  have:=vp s r (k + 1)
  rw [xH,List.length_append,List.length_cons]
  split<;>simp<;>omega
theorem ztV (w:Wd)(s:W32):(xJ w s).length≤w.ops.length:=by
 unfold xJ Wd.steps
 rw [List.length_map]
 exact vp _ _ _
theorem zqj {G:Type}{α:Type}{f:α→List V}{H':HT G}{K:G→Prop} (I:List α→G→Prop)(hs:∀ c r s,I (c :: r) s→∀ K:V→G→Prop,(∀ s',I r s'→K (.bool true) s')→H' (f c) s K)(he:∀ s,I [] s→K s):∀ (l:List α)(s:G),I l s→YL H' (l.map f) s K
 | [],s,h=>he s h
 | c :: r,s,h=>hs c r s h _ fun s' h'=>.inl ⟨rfl,zqj I hs he r s' h'⟩
abbrev aS (out st sn:List W32)(g6 gen:Nat)(rows:List V):List (Nat × Blk):=[(4032833,.arr gen rows),(4032896,.mp .u32 (sn.map toI) (sn.map fun _=>zfc)),(4032257,.box (.msl 4032833 gen 0 st.length)),(4032321,.box (.mp 4032896)),(4032385,.arr g6 (out.map yk))]
def zgT:Cmd :=
 (qS [qq 2 (.mov (.c (.sl .nil []))),qb 3 false]
 (qS [qm 11 0,qq 12 (.callM .f "Start" (.t 11) []),qq 13 (.bslA 4032833 1 [.t 12]),qq 4 (.alloc 4032257 (.sl .nil [])),qs 1 4 13]
 (qS [qq 14 (.mkMap 4032896 .u32),qm 15 0,qq 16 (.callM .f "Start" (.t 15) []),qq 17 (.build [] []),.op none none (.mput (.t 14) (.t 16) (.t 17)),qm 18 14,qq 5 (.alloc 4032321 (.nilmp)),qs 1 5 18]
 (qS [qq 6 (.newArr 4032385)]
 (qT (.block 0 (.loop (qT (qS [ql 19 1 4,qn 20 19,qv 21 .gtr [] 20 0]
 (.cond (.t 21) .skip (.exit 0)))
 (.block 1 (qS [ql 22 1 4,ql 23 1 4,qn 24 23,qv 25 .sub [] 24 1,qi 26 1 22 25,ql 27 1 26,qm 7 27]
 (qS [ql 28 1 4,ql 29 1 4,qn 30 29,qv 31 .sub [] 30 1,qq 32 (.slice false 1 (.t 28) none (some (.t 31))),qs 1 4 32]
 (qS [qm 33 6,qm 34 7,qq 35 (.bsl 1 [.t 34]),qq 36 (.append 1 4 88 (.t 33) (.t 35)),qm 6 36]
 (qT (qS [qm 37 0,qm 38 7,qq 39 (.callM .f "Steps" (.t 37) [.t 38])]
 (.block 2 (.rangeF [] (.t 39) [40] (.ops [qq 8 (.alloc 4032515 (.agg [.int .i64 0,.int .i64 0,.int .u32 0])),qs 3 8 40]) (.block 3 (qS [ql 42 1 5,qf 43 2 8,ql 44 1 43,qq 45 (.mget true (.agg []) (.t 42) (.t 44)),qm 41 45,qq 46 (.extract (.t 41) 0),qq 47 (.extract (.t 41) 1),qq 9 (.alloc 4032576 (.agg [])),qs 0 9 46,qm 10 47]
 (qS [qm 48 10,qq 49 (.not (.t 48))]
 (.cond (.t 49) (qS [ql 50 1 5,qf 51 2 8,ql 52 1 51,qq 53 (.build [] []),.op none none (.mput (.t 50) (.t 52) (.t 53))]
 (.ops [ql 54 1 4,qf 55 2 8,ql 56 1 55,qq 57 (.bsl 1 [.t 56]),qq 58 (.append 1 4 88 (.t 54) (.t 57)),qs 1 4 58])) .skip)))))))
 (qS [ql 59 1 5,qq 60 (.mlen (.t 59)),qv 61 .gtr [] 60 2000]
 (.cond (.t 61) (.seq (.ops [qq 2 (.mov (.c (.sl .nil []))),qb 3 false]) .ret) .skip))))))))))
 (.seq (.ops [qm 62 6,qm 2 62,qb 3 true]) .ret))))))
def zgU:List RVar:=[.tmp 2,.tmp 3]
def zgV:Nat:=63
theorem zgW:zj PG 63 zgV zgU zgT=true:=by kernel_rfl
abbrev aE (w:Wd)(out:List W32)(g6:Nat):List (Nat × V):=[(0,.ifv 82 (.cptr .p (wdR w) 0)),(4,.bptr 4032257 0),(5,.bptr 4032321 0),(6,.msl 4032385 g6 0 out.length)]
structure SA where
 out:List W32
 st:List W32
 sn:List W32
 g6:Nat
 gen:Nat
 rows:List V
def aI {G:Type} (g0:G)(w:Wd)(out:List W32)(g6:Nat)(s:W32)(st sn:List W32)(rem:List (Nat × Int × W32))(x:RG G):Prop:=x.2.2=none∧x.2.1=g0∧∃ (st2 sn2:List W32)(gen2:Nat)(rows2:List V),x.1=zy (aS (out ++ [s]) st2 sn2 (g6 + 1) gen2 rows2)∧rows2.take st2.length=st2.map yk ∧
 zQ (st2,sn2) (rem.map fun e=>e.2.2)=zQ (st,sn) (xJ w s)
def zhv (w:Wd)(v:V)(σ':za):Prop:=match kJ w with
 | some l=>∃ g6,v=.tup [.msl 4032385 g6 0 l.length,.bool true]∧σ' = zy [(4032385,.arr g6 (l.map yk))]
 | none=>v=.tup [.sl .nil [],.bool false]
theorem zxd {G : Type} {H : HT G} {g : G} (w:Wd)(hl:w.ops.length≤1000000):Cc PG H 63 [.ifv 82 (.cptr .p (wdR w) 0)] [4032385] (zy []) g fun v σ' g'=>zhv w v σ'∧g' = g:=by
 have hS:=qd w
 refine CT.step _ zf zgW (fun nm h=>absurd rfl h) fun hM=>?_
 repeat (first|refine i_s rfl ?_|refine sw ?_)
 refine zlV rfl zrp rfl rfl rfl hS rfl ?_
 skip
 refine zfT rfl rfl rfl rfl ?_
 repeat (first|refine sw ?_|refine zl rfl ?_|refine zi rfl ?_)
 refine zoG rfl ?_
 repeat refine i_s rfl ?_
 refine zlV rfl zrp rfl rfl rfl hS rfl ?_
 repeat refine i_s rfl ?_
 refine zdF rfl rfl rfl rfl rfl rfl ?_
 repeat (first|refine i_s rfl ?_|refine sw ?_|refine zl rfl ?_|refine zi rfl ?_)
 refine zi1 rfl ?_
 repeat refine sw ?_
 refine x5 (fun q:SA=>aE w q.out q.g6) (fun q=>aS q.out q.st q.sn q.g6 q.gen q.rows) (fun q=>q.rows.take q.st.length=q.st.map yk∧AllInv w q.st q.sn q.out∧q.sn.length≤2000∧kJ w=q8 w (2002 - q.out.length) q.st q.sn q.out) (fun q=>2002 - q.out.length) ⟨[],[w.start],[w.start],0,0,[yk w.start]⟩
  ⟨rfl,⟨by simp,by simp,by simp,by simp,by simp,fun x hx=>by simp at hx;subst hx;exact .start,by simp,by simp,rfl⟩,by simp,rfl⟩ ft fun q hq=>?_
 obtain ⟨out,st,sn,g6,gen,rows⟩:=q
 obtain ⟨hrw,hI,hsn,hF⟩:=hq
 dsimp only at hrw hI hsn hF
 have hlen:=hI.len
 rcases List.eq_nil_or_concat st with rfl|⟨st',s,rfl⟩
 · have e:kJ w=some out:=by
    have hz:2002 - out.length=(2001 - out.length) + 1:=by simp at hlen;omega
    rw [hF,hz]
    rfl
   repeat' (first|refine i_s rfl ?_|refine uB rfl rfl rfl ?_|refine sw ?_|refine c_f rfl ?_)
   all_goals first
    | (exfalso;simp at *;done)
    | exact zb ⟨rfl,_,rfl,rfl,rfl,by unfold zhv;rw [e];exact ⟨g6,rfl,zu _ _⟩,rfl⟩
 · rw [List.concat_eq_append] at hrw hI hF hlen ⊢
   have hln:(st' ++ [s]).length=st'.length + 1:=by simp
   have hrow:rows[st'.length]? = some (yk s):=by
    have h9:=congrArg (fun l=>l[st'.length]?) hrw
    simp only [hln,List.map_append,List.map_cons,List.map_nil] at h9
    rw [List.getElem?_take,if_pos (by omega),List.getElem?_append_right (by simp),List.length_map,Nat.sub_self] at h9
    simpa using h9
   have hz:0 + (((st' ++ [s]).length:Int) - 1).toNat=st'.length:=by omega
   have hst:=qe w s
   have hol:out.length≤2000:=by omega
   have hpos:((st' ++ [s]).length:Int) > 0:=by omega
   repeat (first|refine i_s rfl ?_|refine uB rfl rfl rfl ?_|refine sw ?_)
   refine zd rfl (fun h=>?_) (fun h=>?_)
   rotate_left
   · exfalso
     simp at h
   clear h
   repeat (first|refine i_s rfl ?_|refine uB rfl rfl rfl ?_|refine sw ?_|refine jb rfl rfl ?_)
   refine yJ rfl rfl rfl rfl (by show 0≤((st' ++ [s]).length:Int) - 1;omega) (by show ((st' ++ [s]).length:Int) - 1 < ((st' ++ [s]).length:Nat);omega) rfl ?_
   refine xB (row:=yk s) rfl rfl rfl (by show rows[0 + (((st' ++ [s]).length:Int) - 1).toNat]? = _;rw [hz];exact hrow) rfl ?_
   repeat (first|refine i_s rfl ?_|refine uB rfl rfl rfl ?_|refine sw ?_|refine jb rfl rfl ?_)
   refine zrW (k1:=.i64) (m:=0) (n:=((st' ++ [s]).length:Int) - 1) (len:=(st' ++ [s]).length) rfl rfl rfl rfl rfl (by omega) (by omega) (by omega) rfl ?_
   have hm5:V.msl 4032833 gen (0 + (0:Int).toNat) ((((st' ++ [s]).length:Int) - 1).toNat - (0:Int).toNat)=V.msl 4032833 gen 0 st'.length:=by
    rw [show (((st' ++ [s]).length:Int) - 1).toNat - (0:Int).toNat=st'.length from by omega];rfl
   rw [hm5]
   repeat (first|refine i_s rfl ?_|refine sw ?_|refine zl rfl ?_)
   refine wJ [s] rfl rfl rfl rfl rfl (fun c _=>⟨rfl,rfl⟩) (by show (out.length + 1) * 4≤_;omega) (by show out.length + 1≤_;omega) ?_
   repeat (first|refine i_s rfl ?_|refine sw ?_)
   refine zlV rfl zv9 rfl rfl rfl hst rfl ?_
   repeat refine sw ?_
   refine qw (aE w (out ++ [s]) (g6 + 1)) (aS (out ++ [s]) st' sn (g6 + 1) gen rows) [4032833,4032896,4032257,4032321,4032385] [] (aS (out ++ [s]) st' sn (g6 + 1) gen rows) rfl
    ⟨⟨rfl,rfl,rfl,rfl,trivial⟩,⟨rfl,rfl,rfl,rfl,rfl,trivial⟩,rfl⟩ rfl rfl rfl rfl ?_
   have hr0:rows.take st'.length=st'.map yk:=by
    have h9:=congrArg (List.take st'.length) hrw
    rw [List.take_take,hln,Nat.min_eq_left (by omega),List.map_append,List.take_left' (by simp)] at h9
    exact h9
   have hst2:=ziM hI
   refine u3 ?_ (zlI w s (by omega) _ (aI g w out g6 s st' sn []) (zqj (aI g w out g6 s st' sn) ?_ (fun s h=>h) (w.steps s) _ ⟨rfl,rfl,st',sn,gen,rows,rfl,hr0,rfl⟩))
   · rintro v σ' x ⟨rfl, hx, hgx, st2, sn2, gen2,rows2,hσ2,hr2,hp2⟩
     obtain ⟨σx,gx,ox⟩:=x
     simp only at hx hσ2 hgx
     subst hx hσ2 hgx
     refine ⟨rfl,?_⟩
     have hp3:(st2,sn2)=zQ (st',sn) (xJ w s):=hp2
     rw [← hp3] at hst2
     have hF2:q8 w (2002 - out.length) (st' ++ [s]) sn out=if sn2.length > 2000 then none else q8 w (2001 - out.length) st2 sn2 (out ++ [s]):=by
      have hz2:2002 - out.length=(2001 - out.length) + 1:=by omega
      rw [hz2]
      simp only [q8,List.getLast?_concat,List.dropLast_concat]
      rw [← hp3]
     rw [hF2] at hF
     show WE _ _ _ _ _ .normal _ _ _
     repeat (first|refine i_s rfl ?_|refine sw ?_)
     refine zwI rfl ?_
     repeat (first|refine i_s rfl ?_|refine sw ?_)
     refine zd rfl (fun h=>?_) (fun h=>?_)
     · have hb : sn2.length > 2000 := by have:((sn2.map toI).length:Int) > 2000:=by simpa using h
                                         rw [List.length_map] at this
                                         omega
       have e:kJ w=none:=by rw [hF,if_pos hb]
       repeat (first|refine i_s rfl ?_|refine sw ?_)
       exact zb ⟨rfl,_,rfl,rfl,rfl,by unfold zhv;rw [e];rfl,rfl⟩
     · have hb : ¬ sn2.length > 2000 := by have:¬ ((sn2.map toI).length:Int) > 2000:=by simpa using h
                                           rw [List.length_map] at this
                                           omega
       rw [if_neg hb] at hF
       repeat refine sw ?_
       exact xL ⟨out ++ [s],st2,sn2,g6 + 1,gen2,rows2⟩ ⟨hr2,hst2,by show sn2.length≤2000;omega,by show kJ w=q8 w (2002 - (out ++ [s]).length) st2 sn2 (out ++ [s]);rw [hF,List.length_append,List.length_singleton];congr 1;omega⟩ (by show 2002 - (out ++ [s]).length < 2002 - out.length;rw [List.length_append,List.length_singleton];omega) ft
   · intro e r x hx K hk
     obtain ⟨σx,gx,ox⟩:=x
     obtain ⟨hx,hgx,st2,sn2,gen2,rows2,hσ2,hr2,hp2⟩:=hx
     simp only at hx hσ2 hgx
     subst hx hσ2 hgx
     refine w6 hM rfl ?_
     repeat (first|refine sw ?_|refine zl rfl ?_|refine zi rfl ?_)
     refine ym ?_
     show WC _ _ _ _ [] _ _ _ _
     repeat (first|refine i_s rfl ?_|refine sw ?_)
     refine zr0 rfl rfl rfl (zu3 sn2 e.2.2) ?_
     repeat (first|refine i_s rfl ?_|refine sw ?_|refine zl rfl ?_|refine zi rfl ?_)
     refine zd rfl (fun h=>?_) (fun h=>?_)
     · have hnm:e.2.2 ∉ sn2:=by simpa using h
       have hp3:xD (st2,sn2) e.2.2=(st2 ++ [e.2.2],sn2 ++ [e.2.2]):=by unfold xD;rw [if_neg hnm]
       have hp4:zQ (xD (st2,sn2) e.2.2) (r.map fun e=>e.2.2)=zQ (st',sn) (xJ w s):=hp2
       rw [hp3] at hp4
       have hle:st2.length≤2000000:=by
        have q1:=(zdz (r.map fun e=>e.2.2) (st2 ++ [e.2.2],sn2 ++ [e.2.2])).1
        have q2:=(zdz (xJ w s) (st',sn)).2
        have q3:=ztV w s
        rw [hp4] at q1
        simp only [List.length_append,List.length_singleton] at q1 q2 hlen
        omega
       repeat (first|refine i_s rfl ?_|refine sw ?_)
       refine zdF rfl rfl rfl rfl rfl (zu4 hnm) ?_
       repeat (first|refine i_s rfl ?_|refine sw ?_)
       refine ztd rfl rfl rfl rfl rfl (fun row hr=>by rw [List.mem_singleton.1 hr];exact ⟨rfl,rfl⟩) (by show (st2.length + 1) * 4≤_;omega) (by show st2.length + 1≤_;omega) ?_
       repeat (first|refine sw ?_|refine zl rfl ?_)
       refine ym ?_
       refine ko rfl rfl (hk _ ⟨rfl,rfl,st2 ++ [e.2.2],sn2 ++ [e.2.2],gen2 + 1,rows2.take st2.length ++ [yk e.2.2],?_,?_,hp4⟩)
       · rw [show aS (out ++ [s]) (st2 ++ [e.2.2]) (sn2 ++ [e.2.2]) (g6 + 1) (gen2 + 1) (rows2.take st2.length ++ [yk e.2.2])=[(4032833,.arr (gen2 + 1) (rows2.take st2.length ++ [yk e.2.2])),(4032896,.mp .u32 ((sn2 ++ [e.2.2]).map toI) ((sn2 ++ [e.2.2]).map fun _=>zfc)),(4032257,.box (.msl 4032833 (gen2 + 1) 0 (st2.length + 1))),(4032321,.box (.mp 4032896)),(4032385,.arr (g6 + 1) ((out ++ [s]).map yk))] from by simp only [aS,List.length_append,List.length_singleton]]
         rfl
       · rw [hr2,List.take_of_length_le (by simp)]
         simp
     · have hnm:e.2.2∈sn2:=by simpa using h
       have hp3:xD (st2,sn2) e.2.2=(st2,sn2):=by unfold xD;rw [if_pos hnm]
       have hp4:zQ (xD (st2,sn2) e.2.2) (r.map fun e=>e.2.2)=zQ (st',sn) (xJ w s):=hp2
       rw [hp3] at hp4
       repeat refine sw ?_
       refine ym ?_
       exact ko rfl rfl (hk _ ⟨rfl,rfl,st2,sn2,gen2,rows2,rfl,hr2,hp4⟩)
end Hm
end
section
namespace Hm
open Go
set_option maxRecDepth 100000
set_option maxHeartbeats 4000000
section
variable {G:Type}{P:Program}{H:HT G}{pn:List Nat}{Q:Exit→Env→za→G→Prop}{fs:List (Frm G)}{ρ:Env}{σ:za}{g:G}{a b:Cmd}{r:List GItem}{d:Nat}
theorem ziO:∀ l:List Nat,yA [] l=l
 | []=>rfl
 | n :: r=>by
  show n :: yA [] r=n :: r
  rw [ziO r]
theorem zu5 {ps:List Nat}{f:Opd}{fid:Nat}{caps:List V} (ns:List Nat)(E:List (Nat × V))(hf:ev ρ f=.fn fid caps)(hE:zg6 E ρ)(hcl:Cl ns σ)(hout:∀ nm,σ nm≠.zc→nm∈ns)(hpn:∀ n∈pn,n∈ns)(hcE:zX ns E=true)(hcaps:(zW [] caps && vh caps)=true)
  (hc:Cc P (RH P H ns a b ps E) fid (.rnd :: caps) [] (zy []) (σ,g,none) (fun _ _ st=>match st.2.2 with
    | none=>WE P H pn Q fs .normal (yZ E) st.1 st.2.1
    | some e=>WE P H pn Q fs e (yZ E) st.1 st.2.1)) :
  WC P H pn Q fs (.rangeF [] f ps a b) ρ σ g:=by
 have e1:yA [] ((lsn ns σ).map (·.1))=ns:=by rw [zrd,ziO]
 have e2:restr ns (zy (lsn ns σ))=σ:=by rw [vc,yY (fun nm h=>yC nm h),yY hout]
 rw [Bool.and_eq_true] at hcaps
 refine zq3 E (lsn ns σ) hf (x6 hE (fun _ _=>rfl) hcE hcl hpn) ?_ ?_
 · rw [e1,hcaps.1,hcaps.2,hcE]
   have h3:zF ns (zy (lsn ns σ)) ns=true:=by rw [vc];exact hcl.restr
   rw [h3]
   rfl
 · rw [e1,e2]
   have e3:restr [] (zy (lsn ns σ))=zy []:=rfl
   rw [e3]
   refine u3 (fun v σ1 st h=>⟨rfl,?_⟩) hc
   have e4:merge [] st.1 σ1=st.1:=rfl
   rw [e4]
   exact h
theorem zxe {n:Nat}{v:V}{x:Opd} (hx:ev ρ x=v)(hv:(v=.sl .nil []∧n=0)∨∃ b c,v=.rsl b n c)(h:WI P H pn Q fs r (upd ρ d (.int .i64 n)) σ g):WI P H pn Q fs (.op (some d) none (.len false x) :: r) ρ σ g:=by
 rcases hv with ⟨rfl,rfl⟩|⟨b,c,rfl⟩
 · exact i_s (by simp only [sop,hx];rfl) h
 · exact i_s (by simp only [sop,hx]) h
theorem ztW {ns:List Nat}{K:V→RG G→Prop} (hcl:Cl ns σ)(h:K (.bool true) (restr ns σ,g,none)):rhQ ns K .normal ρ σ g :=
 ko hcl rfl (by rw [← zu];exact h)
end
theorem zgX:∀ a b:List V,zU (a ++ b)=zU a ++ zU b
 | [],_=>rfl
 | x :: a,b=>by rw [List.cons_append,zU,zU,zgX a b,List.append_assoc]
structure BL where
 to:W32
 nm:Nat
 b:Nat
 c:Nat
 box:List V
def v2 (a:W32 × Int):V:=.agg [.int .u32 a.1.toNat,.int .i64 a.2]
theorem zrq (l:List (W32 × Int)):∀ row∈l.map v2,row.cells.length=2:=fun row h=>by
 obtain ⟨a,_,rfl⟩:=List.mem_map.1 h
 rfl
structure BLok (σ:za)(A:List Arc)(v:BL):Prop where
 hs:σ v.nm=.box (.tag v.b v.box)
 hl:v.box.length=v.c * 2
 hle:(yj A v.to).length≤v.c
 ht:v.box.take ((yj A v.to).length * 2)=zU ((yj A v.to).map v2)
 hp:∀ u∈v.box,zP u=true
structure BkF (A:List Arc)(F:Int→Option V)(bl:List BL):Prop where
 here:∀ v∈bl,F (v.to.toNat:Int)=some (.rsl v.b (yj A v.to).length v.c)
 gone:∀ t:W32,(∀ v∈bl,v.to≠t)→F (t.toNat:Int)=none∧yj A t=[]
theorem zxf {σ:za}{A:List Arc}{v:BL} (h:BLok σ A v) {j:Nat}{u:W32}{c:Int} (hj:(yj A v.to)[j]? = some (u,c)):fzA (xe true 2 ((j:Int).toNat * 2) (.agg v.box))=some (v2 (u,c)):=by
 rw [Int.toNat_natCast]
 have hlt:=yn hj
 have hle:=h.hle
 have hl:=h.hl
 have hrow:((yj A v.to).map v2)[j]? = some (v2 (u,c)):=by rw [List.getElem?_map,hj];rfl
 have h0:v.box[j * 2]? = some (.int .u32 u.toNat):=by
  have h1:=zg8 (zrq _) hrow (j:=0) (v:=.int .u32 u.toNat) rfl
  rw [← h.ht,List.getElem?_take,if_pos (by omega)] at h1
  exact h1
 have h1:v.box[j * 2 + 1]? = some (.int .i64 c):=by
  have h1:=zg8 (zrq _) hrow (j:=1) (v:=.int .i64 c) rfl
  rw [← h.ht,List.getElem?_take,if_pos (by omega)] at h1
  exact h1
 have e:(v.box.drop (j * 2)).take 2=[.int .u32 u.toNat,.int .i64 c]:=by
  obtain ⟨q0,e0⟩:=List.getElem?_eq_some_iff.1 h0
  obtain ⟨q1,e1⟩:=List.getElem?_eq_some_iff.1 h1
  rw [List.drop_eq_getElem_cons q0,List.drop_eq_getElem_cons q1,e0,e1]
  rfl
 have hb:xe true 2 (j * 2) (.agg v.box)=some (v2 (u,c)):=by
  have hle2:Nat.ble (j * 2 + 2) v.box.length=true:=Nat.ble_eq_true_of_le (by omega)
  generalize j * 2=m at *
  cases m with
  | zero =>
   show (bif Nat.beq 2 v.box.length then some (V.agg v.box) else bif Nat.ble 2 v.box.length then some (.agg (v.box.take 2)) else none)=_
   rw [List.drop_zero] at e
   have hle3:Nat.ble 2 v.box.length=true:=hle2
   by_cases c2:Nat.beq 2 v.box.length=true
   · rw [c2]
     have:=Nat.eq_of_beq_eq_true c2
     rw [List.take_of_length_le (by omega)] at e
     simp only [cond_true,e]
     rfl
   · rw [Bool.eq_false_iff.2 c2,hle3]
     simp only [cond_true,cond_false,e]
     rfl
  | succ m =>
   show (bif Nat.ble (m + 1 + 2) v.box.length then some (V.agg ((v.box.drop (m + 1)).take 2)) else none)=_
   rw [hle2]
   simp only [cond_true,e]
   rfl
 rw [hb]
 exact zhj _
def zot:Cmd :=
 (qS [qq 4 (.mov (.c (.nilmp)))]
 (qS [qq 16 (.mkMap 1985024 .u32),qq 5 (.alloc 1984321 (.nilmp)),qs 1 5 16]
 (qS [qq 17 (.mkMap 1985088 .u32),qm 6 17]
 (.seq (.ops [qq 18 (.call .d (.c (.fn 67 [])) []),qm 7 18]) (.tagb 7 (.cut (qT (qS [qm 19 1,qn 20 19,qc 21 0]
 (.block 0 (.loop (qS [qu 22 .lss [] 21 20]
 (qT (.cond (.t 22) .skip (.exit 0))
 (qT (.block 1 (qS [qi 23 1 19 21,ql 24 1 23,qq 9 (.alloc 1984577 (.int .u32 0)),qs 1 9 24]
 (qS [qm 25 6,ql 26 1 9,.op none none (.mput (.t 25) (.t 26) (.c (.int .i64 1000000000)))]
 (qT (qS [qm 27 0,ql 28 1 9,qk 29 68 [27,28]]
 (.cond (.t 29) (qS [qm 30 6,ql 31 1 9,.op none none (.mput (.t 30) (.t 31) (.c (.int .i64 0)))]
 (.ops [qm 32 7,ql 33 1 9,qq 34 (.call .d (.c (.fn 69 [])) [.t 32,.t 33,.c (.int .i64 0)])])) .skip))
 (qS [qm 35 0,ql 36 1 9,qk 37 70 [35,36]]
 (.block 2 (.rangeF [] (.t 37) [38] (.ops [qq 10 (.alloc 1984643 (.agg [.int .i64 0,.int .i64 0,.int .u32 0])),qs 3 10 38]) (.block 3 (.opsT (.node 0 12 (.node 1 12 (.node 2 12 (.leaf [0,1,2,3,4,5,6,7,8,9,10,11,12,13]) (.leaf [0,1,3,4,5,6,7,8,9,10,11,12,2,13])) (.leaf [0,3,4,5,6,7,8,9,10,11,12,1,2,13])) (.node 1 12 (.node 2 12 (.leaf [1,2,3,4,5,6,7,8,9,10,11,12,0,13]) (.leaf [1,3,4,5,6,7,8,9,10,11,12,0,2,13])) (.leaf [3,4,5,6,7,8,9,10,11,12,0,1,2,13]))) [ql 39 1 5,qf 40 2 10,ql 41 1 40,ql 42 1 5,qf 43 2 10,ql 44 1 43,qq 45 (.mget false (.sl .nil []) (.t 42) (.t 44)),ql 46 1 9,qf 47 1 10,ql 48 1 47,qq 49 (.build [.int .u32 0,.int .i64 0] [(0 ,1 ,.t 46),(1 ,1 ,.t 48)]),qq 50 (.bsl 2 [.t 49]),qq 51 (.appR 2 16 157 (.t 45) (.t 50)),.op none none (.mput (.t 39) (.t 41) (.t 51))])))))))))
 (.ops [qv 52 .add [] 21 1,qm 21 52])))))))
 (qT (.block 4 (.loop (qT (qS [qm 53 7,qq 54 (.call .d (.c (.fn 71 [])) [.t 53]),qv 55 .gtr [] 54 0]
 (.cond (.t 55) .skip (.exit 4)))
 (.block 5 (qS [qm 57 7,qq 58 (.call .d (.c (.fn 72 [])) [.t 57]),qm 56 58,qq 59 (.extract (.t 56) 0),qq 60 (.extract (.t 56) 1),qq 61 (.extract (.t 56) 2),qm 11 59,qm 12 60,qm 13 61]
 (qS [ql 62 1 5,qm 63 11,qq 64 (.mget false (.sl .nil []) (.t 62) (.t 63)),qn 65 64,qc 66 0]
 (.block 6 (.loop (qS [qu 67 .lss [] 66 65]
 (qT (.cond (.t 67) .skip (.exit 6))
 (qT (.block 7 (qS [qi 68 2 64 66,qL 69 2 68,qq 15 (.alloc 1984962 (.agg [.int .u32 0,.int .i64 0])),qs 2 15 69]
 (qS [qm 70 12,qf 71 1 15,ql 72 1 71,qu 73 .add [] 70 72,qm 74 6,qf 75 0 15,ql 76 1 75,qq 77 (.mget false (.int .i64 0) (.t 74) (.t 76)),qu 78 .lss [] 73 77]
 (.cond (.t 78) (qS [qm 79 6,qf 80 0 15,ql 81 1 80,qm 82 12,qf 83 1 15,ql 84 1 83,qu 85 .add [] 82 84,.op none none (.mput (.t 79) (.t 81) (.t 85))]
 (.ops [qm 86 7,qf 87 0 15,ql 88 1 87,qm 89 12,qf 90 1 15,ql 91 1 90,qu 92 .add [] 89 91,qq 93 (.call .d (.c (.fn 69 [])) [.t 86,.t 88,.t 92])])) .skip))))
 (.ops [qv 94 .add [] 66 1,qm 66 94]))))))))))))
 (.seq (.ops [qm 95 6,qm 4 95]) .ret)))))))))
def zou:List RVar:=[.tmp 4]
def zov:Nat:=96
theorem zow:zj PG 31 zov zou zot=true:=by kernel_rfl
abbrev n5:Nat:=1984321
abbrev nB:Nat:=1985024
abbrev nO:Nat:=1985088
abbrev n9:Nat:=1984577
abbrev nX:Nat:=1984643
abbrev nY:Nat:=1984962
structure CD where
 q:HS
 bl:List BL
 A:List Arc
 ks:List W32
 o:W32→Int
def CD.names (c:CD):List Nat:=n5 :: nB :: nO :: (c.q.names ++ c.bl.map BL.nm)
def uV (ks:List W32)(o:W32→Int):Blk:=.mp .u32 (ks.map toI) (ks.map fun s=>zk (o s))
theorem zlJ {ks:List W32}{o o':W32→Int} (h:∀ s∈ks,o s=o' s):uV ks o=uV ks o':=by
 unfold uV
 congr 1
 exact List.map_congr_left fun s hs=>by rw [h s hs]
theorem zrr {ks:List W32}{o:W32→Int}{s:W32}:s∈ks→xf (ks.map toI) (ks.map fun s=>zk (o s)) (toI s)=some (zk (o s)):=by
 induction ks with
 | nil=>intro h;cases h
 | cons x r ih =>
  intro h
  rw [List.map_cons,List.map_cons,xY]
  by_cases e:toI x=toI s
  · rw [if_pos e,zmX e]
  · rw [if_neg e]
    rcases List.mem_cons.1 h with rfl|h
    · exact absurd rfl e
    · exact ih h
theorem zqk {ks:List W32}{o:W32→Int}{s:W32}{v:Int}:(s ∉ ks→xM (ks.map toI) (ks.map fun s=>zk (o s)) (toI s) (zk v)=((ks ++ [s]).map toI,(ks ++ [s]).map fun x=>zk (yH o s v x))) ∧
  (s∈ks→ks.Nodup→xM (ks.map toI) (ks.map fun s=>zk (o s)) (toI s) (zk v)=(ks.map toI,ks.map fun x=>zk (yH o s v x))):=by
 have hs:yH o s v s=v:=by unfold yH;rw [if_pos rfl]
 have hne:∀ x,x≠s→yH o s v x=o x:=fun x h=>by unfold yH;rw [if_neg h]
 induction ks with
 | nil=>exact ⟨fun _=>by simp [xM,hs],fun h=>by cases h⟩
 | cons x r ih =>
  have key:∀ (h:x≠s),toI x≠toI s:=fun h e=>h (zmX e)
  refine ⟨fun h=>?_,fun h hn=>?_⟩
  · have hx:x≠s:=fun e=>h (by simp [e])
    have ih1:=ih.1 fun hm=>h (by simp [hm])
    simp only [List.map_cons,xM,if_neg (key hx),ih1,List.cons_append,hne x hx]
  · have hn':=List.nodup_cons.1 hn
    by_cases hx:x=s
    · subst hx
      have e:r.map (fun y=>zk (yH o x v y))=r.map fun y=>zk (o y):=List.map_congr_left fun y hy=>by rw [hne y (fun e=>hn'.1 (e ▸ hy))]
      simp only [List.map_cons,xM,if_true,hs,e]
    · have ih2:=ih.2 ((List.mem_cons.1 h).resolve_left fun e=>hx e.symm) hn'.2
      simp only [List.map_cons,xM,if_neg (key hx),ih2,hne x hx]
theorem zwa {ks:List W32}{o:W32→Int}{s:W32}{v:Int} (h:s ∉ ks):jz .u32 (ks.map toI) (ks.map fun s=>zk (o s)) (toI s) (.int .i64 v)=uV (ks ++ [s]) (yH o s v):=by
 have e:=(zqk (o:=o) (v:=v)).1 h
 refine (zev .u32 (toI s) (zk v) _ _ (by simp)).trans ?_
 rw [e]
 rfl
theorem zrs {ks:List W32}{o:W32→Int}{s:W32}{v:Int} (h:s∈ks)(hn:ks.Nodup):jz .u32 (ks.map toI) (ks.map fun s=>zk (o s)) (toI s) (.int .i64 v)=uV ks (yH o s v):=by
 have e:=(zqk (o:=o) (v:=v)).2 h hn
 refine (zev .u32 (toI s) (zk v) _ _ (by simp)).trans ?_
 rw [e]
 rfl
structure CI (σ:za)(c:CD):Prop where
 h5:σ n5=.box (.mp nB)
 bk:∃ F,MP (σ nB) F∧BkF c.A F c.bl
 ho:σ nO=uV c.ks c.o
 hq:QIn σ c.q
 bl:∀ v∈c.bl,BLok σ c.A v
 nd:c.names.Nodup
 av:n9 ∉ c.names∧nX ∉ c.names∧nY ∉ c.names
 bto:(c.bl.map BL.to).Nodup
 bll:c.bl.length≤c.A.length
section
variable {ns:List Nat}{σ σ':za}{c:CD}
theorem CD.in5 (c:CD):n5∈c.names:=by simp [CD.names]
theorem CD.inB (c:CD):nB∈c.names:=by simp [CD.names]
theorem CD.inO (c:CD):nO∈c.names:=by simp [CD.names]
theorem CD.inq (c:CD) {n:Nat} (h:n∈c.q.names):n∈c.names:=by simp [CD.names,h]
theorem CD.inbl (c:CD) {v:BL} (h:v∈c.bl):v.nm∈c.names:=by
 unfold CD.names
 simp only [List.mem_cons,List.mem_append]
 exact .inr (.inr (.inr (.inr (List.mem_map.2 ⟨v,h,rfl⟩))))
theorem CI.congr (h:CI σ c)(he:∀ n∈c.names,σ' n=σ n):CI σ' c :=
 ⟨(he _ c.in5).trans h.h5,by rw [he _ c.inB];exact h.bk,(he _ c.inO).trans h.ho,h.hq.congr fun n hn=>he n (c.inq hn),fun v hv=>⟨(he _ (c.inbl hv)).trans (h.bl v hv).hs,(h.bl v hv).hl,(h.bl v hv).hle,(h.bl v hv).ht,(h.bl v hv).hp⟩,h.nd,h.av,h.bto,h.bll⟩
theorem CI.cl (h:CI σ c)(hsub:∀ n∈c.names,n∈ns)(hx:∀ n∈ns,n ∉ c.names→∀ row,σ n=.box row→zt ns row=true):Cl ns σ:=(z6 _ _ _).2 fun n hn row hr=>by
 by_cases hm:n∈c.names
 · simp only [CD.names,List.mem_cons,List.mem_append] at hm
   rcases hm with rfl|rfl|rfl|hm|hm
   · rw [h.h5] at hr
     cases hr
     exact un (hsub _ c.inB)
   · obtain ⟨F,hF,_⟩:=h.bk
     exact (hF.box row hr).elim
   · rw [h.ho] at hr
     cases hr
   · exact h.hq.closed (fun n hn=>hsub n (c.inq hn)) hm hr
   · obtain ⟨v,hv,rfl⟩:=List.mem_map.1 hm
     rw [(h.bl v hv).hs] at hr
     cases hr
     exact kL ns (h.bl v hv).hp
 · exact hx n hn hm row hr
theorem CI.nd2 (h:CI σ c):(c.q.names ++ c.bl.map BL.nm).Nodup∧n5 ∉ c.q.names ++ c.bl.map BL.nm∧nB ∉ c.q.names ++ c.bl.map BL.nm∧nO ∉ c.q.names ++ c.bl.map BL.nm:=by
 have h1:=List.nodup_cons.1 h.nd
 have h2:=List.nodup_cons.1 h1.2
 have h3:=List.nodup_cons.1 h2.2
 exact ⟨h3.2,fun k=>h1.1 (by simp only [List.mem_cons];exact .inr (.inr k)),fun k=>h2.1 (by simp only [List.mem_cons];exact .inr k),h3.1⟩
theorem zql {l:List Nat} (h:l.Nodup)(h5:n5 ∉ l)(hB:nB ∉ l)(hO:nO ∉ l):(n5 :: nB :: nO :: l).Nodup:=by
 refine List.nodup_cons.2 ⟨?_,List.nodup_cons.2 ⟨?_,List.nodup_cons.2 ⟨hO,h⟩⟩⟩
 · simp only [List.mem_cons,not_or]
   exact ⟨by decide,by decide,h5⟩
 · simp only [List.mem_cons,not_or]
   exact ⟨by decide,hB⟩
theorem CI.out (h:CI σ c) {ks:List W32}{o:W32→Int}:CI (ups σ nO (uV ks o)) { c with ks:=ks,o:=o }:=by
 obtain ⟨k1,k2,k3,k4⟩:=h.nd2
 have hne:∀ n∈c.q.names ++ c.bl.map BL.nm,n≠nO:=fun n hn e=>k4 (e ▸ hn)
 refine ⟨(ze _ _ (by decide)).trans h.h5,?_,zn _ _ _,h.hq.congr fun n hn=>ze _ _ (hne n (List.mem_append_left _ hn)),fun v hv=>⟨(ze _ _ (hne _ (List.mem_append_right _ (List.mem_map.2 ⟨v,hv,rfl⟩)))).trans (h.bl v hv).hs,(h.bl v hv).hl,(h.bl v hv).hle,(h.bl v hv).ht,(h.bl v hv).hp⟩,h.nd,h.av,h.bto,h.bll⟩
 rw [ze _ _ (by decide)]
 exact h.bk
theorem CI.oext (h:CI σ c) {o:W32→Int} (he:∀ s∈c.ks,c.o s=o s):CI σ { c with o:=o } :=
 ⟨h.h5,h.bk,h.ho.trans (zlJ he),h.hq,h.bl,h.nd,h.av,h.bto,h.bll⟩
theorem CI.queue (h:CI σ c) {f:List Nat}{q':HS}{σq:za} (hf:∀ n∈f,n ∉ c.names∧n≠n9∧n≠nX∧n≠nY)(hk:QOk (f ++ c.q.names) σq q'):CI (merge (f ++ c.q.names) σ σq) { c with q:=q' }:=by
 obtain ⟨k1,k2,k3,k4⟩:=h.nd2
 obtain ⟨m1,m2⟩:=hk.any.nd
 have hd:=List.nodup_append.1 k1
 have hoff:∀ n∈c.names,n ∉ c.q.names→n ∉ f ++ c.q.names:=fun n hn h1 hm=>by
  rcases List.mem_append.1 hm with h2|h2
  · exact (hf n h2).1 hn
  · exact h1 h2
 have hbl:∀ v∈c.bl,v.nm ∉ f ++ c.q.names:=fun v hv=>hoff _ (c.inbl hv) fun hm=>hd.2.2 _ hm _ (List.mem_map.2 ⟨v,hv,rfl⟩) rfl
 have o5:n5 ∉ f ++ c.q.names:=hoff _ c.in5 fun hm=>k2 (List.mem_append_left _ hm)
 have oB:nB ∉ f ++ c.q.names:=hoff _ c.inB fun hm=>k3 (List.mem_append_left _ hm)
 have oO:nO ∉ f ++ c.q.names:=hoff _ c.inO fun hm=>k4 (List.mem_append_left _ hm)
 have hav:∀ n,(n=n9∨n=nX∨n=nY)→n ∉ c.names→n ∉ CD.names { c with q:=q' }:=fun n he hn hm=>by
  have hm:n∈n5 :: nB :: nO :: (q'.names ++ c.bl.map BL.nm):=hm
  simp only [List.mem_cons,List.mem_append] at hm
  have hn':¬ (n=n5∨n=nB∨n=nO∨n∈c.q.names∨n∈c.bl.map BL.nm):=by
   simp only [CD.names,List.mem_cons,List.mem_append] at hn
   exact hn
  rcases hm with h1|h1|h1|h1|h1
  · exact hn' (.inl h1)
  · exact hn' (.inr (.inl h1))
  · exact hn' (.inr (.inr (.inl h1)))
  · rcases List.mem_append.1 (m2 n h1) with h2|h2
    · obtain ⟨_,q1,q2,q3⟩:=hf n h2
      rcases he with e|e|e
      · exact q1 e
      · exact q2 e
      · exact q3 e
    · exact hn' (.inr (.inr (.inr (.inl h2))))
  · exact hn' (.inr (.inr (.inr (.inr h1))))
 refine ⟨(vP o5).trans h.h5,?_,(vP oO).trans h.ho,QIn.of hk fun n hn=>zi7 (m2 n hn),fun v hv=>⟨(vP (hbl v hv)).trans (h.bl v hv).hs,(h.bl v hv).hl,(h.bl v hv).hle,(h.bl v hv).ht,(h.bl v hv).hp⟩,zql ?_ ?_ ?_ ?_,⟨hav _ (.inl rfl) h.av.1,hav _ (.inr (.inl rfl)) h.av.2.1,hav _ (.inr (.inr rfl)) h.av.2.2⟩,h.bto,h.bll⟩
 · rw [vP oB]
   exact h.bk
 · refine List.nodup_append.2 ⟨m1,hd.2.1,fun a ha b hb e=>?_⟩
   obtain ⟨v,hv,rfl⟩:=List.mem_map.1 hb
   exact hbl v hv (e ▸ m2 a ha)
 · intro hm
   rcases List.mem_append.1 hm with h1|h1
   · exact o5 (m2 _ h1)
   · exact k2 (List.mem_append_right _ h1)
 · intro hm
   rcases List.mem_append.1 hm with h1|h1
   · exact oB (m2 _ h1)
   · exact k3 (List.mem_append_right _ h1)
 · intro hm
   rcases List.mem_append.1 hm with h1|h1
   · exact oO (m2 _ h1)
   · exact k4 (List.mem_append_right _ h1)
theorem CI.arc (h:CI σ c) {F:Int→Option V} (hF:MP (σ nB) F)(hB:BkF c.A F c.bl)(t u:W32)(k:Int)(v':BL)(hto:v'.to=t)(hnm:v'.nm ∉ n5 :: nB :: nO :: (c.q.names ++ (c.bl.filter fun v=>v.to != t).map BL.nm))(hav:v'.nm≠n9∧v'.nm≠nX∧v'.nm≠nY)
  (hl:v'.box.length=v'.c * 2)(hle:(yj c.A t).length + 1≤v'.c)(ht:v'.box.take ((yj c.A t).length * 2)=zU ((yj c.A t).map v2))(hr:(v'.box.drop ((yj c.A t).length * 2)).take 2=(v2 (u,k)).cells)(hp:∀ u∈v'.box,zP u=true)
  {bB:Blk} (hbB:MP bB fun m=>if m=t.toNat then some (.rsl v'.b ((yj c.A t).length + 1) v'.c) else F m)(hσ:∀ n,σ' n=if n=nB then bB else if n=v'.nm then .box (.tag v'.b v'.box) else σ n) :
  CI σ' { c with bl:=v' :: c.bl.filter fun v=>v.to != t,A:=c.A ++ [(t,u,k)] }:=by
 obtain ⟨k1,k2,k3,k4⟩:=h.nd2
 have hd:=List.nodup_append.1 k1
 simp only [List.mem_cons,List.mem_append,not_or] at hnm
 obtain ⟨q5,qB,qO,qq,qb⟩:=hnm
 have e1:yj (c.A ++ [(t,u,k)]) t=yj c.A t ++ [(u,k)]:=by rw [znR,if_pos rfl]
 have e2:∀ s,s≠t→yj (c.A ++ [(t,u,k)]) s=yj c.A s:=fun s hs=>by rw [znR,if_neg (fun e=>hs e.symm),List.append_nil]
 have hfl:∀ v∈c.bl.filter (fun v=>v.to != t),v∈c.bl∧v.to≠t:=fun v hv=>by
  obtain ⟨h1,h2⟩:=List.mem_filter.1 hv
  exact ⟨h1,by simpa using h2⟩
 have hsl:((c.bl.filter fun v=>v.to != t).map BL.nm).Sublist (c.bl.map BL.nm):=List.filter_sublist.map _
 refine ⟨?_,⟨fun m=>if m=t.toNat then some (.rsl v'.b ((yj c.A t).length + 1) v'.c) else F m,?_,?_⟩,?_,?_,fun v hv=>?_,zql ?_ ?_ ?_ ?_,?_,?_,?_⟩
 · rw [hσ,if_neg (by decide),if_neg (fun e=>q5 e.symm)]
   exact h.h5
 · rw [hσ,if_pos rfl]
   exact hbB
 · refine ⟨fun v hv=>?_,fun s hs=>?_⟩
   · rcases List.mem_cons.1 hv with rfl|hv
     · show (if (v.to.toNat:Int)=t.toNat then _ else _)=_
       rw [hto,if_pos rfl,e1,List.length_append]
       rfl
     · obtain ⟨h1,h2⟩:=hfl v hv
       show (if (v.to.toNat:Int)=t.toNat then _ else _)=_
       rw [if_neg (fun e=>h2 (jt e)),e2 _ h2]
       exact hB.here v h1
   · have hst:s≠t:=fun e=>hs v' (by simp) (hto.trans e.symm)
     obtain ⟨h1,h2⟩:=hB.gone s fun v hv e=>hs v (List.mem_cons_of_mem _ (List.mem_filter.2 ⟨hv,by simpa using fun e2:v.to=t=>hst (e.symm.trans e2)⟩)) e
     refine ⟨(if_neg fun e=>hst (jt e)).trans h1,?_⟩
     show yj (c.A ++ [(t,u,k)]) s=[]
     rw [e2 s hst]
     exact h2
 · rw [hσ,if_neg (by decide),if_neg (fun e=>qO e.symm)]
   exact h.ho
 · refine h.hq.congr fun n hn=>?_
   rw [hσ,if_neg (fun (e:n=nB)=>k3 (e ▸ List.mem_append_left _ hn)),if_neg (fun (e:n=v'.nm)=>qq (e ▸ hn))]
 · rcases List.mem_cons.1 hv with rfl|hv
   · refine ⟨?_,hl,?_,?_,hp⟩
     · rw [hσ,if_neg qB,if_pos rfl]
     · show (yj (c.A ++ [(t,u,k)]) v.to).length≤_
       rw [hto,e1,List.length_append]
       exact hle
     · show v.box.take ((yj (c.A ++ [(t,u,k)]) v.to).length * 2)=zU ((yj (c.A ++ [(t,u,k)]) v.to).map v2)
       rw [hto,e1,List.length_append,List.map_append,zgX,← ht]
       have e3:zU ([(u,k)].map v2)=(v2 (u,k)).cells:=List.append_nil _
       rw [e3,← hr,List.length_singleton,Nat.add_mul,Nat.one_mul]
       exact List.take_add
   · obtain ⟨h1,h2⟩:=hfl v hv
     have hb:=h.bl v h1
     have hbk:yj (c.A ++ [(t,u,k)]) v.to=yj c.A v.to:=e2 _ h2
     have hm:v.nm∈c.bl.map BL.nm:=List.mem_map.2 ⟨v,h1,rfl⟩
     refine ⟨?_,hb.hl,by show (yj (c.A ++ [(t,u,k)]) v.to).length≤_;rw [hbk];exact hb.hle,by show v.box.take ((yj (c.A ++ [(t,u,k)]) v.to).length * 2)=_;rw [hbk];exact hb.ht,hb.hp⟩
     rw [hσ,if_neg (fun (e:v.nm=nB)=>k3 (e ▸ List.mem_append_right _ hm)),if_neg (fun (e:v.nm=v'.nm)=>qb (e ▸ List.mem_map.2 ⟨v,hv,rfl⟩))]
     exact hb.hs
 · show (c.q.names ++ (v'.nm :: (c.bl.filter fun v=>v.to != t).map BL.nm)).Nodup
   refine List.nodup_append.2 ⟨hd.1,List.nodup_cons.2 ⟨qb,hsl.nodup hd.2.1⟩,fun a ha b hb e=>?_⟩
   rcases List.mem_cons.1 hb with rfl|hb
   · exact qq (e ▸ ha)
   · exact hd.2.2 a ha b (hsl.subset hb) e
 · show n5 ∉ c.q.names ++ (v'.nm :: (c.bl.filter fun v=>v.to != t).map BL.nm)
   intro hm
   rcases List.mem_append.1 hm with h1|h1
   · exact k2 (List.mem_append_left _ h1)
   · rcases List.mem_cons.1 h1 with h1|h1
     · exact q5 h1.symm
     · exact k2 (List.mem_append_right _ (hsl.subset h1))
 · show nB ∉ c.q.names ++ (v'.nm :: (c.bl.filter fun v=>v.to != t).map BL.nm)
   intro hm
   rcases List.mem_append.1 hm with h1|h1
   · exact k3 (List.mem_append_left _ h1)
   · rcases List.mem_cons.1 h1 with h1|h1
     · exact qB h1.symm
     · exact k3 (List.mem_append_right _ (hsl.subset h1))
 · show nO ∉ c.q.names ++ (v'.nm :: (c.bl.filter fun v=>v.to != t).map BL.nm)
   intro hm
   rcases List.mem_append.1 hm with h1|h1
   · exact k4 (List.mem_append_left _ h1)
   · rcases List.mem_cons.1 h1 with h1|h1
     · exact qO h1.symm
     · exact k4 (List.mem_append_right _ (hsl.subset h1))
 · have key:∀ n,v'.nm≠n→n ∉ c.names→n ∉ n5 :: nB :: nO :: (c.q.names ++ (v'.nm :: (c.bl.filter fun v=>v.to != t).map BL.nm)):=fun n hn h1 hm=>by
    simp only [CD.names,List.mem_cons,List.mem_append,not_or] at h1
    simp only [List.mem_cons,List.mem_append] at hm
    rcases hm with h2|h2|h2|h2|h2|h2
    · exact h1.1 h2
    · exact h1.2.1 h2
    · exact h1.2.2.1 h2
    · exact h1.2.2.2.1 h2
    · exact hn h2.symm
    · exact h1.2.2.2.2 (hsl.subset h2)
   exact ⟨key _ hav.1 h.av.1,key _ hav.2.1 h.av.2.1,key _ hav.2.2 h.av.2.2⟩
 · show (v'.to :: (c.bl.filter fun v=>v.to != t).map BL.to).Nodup
   refine List.nodup_cons.2 ⟨fun hm=>?_,(List.filter_sublist.map BL.to).nodup h.bto⟩
   obtain ⟨v,hv,e⟩:=List.mem_map.1 hm
   exact (hfl v hv).2 (e.trans hto)
 · show (v' :: c.bl.filter fun v=>v.to != t).length≤(c.A ++ [(t,u,k)]).length
   rw [List.length_cons,List.length_append,List.length_singleton]
   have:=List.length_filter_le (fun v:BL=>v.to != t) c.bl
   have:=h.bll
   omega
end
end Hm
end
section
namespace Hm
open Go
set_option maxRecDepth 100000
set_option maxHeartbeats 8000000
section
variable {G:Type}{P:Program}{H:HT G}{pn:List Nat}{Q:Exit→Env→za→G→Prop}{fs:List (Frm G)}{ρ:Env}{σ:za}{g:G}{r:List GItem}{a:Cmd}
theorem zlK (n:Nat)(b:Blk)(h:σ n=b)(k:WI P H pn Q fs r ρ (ups σ n b) g):WI P H pn Q fs r ρ σ g:=by
 have e:ups σ n b=σ:=by
  funext m
  rw [kK]
  by_cases c:m=n
  · rw [if_pos c,c,h]
  · rw [if_neg c]
 rw [e] at k
 exact k
theorem zfd (n:Nat)(b:Blk)(h:σ n=b)(k:WC P H pn Q fs a ρ (ups σ n b) g):WC P H pn Q fs a ρ σ g:=by
 have e:ups σ n b=σ:=by
  funext m
  rw [kK]
  by_cases c:m=n
  · rw [if_pos c,c,h]
  · rw [if_neg c]
 rw [e] at k
 exact k
theorem zcx {n:Nat}{b:Blk} (h:σ n=b):ups σ n b=σ:=by
 funext m
 rw [kK]
 by_cases c:m=n
 · rw [if_pos c,c,h]
 · rw [if_neg c]
theorem zlL {n:Nat}{b:Blk} (h:σ n=b)(k:WI P H pn Q fs r ρ σ g):WI P H pn Q fs r ρ (ups σ n b) g:=by rw [zcx h];exact k
theorem zxN {n:Nat}{b:Blk} (h:σ n=b)(k:WC P H pn Q fs a ρ σ g):WC P H pn Q fs a ρ (ups σ n b) g:=by rw [zcx h];exact k
theorem zxO (hM:yz H)(R:Env→za→Prop)(h:WC P H pn (fun e ρ' σ' g'=>e=.normal∧R ρ' σ'∧g' = g) [] a ρ σ g)(k:∀ ρ' σ',R ρ' σ'→WE P H pn Q fs .normal ρ' σ' g):WC P H pn Q fs a ρ σ g:=zo1 hM _ h fun e ρ' σ' g' h=>by
 obtain ⟨rfl,h2,rfl⟩:=h
 exact k _ _ h2
theorem zoH (h:∀ σ',σ' = σ→WC P H pn Q fs a ρ σ' g):WC P H pn Q fs a ρ σ g:=h σ rfl
end
theorem zqR (ns:List Nat)(σ:za):merge ns σ (restr ns σ)=σ:=by
 funext n
 by_cases h:n∈ns
 · rw [zi7 h,zB h]
 · rw [vP h]
theorem wU {ns:List Nat}{σ:za} (h:∀ nm,σ nm≠.zc→nm∈ns) {n:Nat} (hn:n ∉ ns):σ n=.zc:=by
 cases hk:σ n with
 | zc=>rfl
 | _=>exact absurd (h n (by rw [hk];intro e;cases e)) hn
theorem znU {w:Wd}:∀ l:List W32,(yq w l).length≤l.length * w.ops.length
 | []=>by simp [yq]
 | s :: r=>by
  have:=znU (w:=w) r
  have h2:(zap w s).length≤w.ops.length:=by unfold zap;rw [List.length_map];exact vp _ _ _
  rw [yq,List.length_append,List.length_cons,Nat.succ_mul]
  omega
theorem zqm (A:List Arc)(t:W32):(yj A t).length≤A.length:=by
 unfold yj
 rw [List.length_map]
 exact List.length_filter_le _ _
theorem zqn {ns:List Nat}{b nF:Nat}{t:Int} (h:nF∈ns):zt ns (.tag b [.sl .nil [],.mp nF,.int .i64 t])=true:=by
 show (true && (zt ns (.mp nF) && (true && true)))=true
 rw [un h]
 rfl
abbrev nQ0:Nat:=4288195
abbrev nF0:Nat:=4288064
structure L1 (w:Wd)(l:List W32)(u:za × CD × Nat):Prop where
 ci:CI u.1 u.2.1
 ks:u.2.1.ks=l.take u.2.2
 o:u.2.1.o=o0 w
 A:u.2.1.A=yq w (l.take u.2.2)
 kv:u.2.1.q.kv.Perm (kv0 w (l.take u.2.2))
 le:u.2.2≤l.length
 out:∀ nm,u.1 nm≠.zc→nm∈u.2.1.names
structure LM (w:Wd)(l:List W32)(k:Nat)(s:W32)(σ:za)(c:CD):Prop where
 ci:CI σ c
 ks:c.ks=l.take (k + 1)
 o:c.o=o0 w
 A:c.A=yq w (l.take k)
 kv:c.q.kv.Perm (kv0 w (l.take (k + 1)))
 h9:σ n9=.box (.int .u32 s.toNat)
theorem zcy (q:HS):q.kv.length=q.es.length:=by simp [HS.kv,zdx]
theorem zrt (w:Wd)(l:List W32):(kv0 w l).length≤l.length:=by
 unfold kv0
 rw [List.length_map]
 exact List.length_filter_le _ _
theorem zqo (w:Wd)(l:List W32)(s:W32):kv0 w (l ++ [s])=kv0 w l ++ (if w.isGoal s=true then [(s,0)] else []):=by
 unfold kv0
 rw [List.filter_append,List.map_append]
 congr 1
 by_cases c:w.isGoal s=true
 · rw [if_pos c,List.filter_cons,if_pos c];rfl
 · rw [if_neg c,List.filter_cons,if_neg c];rfl
theorem zgY {σ:za}{c:CD} (h:CI σ c)(hq:c.q.es.length≤1000000)(hA:c.A.length≤2000000000):c.names.length≤2001000006:=by
 have:=h.bll
 simp only [CD.names,HS.names,List.length_cons,List.length_append,List.length_map]
 omega
theorem ztX (av:List Nat)(h:av.length < 900000000000):∃ f1 f2:Nat,f1≠f2∧f1 < 1000000000000∧f2 < 1000000000000∧f1 ∉ av∧f2 ∉ av:=by
 obtain ⟨f1,h1,h2⟩:=zeu av (by omega)
 obtain ⟨f2,h3,h4⟩:=zeu (f1 :: av) (by simp;omega)
 exact ⟨f1,f2,fun e=>h3 (by simp [e]),h2,h4,h1,fun h=>h3 (by simp [h])⟩
theorem QIn.call {σ:za}{q:HS} (h:QIn σ q)(f:List Nat)(hf:∀ n∈f,σ n=.zc):zF (f ++ q.names) σ (f ++ q.names)=true∧QOk (f ++ q.names) (restr (f ++ q.names) σ) q:=by
 have k:QOk (f ++ q.names) (restr (f ++ q.names) σ) q:=h.to (fun n hn=>List.mem_append_right _ hn) fun n hn h1=>by
  rcases List.mem_append.1 hn with h2|h2
  · exact hf n h2
  · exact absurd h2 h1
 exact ⟨Cl.of (σ:=restr (f ++ q.names) σ) k.any.base.cl fun n hn=>(zB hn).symm,k⟩
theorem CI.nmf {c:CD} (t:W32) {f:Nat} (hf:f ∉ c.names):f ∉ n5 :: nB :: nO :: (c.q.names ++ (c.bl.filter fun v=>v.to != t).map BL.nm):=fun hm=>hf (by
 simp only [CD.names,List.mem_cons,List.mem_append] at hm ⊢
 rcases hm with h|h|h|h|h
 · exact .inl h
 · exact .inr (.inl h)
 · exact .inr (.inr (.inl h))
 · exact .inr (.inr (.inr (.inl h)))
 · exact .inr (.inr (.inr (.inr ((List.filter_sublist.map BL.nm).subset h)))))
theorem ztY {α β:Type}{f:α→β}:∀ {l:List α}{a b:α},(l.map f).Nodup→a∈l→b∈l→f a=f b→a=b
 | x :: r,a,b,h,ha,hb,e=>by
  have h':=List.nodup_cons.1 h
  rcases List.mem_cons.1 ha with e1|ha1
  · rcases List.mem_cons.1 hb with e2|hb1
    · exact e1.trans e2.symm
    · exact (h'.1 (List.mem_map.2 ⟨b,hb1,by rw [← e1];exact e.symm⟩)).elim
  · rcases List.mem_cons.1 hb with e2|hb1
    · exact (h'.1 (List.mem_map.2 ⟨a,ha1,by rw [← e2];exact e⟩)).elim
    · exact ztY h'.2 ha1 hb1 e
theorem CI.nmv {σ:za}{c:CD} (h:CI σ c) {v:BL} (hv:v∈c.bl):v.nm ∉ n5 :: nB :: nO :: (c.q.names ++ (c.bl.filter fun u=>u.to != v.to).map BL.nm):=fun hm=>by
 obtain ⟨k1,k2,k3,k4⟩:=h.nd2
 have hd:=List.nodup_append.1 k1
 have hvm:v.nm∈c.bl.map BL.nm:=List.mem_map.2 ⟨v,hv,rfl⟩
 simp only [List.mem_cons,List.mem_append] at hm
 rcases hm with e|e|e|e|e
 · exact k2 (e ▸ List.mem_append_right _ hvm)
 · exact k3 (e ▸ List.mem_append_right _ hvm)
 · exact k4 (e ▸ List.mem_append_right _ hvm)
 · exact hd.2.2 _ e _ hvm rfl
 · obtain ⟨u,hu,e2⟩:=List.mem_map.1 e
   obtain ⟨h1,h2⟩:=List.mem_filter.1 hu
   have:=ztY hd.2.1 h1 hv e2
   rw [this] at h2
   simp at h2
section
variable {G:Type}{P:Program}{H:HT G}{pn:List Nat}{Q:Exit→Env→za→G→Prop}{fs:List (Frm G)}{ρ:Env}{σ:za}{g:G}{r:List GItem}{d:Nat}
theorem zxP {ks:List W32}{o:W32→Int}{s:W32}{nm:Nat}{zero:V}{x i:Opd} (hx:ev ρ x=.mp nm)(hm:σ nm=uV ks o)(hi:ev ρ i=.int .u32 s.toNat)(hs:s∈ks)(h:WI P H pn Q fs r (upd ρ d (.int .i64 (o s))) σ g):WI P H pn Q fs (.op (some d) none (.mget false zero x i) :: r) ρ σ g :=
 zr0 (k:=.u32) (ns:=ks.map toI) (vs:=ks.map fun s=>zk (o s)) (by rw [hx];simp only [ke,hm,uV]) hi rfl (by
  have:xf (ks.map toI) (ks.map fun s=>zk (o s)) (s.toNat:Int)=some (zk (o s)):=zrr hs
  rw [this]
  rfl) h
end
theorem QInv.mono {w:Wd}{l:List W32}{o:W32→Int}{kv:List (W32 × Int)}{W W':W32→W32→Int→Prop} (h:QInv w l o kv W)(hW:∀ t u c,W t u c→W' t u c):QInv w l o kv W' :=
 ⟨h.nn,h.le,h.att,h.goal,h.key,h.nd,fun t u c ha=>(h.arcs t u c ha).imp id fun h=>h.imp id (hW t u c)⟩
theorem QInv.len {w:Wd}{l:List W32}{o:W32→Int}{kv:List (W32 × Int)}{W:W32→W32→Int→Prop} (h:QInv w l o kv W):kv.length≤l.length:=by
 have:=List.Nodup.length_le_of_subset h.nd (l₂:=l) fun x hx=>by
  obtain ⟨p,hp,rfl⟩:=List.mem_map.1 hx
  exact (h.key p hp).1
 simpa using this
structure L2 (w:Wd)(l:List W32)(u:za × CD):Prop where
 ci:CI u.1 u.2
 ks:u.2.ks=l
 A:u.2.A=yq w l
 inv:QInv w l u.2.o u.2.q.kv fun _ _ _=>False
 out:∀ nm,u.1 nm≠.zc→nm∈u.2.names
structure L3 (w:Wd)(l:List W32)(c0:CD)(s:W32)(d:Int)(M:Nat)(u:za × CD × Nat):Prop where
 ci:CI u.1 u.2.1
 ks:u.2.1.ks=l
 A:u.2.1.A=yq w l
 bl:u.2.1.bl=c0.bl
 inv:QInv w l u.2.1.o u.2.1.q.kv fun t x k=>t=s∧(x,k)∈(yj (yq w l) s).drop u.2.2
 os:u.2.1.o s=d
 le:u.2.2≤(yj (yq w l) s).length
 out:∀ nm,u.1 nm≠.zc→nm∈u.2.1.names
 mu:q9 u.2.1.o l * (l.length + 1) + u.2.1.q.es.length < M
structure RI (w:Wd)(s:W32)(ns:List Nat)(c1:CD)(rem:List (Nat × Int × W32))(σ:za)(c:CD)(sp:List Nat):Prop where
 ci:CI σ c
 q:c.q=c1.q
 ks:c.ks=c1.ks
 o:c.o=c1.o
 A:c.A ++ rem.map (fun e=>(e.2.2,s,e.2.1))=c1.A ++ zap w s
 h9:σ n9=.box (.int .u32 s.toNat)
 len:rem.length≤sp.length
 nd:sp.Nodup
 sp:∀ n∈sp,n∈ns∧n ∉ c.names∧(n≠n9∧n≠nX∧n≠nY)∧n < 1000000000000∧σ n=.zc
 sub:∀ n∈c.names,n∈ns
 out:∀ nm,σ nm≠.zc→nm∈ns
 cl:Cl ns σ
theorem zox (w : Wd) (hc : zao w) (hol : w.ops.length≤1000000)(l:List W32)(hnd:l.Nodup)(hll:l.length≤2000)(hcl:∀ s∈l,∀ e∈w.steps s,e.2.2∈l)(D:W32→Int)(hD:∀ s,Least w s (D s)) :
  Fc PG 31 [.cptr .p (wdR w) 0,.sl .p (l.map yk)] (.mps .u32 (l.map toI) (l.map fun s=>zk (D s))):=by
 have hAl:∀ k,(yq w (l.take k)).length≤2000000000:=fun k=>by
  refine Nat.le_trans (znU _) ?_
  have h1:(l.take k).length≤2000:=by rw [List.length_take];omega
  exact Nat.le_trans (Nat.mul_le_mul h1 hol) (by decide)
 refine Fn.step zf zow ?_
 repeat (first|refine i_s rfl ?_|refine sw ?_)
 refine zoG rfl ?_
 repeat (first|refine sw ?_|refine zl rfl ?_|refine zi rfl ?_)
 refine zoG rfl ?_
 repeat (first|refine i_s rfl ?_|refine sw ?_)
 refine zfU [nF0,nQ0] rfl rfl rfl (zxc (by simp) (by simp) fun nm=>by
  by_cases h:nm∈[nF0,nQ0]
  · rw [zB h]
    simp only [List.mem_cons,List.not_mem_nil,or_false] at h
    rcases h with rfl|rfl<;>rfl
  · exact jQ h) ?_
 rintro v σ' g' ⟨rfl,rfl,rfl⟩
 repeat (first|refine i_s rfl ?_|refine sw ?_)
 refine zxx rfl rfl fun b=>?_
 refine zoH fun σa hσa=>?_
 obtain ⟨c0,hc0⟩:∃ c0:CD,c0=⟨⟨nQ0,b,1,0,0,[],nF0,0,[]⟩,[],[],[],o0 w⟩:=⟨_,rfl⟩
 have a5:σa n5=.box (.mp nB):=by rw [hσa];rfl
 have aB:σa nB=.mp .u32 [] []:=by rw [hσa];rfl
 have aO:σa nO=.mp .u32 [] []:=by rw [hσa];rfl
 have aQ:σa nQ0=.box (.tag b [.sl .nil [],.mp nF0,.int .i64 0]):=by rw [hσa];rfl
 have aF:σa nF0=.mp .u32 [] []:=by rw [hσa];rfl
 have a1:σa 1=.zc:=by rw [hσa];rfl
 clear hσa
 have hq0:QIn σa c0.q:=by
  subst hc0
  refine ⟨.inr ⟨(zB (by simp [HS.names])).trans aQ,rfl,⟨(by show (1:Nat)≠nQ0;decide),(by show (1:Nat)≠nF0;decide),by simp [HS.names]⟩,(zB (by simp [HS.names])).trans a1,(by show nQ0≠nF0;decide),by simp [HS.names],by simp [HS.names],?_,fun nm h=>yC nm h⟩,fun _=>none,?_,FMc.nil⟩
  · refine (z6 _ _ _).2 fun n hn row hr=>?_
    rw [zB hn] at hr
    simp only [HS.names,List.map_nil,List.mem_cons,List.not_mem_nil,or_false] at hn
    rcases hn with rfl|rfl|rfl
    · rw [aQ] at hr
      cases hr
      exact zqn (by simp [HS.names])
    · rw [a1] at hr;cases hr
    · rw [aF] at hr;cases hr
  · show MP (restr _ σa nF0) _
    rw [zB (by simp [HS.names]),aF]
    exact MP.nil
 have hI0:CI σa c0:=by
  refine ⟨a5,⟨fun _=>none,by rw [aB];exact MP.nil,?_⟩,by rw [aO,hc0];rfl,hq0,(fun v hv=>by rw [hc0] at hv;cases hv),?_,?_,by rw [hc0];exact List.nodup_nil,by rw [hc0];exact Nat.le_refl _⟩
  · rw [hc0]
    exact ⟨fun v hv=>(by cases hv),fun _ _=>⟨rfl,rfl⟩⟩
  · rw [hc0];simp only [CD.names,HS.names,List.map_nil,List.append_nil];decide
  · rw [hc0];simp only [CD.names,HS.names,List.map_nil,List.append_nil];decide
 have hE1:∀ (c:CD)(k:Int),zX c.names [(0,.cptr .p (wdR w) 0),(5,.bptr n5 0),(6,.mp nO),(7,.raw c.q.bq 0),(19,.sl .p (l.map yk)),(20,.int .i64 l.length),(21,.int .i64 k)]=true:=fun c k=>by
  simp only [zX,zt,(yx n5 c.names).2 c.in5,(yx nO c.names).2 c.inO,Bool.and_self]
 repeat (first|refine zo rfl ?_|refine i_s rfl ?_|refine sw ?_)
 refine x5 (fun u:za × CD × Nat=>[(0,.cptr .p (wdR w) 0),(5,.bptr n5 0),(6,.mp nO),(7,.raw u.2.1.q.bq 0),(19,.sl .p (l.map yk)),(20,.int .i64 l.length),(21,.int .i64 u.2.2)]) (fun u=>lsn u.2.1.names u.1) (L1 w l) (fun u=>l.length - u.2.2) (restr c0.names σa,c0,0)
  ⟨hI0.congr fun n hn=>zB hn,by rw [hc0];rfl,by rw [hc0],by rw [hc0];rfl,by rw [hc0];exact List.Perm.refl _,Nat.zero_le _,fun nm h=>yC nm h⟩
  (x6 ⟨rfl,rfl,rfl,by rw [hc0];rfl,rfl,rfl,rfl,trivial⟩ (fun n hn=>(zB hn).symm) (hE1 _ _) ((hI0.congr fun n hn=>zB hn).cl (fun n hn=>hn) fun n hn hm=>absurd hn hm) (fun n hn=>by cases hn)) fun u hu=>?_
 clear hI0 hq0 a5 aB aO aQ aF a1 hc0
 obtain ⟨σ,c,k⟩:=u
 obtain ⟨hI,hks,ho,hA,hkv,hk,hout⟩:=hu
 dsimp only at hI hks ho hA hkv hk hout
 show WC _ _ _ _ _ _ _ (zy (lsn c.names σ)) _
 rw [vc,yY hout]
 repeat (first|refine i_s rfl ?_|refine sw ?_)
 refine zd rfl (fun h=>?_) (fun h=>?_)
 · have hlt : k < l.length:=by simpa using h
   obtain ⟨s,hs⟩:=zh hlt
   clear h
   have hsl:s∈l:=zm hs
   have htk:l.take (k + 1)=l.take k ++ [s]:=zz hs
   have hsn:s ∉ c.ks:=by
    rw [hks]
    have:=hnd
    rw [← List.take_append_drop (k + 1) l,htk,List.append_assoc] at this
    exact fun hm=>(List.nodup_append.1 this).2.2 s hm s (by simp) rfl
   repeat (first|refine i_s rfl ?_|refine sw ?_|refine jd rfl rfl ?_)
   refine zi (wU hout hI.av.1) ?_
   repeat (first|refine i_s rfl ?_|refine sw ?_|refine zl rfl ?_)
   refine zdF (k:=.u32) (ns:=c.ks.map toI) (vs:=c.ks.map fun s=>zk (c.o s)) rfl rfl ((ze _ _ (by decide)).trans ((ze _ _ (by decide)).trans hI.ho)) rfl rfl (zwa (s:=s) (v:=INF) hsn) ?_
   repeat (first|refine i_s rfl ?_|refine sw ?_)
   refine i_f rfl rfl (zgS w s) rfl ?_
   repeat refine sw ?_
   refine zoH fun σb hσb=>?_
   have hb9:σb n9=.box (.int .u32 s.toNat):=by rw [hσb];rfl
   have hIb:CI σb { c with ks:=c.ks ++ [s],o:=yH c.o s INF }:=by
    rw [hσb]
    exact (hI.congr fun n hn=>by rw [ze _ _ (fun (e:n=n9)=>hI.av.1 (e ▸ hn)),ze _ _ (fun (e:n=n9)=>hI.av.1 (e ▸ hn))]).out
   have hbu:∀ n,n≠n9→n ∉ c.names→σb n=.zc:=fun n h1 h2=>by
    rw [hσb,ze _ _ (fun (e:n=nO)=>h2 (e ▸ c.inO)),ze _ _ h1,ze _ _ h1]
    exact wU hout h2
   clear hσb
   have hks':c.ks ++ [s]=l.take (k + 1):=by rw [htk,hks]
   have hkl:c.q.es.length≤2000:=by
    rw [← zcy,hkv.length_eq]
    refine Nat.le_trans (zrt _ _) ?_
    rw [List.length_take]
    omega
   refine zxO xx (fun ρ' σ'=>zg6 [(0,.cptr .p (wdR w) 0),(5,.bptr n5 0),(6,.mp nO),(7,.raw c.q.bq 0),(9,.bptr n9 0),(19,.sl .p (l.map yk)),(20,.int .i64 l.length),(21,.int .i64 k)] ρ'∧∃ c',LM w l k s σ' c'∧c'.q.bq=c.q.bq) ?_ ?_
   · by_cases hg:w.isGoal s=true
     · rw [hg]
       refine zfd n9 _ hb9 ?_
       repeat (first|refine i_s rfl ?_|refine sw ?_|refine c_t rfl ?_)
       refine zdF (k:=.u32) (ns:=(c.ks ++ [s]).map toI) (vs:=(c.ks ++ [s]).map fun x=>zk (yH c.o s INF x)) rfl rfl ((ze _ _ (by decide)).trans hIb.ho) rfl rfl (zrs (s:=s) (v:=0) (by simp) (by rw [hks'];exact (List.take_sublist _ _).nodup hnd)) ?_
       repeat (first|refine i_s rfl ?_|refine sw ?_)
       obtain ⟨f1,f2,fne,fl1,fl2,fn1,fn2⟩:=ztX (n9 :: nX :: nY :: c.names) (by
        have:=zgY hI (by omega) (by rw [hA];exact hAl k)
        simp only [List.length_cons]
        omega)
       simp only [List.mem_cons,not_or] at fn1 fn2
       have hIc:CI (ups (ups σb n9 (.box (.int .u32 s.toNat))) nO (uV (c.ks ++ [s]) (yH (yH c.o s INF) s 0))) { c with ks:=c.ks ++ [s],o:=yH (yH c.o s INF) s 0 } :=
        CI.out (hIb.congr fun n hn=>ze _ _ fun (e:n=n9)=>hIb.av.1 (e ▸ hn))
       have hfu:∀ n∈[f1,f2],ups (ups σb n9 (.box (.int .u32 s.toNat))) nO (uV (c.ks ++ [s]) (yH (yH c.o s INF) s 0)) n=.zc:=fun n hn=>by
        simp only [List.mem_cons,List.not_mem_nil,or_false] at hn
        rcases hn with rfl|rfl
        · rw [ze _ _ (fun (e:n=nO)=>fn1.2.2.2 (e ▸ c.inO)),ze _ _ fn1.1]
          exact hbu n fn1.1 fn1.2.2.2
        · rw [ze _ _ (fun (e:n=nO)=>fn2.2.2.2 (e ▸ c.inO)),ze _ _ fn2.1]
          exact hbu n fn2.1 fn2.2.2.2
       obtain ⟨hq1,hq2⟩:=hIc.hq.call [f1,f2] hfu
       have hi1:f1∈[f1,f2] ++ c.q.names:=by simp
       have hi2:f2∈[f1,f2] ++ c.q.names:=by simp
       refine zfU ([f1,f2] ++ c.q.names) rfl rfl hq1 (ztU hq2 (by show c.q.es.length < 1000000;omega) s 0 hi1 hi2 ((zB hi1).trans (hfu f1 (by simp))) ((zB hi2).trans (hfu f2 (by simp))) fne fl1 fl2 (fun hm=>fn1.2.2.2 (c.inq hm))) ?_
       rintro v σ' g' ⟨⟨q',hn',hp'⟩,rfl⟩
       repeat refine sw ?_
       have hI2:=hIc.queue (f:=[f1,f2]) (fun n hn=>by
        simp only [List.mem_cons,List.not_mem_nil,or_false] at hn
        rcases hn with rfl|rfl
        · exact ⟨fn1.2.2.2,fn1.1,fn1.2.1,fn1.2.2.1⟩
        · exact ⟨fn2.2.2.2,fn2.1,fn2.2.1,fn2.2.2.1⟩) hn'.ok
       have hI3:=hI2.oext (o:=o0 w) fun x hx=>by
        show yH (yH c.o s INF) s 0 x=o0 w x
        unfold yH
        by_cases e:x=s
        · rw [if_pos e,e]
          unfold o0
          rw [if_pos hg]
        · rw [if_neg e,if_neg e,ho]
       have h9:n9 ∉ [f1,f2] ++ c.q.names:=by
        intro hm
        simp only [List.mem_append,List.mem_cons,List.not_mem_nil,or_false] at hm
        rcases hm with (h1|h1)|h1
        · exact fn1.1 h1.symm
        · exact fn2.1 h1.symm
        · exact hI.av.1 (c.inq h1)
       refine ym ⟨rfl,⟨⟨rfl,rfl,rfl,rfl,rfl,rfl,rfl,rfl,trivial⟩,_,⟨hI3,hks',rfl,hA,?_,?_⟩,hn'.bq⟩,rfl⟩
       · show q'.kv.Perm _
         have hfil:(c.q.kv.filter fun p=>p.1 != s)=c.q.kv:=by
          rw [List.filter_eq_self]
          intro p hp
          have h1:=hkv.mem_iff.1 hp
          obtain ⟨x,h2,rfl⟩:=List.mem_map.1 h1
          have h3:x∈l.take k:=(List.mem_filter.1 h2).1
          rw [← hks] at h3
          simpa using fun e:x=s=>hsn (e ▸ h3)
         have hp2:q'.kv.Perm ((s,0) :: c.q.kv.filter fun p=>p.1 != s):=hp'
         rw [hfil] at hp2
         rw [htk,zqo,if_pos hg]
         exact hp2.trans ((hkv.cons _).trans (List.perm_append_comm (l₁:=[(s,0)])))
       · rw [vP h9,ze _ _ (by decide),zn]
     · rw [Bool.eq_false_iff.2 hg]
       repeat (first|refine sw ?_|refine c_f rfl ?_)
       have hI3:=hIb.oext (o:=o0 w) fun x hx=>by
        show yH c.o s INF x=o0 w x
        unfold yH
        by_cases e:x=s
        · rw [if_pos e,e]
          unfold o0
          rw [if_neg hg]
        · rw [if_neg e,ho]
       refine ym ⟨rfl,⟨⟨rfl,rfl,rfl,rfl,rfl,rfl,rfl,rfl,trivial⟩,_,⟨hI3,hks',rfl,hA,?_,hb9⟩,rfl⟩,rfl⟩
       rw [htk,zqo,if_neg hg,List.append_nil]
       exact hkv
   intro ρ' σ1 ⟨hE,c1,hL,hbq⟩
   clear hIb hbu hb9
   refine zbg ?_
   rw [← hbq] at hE
   have hkl1:c1.q.es.length≤2000:=by
    rw [← zcy,hL.kv.length_eq]
    refine Nat.le_trans (zrt _ _) ?_
    rw [List.length_take]
    omega
   have hcl1:∀ ns:List Nat,(∀ n∈c1.names,n∈ns)→(∀ n∈ns,n ∉ n9 :: c1.names→σ1 n=.zc)→Cl ns σ1:=fun ns h1 h2=>hL.ci.cl h1 fun n hn hm row hr=>by
    by_cases e:n=n9
    · rw [e,hL.h9] at hr;cases hr;rfl
    · rw [h2 n hn (by simp only [List.mem_cons,not_or];exact ⟨e,hm⟩)] at hr;cases hr
   have hE9:∀ (ns:List Nat),(∀ n∈c1.names,n∈ns)→n9∈ns→zX ns [(0,.cptr .p (wdR w) 0),(5,.bptr n5 0),(6,.mp nO),(7,.raw c1.q.bq 0),(9,.bptr n9 0),(19,.sl .p (l.map yk)),(20,.int .i64 l.length),(21,.int .i64 k)]=true:=fun ns h1 h2=>by
    simp only [zX,zt,(yx n5 ns).2 (h1 _ c1.in5),(yx nO ns).2 (h1 _ c1.inO),(yx n9 ns).2 h2,Bool.and_self]
   refine zcX [(0,.cptr .p (wdR w) 0),(5,.bptr n5 0),(6,.mp nO),(7,.raw c1.q.bq 0),(9,.bptr n9 0),(19,.sl .p (l.map yk)),(20,.int .i64 l.length),(21,.int .i64 k)] (lsn (n9 :: c1.names) σ1)
    (x6 hE (fun _ _=>rfl) (hE9 _ (fun n hn=>List.mem_cons_of_mem _ hn) (by simp)) (hcl1 _ (fun n hn=>List.mem_cons_of_mem _ hn) fun n hn hm=>absurd hn hm) (fun n hn=>by cases hn)) ?_
   rw [vc]
   refine zoH fun σ2 hσ2=>?_
   have h29:σ2 n9=.box (.int .u32 s.toNat):=by rw [hσ2,zB (by simp)];exact hL.h9
   have hI2:CI σ2 c1:=by
    rw [hσ2]
    exact hL.ci.congr fun n hn=>zB (List.mem_cons_of_mem _ hn)
   have hout2:∀ nm,σ2 nm≠.zc→nm∈n9 :: c1.names:=fun nm h=>by
    rw [hσ2] at h
    exact yC nm h
   have hks2:=hL.ks
   have ho2:=hL.o
   have hA2:=hL.A
   have hkv2:=hL.kv
   clear hσ2 hL hcl1 hE
   refine zfd n9 _ h29 ?_
   repeat (first|refine i_s rfl ?_|refine sw ?_)
   refine i_f rfl rfl (qe w s) rfl ?_
   repeat refine sw ?_
   refine zxN h29 ?_
   obtain ⟨sp,hsp1,hsp2,hsp3⟩:=zlH (n9 :: nX :: nY :: c1.names) (w.steps s).length (by
    have h1:=zgY hI2 (by omega) (by rw [hA2];exact hAl k)
    have h2:(w.steps s).length≤w.ops.length:=vp _ _ _
    simp only [List.length_cons]
    omega)
   have hsub:∀ n∈c1.names,n∈sp ++ n9 :: c1.names:=fun n hn=>List.mem_append_right _ (List.mem_cons_of_mem _ hn)
   have hn9:n9∈sp ++ n9 :: c1.names:=List.mem_append_right _ (by simp)
   have hnX:nX ∉ sp ++ n9 :: c1.names:=fun hm=>by
    rcases List.mem_append.1 hm with h1|h1
    · exact (hsp3 _ h1).1 (by simp)
    · rcases List.mem_cons.1 h1 with h1|h1
      · exact absurd h1 (by decide)
      · exact hI2.av.2.1 h1
   have hcl2:Cl (sp ++ n9 :: c1.names) σ2:=hI2.cl hsub fun n hn hm row hr=>by
    by_cases e:n=n9
    · rw [e,h29] at hr;cases hr;rfl
    · have hu:σ2 n=.zc:=wU hout2 (by simp only [List.mem_cons,not_or];exact ⟨e,hm⟩)
      rw [hu] at hr;cases hr
   refine zu5 (sp ++ n9 :: c1.names) [(0,.cptr .p (wdR w) 0),(5,.bptr n5 0),(6,.mp nO),(7,.raw c1.q.bq 0),(9,.bptr n9 0),(19,.sl .p (l.map yk)),(20,.int .i64 l.length),(21,.int .i64 k)] rfl ⟨rfl,rfl,rfl,rfl,rfl,rfl,rfl,rfl,trivial⟩ hcl2 (fun nm h=>List.mem_append_right _ (hout2 nm h)) (fun n hn=>by cases hn) (hE9 _ hsub hn9) rfl ?_
   refine u3 ?_ (zlI w s (by omega) _ (fun x:RG Unit=>x.2.2=none∧∃ c sp',RI w s (sp ++ n9 :: c1.names) c1 [] x.1 c sp') (zqj (fun rem (x:RG Unit)=>x.2.2=none∧∃ c sp',RI w s (sp ++ n9 :: c1.names) c1 rem x.1 c sp') ?_ (fun s h=>h) (w.steps s) _
    ⟨rfl,c1,sp,hI2,rfl,rfl,rfl,rfl,h29,by rw [hsp1];exact Nat.le_refl _,hsp2,fun n hn=>?_,hsub,fun nm h=>List.mem_append_right _ (hout2 nm h),hcl2⟩))
   · rintro v σ' x ⟨rfl,hx,c3,sp3,hR⟩
     obtain ⟨σx,gx,ox⟩:=x
     simp only at hx hR
     subst hx
     show WE _ _ _ _ _ .normal _ _ _
     repeat (first|refine i_s rfl ?_|refine sw ?_|refine ja rfl rfl ?_)
     have hA3:=hR.A
     rw [List.map_nil,List.append_nil,hA2] at hA3
     have hI3:CI (restr c3.names σx) c3:=hR.ci.congr fun n hn=>zB hn
     exact xL (restr c3.names σx,c3,k + 1) ⟨hI3,hR.ks.trans hks2,hR.o.trans ho2,by show c3.A=yq w (l.take (k + 1));rw [hA3,htk,zgM];simp [yq],by show c3.q.kv.Perm _;rw [hR.q];exact hkv2,hlt,fun nm h=>yC nm h⟩ (by show l.length - (k + 1) < l.length - k;omega)
      (x6 ⟨rfl,rfl,rfl,by rw [hR.q];rfl,rfl,rfl,rfl,trivial⟩ (fun n hn=>(zB hn).symm) (hE1 c3 _) (hI3.cl (fun n hn=>hn) fun n hn hm=>absurd hn hm) (fun n hn=>by cases hn))
   · intro e r x hx K hk
     obtain ⟨σx,gx,ox⟩:=x
     obtain ⟨hx0,cx,sp',hR⟩:=hx
     simp only at hx0 hR
     subst hx0
     obtain ⟨f,sp2,rfl⟩:∃ f sp2,sp' = f :: sp2:=by
      cases hsp:sp' with
      | nil=>have:=hR.len;rw [hsp] at this;simp at this
      | cons a b=>exact ⟨a,b,rfl⟩
     obtain ⟨hf1,hf2,⟨hf3,hf4,hf5⟩,hf6,hf7⟩:=hR.sp f (by simp)
     refine w6 xx rfl ?_
     refine zfd n5 _ hR.ci.h5 ?_
     refine zfd n9 _ ((ze _ _ (by decide)).trans hR.h9) ?_
     repeat refine sw ?_
     refine zi (by rw [ze _ _ (by decide),ze _ _ (by decide)];exact wU hR.out hnX) ?_
     repeat (first|refine sw ?_|refine zl rfl ?_)
     refine ym ?_
     show WC _ _ _ _ [] _ _ _ _
     refine zoH fun σy hσy=>?_
     have hyn:∀ n,n≠nX→σy n=σx n:=fun n hn=>by
      rw [hσy,ze _ _ hn,ze _ _ hn]
      rw [zcx (show ups σx n5 (.box (.mp nB)) n9=.box (.int .u32 s.toNat) from (ze _ _ (by decide)).trans hR.h9),zcx hR.ci.h5]
     have yX:σy nX=.box (stV e):=by rw [hσy];exact zn _ _ _
     have hIy:CI σy cx:=hR.ci.congr fun n hn=>hyn n fun (e:n=nX)=>hR.ci.av.2.1 (e ▸ hn)
     have y9:σy n9=.box (.int .u32 s.toNat):=(hyn _ (by decide)).trans hR.h9
     have yf:σy f=.zc:=(hyn f hf4).trans hf7
     clear hσy
     obtain ⟨F,hF,hB⟩:=hIy.bk
     have hfB:f≠nB:=fun h=>hf2 (h ▸ cx.inB)
     have hfn5:f≠n5:=fun h=>hf2 (h ▸ cx.in5)
     have hS:ups (ups (ups σy n5 (.box (.mp nB))) n9 (.box (.int .u32 s.toNat))) nX (.box (stV e))=σy:=by
      rw [zcx (show ups (ups σy n5 (.box (.mp nB))) n9 (.box (.int .u32 s.toNat)) nX=.box (stV e) from (ze _ _ (by decide)).trans ((ze _ _ (by decide)).trans yX)),zcx (show ups σy n5 (.box (.mp nB)) n9=.box (.int .u32 s.toNat) from (ze _ _ (by decide)).trans y9),zcx hIy.h5]
     have hAr:cx.A ++ [(e.2.2,s,e.2.1)] ++ r.map (fun e=>(e.2.2,s,e.2.1))=c1.A ++ zap w s:=by
      have:=hR.A
      rw [List.map_cons] at this
      rw [← this,List.append_assoc]
      rfl
     have hbl:(yj cx.A e.2.2).length≤100000000000:=by
      have h1:=zqm cx.A e.2.2
      have h2:=congrArg List.length hR.A
      have h3:(zap w s).length≤w.ops.length:=by unfold zap;rw [List.length_map];exact vp _ _ _
      have h4:=hAl k
      rw [← hA2] at h4
      simp only [List.length_append,List.length_map] at h2
      omega
     have fin:∀ (v':BL)(bB:Blk),v'.to=e.2.2→(v'.nm=f∨∃ v∈cx.bl,v.to=e.2.2∧v'.nm=v.nm)→v'.box.length=v'.c * 2→(yj cx.A e.2.2).length + 1≤v'.c→v'.box.take ((yj cx.A e.2.2).length * 2)=zU ((yj cx.A e.2.2).map v2)→(v'.box.drop ((yj cx.A e.2.2).length * 2)).take 2=(v2 (s,e.2.1)).cells→(∀ u∈v'.box,zP u=true) →
       (MP bB fun m=>if m=e.2.2.toNat then some (.rsl v'.b ((yj cx.A e.2.2).length + 1) v'.c) else F m) →
       Cl (sp ++ n9 :: c1.names) (ups (ups σy v'.nm (.box (.tag v'.b v'.box))) nB bB)∧K (.bool true) (restr (sp ++ n9 :: c1.names) (ups (ups σy v'.nm (.box (.tag v'.b v'.box))) nB bB),gx,none):=by
      intro v' bB k1 k2 k3 k4 k5 k6 k7 k8
      have hnm:v'.nm ∉ n5 :: nB :: nO :: (cx.q.names ++ (cx.bl.filter fun v=>v.to != e.2.2).map BL.nm)∧(v'.nm≠n9∧v'.nm≠nX∧v'.nm≠nY)∧v'.nm∈sp ++ n9 :: c1.names:=by
       rcases k2 with k2|⟨v,hv,ht,k2⟩
       · rw [k2]
         exact ⟨CI.nmf _ hf2,⟨hf3,hf4,hf5⟩,hf1⟩
       · rw [k2,← ht]
         have hvn:=cx.inbl hv
         exact ⟨hIy.nmv hv,⟨fun e=>hIy.av.1 (e ▸ hvn),fun e=>hIy.av.2.1 (e ▸ hvn),fun e=>hIy.av.2.2 (e ▸ hvn)⟩,hR.sub _ hvn⟩
      have hI4:=hIy.arc hF hB e.2.2 s e.2.1 v' k1 hnm.1 hnm.2.1 k3 k4 k5 k6 k7 k8 (σ':=ups (ups σy v'.nm (.box (.tag v'.b v'.box))) nB bB) (fun n=>by simp only [kK])
      have hcl4:Cl (sp ++ n9 :: c1.names) (ups (ups σy v'.nm (.box (.tag v'.b v'.box))) nB bB):=by
       refine Cl.ups (Cl.ups (hR.cl.of fun nm hm=>hyn nm fun (e:nm=nX)=>hnX (e ▸ hm)) fun row hr=>?_) fun row hr=>(k8.box row hr).elim
       cases hr
       exact kL _ k7
      refine ⟨hcl4,hk _ ⟨rfl,{ cx with bl:=v' :: cx.bl.filter fun v=>v.to != e.2.2,A:=cx.A ++ [(e.2.2,s,e.2.1)] },sp2,?_⟩⟩
      have hnames:∀ n∈CD.names { cx with bl:=v' :: cx.bl.filter fun v=>v.to != e.2.2,A:=cx.A ++ [(e.2.2,s,e.2.1)] },n=v'.nm∨n∈cx.names:=fun n hn=>by
       have hn:n∈n5 :: nB :: nO :: (cx.q.names ++ (v'.nm :: (cx.bl.filter fun v=>v.to != e.2.2).map BL.nm)):=hn
       simp only [List.mem_cons,List.mem_append] at hn
       simp only [CD.names,List.mem_cons,List.mem_append]
       rcases hn with h|h|h|h|h|h
       · exact .inr (.inl h)
       · exact .inr (.inr (.inl h))
       · exact .inr (.inr (.inr (.inl h)))
       · exact .inr (.inr (.inr (.inr (.inl h))))
       · exact .inl h
       · exact .inr (.inr (.inr (.inr (.inr ((List.filter_sublist.map BL.nm).subset h)))))
      have hsub4:∀ n∈CD.names { cx with bl:=v' :: cx.bl.filter fun v=>v.to != e.2.2,A:=cx.A ++ [(e.2.2,s,e.2.1)] },n∈sp ++ n9 :: c1.names:=fun n hn=>by
       rcases hnames n hn with h|h
       · rw [h];exact hnm.2.2
       · exact hR.sub n h
      have hnd:=List.nodup_cons.1 hR.nd
      refine ⟨hI4.congr fun n hn=>zB (hsub4 n hn),hR.q,hR.ks,hR.o,hAr,?_,?_,hnd.2,fun n hn=>?_,hsub4,fun nm h=>yC nm h,hcl4.restr⟩
      · refine (zB hn9).trans ?_
        rw [ze _ _ (by decide),ze _ _ (fun e=>hnm.2.1.1 e.symm)]
        exact y9
      · have:=hR.len
        simp at this
        exact this
      · obtain ⟨q1,q2,q3,q4,q5⟩:=hR.sp n (List.mem_cons_of_mem _ hn)
        have hnv:n≠v'.nm:=fun h=>by
         rcases k2 with k2|⟨v,hv,_,k2⟩
         · rw [h,k2] at hn
           exact hnd.1 hn
         · exact q2 (h ▸ k2 ▸ cx.inbl hv)
        refine ⟨q1,fun hm=>?_,q3,q4,?_⟩
        · rcases hnames n hm with h|h
          · exact hnv h
          · exact q2 h
        · refine (zB q1).trans ?_
          rw [ze _ _ (fun (e:n=nB)=>q2 (e ▸ cx.inB)),ze _ _ hnv]
          exact (hyn n q3.2.1).trans q5
     refine zfd n5 _ hIy.h5 ?_
     refine zfd n9 _ ((ze _ _ (by decide)).trans y9) ?_
     refine zfd nX _ ((ze _ _ (by decide)).trans ((ze _ _ (by decide)).trans yX)) ?_
     by_cases ht:∃ v∈cx.bl,v.to=e.2.2
     · obtain ⟨v,hv,hvt⟩:=ht
       have hFt:=hB.here v hv
       have hvb:=hIy.bl v hv
       rw [hvt] at hFt
       have hle:=hvb.hle
       rw [hvt] at hle
       have hvn5:v.nm≠n5:=fun h=>hIy.nmv hv (by rw [h];simp)
       have hvn:v.nm≠n9∧v.nm≠nX:=⟨fun e=>hIy.av.1 (e ▸ cx.inbl hv),fun e=>hIy.av.2.1 (e ▸ cx.inbl hv)⟩
       repeat' (first|refine i_s rfl ?_|refine sw ?_|refine jN ?_ ?_|refine zkC (v:=.rsl v.b (yj cx.A e.2.2).length v.c) rfl hF rfl rfl (by rw [hFt];rfl) ?_)
       all_goals
        rw [hS]
        refine zvh v.nm f rfl rfl ⟨rfl,rfl⟩ (by decide) hbl hvb.hs hvb.hl hle yf hf6 (fun nm2 b2 c2 l2 k0 k1 k2 k3 k4 k5=>?_)
        have hn2:nm2≠n5∧nm2≠n9∧nm2≠nX∧nm2≠nB:=by
         rcases k0 with rfl|rfl
         · exact ⟨hvn5,hvn.1,hvn.2,fun h=>hIy.nmv hv (by rw [h];simp)⟩
         · exact ⟨hfn5,hf3,hf4,hfB⟩
        have g5:ups σy nm2 (.box (.tag b2 l2)) n5=.box (.mp nB):=(ze _ _ (fun e=>hn2.1 e.symm)).trans hIy.h5
        have gX:ups (ups σy nm2 (.box (.tag b2 l2))) n5 (.box (.mp nB)) nX=.box (stV e):=(ze _ _ (by decide)).trans ((ze _ _ (fun e=>hn2.2.2.1 e.symm)).trans yX)
        refine zlK n5 _ g5 ?_
        refine zlK nX _ gX ?_
        repeat refine i_s rfl ?_
        refine zlL gX ?_
        refine zlL g5 ?_
        refine zl3 (nm:=nB) rfl rfl (hF.is (ze _ _ (fun e=>hn2.2.2.2 e.symm)).symm) rfl rfl rfl (fun bB hbB=>?_)
        repeat refine sw ?_
        obtain ⟨z1,z2⟩:=fin ⟨e.2.2,nm2,b2,c2,l2⟩ bB rfl (by
          rcases k0 with k0|k0
          · exact .inr ⟨v,hv,hvt,k0⟩
          · exact .inl k0) k1 k2 (by rw [← hvt];rw [← hvt] at k3;exact k3.trans hvb.ht) k4 (k5 hvb.hp (fun u hu=>by
            simp only [V.cells,List.mem_cons,List.not_mem_nil,or_false] at hu
            rcases hu with rfl|rfl<;>rfl)) hbB
        refine ym ?_
        exact ztW z1 z2
     · have hnt:∀ v∈cx.bl,v.to≠e.2.2:=fun v hv h=>ht ⟨v,hv,h⟩
       obtain ⟨hFt,hnil⟩:=hB.gone _ hnt
       repeat' (first|refine i_s rfl ?_|refine sw ?_|refine jN ?_ ?_|refine zkC (v:=.sl .nil []) rfl hF rfl rfl (by rw [hFt];rfl) ?_)
       all_goals
        rw [hS]
        refine zvg f rfl rfl ⟨rfl,rfl⟩ (by decide) yf hf6 (fun b2 c2 l2 k1 k2 k3 k5=>?_)
        have g5:ups σy f (.box (.tag b2 l2)) n5=.box (.mp nB):=(ze _ _ (fun e=>hfn5 e.symm)).trans hIy.h5
        have gX:ups (ups σy f (.box (.tag b2 l2))) n5 (.box (.mp nB)) nX=.box (stV e):=(ze _ _ (by decide)).trans ((ze _ _ (fun e=>hf4 e.symm)).trans yX)
        refine zlK n5 _ g5 ?_
        refine zlK nX _ gX ?_
        repeat refine i_s rfl ?_
        refine zlL gX ?_
        refine zlL g5 ?_
        refine zl3 (nm:=nB) rfl rfl (hF.is (ze _ _ (fun e=>hfB e.symm)).symm) rfl rfl rfl (fun bB hbB=>?_)
        repeat refine sw ?_
        obtain ⟨z1,z2⟩:=fin ⟨e.2.2,f,b2,c2,l2⟩ bB rfl (.inl rfl) k1 (by rw [hnil];exact k2) (by rw [hnil];simp [zU]) (by rw [hnil];exact k3) (k5 (fun u hu=>by
           simp only [V.cells,List.mem_cons,List.not_mem_nil,or_false] at hu
           rcases hu with rfl|rfl<;>rfl)) (by rw [hnil];exact hbB)
        refine ym ?_
        exact ztW z1 z2
   · have h1:=hsp3 n hn
     simp only [List.mem_cons,not_or] at h1
     refine ⟨List.mem_append_left _ hn,h1.1.2.2.2,⟨h1.1.1,h1.1.2.1,h1.1.2.2.1⟩,h1.2,wU hout2 ?_⟩
     simp only [List.mem_cons,not_or]
     exact ⟨h1.1.1,h1.1.2.2.2⟩
 · have hge : k = l.length := by have : ¬ k < l.length:=by simpa using h
                                 omega
   subst hge
   rw [List.take_length] at hks hA hkv
   have hR0:QInv w l c.o c.q.kv fun _ _ _=>False:=by rw [ho];exact QInv.start hc hnd hcl hkv
   clear h hkv ho hE1 hk
   have hAn:(yq w l).length≤2000000000:=by have:=hAl l.length;rw [List.take_length] at this;exact this
   have hE2:∀ c:CD,zX c.names [(5,.bptr n5 0),(6,.mp nO),(7,.raw c.q.bq 0)]=true:=fun c=>by
    simp only [zX,zt,(yx n5 c.names).2 c.in5,(yx nO c.names).2 c.inO,Bool.and_self]
   repeat refine sw ?_
   refine x5 (fun u:za × CD=>[(5,.bptr n5 0),(6,.mp nO),(7,.raw u.2.q.bq 0)]) (fun u=>lsn u.2.names u.1) (L2 w l) (fun u=>q9 u.2.o l * (l.length + 1) + u.2.q.es.length) (σ,c) ⟨hI,hks,hA,hR0,hout⟩
    (x6 ⟨rfl,rfl,rfl,trivial⟩ (fun _ _=>rfl) (hE2 c) (hI.cl (fun n hn=>hn) fun n hn hm=>absurd hn hm) (fun n hn=>by cases hn)) fun u hu=>?_
   clear hI hks hA hR0 hout
   obtain ⟨σ,c⟩:=u
   obtain ⟨hI,hks,hA,hinv,hout⟩:=hu
   dsimp only at hI hks hA hinv hout
   show WC _ _ _ _ _ _ _ (zy (lsn c.names σ)) _
   rw [vc,yY hout]
   have hel:c.q.es.length≤l.length:=by rw [← zcy];exact hinv.len
   obtain ⟨hq1,hq2⟩:=hI.hq.call [] (fun n hn=>by cases hn)
   repeat (first|refine i_s rfl ?_|refine sw ?_)
   refine zfU ([] ++ c.q.names) rfl rfl hq1 (zv7 hq2.any) ?_
   rintro v σ' g' ⟨rfl,rfl,rfl⟩
   rw [zqR]
   repeat (first|refine i_s rfl ?_|refine sw ?_)
   refine zd rfl (fun h=>?_) (fun h=>?_)
   · have hne : c.q.es ≠ [] := fun e => by rw [e] at h;simp at h
     clear h
     repeat (first|refine i_s rfl ?_|refine sw ?_)
     refine zfU ([] ++ c.q.names) rfl rfl hq1 (zv8 hq2 hne) ?_
     rintro v σ' g' ⟨⟨q',s,d,hn',hp',rfl⟩,rfl⟩
     have hI2:=hI.queue (f:=[]) (fun n hn=>by cases hn) hn'.ok
     obtain ⟨hin2,hsl,hds,hdI⟩:=(hinv.perm hp').take
     have hel2:q'.es.length + 1=c.q.es.length:=by
      have h1:c.q.kv.length=_:=hp'.length_eq
      rw [List.length_cons] at h1
      have h2:=zcy c.q
      have h3:=zcy q'
      omega
     generalize merge ([] ++ c.q.names) σ σ' = σ2 at hI2 ⊢
     have hd0:0≤d:=by rw [hds];exact hinv.nn s hsl
     have hd1:d < 1000000000:=hdI
     obtain ⟨F,hF,hB⟩:=hI2.bk
     change BkF c.A F c.bl at hB
     rw [hA] at hB
     obtain ⟨vv,hvv,hcase⟩:∃ vv,zfG false (.sl .nil []) (F (s.toNat:Int))=vv∧((vv=.sl .nil []∧yj (yq w l) s=[])∨∃ b0∈c.bl,b0.to=s∧vv=.rsl b0.b (yj (yq w l) s).length b0.c):=by
      by_cases ht:∃ v∈c.bl,v.to=s
      · obtain ⟨v,hv,rfl⟩:=ht
        exact ⟨_,rfl,.inr ⟨v,hv,rfl,by rw [hB.here v hv];rfl⟩⟩
      · obtain ⟨h1,h2⟩:=hB.gone s fun v hv e=>ht ⟨v,hv,e⟩
        exact ⟨_,rfl,.inl ⟨by rw [h1];rfl,h2⟩⟩
     have hvc:∀ ns,zt ns vv=true:=fun ns=>by rcases hcase with ⟨rfl,_⟩|⟨_,_,_,rfl⟩<;>rfl
     have hE3:∀ (c:CD)(j:Int),zX c.names [(5,.bptr n5 0),(6,.mp nO),(7,.raw c.q.bq 0),(12,.int .i64 d),(64,vv),(65,.int .i64 (yj (yq w l) s).length),(66,.int .i64 j)]=true:=fun c j=>by
      simp only [zX,zt,(yx n5 c.names).2 c.in5,(yx nO c.names).2 c.inO,hvc,Bool.and_self]
     repeat (first|refine i_s rfl ?_|refine sw ?_)
     refine zlK n5 _ hI2.h5 ?_
     repeat refine i_s rfl ?_
     refine zkC rfl hF rfl rfl hvv ?_
     refine zlL hI2.h5 ?_
     skip
     refine zxe (n:=(yj (yq w l) s).length) rfl (by
      rcases hcase with ⟨h1,h2⟩|⟨b0,_,_,h1⟩
      · exact .inl ⟨h1,by rw [h2];rfl⟩
      · exact .inr ⟨_,_,h1⟩) ?_
     repeat (first|refine i_s rfl ?_|refine sw ?_)
     obtain ⟨M,hM⟩:∃ M,M=q9 c.o l * (l.length + 1) + c.q.es.length:=⟨_,rfl⟩
     have hI2r:CI (restr (CD.names { c with q:=q' }) σ2) { c with q:=q' }:=hI2.congr fun n hn=>zB hn
     refine x5 (fun u:za × CD × Nat=>[(5,.bptr n5 0),(6,.mp nO),(7,.raw u.2.1.q.bq 0),(12,.int .i64 d),(64,vv),(65,.int .i64 (yj (yq w l) s).length),(66,.int .i64 u.2.2)]) (fun u=>lsn u.2.1.names u.1) (L3 w l c s d M) (fun u=>(yj (yq w l) s).length - u.2.2) (restr (CD.names { c with q:=q' }) σ2,{ c with q:=q' },0)
      ⟨hI2r,hks,hA,rfl,hin2,hds.symm,Nat.zero_le _,fun nm h=>yC nm h,by show q9 c.o l * (l.length + 1) + q'.es.length < M;omega⟩
      (x6 ⟨rfl,rfl,by rw [← hn'.bq];rfl,rfl,rfl,rfl,rfl,trivial⟩ (fun n hn=>(zB hn).symm) (hE3 _ _) (hI2r.cl (fun n hn=>hn) fun n hn hm=>absurd hn hm) (fun n hn=>by cases hn)) fun u hu=>?_
     clear hI hI2 hI2r hF hB hin2 hds hel2 hinv hq1 hq2 hn' hp' hne hout hvv hks hA hel
     obtain ⟨σ3,c3,j⟩:=u
     obtain ⟨hI,hks,hA,hbl,hinv,hos,hj,hout,hmu⟩:=hu
     dsimp only at hI hks hA hbl hinv hos hj hout hmu
     show WC _ _ _ _ _ _ _ (zy (lsn c3.names σ3)) _
     rw [vc,yY hout]
     have hel:c3.q.es.length≤l.length:=by rw [← zcy];exact hinv.len
     have hbkl:=zqm (yq w l) s
     repeat (first|refine i_s rfl ?_|refine sw ?_)
     refine zd rfl (fun h=>?_) (fun h=>?_)
     · have hjl:j < (yj (yq w l) s).length:=by simpa using h
       clear h
       obtain ⟨⟨x,kk⟩,hjx⟩:=zh hjl
       obtain ⟨b0,hb0,hto,hvr⟩:∃ b0∈c.bl,b0.to=s∧vv=.rsl b0.b (yj (yq w l) s).length b0.c:=by
        rcases hcase with ⟨_,h2⟩|h2
        · rw [h2] at hjl;simp at hjl
        · exact h2
       have hbk:=hI.bl b0 (by rw [hbl];exact hb0)
       rw [hA] at hbk
       have hxA:(s,x,kk)∈yq w l:=zp9.1 (zm hjx)
       obtain ⟨hxl,i0,hst⟩:=zaq.1 hxA
       have hkk:=zdb hc hst
       simp only at hkk
       have hdrop:(yj (yq w l) s).drop j=(x,kk) :: (yj (yq w l) s).drop (j + 1):=by
        rw [List.drop_eq_getElem_cons hjl]
        congr 1
        exact (List.getElem?_eq_some_iff.1 hjx).2
       rw [hdrop] at hinv
       have hxk:x∈c3.ks:=by rw [hks];exact hxl
       subst hvr
       have hO2:ups (ups σ3 nY (.box (.agg [.int .u32 0,.int .i64 0]))) nY (.box (v2 (x,kk))) nO=uV c3.ks c3.o:=(ze _ _ (by decide)).trans ((ze _ _ (by decide)).trans hI.ho)
       have nx:∀ i,i≤(yj (yq w l) s).length→((i:Nat):Int)=i:=fun _ _=>rfl
       repeat refine sw ?_
       refine zen (n:=(j:Int)) rfl rfl (by omega) (by omega) ?_
       refine y1 b0.nm rfl hbk.hs (zxf hbk (by rw [hto];exact hjx)) ?_
       refine zi (wU hout hI.av.2.2) ?_
       repeat (first|refine i_s rfl ?_|refine sw ?_|refine ja rfl rfl ?_|refine zl rfl ?_)
       refine zxP rfl hO2 rfl hxk ?_
       repeat (first|refine i_s rfl ?_|refine sw ?_)
       refine zd rfl (fun h=>?_) (fun h=>?_)
       · have hlt:c3.o s + kk < c3.o x:=by rw [hos];simpa using h
         clear h
         repeat (first|refine i_s rfl ?_|refine sw ?_|refine ja rfl rfl ?_)
         refine zdF (k:=.u32) (ns:=c3.ks.map toI) (vs:=c3.ks.map fun x=>zk (c3.o x)) rfl rfl hO2 rfl rfl (zrs (s:=x) (v:=d + kk) hxk (by rw [hks];exact hnd)) ?_
         repeat (first|refine i_s rfl ?_|refine sw ?_|refine ja rfl rfl ?_)
         obtain ⟨f1,f2,fne,fl1,fl2,fn1,fn2⟩:=ztX (n9 :: nX :: nY :: c3.names) (by
          have:=zgY hI (by omega) (by rw [hA];exact hAn)
          simp only [List.length_cons]
          omega)
         simp only [List.mem_cons,not_or] at fn1 fn2
         have hIy:CI (ups (ups σ3 nY (.box (.agg [.int .u32 0,.int .i64 0]))) nY (.box (v2 (x,kk)))) c3:=hI.congr fun n hn=>by
          rw [ze _ _ (fun (e:n=nY)=>hI.av.2.2 (e ▸ hn)),ze _ _ (fun (e:n=nY)=>hI.av.2.2 (e ▸ hn))]
         have hIc:=hIy.out (ks:=c3.ks) (o:=yH c3.o x (d + kk))
         have hfu:∀ n∈[f1,f2],ups (ups (ups σ3 nY (.box (.agg [.int .u32 0,.int .i64 0]))) nY (.box (v2 (x,kk)))) nO (uV c3.ks (yH c3.o x (d + kk))) n=.zc:=fun n hn=>by
          simp only [List.mem_cons,List.not_mem_nil,or_false] at hn
          rcases hn with rfl|rfl
          · rw [ze _ _ (fun (e:n=nO)=>fn1.2.2.2 (e ▸ c3.inO)),ze _ _ fn1.2.2.1,ze _ _ fn1.2.2.1]
            exact wU hout fn1.2.2.2
          · rw [ze _ _ (fun (e:n=nO)=>fn2.2.2.2 (e ▸ c3.inO)),ze _ _ fn2.2.2.1,ze _ _ fn2.2.2.1]
            exact wU hout fn2.2.2.2
         obtain ⟨hq1,hq2⟩:=hIc.hq.call [f1,f2] hfu
         have hi1:f1∈[f1,f2] ++ c3.q.names:=by simp
         have hi2:f2∈[f1,f2] ++ c3.q.names:=by simp
         refine zfU ([f1,f2] ++ c3.q.names) rfl rfl hq1 (ztU hq2 (by show c3.q.es.length < 1000000;omega) x (d + kk) hi1 hi2 ((zB hi1).trans (hfu f1 (by simp))) ((zB hi2).trans (hfu f2 (by simp))) fne fl1 fl2 (fun hm=>fn1.2.2.2 (c3.inq hm))) ?_
         rintro v σ' g' ⟨⟨q',hn',hp'⟩,rfl⟩
         have hI2:=hIc.queue (f:=[f1,f2]) (fun n hn=>by
          simp only [List.mem_cons,List.not_mem_nil,or_false] at hn
          rcases hn with rfl|rfl
          · exact ⟨fn1.2.2.2,fn1.1,fn1.2.1,fn1.2.2.1⟩
          · exact ⟨fn2.2.2.2,fn2.1,fn2.2.1,fn2.2.2.1⟩) hn'.ok
         rw [← hos] at hp'
         obtain ⟨r1,r2,r3,r4⟩:=hinv.relax hc hsl hxA hlt hp'
         have hs1:=(zqa r4 hlt (l:=l)).2 hxl
         rw [hos] at r1 r2 hs1
         have hel2:q'.es.length≤l.length:=by rw [← zcy];exact r1.len
         have hmu2:q9 (yH c3.o x (d + kk)) l * (l.length + 1) + q'.es.length < M:=by
          have h1:(q9 (yH c3.o x (d + kk)) l + 1) * (l.length + 1)≤q9 c3.o l * (l.length + 1):=Nat.mul_le_mul_right _ hs1
          rw [Nat.add_mul,Nat.one_mul] at h1
          omega
         have hI2r:CI (restr (CD.names { c3 with q:=q',ks:=c3.ks,o:=yH c3.o x (d + kk) }) (merge ([f1,f2] ++ c3.q.names) (ups (ups (ups σ3 nY (.box (.agg [.int .u32 0,.int .i64 0]))) nY (.box (v2 (x,kk)))) nO (uV c3.ks (yH c3.o x (d + kk)))) σ')) { c3 with q:=q',ks:=c3.ks,o:=yH c3.o x (d + kk) }:=hI2.congr fun n hn=>zB hn
         repeat (first|refine i_s rfl ?_|refine sw ?_|refine ja rfl rfl ?_)
         exact xL (_,{ c3 with q:=q',ks:=c3.ks,o:=yH c3.o x (d + kk) },j + 1) ⟨hI2r,hks,hA,hbl,r1,r2,hjl,fun nm h=>yC nm h,hmu2⟩ (by show (yj (yq w l) s).length - (j + 1) < (yj (yq w l) s).length - j;omega)
          (x6 ⟨rfl,rfl,by rw [← hn'.bq];rfl,rfl,rfl,rfl,rfl,trivial⟩ (fun n hn=>(zB hn).symm) (hE3 _ _) (hI2r.cl (fun n hn=>hn) fun n hn hm=>absurd hn hm) (fun n hn=>by cases hn))
       · have hge:¬ c3.o s + kk < c3.o x:=by rw [hos];simpa using h
         clear h
         repeat (first|refine i_s rfl ?_|refine sw ?_|refine ja rfl rfl ?_)
         exact xL (σ3,c3,j + 1) ⟨hI,hks,hA,hbl,hinv.skip hge,hos,hjl,hout,hmu⟩ (by show (yj (yq w l) s).length - (j + 1) < (yj (yq w l) s).length - j;omega)
          (x6 ⟨rfl,rfl,rfl,rfl,rfl,rfl,rfl,trivial⟩ (fun n hn=>by rw [ze _ _ (fun (e:n=nY)=>hI.av.2.2 (e ▸ hn)),ze _ _ (fun (e:n=nY)=>hI.av.2.2 (e ▸ hn))]) (hE3 _ _) (hI.cl (fun n hn=>hn) fun n hn hm=>absurd hn hm) (fun n hn=>by cases hn))
     · have hje : j = (yj (yq w l) s).length := by have:¬ j < (yj (yq w l) s).length:=by simpa using h
                                                   omega
       clear h
       subst hje
       rw [List.drop_length] at hinv
       repeat refine sw ?_
       exact xL (σ3,c3) ⟨hI,hks,hA,hinv.mono fun t u k h=>by simp at h,hout⟩ (by rw [← hM];exact hmu) (x6 ⟨rfl,rfl,rfl,trivial⟩ (fun _ _=>rfl) (hE2 c3) (hI.cl (fun n hn=>hn) fun n hn hm=>absurd hn hm) (fun n hn=>by cases hn))
   · have he:c.q.es=[]:=by
      have:¬ ((c.q.es.length:Nat):Int) > 0:=by simpa using h
      exact List.eq_nil_of_length_eq_zero (by omega)
     have hkv0:c.q.kv=[]:=by unfold HS.kv;rw [he];rfl
     rw [hkv0] at hinv
     have hls:=hinv.least hcl
     have hO:=hI.ho
     rw [hks,zlJ (o':=D) fun s hs=>(hls s hs).uniq (hD s)] at hO
     repeat (first|refine i_s rfl ?_|refine sw ?_)
     refine zb ⟨rfl,_,rfl,?_⟩
     show _=er σ 6 (.mp nO)
     unfold uV at hO
     simp only [er,hO]
end Hm
end
section
namespace Hm
open Go
set_option maxRecDepth 100000
set_option maxHeartbeats 4000000
theorem znV (w:W32):(facts w).length≤32:=zdy w 32
def zij:Cmd :=
 (qS [qc 4 0]
 (.seq (.ops [qm 5 0,qk 6 66 [5],qm 7 1,qk 8 66 [7],qk 9 19 [6,8],qm 4 9]) .ret))
def zik:List RVar:=[.tmp 4]
def zil:Nat:=10
theorem zim:zj PG 65 zil zik zij=true:=by kernel_rfl
theorem zin (a b:W32):Fc PG 65 [yk a,yk b] (.int .i64 (xh (facts a) (facts b))):=by
 have la:=znV a
 have lb:=znV b
 have h1:=zfl a
 have h2:=zfl b
 have h3:=zch (facts a) (facts b) (by omega) (by omega)
 refine Fn.step zf zim ?_
 repeat' (first|refine i_s rfl ?_|refine sw ?_|refine sf rfl rfl h1 ?_|refine sf rfl rfl h2 ?_|refine sf rfl rfl h3 ?_|fail)
 exact zb ⟨rfl,_,rfl,rfl⟩
end Hm
end
section
namespace Hm
open Go
set_option maxRecDepth 100000
set_option maxHeartbeats 1000000
def ltN (l:List Int)(x:Int):Nat:=l.countP fun y=>decide (y < x)
theorem zxg {l:List Int}{x:Int}{i:Nat} (hi:i≤l.length)(h1:∀ j y,j < i→l[j]? = some y→y < x)(h2:∀ j y,i≤j→l[j]? = some y→x≤y):ltN l x=i:=by
 unfold ltN
 conv=>lhs;rw [← List.take_append_drop i l,List.countP_append]
 have e1:(l.take i).countP (fun y=>decide (y < x))=(l.take i).length:=List.countP_eq_length.2 fun y hy=>by
  obtain ⟨j,hj,e⟩:=List.mem_take_iff_getElem.1 hy
  simpa using h1 j y (by omega) (by rw [← e];exact List.getElem?_eq_getElem (by omega))
 have e2:(l.drop i).countP (fun y=>decide (y < x))=0:=List.countP_eq_zero.2 fun y hy=>by
  obtain ⟨j,hj,e⟩:=List.mem_drop_iff_getElem.1 hy
  have:=h2 (i + j) y (by omega) (by rw [← e];exact List.getElem?_eq_getElem (by omega))
  simpa using this
 rw [e1,e2,List.length_take]
 omega
def zbL:Cmd :=
 (qS [qc 4 0,qb 5 false]
 (qS [qm 10 0,qn 11 10,qm 6 11]
 (qS [qm 12 6,qc 7 0,qm 8 12]
 (qT (.block 0 (.loop (qT (qS [qm 13 7,qm 14 8,qu 15 .lss [] 13 14]
 (.cond (.t 15) .skip (.exit 0)))
 (.block 1 (qS [qm 16 7,qm 17 8,qu 18 .add [] 16 17,qq 19 (.conv .u64 (.t 18)),qq 20 (.bin .shr false [] (.t 19) (.c (.int .u64 1))),qq 21 (.conv .i64 (.t 20)),qm 9 21]
 (qS [qm 22 0,qm 23 9,qi 24 1 22 23,ql 25 1 24,qm 26 1,qk 27 108 [25,26]]
 (.cond (.t 27) (.ops [qm 28 9,qv 29 .add [] 28 1,qm 7 29]) (.ops [qm 30 9,qm 8 30]))))))))
 (.seq (.ops [qm 31 7,qm 32 7,qm 33 6,qu 34 .lss [] 32 33,qm 35 34,qg 36 35 true (.mov (.t 0)),qg 37 35 true (.mov (.t 7)),qg 38 35 true (.iaddr 1 (.t 36) (.t 37)),qg 39 35 true (.load false 1 (.t 38)),qg 40 35 true (.mov (.t 1)),qg 41 35 true (.bin .eql false [.i] (.t 39) (.t 40)),qg 42 35 true (.mov (.t 41)),qg 43 42 false (.mov (.t 0)),qg 44 42 false (.mov (.t 7)),qg 45 42 false (.iaddr 1 (.t 43) (.t 44)),qg 46 42 false (.load false 1 (.t 45)),qg 47 42 false (.call .f (.c (.fn 109 [])) [.t 46]),qg 48 42 false (.mov (.t 47)),qg 49 48 true (.mov (.t 1)),qg 50 48 true (.call .f (.c (.fn 109 [])) [.t 49]),qg 51 42 false (.pick (.t 48) (.t 50) (.c (.bool false))),qg 52 35 true (.pick (.t 42) (.c (.bool true)) (.t 51)),qq 53 (.pick (.t 35) (.t 52) (.c (.bool false))),qm 4 31,qm 5 53]) .ret)))))
def zbM:List RVar:=[.tmp 4,.tmp 5]
def zbN:Nat:=54
theorem zbO:zj PG 59 zbN zbM zbL=true:=by kernel_rfl
theorem zed (l : List Int) (x:Int)(hl:l.length≤140737488355328)(hs:SS l):Fc PG 59 [.sl .p (l.map zk),.int .i64 x] (.tup [.int .i64 (ltN l x),.bool (decide (x∈l))]):=by
 refine Fn.step zf zbO ?_
 repeat' (first|refine zo rfl ?_|refine i_s rfl ?_|refine sw ?_|fail)
 refine x5 (ι:=Nat × Nat) (fun p=>[(0,.sl .p (l.map zk)),(1,.int .i64 x),(6,.int .i64 l.length),(7,.int .i64 p.1),(8,.int .i64 p.2)]) (fun _=>[])
  (fun p=>p.1≤p.2∧p.2≤l.length∧(∀ j y,j < p.1→l[j]? = some y→y < x)∧(∀ j y,p.2≤j→l[j]? = some y→x≤y)) (fun p=>p.2 - p.1) (0,l.length) ⟨Nat.zero_le _,Nat.le_refl _,fun j y h=>by omega,fun j y h1 h2=>by have:=yn h2;omega⟩ ft fun p hi=>?_
 obtain ⟨i,j⟩:=p
 obtain ⟨h1,h2,h3,h4⟩:=hi
 simp only at h1 h2 h3 h4
 repeat (first|refine i_s rfl ?_|refine sw ?_)
 refine zd rfl (fun h=>?_) (fun h=>?_)
 · have hlt:i < j:=by simpa using h
   obtain ⟨y,hy⟩:=zh (l:=l) (k:=(i + j) / 2) (by omega)
   clear h
   repeat (first|refine i_s rfl ?_|refine sw ?_|refine jc rfl ?_|refine ja rfl rfl ?_)
   refine zrZ (q:=(((i + j) / 2:Nat):Int)) rfl rfl (by decide) ?_ ?_
   · show Int.fdiv ((i:Int) + (j:Int)) 2=_
     rw [Int.fdiv_eq_ediv_of_nonneg _ (by decide)]
     omega
   repeat (first|refine i_s rfl ?_|refine sw ?_|refine jc rfl ?_|refine jd rfl rfl ?_|refine sf rfl rfl (zmw _ _) ?_)
   refine zd rfl (fun h=>?_) (fun h=>?_)
   · have hyx:y < x:=by simpa using h
     repeat (first|refine i_s rfl ?_|refine sw ?_|refine ja rfl rfl ?_)
     refine xL ((i + j) / 2 + 1,j) ⟨by simp only;omega,h2,fun k z hk hz=>?_,h4⟩ (by simp only;omega) ⟨⟨rfl,rfl,rfl,?_,rfl,trivial⟩,trivial,rfl⟩
     · by_cases e:k=(i + j) / 2
       · subst e;rw [hy] at hz;cases hz;exact hyx
       · have:=zdL hs hz hy (by simp only at hk;omega);omega
     · rfl
   · have hyx:¬ y < x:=by simpa using h
     repeat (first|refine i_s rfl ?_|refine sw ?_)
     refine xL (i,(i + j) / 2) ⟨by simp only;omega,by simp only;omega,h3,fun k z hk hz=>?_⟩ (by simp only;omega) ft
     by_cases e:k=(i + j) / 2
     · subst e;rw [hy] at hz;cases hz;omega
     · have:=zdL hs hy hz (by simp only at hk;omega);omega
 · have he : i = j := by have:¬ i < j:=by simpa using h
                         omega
   subst he
   have hn:=zxg h2 h3 h4
   clear h
   by_cases hil:i < l.length
   · obtain ⟨y, hy⟩:=zh hil
     have hil':(i:Int) < l.length:=by omega
     by_cases e:y=x
     · have hm:x∈l:=e ▸ zm hy
       repeat' (first|refine i_s rfl ?_|refine sw ?_|refine yi rfl ?_|refine yw rfl ?_|refine zi0 rfl ?_|refine jd rfl rfl ?_|refine i_g rfl (fun h=>?_) (fun h=>?_)|refine sf rfl rfl (zal _) ?_|fail)
       all_goals first
        | (refine zb ⟨rfl,_,rfl,?_⟩;rw [hn,decide_eq_true hm];rfl)
        | (exfalso;simp at *;omega)
     · have hm:x ∉ l:=fun hm=>by
        obtain ⟨k,hk,e2⟩:=List.getElem_of_mem hm
        have hg:l[k]? = some x:=by rw [← e2];exact List.getElem?_eq_getElem hk
        by_cases hki:k < i
        · have:=h3 k x hki hg;omega
        · by_cases hke:k=i
          · subst hke;rw [hy] at hg;cases hg;exact e rfl
          · have:=zdL hs hy hg (by omega)
            have:=h4 i y (Nat.le_refl _) hy
            omega
       repeat' (first|refine i_s rfl ?_|refine sw ?_|refine yi rfl ?_|refine yw rfl ?_|refine zi0 rfl ?_|refine jd rfl rfl ?_|refine i_g rfl (fun h=>?_) (fun h=>?_)|refine sf rfl rfl (zal _) ?_|fail)
       all_goals first
        | (refine zb ⟨rfl,_,rfl,?_⟩;rw [hn,decide_eq_false hm];rfl)
        | (exfalso;clear hm h3 h4 hs hn;simp at *;omega)
        | (exfalso;clear hm h3 h4 hs hn;simp at *;done)
   · have hm:x ∉ l:=fun hm=>by
      obtain ⟨k,hk,e2⟩:=List.getElem_of_mem hm
      have:=h3 k x (by omega) (by rw [← e2];exact List.getElem?_eq_getElem hk)
      omega
     repeat' (first|refine i_s rfl ?_|refine sw ?_|refine yi rfl ?_|refine yw rfl ?_|refine zi0 rfl ?_|refine i_g rfl (fun h=>?_) (fun h=>?_))
     all_goals first
      | (refine zb ⟨rfl,_,rfl,?_⟩;rw [hn,decide_eq_false hm];rfl)
      | (exfalso;clear hm h3 h4 hs hn;simp at *;omega)
def zj0:Cmd :=
 (qS [qb 3 false]
 (qS [ql 7 1 1,qm 8 0,qk 9 59 [7,8],qm 6 9,qq 10 (.extract (.t 6) 0),qq 11 (.extract (.t 6) 1),qm 4 10,qm 5 11]
 (.seq (.ops [qm 12 5,qm 3 12]) .ret)))
def zj1:List RVar:=[.tmp 3]
def zj2:Nat:=13
theorem zj3:zj PG 133 zj2 zj1 zj0=true:=by kernel_rfl
theorem zj4 (b:List Int)(hl:b.length≤140737488355328)(hs:SS b)(x:Int):Fc PG 133 [zk x,.cptr .p (.sl .p (b.map zk)) 0] (.bool (decide (x∈b))):=by
 refine Fn.step zf zj3 ?_
 repeat' (first|refine i_s rfl ?_|refine sw ?_|refine sf rfl rfl (zed b x hl hs) ?_|fail)
 exact zb ⟨rfl,_,rfl,rfl⟩
def zmY:Cmd :=
 (qS [qx 3 5760193 1 1,qb 4 false]
 (.seq (.ops [qm 5 0,qq 6 (.mkfn 133 [.t 3]),qk 7 17 [5,6],qm 4 7]) .ret))
def zmZ:List RVar:=[.tmp 4]
def zm0:Nat:=8
theorem zm1:zj PG 90 zm0 zmZ zmY=true:=by kernel_rfl
theorem zm2 (a b:List Int)(hl:a.length≤140737488355328)(hlb:b.length≤140737488355328)(hs:SS b):Fc PG 90 [.sl .p (a.map zk),.sl .p (b.map zk)] (.bool (zsc a b)):=by
 have hC:=vW a (fun x=>decide (x∈b)) 133 [.cptr .p (.sl .p (b.map zk)) 0] hl (fun _ _=>rfl) rfl (fun x _=>zj4 b hlb hs x)
 refine Fn.step zf zm1 ?_
 repeat' (first|refine i_s rfl ?_|refine sw ?_|refine zr rfl rfl ?_|refine sf rfl rfl hC ?_|fail)
 exact zb ⟨rfl,_,rfl,rfl⟩
def kM (n:Int)(o:SOp):Int:=if yy n o.pre=false∨yy n o.add=false∨yy n o.del=false∨zeI o.add o.del=false then 5 else if o.cost < 0∨o.cost > 100 then 3 else 0
theorem ztZ {n:Int}{ops:List SOp}{i:Nat}{o:SOp} (h:ops[i]? = some o):wr n ops i=if kM n o=0 then none else some ⟨kM n o,i⟩:=by
 unfold wr kM
 rw [h]
 simp only
 repeat' split
 all_goals first|rfl|omega|contradiction
def zx1 (o:SOp):Prop:=o.pre.length≤140737488355328∧o.add.length≤140737488355328∧o.del.length≤140737488355328
theorem zsH {n:Int}{o:SOp} (h:yy n o.pre=false∨yy n o.add=false∨yy n o.del=false∨zeI o.add o.del=false):kM n o=5:=if_pos h
theorem opc {n:Int}{o:SOp} (h1:yy n o.pre=true)(h2:yy n o.add=true)(h3:yy n o.del=true)(h4:zeI o.add o.del=true):kM n o=if o.cost < 0∨o.cost > 100 then 3 else 0:=if_neg (by simp [h1,h2,h3,h4])
def zio:Cmd :=
 (qS [qx 2 2944132 4 0,qc 4 0]
 (qT (.block 0 (qS [qf 6 0 2,ql 7 1 6,qm 8 1,qk 9 45 [7,8],qq 10 (.not (.t 9)),qm 11 10,qg 12 11 false (.faddr 1 (.t 2)),qg 13 11 false (.load false 1 (.t 12)),qg 14 11 false (.mov (.t 1)),qg 15 11 false (.call .f (.c (.fn 45 [])) [.t 13,.t 14]),qg 16 11 false (.not (.t 15)),qq 17 (.pick (.t 11) (.c (.bool true)) (.t 16)),qm 18 17,qg 19 18 false (.faddr 2 (.t 2)),qg 20 18 false (.load false 1 (.t 19)),qg 21 18 false (.mov (.t 1)),qg 22 18 false (.call .f (.c (.fn 45 [])) [.t 20,.t 21]),qg 23 18 false (.not (.t 22)),qq 24 (.pick (.t 18) (.c (.bool true)) (.t 23)),qm 25 24,qg 26 25 false (.faddr 1 (.t 2)),qg 27 25 false (.load false 1 (.t 26)),qg 28 25 false (.faddr 2 (.t 2)),qg 29 25 false (.load false 1 (.t 28)),qg 30 25 false (.call .f (.c (.fn 90 [])) [.t 27,.t 29]),qq 31 (.pick (.t 25) (.c (.bool true)) (.t 30)),qm 5 31]
 (.cond (.t 5) (.seq (.ops [qc 4 5]) .ret) (qS [qf 33 3 2,ql 34 1 33,qv 35 .lss [] 34 0,qm 36 35,qg 37 36 false (.faddr 3 (.t 2)),qg 38 36 false (.load false 1 (.t 37)),qg 39 36 false (.bin .gtr false [] (.t 38) (.c (.int .i64 100))),qq 40 (.pick (.t 36) (.c (.bool true)) (.t 39)),qm 32 40]
 (.cond (.t 32) (.seq (.ops [qc 4 3]) .ret) .skip)))))
 (.seq (.ops [qc 4 0]) .ret)))
def ziq:List RVar:=[.tmp 4]
def zir:Nat:=41
theorem xQ:zj PG 46 zir ziq zio=true:=by kernel_rfl
theorem zis (o:SOp)(n:Int)(ho:zx1 o):Fc PG 46 [soV o,.int .i64 n] (.int .i64 (kM n o)):=by
 obtain ⟨l1,l2,l3⟩:=ho
 have h1:=wM o.pre n l1
 have h2:=wM o.add n l2
 have h3:=wM o.del n l3
 cases e1:yy n o.pre with
 | false =>
  rw [e1] at h1
  refine Fn.step zf xQ ?_
  repeat' (first|refine i_s rfl ?_|refine sw ?_|refine yw rfl ?_|refine c_t rfl ?_|refine zr rfl rfl ?_|refine sf rfl rfl h1 ?_|fail)
  exact zb ⟨rfl,_,rfl,congrArg (V.int .i64) (zsH (.inl e1))⟩
 | true =>
 cases e2:yy n o.add with
 | false =>
  rw [e1] at h1
  rw [e2] at h2
  refine Fn.step zf xQ ?_
  repeat' (first|refine i_s rfl ?_|refine sw ?_|refine yi rfl ?_|refine yw rfl ?_|refine c_t rfl ?_|refine zr rfl rfl ?_|refine sf rfl rfl h1 ?_|refine sf rfl rfl h2 ?_|fail)
  exact zb ⟨rfl,_,rfl,congrArg (V.int .i64) (zsH (.inr (.inl e2)))⟩
 | true =>
 cases e3:yy n o.del with
 | false =>
  rw [e1] at h1
  rw [e2] at h2
  rw [e3] at h3
  refine Fn.step zf xQ ?_
  repeat' (first|refine i_s rfl ?_|refine sw ?_|refine yi rfl ?_|refine yw rfl ?_|refine c_t rfl ?_|refine zr rfl rfl ?_|refine sf rfl rfl h1 ?_|refine sf rfl rfl h2 ?_|refine sf rfl rfl h3 ?_|fail)
  exact zb ⟨rfl,_,rfl,congrArg (V.int .i64) (zsH (.inr (.inr (.inl e3))))⟩
 | true =>
 have h4:=zm2 o.add o.del l2 l3 (qP e3).ss
 rw [zty] at h4
 rw [e1] at h1
 rw [e2] at h2
 rw [e3] at h3
 cases e4:zeI o.add o.del with
 | false =>
  rw [e4] at h4
  refine Fn.step zf xQ ?_
  repeat' (first|refine i_s rfl ?_|refine sw ?_|refine yi rfl ?_|refine c_t rfl ?_|refine zr rfl rfl ?_|refine sf rfl rfl h1 ?_|refine sf rfl rfl h2 ?_|refine sf rfl rfl h3 ?_|refine sf rfl rfl h4 ?_|fail)
  exact zb ⟨rfl,_,rfl,congrArg (V.int .i64) (zsH (.inr (.inr (.inr e4))))⟩
 | true =>
  rw [e4] at h4
  refine Fn.step zf xQ ?_
  repeat' (first|refine i_s rfl ?_|refine sw ?_|refine yi rfl ?_|refine yw rfl ?_|refine c_t rfl ?_|refine c_f rfl ?_|refine zr rfl rfl ?_|(refine sp ?_ ?_<;>try intro h)|refine sf rfl rfl h1 ?_|refine sf rfl rfl h2 ?_|refine sf rfl rfl h3 ?_|refine sf rfl rfl h4 ?_|fail)
  all_goals
   refine zb ⟨rfl,_,rfl,congrArg (V.int .i64) ?_⟩
   rw [opc e1 e2 e3 e4]
   clear h1 h2 h3 h4
   simp at *
   omega
theorem sF1 {t:STask} (h:t.facts < 0∨t.facts > 24):yG t=⟨3,-1⟩:=if_pos h
theorem sF2 {t:STask} (h:¬ (t.facts < 0∨t.facts > 24))(h2:yy t.facts t.init=false):yG t=⟨5,-2⟩:=by unfold yG;rw [if_neg h,if_pos h2]
theorem sF3 {t:STask} (h:¬ (t.facts < 0∨t.facts > 24))(h2:yy t.facts t.init=true)(h3:yy t.facts t.goal=false):yG t=⟨5,-3⟩:=by unfold yG;rw [if_neg h,if_neg (by simp [h2]),if_pos h3]
theorem sF4 {t:STask} (h:¬ (t.facts < 0∨t.facts > 24))(h2:yy t.facts t.init=true)(h3:yy t.facts t.goal=true)(h4:t.ops.length > 40):yG t=⟨2,-1⟩:=by unfold yG;rw [if_neg h,if_neg (by simp [h2]),if_neg (by simp [h3]),if_pos h4]
theorem sF5 {t:STask} (h:¬ (t.facts < 0∨t.facts > 24))(h2:yy t.facts t.init=true)(h3:yy t.facts t.goal=true)(h4:¬ t.ops.length > 40):yG t=(y0 (wr t.facts t.ops) 0 t.ops.length).getD okF:=by unfold yG;rw [if_neg h,if_neg (by simp [h2]),if_neg (by simp [h3]),if_neg h4]
theorem zxh {t:STask} (hel:yG t=(y0 (wr t.facts t.ops) 0 t.ops.length).getD okF) {k:Nat}{f:Flt} (hi:∀ j,j < k→wr t.facts t.ops j=none)(hk:k < t.ops.length)(hf:wr t.facts t.ops k=some f):yG t=f:=by
 rw [hel,wQ hi hk hf];rfl
theorem zwb {t:STask} (hel:yG t=(y0 (wr t.facts t.ops) 0 t.ops.length).getD okF)(hi:∀ j,j < t.ops.length→wr t.facts t.ops j=none):yG t=okF:=by
 rw [hel,wp hi];rfl
end Hm
end
section
namespace Hm
open Go
set_option maxRecDepth 100000
set_option maxHeartbeats 2000000
def zit:Cmd :=
 (qS [qx 1 832068 4 0,qq 2 (.alloc 832130 (.agg [.int .i64 0,.int .i64 0]))]
 (qT (.block 0 (qS [qf 7 0 1,ql 8 1 7,qv 9 .lss [] 8 0,qm 10 9,qg 11 10 false (.faddr 0 (.t 1)),qg 12 10 false (.load false 1 (.t 11)),qg 13 10 false (.bin .gtr false [] (.t 12) (.c (.int .i64 24))),qq 14 (.pick (.t 10) (.c (.bool true)) (.t 13)),qm 6 14]
 (.cond (.t 6) (.seq (.ops [qq 15 (.build [.int .i64 0,.int .i64 0] [(0 ,1 ,.c (.int .i64 3)),(1 ,1 ,.c (.int .i64 (-1)))]),qs 2 2 15]) .ret) (qS [qf 17 1 1,ql 18 1 17,qf 19 0 1,ql 20 1 19,qk 21 45 [18,20],qq 22 (.not (.t 21)),qm 16 22]
 (.cond (.t 16) (.seq (.ops [qq 23 (.build [.int .i64 0,.int .i64 0] [(0 ,1 ,.c (.int .i64 5)),(1 ,1 ,.c (.int .i64 (-2)))]),qs 2 2 23]) .ret) (qS [qf 25 2 1,ql 26 1 25,qf 27 0 1,ql 28 1 27,qk 29 45 [26,28],qq 30 (.not (.t 29)),qm 24 30]
 (.cond (.t 24) (.seq (.ops [qq 31 (.build [.int .i64 0,.int .i64 0] [(0 ,1 ,.c (.int .i64 5)),(1 ,1 ,.c (.int .i64 (-3)))]),qs 2 2 31]) .ret) (qS [qf 33 3 1,ql 34 1 33,qn 35 34,qv 36 .gtr [] 35 40,qm 32 36]
 (.cond (.t 32) (.seq (.ops [qq 37 (.build [.int .i64 0,.int .i64 0] [(0 ,1 ,.c (.int .i64 2)),(1 ,1 ,.c (.int .i64 (-1)))]),qs 2 2 37]) .ret) .skip)))))))))
 (qT (qS [qf 38 3 1,ql 39 1 38,qn 40 39,qc 41 0]
 (.block 1 (.loop (qS [qu 42 .lss [] 41 40]
 (qT (.cond (.t 42) .skip (.exit 1))
 (qT (.block 2 (qS [qm 43 41,qi 44 4 39 41,qL 45 4 44,qq 4 (.alloc 832260 (.agg [.sl .nil [],.sl .nil [],.sl .nil [],.int .i64 0])),qm 3 43,qs 4 4 45]
 (qS [qL 46 4 4,qf 47 0 1,ql 48 1 47,qk 49 46 [46,48],qm 5 49]
 (qS [qm 50 5,qv 51 .neq [.i] 50 0]
 (.cond (.t 51) (.seq (.ops [qm 52 5,qm 53 3,qq 54 (.build [.int .i64 0,.int .i64 0] [(0 ,1 ,.t 52),(1 ,1 ,.t 53)]),qs 2 2 54]) .ret) .skip)))))
 (.ops [qv 55 .add [] 41 1,qm 41 55])))))))
 (.seq (.ops [qq 56 (.build [.int .i64 0,.int .i64 0] []),qs 2 2 56]) .ret))))
def ziu:List RVar:=[.cell true 2 2]
def ziv:Nat:=57
theorem xR:zj PG 13 ziv ziu zit=true:=by kernel_rfl
theorem za8 (t:STask)(ho:SkOk t):Fc PG 13 [skV t] (ftV (yG t)):=by
 have h1:=wM t.init t.facts ho.i
 have h2:=wM t.goal t.facts ho.g
 have l5:=ho.o
 have hop:∀ o∈t.ops,Fc PG 46 [soV o,.int .i64 t.facts] (.int .i64 (kM t.facts o)):=fun o h=>zis o t.facts (ho.e o h)
 by_cases hf:t.facts < 0∨t.facts > 24
 · refine Fn.step zf xR ?_
   repeat' (first|refine i_s rfl ?_|refine sw ?_|refine yi rfl ?_|refine yw rfl ?_|refine c_t rfl ?_|refine zl rfl ?_|refine zi rfl ?_|refine zr rfl rfl ?_|(refine sp ?_ ?_<;>try intro h)|fail)
   all_goals first
    | exact zb ⟨rfl,_,rfl,yV (sF1 hf)⟩
    | (exfalso;clear h1 h2 ho hop;simp at *;omega)
 have hf':0≤t.facts∧t.facts≤24:=by omega
 cases e1:yy t.facts t.init with
 | false =>
  rw [e1] at h1
  refine Fn.step zf xR ?_
  repeat' (first|refine i_s rfl ?_|refine sw ?_|refine yi rfl ?_|refine yw rfl ?_|refine c_t rfl ?_|refine zl rfl ?_|refine zi rfl ?_|refine zr rfl rfl ?_|(refine sp ?_ ?_<;>try intro h)|refine sf rfl rfl h1 ?_|fail)
  all_goals first
   | exact zb ⟨rfl,_,rfl,yV (sF2 hf e1)⟩
   | (exfalso;clear h1 h2 ho hop;simp at *;omega)
 | true =>
 cases e2:yy t.facts t.goal with
 | false =>
  rw [e1] at h1
  rw [e2] at h2
  refine Fn.step zf xR ?_
  repeat' (first|refine i_s rfl ?_|refine sw ?_|refine yi rfl ?_|refine yw rfl ?_|refine c_t rfl ?_|refine c_f rfl ?_|refine zl rfl ?_|refine zi rfl ?_|refine zr rfl rfl ?_|(refine sp ?_ ?_<;>try intro h)|refine sf rfl rfl h1 ?_|refine sf rfl rfl h2 ?_|fail)
  all_goals first
   | exact zb ⟨rfl,_,rfl,yV (sF3 hf e1 e2)⟩
   | (exfalso;clear h1 h2 ho hop;simp at *;omega)
 | true =>
 rw [e1] at h1
 rw [e2] at h2
 by_cases h4:t.ops.length > 40
 · refine Fn.step zf xR ?_
   repeat' (first|refine zo rfl ?_|refine i_s rfl ?_|refine sw ?_|refine yi rfl ?_|refine yw rfl ?_|refine c_t rfl ?_|refine c_f rfl ?_|refine zl rfl ?_|refine zi rfl ?_|refine zr rfl rfl ?_|(refine sp ?_ ?_<;>try intro h)|refine sf rfl rfl h1 ?_|refine sf rfl rfl h2 ?_|fail)
   all_goals first
    | exact zb ⟨rfl,_,rfl,yV (sF4 hf e1 e2 h4)⟩
    | (exfalso;clear h1 h2 ho hop;simp at *;omega)
 have hel:=sF5 hf e1 e2 h4
 refine Fn.step zf xR ?_
 repeat' (first|refine zo rfl ?_|refine i_s rfl ?_|refine sw ?_|refine yi rfl ?_|refine yw rfl ?_|refine c_t rfl ?_|refine c_f rfl ?_|refine zl rfl ?_|refine zi rfl ?_|refine zr rfl rfl ?_|(refine sp ?_ ?_<;>try intro h)|refine sf rfl rfl h1 ?_|refine sf rfl rfl h2 ?_|fail)
 all_goals first|(exfalso;clear h1 h2 ho hop hel;simp at *;omega)|skip
 refine ye t.ops.length (fun k=>[(1,.bptr 832068 0),(2,.bptr 832130 0),(39,.sl .p (t.ops.map soV)),(40,.int .i64 t.ops.length),(41,.int .i64 k)]) (fun _=>[(832068,.box (skV t)),(832130,.box (ftV okF))]) (fun k=>∀ j,j < k→wr t.facts t.ops j=none) yO ft fun k hk hi=>?_
 clear h1 h2
 repeat (first|refine i_s rfl ?_|refine sw ?_)
 refine zd rfl (fun h=>?_) (fun h=>?_)
 · have hlt:k < t.ops.length:=by simpa using h
   obtain ⟨o,hx⟩:=zh hlt
   have hc:=hop o (zm hx)
   have hb:=ztZ (n:=t.facts) hx
   clear h hop ho
   repeat (first|refine i_s rfl ?_|refine sw ?_|refine jd rfl rfl ?_|refine zl rfl ?_|refine zi rfl ?_|refine sf rfl rfl hc ?_)
   clear hc
   refine zd rfl (fun h=>?_) (fun h=>?_)
   · have hne:kM t.facts o≠0:=by simpa using h
     rw [if_neg hne] at hb
     repeat' (first|refine i_s rfl ?_|refine sw ?_|refine zl rfl ?_)
     exact zb ⟨rfl,_,rfl,yV (zxh hel hi hlt hb)⟩
   · have hne:kM t.facts o=0:=by simpa using h
     rw [if_pos hne] at hb
     repeat' (first|refine i_s rfl ?_|refine sw ?_|refine ja rfl rfl ?_|fail)
     exact zK hlt (yN hi hb) ft
 · have hge:¬ k < t.ops.length:=by simpa using h
   repeat' (first|refine i_s rfl ?_|refine sw ?_|refine zl rfl ?_)
   exact zb ⟨rfl,_,rfl,yV (zwb hel fun j hj=>hi j (by omega))⟩
end Hm
end
