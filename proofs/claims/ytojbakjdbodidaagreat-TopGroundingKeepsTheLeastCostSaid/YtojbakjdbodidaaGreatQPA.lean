/- Part QPA of the proof. -/
import Derived.Test.YtojbakjdbodidaaGreatQC
import Derived.Test.YtojbakjdbodidaaGreatProg
import Derived.ProofKit
set_option linter.unusedVariables false
set_option linter.unusedSimpArgs false
section
namespace Hm
open Go
noncomputable abbrev PG:Program:=Go.Proofs.Tryz.prog
theorem zf:Go.Proofs.Tryz.prog.follows .mixedOrders=true:=by kernel_rfl
end Hm
end
section
namespace Hm
open Go
set_option maxRecDepth 100000
set_option maxHeartbeats 4000000
def zkY:Cmd :=
 (qS [qb 2 false]
 (.seq (.ops [qm 3 0,qm 4 0,qu 5 .neq [.i] 3 4,qm 2 5]) .ret))
def zkZ:List RVar:=[.tmp 2]
def zk0:Nat:=6
theorem zc3:zj PG 105 zk0 zkZ zkY=true:=by kernel_rfl
theorem ziI (a:Int):Fc PG 105 [.int .i64 a] (.bool false):=by
 refine Fn.step zf zc3 ?_
 repeat' (first|refine i_s rfl ?_|refine sw ?_|fail)
 all_goals first
  | exact zb ⟨rfl,_,rfl,congrArg V.bool (by simp)⟩
def zhG:Cmd :=
 (qS [qc 4 0]
 (qS [qm 7 0,qk 8 105 [7],qm 5 8]
 (qS [qm 9 1,qk 10 105 [9],qm 6 10]
 (qT (qS [qm 11 5]
 (.cond (.t 11) (qT (qS [qm 12 6]
 (.cond (.t 12) (.seq (.ops [qc 4 0]) .ret) .skip))
 (.seq (.ops [qc 4 (-1)]) .ret)) .skip))
 (qT (qS [qm 13 6]
 (.cond (.t 13) (.seq (.ops [qc 4 1]) .ret) .skip))
 (qT (qS [qm 14 0,qm 15 1,qu 16 .lss [] 14 15]
 (.cond (.t 16) (.seq (.ops [qc 4 (-1)]) .ret) .skip))
 (qT (qS [qm 17 0,qm 18 1,qu 19 .gtr [] 17 18]
 (.cond (.t 19) (.seq (.ops [qc 4 1]) .ret) .skip))
 (.seq (.ops [qc 4 0]) .ret))))))))
def zhH:List RVar:=[.tmp 4]
def zhI:Nat:=20
theorem zhJ:zj PG 54 zhI zhH zhG=true:=by kernel_rfl
theorem uN (a b:Int):Fc PG 54 [.int .i64 a,.int .i64 b] (.int .i64 (y6 a b)):=by
 refine Fn.step zf zhJ ?_
 repeat' (first|refine i_s rfl ?_|refine sw ?_|refine c_f rfl ?_|refine zd rfl (fun h=>?_) (fun h=>?_)|refine sf rfl rfl (ziI a) ?_|refine sf rfl rfl (ziI b) ?_|fail)
 all_goals first
  | (exfalso;simp at *;done)
  | (refine zb ⟨rfl,_,rfl,congrArg (V.int .i64) ?_⟩;unfold y6;simp at *;(repeat' split)<;>omega)
def zpK:Cmd :=
 (qS [qc 2 0]
 (qS [qc 3 0]
 (qT (qS [qm 6 0,qn 7 6,qc 8 0]
 (.block 0 (.loop (qS [qu 9 .lss [] 8 7]
 (qT (.cond (.t 9) .skip (.exit 0))
 (qT (.block 1 (qS [qi 10 1 6 8,ql 11 1 10,qm 5 11]
 (qS [qm 12 5,qm 13 3,qu 14 .neq [.i] 12 13]
 (.cond (.t 14) (.seq (.ops [qm 15 5,qm 2 15]) .ret) .skip))))
 (.ops [qv 16 .add [] 8 1,qm 8 16])))))))
 (.seq (.ops [qm 17 3,qm 2 17]) .ret))))
def zpL:List RVar:=[.tmp 2]
def zpM:Nat:=18
theorem zpN:zj PG 132 zpM zpL zpK=true:=by kernel_rfl
theorem zvf (a b:Int):Fc PG 132 [.sl .p ([a,b].map zk)] (.int .i64 (if a≠0 then a else b)):=by
 refine Fn.step zf zpN ?_
 repeat' (first|refine zo rfl ?_|refine i_s rfl ?_|refine sw ?_|fail)
 refine ye 2 (fun k=>[(6,.sl .p ([a,b].map zk)),(7,.int .i64 2),(3,.int .i64 0),(8,.int .i64 k)]) (fun _=>[]) (fun k=>0 < k→a=0∧(1 < k→b=0)) (by simp) ft fun k hk hi=>?_
 have ha:([a,b]:List Int)[0]? = some a:=rfl
 have hb:([a,b]:List Int)[1]? = some b:=rfl
 have hk3:k=0∨k=1∨k=2:=by omega
 rcases hk3 with rfl|rfl|rfl
 · clear hi
   by_cases h0:a=0
   · repeat' (first|refine i_s rfl ?_|refine sw ?_|refine c_t rfl ?_|refine ja rfl rfl ?_|refine jd rfl rfl ?_|refine zd rfl (fun h=>?_) (fun h=>?_))
     all_goals first
      | (exfalso;simp_all;done)
      | (exact zK (by omega) (fun _=>⟨h0,fun h=>by omega⟩) ft)
   · rw [if_pos h0]
     repeat' (first|refine i_s rfl ?_|refine sw ?_|refine c_t rfl ?_|refine ja rfl rfl ?_|refine jd rfl rfl ?_|refine zd rfl (fun h=>?_) (fun h=>?_))
     all_goals first
      | exact zb ⟨rfl,_,rfl,rfl⟩
      | (exfalso;simp_all;done)
 · obtain ⟨h0,_⟩:=hi (by omega)
   rw [if_neg (by simp [h0])]
   clear hi
   by_cases h1:b=0
   · repeat' (first|refine i_s rfl ?_|refine sw ?_|refine c_t rfl ?_|refine ja rfl rfl ?_|refine jd rfl rfl ?_|refine zd rfl (fun h=>?_) (fun h=>?_))
     all_goals first
      | (exfalso;simp_all;done)
      | (exact zK (by omega) (fun _=>⟨h0,fun h=>h1⟩) ft)
   · repeat' (first|refine i_s rfl ?_|refine sw ?_|refine c_t rfl ?_|refine ja rfl rfl ?_|refine jd rfl rfl ?_|refine zd rfl (fun h=>?_) (fun h=>?_))
     all_goals first
      | exact zb ⟨rfl,_,rfl,rfl⟩
      | (exfalso;simp_all;done)
 · obtain ⟨h0,h1⟩:=hi (by omega)
   have h1:=h1 (by omega)
   subst h0
   subst h1
   clear hi
   repeat' (first|refine i_s rfl ?_|refine sw ?_|refine c_f rfl ?_)
   all_goals first
    | exact zb ⟨rfl,_,rfl,rfl⟩
    | (exfalso;simp_all;done)
def zeD:Cmd :=
 (qS [qc 4 0]
 (qT (qS [qm 9 0,qn 10 9,qc 11 0]
 (.block 0 (.loop (qS [qu 12 .lss [] 11 10]
 (qT (.cond (.t 12) .skip (.exit 0))
 (qT (.block 1 (qS [qm 13 11,qi 14 1 9 11,ql 15 1 14,qm 5 13,qm 6 15]
 (qT (qS [qm 16 5,qm 17 1,qn 18 17,qu 19 .geq [] 16 18]
 (.cond (.t 19) (.seq (.ops [qc 4 1]) .ret) .skip))
 (qS [qm 20 1,qm 21 5,qi 22 1 20 21,ql 23 1 22,qm 7 23]
 (qS [qm 24 6,qm 25 7,qk 26 54 [24,25],qm 8 26]
 (qS [qm 27 8,qv 28 .neq [.i] 27 0]
 (.cond (.t 28) (.seq (.ops [qm 29 8,qm 4 29]) .ret) .skip)))))))
 (.ops [qv 30 .add [] 11 1,qm 11 30])))))))
 (qT (qS [qm 31 0,qn 32 31,qm 33 1,qn 34 33,qu 35 .lss [] 32 34]
 (.cond (.t 35) (.seq (.ops [qc 4 (-1)]) .ret) .skip))
 (.seq (.ops [qc 4 0]) .ret))))
def zeE:List RVar:=[.tmp 4]
def zeF:Nat:=36
theorem zeG:zj PG 19 zeF zeE zeD=true:=by kernel_rfl
theorem zch (a b:List Int)(ha:a.length≤140737488355328)(hb:b.length≤140737488355328):Fc PG 19 [.sl .p (a.map zk),.sl .p (b.map zk)] (.int .i64 (xh a b)):=by
 refine Fn.step zf zeG ?_
 repeat (first|refine zo rfl ?_|refine i_s rfl ?_|refine sw ?_)
 refine ye a.length (fun k=>[(0,.sl .p (a.map zk)),(1,.sl .p (b.map zk)),(9,.sl .p (a.map zk)),(10,.int .i64 a.length),(11,.int .i64 k)]) (fun _=>[]) (fun k=>k≤b.length∧a.take k=b.take k) (by simp) ft fun k hk hi=>?_
 obtain ⟨hkb,hi⟩:=hi
 repeat (first|refine i_s rfl ?_|refine sw ?_)
 refine zd rfl (fun h=>?_) (fun h=>?_)
 · have hlt:k < a.length:=by simpa using h
   obtain ⟨x,hx⟩:=zh hlt
   clear h
   by_cases hk2:k < b.length
   · obtain ⟨y,hy⟩:=zh hk2
     by_cases hxy:x=y
     · have hz:y6 x y=0:=ug.2 hxy
       have hs:=uN x y
       rw [hz] at hs
       repeat' (first|refine zo rfl ?_|refine i_s rfl ?_|refine sw ?_|refine c_f rfl ?_|refine ja rfl rfl ?_|refine jd rfl rfl ?_|refine zd rfl (fun h=>?_) (fun h=>?_)|refine sf rfl rfl hs ?_|fail)
       all_goals first
        | (exact zK hlt ⟨hk2,by rw [zz hx,zz hy,hi,hxy]⟩ ft)
        | (exfalso;clear hs;simp at *;omega)
     · have hz:y6 x y≠0:=fun h=>hxy (ug.1 h)
       rw [zvL hi hx hy hxy]
       have hs:=uN x y
       generalize y6 x y=z at *
       repeat' (first|refine zo rfl ?_|refine i_s rfl ?_|refine sw ?_|refine ja rfl rfl ?_|refine jd rfl rfl ?_|refine zd rfl (fun h=>?_) (fun h=>?_)|refine sf rfl rfl hs ?_|fail)
       all_goals first
        | exact zb ⟨rfl,_,rfl,rfl⟩
        | (exfalso;clear hs;simp at *;omega)
   · rw [zo5 hi (by omega) hkb (.inr (by omega))]
     have hz:y6 a.length b.length=1:=by unfold y6;rw [if_neg (by omega),if_pos (by omega)]
     rw [hz]
     repeat' (first|refine zo rfl ?_|refine i_s rfl ?_|refine sw ?_|refine jd rfl rfl ?_|refine zd rfl (fun h=>?_) (fun h=>?_))
     all_goals first
      | exact zb ⟨rfl,_,rfl,rfl⟩
      | (exfalso;simp at *;omega)
 · have hge:¬ k < a.length:=by simpa using h
   clear h
   rw [zo5 hi (by omega) hkb (.inl (by omega))]
   repeat' (first|refine zo rfl ?_|refine i_s rfl ?_|refine sw ?_|refine zd rfl (fun h=>?_) (fun h=>?_))
   all_goals first
    | (refine zb ⟨rfl,_,rfl,congrArg (V.int .i64) ?_⟩;unfold y6;simp at *;(repeat' split)<;>omega)
def zji:Cmd :=
 (qS [qx 2 8256130 2 0,qx 3 8256194 2 1,qc 4 0]
 (.seq (.ops [qf 5 0 2,ql 6 1 5,qf 7 0 3,ql 8 1 7,qk 9 54 [6,8],qf 10 1 2,ql 11 1 10,qf 12 1 3,ql 13 1 12,qk 14 19 [11,13],qq 15 (.bsl 1 [.t 9,.t 14]),qk 16 132 [15],qm 4 16]) .ret))
def zjj:List RVar:=[.tmp 4]
def zjk:Nat:=17
theorem zjl:zj PG 129 zjk zjj zji=true:=by kernel_rfl
theorem x8 (a b:At)(ha:AtOk a)(hb:AtOk b):Fc PG 129 [atV a,atV b] (.int .i64 (yb a b)):=by
 have h1:=uN a.pred b.pred
 have h2:=zch a.args b.args (by have:=ha.len;omega) (by have:=hb.len;omega)
 have h3:=zvf (y6 a.pred b.pred) (xh a.args b.args)
 have e:yb a b=if y6 a.pred b.pred≠0 then y6 a.pred b.pred else xh a.args b.args:=by
  unfold yb
  by_cases h:a.pred=b.pred
  · rw [if_pos h,if_neg (by simp [ug.2 h])]
  · rw [if_neg h,if_pos (fun e=>h (ug.1 e))]
 rw [e]
 refine Fn.step zf zjl ?_
 repeat' (first|refine i_s rfl ?_|refine sw ?_|refine zr rfl rfl ?_|refine sf rfl rfl h1 ?_|refine sf rfl rfl h2 ?_|refine sf rfl rfl h3 ?_|fail)
 exact zb ⟨rfl,_,rfl,rfl⟩
def zdo:Cmd :=
 (qS [qc 4 0]
 (qT (qS [qm 6 0,qn 7 6,qc 8 0]
 (.block 0 (.loop (qS [qu 9 .lss [] 8 7]
 (qT (.cond (.t 9) .skip (.exit 0))
 (qT (.block 1 (qS [qm 10 8,qm 5 10]
 (qS [qm 11 1,qm 12 0,qm 13 5,qi 14 1 12 13,ql 15 1 14,qq 16 (.call .f (.t 11) [.t 15])]
 (.cond (.t 16) (.seq (.ops [qm 17 5,qm 4 17]) .ret) .skip))))
 (.ops [qv 18 .add [] 8 1,qm 8 18])))))))
 (.seq (.ops [qc 4 (-1)]) .ret)))
def zdp:List RVar:=[.tmp 4]
def zdq:Nat:=19
theorem zdr:zj PG 51 zdq zdp zdo=true:=by kernel_rfl
theorem zk1 (l:List (Int))(p:Int→Bool)(fid:Nat)(caps:List V)(hl:l.length≤140737488355328)(he:∀ σ n,caps.map (er σ (n + 1))=caps)(hc:zW [] caps=true)(hp:∀ t∈l,Fc PG fid (zk t :: caps) (.bool (p t))) :
  Fc PG 51 [.sl .p (l.map zk),.fn fid caps] (.int .i64 (kp p l)):=by
 refine Fn.step zf zdr ?_
 repeat (first|refine zo rfl ?_|refine i_s rfl ?_|refine sw ?_)
 refine ye l.length (fun k=>[(0,.sl .p (l.map zk)),(1,.fn fid caps),(7,.int .i64 l.length),(8,.int .i64 k)]) (fun _=>[]) (fun k=>∀ j,j < k→∀ c,l[j]? = some c→p c=false) yO ?_ fun k hk hi=>?_
 · exact ⟨⟨rfl,rfl,rfl,rfl,trivial⟩,trivial,by simp [wY,zX,zt,hc,zF,yT]⟩
 repeat (first|refine i_s rfl ?_|refine sw ?_)
 refine zd rfl (fun h=>?_) (fun h=>?_)
 · have hlt:k < l.length:=by simpa using h
   obtain ⟨c,hget⟩:=zh hlt
   repeat (first|refine i_s rfl ?_|refine sw ?_|refine jd rfl rfl ?_)
   refine i_f rfl (congrArg (zk c :: ·) (he _ 5)) (hp c (zm hget)) rfl ?_
   repeat' (first|refine i_s rfl ?_|refine sw ?_|refine ja rfl rfl ?_|refine zd rfl (fun h=>?_) (fun h=>?_))
   · refine zb ⟨rfl,_,rfl,congrArg (V.int .i64) (vH hi hget h)⟩
   · refine zK hlt (yN hi fun c' hc'=>?_) ⟨⟨rfl,rfl,rfl,rfl,trivial⟩,trivial,by simp [wY,zX,zt,hc,zF,yT]⟩
     rw [hget] at hc';cases hc';exact h
 · have hge:¬ k < l.length:=by simpa using h
   repeat' (first|refine i_s rfl ?_|refine sw ?_|fail)
   refine zb ⟨rfl,_,rfl,congrArg (V.int .i64) (wR fun j hj=>hi j (by omega))⟩
def zby:Cmd :=
 (qS [qb 4 false]
 (.seq (.ops [qm 5 0,qm 6 1,qk 7 51 [5,6],qv 8 .geq [] 7 0,qm 4 8]) .ret))
def zbz:List RVar:=[.tmp 4]
def zbA:Nat:=9
theorem zbB:zj PG 17 zbA zbz zby=true:=by kernel_rfl
theorem vW (l:List (Int))(p:Int→Bool)(fid:Nat)(caps:List V)(hl:l.length≤140737488355328)(he:∀ σ n,caps.map (er σ (n + 1))=caps)(hc:zW [] caps=true)(hp:∀ t∈l,Fc PG fid (zk t :: caps) (.bool (p t))) :
  Fc PG 17 [.sl .p (l.map zk),.fn fid caps] (.bool (l.any p)):=by
 refine Fn.step zf zbB ?_
 repeat (first|refine i_s rfl ?_|refine sw ?_)
 refine i_f rfl (congrArg (fun x=>[V.sl .p (l.map zk),.fn fid x]) (he _ 4)) (zk1 l p fid caps hl he hc hp) rfl ?_
 repeat' (first|refine i_s rfl ?_|refine sw ?_|fail)
 refine zb ⟨rfl,_,rfl,congrArg V.bool (vI p l).symm⟩
def qF:Cmd :=
 (qS [qc 4 0]
 (qT (qS [qm 6 0,qn 7 6,qc 8 0]
 (.block 0 (.loop (qS [qu 9 .lss [] 8 7]
 (qT (.cond (.t 9) .skip (.exit 0))
 (qT (.block 1 (qS [qm 10 8,qm 5 10]
 (qS [qm 11 1,qm 12 0,qm 13 5,qi 14 2 12 13,qL 15 2 14,qq 16 (.call .f (.t 11) [.t 15])]
 (.cond (.t 16) (.seq (.ops [qm 17 5,qm 4 17]) .ret) .skip))))
 (.ops [qv 18 .add [] 8 1,qm 8 18])))))))
 (.seq (.ops [qc 4 (-1)]) .ret)))
def qG:List RVar:=[.tmp 4]
def qH:Nat:=19
theorem qI:zj PG 190 qH qG qF=true:=by kernel_rfl
theorem zdJ (l:List (Prd))(p:Prd→Bool)(fid:Nat)(caps:List V)(hl:l.length≤140737488355328)(he:∀ σ n,caps.map (er σ (n + 1))=caps)(hc:zW [] caps=true)(hp:∀ t∈l,Fc PG fid (wy t :: caps) (.bool (p t))) :
  Fc PG 190 [.sl .p (l.map wy),.fn fid caps] (.int .i64 (kp p l)):=by
 refine Fn.step zf qI ?_
 repeat (first|refine zo rfl ?_|refine i_s rfl ?_|refine sw ?_)
 refine ye l.length (fun k=>[(0,.sl .p (l.map wy)),(1,.fn fid caps),(7,.int .i64 l.length),(8,.int .i64 k)]) (fun _=>[]) (fun k=>∀ j,j < k→∀ c,l[j]? = some c→p c=false) yO ?_ fun k hk hi=>?_
 · exact ⟨⟨rfl,rfl,rfl,rfl,trivial⟩,trivial,by simp [wY,zX,zt,hc,zF,yT]⟩
 repeat (first|refine i_s rfl ?_|refine sw ?_)
 refine zd rfl (fun h=>?_) (fun h=>?_)
 · have hlt:k < l.length:=by simpa using h
   obtain ⟨c,hget⟩:=zh hlt
   repeat (first|refine i_s rfl ?_|refine sw ?_|refine jd rfl rfl ?_)
   refine i_f rfl (congrArg (wy c :: ·) (he _ 5)) (hp c (zm hget)) rfl ?_
   repeat' (first|refine i_s rfl ?_|refine sw ?_|refine ja rfl rfl ?_|refine zd rfl (fun h=>?_) (fun h=>?_))
   · refine zb ⟨rfl,_,rfl,congrArg (V.int .i64) (vH hi hget h)⟩
   · refine zK hlt (yN hi fun c' hc'=>?_) ⟨⟨rfl,rfl,rfl,rfl,trivial⟩,trivial,by simp [wY,zX,zt,hc,zF,yT]⟩
     rw [hget] at hc';cases hc';exact h
 · have hge:¬ k < l.length:=by simpa using h
   repeat' (first|refine i_s rfl ?_|refine sw ?_|fail)
   refine zb ⟨rfl,_,rfl,congrArg (V.int .i64) (wR fun j hj=>hi j (by omega))⟩
def u7:Cmd :=
 (qS [qb 4 false]
 (.seq (.ops [qm 5 0,qm 6 1,qk 7 190 [5,6],qv 8 .geq [] 7 0,qm 4 8]) .ret))
def u9:List RVar:=[.tmp 4]
def ka:Nat:=9
theorem kb:zj PG 176 ka u9 u7=true:=by kernel_rfl
theorem zci (l:List (Prd))(p:Prd→Bool)(fid:Nat)(caps:List V)(hl:l.length≤140737488355328)(he:∀ σ n,caps.map (er σ (n + 1))=caps)(hc:zW [] caps=true)(hp:∀ t∈l,Fc PG fid (wy t :: caps) (.bool (p t))) :
  Fc PG 176 [.sl .p (l.map wy),.fn fid caps] (.bool (l.any p)):=by
 refine Fn.step zf kb ?_
 repeat (first|refine i_s rfl ?_|refine sw ?_)
 refine i_f rfl (congrArg (fun x=>[V.sl .p (l.map wy),.fn fid x]) (he _ 4)) (zdJ l p fid caps hl he hc hp) rfl ?_
 repeat' (first|refine i_s rfl ?_|refine sw ?_|fail)
 refine zb ⟨rfl,_,rfl,congrArg V.bool (vI p l).symm⟩
def zbC:Cmd :=
 (qS [qc 4 0]
 (qT (qS [qm 6 0,qn 7 6,qc 8 0]
 (.block 0 (.loop (qS [qu 9 .lss [] 8 7]
 (qT (.cond (.t 9) .skip (.exit 0))
 (qT (.block 1 (qS [qm 10 8,qm 5 10]
 (qS [qm 11 1,qm 12 0,qm 13 5,qi 14 7 12 13,qL 15 7 14,qq 16 (.call .f (.t 11) [.t 15])]
 (.cond (.t 16) (.seq (.ops [qm 17 5,qm 4 17]) .ret) .skip))))
 (.ops [qv 18 .add [] 8 1,qm 8 18])))))))
 (.seq (.ops [qc 4 (-1)]) .ret)))
def zbD:List RVar:=[.tmp 4]
def zbE:Nat:=19
theorem zbF:zj PG 192 zbE zbD zbC=true:=by kernel_rfl
theorem zf7 (l:List (Sch))(p:Sch→Bool)(fid:Nat)(caps:List V)(hl:l.length≤140737488355328)(he:∀ σ n,caps.map (er σ (n + 1))=caps)(hc:zW [] caps=true)(hp:∀ t∈l,Fc PG fid (xF t :: caps) (.bool (p t))) :
  Fc PG 192 [.sl .p (l.map xF),.fn fid caps] (.int .i64 (kp p l)):=by
 refine Fn.step zf zbF ?_
 repeat (first|refine zo rfl ?_|refine i_s rfl ?_|refine sw ?_)
 refine ye l.length (fun k=>[(0,.sl .p (l.map xF)),(1,.fn fid caps),(7,.int .i64 l.length),(8,.int .i64 k)]) (fun _=>[]) (fun k=>∀ j,j < k→∀ c,l[j]? = some c→p c=false) yO ?_ fun k hk hi=>?_
 · exact ⟨⟨rfl,rfl,rfl,rfl,trivial⟩,trivial,by simp [wY,zX,zt,hc,zF,yT]⟩
 repeat (first|refine i_s rfl ?_|refine sw ?_)
 refine zd rfl (fun h=>?_) (fun h=>?_)
 · have hlt:k < l.length:=by simpa using h
   obtain ⟨c,hget⟩:=zh hlt
   repeat (first|refine i_s rfl ?_|refine sw ?_|refine jd rfl rfl ?_)
   refine i_f rfl (congrArg (xF c :: ·) (he _ 5)) (hp c (zm hget)) rfl ?_
   repeat' (first|refine i_s rfl ?_|refine sw ?_|refine ja rfl rfl ?_|refine zd rfl (fun h=>?_) (fun h=>?_))
   · refine zb ⟨rfl,_,rfl,congrArg (V.int .i64) (vH hi hget h)⟩
   · refine zK hlt (yN hi fun c' hc'=>?_) ⟨⟨rfl,rfl,rfl,rfl,trivial⟩,trivial,by simp [wY,zX,zt,hc,zF,yT]⟩
     rw [hget] at hc';cases hc';exact h
 · have hge:¬ k < l.length:=by simpa using h
   repeat' (first|refine i_s rfl ?_|refine sw ?_|fail)
   refine zb ⟨rfl,_,rfl,congrArg (V.int .i64) (wR fun j hj=>hi j (by omega))⟩
def qJ:Cmd :=
 (qS [qb 4 false]
 (.seq (.ops [qm 5 0,qm 6 1,qk 7 192 [5,6],qv 8 .geq [] 7 0,qm 4 8]) .ret))
def qK:List RVar:=[.tmp 4]
def qM:Nat:=9
theorem qN:zj PG 179 qM qK qJ=true:=by kernel_rfl
theorem zdK (l:List (Sch))(p:Sch→Bool)(fid:Nat)(caps:List V)(hl:l.length≤140737488355328)(he:∀ σ n,caps.map (er σ (n + 1))=caps)(hc:zW [] caps=true)(hp:∀ t∈l,Fc PG fid (xF t :: caps) (.bool (p t))) :
  Fc PG 179 [.sl .p (l.map xF),.fn fid caps] (.bool (l.any p)):=by
 refine Fn.step zf qN ?_
 repeat (first|refine i_s rfl ?_|refine sw ?_)
 refine i_f rfl (congrArg (fun x=>[V.sl .p (l.map xF),.fn fid x]) (he _ 4)) (zf7 l p fid caps hl he hc hp) rfl ?_
 repeat' (first|refine i_s rfl ?_|refine sw ?_|fail)
 refine zb ⟨rfl,_,rfl,congrArg V.bool (vI p l).symm⟩
def zcj:Cmd :=
 (qS [qc 4 0]
 (qT (qS [qm 6 0,qn 7 6,qc 8 0]
 (.block 0 (.loop (qS [qu 9 .lss [] 8 7]
 (qT (.cond (.t 9) .skip (.exit 0))
 (qT (.block 1 (qS [qm 10 8,qm 5 10]
 (qS [qm 11 1,qm 12 0,qm 13 5,qi 14 2 12 13,qL 15 2 14,qq 16 (.call .f (.t 11) [.t 15])]
 (.cond (.t 16) (.seq (.ops [qm 17 5,qm 4 17]) .ret) .skip))))
 (.ops [qv 18 .add [] 8 1,qm 8 18])))))))
 (.seq (.ops [qc 4 (-1)]) .ret)))
def zck:List RVar:=[.tmp 4]
def zcl:Nat:=19
theorem zcm:zj PG 123 zcl zck zcj=true:=by kernel_rfl
theorem zhK (l:List (Int × Int))(p:(Int × Int)→Bool)(fid:Nat)(caps:List V)(hl:l.length≤140737488355328)(he:∀ σ n,caps.map (er σ (n + 1))=caps)(hc:zW [] caps=true)(hp:∀ t∈l,Fc PG fid (uM t :: caps) (.bool (p t))) :
  Fc PG 123 [.sl .p (l.map uM),.fn fid caps] (.int .i64 (kp p l)):=by
 refine Fn.step zf zcm ?_
 repeat (first|refine zo rfl ?_|refine i_s rfl ?_|refine sw ?_)
 refine ye l.length (fun k=>[(0,.sl .p (l.map uM)),(1,.fn fid caps),(7,.int .i64 l.length),(8,.int .i64 k)]) (fun _=>[]) (fun k=>∀ j,j < k→∀ c,l[j]? = some c→p c=false) yO ?_ fun k hk hi=>?_
 · exact ⟨⟨rfl,rfl,rfl,rfl,trivial⟩,trivial,by simp [wY,zX,zt,hc,zF,yT]⟩
 repeat (first|refine i_s rfl ?_|refine sw ?_)
 refine zd rfl (fun h=>?_) (fun h=>?_)
 · have hlt:k < l.length:=by simpa using h
   obtain ⟨c,hget⟩:=zh hlt
   repeat (first|refine i_s rfl ?_|refine sw ?_|refine jd rfl rfl ?_)
   refine i_f rfl (congrArg (uM c :: ·) (he _ 5)) (hp c (zm hget)) rfl ?_
   repeat' (first|refine i_s rfl ?_|refine sw ?_|refine ja rfl rfl ?_|refine zd rfl (fun h=>?_) (fun h=>?_))
   · refine zb ⟨rfl,_,rfl,congrArg (V.int .i64) (vH hi hget h)⟩
   · refine zK hlt (yN hi fun c' hc'=>?_) ⟨⟨rfl,rfl,rfl,rfl,trivial⟩,trivial,by simp [wY,zX,zt,hc,zF,yT]⟩
     rw [hget] at hc';cases hc';exact h
 · have hge:¬ k < l.length:=by simpa using h
   repeat' (first|refine i_s rfl ?_|refine sw ?_|fail)
   refine zb ⟨rfl,_,rfl,congrArg (V.int .i64) (wR fun j hj=>hi j (by omega))⟩
def j7:Cmd :=
 (qS [qb 4 false]
 (.seq (.ops [qm 5 0,qm 6 1,qk 7 123 [5,6],qv 8 .geq [] 7 0,qm 4 8]) .ret))
def j8:List RVar:=[.tmp 4]
def j9:Nat:=9
theorem zaa:zj PG 83 j9 j8 j7=true:=by kernel_rfl
theorem kA (l:List (Int × Int))(p:(Int × Int)→Bool)(fid:Nat)(caps:List V)(hl:l.length≤140737488355328)(he:∀ σ n,caps.map (er σ (n + 1))=caps)(hc:zW [] caps=true)(hp:∀ t∈l,Fc PG fid (uM t :: caps) (.bool (p t))) :
  Fc PG 83 [.sl .p (l.map uM),.fn fid caps] (.bool (l.any p)):=by
 refine Fn.step zf zaa ?_
 repeat (first|refine i_s rfl ?_|refine sw ?_)
 refine i_f rfl (congrArg (fun x=>[V.sl .p (l.map uM),.fn fid x]) (he _ 4)) (zhK l p fid caps hl he hc hp) rfl ?_
 repeat' (first|refine i_s rfl ?_|refine sw ?_|fail)
 refine zb ⟨rfl,_,rfl,congrArg V.bool (vI p l).symm⟩
def zcI:Cmd :=
 (qS [qc 4 0]
 (qT (qS [qm 6 0,qn 7 6,qc 8 0]
 (.block 0 (.loop (qS [qu 9 .lss [] 8 7]
 (qT (.cond (.t 9) .skip (.exit 0))
 (qT (.block 1 (qS [qm 10 8,qm 5 10]
 (qS [qm 11 1,qm 12 0,qm 13 5,qi 14 2 12 13,qL 15 2 14,qq 16 (.call .f (.t 11) [.t 15])]
 (.cond (.t 16) (.seq (.ops [qm 17 5,qm 4 17]) .ret) .skip))))
 (.ops [qv 18 .add [] 8 1,qm 8 18])))))))
 (.seq (.ops [qc 4 (-1)]) .ret)))
def zcJ:List RVar:=[.tmp 4]
def zcK:Nat:=19
theorem zcL:zj PG 164 zcK zcJ zcI=true:=by kernel_rfl
theorem zjm (l:List (At))(p:At→Bool)(fid:Nat)(caps:List V)(hl:l.length≤140737488355328)(he:∀ σ n,caps.map (er σ (n + 1))=caps)(hc:zW [] caps=true)(hp:∀ t∈l,Fc PG fid (atV t :: caps) (.bool (p t))) :
  Fc PG 164 [.sl .p (l.map atV),.fn fid caps] (.int .i64 (kp p l)):=by
 refine Fn.step zf zcL ?_
 repeat (first|refine zo rfl ?_|refine i_s rfl ?_|refine sw ?_)
 refine ye l.length (fun k=>[(0,.sl .p (l.map atV)),(1,.fn fid caps),(7,.int .i64 l.length),(8,.int .i64 k)]) (fun _=>[]) (fun k=>∀ j,j < k→∀ c,l[j]? = some c→p c=false) yO ?_ fun k hk hi=>?_
 · exact ⟨⟨rfl,rfl,rfl,rfl,trivial⟩,trivial,by simp [wY,zX,zt,hc,zF,yT]⟩
 repeat (first|refine i_s rfl ?_|refine sw ?_)
 refine zd rfl (fun h=>?_) (fun h=>?_)
 · have hlt:k < l.length:=by simpa using h
   obtain ⟨c,hget⟩:=zh hlt
   repeat (first|refine i_s rfl ?_|refine sw ?_|refine jd rfl rfl ?_)
   refine i_f rfl (congrArg (atV c :: ·) (he _ 5)) (hp c (zm hget)) rfl ?_
   repeat' (first|refine i_s rfl ?_|refine sw ?_|refine ja rfl rfl ?_|refine zd rfl (fun h=>?_) (fun h=>?_))
   · refine zb ⟨rfl,_,rfl,congrArg (V.int .i64) (vH hi hget h)⟩
   · refine zK hlt (yN hi fun c' hc'=>?_) ⟨⟨rfl,rfl,rfl,rfl,trivial⟩,trivial,by simp [wY,zX,zt,hc,zF,yT]⟩
     rw [hget] at hc';cases hc';exact h
 · have hge:¬ k < l.length:=by simpa using h
   repeat' (first|refine i_s rfl ?_|refine sw ?_|fail)
   refine zb ⟨rfl,_,rfl,congrArg (V.int .i64) (wR fun j hj=>hi j (by omega))⟩
def zaO:Cmd :=
 (qS [qb 4 false]
 (.seq (.ops [qm 5 0,qm 6 1,qk 7 164 [5,6],qv 8 .geq [] 7 0,qm 4 8]) .ret))
def zaP:List RVar:=[.tmp 4]
def zaQ:Nat:=9
theorem zaR:zj PG 127 zaQ zaP zaO=true:=by kernel_rfl
theorem k9 (l:List (At))(p:At→Bool)(fid:Nat)(caps:List V)(hl:l.length≤140737488355328)(he:∀ σ n,caps.map (er σ (n + 1))=caps)(hc:zW [] caps=true)(hp:∀ t∈l,Fc PG fid (atV t :: caps) (.bool (p t))) :
  Fc PG 127 [.sl .p (l.map atV),.fn fid caps] (.bool (l.any p)):=by
 refine Fn.step zf zaR ?_
 repeat (first|refine i_s rfl ?_|refine sw ?_)
 refine i_f rfl (congrArg (fun x=>[V.sl .p (l.map atV),.fn fid x]) (he _ 4)) (zjm l p fid caps hl he hc hp) rfl ?_
 repeat' (first|refine i_s rfl ?_|refine sw ?_|fail)
 refine zb ⟨rfl,_,rfl,congrArg V.bool (vI p l).symm⟩
theorem zvU {l:List Int}{n:Nat} (h:l.length=n):V.sl .p (((l.map zk).drop 0).take n)=V.sl .p (l.map zk):=by
 rw [List.drop_zero,List.take_of_length_le (by simp;omega)]
theorem zf8 {σ:za}{nm gen i len n:Nat}{rows:List V} (hs:σ nm=.arr gen rows):er σ (n + 1) (.msl nm gen i len)=.sl .p ((rows.drop i).take len):=by
 simp [er,hs]
def zf9:Cmd :=
 (qS [qq 2 (.mov (.c (.sl .nil [])))]
 (qT (qS [qm 3 0,qq 4 (.isnil false (.t 3))]
 (.cond (.t 4) (.seq (.ops [qq 2 (.newArr 7616321)]) .ret) .skip))
 (.seq (.ops [qq 5 (.bslA 7616321 1 []),qm 6 0,qq 7 (.append 1 8 3 (.t 5) (.t 6)),qm 2 7]) .ret)))
def zga:List RVar:=[.tmp 2]
def zgb:Nat:=8
theorem vX:zj PG 119 zgb zga zf9=true:=by kernel_rfl
theorem xG (s:List Int)(hl:s.length≤17592186044416):Fc PG 119 [.sl .p (s.map zk)] (.sl .p (s.map zk)):=by
 refine Fn.step zf vX ?_
 repeat (first|refine i_s rfl ?_|refine sw ?_)
 refine zhi rfl fun b hb=>?_
 repeat refine sw ?_
 refine zd rfl (fun h=>?_) (fun h=>?_)
 · have e:s=[]:=by simpa using hb (by simpa using h)
   subst e
   repeat refine sw ?_
   refine zi1 rfl ?_
   repeat refine sw ?_
   exact zb ⟨rfl,_,rfl,rfl⟩
 · repeat refine sw ?_
   refine zfT rfl rfl rfl rfl ?_
   repeat refine i_s rfl ?_
   refine wJ (l:=[]) (f:=zk) s rfl rfl rfl rfl rfl (fun c hc=>⟨rfl,rfl⟩) (by simp;omega) (by simp;omega) ?_
   repeat (first|refine i_s rfl ?_|refine sw ?_)
   exact zb ⟨rfl,_,rfl,((zf8 (i:=0) (len:=([] ++ s).length) (n:=5) rfl).trans (zvU rfl)).symm⟩
theorem ztv {G:Type}{H:HT G} (s:List Int)(hl:s.length≤17592186044416)(σ:za)(g:G)(h1:σ 7616321=.zc)(hp:∀ nm,σ nm≠.zc→nm∈[7616321]) :
  Cc PG H 119 [.sl .p (s.map zk)] [7616321] σ g fun r σ' g'=>(∃ gen,r=.msl 7616321 gen 0 s.length∧σ' = zy [(7616321,.arr gen (s.map zk))])∧g' = g:=by
 refine CT.step _ zf vX hp fun hM=>?_
 repeat (first|refine i_s rfl ?_|refine sw ?_)
 refine zhi rfl fun b hb=>?_
 repeat refine sw ?_
 refine zd rfl (fun h=>?_) (fun h=>?_)
 · have e:s=[]:=by simpa using hb (by simpa using h)
   subst e
   repeat refine sw ?_
   refine zi1 h1 ?_
   repeat refine sw ?_
   exact zb ⟨rfl,_,rfl,rfl,rfl,⟨0,rfl,zu _ _⟩,rfl⟩
 · repeat refine sw ?_
   refine zfT h1 rfl rfl rfl ?_
   repeat refine i_s rfl ?_
   refine wJ (l:=[]) (f:=zk) s rfl rfl rfl rfl rfl (fun c hc=>⟨rfl,rfl⟩) (by simp;omega) (by simp;omega) ?_
   repeat (first|refine i_s rfl ?_|refine sw ?_)
   refine zb ⟨rfl,_,rfl,rfl,rfl,⟨1,rfl,?_⟩,rfl⟩
   rw [zu];rfl
theorem zsb {G:Type}{H:HT G} (σ:za)(g:G)(h1:σ 7616321=.zc)(hp:∀ nm,σ nm≠.zc→nm∈[7616321]) :
  Cc PG H 119 [.sl .nil []] [7616321] σ g fun r σ' g'=>(∃ gen,r=.msl 7616321 gen 0 0∧σ' = zy [(7616321,.arr gen (([]:List Int).map zk))])∧g' = g:=by
 refine CT.step _ zf vX hp fun hM=>?_
 repeat (first|refine i_s rfl ?_|refine sw ?_)
 refine zhi rfl fun b hb=>?_
 repeat refine sw ?_
 refine zd rfl (fun h=>?_) (fun h=>?_)
 · repeat refine sw ?_
   refine zi1 h1 ?_
   repeat refine sw ?_
   exact zb ⟨rfl,_,rfl,rfl,rfl,⟨0,rfl,zu _ _⟩,rfl⟩
 · repeat refine sw ?_
   refine zfT h1 rfl rfl rfl ?_
   repeat refine i_s rfl ?_
   refine wJ (l:=[]) (f:=zk) [] rfl rfl rfl rfl rfl (fun c hc=>⟨rfl,rfl⟩) (by simp) (by simp) ?_
   repeat (first|refine i_s rfl ?_|refine sw ?_)
   refine zb ⟨rfl,_,rfl,rfl,rfl,⟨1,rfl,?_⟩,rfl⟩
   rw [zu];rfl
def zuH:Cmd :=
 (qS [qq 2 (.mov (.c (.sl .nil [])))]
 (qT (qS [qm 3 0,qq 4 (.isnil false (.t 3))]
 (.cond (.t 4) (.seq (.ops [qq 2 (.newArr 7616449)]) .ret) .skip))
 (.seq (.ops [qq 5 (.bslA 7616449 1 []),qm 6 0,qq 7 (.append 1 8 3 (.t 5) (.t 6)),qm 2 7]) .ret)))
def zuI:List RVar:=[.tmp 2]
def zuJ:Nat:=8
theorem zuK:zj PG 119 zuJ zuI zuH=true:=by kernel_rfl
theorem ztw {G:Type}{H:HT G} (s:List Int)(hl:s.length≤17592186044416)(σ:za)(g:G)(h1:σ 7616449=.zc)(hp:∀ nm,σ nm≠.zc→nm∈[7616449]) :
  Cc PG H 119 [.sl .p (s.map zk)] [7616449] σ g fun r σ' g'=>(∃ gen,r=.msl 7616449 gen 0 s.length∧σ' = zy [(7616449,.arr gen (s.map zk))])∧g' = g:=by
 refine CT.step _ zf zuK hp fun hM=>?_
 repeat (first|refine i_s rfl ?_|refine sw ?_)
 refine zhi rfl fun b hb=>?_
 repeat refine sw ?_
 refine zd rfl (fun h=>?_) (fun h=>?_)
 · have e:s=[]:=by simpa using hb (by simpa using h)
   subst e
   repeat refine sw ?_
   refine zi1 h1 ?_
   repeat refine sw ?_
   exact zb ⟨rfl,_,rfl,rfl,rfl,⟨0,rfl,zu _ _⟩,rfl⟩
 · repeat refine sw ?_
   refine zfT h1 rfl rfl rfl ?_
   repeat refine i_s rfl ?_
   refine wJ (l:=[]) (f:=zk) s rfl rfl rfl rfl rfl (fun c hc=>⟨rfl,rfl⟩) (by simp;omega) (by simp;omega) ?_
   repeat (first|refine i_s rfl ?_|refine sw ?_)
   refine zb ⟨rfl,_,rfl,rfl,rfl,⟨1,rfl,?_⟩,rfl⟩
   rw [zu];rfl
theorem zeH {G:Type}{P:Program}{H:HT G}{pn:List Nat}{Q:Exit→Env→za→G→Prop}{fs:List (Frm G)}{ρ:Env}{σ:za}{g:G}{t nm gen gen' len:Nat}{rows:List V} (ht:ρ t=.msl nm gen 0 len)(hs:σ nm=.arr gen' rows)(hg:gen=gen')(hl:rows.length=len)
  (h:WE P H pn Q fs .normal (upd ρ t (.sl .p rows)) (ups σ nm .dead) g):WC P H pn Q fs (.frz t) ρ σ g :=
 zte ht hs hg (by rw [List.drop_zero,List.take_of_length_le (by omega)];exact h)
theorem zuL {args:List Int}{x o:Int} (h:x < 0)(ho:args[(-1 - x).toNat]? = some o):uq args x=o:=by unfold uq;rw [if_pos h,ho];rfl
theorem zuM {args:List Int}{x:Int} (h:¬ x < 0):uq args x=x:=by unfold uq;rw [if_neg h]
def zhL:Cmd :=
 (qS [qc 4 0]
 (qT (qS [qm 5 0,qv 6 .lss [] 5 0]
 (.cond (.t 6) (.seq (.ops [qm 7 1,qm 8 0,qq 9 (.bin .sub false [] (.c (.int .i64 (-1))) (.t 8)),qi 10 1 7 9,ql 11 1 10,qm 4 11]) .ret) .skip))
 (.seq (.ops [qm 12 0,qm 4 12]) .ret)))
def zhM:List RVar:=[.tmp 4]
def zhN:Nat:=13
theorem za6:zj PG 160 zhN zhM zhL=true:=by kernel_rfl
theorem zhO (args:List Int)(hl:args.length≤140737488355328)(x:Int)(hx:-(args.length:Int)≤x):Fc PG 160 [.int .i64 x,.sl .p (args.map zk)] (.int .i64 (uq args x)):=by
 by_cases h:x < 0
 · obtain ⟨o,ho⟩:=zh (l:=args) (k:=(-1 - x).toNat) (by omega)
   rw [zuL h ho]
   have h0:0≤-1 - x:=by omega
   refine Fn.step zf za6 ?_
   repeat' (first|refine i_s rfl ?_|refine sw ?_|refine jb rfl rfl ?_|refine jd rfl rfl ?_|refine zd rfl (fun h=>?_) (fun h=>?_))
   all_goals first
    | exact zb ⟨rfl,_,rfl,rfl⟩
    | (exfalso;simp at *;omega)
 · rw [zuM h]
   refine Fn.step zf za6 ?_
   repeat' (first|refine i_s rfl ?_|refine sw ?_|refine zd rfl (fun h=>?_) (fun h=>?_))
   all_goals first
    | exact zb ⟨rfl,_,rfl,rfl⟩
    | (exfalso;simp at *;omega)
def zjn:Cmd :=
 (qS [qx 2 7936130 2 0,qq 4 (.alloc 7936258 (.agg [.int .i64 0,.sl .nil []]))]
 (qS [qf 8 0 2,ql 9 1 8,qq 10 (.build [.int .i64 0,.sl .nil []] [(0 ,1 ,.t 9)]),qq 5 (.alloc 7936322 (.agg [.int .i64 0,.sl .nil []])),qs 2 5 10]
 (qT (.seq (.ops [qf 11 1 2,ql 12 1 11,qn 13 12,qc 14 0]) (.nvb 5 1 7939265 (.cut (.block 0 (.loop (qS [qu 15 .lss [] 14 13]
 (qT (.cond (.t 15) .skip (.exit 0))
 (qT (.block 1 (qS [qi 16 1 12 14,ql 17 1 16,qm 7 17]
 (.ops [qf 18 1 5,ql 19 1 18,qm 20 7,qm 21 1,qk 22 160 [20,21],qq 23 (.bsl 1 [.t 22]),qq 24 (.append 1 8 3 (.t 19) (.t 23)),qf 25 1 5,qs 1 25 24])))
 (.ops [qv 26 .add [] 14 1,qm 14 26])))))))))
 (.seq (.ops [qL 27 2 5,qs 2 4 27]) .ret))))
def zjo:List RVar:=[.cell true 2 4]
def zjp:Nat:=28
theorem zjq:zj PG 124 zjp zjo zjn=true:=by kernel_rfl
theorem zcn (args : List Int) (hl : args.length≤140737488355328)(a:At)(ha:a.args.length≤17592186044416)(hx:∀ x∈a.args,-(args.length:Int)≤x):Fc PG 124 [atV a,.sl .p (args.map zk)] (atV (zL args a)):=by
 refine Fn.step zf zjq ?_
 repeat (first|refine zo rfl ?_|refine i_s rfl ?_|refine sw ?_|refine zl rfl ?_|refine zi rfl ?_|refine zr rfl rfl ?_)
 refine zkq rfl rfl rfl rfl ?_
 repeat refine sw ?_
 refine ye a.args.length (fun k=>[(1,.sl .p (args.map zk)),(4,.bptr 7936258 0),(5,.bptr 7936322 0),(12,.sl .p (a.args.map zk)),(13,.int .i64 a.args.length),(14,.int .i64 k)])
  (fun k=>[(7936258,.box (.agg [.int .i64 0,.sl .nil []])),(7936322,.box (.agg [.int .i64 a.pred,.sl (.own 7939265) (((a.args.take k).map (uq args)).map zk)])),(7939265,.vec ((a.args.take k).map (uq args)).length)]) (fun _=>True) trivial ft fun k hk _=>?_
 repeat (first|refine i_s rfl ?_|refine sw ?_)
 refine zd rfl (fun h=>?_) (fun h=>?_)
 · have hlt:k < a.args.length:=by simpa using h
   obtain ⟨x,hget⟩:=zh hlt
   have hV:=zhO args hl x (hx x (zm hget))
   have htl:((a.args.take k).map (uq args)).length=k:=by simp;omega
   have e:(a.args.take (k + 1)).map (uq args)=(a.args.take k).map (uq args) ++ [uq args x]:=by rw [zz hget,List.map_append];rfl
   clear h hx
   repeat (first|refine i_s rfl ?_|refine sw ?_|refine jd rfl rfl ?_|refine sf rfl rfl hV ?_)
   refine yU rfl rfl rfl rfl rfl (by omega) (by omega) ?_
   repeat (first|refine i_s rfl ?_|refine sw ?_|refine ja rfl rfl ?_|refine zl rfl ?_)
   refine zK hlt trivial ⟨⟨rfl,rfl,rfl,rfl,rfl,rfl,trivial⟩,⟨rfl,?_,?_,trivial⟩,rfl⟩
   · rw [e];rfl
   · rw [e];simp;rfl
 · have hge : k = a.args.length := by have:¬ k < a.args.length:=by simpa using h
                                      omega
   subst hge
   clear h
   rw [List.take_length]
   repeat (first|refine i_s rfl ?_|refine sw ?_|refine zl rfl ?_)
   exact zb ⟨rfl,_,rfl,rfl⟩
def zbG (x:Lit):Int:=if x.neg=true then 1 else 0
def kR:Cmd :=
 (qS [qx 1 8384067 3 0,qc 2 0]
 (qT (qS [qf 3 0 1,ql 4 1 3]
 (.cond (.t 4) (.seq (.ops [qc 2 1]) .ret) .skip))
 (.seq (.ops [qc 2 0]) .ret)))
def kS:List RVar:=[.tmp 2]
def kT:Nat:=5
theorem kU:zj PG 131 kT kS kR=true:=by kernel_rfl
theorem qa (x:Lit):Fc PG 131 [zY x] (.int .i64 (zbG x)):=by
 refine Fn.step zf kU ?_
 repeat' (first|refine i_s rfl ?_|refine sw ?_|refine zr rfl rfl ?_|refine zd rfl (fun h=>?_) (fun h=>?_))
 all_goals (refine zb ⟨rfl,_,rfl,congrArg (V.int .i64) ?_⟩;unfold zbG;simp [h])
def zab:Cmd :=
 (qS [qx 2 5696131 3 0,qx 3 5696195 3 1,qc 4 0]
 (qS [qq 5 (.mov (.c (.fn 131 [])))]
 (.seq (.ops [qf 6 1 2,qL 7 2 6,qf 8 1 3,qL 9 2 8,qk 10 129 [7,9],qm 11 5,qL 12 3 2,qq 13 (.call .f (.t 11) [.t 12]),qm 14 5,qL 15 3 3,qq 16 (.call .f (.t 14) [.t 15]),qk 17 54 [13,16],qq 18 (.bsl 1 [.t 10,.t 17]),qk 19 132 [18],qm 4 19]) .ret)))
def zac:List RVar:=[.tmp 4]
def zad:Nat:=20
theorem zae:zj PG 89 zad zac zab=true:=by kernel_rfl
theorem zhP (x y:Lit)(hx:AtOk x.at_)(hy:AtOk y.at_):Fc PG 89 [zY x,zY y] (.int .i64 (z7 x y)):=by
 have hD:=x8 x.at_ y.at_ hx hy
 have hX:=qa x
 have hY:=qa y
 have hC:=uN (zbG x) (zbG y)
 have hO:=zvf (yb x.at_ y.at_) (y6 (zbG x) (zbG y))
 have e:z7 x y=if yb x.at_ y.at_≠0 then yb x.at_ y.at_ else y6 (zbG x) (zbG y):=by
  unfold z7 zbG y6
  cases x.neg<;>cases y.neg<;>simp
 rw [e]
 refine Fn.step zf zae ?_
 repeat' (first|refine i_s rfl ?_|refine sw ?_|refine zr rfl rfl ?_|refine sf rfl rfl hD ?_|refine sf rfl rfl hX ?_|refine sf rfl rfl hY ?_|refine sf rfl rfl hC ?_|refine sf rfl rfl hO ?_|fail)
 all_goals exact zb ⟨rfl,_,rfl,rfl⟩
def zaS:Cmd :=
 (qS [qc 4 0]
 (qT (qS [qm 6 0,qn 7 6,qc 8 0]
 (.block 0 (.loop (qS [qu 9 .lss [] 8 7]
 (qT (.cond (.t 9) .skip (.exit 0))
 (qT (.block 1 (qS [qm 10 8,qm 5 10]
 (qS [qm 11 1,qm 12 0,qm 13 5,qi 14 3 12 13,qL 15 3 14,qq 16 (.call .f (.t 11) [.t 15])]
 (.cond (.t 16) (.seq (.ops [qm 17 5,qm 4 17]) .ret) .skip))))
 (.ops [qv 18 .add [] 8 1,qm 8 18])))))))
 (.seq (.ops [qc 4 (-1)]) .ret)))
def zaT:List RVar:=[.tmp 4]
def zaU:Nat:=19
theorem zaV:zj PG 130 zaU zaT zaS=true:=by kernel_rfl
theorem zfn (l:List (Lit))(p:Lit→Bool)(fid:Nat)(caps:List V)(hl:l.length≤140737488355328)(he:∀ σ n,caps.map (er σ (n + 1))=caps)(hc:zW [] caps=true)(hp:∀ t∈l,Fc PG fid (zY t :: caps) (.bool (p t))) :
  Fc PG 130 [.sl .p (l.map zY),.fn fid caps] (.int .i64 (kp p l)):=by
 refine Fn.step zf zaV ?_
 repeat (first|refine zo rfl ?_|refine i_s rfl ?_|refine sw ?_)
 refine ye l.length (fun k=>[(0,.sl .p (l.map zY)),(1,.fn fid caps),(7,.int .i64 l.length),(8,.int .i64 k)]) (fun _=>[]) (fun k=>∀ j,j < k→∀ c,l[j]? = some c→p c=false) yO ?_ fun k hk hi=>?_
 · exact ⟨⟨rfl,rfl,rfl,rfl,trivial⟩,trivial,by simp [wY,zX,zt,hc,zF,yT]⟩
 repeat (first|refine i_s rfl ?_|refine sw ?_)
 refine zd rfl (fun h=>?_) (fun h=>?_)
 · have hlt:k < l.length:=by simpa using h
   obtain ⟨c,hget⟩:=zh hlt
   repeat (first|refine i_s rfl ?_|refine sw ?_|refine jd rfl rfl ?_)
   refine i_f rfl (congrArg (zY c :: ·) (he _ 5)) (hp c (zm hget)) rfl ?_
   repeat' (first|refine i_s rfl ?_|refine sw ?_|refine ja rfl rfl ?_|refine zd rfl (fun h=>?_) (fun h=>?_))
   · refine zb ⟨rfl,_,rfl,congrArg (V.int .i64) (vH hi hget h)⟩
   · refine zK hlt (yN hi fun c' hc'=>?_) ⟨⟨rfl,rfl,rfl,rfl,trivial⟩,trivial,by simp [wY,zX,zt,hc,zF,yT]⟩
     rw [hget] at hc';cases hc';exact h
 · have hge:¬ k < l.length:=by simpa using h
   repeat' (first|refine i_s rfl ?_|refine sw ?_|fail)
   refine zb ⟨rfl,_,rfl,congrArg (V.int .i64) (wR fun j hj=>hi j (by omega))⟩
def kV:Cmd :=
 (qS [qb 4 false]
 (.seq (.ops [qm 5 0,qm 6 1,qk 7 130 [5,6],qv 8 .geq [] 7 0,qm 4 8]) .ret))
def kW:List RVar:=[.tmp 4]
def kX:Nat:=9
theorem kY:zj PG 87 kX kW kV=true:=by kernel_rfl
theorem zds (l:List (Lit))(p:Lit→Bool)(fid:Nat)(caps:List V)(hl:l.length≤140737488355328)(he:∀ σ n,caps.map (er σ (n + 1))=caps)(hc:zW [] caps=true)(hp:∀ t∈l,Fc PG fid (zY t :: caps) (.bool (p t))) :
  Fc PG 87 [.sl .p (l.map zY),.fn fid caps] (.bool (l.any p)):=by
 refine Fn.step zf kY ?_
 repeat (first|refine i_s rfl ?_|refine sw ?_)
 refine i_f rfl (congrArg (fun x=>[V.sl .p (l.map zY),.fn fid x]) (he _ 4)) (zfn l p fid caps hl he hc hp) rfl ?_
 repeat' (first|refine i_s rfl ?_|refine sw ?_|fail)
 refine zb ⟨rfl,_,rfl,congrArg V.bool (vI p l).symm⟩
end Hm
end
section
namespace Hm
open Go
def zmf (p:Nat→Bool)(n:Nat):Bool:=(List.range n).all p
theorem zpO {p:Nat→Bool}{n k:Nat} (hk:k < n)(h:p k=false):zmf p n=false:=by
 unfold zmf
 rw [List.all_eq_false]
 exact ⟨k,List.mem_range.2 hk,by simp [h]⟩
theorem zrg {p:Nat→Bool}{n:Nat} (h:∀ j,j < n→p j=true):zmf p n=true:=by
 unfold zmf
 rw [List.all_eq_true]
 exact fun j hj=>h j (List.mem_range.1 hj)
theorem zpP {p:Nat→Bool}{n:Nat} (h:zmf p n=true) {j:Nat} (hj:j < n):p j=true:=(List.all_eq_true.1 h) j (List.mem_range.2 hj)
def kB (n:Int)(l:List Int)(i:Nat):Bool:=match l[i]? with
 | some x=>decide (0≤x) && decide (x < n) && (decide (i=0) || (match l[i - 1]? with
   | some y=>decide (y < x)
   | none=>true))
 | none=>false
def yy (n:Int)(l:List Int):Bool:=zmf (kB n l) l.length
def SS (l:List Int):Prop:=l.Pairwise (· < ·)
theorem znC:∀ l:List Int,(∀ i x y,l[i]? = some x→l[i + 1]? = some y→x < y)→SS l
 | [],_=>List.Pairwise.nil
 | [x],_=>List.pairwise_singleton _ _
 | x :: y :: r,h=>by
  have ih:SS (y :: r):=znC (y :: r) fun i a b h1 h2=>h (i + 1) a b h1 h2
  have hxy:x < y:=h 0 x y rfl rfl
  refine List.Pairwise.cons (fun z hz=>?_) ih
  rcases List.mem_cons.1 hz with rfl|hz
  · exact hxy
  · exact Int.lt_trans hxy ((List.pairwise_cons.1 ih).1 z hz)
theorem zdL {l:List Int} (h:SS l) {i j:Nat}{x y:Int} (hi:l[i]? = some x)(hj:l[j]? = some y)(hij:i < j):x < y:=by
 obtain ⟨h1,e1⟩:=List.getElem?_eq_some_iff.1 hi
 obtain ⟨h2,e2⟩:=List.getElem?_eq_some_iff.1 hj
 have:=List.pairwise_iff_getElem.1 h i j h1 h2 hij
 rw [e1,e2] at this
 exact this
structure IsSet (n:Int)(l:List Int):Prop where
 ss:SS l
 rng:∀ x∈l,0≤x∧x < n
theorem qP {n:Int}{l:List Int} (h:yy n l=true):IsSet n l:=by
 refine ⟨znC l fun i x y h1 h2=>?_,fun x hx=>?_⟩
 · have:=zpP h (yn h2)
   unfold kB at this
   rw [h2] at this
   simp only [Nat.add_sub_cancel,h1,Bool.and_eq_true,Bool.or_eq_true,decide_eq_true_eq] at this
   rcases this.2 with e|e
   · omega
   · exact e
 · obtain ⟨i,hi,e⟩:=List.getElem_of_mem hx
   have hg:l[i]? = some x:=by rw [← e];exact List.getElem?_eq_getElem hi
   have:=zpP h hi
   unfold kB at this
   rw [hg] at this
   simp only [Bool.and_eq_true,decide_eq_true_eq] at this
   exact this.1
theorem zco {n:Int}{l:List Int} (h:IsSet n l):yy n l=true:=by
 refine zrg fun i hi=>?_
 obtain ⟨x,hx⟩:=zh hi
 obtain ⟨h0,h1⟩:=h.rng x (zm hx)
 unfold kB
 rw [hx]
 simp only [Bool.and_eq_true,Bool.or_eq_true,decide_eq_true_eq]
 refine ⟨⟨h0,h1⟩,?_⟩
 by_cases e:i=0
 · exact .inl e
 · refine .inr ?_
   obtain ⟨y,hy⟩:=zh (l:=l) (k:=i - 1) (by omega)
   rw [hy]
   simpa using zdL h.ss hy hx (by omega)
theorem zk2:∀ {a b:List Int},SS a→SS b→(∀ x,x∈a↔x∈b)→a=b
 | [],[],_,_,_=>rfl
 | [],y :: b,_,_,h=>by have:=(h y).2 (by simp);simp at this
 | x :: a,[],_,_,h=>by have:=(h x).1 (by simp);simp at this
 | x :: a,y :: b,ha,hb,h=>by
  have ha':=List.pairwise_cons.1 ha
  have hb':=List.pairwise_cons.1 hb
  have e:x=y:=by
   have h1:=(h x).1 (by simp)
   have h2:=(h y).2 (by simp)
   rcases List.mem_cons.1 h1 with e|h1
   · exact e
   · rcases List.mem_cons.1 h2 with e|h2
     · exact e.symm
     · have:=ha'.1 y h2;have:=hb'.1 x h1;omega
  subst e
  rw [zk2 ha'.2 hb'.2 fun z=>?_]
  have:=h z
  simp only [List.mem_cons] at this
  constructor
  · intro hz
    rcases this.1 (.inr hz) with e|q
    · have:=ha'.1 z hz;omega
    · exact q
  · intro hz
    rcases this.2 (.inr hz) with e|q
    · have:=hb'.1 z hz;omega
    · exact q
theorem ztx:∀ (l:List Int)(m n:Int),SS l→(∀ x∈l,m≤x∧x < n)→m≤n→(l.length:Int)≤n - m
 | [],m,n,_,_,h=>by simp;omega
 | x :: l,m,n,hs,hr,h=>by
  have hs':=List.pairwise_cons.1 hs
  have hx:=hr x (by simp)
  have:=ztx l (x + 1) n hs'.2 (fun y hy=>⟨by have:=hs'.1 y hy;omega,(hr y (by simp [hy])).2⟩) (by omega)
  simp only [List.length_cons]
  omega
theorem znD {n:Int}{l:List Int} (h:IsSet n l)(hn:0≤n):(l.length:Int)≤n:=by
 have:=ztx l 0 n h.ss h.rng hn
 omega
def xl (part l:List Int):Bool:=part.all fun x=>decide (x∈l)
def zeI (a b:List Int):Bool:=a.all fun x=>decide (x ∉ b)
def zsc (a b:List Int):Bool:=a.any fun x=>decide (x∈b)
theorem zty (a b:List Int):zsc a b = !zeI a b:=by
 unfold zsc zeI
 induction a with
 | nil=>rfl
 | cons x a ih =>
  simp only [List.any_cons,List.all_cons,ih]
  by_cases h:x∈b<;>simp [h]
def wr (n:Int)(ops:List SOp)(i:Nat):Option Flt:=match ops[i]? with
 | none=>none
 | some o=>if yy n o.pre=false∨yy n o.add=false∨yy n o.del=false∨zeI o.add o.del=false then some ⟨5,i⟩ else if o.cost < 0∨o.cost > 100 then some ⟨3,i⟩ else none
def yG (t:STask):Flt:=if t.facts < 0∨t.facts > 24 then ⟨3,-1⟩ else if yy t.facts t.init=false then ⟨5,-2⟩ else if yy t.facts t.goal=false then ⟨5,-3⟩
 else if t.ops.length > 40 then ⟨2,-1⟩ else (y0 (wr t.facts t.ops) 0 t.ops.length).getD okF
structure SOv (n:Int)(o:SOp):Prop where
 pre:IsSet n o.pre
 add:IsSet n o.add
 del:IsSet n o.del
 dis:∀ x∈o.add,x ∉ o.del
 c0:0≤o.cost
 c1:o.cost≤100
structure SV (t:STask):Prop where
 f0:0≤t.facts
 f1:t.facts≤24
 init:IsSet t.facts t.init
 goal:IsSet t.facts t.goal
 opl:t.ops.length≤40
 op:∀ o∈t.ops,SOv t.facts o
theorem zk3 {bad:Nat→Option Flt} (hb:∀ i f,bad i=some f→f.code≠0):∀ n i f,y0 bad i n=some f→f.code≠0
 | 0,_,_,h=>by cases h
 | n + 1,i,f,h=>by
  simp only [y0] at h
  split at h
  · rename_i g e;cases h;exact hb _ _ e
  · exact zk3 hb n (i + 1) f h
theorem zsd {o:Option Flt} (hc:∀ f,o=some f→f.code≠0)(h:(o.getD okF).code=0):o=none:=by
 cases o with
 | none=>rfl
 | some f=>exact absurd h (hc f rfl)
theorem zqM (n:Int)(ops:List SOp)(i:Nat):∀ f,wr n ops i=some f→f.code≠0:=by
 intro f h
 unfold wr at h
 split at h
 · cases h
 · repeat' split at h
   all_goals cases h
   all_goals simp
theorem zqN (t : STask):(yG t).code=0→SV t∧yG t=okF:=by
 intro h
 have h0:=h
 unfold yG at h
 split at h
 · cases h
 · rename_i h1
   split at h
   · cases h
   · rename_i h2
     split at h
     · cases h
     · rename_i h3
       split at h
       · cases h
       · rename_i h4
         have hs:=zsd (zk3 (zqM t.facts t.ops) _ _) h
         refine ⟨⟨by omega,by omega,qP (by simpa using h2),qP (by simpa using h3),by omega,fun o ho=>?_⟩,?_⟩
         · obtain ⟨i,hi,e⟩:=List.getElem_of_mem ho
           have hg:t.ops[i]? = some o:=by rw [← e];exact List.getElem?_eq_getElem hi
           have:=vL _ _ hs i (Nat.zero_le _) (by omega)
           unfold wr at this
           rw [hg] at this
           simp only at this
           split at this
           · cases this
           · rename_i q1
             split at this
             · cases this
             · rename_i q2
               simp only [not_or,Bool.not_eq_false] at q1
               refine ⟨qP q1.1,qP q1.2.1,qP q1.2.2.1,fun x hx=>?_,by omega,by omega⟩
               have:=List.all_eq_true.1 q1.2.2.2 x hx
               simpa using this
         · unfold yG
           rw [if_neg h1,if_neg h2,if_neg h3,if_neg h4,hs]
           rfl
theorem zc4 {t:STask} (h:yG t=okF):SV t:=(zqN t (by rw [h];rfl)).1
theorem znE {t:STask} (h:SV t):yG t=okF:=by
 unfold yG
 rw [if_neg (by have:=h.f0;have:=h.f1;omega),if_neg (by simp [zco h.init]),if_neg (by simp [zco h.goal]),if_neg (by have:=h.opl;omega),wp fun j hj=>?_]
 · rfl
 · obtain ⟨o,ho⟩:=zh hj
   have hv:=h.op o (zm ho)
   unfold wr
   rw [ho]
   simp only [zco hv.pre,zco hv.add,zco hv.del]
   rw [if_neg,if_neg (by have:=hv.c0;have:=hv.c1;omega)]
   simp only [Bool.true_eq_false,false_or,Bool.not_eq_false]
   exact List.all_eq_true.2 fun x hx=>by simpa using hv.dis x hx
def kC (p:Nat→Bool)(k:Nat):List Int:=((List.range k).filter p).map Int.ofNat
theorem zgc (p:Nat→Bool)(k:Nat):kC p (k + 1)=kC p k ++ (if p k=true then [(k:Int)] else []):=by
 unfold kC
 rw [List.range_succ,List.filter_append,List.map_append]
 congr 1
 simp only [List.filter]
 cases p k<;>rfl
theorem qQ (p:Nat→Bool)(k:Nat):(kC p k).length≤k:=by
 unfold kC
 rw [List.length_map]
 exact Nat.le_trans (List.length_filter_le _ _) (by simp)
theorem zeJ {p:Nat→Bool}{k:Nat}{x:Int}:x∈kC p k↔0≤x∧x < k∧p x.toNat=true:=by
 unfold kC
 simp only [List.mem_map,List.mem_filter,List.mem_range]
 constructor
 · rintro ⟨i,⟨h1,h2⟩,rfl⟩
   exact ⟨by simp,by simpa using h1,by simpa using h2⟩
 · rintro ⟨h0,h1,h2⟩
   exact ⟨x.toNat,⟨by omega,h2⟩,by simp;omega⟩
theorem zmg (p:Nat→Bool):∀ k,SS (kC p k)
 | 0=>List.Pairwise.nil
 | k + 1=>by
  rw [zgc]
  split
  · refine List.pairwise_append.2 ⟨zmg p k,List.pairwise_singleton _ _,fun a ha b hb=>?_⟩
    have:=zeJ.1 ha
    simp at hb
    omega
  · rw [List.append_nil];exact zmg p k
def zgd (l:List Int)(i:Nat):Option Int:=match l[i]? with
 | some x=>if i=0∨l[i - 1]?≠some x then some x else none
 | none=>none
def ddK (l:List Int)(k:Nat):List Int:=(List.range k).filterMap (zgd l)
theorem zpQ (l:List Int)(k:Nat):ddK l (k + 1)=ddK l k ++ (zgd l k).toList:=by
 unfold ddK
 rw [List.range_succ,List.filterMap_append]
 congr 1
def wE (l:List Int):List Int:=ddK l l.length
theorem zvV (l:List Int)(k:Nat):(ddK l k).length≤k:=by
 have:=List.length_filterMap_le (zgd l) (List.range k)
 simpa [ddK] using this
theorem zeK {l:List Int}{k:Nat}{x:Int} (hx:l[k]? = some x)(h:k=0∨l[k - 1]?≠some x):ddK l (k + 1)=ddK l k ++ [x]:=by
 rw [zpQ,zgd,hx];simp only [if_pos h,Option.toList]
theorem zeL {l:List Int}{k:Nat}{x:Int} (hx:l[k]? = some x)(h0:k≠0)(h:l[k - 1]? = some x):ddK l (k + 1)=ddK l k:=by
 rw [zpQ,zgd,hx];simp [h0,h]
theorem zhm {l:List Int}:∀ k,k≤l.length→(∀ j,0 < j→j < k→l[j]?≠l[j - 1]?)→ddK l k=l.take k
 | 0,_,_=>by simp [ddK]
 | k + 1,h,hn=>by
  obtain ⟨x,hx⟩:=zh (l:=l) (k:=k) (by omega)
  rw [zeK hx,zhm k (by omega) fun j h1 h2=>hn j h1 (by omega),zz hx]
  by_cases e:k=0
  · exact .inl e
  · refine .inr fun e2=>hn k (by omega) (by omega) ?_
    rw [hx,e2]
theorem zmh {l:List Int}{x:Int}:∀ k,k≤l.length→(x∈ddK l k↔x∈l.take k)
 | 0,_=>by simp [ddK]
 | k + 1, h=>by
  obtain ⟨y,hy⟩:=zh (l:=l) (k:=k) (by omega)
  have ih:=zmh (l:=l) (x:=x) k (by omega)
  rw [zz hy]
  by_cases c:k=0∨l[k - 1]?≠some y
  · rw [zeK hy c];simp [ih]
  · simp only [not_or,Decidable.not_not] at c
    rw [zeL hy c.1 c.2]
    simp only [List.mem_append,List.mem_singleton,ih]
    constructor
    · exact .inl
    · rintro (e|rfl)
      · exact e
      · obtain ⟨h1,h2⟩:=List.getElem?_eq_some_iff.1 c.2
        exact List.mem_take_iff_getElem.2 ⟨k - 1,by omega,h2⟩
theorem ztz {l:List Int}{x:Int}:x∈wE l↔x∈l:=by
 unfold wE
 rw [zmh l.length (Nat.le_refl _),List.take_length]
theorem ztA {l:List Int} (hs:l.Pairwise (·≤·)):∀ k,k≤l.length→SS (ddK l k)
 | 0,_=>by simp [ddK,SS]
 | k + 1, h=>by
  obtain ⟨y,hy⟩:=zh (l:=l) (k:=k) (by omega)
  have ih:=ztA (l:=l) hs k (by omega)
  by_cases c:k=0∨l[k - 1]?≠some y
  · rw [zeK hy c]
    refine List.pairwise_append.2 ⟨ih,List.pairwise_singleton _ _,fun a ha b hb=>?_⟩
    simp at hb
    subst hb
    have ha':=(zmh k (by omega)).1 ha
    obtain ⟨i,hi,e⟩:=List.mem_take_iff_getElem.1 ha'
    obtain ⟨h1,e1⟩:=List.getElem?_eq_some_iff.1 hy
    have h2:a≤b:=by
     have:=List.pairwise_iff_getElem.1 hs i k (by omega) h1 (by omega)
     rw [e,e1] at this;exact this
    rcases c with c|c
    · omega
    · have h3:l[k - 1]? = some l[k - 1]:=List.getElem?_eq_getElem (by omega)
      have h4:l[k - 1]≤b:=by
       by_cases hk:k=0
       · omega
       · have:=List.pairwise_iff_getElem.1 hs (k - 1) k (by omega) h1 (by omega)
         rw [e1] at this;exact this
      have h5:l[k - 1]≠b:=fun e=>c (by rw [h3,e])
      have h6:a≤l[k - 1]:=by
       by_cases hik:i=k - 1
       · subst hik;omega
       · have:=List.pairwise_iff_getElem.1 hs i (k - 1) (by omega) (by omega) (by omega)
         rw [e] at this;exact this
      omega
  · simp only [not_or,Decidable.not_not] at c
    rw [zeL hy c.1 c.2];exact ih
def wA (l:List Int):List Int:=l.mergeSort fun x y=>decide (x≤y)
theorem zuN {l:List Int}{x:Int}:x∈wA l↔x∈l:=(List.mergeSort_perm l _).mem_iff
theorem zjr (l:List Int):(wA l).length=l.length:=(List.mergeSort_perm l _).length_eq
theorem zvW (l:List Int):(wA l).Pairwise (·≤·):=by
 have:=List.pairwise_mergeSort (le:=fun x y:Int=>decide (x≤y)) (fun a b c h1 h2=>by simp at *;omega) (fun a b=>by simp;omega) l
 exact List.Pairwise.imp (fun h=>by simpa using h) this
def wC (s add del:List Int):List Int:=wE (wA (s.filter (fun x=>decide (x ∉ del)) ++ add))
theorem qR {s add del:List Int}{x:Int}:x∈wC s add del↔(x∈s∧x ∉ del)∨x∈add:=by
 unfold wC
 rw [ztz,zuN];simp
theorem zvX (s add del:List Int):SS (wC s add del):=ztA (zvW _) _ (Nat.le_refl _)
theorem uS {n:Int}{s add del:List Int} (hs:IsSet n s)(ha:IsSet n add):IsSet n (wC s add del) :=
 ⟨zvX _ _ _,fun x hx=>by
  rcases qR.1 hx with h|h
  · exact hs.rng x h.1
  · exact ha.rng x h⟩
def zdM (n:Nat)(x:Int):Bool:=decide (x < 0) || decide (x ≥ n)
def zcp (n:Nat)(plan:List Int):Flt:=if plan.length > 60 then ⟨2,-5⟩ else if plan.any (zdM n)=true then ⟨3,-6⟩ else okF
theorem ztB {n:Nat}{plan:List Int} (h:zcp n plan=okF):plan.length≤60∧∀ x∈plan,0≤x∧x < n:=by
 unfold zcp at h
 split at h
 · cases h
 · split at h
   · cases h
   · rename_i h1 h2
     refine ⟨by omega,fun x hx=>?_⟩
     rw [Bool.not_eq_true,List.any_eq_false] at h2
     have:=h2 x hx
     simp [zdM] at this
     omega
structure Ac where
 sch:Nat
 args:List Int
 pre:List Lit
 add:List Lit
 del:List Lit
 cost:Int
def vA (args:List Int)(x:Lit):Lit:=⟨x.neg,zL args x.at_⟩
def vB (d:Dom)(x:Lit):Bool:=decide (x.at_∈d.init) != x.neg
def ws (d:Dom)(args:List Int):List Lit→List Lit→Option (List Lit)
 | [],out=>some out
 | x :: r,out=>if w9 d x.at_.pred=false then (if decide (zL args x.at_∈d.init)=x.neg then none else ws d args r out)
   else if opp (vA args x)∈out then none else if vA args x∈out then ws d args r out else ws d args r (out ++ [vA args x])
def SameM (a b:List Lit):Prop:=∀ x,x∈a↔x∈b
theorem SameM.refl (a:List Lit):SameM a a:=fun _=>Iff.rfl
def sdL (l:List Lit):List Lit:=l.foldl kr []
def sdA (l:List At):List At:=(sdL (l.map yK)).map Lit.at_
theorem zge:∀ (l acc:List Lit),SLt acc→SLt (l.foldl kr acc)
 | [],_,h=>h
 | x :: r,acc,h=>zge r _ (zo6 h)
theorem znF {x:Lit}:∀ (l acc:List Lit),x∈l.foldl kr acc↔x∈acc∨x∈l
 | [],acc=>by simp
 | y :: r,acc=>by
  simp only [List.foldl_cons,znF r,ztg,List.mem_cons]
  exact ⟨fun h=>by rcases h with (h|h)|h<;>simp [h],fun h=>by rcases h with h|h|h<;>simp [h]⟩
theorem zse (l:List Lit):SLt (sdL l):=zge l [] List.Pairwise.nil
theorem zhn {l:List Lit}{x:Lit}:x∈sdL l↔x∈l:=by unfold sdL;rw [znF];simp
theorem zho {l:List At}{a:At}:a∈sdA l↔a∈l:=by
 unfold sdA
 rw [List.mem_map]
 constructor
 · rintro ⟨x,hx,rfl⟩
   rw [zhn] at hx
   obtain ⟨b,hb,rfl⟩:=List.mem_map.1 hx
   exact hb
 · exact fun h=>⟨yK a,zhn.2 (List.mem_map_of_mem h),rfl⟩
theorem zvY (l:List At):(sdA l).map yK=sdL (l.map yK):=by
 unfold sdA
 rw [List.map_map]
 have:∀ x∈sdL (l.map yK),(yK ∘ Lit.at_) x=x:=fun x hx=>by
  rw [zhn] at hx
  obtain ⟨b,_,rfl⟩:=List.mem_map.1 hx
  rfl
 exact (List.map_congr_left this).trans (List.map_id _)
theorem zwQ {l m:List At} (hs:SLt (m.map yK))(hm:∀ a,a∈m↔a∈l):m=sdA l:=by
 have:m.map yK=(sdA l).map yK:=by
  rw [zvY]
  refine zq7 hs (zse _) fun x=>?_
  rw [zhn,List.mem_map,List.mem_map]
  exact ⟨fun ⟨a,h1,h2⟩=>⟨a,(hm a).1 h1,h2⟩,fun ⟨a,h1,h2⟩=>⟨a,(hm a).2 h1,h2⟩⟩
 have h2:=congrArg (List.map Lit.at_) this
 simpa [List.map_map,Function.comp_def,yK] using h2
def xm (plus minus:List At):List Lit:=plus.map yK ++ (minus.filter fun a=>!decide (a∈plus)).map ut
def xn (plus minus:List At):List Lit:=plus.map ut ++ (minus.filter fun a=>!decide (a∈plus)).map yK
theorem znG {p m:List At}{x:Lit}:x∈xm p m↔(x.neg=false∧x.at_∈p)∨(x.neg=true∧x.at_∈m∧x.at_ ∉ p):=by
 unfold xm
 simp only [List.mem_append,List.mem_map,List.mem_filter]
 constructor
 · rintro (⟨a,h,rfl⟩|⟨a,h,rfl⟩)
   · exact .inl ⟨rfl,h⟩
   · exact .inr ⟨rfl,h.1,fun hp=>by
      have hp:a∈p:=hp
      simp [hp] at h⟩
 · rintro (⟨h1,h2⟩|⟨h1,h2,h3⟩)
   · exact .inl ⟨x.at_,h2,by cases x;simp only at h1;subst h1;rfl⟩
   · exact .inr ⟨x.at_,⟨h2,by simpa using h3⟩,by cases x;simp only at h1;subst h1;rfl⟩
theorem znH {p m:List At}{x:Lit}:x∈xn p m↔(x.neg=true∧x.at_∈p)∨(x.neg=false∧x.at_∈m∧x.at_ ∉ p):=by
 unfold xn
 simp only [List.mem_append,List.mem_map,List.mem_filter]
 constructor
 · rintro (⟨a,h,rfl⟩|⟨a,h,rfl⟩)
   · exact .inl ⟨rfl,h⟩
   · exact .inr ⟨rfl,h.1,fun hp=>by
      have hp:a∈p:=hp
      simp [hp] at h⟩
 · rintro (⟨h1,h2⟩|⟨h1,h2,h3⟩)
   · exact .inl ⟨x.at_,h2,by cases x;simp only at h1;subst h1;rfl⟩
   · exact .inr ⟨x.at_,⟨h2,by simpa using h3⟩,by cases x;simp only at h1;subst h1;rfl⟩
def zbS (args:List Int)(p:Int × Int):Bool:=decide (args[p.1.toNat]? = args[p.2.toNat]?)
def acP (d:Dom)(i:Nat)(s:Sch)(args:List Int):Option Ac:=if s.diff.any (zbS args)=true then none else match ws d args s.pre [] with
 | none=>none
 | some n=>some ⟨i,args,n,xm (sdA (s.add.map (zL args))) (sdA (s.del.map (zL args))),xn (sdA (s.add.map (zL args))) (sdA (s.del.map (zL args))),s.cost⟩
def zD (d:Dom):List Ac:=(List.range d.schemas.length).flatMap fun i=>match d.schemas[i]? with
 | none=>[]
 | some s=>(yB d s.types).filterMap (acP d i s)
inductive All2 {α β:Type} (R:α→β→Prop):List α→List β→Prop where
 | nil:All2 R [] []
 | cons {a b l m}:R a b→All2 R l m→All2 R (a :: l) (b :: m)
theorem All2.append {α β:Type}{R:α→β→Prop}{l1 l2:List α}{m1 m2:List β} (h:All2 R l1 m1)(k:All2 R l2 m2):All2 R (l1 ++ l2) (m1 ++ m2):=by
 induction h with
 | nil=>exact k
 | cons h _ ih=>exact .cons h ih
theorem All2.length {α β:Type}{R:α→β→Prop}{l:List α}{m:List β} (h:All2 R l m):l.length=m.length:=by
 induction h with
 | nil=>rfl
 | cons _ _ ih=>simp [ih]
theorem All2.map {α β γ:Type}{R:α→β→Prop}{f:α→γ}{g:β→γ} (hf:∀ a b,R a b→f a=g b) {l:List α}{m:List β} (h:All2 R l m):l.map f=m.map g:=by
 induction h with
 | nil=>rfl
 | cons h _ ih=>simp [hf _ _ h,ih]
theorem All2.get {α β:Type}{R:α→β→Prop}{l:List α}{m:List β} (h:All2 R l m):∀ (i:Nat)(a:α),l[i]? = some a→∃ b,m[i]? = some b∧R a b:=by
 induction h with
 | nil=>intro i a h;simp at h
 | cons h _ ih =>
  intro i a ha
  cases i with
  | zero=>simp only [List.getElem?_cons_zero,Option.some.injEq] at ha;subst ha;exact ⟨_,rfl,h⟩
  | succ i=>simpa using ih i a (by simpa using ha)
theorem All2.flatMap {α β γ:Type}{R:α→β→Prop}{f:γ→List α}{g:γ→List β}:∀ {l:List γ},(∀ x∈l,All2 R (f x) (g x))→All2 R (l.flatMap f) (l.flatMap g)
 | [],_=>.nil
 | x :: r,h=>by
  rw [List.flatMap_cons,List.flatMap_cons]
  exact (h x (by simp)).append (All2.flatMap fun y hy=>h y (by simp [hy]))
def xi (facts l:List Lit)(i:Nat):Bool:=match facts[i]? with
 | some x=>decide (x∈l)
 | none=>false
def yL (facts l:List Lit):List Int:=kC (xi facts l) facts.length
structure RS where
 used:List Bool
 hv:List Lit
 again:Bool
def vk (a:Ac)(hv:List Lit):Bool:=a.pre.all fun x=>decide (x∈hv)
def xp (acts:List Ac)(s:RS)(i:Nat):RS:=match acts[i]? with
 | none=>s
 | some a=>if s.used[i]? = some false∧vk a s.hv=true then ⟨s.used.set i true,s.hv ++ a.add,true⟩ else s
def xC (acts:List Ac)(s:RS)(k:Nat):RS:=(List.range k).foldl (xp acts) s
theorem uj (acts:List Ac)(s:RS)(k:Nat):xC acts s (k + 1)=xp acts (xC acts s k) k:=by
 unfold xC
 rw [List.range_succ,List.foldl_append]
 rfl
def ve (acts:List Ac)(s:RS):RS:=xC acts ⟨s.used,s.hv,false⟩ acts.length
def vf (acts:List Ac):Nat→RS→RS
 | 0,s=>s
 | n + 1,s=>if s.again=true then vf acts n (ve acts s) else s
def zc (s:RS):Nat:=s.used.count false
theorem ztC {l:List Bool}{i:Nat} (h:l[i]? = some false):(l.set i true).count false + 1=l.count false:=by
 induction l generalizing i with
 | nil=>simp at h
 | cons b r ih =>
  cases i with
  | zero =>
   simp only [List.getElem?_cons_zero,Option.some.injEq] at h
   subst h
   simp
  | succ i =>
   have:=ih (i:=i) (by simpa using h)
   simp only [List.set_cons_succ,List.count_cons]
   omega
theorem znI (acts:List Ac)(s:RS)(i:Nat):(xp acts s i).used.length=s.used.length:=by
 unfold xp
 split
 · rfl
 · split
   · simp
   · rfl
theorem znJ (acts:List Ac)(s:RS):∀ k,(xC acts s k).used.length=s.used.length
 | 0=>rfl
 | k + 1=>by rw [uj,znI,znJ]
theorem zpR (acts:List Ac)(s:RS)(i:Nat):xp acts s i=s∨(zc (xp acts s i) + 1=zc s∧(xp acts s i).again=true):=by
 unfold xp
 split
 · exact .inl rfl
 · split
   · rename_i h
     exact .inr ⟨ztC h.1,rfl⟩
   · exact .inl rfl
theorem zgf (acts:List Ac)(s:RS):∀ k,zc (xC acts s k)≤zc s∧((xC acts s k).again=true→s.again=true∨zc (xC acts s k) + 1≤zc s)
 | 0=>⟨Nat.le_refl _,fun h=>.inl h⟩
 | k + 1=>by
  obtain ⟨h1,h2⟩:=zgf acts s k
  rw [uj]
  rcases zpR acts (xC acts s k) k with e|⟨e1,e2⟩
  · rw [e];exact ⟨h1,h2⟩
  · exact ⟨by omega,fun _=>.inr (by omega)⟩
theorem jH (acts:List Ac)(s:RS):zc (ve acts s)≤zc s∧((ve acts s).again=true→zc (ve acts s) + 1≤zc s):=by
 obtain ⟨h1,h2⟩:=zgf acts ⟨s.used,s.hv,false⟩ acts.length
 refine ⟨h1,fun h=>?_⟩
 rcases h2 h with h|h
 · cases h
 · exact h
theorem znK (acts:List Ac):∀ (n m:Nat)(s:RS),zc s + 1≤n→n≤m→vf acts m s=vf acts n s
 | 0,m,s,h,_=>by omega
 | n + 1,0,s,_,h=>by omega
 | n + 1,m + 1,s,h1,h2=>by
  simp only [vf]
  split
  · rename_i ha
    obtain ⟨p1,p2⟩:=jH acts s
    cases hp:(ve acts s).again with
    | true=>exact znK acts n m _ (by have:=p2 hp;omega) (by omega)
    | false =>
     have e:∀ k,vf acts k (ve acts s)=ve acts s:=fun k=>by cases k<;>simp [vf,hp]
     rw [e,e]
  · rfl
def zaf (acts:List Ac)(s:RS):RS:=vf acts (zc s + 1) s
theorem zqO {acts:List Ac}{s:RS} (h:s.again=true):zaf acts s=zaf acts (ve acts s):=by
 obtain ⟨p1,p2⟩:=jH acts s
 unfold zaf
 rw [show vf acts (zc s + 1) s=vf acts (zc s) (ve acts s) by simp [vf,h]]
 cases hp:(ve acts s).again with
 | true=>exact znK acts _ _ _ (by have:=p2 hp;omega) (by have:=p2 hp;omega)
 | false =>
  have e:∀ k,vf acts k (ve acts s)=ve acts s:=fun k=>by cases k<;>simp [vf,hp]
  rw [e,e]
theorem zsf {acts:List Ac}{s:RS} (h:s.again=false):zaf acts s=s:=by simp [zaf,vf,h]
structure Grd where
 task:STask
 facts:List Lit
 insts:List (Nat × List Int)
def grZ:Grd:=⟨skZ,[],[]⟩
def zwR (i:Nat × List Int):V:=.agg [.int .i64 i.1,.sl .p (i.2.map zk)]
def zjs (g:Grd):V:=.agg [.int .i64 g.task.facts,.sl .p (g.task.init.map zk),.sl .p (g.task.goal.map zk),.sl .p (g.task.ops.map soV),.sl .p (g.facts.map zY),.sl .p (g.insts.map zwR)]
def zcq (facts:List Lit)(a:Ac):SOp:=⟨yL facts a.pre,yL facts a.add,yL facts a.del,a.cost⟩
def xO (d:Dom)(facts:List Lit)(i:Nat):Bool:=match facts[i]? with
 | some x=>vB d x
 | none=>false
def kD (d:Dom)(facts:List Lit):List Int:=kC (xO d facts) facts.length
def xZ (d:Dom)(facts:List Lit)(acts:List Ac):Grd:=⟨⟨facts.length,kD d facts,yL facts d.goal,acts.map (zcq facts)⟩,facts,acts.map fun a=>(a.sch,a.args)⟩
def uT (facts:List Lit)(acts:List Ac):Bool:=decide (facts.length > 24) || decide (acts.length > 40)
theorem zmi {facts:List Lit}{acts:List Ac} (h:uT facts acts=false):facts.length≤24∧acts.length≤40:=by
 unfold uT at h
 simp only [Bool.or_eq_false_iff,decide_eq_false_iff_not] at h
 omega
theorem zuO {facts:List Lit}{acts:List Ac} (h:uT facts acts=true):facts.length > 24∨acts.length > 40:=by
 unfold uT at h
 simpa using h
def x9 (d:Dom)(facts:List Lit)(acts:List Ac):Grd:=if uT facts acts=true then grZ else xZ d facts acts
def vl (facts:List Lit)(acts:List Ac):Flt:=if uT facts acts=true then ⟨10,-8⟩ else okF
def rs0 (d:Dom)(n:Nat):RS:=⟨List.replicate n false,(ya d).filter (vB d),true⟩
def wL (d:Dom)(acts:List Ac):RS:=zaf acts (rs0 d acts.length)
def zag (d:Dom)(s:RS):List Lit:=(ya d).filter fun x=>decide (x∈s.hv) || decide (x∈d.goal)
def vg (acts:List Ac)(u:List Bool)(k:Nat):List Ac:=(List.range k).filterMap fun i=>if u[i]? = some true then acts[i]? else none
def uk (acts:List Ac)(s:RS):List Ac:=vg acts s.used acts.length
theorem zsg (acts:List Ac)(u:List Bool)(k:Nat):vg acts u (k + 1)=vg acts u k ++ (if u[k]? = some true then acts[k]? else none).toList:=by
 unfold vg
 rw [List.range_succ,List.filterMap_append]
 congr 1
end Hm
end
section
namespace Hm
open Go
set_option maxRecDepth 100000
set_option maxHeartbeats 4000000
def zgg:Cmd :=
 (qS [qx 2 8192130 2 0,qb 3 false]
 (.seq (.ops [qL 4 2 1,qL 5 2 2,qk 6 129 [4,5],qv 7 .eql [.i] 6 0,qm 3 7]) .ret))
def zgh:List RVar:=[.tmp 3]
def zgi:Nat:=8
theorem zgj:zj PG 128 zgi zgh zgg=true:=by kernel_rfl
theorem zqP (u t:At)(hu:AtOk u)(ht:AtOk t):Fc PG 128 [atV u,.cptr .p (atV t) 0] (.bool (decide (t=u))):=by
 have h:=x8 t u ht hu
 refine Fn.step zf zgj ?_
 repeat' (first|refine i_s rfl ?_|refine sw ?_|refine zr rfl rfl ?_|refine sf rfl rfl h ?_|fail)
 refine zb ⟨rfl,_,rfl,congrArg V.bool ?_⟩
 by_cases e:t=u
 · rw [yD.2 e,decide_eq_true e];rfl
 · have:yb t u≠0:=fun h=>e (yD.1 h)
   rw [decide_eq_false e]
   simpa using this
def zjt:Cmd :=
 (qS [qx 3 5504194 2 1,qb 4 false]
 (.seq (.ops [qm 5 0,qq 6 (.mkfn 128 [.t 3]),qk 7 127 [5,6],qm 4 7]) .ret))
def zju:List RVar:=[.tmp 4]
def zjv:Nat:=8
theorem zjw:zj PG 86 zjv zju zjt=true:=by kernel_rfl
theorem zgk (l:List At)(a:At)(hl:l.length≤140737488355328)(ho:∀ x∈l,AtOk x)(ha:AtOk a):Fc PG 86 [.sl .p (l.map atV),atV a] (.bool (decide (a∈l))):=by
 have hC:=k9 l (fun u=>decide (a=u)) 128 [.cptr .p (atV a) 0] hl (fun _ _=>rfl) rfl (fun u hu=>zqP u a (ho u hu) ha)
 have hany:l.any (fun u=>decide (a=u))=decide (a∈l):=by
  rw [Bool.eq_iff_iff]
  simp
 rw [hany] at hC
 refine Fn.step zf zjw ?_
 repeat' (first|refine i_s rfl ?_|refine sw ?_|refine zr rfl rfl ?_|refine sf rfl rfl hC ?_|fail)
 exact zb ⟨rfl,_,rfl,rfl⟩
def zdN:Cmd :=
 (qS [qx 2 5632131 3 0,qb 3 false]
 (.seq (.ops [qL 4 3 1,qL 5 3 2,qk 6 89 [4,5],qv 7 .eql [.i] 6 0,qm 3 7]) .ret))
def zdO:List RVar:=[.tmp 3]
def zdP:Nat:=8
theorem zdQ:zj PG 88 zdP zdO zdN=true:=by kernel_rfl
theorem zmj (u t:Lit)(hu:AtOk u.at_)(ht:AtOk t.at_):Fc PG 88 [zY u,.cptr .p (zY t) 0] (.bool (decide (t=u))):=by
 have h:=zhP t u ht hu
 refine Fn.step zf zdQ ?_
 repeat' (first|refine i_s rfl ?_|refine sw ?_|refine zr rfl rfl ?_|refine sf rfl rfl h ?_|fail)
 refine zb ⟨rfl,_,rfl,congrArg V.bool ?_⟩
 by_cases e:t=u
 · rw [vw.2 e,decide_eq_true e];rfl
 · have:z7 t u≠0:=fun h=>e (vw.1 h)
   rw [decide_eq_false e]
   simpa using this
def zfo:Cmd :=
 (qS [qx 3 2816195 3 1,qb 4 false]
 (.seq (.ops [qm 5 0,qq 6 (.mkfn 88 [.t 3]),qk 7 87 [5,6],qm 4 7]) .ret))
def zfp:List RVar:=[.tmp 4]
def zfq:Nat:=8
theorem zfr:zj PG 44 zfq zfp zfo=true:=by kernel_rfl
theorem kE (l:List Lit)(a:Lit)(hl:l.length≤140737488355328)(ho:∀ x∈l,AtOk x.at_)(ha:AtOk a.at_):Fc PG 44 [.sl .p (l.map zY),zY a] (.bool (decide (a∈l))):=by
 have hC:=zds l (fun u=>decide (a=u)) 88 [.cptr .p (zY a) 0] hl (fun _ _=>rfl) rfl (fun u hu=>zmj u a (ho u hu) ha)
 have hany:l.any (fun u=>decide (a=u))=decide (a∈l):=by
  rw [Bool.eq_iff_iff]
  simp
 rw [hany] at hC
 refine Fn.step zf zfr ?_
 repeat' (first|refine i_s rfl ?_|refine sw ?_|refine zr rfl rfl ?_|refine sf rfl rfl hC ?_|fail)
 exact zb ⟨rfl,_,rfl,rfl⟩
def zpS:Cmd :=
 (qS [qx 1 8000067 3 0,qq 2 (.alloc 8000131 (.agg [.bool false,.int .i64 0,.sl .nil []]))]
 (.seq (.ops [qf 3 0 1,ql 4 1 3,qq 5 (.not (.t 4)),qf 6 1 1,qL 7 2 6,qq 8 (.build [.bool false,.int .i64 0,.sl .nil []] [(0 ,1 ,.t 5),(1 ,2 ,.t 7)]),qs 3 2 8]) .ret))
def zpT:List RVar:=[.cell true 3 2]
def zpU:Nat:=9
theorem zpV:zj PG 125 zpU zpT zpS=true:=by kernel_rfl
theorem zpW (x:Lit):Fc PG 125 [zY x] (zY (opp x)):=by
 refine Fn.step zf zpV ?_
 repeat' (first|refine i_s rfl ?_|refine sw ?_|refine zl rfl ?_|refine zi rfl ?_|refine zr rfl rfl ?_)
 exact zb ⟨rfl,_,rfl,rfl⟩
def grV (d:Dom)(fl ng:List Bool):V:=.agg [.sl .p (d.types.map tyV),.sl .p (d.objects.map obV),.sl .p (d.preds.map wy),.sl .p (d.schemas.map xF),.sl .p (d.init.map atV),.sl .p (d.goal.map zY),.sl .p (fl.map V.bool),.sl .p (ng.map V.bool)]
abbrev grP (d:Dom)(fl ng:List Bool):V:=.cptr .p (grV d fl ng) 0
def zah:Cmd :=
 (qS [qx 3 2624195 3 1,qb 4 false]
 (.seq (.ops [qm 5 0,qq 6 (.nilck (.t 5)),qf 7 0 6,qf 8 4 7,ql 9 1 8,qf 10 1 3,qL 11 2 10,qk 12 86 [9,11],qf 13 0 3,ql 14 1 13,qu 15 .neq [.b] 12 14,qm 4 15]) .ret))
def zai:List RVar:=[.tmp 4]
def zaj:Nat:=16
theorem zak:zj PG 41 zaj zai zah=true:=by kernel_rfl
theorem ziJ (d:Dom)(fl ng:List Bool)(hl:d.init.length≤140737488355328)(ho:∀ x∈d.init,AtOk x)(x:Lit)(hx:AtOk x.at_):Fc PG 41 [grP d fl ng,zY x] (.bool (vB d x)):=by
 have hA:=zgk d.init x.at_ hl ho hx
 refine Fn.step zf zak ?_
 repeat' (first|refine i_s rfl ?_|refine sw ?_|refine zr rfl rfl ?_|refine sf rfl rfl hA ?_|fail)
 refine zb ⟨rfl,_,rfl,congrArg V.bool ?_⟩
 unfold vB
 generalize decide (x.at_∈d.init)=b
 cases b<;>cases x.neg<;>rfl
def zmk:Cmd :=
 (qS [qq 4 (.mov (.c (.sl .nil [])))]
 (qS [qq 5 (.newVec 2688321)]
 (qT (qS [qm 8 0,qn 9 8,qc 10 0]
 (.block 0 (.loop (qS [qu 11 .lss [] 10 9]
 (qT (.cond (.t 11) .skip (.exit 0))
 (qT (.block 1 (qS [qm 12 10,qi 13 3 8 10,qL 14 3 13,qq 7 (.alloc 2688451 (.agg [.bool false,.int .i64 0,.sl .nil []])),qm 6 12,qs 3 7 14]
 (qS [qm 15 1,qL 16 3 7,qk 17 44 [15,16]]
 (.cond (.t 17) (.ops [qm 18 5,qm 19 6,qq 20 (.bsl 1 [.t 19]),qq 21 (.append 1 8 3 (.t 18) (.t 20)),qm 5 21]) .skip))))
 (.ops [qv 22 .add [] 10 1,qm 10 22])))))))
 (.seq (.ops [qm 23 5,qm 4 23]) .ret))))
def zml:List RVar:=[.tmp 4]
def zmm:Nat:=24
theorem zmn:zj PG 42 zmm zml zmk=true:=by kernel_rfl
theorem zbT (facts l:List Lit)(hf:facts.length≤1000000)(hl:l.length≤140737488355328)(hof:∀ x∈facts,AtOk x.at_)(hol:∀ x∈l,AtOk x.at_):Fc PG 42 [.sl .p (facts.map zY),.sl .p (l.map zY)] (.sl .p ((yL facts l).map zk)):=by
 refine Fn.step zf zmn ?_
 repeat (first|refine zo rfl ?_|refine i_s rfl ?_|refine sw ?_|refine zem rfl ?_)
 refine ye facts.length (fun k=>[(0,.sl .p (facts.map zY)),(1,.sl .p (l.map zY)),(5,.sl (.own 2688321) ((kC (xi facts l) k).map zk)),(8,.sl .p (facts.map zY)),(9,.int .i64 facts.length),(10,.int .i64 k)]) (fun k=>[(2688321,.vec (kC (xi facts l) k).length)]) (fun _=>True) trivial ft fun k hk _=>?_
 have hkl:=qQ (xi facts l) k
 by_cases hlt:k < facts.length
 · obtain ⟨x,hx⟩:=zh hlt
   have hH:=kE l x hl hol (hof x (zm hx))
   have hin:xi facts l k=decide (x∈l):=by unfold xi;rw [hx]
   have hs:=zgc (xi facts l) k
   rw [hin] at hs
   by_cases hm:x∈l
   · rw [decide_eq_true hm] at hH hs
     rw [if_pos rfl] at hs
     repeat' (first|refine i_s rfl ?_|refine sw ?_|refine c_t rfl ?_|refine jd rfl rfl ?_|refine zl rfl ?_|refine zi rfl ?_|refine zd rfl (fun h=>?_) (fun h=>?_)|refine sf rfl rfl hH ?_|fail)
     all_goals first
      | (exfalso;clear hH;simp at *;done)
      | (exfalso;clear hH;simp at *;omega)
      | skip
     refine yU (c:=(k:Int)) rfl rfl rfl rfl rfl (by omega) (by omega) ?_
     repeat' (first|refine i_s rfl ?_|refine sw ?_|refine ja rfl rfl ?_|fail)
     refine zK hlt trivial ⟨⟨rfl,rfl,?_,rfl,rfl,rfl,trivial⟩,⟨?_,trivial⟩,rfl⟩
     · rw [hs];rfl
     · rw [hs];simp;rfl
   · rw [decide_eq_false hm] at hH hs
     rw [if_neg (by simp),List.append_nil] at hs
     repeat' (first|refine i_s rfl ?_|refine sw ?_|refine c_f rfl ?_|refine ja rfl rfl ?_|refine jd rfl rfl ?_|refine zl rfl ?_|refine zi rfl ?_|refine zd rfl (fun h=>?_) (fun h=>?_)|refine sf rfl rfl hH ?_|fail)
     all_goals first
      | (exfalso;clear hH;simp at *;done)
      | (exfalso;clear hH;simp at *;omega)
      | skip
     refine zK hlt trivial ⟨⟨rfl,rfl,?_,rfl,rfl,rfl,trivial⟩,⟨?_,trivial⟩,rfl⟩
     · rw [hs];rfl
     · rw [hs];rfl
 · have hge:k=facts.length:=by omega
   subst hge
   repeat' (first|refine i_s rfl ?_|refine sw ?_|refine zd rfl (fun h=>?_) (fun h=>?_))
   all_goals first
    | exact zb ⟨rfl,_,rfl,rfl⟩
    | (exfalso;simp at *;done)
    | (exfalso;simp at *;omega)
end Hm
end
section
namespace Hm
open Go
set_option maxRecDepth 100000
set_option maxHeartbeats 1000000
def zmo:Cmd :=
 (qS [qb 4 false]
 (qT (qS [qm 7 0,qn 8 7,qc 9 0]
 (.block 0 (.loop (qS [qu 10 .lss [] 9 8]
 (qT (.cond (.t 10) .skip (.exit 0))
 (qT (.block 1 (qS [qm 11 9,qi 12 1 7 9,ql 13 1 12,qm 5 11,qm 6 13]
 (qS [qm 14 6,qv 15 .lss [] 14 0,qm 16 15,qg 17 16 false (.mov (.t 6)),qg 18 16 false (.mov (.t 1)),qg 19 16 false (.bin .geq false [] (.t 17) (.t 18)),qq 20 (.pick (.t 16) (.c (.bool true)) (.t 19)),qm 21 20,qg 22 21 false (.mov (.t 5)),qg 23 21 false (.bin .gtr false [] (.t 22) (.c (.int .i64 0))),qg 24 21 false (.mov (.t 23)),qg 25 24 true (.mov (.t 6)),qg 26 24 true (.mov (.t 0)),qg 27 24 true (.mov (.t 5)),qg 28 24 true (.bin .sub false [] (.t 27) (.c (.int .i64 1))),qg 29 24 true (.iaddr 1 (.t 26) (.t 28)),qg 30 24 true (.load false 1 (.t 29)),qg 31 24 true (.bin .leq false [] (.t 25) (.t 30)),qg 32 21 false (.pick (.t 24) (.t 31) (.c (.bool false))),qq 33 (.pick (.t 21) (.c (.bool true)) (.t 32))]
 (.cond (.t 33) (.seq (.ops [qb 4 false]) .ret) .skip))))
 (.ops [qv 34 .add [] 9 1,qm 9 34])))))))
 (.seq (.ops [qb 4 true]) .ret)))
def zmp:List RVar:=[.tmp 4]
def zmq:Nat:=35
theorem zmr:zj PG 45 zmq zmp zmo=true:=by kernel_rfl
theorem wM (l:List Int)(n:Int)(hl:l.length≤140737488355328):Fc PG 45 [.sl .p (l.map zk),.int .i64 n] (.bool (yy n l)):=by
 refine Fn.step zf zmr ?_
 repeat (first|refine zo rfl ?_|refine i_s rfl ?_|refine sw ?_)
 refine ye l.length (fun k=>[(0,.sl .p (l.map zk)),(1,.int .i64 n),(7,.sl .p (l.map zk)),(8,.int .i64 l.length),(9,.int .i64 k)]) (fun _=>[]) (fun k=>∀ j,j < k→kB n l j=true) yO ft fun k hk hi=>?_
 repeat (first|refine i_s rfl ?_|refine sw ?_)
 refine zd rfl (fun h=>?_) (fun h=>?_)
 · have hlt:k < l.length:=by simpa using h
   obtain ⟨x,hx⟩:=zh hlt
   clear h
   by_cases h0:k=0
   · have hat:kB n l k=(decide (0≤x) && decide (x < n)):=by subst h0;simp [kB,hx]
     subst h0
     repeat' (first|refine i_s rfl ?_|refine sw ?_|refine yi rfl ?_|refine yw rfl ?_|refine zi0 rfl ?_|refine c_t rfl ?_|refine c_f rfl ?_|refine ja rfl rfl ?_|refine jd rfl rfl ?_|refine i_g rfl (fun h=>?_) (fun h=>?_))
     all_goals first
      | (refine zK hlt (yN hi (by rw [hat];clear hi hat hx;simp at *;try omega)) ft)
      | (refine zb ⟨rfl,_,rfl,congrArg V.bool ?_⟩
         have:kB n l 0=false:=by rw [hat];clear hi hat hx;simp at *;try omega
         simp [yy,zpO hlt this])
      | (exfalso;clear hi hat;simp at *;omega)
   · obtain ⟨y,hy⟩:=zh (l:=l) (k:=k - 1) (by omega)
     have hat:kB n l k=(decide (0≤x) && decide (x < n) && decide (y < x)):=by simp [kB,hx,h0,hy]
     have h1:0 < k:=by omega
     have hy':l[((k:Int) - 1).toNat]? = some y:=by rw [show ((k:Int) - 1).toNat=k - 1 from by omega];exact hy
     repeat' (first|refine i_s rfl ?_|refine sw ?_|refine yi rfl ?_|refine yw rfl ?_|refine zi0 rfl ?_|refine c_t rfl ?_|refine c_f rfl ?_|refine ja rfl rfl ?_|refine jb rfl rfl ?_|refine jd rfl rfl ?_|(refine sp ?_ ?_<;>try intro h)|fail)
     all_goals first
      | (refine zK hlt (yN hi (by rw [hat];clear hi hat hx;simp at *;try omega)) ft)
      | (refine zb ⟨rfl,_,rfl,congrArg V.bool ?_⟩
         have:kB n l k=false:=by rw [hat];clear hi hat hx;simp at *;try omega
         simp [yy,zpO hlt this])
      | (exfalso;clear hi hat;simp at *;omega)
 · have hge:¬ k < l.length:=by simpa using h
   repeat' (first|refine i_s rfl ?_|refine sw ?_|fail)
   exact zb ⟨rfl,_,rfl,congrArg V.bool (by simp [yy];exact zrg fun j hj=>hi j (by omega))⟩
def zgl:Cmd :=
 (qS [qb 2 false]
 (.seq (.ops [qm 3 0,qm 4 0,qu 5 .neq [.i] 3 4,qm 2 5]) .ret))
def zgm:List RVar:=[.tmp 2]
def zgn:Nat:=6
theorem zgo:zj PG 109 zgn zgm zgl=true:=by kernel_rfl
theorem zal (x:Int):Fc PG 109 [.int .i64 x] (.bool false):=by
 refine Fn.step zf zgo ?_
 repeat' (first|refine i_s rfl ?_|refine sw ?_|fail)
 exact zb ⟨rfl,_,rfl,congrArg V.bool (by simp)⟩
theorem zk4 (x:Int):Fc PG 105 [.int .i64 x] (.bool false):=by
 refine Fn.step zf zc3 ?_
 repeat' (first|refine i_s rfl ?_|refine sw ?_|fail)
 exact zb ⟨rfl,_,rfl,congrArg V.bool (by simp)⟩
def zms:Cmd :=
 (qS [qb 4 false]
 (.seq (.ops [qm 5 0,qk 6 105 [5],qm 7 6,qg 8 7 true (.mov (.t 1)),qg 9 7 true (.call .f (.c (.fn 105 [])) [.t 8]),qg 10 7 true (.not (.t 9)),qq 11 (.pick (.t 7) (.t 10) (.c (.bool false))),qm 12 11,qg 13 12 false (.mov (.t 0)),qg 14 12 false (.mov (.t 1)),qg 15 12 false (.bin .lss false [] (.t 13) (.t 14)),qq 16 (.pick (.t 12) (.c (.bool true)) (.t 15)),qm 4 16]) .ret))
def zmt:List RVar:=[.tmp 4]
def zmu:Nat:=17
theorem zmv:zj PG 108 zmu zmt zms=true:=by kernel_rfl
theorem zmw (x y:Int):Fc PG 108 [.int .i64 x,.int .i64 y] (.bool (decide (x < y))):=by
 refine Fn.step zf zmv ?_
 repeat' (first|refine i_s rfl ?_|refine sw ?_|refine yi rfl ?_|refine yw rfl ?_|refine sf rfl rfl (zk4 _) ?_|fail)
 exact zb ⟨rfl,_,rfl,rfl⟩
end Hm
end
section
namespace Hm
open Go
set_option maxRecDepth 100000
set_option maxHeartbeats 4000000
def xP (n:Nat)(q:Nat→Bool):List Bool:=(List.range n).map q
theorem wT (n:Nat)(q:Nat→Bool):(xP n q).length=n:=by simp [xP]
theorem yI {n:Nat}{q:Nat→Bool}{i:Nat} (h:i < n):(xP n q)[i]? = some (q i):=by simp [xP,h]
theorem zeM (n:Nat):List.replicate n (V.bool false)=(xP n fun _=>false).map V.bool:=by
 apply List.ext_getElem?
 intro k
 simp only [xP,List.map_map,List.getElem?_map,List.getElem?_replicate]
 by_cases h:k < n
 · simp [h]
 · simp [h]
theorem qU {n:Nat}{q q':Nat→Bool}{c:Int}{b:Bool} (h0:0≤c)(h1:c < n)(hq:∀ p,p < n→q' p=(q p || (b && decide (c=(p:Int))))):((xP n q).map V.bool).set c.toNat (.bool (q c.toNat || b))=(xP n q').map V.bool:=by
 apply List.ext_getElem?
 intro k
 rw [List.getElem?_set]
 simp only [List.length_map,wT]
 by_cases hk:k < n
 · simp only [List.getElem?_map,yI hk,Option.map_some]
   rw [hq k hk]
   by_cases e:c.toNat=k
   · subst e
     rw [if_pos rfl,if_pos (by omega),decide_eq_true (by omega),Bool.and_true]
   · rw [if_neg e,decide_eq_false (by omega),Bool.and_false,Bool.or_false]
 · have h2:(xP n q')[k]? = none:=List.getElem?_eq_none_iff.2 (by rw [wT];omega)
   have h3:(xP n q)[k]? = none:=List.getElem?_eq_none_iff.2 (by rw [wT];omega)
   rw [if_neg (by omega)]
   simp [h2,h3]
def kF (l:List Lit)(p:Nat):Bool:=l.any fun x=>decide (x.at_.pred=(p:Int))
def xz (l:List Lit)(p:Nat):Bool:=l.any fun x=>x.neg && decide (x.at_.pred=(p:Int))
def qV (l:List At)(p:Nat):Bool:=l.any fun a=>decide (a.pred=(p:Int))
def zcr (l:List Sch)(p:Nat):Bool:=l.any fun s=>qV s.add p || qV s.del p
def zcs (l:List Sch)(p:Nat):Bool:=l.any fun s=>xz s.pre p
theorem vm {α:Type}{l:List α}{k:Nat}{x:α} (h:l[k]? = some x)(p:α→Bool):(l.take (k + 1)).any p=((l.take k).any p || p x):=by
 rw [zz h,List.any_append];simp
def zwS (d:Dom)(p:Nat):Bool:=w9 d (p:Int)
def zxV (d:Dom)(p:Nat):Bool:=ur d (p:Int)
abbrev wN (d:Dom):List Bool:=xP d.preds.length (zwS d)
abbrev vz (d:Dom):List Bool:=xP d.preds.length (zxV d)
abbrev flV (n:Nat)(q:Nat→Bool):List V:=(xP n q).map V.bool
theorem ztD {d:Dom} (hd:DomV d) {x:Lit} (h:x∈d.goal):0≤x.at_.pred∧x.at_.pred < d.preds.length:=(vO ((vj hd.goal).2 _ (List.mem_map_of_mem h))).1
def zjx:Cmd :=
 (qS [qx 1 4928070 6 0,qq 2 (.mov (.c (.sl .nil []))),qq 3 (.mov (.c (.sl .nil [])))]
 (qT (.opsT (.node 3 7 (.leaf [0,1,2,4,5,6,3,8,7,9]) (.leaf [0,1,2,4,5,6,7,3,8,9])) [qf 14 2 1,ql 15 1 14,qn 16 15,qq 17 (.mkSl 4929089 1 1 (.bool false) (.t 16) (.t 16)),qf 18 2 1,ql 19 1 18,qn 20 19,qq 21 (.mkSl 4929345 1 1 (.bool false) (.t 20) (.t 20)),qm 2 17,qm 3 21])
 (qT (qS [qf 22 5 1,ql 23 1 22,qn 24 23,qc 25 0]
 (.block 0 (.loop (qS [qu 26 .lss [] 25 24]
 (qT (.cond (.t 26) .skip (.exit 0))
 (qT (.block 1 (qS [qi 27 3 23 25,qL 28 3 27,qq 5 (.alloc 4928323 (.agg [.bool false,.int .i64 0,.sl .nil []])),qs 3 5 28]
 (qS [qm 29 2,qf 30 1 5,qf 31 0 30,ql 32 1 31,qi 33 1 29 32,.op none none (.store 1 (.t 33) (.c (.bool true)))]
 (.ops [qm 34 3,qf 35 1 5,qf 36 0 35,ql 37 1 36,qm 38 3,qf 39 1 5,qf 40 0 39,ql 41 1 40,qi 42 1 38 41,ql 43 1 42,qm 44 43,qg 45 44 false (.faddr 0 (.t 5)),qg 46 44 false (.load false 1 (.t 45)),qq 47 (.pick (.t 44) (.c (.bool true)) (.t 46)),qi 48 1 34 37,qs 1 48 47]))))
 (.ops [qv 49 .add [] 25 1,qm 25 49])))))))
 (qT (qS [qf 50 3 1,ql 51 1 50,qn 52 51,qc 53 0]
 (.block 2 (.loop (qS [qu 54 .lss [] 53 52]
 (qT (.cond (.t 54) .skip (.exit 2))
 (qT (.block 3 (qS [qi 55 7 51 53,qL 56 7 55,qq 7 (.alloc 4928455 (.agg [.str [],.sl .nil [],.sl .nil [],.sl .nil [],.sl .nil [],.sl .nil [],.int .i64 0])),qs 7 7 56]
 (qT (qS [qf 57 4 7,ql 58 1 57,qf 59 5 7,ql 60 1 59,qq 61 (.bsl 1 [.t 58,.t 60]),qn 62 61,qc 63 0]
 (.block 4 (.loop (qS [qu 64 .lss [] 63 62]
 (qT (.cond (.t 64) .skip (.exit 4))
 (qT (.block 5 (qS [qi 65 1 61 63,ql 66 1 65,qm 9 66]
 (qS [qm 67 9,qn 68 67,qc 69 0]
 (.block 6 (.loop (qS [qu 70 .lss [] 69 68]
 (qT (.cond (.t 70) .skip (.exit 6))
 (qT (.block 7 (qS [qi 71 2 67 69,qL 72 2 71,qq 11 (.alloc 4928706 (.agg [.int .i64 0,.sl .nil []])),qs 2 11 72]
 (.ops [qm 73 2,qf 74 0 11,ql 75 1 74,qi 76 1 73 75,.op none none (.store 1 (.t 76) (.c (.bool true)))])))
 (.ops [qv 77 .add [] 69 1,qm 69 77])))))))))
 (.ops [qv 78 .add [] 63 1,qm 63 78])))))))
 (qS [qf 79 3 7,ql 80 1 79,qn 81 80,qc 82 0]
 (.block 8 (.loop (qS [qu 83 .lss [] 82 81]
 (qT (.cond (.t 83) .skip (.exit 8))
 (qT (.block 9 (qS [qi 84 3 80 82,qL 85 3 84,qq 13 (.alloc 4928835 (.agg [.bool false,.int .i64 0,.sl .nil []])),qs 3 13 85]
 (.ops [qm 86 3,qf 87 1 13,qf 88 0 87,ql 89 1 88,qm 90 3,qf 91 1 13,qf 92 0 91,ql 93 1 92,qi 94 1 90 93,ql 95 1 94,qm 96 95,qg 97 96 false (.faddr 0 (.t 13)),qg 98 96 false (.load false 1 (.t 97)),qq 99 (.pick (.t 96) (.c (.bool true)) (.t 98)),qi 100 1 86 89,qs 1 100 99])))
 (.ops [qv 101 .add [] 82 1,qm 82 101]))))))))))
 (.ops [qv 102 .add [] 53 1,qm 53 102])))))))
 (.seq (.ops [qm 103 2,qm 104 3,qm 2 103,qm 3 104]) .ret)))))
def zjy:List RVar:=[.tmp 2,.tmp 3]
def zjz:Nat:=105
theorem zjA:zj PG 77 zjz zjy zjx=true:=by kernel_rfl
abbrev zgp (d:Dom)(F N:List V)(r:List (Nat × Blk)):List (Nat × Blk):=(4928070,.box (yW d)) :: (4929089,.arr 0 F) :: (4929345,.arr 0 N) :: r
abbrev zmx (n:Nat)(r:List (Nat × V)):List (Nat × V):=(1,.bptr 4928070 0) :: (2,.msl 4929089 0 0 n) :: (3,.msl 4929345 0 0 n) :: r
theorem ztE (d:Dom)(hd:DomV d):Fc PG 77 [yW d] (.tup [.sl .p ((wN d).map V.bool),.sl .p ((vz d).map V.bool)]):=by
 obtain ⟨n,hn⟩:∃ n,n=d.preds.length:=⟨_,rfl⟩
 have hn8:n≤8:=by rw [hn];exact hd.pl
 have hgl:d.goal.length≤8:=by simpa using (vj hd.goal).1
 have hsl:=hd.sl
 refine Fn.step zf zjA ?_
 repeat (first|refine i_s rfl ?_|refine sw ?_|refine zr rfl rfl ?_)
 refine zo1 xx (fun e ρ' σ' g'=>e=.normal∧g' = ()∧wx [] (zmx n []) (zgp d (flV n fun _=>false) (flV n fun _=>false) []) ρ' σ') ?_ ?_
 · repeat' (first|refine zo rfl ?_|refine i_s rfl ?_|refine sw ?_|refine jN ?_ ?_)
   all_goals
    refine zhh rfl rfl rfl (by omega) (by omega) (by omega) (by omega) rfl ?_
    repeat' refine i_s rfl ?_
   all_goals
    refine zhh rfl rfl rfl (by omega) (by omega) (by omega) (by omega) rfl ?_
    repeat' (first|refine i_s rfl ?_|refine sw ?_|fail)
   all_goals
    refine ym ⟨rfl,rfl,⟨rfl,?_,?_,trivial⟩,⟨rfl,?_,?_,trivial⟩,rfl⟩
    · show V.msl _ 0 0 _=_;rw [hn];simp
    · show V.msl _ 0 0 _=_;rw [hn];simp
    · rw [hn];exact congrArg (Blk.arr 0) (zeM d.preds.length)
    · rw [hn];exact congrArg (Blk.arr 0) (zeM d.preds.length)
 rintro _ ρ' σ' g' ⟨rfl,rfl,hf⟩
 refine zbg ?_
 refine zcX _ _ hf ?_
 clear hf
 repeat (first|refine zo rfl ?_|refine i_s rfl ?_|refine sw ?_)
 refine ye d.goal.length (fun k=>zmx n [(23,.sl .p (d.goal.map zY)),(24,.int .i64 d.goal.length),(25,.int .i64 k)]) (fun k=>zgp d (flV n (kF (d.goal.take k))) (flV n (xz (d.goal.take k))) []) (fun _=>True) trivial ft fun k hk _=>?_
 by_cases hlt:k < d.goal.length
 · obtain ⟨x,hx⟩:=zh hlt
   obtain ⟨p0,p1⟩:=ztD hd (zm hx)
   rw [← hn] at p1
   have p2:x.at_.pred.toNat < n:=by omega
   have hF:=qU (n:=n) (q:=kF (d.goal.take k)) (q':=kF (d.goal.take (k + 1))) (b:=true) p0 p1 fun p _=>by
    unfold kF;rw [vm hx,Bool.true_and]
   have hN:=qU (n:=n) (q:=xz (d.goal.take k)) (q':=xz (d.goal.take (k + 1))) (b:=x.neg) p0 p1 fun p _=>by
    unfold xz;rw [vm hx]
   rw [Bool.or_true] at hF
   repeat' (first|refine zo rfl ?_|refine i_s rfl ?_|refine sw ?_|refine jd rfl rfl ?_|refine zl rfl ?_|refine zi rfl ?_|refine zd rfl (fun h=>?_) (fun h=>?_))
   all_goals first
    | (exfalso;simp at *;done)
    | (exfalso;simp at *;omega)
    | skip
   refine yJ rfl rfl rfl rfl p0 p1 rfl ?_
   skip
   refine km (row:=.bool (kF (d.goal.take k) x.at_.pred.toNat)) rfl rfl rfl (by rw [Nat.zero_add,List.getElem?_map,yI p2];rfl) rfl rfl ?_
   repeat (first|refine i_s rfl ?_|refine sw ?_)
   refine yJ rfl rfl rfl rfl p0 p1 rfl ?_
   skip
   refine xB (row:=.bool (xz (d.goal.take k) x.at_.pred.toNat)) rfl rfl rfl (by rw [Nat.zero_add,List.getElem?_map,yI p2];rfl) rfl ?_
   repeat refine i_s rfl ?_
   cases hb:xz (d.goal.take k) x.at_.pred.toNat
   all_goals
    repeat' (first|refine i_s rfl ?_|refine yi rfl ?_|refine yw rfl ?_)
    refine yJ rfl rfl rfl rfl p0 p1 rfl ?_
    skip
    refine km (row:=.bool (xz (d.goal.take k) x.at_.pred.toNat)) rfl rfl rfl (by rw [Nat.zero_add,List.getElem?_map,yI p2];rfl) rfl rfl ?_
    repeat (first|refine i_s rfl ?_|refine sw ?_|refine ja rfl rfl ?_)
    refine zK hlt trivial ⟨⟨rfl,rfl,rfl,rfl,rfl,rfl,trivial⟩,⟨rfl,?_,?_,trivial⟩,rfl⟩
    · show Blk.arr 0 _=_
      rw [Nat.zero_add]
      exact congrArg (Blk.arr 0) hF
    · show Blk.arr 0 _=_
      rw [Nat.zero_add]
      refine congrArg (Blk.arr 0) (Eq.trans ?_ hN)
      rw [hb];first|rfl|(cases x.neg<;>rfl)
 have hge:k=d.goal.length:=by omega
 subst hge
 rw [List.take_length]
 repeat' (first|refine zo rfl ?_|refine i_s rfl ?_|refine sw ?_|refine zd rfl (fun h=>?_) (fun h=>?_))
 all_goals first
  | (exfalso;simp at *;done)
  | (exfalso;simp at *;omega)
  | skip
 refine ye d.schemas.length (fun k=>zmx n [(51,.sl .p (d.schemas.map xF)),(52,.int .i64 d.schemas.length),(53,.int .i64 k)]) (fun k=>zgp d (flV n fun p=>kF d.goal p || zcr (d.schemas.take k) p) (flV n fun p=>xz d.goal p || zcs (d.schemas.take k) p) []) (fun _=>True) trivial ⟨⟨rfl,rfl,rfl,rfl,rfl,rfl,trivial⟩,⟨rfl,?_,?_,trivial⟩,rfl⟩ fun k hk _=>?_
 · show Blk.arr 0 (flV n _)=Blk.arr 0 (flV n _)
   congr 3;funext p;simp [zcr]
 · show Blk.arr 0 (flV n _)=Blk.arr 0 (flV n _)
   congr 3;funext p;simp [zcs]
 by_cases hlt:k < d.schemas.length
 · obtain ⟨s,hs⟩:=zh hlt
   have hv:=(zb6 hd hs).val
   have ha8:=hv.addl
   have hd8:=hv.dell
   have hp8:=hv.prel
   obtain ⟨LL,hLL⟩:∃ LL:List (List At),LL=[s.add,s.del]:=⟨_,rfl⟩
   have hLl:LL.length=2:=by rw [hLL];rfl
   have hLp:∀ l∈LL,l.length≤8∧∀ a∈l,0≤a.pred∧a.pred < n:=fun l hl=>by
    rw [hLL] at hl
    simp only [List.mem_cons,List.not_mem_nil,or_false] at hl
    rw [hn]
    rcases hl with rfl|rfl
    · exact ⟨ha8,fun a h=>(vO (hv.add a h)).1⟩
    · exact ⟨hd8,fun a h=>(vO (hv.del a h)).1⟩
   have hpp:∀ x∈s.pre,0≤x.at_.pred∧x.at_.pred < n:=fun x h=>by rw [hn];exact (vO (hv.pre x h)).1
   have hend1:∀ p,(kF d.goal p || zcr (d.schemas.take (k + 1)) p)=((fun p=>kF d.goal p || zcr (d.schemas.take k) p) p || qV LL.flatten p):=fun p=>by
    show (kF d.goal p || zcr (d.schemas.take (k + 1)) p)=((kF d.goal p || zcr (d.schemas.take k) p) || qV LL.flatten p)
    unfold zcr;rw [vm hs,← Bool.or_assoc,hLL];congr 1;simp [qV]
   have hend2:∀ p,(xz d.goal p || zcs (d.schemas.take (k + 1)) p)=((fun p=>xz d.goal p || zcs (d.schemas.take k) p) p || xz s.pre p):=fun p=>by
    show (xz d.goal p || zcs (d.schemas.take (k + 1)) p)=((xz d.goal p || zcs (d.schemas.take k) p) || xz s.pre p)
    unfold zcs;rw [vm hs,← Bool.or_assoc]
   generalize (fun p=>kF d.goal p || zcr (d.schemas.take k) p)=F0 at *
   generalize (fun p=>xz d.goal p || zcs (d.schemas.take k) p)=N0 at *
   repeat' (first|refine i_s rfl ?_|refine sw ?_|refine jd rfl rfl ?_|refine zl rfl ?_|refine zi rfl ?_|refine zd rfl (fun h=>?_) (fun h=>?_))
   all_goals first
    | (exfalso;simp at *;done)
    | (exfalso;simp at *;omega)
    | skip
   refine ye 2 (fun j=>zmx n [(7,.bptr 4928455 0),(51,.sl .p (d.schemas.map xF)),(52,.int .i64 d.schemas.length),(53,.int .i64 k),(61,.sl .p (LL.map fun l=>.sl .p (l.map atV))),(62,.int .i64 2),(63,.int .i64 j)]) (fun j=>zgp d (flV n fun p=>F0 p || qV (LL.take j).flatten p) (flV n N0) [(4928455,.box (xF s))]) (fun _=>True) trivial ⟨⟨rfl,rfl,rfl,rfl,rfl,rfl,rfl,?_,rfl,rfl,trivial⟩,⟨rfl,?_,rfl,rfl,trivial⟩,rfl⟩ fun j hj _=>?_
   · show V.sl .p [_,_]=_;rw [hLL];rfl
   · show Blk.arr 0 (flV n _)=Blk.arr 0 (flV n _)
     congr 3;funext p;simp [qV]
   by_cases hlj:j < 2
   · obtain ⟨l,hjl⟩:=zh (l:=LL) (k:=j) (by omega)
     obtain ⟨hl8,hlp⟩:=hLp l (zm hjl)
     have hf2:(LL.take (j + 1)).flatten=(LL.take j).flatten ++ l:=by rw [zz hjl,List.flatten_append];simp
     repeat' (first|refine zo rfl ?_|refine i_s rfl ?_|refine sw ?_|refine jd rfl rfl ?_|refine zd rfl (fun h=>?_) (fun h=>?_))
     all_goals first
      | (exfalso;simp at *;done)
      | (exfalso;simp at *;omega)
      | skip
     refine ye l.length (fun i=>zmx n [(7,.bptr 4928455 0),(51,.sl .p (d.schemas.map xF)),(52,.int .i64 d.schemas.length),(53,.int .i64 k),(61,.sl .p (LL.map fun l=>.sl .p (l.map atV))),(62,.int .i64 2),(63,.int .i64 j),(67,.sl .p (l.map atV)),(68,.int .i64 l.length),(69,.int .i64 i)]) (fun i=>zgp d (flV n fun p=>F0 p || qV ((LL.take j).flatten ++ l.take i) p) (flV n N0) [(4928455,.box (xF s))]) (fun _=>True) trivial ⟨⟨rfl,rfl,rfl,rfl,rfl,rfl,rfl,rfl,rfl,rfl,rfl,rfl,rfl,trivial⟩,⟨rfl,?_,rfl,rfl,trivial⟩,rfl⟩ fun i hi _=>?_
     · show Blk.arr 0 (flV n _)=Blk.arr 0 (flV n _)
       congr 3;funext p;simp
     by_cases hli:i < l.length
     · obtain ⟨x,hx⟩:=zh hli
       obtain ⟨p0,p1⟩:=hlp x (zm hx)
       have p2:x.pred.toNat < n:=by omega
       have hF:=qU (n:=n) (q:=fun p=>F0 p || qV ((LL.take j).flatten ++ l.take i) p) (q':=fun p=>F0 p || qV ((LL.take j).flatten ++ l.take (i + 1)) p) (b:=true) p0 p1 fun p _=>by
        simp only [qV,Bool.true_and];rw [zz hx,← List.append_assoc,List.any_append,← Bool.or_assoc];simp
       rw [Bool.or_true] at hF
       repeat' (first|refine i_s rfl ?_|refine sw ?_|refine ja rfl rfl ?_|refine jd rfl rfl ?_|refine zl rfl ?_|refine zi rfl ?_|refine zd rfl (fun h=>?_) (fun h=>?_))
       all_goals first
        | (exfalso;simp at *;done)
        | (exfalso;simp at *;omega)
        | skip
       refine yJ rfl rfl rfl rfl p0 p1 rfl ?_
       skip
       refine km (row:=.bool (F0 x.pred.toNat || qV ((LL.take j).flatten ++ l.take i) x.pred.toNat)) rfl rfl rfl (by rw [Nat.zero_add,List.getElem?_map,yI p2];rfl) rfl rfl ?_
       repeat (first|refine i_s rfl ?_|refine sw ?_|refine ja rfl rfl ?_)
       refine zK hli trivial ⟨⟨rfl,rfl,rfl,rfl,rfl,rfl,rfl,rfl,rfl,rfl,rfl,rfl,rfl,trivial⟩,⟨rfl,?_,rfl,rfl,trivial⟩,rfl⟩
       show Blk.arr 0 _=_
       rw [Nat.zero_add]
       exact congrArg (Blk.arr 0) hF
     have hge:i=l.length:=by omega
     subst hge
     rw [List.take_length]
     repeat' (first|refine i_s rfl ?_|refine sw ?_|refine ja rfl rfl ?_|refine zd rfl (fun h=>?_) (fun h=>?_))
     all_goals first
      | (exfalso;simp at *;done)
      | (exfalso;simp at *;omega)
      | skip
     refine zK hlj trivial ⟨⟨rfl,rfl,rfl,rfl,rfl,rfl,rfl,rfl,rfl,rfl,trivial⟩,⟨rfl,?_,rfl,rfl,trivial⟩,rfl⟩
     rw [hf2];rfl
   have hge:j=2:=by omega
   subst hge
   rw [List.take_of_length_le (by omega)]
   repeat' (first|refine zo rfl ?_|refine i_s rfl ?_|refine sw ?_|refine c_f rfl ?_)
   all_goals first
    | (exfalso;simp at *;done)
    | (exfalso;simp at *;omega)
    | skip
   refine ye s.pre.length (fun i=>zmx n [(51,.sl .p (d.schemas.map xF)),(52,.int .i64 d.schemas.length),(53,.int .i64 k),(80,.sl .p (s.pre.map zY)),(81,.int .i64 s.pre.length),(82,.int .i64 i)]) (fun i=>zgp d (flV n fun p=>F0 p || qV LL.flatten p) (flV n fun p=>N0 p || xz (s.pre.take i) p) []) (fun _=>True) trivial ⟨⟨rfl,rfl,rfl,rfl,rfl,rfl,rfl,rfl,rfl,trivial⟩,⟨rfl,rfl,?_,trivial⟩,rfl⟩ fun i hi _=>?_
   · show Blk.arr 0 (flV n _)=Blk.arr 0 (flV n _)
     congr 3;funext p;simp [xz]
   by_cases hli:i < s.pre.length
   · obtain ⟨x,hx⟩:=zh hli
     obtain ⟨p0,p1⟩:=hpp x (zm hx)
     have p2:x.at_.pred.toNat < n:=by omega
     have hN:=qU (n:=n) (q:=fun p=>N0 p || xz (s.pre.take i) p) (q':=fun p=>N0 p || xz (s.pre.take (i + 1)) p) (b:=x.neg) p0 p1 fun p _=>by
      unfold xz;rw [vm hx,← Bool.or_assoc]
     repeat' (first|refine i_s rfl ?_|refine sw ?_|refine ja rfl rfl ?_|refine jd rfl rfl ?_|refine zl rfl ?_|refine zi rfl ?_|refine zd rfl (fun h=>?_) (fun h=>?_))
     all_goals first
      | (exfalso;simp at *;done)
      | (exfalso;simp at *;omega)
      | skip
     refine yJ rfl rfl rfl rfl p0 p1 rfl ?_
     skip
     refine xB (row:=.bool (N0 x.at_.pred.toNat || xz (s.pre.take i) x.at_.pred.toNat)) rfl rfl rfl (by rw [Nat.zero_add,List.getElem?_map,yI p2];rfl) rfl ?_
     repeat refine i_s rfl ?_
     cases hb:(N0 x.at_.pred.toNat || xz (s.pre.take i) x.at_.pred.toNat)
     all_goals
      repeat' (first|refine i_s rfl ?_|refine yi rfl ?_|refine yw rfl ?_)
      refine yJ rfl rfl rfl rfl p0 p1 rfl ?_
      skip
      refine km (row:=.bool (N0 x.at_.pred.toNat || xz (s.pre.take i) x.at_.pred.toNat)) rfl rfl rfl (by rw [Nat.zero_add,List.getElem?_map,yI p2];rfl) rfl rfl ?_
      repeat (first|refine i_s rfl ?_|refine sw ?_|refine ja rfl rfl ?_)
      refine zK hli trivial ⟨⟨rfl,rfl,rfl,rfl,rfl,rfl,rfl,rfl,rfl,trivial⟩,⟨rfl,rfl,?_,trivial⟩,rfl⟩
      show Blk.arr 0 _=_
      rw [Nat.zero_add]
      refine congrArg (Blk.arr 0) (Eq.trans ?_ hN)
      simp only [hb];first|rfl|(cases x.neg<;>rfl)
   have hge:i=s.pre.length:=by omega
   subst hge
   rw [List.take_length]
   repeat' (first|refine i_s rfl ?_|refine sw ?_|refine ja rfl rfl ?_|refine zd rfl (fun h=>?_) (fun h=>?_))
   all_goals first
    | (exfalso;simp at *;done)
    | (exfalso;simp at *;omega)
    | skip
   refine zK hlt trivial ⟨⟨rfl,rfl,rfl,rfl,rfl,rfl,trivial⟩,⟨rfl,?_,?_,trivial⟩,rfl⟩
   · exact congrArg (fun q=>Blk.arr 0 (flV n q)) (funext fun p=>(hend1 p).symm)
   · exact congrArg (fun q=>Blk.arr 0 (flV n q)) (funext fun p=>(hend2 p).symm)
 have hge:k=d.schemas.length:=by omega
 subst hge
 rw [List.take_length]
 repeat' (first|refine i_s rfl ?_|refine sw ?_|refine zd rfl (fun h=>?_) (fun h=>?_))
 all_goals first
  | (exfalso;simp at *;done)
  | (exfalso;simp at *;omega)
  | skip
 have r1:er (zy (zgp d (flV n fun p=>kF d.goal p || zcr d.schemas p) (flV n fun p=>xz d.goal p || zcs d.schemas p) [])) 5 (.msl 4929089 0 0 n)=.sl .p ((wN d).map V.bool):=by
  rw [zf8 (gen:=0) (rows:=flV n fun p=>kF d.goal p || zcr d.schemas p) (n:=4) rfl,List.drop_zero,List.take_of_length_le (by simp [wT]),hn]
  rfl
 have r2:er (zy (zgp d (flV n fun p=>kF d.goal p || zcr d.schemas p) (flV n fun p=>xz d.goal p || zcs d.schemas p) [])) 5 (.msl 4929345 0 0 n)=.sl .p ((vz d).map V.bool):=by
  rw [zf8 (gen:=0) (rows:=flV n fun p=>xz d.goal p || zcs d.schemas p) (n:=4) rfl,List.drop_zero,List.take_of_length_le (by simp [wT]),hn]
  rfl
 exact zb ⟨rfl,_,rfl,(congr (congrArg (fun a b=>V.tup [a,b]) r1) r2).symm⟩
end Hm
end
section
namespace Hm
open Go
set_option maxRecDepth 100000
set_option maxHeartbeats 1000000
def zmy:Cmd :=
 (qS [qb 2 false]
 (qT (qS [qm 5 0,qq 6 (.len true (.t 5)),qc 7 0]
 (.block 0 (.loop (qS [qu 8 .lss [] 7 6]
 (qT (.cond (.t 8) .skip (.exit 0))
 (qT (.block 1 (qS [qm 9 7,qm 3 9]
 (qS [qm 10 0,qm 11 3,qq 12 (.index (.t 10) (.t 11)),qm 4 12]
 (qS [qm 13 4,qq 14 (.bin .geq false [] (.t 13) (.c (.int .u8 97))),qm 15 14,qg 16 15 true (.mov (.t 4)),qg 17 15 true (.bin .leq false [] (.t 16) (.c (.int .u8 122))),qq 18 (.pick (.t 15) (.t 17) (.c (.bool false))),qm 19 18,qg 20 19 false (.mov (.t 3)),qg 21 19 false (.bin .gtr false [] (.t 20) (.c (.int .i64 0))),qg 22 19 false (.mov (.t 21)),qg 23 22 true (.mov (.t 4)),qg 24 22 true (.bin .geq false [] (.t 23) (.c (.int .u8 48))),qg 25 22 true (.mov (.t 24)),qg 26 25 true (.mov (.t 4)),qg 27 25 true (.bin .leq false [] (.t 26) (.c (.int .u8 57))),qg 28 22 true (.pick (.t 25) (.t 27) (.c (.bool false))),qg 29 22 true (.mov (.t 28)),qg 30 29 false (.mov (.t 4)),qg 31 29 false (.bin .eql false [.i] (.t 30) (.c (.int .u8 45))),qg 32 22 true (.pick (.t 29) (.c (.bool true)) (.t 31)),qg 33 19 false (.pick (.t 22) (.t 32) (.c (.bool false))),qq 34 (.pick (.t 19) (.c (.bool true)) (.t 33)),qq 35 (.not (.t 34))]
 (.cond (.t 35) (.seq (.ops [qb 2 false]) .ret) .skip)))))
 (.ops [qv 36 .add [] 7 1,qm 7 36])))))))
 (.seq (.ops [qm 37 0,qq 38 (.len true (.t 37)),qv 39 .geq [] 38 1,qm 40 39,qg 41 40 true (.mov (.t 0)),qg 42 40 true (.len true (.t 41)),qg 43 40 true (.bin .leq false [] (.t 42) (.c (.int .i64 12))),qq 44 (.pick (.t 40) (.t 43) (.c (.bool false))),qm 2 44]) .ret)))
def zmz:List RVar:=[.tmp 2]
def zmA:Nat:=45
theorem zmB:zj PG 171 zmA zmz zmy=true:=by kernel_rfl
theorem ul (s:List UInt8)(hl:s.length≤140737488355328):Fc PG 171 [.str s] (.bool (wq s)):=by
 refine Fn.step zf zmB ?_
 repeat (first|refine i_s rfl ?_|refine sw ?_)
 refine ye s.length (fun k=>[(0,.str s),(6,.int .i64 s.length),(7,.int .i64 k)]) (fun _=>[]) (fun k=>∀ j,j < k→∀ c,s[j]? = some c→vJ j c=true) yO ft fun k hk hi=>?_
 repeat (first|refine i_s rfl ?_|refine sw ?_)
 refine zd rfl (fun h=>?_) (fun h=>?_)
 · have hlt:k < s.length:=by simpa using h
   obtain ⟨c,hc⟩:=zh hlt
   have next:vJ k c=true→∀ j,j < k + 1→∀ c,s[j]? = some c→vJ j c=true:=fun hn=>yN hi fun c' hc'=>by
    rw [hc] at hc';injection hc' with hc';rw [← hc'];exact hn
   have bad:vJ k c=false→V.bool (wq s)=V.bool false:=fun hn=>by simp [wq,zku hc hn]
   clear hi h
   repeat' (first|refine i_s rfl ?_|refine sw ?_|refine yi rfl ?_|refine yw rfl ?_|refine zi0 rfl ?_|refine c_t rfl ?_|refine c_f rfl ?_|refine ja rfl rfl ?_|refine jf rfl rfl ?_|(refine sp ?_ ?_<;>try intro h)|fail)
   all_goals first
    | refine zK hlt (next (by simp [vJ] at *;omega)) ft
    | refine zb ⟨rfl,_,rfl,bad (by simp [vJ] at *;omega)⟩
 · have hge:¬ k < s.length:=by simpa using h
   have hall:=zlW s k hi (by omega)
   clear hi
   repeat' (first|refine i_s rfl ?_|refine sw ?_|refine yi rfl ?_|refine yw rfl ?_|refine i_g rfl (fun h=>?_) (fun h=>?_))
   all_goals refine zb ⟨rfl,_,rfl,congrArg V.bool ?_⟩
   · have h':=of_decide_eq_true h
     have e:decide (1≤s.length)=true:=decide_eq_true (by omega)
     simp only [wq,hall,e,Bool.true_and]
     exact decide_eq_decide.2 (by omega)
   · have h':=of_decide_eq_false h
     have:decide (1≤s.length)=false:=decide_eq_false (by omega)
     simp [wq,this]
def zcM:Cmd :=
 (qS [qc 4 0]
 (qT (qS [qm 6 0,qn 7 6,qc 8 0]
 (.block 0 (.loop (qS [qu 9 .lss [] 8 7]
 (qT (.cond (.t 9) .skip (.exit 0))
 (qT (.block 1 (qS [qm 10 8,qm 5 10]
 (qS [qm 11 1,qm 12 0,qm 13 5,qi 14 2 12 13,qL 15 2 14,qq 16 (.call .f (.t 11) [.t 15])]
 (.cond (.t 16) (.seq (.ops [qm 17 5,qm 4 17]) .ret) .skip))))
 (.ops [qv 18 .add [] 8 1,qm 8 18])))))))
 (.seq (.ops [qc 4 (-1)]) .ret)))
def zcN:List RVar:=[.tmp 4]
def zcO:Nat:=19
theorem zcP:zj PG 188 zcO zcN zcM=true:=by kernel_rfl
theorem zjB (l:List Typ)(p:Typ→Bool)(fid:Nat)(caps:List V)(hl:l.length≤140737488355328)(he:∀ σ n,caps.map (er σ (n + 1))=caps)(hc:zW [] caps=true)(hp:∀ t∈l,Fc PG fid (tyV t :: caps) (.bool (p t))) :
  Fc PG 188 [.sl .p (l.map tyV),.fn fid caps] (.int .i64 (kp p l)):=by
 refine Fn.step zf zcP ?_
 repeat (first|refine zo rfl ?_|refine i_s rfl ?_|refine sw ?_)
 refine ye l.length (fun k=>[(0,.sl .p (l.map tyV)),(1,.fn fid caps),(7,.int .i64 l.length),(8,.int .i64 k)]) (fun _=>[]) (fun k=>∀ j,j < k→∀ c,l[j]? = some c→p c=false) yO ?_ fun k hk hi=>?_
 · exact ⟨⟨rfl,rfl,rfl,rfl,trivial⟩,trivial,by simp [wY,zX,zt,hc,zF,yT]⟩
 repeat (first|refine i_s rfl ?_|refine sw ?_)
 refine zd rfl (fun h=>?_) (fun h=>?_)
 · have hlt:k < l.length:=by simpa using h
   obtain ⟨c,hget⟩:=zh hlt
   repeat (first|refine i_s rfl ?_|refine sw ?_|refine jd rfl rfl ?_)
   refine i_f rfl (congrArg (tyV c :: ·) (he _ 5)) (hp c (zm hget)) rfl ?_
   repeat' (first|refine i_s rfl ?_|refine sw ?_|refine ja rfl rfl ?_|refine zd rfl (fun h=>?_) (fun h=>?_))
   · refine zb ⟨rfl,_,rfl,congrArg (V.int .i64) (vH hi hget h)⟩
   · refine zK hlt (yN hi fun c' hc'=>?_) ⟨⟨rfl,rfl,rfl,rfl,trivial⟩,trivial,by simp [wY,zX,zt,hc,zF,yT]⟩
     rw [hget] at hc';cases hc';exact h
 · have hge:¬ k < l.length:=by simpa using h
   repeat' (first|refine i_s rfl ?_|refine sw ?_|fail)
   refine zb ⟨rfl,_,rfl,congrArg (V.int .i64) (wR fun j hj=>hi j (by omega))⟩
def zaW:Cmd :=
 (qS [qb 4 false]
 (.seq (.ops [qm 5 0,qm 6 1,qk 7 188 [5,6],qv 8 .geq [] 7 0,qm 4 8]) .ret))
def zaX:List RVar:=[.tmp 4]
def zaY:Nat:=9
theorem zaZ:zj PG 172 zaY zaX zaW=true:=by kernel_rfl
theorem zfs (l:List Typ)(p:Typ→Bool)(fid:Nat)(caps:List V)(hl:l.length≤140737488355328)(he:∀ σ n,caps.map (er σ (n + 1))=caps)(hc:zW [] caps=true)(hp:∀ t∈l,Fc PG fid (tyV t :: caps) (.bool (p t))) :
  Fc PG 172 [.sl .p (l.map tyV),.fn fid caps] (.bool (l.any p)):=by
 refine Fn.step zf zaZ ?_
 repeat (first|refine i_s rfl ?_|refine sw ?_)
 refine i_f rfl (congrArg (fun x=>[V.sl .p (l.map tyV),.fn fid x]) (he _ 4)) (zjB l p fid caps hl he hc hp) rfl ?_
 repeat' (first|refine i_s rfl ?_|refine sw ?_|fail)
 refine zb ⟨rfl,_,rfl,congrArg V.bool (vI p l).symm⟩
def zxW (l:List Typ):Prop:=l.length≤140737488355328∧∀ t∈l,t.name.length≤140737488355328
def zgq:Cmd :=
 (qS [qx 2 11072130 2 0,qb 3 false]
 (.seq (.ops [qf 4 0 2,ql 5 1 4,qf 6 0 1,ql 7 1 6,qu 8 .eql [.s] 5 7,qm 3 8]) .ret))
def zgr:List RVar:=[.tmp 3]
def zgs:Nat:=9
theorem zgt:zj PG 173 zgs zgr zgq=true:=by kernel_rfl
theorem zgu (u t:Typ):Fc PG 173 [tyV u,.cptr .p (tyV t) 0] (.bool (u.name == t.name)):=by
 refine Fn.step zf zgt ?_
 repeat' (first|refine i_s rfl ?_|refine sw ?_|refine zr rfl rfl ?_)
 exact zb ⟨rfl,_,rfl,rfl⟩
theorem zmC {l:List Typ} (h:8 < l.length):yc l=⟨2,-1⟩:=by unfold yc;rw [if_pos h]
theorem zmD {l:List Typ} (h:¬ 8 < l.length) {k:Nat}{f:Flt} (hi:∀ j,j < k→w8 l j=none)(hk:k < l.length)(hf:w8 l k=some f):yc l=f:=by
 unfold yc;rw [if_neg h,wQ hi hk hf];rfl
theorem zod {l:List Typ} (h:¬ 8 < l.length)(hi:∀ j,j < l.length→w8 l j=none):yc l=okF:=by
 unfold yc;rw [if_neg h,wp hi];rfl
def zjC:Cmd :=
 (qS [qq 2 (.alloc 9792130 (.agg [.int .i64 0,.int .i64 0]))]
 (qT (qS [qm 5 0,qn 6 5,qv 7 .gtr [] 6 8]
 (.cond (.t 7) (.seq (.ops [qq 8 (.build [.int .i64 0,.int .i64 0] [(0 ,1 ,.c (.int .i64 2)),(1 ,1 ,.c (.int .i64 (-1)))]),qs 2 2 8]) .ret) .skip))
 (qT (qS [qm 9 0,qn 10 9,qc 11 0]
 (.block 0 (.loop (qS [qu 12 .lss [] 11 10]
 (qT (.cond (.t 12) .skip (.exit 0))
 (qT (.block 1 (qS [qm 13 11,qi 14 2 9 11,qL 15 2 14,qq 4 (.alloc 9792258 (.agg [.str [],.int .i64 0])),qm 3 13,qs 2 4 15]
 (.block 2 (qS [qf 17 0 4,ql 18 1 17,qk 19 171 [18],qq 20 (.not (.t 19)),qm 21 20,qg 22 21 false (.faddr 0 (.t 4)),qg 23 21 false (.load false 1 (.t 22)),qg 24 21 false (.bin .eql false [.s] (.t 23) (.c (.str [111,98,106,101,99,116]))),qq 25 (.pick (.t 21) (.c (.bool true)) (.t 24)),qm 16 25]
 (.cond (.t 16) (.seq (.ops [qm 26 3,qq 27 (.build [.int .i64 0,.int .i64 0] [(0 ,1 ,.c (.int .i64 12)),(1 ,1 ,.t 26)]),qs 2 2 27]) .ret) (qS [qm 29 0,qm 30 3,qq 31 (.slice false 2 (.t 29) none (some (.t 30))),qq 32 (.mkfn 173 [.t 4]),qk 33 172 [31,32],qm 28 33]
 (.cond (.t 28) (.seq (.ops [qm 34 3,qq 35 (.build [.int .i64 0,.int .i64 0] [(0 ,1 ,.c (.int .i64 7)),(1 ,1 ,.t 34)]),qs 2 2 35]) .ret) (qS [qf 37 1 4,ql 38 1 37,qv 39 .lss [] 38 (-1),qm 40 39,qg 41 40 false (.faddr 1 (.t 4)),qg 42 40 false (.load false 1 (.t 41)),qg 43 40 false (.mov (.t 3)),qg 44 40 false (.bin .geq false [] (.t 42) (.t 43)),qq 45 (.pick (.t 40) (.c (.bool true)) (.t 44)),qm 36 45]
 (.cond (.t 36) (.seq (.ops [qm 46 3,qq 47 (.build [.int .i64 0,.int .i64 0] [(0 ,1 ,.c (.int .i64 3)),(1 ,1 ,.t 46)]),qs 2 2 47]) .ret) .skip)))))))))
 (.ops [qv 48 .add [] 11 1,qm 11 48])))))))
 (.seq (.ops [qq 49 (.build [.int .i64 0,.int .i64 0] []),qs 2 2 49]) .ret))))
def zjD:List RVar:=[.cell true 2 2]
def zjE:Nat:=50
theorem zjF:zj PG 153 zjE zjD zjC=true:=by kernel_rfl
theorem zjG (l:List Typ)(ho:zxW l):Fc PG 153 [.sl .p (l.map tyV)] (ftV (yc l)):=by
 obtain ⟨hl,hn⟩:=ho
 refine Fn.step zf zjF ?_
 repeat' (first|refine zo rfl ?_|refine i_s rfl ?_|refine sw ?_|refine zl rfl ?_|refine zi rfl ?_|refine zd rfl (fun h=>?_) (fun h=>?_))
 · exact zb ⟨rfl,_,rfl,yV (zmC (by have:=of_decide_eq_true h;simp at this;omega))⟩
 have h8:¬ 8 < l.length:=by have:=of_decide_eq_false h;simp at this;omega
 clear h
 refine ye l.length (fun k=>[(0,.sl .p (l.map tyV)),(2,.bptr 9792130 0),(9,.sl .p (l.map tyV)),(10,.int .i64 l.length),(11,.int .i64 k)]) (fun _=>[(9792130,.box (ftV okF))]) (fun k=>∀ j,j < k→w8 l j=none) yO ft fun k hk hi=>?_
 repeat (first|refine i_s rfl ?_|refine sw ?_)
 refine zd rfl (fun h=>?_) (fun h=>?_)
 · have hlt:k < l.length:=by simpa using h
   obtain ⟨t,ht⟩:=zh hlt
   have hnt:=hn t (zm ht)
   have hbad:w8 l k=if wq t.name=false∨t.name=zlX then some ⟨12,k⟩ else if (l.take k).any (fun u=>u.name == t.name)=true then some ⟨7,k⟩
    else if t.parent < -1∨t.parent ≥ k then some ⟨3,k⟩ else none:=by simp [w8,ht]
   clear h
   have hC:=zfs (l.take k) (fun u=>u.name == t.name) 173 [.cptr .p (tyV t) 0] (by simp;omega) (fun _ _=>rfl) rfl (fun u _=>zgu u t)
   repeat' (first|refine i_s rfl ?_|refine sw ?_|refine yi rfl ?_|refine yw rfl ?_|refine c_t rfl ?_|refine ja rfl rfl ?_|refine jd rfl rfl ?_|refine jh rfl rfl ?_|refine zl rfl ?_|refine zi rfl ?_|(refine sp ?_ ?_<;>try intro h)|refine sf rfl rfl (ul _ hnt) ?_|refine sf rfl rfl hC ?_|fail)
   all_goals clear hC hn ht hk
   all_goals first
    | refine zb ⟨rfl,_,rfl,yV (zmD h8 hi hlt ?_)⟩;clear hi
    | refine zK hlt (yN hi ?_) ft;clear hi
   all_goals rw [hbad];clear hbad
   all_goals generalize (l.take k).any _=bb at *
   all_goals grind [zlX]
 · have hge:¬ k < l.length:=by simpa using h
   repeat' (first|refine i_s rfl ?_|refine sw ?_|refine zl rfl ?_)
   exact zb ⟨rfl,_,rfl,yV (zod h8 fun j hj=>hi j (by omega))⟩
def zbH:Cmd :=
 (qS [qc 4 0]
 (qT (qS [qm 6 0,qn 7 6,qc 8 0]
 (.block 0 (.loop (qS [qu 9 .lss [] 8 7]
 (qT (.cond (.t 9) .skip (.exit 0))
 (qT (.block 1 (qS [qm 10 8,qm 5 10]
 (qS [qm 11 1,qm 12 0,qm 13 5,qi 14 2 12 13,qL 15 2 14,qq 16 (.call .f (.t 11) [.t 15])]
 (.cond (.t 16) (.seq (.ops [qm 17 5,qm 4 17]) .ret) .skip))))
 (.ops [qv 18 .add [] 8 1,qm 8 18])))))))
 (.seq (.ops [qc 4 (-1)]) .ret)))
def zbI:List RVar:=[.tmp 4]
def zbJ:Nat:=19
theorem zbK:zj PG 189 zbJ zbI zbH=true:=by kernel_rfl
theorem zgv (l:List Obj)(p:Obj→Bool)(fid:Nat)(caps:List V)(hl:l.length≤140737488355328)(he:∀ σ n,caps.map (er σ (n + 1))=caps)(hc:zW [] caps=true)(hp:∀ t∈l,Fc PG fid (obV t :: caps) (.bool (p t))) :
  Fc PG 189 [.sl .p (l.map obV),.fn fid caps] (.int .i64 (kp p l)):=by
 refine Fn.step zf zbK ?_
 repeat (first|refine zo rfl ?_|refine i_s rfl ?_|refine sw ?_)
 refine ye l.length (fun k=>[(0,.sl .p (l.map obV)),(1,.fn fid caps),(7,.int .i64 l.length),(8,.int .i64 k)]) (fun _=>[]) (fun k=>∀ j,j < k→∀ c,l[j]? = some c→p c=false) yO ?_ fun k hk hi=>?_
 · exact ⟨⟨rfl,rfl,rfl,rfl,trivial⟩,trivial,by simp [wY,zX,zt,hc,zF,yT]⟩
 repeat (first|refine i_s rfl ?_|refine sw ?_)
 refine zd rfl (fun h=>?_) (fun h=>?_)
 · have hlt:k < l.length:=by simpa using h
   obtain ⟨c,hget⟩:=zh hlt
   repeat (first|refine i_s rfl ?_|refine sw ?_|refine jd rfl rfl ?_)
   refine i_f rfl (congrArg (obV c :: ·) (he _ 5)) (hp c (zm hget)) rfl ?_
   repeat' (first|refine i_s rfl ?_|refine sw ?_|refine ja rfl rfl ?_|refine zd rfl (fun h=>?_) (fun h=>?_))
   · refine zb ⟨rfl,_,rfl,congrArg (V.int .i64) (vH hi hget h)⟩
   · refine zK hlt (yN hi fun c' hc'=>?_) ⟨⟨rfl,rfl,rfl,rfl,trivial⟩,trivial,by simp [wY,zX,zt,hc,zF,yT]⟩
     rw [hget] at hc';cases hc';exact h
 · have hge:¬ k < l.length:=by simpa using h
   repeat' (first|refine i_s rfl ?_|refine sw ?_|fail)
   refine zb ⟨rfl,_,rfl,congrArg (V.int .i64) (wR fun j hj=>hi j (by omega))⟩
def qW:Cmd :=
 (qS [qb 4 false]
 (.seq (.ops [qm 5 0,qm 6 1,qk 7 189 [5,6],qv 8 .geq [] 7 0,qm 4 8]) .ret))
def qX:List RVar:=[.tmp 4]
def qY:Nat:=9
theorem qZ:zj PG 174 qY qX qW=true:=by kernel_rfl
theorem zdR (l:List Obj)(p:Obj→Bool)(fid:Nat)(caps:List V)(hl:l.length≤140737488355328)(he:∀ σ n,caps.map (er σ (n + 1))=caps)(hc:zW [] caps=true)(hp:∀ t∈l,Fc PG fid (obV t :: caps) (.bool (p t))) :
  Fc PG 174 [.sl .p (l.map obV),.fn fid caps] (.bool (l.any p)):=by
 refine Fn.step zf qZ ?_
 repeat (first|refine i_s rfl ?_|refine sw ?_)
 refine i_f rfl (congrArg (fun x=>[V.sl .p (l.map obV),.fn fid x]) (he _ 4)) (zgv l p fid caps hl he hc hp) rfl ?_
 repeat' (first|refine i_s rfl ?_|refine sw ?_|fail)
 refine zb ⟨rfl,_,rfl,congrArg V.bool (vI p l).symm⟩
theorem zk5 (l:List Typ):(yc l).code=0↔yc l=okF:=by
 refine ⟨fun h=>?_,fun h=>by rw [h];rfl⟩
 unfold yc at h ⊢
 split at h
 · cases h
 · rename_i h8
   rw [if_neg h8]
   have:=xE (bad:=w8 l) (fun o=>∀ f,o=some f→f.code≠0) (by simp) (fun i=>zeo l i) l.length 0
   cases hs:y0 (w8 l) 0 l.length with
   | none=>rfl
   | some f=>rw [hs] at h;exact absurd h (this f hs)
def zxX (l:List Obj):Prop:=l.length≤140737488355328∧∀ t∈l,t.name.length≤140737488355328
def zhQ:Cmd :=
 (qS [qx 2 11200130 2 0,qb 3 false]
 (.seq (.ops [qf 4 0 2,ql 5 1 4,qf 6 0 1,ql 7 1 6,qu 8 .eql [.s] 5 7,qm 3 8]) .ret))
def zhR:List RVar:=[.tmp 3]
def zhS:Nat:=9
theorem zhT:zj PG 175 zhS zhR zhQ=true:=by kernel_rfl
theorem zhU (u t:Obj):Fc PG 175 [obV u,.cptr .p (obV t) 0] (.bool (u.name == t.name)):=by
 refine Fn.step zf zhT ?_
 repeat' (first|refine i_s rfl ?_|refine sw ?_|refine zr rfl rfl ?_)
 exact zb ⟨rfl,_,rfl,rfl⟩
theorem zjH {n:Nat}{l:List Obj} (h:8 < l.length):zH n l=⟨2,-3⟩:=by unfold zH;rw [if_pos h]
theorem zjI {n:Nat}{l:List Obj} (h:¬ 8 < l.length) {k:Nat}{f:Flt} (hi:∀ j,j < k→xI n l j=none)(hk:k < l.length)(hf:xI n l k=some f):zH n l=f:=by
 unfold zH;rw [if_neg h,wQ hi hk hf];rfl
theorem zk6 {n:Nat}{l:List Obj} (h:¬ 8 < l.length)(hi:∀ j,j < l.length→xI n l j=none):zH n l=okF:=by
 unfold zH;rw [if_neg h,wp hi];rfl
def zk7:Cmd :=
 (qS [qq 4 (.alloc 9856258 (.agg [.int .i64 0,.int .i64 0]))]
 (qT (qS [qm 8 1,qn 9 8,qv 10 .gtr [] 9 8]
 (.cond (.t 10) (.seq (.ops [qq 11 (.build [.int .i64 0,.int .i64 0] [(0 ,1 ,.c (.int .i64 2)),(1 ,1 ,.c (.int .i64 (-3)))]),qs 2 4 11]) .ret) .skip))
 (qT (qS [qm 12 1,qn 13 12,qc 14 0]
 (.block 0 (.loop (qS [qu 15 .lss [] 14 13]
 (qT (.cond (.t 15) .skip (.exit 0))
 (qT (.block 1 (qS [qm 16 14,qi 17 2 12 14,qL 18 2 17,qq 6 (.alloc 9856386 (.agg [.str [],.int .i64 0])),qm 5 16,qs 2 6 18]
 (qS [qc 7 0]
 (qT (.block 2 (qS [qf 20 0 6,ql 21 1 20,qk 22 171 [21],qq 23 (.not (.t 22)),qm 19 23]
 (.cond (.t 19) (.ops [qc 7 12]) (qS [qm 25 1,qm 26 5,qq 27 (.slice false 2 (.t 25) none (some (.t 26))),qq 28 (.mkfn 175 [.t 6]),qk 29 174 [27,28],qm 24 29]
 (.cond (.t 24) (.ops [qc 7 7]) (qS [qf 31 1 6,ql 32 1 31,qv 33 .lss [] 32 (-1),qm 34 33,qg 35 34 false (.faddr 1 (.t 6)),qg 36 34 false (.load false 1 (.t 35)),qg 37 34 false (.mov (.t 0)),qg 38 34 false (.len false (.t 37)),qg 39 34 false (.bin .geq false [] (.t 36) (.t 38)),qq 40 (.pick (.t 34) (.c (.bool true)) (.t 39)),qm 30 40]
 (.cond (.t 30) (.ops [qc 7 3]) .skip)))))))
 (qS [qm 41 7,qv 42 .neq [.i] 41 0]
 (.cond (.t 42) (.seq (.ops [qm 43 7,qm 44 5,qq 45 (.bin .sub false [] (.c (.int .i64 (-10))) (.t 44)),qq 46 (.build [.int .i64 0,.int .i64 0] [(0 ,1 ,.t 43),(1 ,1 ,.t 45)]),qs 2 4 46]) .ret) .skip))))))
 (.ops [qv 47 .add [] 14 1,qm 14 47])))))))
 (.seq (.ops [qq 48 (.build [.int .i64 0,.int .i64 0] []),qs 2 4 48]) .ret))))
def zk8:List RVar:=[.cell true 2 4]
def zk9:Nat:=49
theorem zla:zj PG 154 zk9 zk8 zk7=true:=by kernel_rfl
theorem zlb (ts:List Typ)(hts:ts.length≤140737488355328)(l:List Obj)(ho:zxX l):Fc PG 154 [.sl .p (ts.map tyV),.sl .p (l.map obV)] (ftV (zH ts.length l)):=by
 obtain ⟨hl,hn⟩:=ho
 refine Fn.step zf zla ?_
 repeat' (first|refine zo rfl ?_|refine i_s rfl ?_|refine sw ?_|refine zl rfl ?_|refine zi rfl ?_|refine zd rfl (fun h=>?_) (fun h=>?_))
 · exact zb ⟨rfl,_,rfl,yV (zjH (by have:=of_decide_eq_true h;simp at this;omega))⟩
 have h8:¬ 8 < l.length:=by have:=of_decide_eq_false h;simp at this;omega
 clear h
 refine ye l.length (fun k=>[(0,.sl .p (ts.map tyV)),(1,.sl .p (l.map obV)),(4,.bptr 9856258 0),(12,.sl .p (l.map obV)),(13,.int .i64 l.length),(14,.int .i64 k)]) (fun _=>[(9856258,.box (ftV okF))]) (fun k=>∀ j,j < k→xI ts.length l j=none) yO ft fun k hk hi=>?_
 repeat (first|refine i_s rfl ?_|refine sw ?_)
 refine zd rfl (fun h=>?_) (fun h=>?_)
 · have hlt:k < l.length:=by simpa using h
   obtain ⟨t,ht⟩:=zh hlt
   have hnt:=hn t (zm ht)
   have hbad:xI ts.length l k=if wq t.name=false then some ⟨12,-10 - k⟩ else if (l.take k).any (fun u=>u.name == t.name)=true then some ⟨7,-10 - k⟩
    else if t.type < -1∨t.type ≥ ts.length then some ⟨3,-10 - k⟩ else none:=by simp [xI,ht]
   clear h
   have hC:=zdR (l.take k) (fun u=>u.name == t.name) 175 [.cptr .p (obV t) 0] (by simp;omega) (fun _ _=>rfl) rfl (fun u _=>zhU u t)
   repeat' (first|refine zo rfl ?_|refine i_s rfl ?_|refine sw ?_|refine yi rfl ?_|refine yw rfl ?_|refine c_t rfl ?_|refine c_f rfl ?_|refine ja rfl rfl ?_|refine jb rfl rfl ?_|refine jd rfl rfl ?_|refine jh rfl rfl ?_|refine zl rfl ?_|refine zi rfl ?_|(refine sp ?_ ?_<;>try intro h)|refine sf rfl rfl (ul _ hnt) ?_|refine sf rfl rfl hC ?_|fail)
   all_goals clear hC hn ht hk
   all_goals first
    | refine zb ⟨rfl,_,rfl,yV (zjI h8 hi hlt ?_)⟩;clear hi
    | refine zK hlt (yN hi ?_) ft;clear hi
   all_goals rw [hbad];clear hbad
   all_goals generalize (l.take k).any _=bb at *
   all_goals try simp only [List.length_map] at *
   all_goals grind
 · have hge:¬ k < l.length:=by simpa using h
   repeat' (first|refine i_s rfl ?_|refine sw ?_|refine zl rfl ?_)
   exact zb ⟨rfl,_,rfl,yV (zk6 h8 fun j hj=>hi j (by omega))⟩
def zjJ (l:List Typ)(os:List Obj)(t:Int)(k:Nat):List Int:=((List.range k).filter fun i=>match os[i]? with
 | some o=>vK l o.type t
 | none=>false).map Int.ofNat
theorem zc5 {l:List Typ}{os:List Obj}{t:Int}{k:Nat}{o:Obj} (ho:os[k]? = some o):zjJ l os t (k + 1)=zjJ l os t k ++ (if vK l o.type t=true then [(k:Int)] else []):=by
 unfold zjJ
 rw [List.range_succ,List.filter_append,List.map_append]
 congr 1
 simp only [List.filter,ho]
 split<;>simp_all
theorem zuP {l:List Typ}{os:List Obj}{t:Int}{k:Nat}:(zjJ l os t k).length≤k:=by
 unfold zjJ
 rw [List.length_map]
 exact Nat.le_trans (List.length_filter_le _ _) (by simp)
def zoe:Cmd :=
 (qS [qx 2 11776129 1 0,qx 3 11776193 1 1,qq 4 (.mov (.c (.nilfn)))]
 (.seq (.ops [qq 5 (.mkfn 194 [.t 3,.t 2]),qm 4 5]) .ret))
def zof:List RVar:=[.tmp 4]
def zog:Nat:=6
theorem zoh:zj PG 184 zog zof zoe=true:=by kernel_rfl
theorem zjK {G:Type}{H:HT G} (l:List Typ)(t:Int)(σ:za)(g:G)(h1:σ 11776129=.zc)(h2:σ 11776193=.zc)(hp:∀ nm,σ nm≠.zc→nm∈[11776129,11776193]) :
  Cc PG H 184 [.sl .p (l.map tyV),.int .i64 t] [11776129,11776193] σ g fun r σ' g'=>r=.fn 194 [.bptr 11776193 0,.bptr 11776129 0]∧σ' = zy [(11776129,.box (.sl .p (l.map tyV))),(11776193,.box (.int .i64 t))]∧g' = g:=by
 refine CT.step _ zf zoh hp fun hM=>?_
 repeat refine sw ?_
 refine zr h1 rfl ?_
 refine zr h2 rfl ?_
 repeat' (first|refine i_s rfl ?_|refine sw ?_|fail)
 exact zb ⟨rfl,_,rfl,rfl,rfl,rfl,zu _ _,rfl⟩
def zlc:Cmd :=
 (qT (.block 0 (.loop (qT (qS [ql 4 1 1,qv 5 .geq [] 4 0]
 (.cond (.t 5) .skip (.exit 0)))
 (qT (.block 1 (qS [qm 11 0,ql 12 1 1,qq 13 (.call .y (.t 11) [.t 12]),qq 14 (.not (.t 13))]
 (.cond (.t 14) .ret .skip)))
 (.ops [ql 6 1 2,ql 7 1 1,qi 8 2 6 7,qf 9 1 8,ql 10 1 9,qs 1 1 10])))))
 (.ops [qm 15 0,qq 16 (.call .y (.t 15) [.c (.int .i64 (-1))])]))
def zld:List RVar:=[]
def zle:Nat:=17
theorem zlf:zj PG 194 zle zld zlc=true:=by kernel_rfl
theorem zgw {G:Type}{H:HT G} (l:List Typ)(hv:wi l)(t0:Int)(h00:-1≤t0)(h01:t0 < l.length)(g0:G)(K:G→Prop)(hy0:YL H ((xc l t0).map fun n=>[V.int .i64 n]) g0 K) :
  Cc PG H 194 [.rnd,.bptr 11776193 0,.bptr 11776129 0] [11776129,11776193] (zy [(11776129,.box (.sl .p (l.map tyV))),(11776193,.box (.int .i64 t0))]) g0
   fun _ σ' g'=>(∃ t':Int,σ' = zy [(11776129,.box (.sl .p (l.map tyV))),(11776193,.box (.int .i64 t'))])∧K g':=by
 refine CT.step _ zf zlf (fun nm hnm=>w7 _ nm hnm) fun hM=>?_
 repeat refine sw ?_
 refine jO (ι:=Int × G) (fun _=>[(0,.rnd),(1,.bptr 11776193 0),(2,.bptr 11776129 0)]) (fun i=>[(11776129,.box (.sl .p (l.map tyV))),(11776193,.box (.int .i64 i.1))]) (fun i=>i.2)
  (fun i=>-1≤i.1∧i.1 < l.length∧YL H ((xc l i.1).map fun n=>[V.int .i64 n]) i.2 K) (fun i=>(i.1 + 1).toNat) (t0,g0) ⟨h00,h01,hy0⟩ ft rfl fun i hi=>?_
 obtain ⟨t,g⟩:=i
 obtain ⟨h0,h1,hy⟩:=hi
 simp only at h0 h1 hy
 clear h00 h01 hy0
 repeat (first|refine i_s rfl ?_|refine sw ?_)
 refine zd rfl (fun h=>?_) (fun h=>?_)
 · have hge:=of_decide_eq_true h
   obtain ⟨x,hx,hp,h2,h3⟩:=zcY hv hge h1
   rw [jF hv hge h1 hx] at hy
   repeat (first|refine i_s rfl ?_|refine sw ?_)
   refine i_y hM rfl rfl rfl (hM _ _ _ _ (fun u g' hu=>?_) hy)
   rcases hu with ⟨rfl,hu⟩|⟨rfl,hu⟩
   · repeat (first|refine i_s rfl ?_|refine sw ?_|refine c_f rfl ?_|refine jd rfl rfl ?_|refine zl rfl ?_)
     try refine zvd rfl rfl hge hx rfl ?_
     skip
     exact kl ⟨(x.parent,g'),⟨h2,by simp only;omega,hu⟩,ft,rfl,by simp only;omega⟩
   · repeat (first|refine i_s rfl ?_|refine sw ?_|refine c_t rfl ?_)
     exact zb ⟨rfl,_,rfl,rfl,rfl,⟨t,zu _ _⟩,hu⟩
 · have hlt:t < 0:=by have:=of_decide_eq_false h;omega
   rw [zbh hlt] at hy
   repeat (first|refine i_s rfl ?_|refine sw ?_)
   refine i_y hM rfl rfl rfl (hM _ _ _ _ (fun u g' hu=>?_) hy)
   repeat refine sw ?_
   refine ym ⟨rfl,_,rfl,rfl,rfl,⟨t,zu _ _⟩,?_⟩
   rcases hu with ⟨_,hu⟩|⟨_,hu⟩<;>exact hu
def zsh:Cmd :=
 (qS [qx 5 10176321 1 2,qq 6 (.alloc 10176385 (.bool false))]
 (qT (qS [qm 8 0,qm 9 1,qq 10 (.call (.s [11776129,11776193]) (.c (.fn 184 [])) [.t 8,.t 9])]
 (.block 0 (.rangeF [11776129,11776193] (.t 10) [11] (.ops [qm 7 11]) (.block 1 (qS [qm 12 7,ql 13 1 5,qu 14 .eql [.i] 12 13]
 (.cond (.t 14) (.seq (.ops [.op none none (.store 1 (.t 6) (.c (.bool true)))]) .ret) .skip))))))
 (.seq (.ops [.op none none (.store 1 (.t 6) (.c (.bool false)))]) .ret)))
def zsi:List RVar:=[.cell false 1 6]
def zsj:Nat:=15
theorem zsk:zj PG 159 zsj zsi zsh=true:=by kernel_rfl
theorem zlg (l:List Typ)(hv:wi l)(a b:Int)(h0:-1≤a)(h1:a < l.length):Fc PG 159 [.sl .p (l.map tyV),.int .i64 a,.int .i64 b] (.bool (vK l a b)):=by
 refine Fn.step zf zsk ?_
 repeat (first|refine i_s rfl ?_|refine sw ?_|refine zi rfl ?_|refine zr rfl rfl ?_)
 refine i_c rfl rfl rfl (zjK l a _ _ rfl rfl fun nm h=>yC nm h) ?_
 rintro _ _ _ ⟨rfl,rfl,rfl⟩
 repeat refine sw ?_
 refine qw [(5,.bptr 10176321 0),(6,.bptr 10176385 0)] [(11776129,.box (.sl .p (l.map tyV))),(11776193,.box (.int .i64 a)),(10176321,.box (.int .i64 b)),(10176385,.box (.bool false))] [10176321,10176385]
  [(11776129,.box (.sl .p (l.map tyV))),(11776193,.box (.int .i64 a))] [(10176321,.box (.int .i64 b)),(10176385,.box (.bool false))] rfl ft rfl rfl rfl rfl ?_
 refine u3 ?_ (zgw l hv a h0 h1 _
  (fun st=>if vK l a b=true then st=(zy [(10176321,.box (.int .i64 b)),(10176385,.box (.bool true))],(),some .ret) else st=(zy [(10176321,.box (.int .i64 b)),(10176385,.box (.bool false))],(),none))
  (zq4 (fun c=>decide (c=b)) (fun _=>(zy [(10176321,.box (.int .i64 b)),(10176385,.box (.bool true))],(),some .ret)) (RHm xx) (xc l a) ?_ ?_))
 · rintro _ σ' st ⟨⟨t',rfl⟩,hst⟩
   split at hst
   · subst hst
     rename_i hs
     refine ⟨rfl,?_⟩
     exact zb ⟨rfl,_,rfl,by rw [hs];rfl⟩
   · subst hst
     rename_i hs
     refine ⟨rfl,?_⟩
     show WE _ _ _ _ _ .normal _ _ _
     repeat (first|refine sw ?_|refine zl rfl ?_)
     exact zb ⟨rfl,_,rfl,by rw [Bool.not_eq_true] at hs;rw [hs];rfl⟩
 · intro c hc K hk1 hk2
   refine w6 xx rfl ?_
   repeat (first|refine i_s rfl ?_|refine sw ?_)
   refine ym ?_
   show WC _ _ _ _ [] _ _ _ _
   repeat' (first|refine i_s rfl ?_|refine sw ?_|refine zl rfl ?_|refine zd rfl (fun h=>?_) (fun h=>?_))
   · refine zb ?_
     exact zrY rfl rfl (hk1 (by simpa using h))
   · refine ym ?_
     exact ko rfl rfl (hk2 (by simpa using h))
 · unfold vK
   cases hf:(xc l a).find? (fun c=>decide (c=b)) with
   | none =>
    have:¬ b∈xc l a:=fun hm=>by
     have:=List.find?_eq_none.1 hf b hm
     simp at this
    simp [this]
   | some c =>
    have h1:=List.find?_some hf
    have h2:=List.mem_of_find?_eq_some hf
    have:b∈xc l a:=by simp at h1;rw [← h1];exact h2
    simp [this]
def zsl:Cmd :=
 (qS [qq 6 (.mov (.c (.sl .nil [])))]
 (qS [qq 7 (.newVec 7808449)]
 (qT (qS [qm 10 1,qn 11 10,qc 12 0]
 (.block 0 (.loop (qS [qu 13 .lss [] 12 11]
 (qT (.cond (.t 13) .skip (.exit 0))
 (qT (.block 1 (qS [qm 14 12,qi 15 2 10 12,qL 16 2 15,qq 9 (.alloc 7808578 (.agg [.str [],.int .i64 0])),qm 8 14,qs 2 9 16]
 (qS [qm 17 0,qf 18 1 9,ql 19 1 18,qm 20 2,qk 21 159 [17,19,20]]
 (.cond (.t 21) (.ops [qm 22 7,qm 23 8,qq 24 (.bsl 1 [.t 23]),qq 25 (.append 1 8 3 (.t 22) (.t 24)),qm 7 25]) .skip))))
 (.ops [qv 26 .add [] 12 1,qm 12 26])))))))
 (.seq (.ops [qm 27 7,qm 6 27]) .ret))))
def zsm:List RVar:=[.tmp 6]
def zsn:Nat:=28
theorem zso:zj PG 122 zsn zsm zsl=true:=by kernel_rfl
theorem zeN (l:List Typ)(hv:wi l)(os:List Obj)(ho:os.length≤8)(hr:∀ o∈os,-1≤o.type∧o.type < l.length)(t:Int):Fc PG 122 [.sl .p (l.map tyV),.sl .p (os.map obV),.int .i64 t] (.sl .p ((xd l os t).map zk)):=by
 refine Fn.step zf zso ?_
 repeat (first|refine zo rfl ?_|refine i_s rfl ?_|refine sw ?_|refine zem rfl ?_)
 refine ye os.length (fun k=>[(0,.sl .p (l.map tyV)),(2,.int .i64 t),(7,.sl (.own 7808449) ((zjJ l os t k).map zk)),(10,.sl .p (os.map obV)),(11,.int .i64 os.length),(12,.int .i64 k)]) (fun k=>[(7808449,.vec (zjJ l os t k).length)]) (fun _=>True) trivial ft fun k hk _=>?_
 have hml:=zuP (l:=l) (os:=os) (t:=t) (k:=k)
 repeat (first|refine i_s rfl ?_|refine sw ?_)
 refine zd rfl (fun h=>?_) (fun h=>?_)
 · have hlt:k < os.length:=by simpa using h
   obtain ⟨o,hc⟩:=zh hlt
   have:=hr o (zm hc)
   clear h
   repeat' (first|refine i_s rfl ?_|refine sw ?_|refine ja rfl rfl ?_|refine jd rfl rfl ?_|refine zl rfl ?_|refine zi rfl ?_|refine zd rfl (fun h=>?_) (fun h=>?_)|refine sf rfl rfl (zlg l hv o.type t this.1 this.2) ?_|fail)
   · refine yU rfl rfl rfl rfl rfl (by omega) (by omega) ?_
     repeat' (first|refine i_s rfl ?_|refine sw ?_|refine ja rfl rfl ?_|fail)
     refine zK hlt trivial ⟨⟨rfl,rfl,?_,rfl,rfl,rfl,trivial⟩,⟨?_,trivial⟩,rfl⟩
     · rw [zc5 hc,if_pos h];rfl
     · rw [zc5 hc,if_pos h];simp;rfl
   · refine zK hlt trivial ⟨⟨rfl,rfl,?_,rfl,rfl,rfl,trivial⟩,⟨?_,trivial⟩,rfl⟩
     · rw [zc5 hc,if_neg (by simp [h])];simp;rfl
     · rw [zc5 hc,if_neg (by simp [h])];simp;rfl
 · have hge:¬ k < os.length:=by simpa using h
   have e:k=os.length:=by omega
   subst e
   repeat' (first|refine i_s rfl ?_|refine sw ?_|fail)
   exact zb ⟨rfl,_,rfl,rfl⟩
end Hm
end
section
namespace Hm
open Go
set_option maxRecDepth 100000
set_option maxHeartbeats 4000000
def zjL:Cmd :=
 (qS [qx 2 5056134 6 0,qx 3 5056193 1 1,qq 4 (.mov (.c (.nilfn)))]
 (.seq (.ops [qq 5 (.mkfn 120 [.t 3,.t 2]),qm 4 5]) .ret))
def zjM:List RVar:=[.tmp 4]
def zjN:Nat:=6
theorem zjO:zj PG 79 zjN zjM zjL=true:=by kernel_rfl
theorem uU (d:Dom)(want:List Int):Fc PG 79 [yW d,.sl .p (want.map zk)] (.fn 120 [.cptr .p (.sl .p (want.map zk)) 0,.cptr .p (yW d) 0]):=by
 refine Fn.step zf zjO ?_
 repeat' (first|refine i_s rfl ?_|refine sw ?_|refine zr rfl rfl ?_)
 exact zb ⟨rfl,_,rfl,rfl⟩
abbrev wP (want:List Int):V:=.cptr .p (.sl .p (want.map zk)) 0
abbrev dP (d:Dom):V:=.cptr .p (yW d) 0
abbrev exC (d:Dom)(want:List Int):V:=.fn 121 [wP want,.bptr 7680193 0,dP d,.bptr 7680257 0]
abbrev exL (d:Dom)(want:List Int):List (Nat × Blk):=[(7680193,.box .rnd),(7680257,.box (exC d want))]
abbrev zsp (d:Dom)(want:List Int)(nm:Nat)(b:Blk):List (Nat × Blk):=[(7680193,.box .rnd),(7680257,.box (exC d want)),(nm,b)]
def zc6 (d:Dom)(pre ts:List Int):List (List V):=(yB d ts).map fun a=>[.sl .p ((pre ++ a).map zk)]
theorem zgx (d:Dom)(pre:List Int):zc6 d pre []=[[.sl .p (pre.map zk)]]:=by simp [zc6,yB]
def kG (d:Dom)(pre:List Int)(M r:List Int):List (List V):=M.flatMap fun o=>zc6 d (pre ++ [o]) r
theorem zeO (d:Dom)(pre:List Int)(t:Int)(r:List Int):zc6 d pre (t :: r)=kG d pre (zaN d t) r:=by
 simp only [zc6,kG,yB,List.map_flatMap,List.map_map]
 congr 1
 funext o
 congr 1
 funext a
 simp
theorem zeP (d:Dom)(pre:List Int)(o:Int)(M r:List Int):kG d pre (o :: M) r=zc6 d (pre ++ [o]) r ++ kG d pre M r:=by simp [kG]
def zgy (nm:Nat)(d:Dom)(want:List Int)(n:Nat):Prop:=∀ (G:Type)(H:HT G)(pre r:List Int)(gen:Nat)(g:G)(K:Bool→G→Prop),r.length=n→want=want.take pre.length ++ r→pre.length + n=want.length→YB H (zc6 d pre r) g K →
    Cc PG H 121 [.msl nm gen 0 pre.length,wP want,.bptr 7680193 0,dP d,.bptr 7680257 0] [7680193,7680257,nm] (zy (zsp d want nm (.arr gen (pre.map zk)))) g fun v σ' g' =>
     ∃ b,v=.bool b∧(∃ k,σ' = zy (zsp d want nm k))∧K b g'
theorem zmE {α:Type}{l:List α}{k:Nat}{x:α}{r:List α} (h:l=l.take k ++ x :: r)(hk:k < l.length):l[k]? = some x∧l=l.take (k + 1) ++ r:=by
 have h1:(l.take k).length=k:=by simp;omega
 have h2:l[k]? = some x:=by
  rw [h,List.getElem?_append_right (by omega),h1,Nat.sub_self];rfl
 refine ⟨h2,?_⟩
 rw [zz h2,List.append_assoc]
 exact h
theorem zmF {l os t}{M:List Int} (h:M=xd l os t):M.length≤os.length:=by
 subst h
 unfold xd
 rw [List.length_map]
 exact Nat.le_trans (List.length_filter_le _ _) (by simp)
def zwT:Cmd :=
 (qS [qb 6 false]
 (qT (qS [qm 9 0,qn 10 9,ql 11 1 1,qn 12 11,qu 13 .eql [.i] 10 12]
 (.cond (.t 13) (.seq (.ops [ql 14 1 2,qm 15 0,qk 16 119 [15],qq 17 (.call .y (.t 14) [.t 16]),qm 6 17]) .ret) .skip))
 (qT (qS [qf 18 0 3,ql 19 1 18,qf 20 1 3,ql 21 1 20,ql 22 1 1,qm 23 0,qn 24 23,qi 25 1 22 24,ql 26 1 25,qk 27 122 [19,21,26],qn 28 27,qc 29 0]
 (.block 0 (.loop (qS [qu 30 .lss [] 29 28]
 (qT (.cond (.t 30) .skip (.exit 0))
 (qT (.block 1 (qS [qi 31 1 27 29,ql 32 1 31,qm 8 32]
 (qT (.opsT (.node 0 2 (.leaf [0,1,3,4,2,5,6,7]) (.node 0 5 (.leaf [1,3,4,2,0,5,6,7]) (.leaf [1,3,4,2,5,0,6,7]))) [ql 33 1 4,qm 34 0,qq 35 (.call (.s [7616321]) (.c (.fn 119 [])) [.t 34]),qm 36 8,qq 37 (.bsl 1 [.t 36]),qq 38 (.append 1 8 3 (.t 35) (.t 37)),qq 39 (.call (.s [7680193,7680257,7616321]) (.t 33) [.t 38]),qq 40 (.not (.t 39))])
 (.cond (.t 40) (.seq (.ops [qb 6 false]) .ret) .skip))))
 (.ops [qv 41 .add [] 29 1,qm 29 41])))))))
 (.seq (.ops [qb 6 true]) .ret))))
def zwU:List RVar:=[.tmp 6]
def zwV:Nat:=42
theorem zwW:zj PG 121 zwV zwU zwT=true:=by kernel_rfl
theorem ztF (d : Dom) (hd : DoTy d) (want:List Int)(hw:want.length≤1000)(ih:∀ m,m < want.length→zgy 7616321 d want m)(G:Type)(H:HT G)(g:G)(K:Bool→G→Prop)(hy:YB H (zc6 d [] want) g K) :
  Cc PG H 121 [.sl .nil [],wP want,.bptr 7680193 0,dP d,.bptr 7680257 0] [7680193,7680257] (zy (exL d want)) g fun v σ' g'=>∃ b,v=.bool b∧σ' = zy (exL d want)∧K b g':=by
 generalize hpre:([]:List Int)=pre at hy
 obtain ⟨r,hr⟩:∃ r,r=want:=⟨_,rfl⟩
 rw [← hr] at hy
 have hwr:want=want.take pre.length ++ r:=by rw [← hpre,hr];rfl
 have hn:pre.length + r.length=want.length:=by rw [← hpre,hr];simp
 have ih:∀ m,m < r.length→zgy 7616321 d want m:=by rw [hr];exact ih
 clear hr
 refine CT.step _ zf zwW (fun nm h=>w7 _ nm h) fun hM=>?_
 repeat (first|refine zo rfl ?_|refine i_s rfl ?_|refine sw ?_)
 by_cases hr0:r=[]
 · subst hr0
   rw [zgx] at hy
   have hl:pre.length=want.length:=by simpa using hn
   have hC:=xG pre (by omega)
   subst hpre
   refine c_t (by exact congrArg V.bool (by first|(simp at hl ⊢;done)|(simp at hl ⊢;simp [← hl];done)|(simp at hl ⊢;omega))) ?_
   repeat (first|refine i_s rfl ?_|refine sw ?_|refine sf rfl rfl hC ?_)
   refine i_y hM rfl rfl rfl (hM _ _ _ _ (fun u g' hu=>?_) hy)
   rcases hu with ⟨rfl,hu⟩|⟨rfl,hu⟩
   · repeat (first|refine i_s rfl ?_|refine sw ?_)
     exact zb ⟨rfl,_,rfl,rfl,rfl,true,rfl,zu _ _,hu⟩
   · repeat (first|refine i_s rfl ?_|refine sw ?_)
     exact zb ⟨rfl,_,rfl,rfl,rfl,false,rfl,zu _ _,hu⟩
 · obtain ⟨t, r, rfl⟩ : ∃ t q, r = t :: q:=by
    cases r with
    | nil=>exact absurd rfl hr0
    | cons t q=>exact ⟨t,q,rfl⟩
   have hlt:pre.length < want.length:=by simp only [List.length_cons] at hn;omega
   obtain ⟨ht,hwr2⟩:=zmE hwr hlt
   rw [zeO] at hy
   have hT:=zeN d.types hd.ty d.objects hd.ol hd.o t
   have hMl:=zmF (l:=d.types) (os:=d.objects) (t:=t) rfl
   have hol:=hd.ol
   change YB H (kG d pre (xd d.types d.objects t) r) g K at hy
   generalize xd d.types d.objects t=M at *
   subst hpre
   simp only [List.length_nil] at ht hlt
   refine c_f (by exact congrArg V.bool (by first|(simp;intro e;rw [e] at hlt;simp at hlt;done)|(simp;intro e;omega)|(simp;omega)|(simp [← hn];done)|(simp at hn ⊢;omega))) ?_
   repeat (first|refine zo rfl ?_|refine i_s rfl ?_|refine sw ?_|refine jd rfl rfl ?_|refine sf rfl rfl hT ?_)
   refine jO (ι:=Nat × G) (fun i=>[(0,.sl .nil []),(4,.bptr 7680257 0),(27,.sl .p (M.map zk)),(28,.int .i64 M.length),(29,.int .i64 i.1)]) (fun i=>exL d want) (fun i=>i.2)
    (fun i=>i.1≤M.length∧YB H (kG d [] (M.drop i.1) r) i.2 K) (fun i=>M.length - i.1) (0,g) ⟨Nat.zero_le _,by rw [List.drop_zero];exact hy⟩ (by exact ⟨⟨rfl,rfl,rfl,rfl,rfl,trivial⟩,⟨rfl,rfl,trivial⟩,rfl⟩) rfl fun i hi=>?_
   obtain ⟨i,gi⟩:=i
   obtain ⟨hi1,hyi⟩:=hi
   simp only at hi1 hyi
   clear hy hT
   repeat (first|refine i_s rfl ?_|refine sw ?_)
   refine zd rfl (fun h=>?_) (fun h=>?_)
   · have hil:i < M.length:=by simpa using h
     clear h
     obtain ⟨o,ho⟩:=zh hil
     have e:M.drop i=o :: M.drop (i + 1):=by
      rw [List.drop_eq_getElem_cons hil]
      congr 1
      exact (List.getElem?_eq_some_iff.1 ho).2
     rw [e,zeP] at hyi
     have hyb:=jP hM _ _ _ _ hyi
     have hE:=fun gen=>ih r.length (by simp) G H ([] ++ [o]) r gen gi _ rfl (by simpa using hwr2) (by simp only [List.length_append,List.length_singleton,List.length_cons,List.length_nil] at hn ⊢;omega) hyb
     clear hyi
     repeat' (first|refine i_s rfl ?_|refine sw ?_|refine jd rfl rfl ?_|refine jN ?_ ?_)
     all_goals
      refine i_c rfl rfl rfl (zsb _ _ rfl fun nm h=>yC nm h) ?_
      rintro _ _ _ ⟨⟨gen2,rfl,rfl⟩,rfl⟩
      repeat' refine i_s rfl ?_
     all_goals
      refine wJ (l:=[]) [o] rfl rfl rfl rfl rfl (fun c hc=>⟨rfl,rfl⟩) (by simp only [List.length_singleton,List.length_nil];omega) (by simp only [List.length_singleton,List.length_nil];omega) ?_
      repeat' refine i_s rfl ?_
     all_goals
      refine zpe rfl rfl rfl rfl (hE _) ?_
      rintro _ _ _ ⟨b,rfl,⟨k,rfl⟩,hk⟩
      cases b
      · rcases hk with ⟨hk,_⟩|⟨_,hk⟩
        · cases hk
        · repeat (first|refine i_s rfl ?_|refine sw ?_|refine c_t rfl ?_)
          exact zb ⟨rfl,_,rfl,rfl,rfl,false,rfl,zu _ _,hk⟩
      · rcases hk with ⟨_,hk⟩|⟨hk,_⟩
        · repeat (first|refine i_s rfl ?_|refine sw ?_|refine c_f rfl ?_|refine ja rfl rfl ?_)
          exact kl ⟨(i + 1,_),⟨hil,hk⟩,ft,rfl,by simp only;omega⟩
        · cases hk
   · have hge : i = M.length := by have:¬ i < M.length:=by simpa using h
                                   omega
     subst hge
     rw [List.drop_length] at hyi
     repeat (first|refine i_s rfl ?_|refine sw ?_)
     exact zb ⟨rfl,_,rfl,rfl,rfl,true,rfl,zu _ _,hyi⟩
def zwX:Cmd :=
 (.seq (.ops [qb 6 false]) (qT (.frz 0)
 (qT (qS [qm 9 0,qn 10 9,ql 11 1 1,qn 12 11,qu 13 .eql [.i] 10 12]
 (.cond (.t 13) (.seq (.ops [ql 14 1 2,qm 15 0,qk 16 119 [15],qq 17 (.call .y (.t 14) [.t 16]),qm 6 17]) .ret) .skip))
 (qT (qS [qf 18 0 3,ql 19 1 18,qf 20 1 3,ql 21 1 20,ql 22 1 1,qm 23 0,qn 24 23,qi 25 1 22 24,ql 26 1 25,qk 27 122 [19,21,26],qn 28 27,qc 29 0]
 (.block 0 (.loop (qS [qu 30 .lss [] 29 28]
 (qT (.cond (.t 30) .skip (.exit 0))
 (qT (.block 1 (qS [qi 31 1 27 29,ql 32 1 31,qm 8 32]
 (qT (.opsT (.node 0 2 (.leaf [0,1,3,4,2,5,6,7]) (.node 0 5 (.leaf [1,3,4,2,0,5,6,7]) (.leaf [1,3,4,2,5,0,6,7]))) [ql 33 1 4,qm 34 0,qq 35 (.call (.s [7616449]) (.c (.fn 119 [])) [.t 34]),qm 36 8,qq 37 (.bsl 1 [.t 36]),qq 38 (.append 1 8 3 (.t 35) (.t 37)),qq 39 (.call (.s [7680193,7680257,7616449]) (.t 33) [.t 38]),qq 40 (.not (.t 39))])
 (.cond (.t 40) (.seq (.ops [qb 6 false]) .ret) .skip))))
 (.ops [qv 41 .add [] 29 1,qm 29 41])))))))
 (.seq (.ops [qb 6 true]) .ret)))))
def zwY:List RVar:=[.tmp 6]
def zwZ:Nat:=42
theorem zw0:zj PG 121 zwZ zwY zwX=true:=by kernel_rfl
theorem ztG (d : Dom) (hd : DoTy d) (want:List Int)(hw:want.length≤1000)(n:Nat)(ih:∀ m,m < n→zgy 7616449 d want m):zgy 7616321 d want n:=by
 intro G H pre r gen g K hrn hwr hn hy
 subst hrn
 refine CT.step _ zf zw0 (fun nm h=>w7 _ nm h) fun hM=>?_
 repeat (first|refine i_s rfl ?_|refine sw ?_)
 refine zeH rfl rfl rfl (by simp) ?_
 repeat (first|refine zo rfl ?_|refine i_s rfl ?_|refine sw ?_)
 by_cases hr0:r=[]
 · subst hr0
   rw [zgx] at hy
   have hl:pre.length=want.length:=by simpa using hn
   have hC:=xG pre (by omega)
   refine c_t (by exact congrArg V.bool (by rw [hl];simp)) ?_
   repeat (first|refine i_s rfl ?_|refine sw ?_|refine sf rfl rfl hC ?_)
   refine i_y hM rfl rfl rfl (hM _ _ _ _ (fun u g' hu=>?_) hy)
   rcases hu with ⟨rfl,hu⟩|⟨rfl,hu⟩
   · repeat (first|refine i_s rfl ?_|refine sw ?_)
     exact zb ⟨rfl,_,rfl,rfl,rfl,true,rfl,⟨_,zu _ _⟩,hu⟩
   · repeat (first|refine i_s rfl ?_|refine sw ?_)
     exact zb ⟨rfl,_,rfl,rfl,rfl,false,rfl,⟨_,zu _ _⟩,hu⟩
 · obtain ⟨t, r, rfl⟩ : ∃ t q, r = t :: q:=by
    cases r with
    | nil=>exact absurd rfl hr0
    | cons t q=>exact ⟨t,q,rfl⟩
   have hlt:pre.length < want.length:=by simp only [List.length_cons] at hn;omega
   obtain ⟨ht,hwr2⟩:=zmE hwr hlt
   rw [zeO] at hy
   have hT:=zeN d.types hd.ty d.objects hd.ol hd.o t
   have hMl:=zmF (l:=d.types) (os:=d.objects) (t:=t) rfl
   have hol:=hd.ol
   change YB H (kG d pre (xd d.types d.objects t) r) g K at hy
   generalize xd d.types d.objects t=M at *
   refine c_f (by exact congrArg V.bool (by simp;omega)) ?_
   repeat (first|refine zo rfl ?_|refine i_s rfl ?_|refine sw ?_|refine jd rfl rfl ?_|refine sf rfl rfl hT ?_)
   refine jO (ι:=Nat × G) (fun i=>[(0,.sl .p (pre.map zk)),(4,.bptr 7680257 0),(27,.sl .p (M.map zk)),(28,.int .i64 M.length),(29,.int .i64 i.1)]) (fun i=>zsp d want 7616321 .dead) (fun i=>i.2)
    (fun i=>i.1≤M.length∧YB H (kG d pre (M.drop i.1) r) i.2 K) (fun i=>M.length - i.1) (0,g) ⟨Nat.zero_le _,by rw [List.drop_zero];exact hy⟩ ft rfl fun i hi=>?_
   obtain ⟨i,gi⟩:=i
   obtain ⟨hi1,hyi⟩:=hi
   simp only at hi1 hyi
   clear hy hT
   repeat (first|refine i_s rfl ?_|refine sw ?_)
   refine zd rfl (fun h=>?_) (fun h=>?_)
   · have hil:i < M.length:=by simpa using h
     clear h
     obtain ⟨o,ho⟩:=zh hil
     have e:M.drop i=o :: M.drop (i + 1):=by
      rw [List.drop_eq_getElem_cons hil]
      congr 1
      exact (List.getElem?_eq_some_iff.1 ho).2
     rw [e,zeP] at hyi
     have hyb:=jP hM _ _ _ _ hyi
     have hE:=fun gen=>ih r.length (by simp) G H (pre ++ [o]) r gen gi _ rfl (by simpa using hwr2) (by simp only [List.length_append,List.length_singleton,List.length_cons,List.length_nil] at hn ⊢;omega) hyb
     clear hyi
     repeat' (first|refine i_s rfl ?_|refine sw ?_|refine jd rfl rfl ?_|refine jN ?_ ?_)
     all_goals
      refine i_c rfl rfl rfl (ztw pre (by omega) _ _ rfl fun nm h=>yC nm h) ?_
      rintro _ _ _ ⟨⟨gen2,rfl,rfl⟩,rfl⟩
      repeat' refine i_s rfl ?_
     all_goals
      refine wJ (l:=pre) [o] rfl rfl rfl rfl rfl (fun c hc=>⟨rfl,rfl⟩) (by simp only [List.length_singleton];omega) (by simp only [List.length_singleton];omega) ?_
      repeat' refine i_s rfl ?_
     all_goals
      refine zpe rfl rfl rfl rfl (hE _) ?_
      rintro _ _ _ ⟨b,rfl,⟨k,rfl⟩,hk⟩
      cases b
      · rcases hk with ⟨hk,_⟩|⟨_,hk⟩
        · cases hk
        · repeat (first|refine i_s rfl ?_|refine sw ?_|refine c_t rfl ?_)
          exact zb ⟨rfl,_,rfl,rfl,rfl,false,rfl,⟨_,zu _ _⟩,hk⟩
      · rcases hk with ⟨_,hk⟩|⟨hk,_⟩
        · repeat (first|refine i_s rfl ?_|refine sw ?_|refine c_f rfl ?_|refine ja rfl rfl ?_)
          exact kl ⟨(i + 1,_),⟨hil,hk⟩,ft,rfl,by simp only;omega⟩
        · cases hk
   · have hge : i = M.length := by have:¬ i < M.length:=by simpa using h
                                   omega
     subst hge
     rw [List.drop_length] at hyi
     repeat (first|refine i_s rfl ?_|refine sw ?_)
     exact zb ⟨rfl,_,rfl,rfl,rfl,true,rfl,⟨_,zu _ _⟩,hyi⟩
def zw1:Cmd :=
 (.seq (.ops [qb 6 false]) (qT (.frz 0)
 (qT (qS [qm 9 0,qn 10 9,ql 11 1 1,qn 12 11,qu 13 .eql [.i] 10 12]
 (.cond (.t 13) (.seq (.ops [ql 14 1 2,qm 15 0,qk 16 119 [15],qq 17 (.call .y (.t 14) [.t 16]),qm 6 17]) .ret) .skip))
 (qT (qS [qf 18 0 3,ql 19 1 18,qf 20 1 3,ql 21 1 20,ql 22 1 1,qm 23 0,qn 24 23,qi 25 1 22 24,ql 26 1 25,qk 27 122 [19,21,26],qn 28 27,qc 29 0]
 (.block 0 (.loop (qS [qu 30 .lss [] 29 28]
 (qT (.cond (.t 30) .skip (.exit 0))
 (qT (.block 1 (qS [qi 31 1 27 29,ql 32 1 31,qm 8 32]
 (qT (.opsT (.node 0 2 (.leaf [0,1,3,4,2,5,6,7]) (.node 0 5 (.leaf [1,3,4,2,0,5,6,7]) (.leaf [1,3,4,2,5,0,6,7]))) [ql 33 1 4,qm 34 0,qq 35 (.call (.s [7616321]) (.c (.fn 119 [])) [.t 34]),qm 36 8,qq 37 (.bsl 1 [.t 36]),qq 38 (.append 1 8 3 (.t 35) (.t 37)),qq 39 (.call (.s [7680193,7680257,7616321]) (.t 33) [.t 38]),qq 40 (.not (.t 39))])
 (.cond (.t 40) (.seq (.ops [qb 6 false]) .ret) .skip))))
 (.ops [qv 41 .add [] 29 1,qm 29 41])))))))
 (.seq (.ops [qb 6 true]) .ret)))))
def zw2:List RVar:=[.tmp 6]
def zw3:Nat:=42
theorem zw4:zj PG 121 zw3 zw2 zw1=true:=by kernel_rfl
theorem ztH (d : Dom) (hd : DoTy d) (want:List Int)(hw:want.length≤1000)(n:Nat)(ih:∀ m,m < n→zgy 7616321 d want m):zgy 7616449 d want n:=by
 intro G H pre r gen g K hrn hwr hn hy
 subst hrn
 refine CT.step _ zf zw4 (fun nm h=>w7 _ nm h) fun hM=>?_
 repeat (first|refine i_s rfl ?_|refine sw ?_)
 refine zeH rfl rfl rfl (by simp) ?_
 repeat (first|refine zo rfl ?_|refine i_s rfl ?_|refine sw ?_)
 by_cases hr0:r=[]
 · subst hr0
   rw [zgx] at hy
   have hl:pre.length=want.length:=by simpa using hn
   have hC:=xG pre (by omega)
   refine c_t (by exact congrArg V.bool (by rw [hl];simp)) ?_
   repeat (first|refine i_s rfl ?_|refine sw ?_|refine sf rfl rfl hC ?_)
   refine i_y hM rfl rfl rfl (hM _ _ _ _ (fun u g' hu=>?_) hy)
   rcases hu with ⟨rfl,hu⟩|⟨rfl,hu⟩
   · repeat (first|refine i_s rfl ?_|refine sw ?_)
     exact zb ⟨rfl,_,rfl,rfl,rfl,true,rfl,⟨_,zu _ _⟩,hu⟩
   · repeat (first|refine i_s rfl ?_|refine sw ?_)
     exact zb ⟨rfl,_,rfl,rfl,rfl,false,rfl,⟨_,zu _ _⟩,hu⟩
 · obtain ⟨t, r, rfl⟩ : ∃ t q, r = t :: q:=by
    cases r with
    | nil=>exact absurd rfl hr0
    | cons t q=>exact ⟨t,q,rfl⟩
   have hlt:pre.length < want.length:=by simp only [List.length_cons] at hn;omega
   obtain ⟨ht,hwr2⟩:=zmE hwr hlt
   rw [zeO] at hy
   have hT:=zeN d.types hd.ty d.objects hd.ol hd.o t
   have hMl:=zmF (l:=d.types) (os:=d.objects) (t:=t) rfl
   have hol:=hd.ol
   change YB H (kG d pre (xd d.types d.objects t) r) g K at hy
   generalize xd d.types d.objects t=M at *
   refine c_f (by exact congrArg V.bool (by simp;omega)) ?_
   repeat (first|refine zo rfl ?_|refine i_s rfl ?_|refine sw ?_|refine jd rfl rfl ?_|refine sf rfl rfl hT ?_)
   refine jO (ι:=Nat × G) (fun i=>[(0,.sl .p (pre.map zk)),(4,.bptr 7680257 0),(27,.sl .p (M.map zk)),(28,.int .i64 M.length),(29,.int .i64 i.1)]) (fun i=>zsp d want 7616449 .dead) (fun i=>i.2)
    (fun i=>i.1≤M.length∧YB H (kG d pre (M.drop i.1) r) i.2 K) (fun i=>M.length - i.1) (0,g) ⟨Nat.zero_le _,by rw [List.drop_zero];exact hy⟩ ft rfl fun i hi=>?_
   obtain ⟨i,gi⟩:=i
   obtain ⟨hi1,hyi⟩:=hi
   simp only at hi1 hyi
   clear hy hT
   repeat (first|refine i_s rfl ?_|refine sw ?_)
   refine zd rfl (fun h=>?_) (fun h=>?_)
   · have hil:i < M.length:=by simpa using h
     clear h
     obtain ⟨o,ho⟩:=zh hil
     have e:M.drop i=o :: M.drop (i + 1):=by
      rw [List.drop_eq_getElem_cons hil]
      congr 1
      exact (List.getElem?_eq_some_iff.1 ho).2
     rw [e,zeP] at hyi
     have hyb:=jP hM _ _ _ _ hyi
     have hE:=fun gen=>ih r.length (by simp) G H (pre ++ [o]) r gen gi _ rfl (by simpa using hwr2) (by simp only [List.length_append,List.length_singleton,List.length_cons,List.length_nil] at hn ⊢;omega) hyb
     clear hyi
     repeat' (first|refine i_s rfl ?_|refine sw ?_|refine jd rfl rfl ?_|refine jN ?_ ?_)
     all_goals
      refine i_c rfl rfl rfl (ztv pre (by omega) _ _ rfl fun nm h=>yC nm h) ?_
      rintro _ _ _ ⟨⟨gen2,rfl,rfl⟩,rfl⟩
      repeat' refine i_s rfl ?_
     all_goals
      refine wJ (l:=pre) [o] rfl rfl rfl rfl rfl (fun c hc=>⟨rfl,rfl⟩) (by simp only [List.length_singleton];omega) (by simp only [List.length_singleton];omega) ?_
      repeat' refine i_s rfl ?_
     all_goals
      refine zpe rfl rfl rfl rfl (hE _) ?_
      rintro _ _ _ ⟨b,rfl,⟨k,rfl⟩,hk⟩
      cases b
      · rcases hk with ⟨hk,_⟩|⟨_,hk⟩
        · cases hk
        · repeat (first|refine i_s rfl ?_|refine sw ?_|refine c_t rfl ?_)
          exact zb ⟨rfl,_,rfl,rfl,rfl,false,rfl,⟨_,zu _ _⟩,hk⟩
      · rcases hk with ⟨_,hk⟩|⟨hk,_⟩
        · repeat (first|refine i_s rfl ?_|refine sw ?_|refine c_f rfl ?_|refine ja rfl rfl ?_)
          exact kl ⟨(i + 1,_),⟨hil,hk⟩,ft,rfl,by simp only;omega⟩
        · cases hk
   · have hge : i = M.length := by have:¬ i < M.length:=by simpa using h
                                   omega
     subst hge
     rw [List.drop_length] at hyi
     repeat (first|refine i_s rfl ?_|refine sw ?_)
     exact zb ⟨rfl,_,rfl,rfl,rfl,true,rfl,⟨_,zu _ _⟩,hyi⟩
theorem zvZ (d:Dom)(hd:DoTy d)(want:List Int)(hw:want.length≤1000)(n:Nat):zgy 7616321 d want n∧zgy 7616449 d want n:=by
 induction n using Nat.strongRecOn with
 | ind n ih=>exact ⟨ztG d hd want hw n fun m hm=>(ih m hm).2,ztH d hd want hw n fun m hm=>(ih m hm).1⟩
def zgz:Cmd :=
 (qS [qx 3 7680193 1 0]
 (qS [qq 4 (.alloc 7680257 (.nilfn))]
 (qS [qq 5 (.mkfn 121 [.t 1,.t 3,.t 2,.t 4]),qs 1 4 5]
 (.ops [ql 6 1 4,qq 7 (.call (.s [7680193,7680257]) (.t 6) [.c (.sl .nil [])])]))))
def zgA:List RVar:=[]
def zgB:Nat:=8
theorem zgC:zj PG 120 zgB zgA zgz=true:=by kernel_rfl
theorem zct {G:Type}{H:HT G} (d:Dom)(hd:DoTy d)(want:List Int)(hw:want.length≤1000)(g:G)(K:G→Prop)(hy:YL H ((yB d want).map fun a=>[.sl .p (a.map zk)]) g K) :
  Cc PG H 120 [.rnd,wP want,dP d] [] (zy []) g fun _ σ' g'=>σ' = zy []∧K g':=by
 refine CT.step _ zf zgC (fun nm hnm=>w7 _ nm hnm) fun hM=>?_
 have hE:=ztF d hd want hw (fun m _=>(zvZ d hd want hw m).1) G H g (fun _=>K) (zi6 hM _ _ _ hy)
 repeat' (first|refine i_s rfl ?_|refine sw ?_|refine zl rfl ?_|refine zi rfl ?_|refine zr rfl rfl ?_)
 refine zpe rfl rfl rfl rfl hE ?_
 rintro _ _ _ ⟨b,rfl,rfl,hk⟩
 repeat' (first|refine sw ?_|fail)
 exact ym ⟨rfl,_,rfl,rfl,rfl,zu _ _,hk⟩
end Hm
end
section
namespace Hm
open Go
def jI (t:STask)(s:List Int)(op:Int):Option (List Int):=match t.ops[op.toNat]? with
 | some o=>if xl o.pre s=true then some (wC s o.add o.del) else none
 | none=>none
def uy (t:STask):List Int→List Int→List (List Int)
 | _,[]=>[]
 | s, op :: r=>match jI t s op with
   | some s'=>s' :: uy t s' r
   | none=>[]
def zdt (t:STask):List Int→List Int→Option (List Int)
 | s,[]=>some s
 | s, op :: r=>match jI t s op with
   | some s'=>zdt t s' r
   | none=>none
theorem zmG (t:STask):∀ (plan s:List Int),(s :: uy t s plan)[plan.length]? = zdt t s plan
 | [],s=>rfl
 | op :: r,s=>by
  simp only [uy,zdt]
  cases h:jI t s op with
  | none=>simp
  | some s'=>simpa using zmG t r s'
theorem zeQ (t:STask):∀ (plan s:List Int),(uy t s plan).length≤plan.length
 | [],s=>by simp [uy]
 | op :: r,s=>by
  simp only [uy]
  cases h:jI t s op with
  | none=>simp
  | some s'=>have:=zeQ t r s';simp;omega
theorem zsq (t:STask)(plan s:List Int):(uy t s plan).length=plan.length↔(zdt t s plan).isSome=true:=by
 rw [← zmG]
 have:=zeQ t plan s
 constructor
 · intro h
   rw [List.getElem?_eq_getElem (by simp;omega)]
   rfl
 · intro h
   obtain ⟨e,he⟩:=Option.isSome_iff_exists.1 h
   have:=yn he
   simp at this
   omega
def zlh (t:STask)(s plan:List Int):Bool:=match zdt t s plan with
 | some e=>xl t.goal e
 | none=>false
def zhp (t:STask)(op:Int):Int:=match t.ops[op.toNat]? with
 | some o=>o.cost
 | none=>0
def zsr (t:STask):List Int→Int
 | []=>0
 | op :: r=>zhp t op + zsr t r
theorem ztI {t:STask} (hv:SV t) {s s':List Int}{op:Int} (hs:IsSet t.facts s)(h:jI t s op=some s'):IsSet t.facts s':=by
 unfold jI at h
 split at h
 · rename_i o ho
   split at h
   · cases h
     exact uS hs (hv.op o (zm ho)).add
   · cases h
 · cases h
theorem zpX {t:STask} (hv:SV t):∀ (plan s e:List Int),IsSet t.facts s→zdt t s plan=some e→IsSet t.facts e
 | [],s,e,hs,h=>by cases h;exact hs
 | op :: r,s,e,hs,h=>by
  simp only [zdt] at h
  cases h2:jI t s op with
  | none=>rw [h2] at h;cases h
  | some s'=>rw [h2] at h;exact zpX hv r s' e (ztI hv hs h2) h
theorem zpY {t:STask}{s:List Int}{op:Int}{o:SOp} (ho:t.ops[op.toNat]? = some o):jI t s op=if xl o.pre s=true then some (wC s o.add o.del) else none:=by
 unfold jI;rw [ho]
theorem zc7 {d:Dom}{a:Ac} (h:a∈zD d):∃ (i:Nat)(s:Sch)(args:List Int)(n:List Lit),d.schemas[i]? = some s∧args∈yB d s.types∧ws d args s.pre []=some n∧s.diff.any (zbS args)=false ∧
  a=⟨i,args,n,xm (sdA (s.add.map (zL args))) (sdA (s.del.map (zL args))),xn (sdA (s.add.map (zL args))) (sdA (s.del.map (zL args))),s.cost⟩:=by
 unfold zD at h
 obtain ⟨i,_,h⟩:=List.mem_flatMap.1 h
 cases hs:d.schemas[i]? with
 | none=>rw [hs] at h;cases h
 | some s =>
  rw [hs] at h
  obtain ⟨args,h1,h2⟩:=List.mem_filterMap.1 h
  unfold acP at h2
  split at h2
  · cases h2
  · rename_i hd
    cases hn:ws d args s.pre [] with
    | none=>rw [hn] at h2;cases h2
    | some n =>
     rw [hn] at h2
     cases h2
     exact ⟨i,s,args,n,hs,h1,hn,by simpa using hd,rfl⟩
theorem zpZ {d:Dom}{s:Sch} (h:xy d s=0):0≤s.cost∧s.cost≤100:=by
 unfold xy at h
 repeat' split at h
 all_goals first
  | omega
  | (exfalso;simp_all;done)
theorem zv0 {p m:List At}{x:Lit} (h1:x∈xm p m)(h2:x∈xn p m):False:=by
 rw [znG] at h1
 rw [znH] at h2
 rcases h1 with ⟨a1,a2⟩|⟨a1,a2,a3⟩<;>rcases h2 with ⟨b1,b2⟩|⟨b1,b2,b3⟩
 · rw [a1] at b1;cases b1
 · exact b3 a2
 · exact a3 b2
 · rw [a1] at b1;cases b1
theorem vY {facts l:List Lit}{i:Int}:i∈yL facts l↔0≤i∧∃ x,facts[i.toNat]? = some x∧x∈l:=by
 unfold yL
 rw [zeJ]
 unfold xi
 constructor
 · rintro ⟨h0,h1,h2⟩
   refine ⟨h0,?_⟩
   split at h2
   · rename_i x hx;exact ⟨x,hx,by simpa using h2⟩
   · cases h2
 · rintro ⟨h0,x,hx,h2⟩
   refine ⟨h0,by have:=yn hx;omega,?_⟩
   rw [hx];simpa using h2
theorem zss {d:Dom}{facts:List Lit}{i:Int}:i∈kD d facts↔0≤i∧∃ x,facts[i.toNat]? = some x∧vB d x=true:=by
 unfold kD
 rw [zeJ]
 unfold xO
 constructor
 · rintro ⟨h0,h1,h2⟩
   refine ⟨h0,?_⟩
   split at h2
   · rename_i x hx;exact ⟨x,hx,h2⟩
   · cases h2
 · rintro ⟨h0,x,hx,h2⟩
   refine ⟨h0,by have:=yn hx;omega,?_⟩
   rw [hx];exact h2
theorem zp0 (p:Nat→Bool)(k:Nat):IsSet (k:Int) (kC p k):=⟨zmg p k,fun x hx=>by have:=zeJ.1 hx;omega⟩
theorem zeR (facts l:List Lit):IsSet (facts.length:Int) (yL facts l):=zp0 _ _
theorem ztJ {d:Dom} (hd:DoVal d) {facts:List Lit}{acts:List Ac} (hb:uT facts acts=false)(ha:∀ a∈acts,a∈zD d):SV (xZ d facts acts).task:=by
 have hb:=zmi hb
 refine ⟨by simp [xZ],by simp only [xZ];omega,zp0 _ _,zeR _ _,by simp only [xZ,List.length_map];omega,fun o ho=>?_⟩
 simp only [xZ,List.mem_map] at ho
 obtain ⟨a,h1,rfl⟩:=ho
 obtain ⟨i,s,args,n,hs,hl,hn,_,rfl⟩:=zc7 (ha a h1)
 obtain ⟨c0,c1⟩:=zpZ (hd.sc s (zm hs))
 refine ⟨zeR _ _,zeR _ _,zeR _ _,fun x hx hy=>?_,c0,c1⟩
 simp only [zcq] at hx hy
 obtain ⟨_,u,hu,h1⟩:=vY.1 hx
 obtain ⟨_,v,hv,h2⟩:=vY.1 hy
 rw [hu] at hv
 cases hv
 exact zv0 h1 h2
theorem zgD {acts:List Ac}{u:List Bool}{k:Nat}{a:Ac}:a∈vg acts u k↔∃ i,i < k∧u[i]? = some true∧acts[i]? = some a:=by
 unfold vg
 rw [List.mem_filterMap]
 constructor
 · rintro ⟨i,hi,h⟩
   split at h
   · rename_i hu;exact ⟨i,List.mem_range.1 hi,hu,h⟩
   · cases h
 · rintro ⟨i,hi,hu,ha⟩
   exact ⟨i,List.mem_range.2 hi,by rw [if_pos hu];exact ha⟩
theorem zgE {acts:List Ac}{s:RS}{a:Ac} (h:a∈uk acts s):a∈acts:=by
 obtain ⟨i,_,_,hi⟩:=zgD.1 h
 exact zm hi
theorem zoi {α β:Type} (f:α→Option β)(l:List α):(l.filterMap f).length≤l.length:=List.length_filterMap_le f l
theorem zgF (acts:List Ac)(s:RS):(uk acts s).length≤acts.length:=by
 unfold uk vg
 exact Nat.le_trans (zoi _ _) (by simp)
structure REnd (acts:List Ac)(s:RS):Prop where
 len:s.used.length=acts.length
 more:∀ (i:Nat)(a:Ac),acts[i]? = some a→s.used[i]? = some true∨vk a s.hv=false
 add:∀ (i:Nat)(a:Ac),acts[i]? = some a→s.used[i]? = some true→∀ x,x∈a.add∨x∈a.pre→x∈s.hv
def zjP (acts:List Ac)(s:RS):Prop:=s.used.length=acts.length∧∀ (i:Nat)(a:Ac),acts[i]? = some a→s.used[i]? = some true→∀ x,x∈a.add∨x∈a.pre→x∈s.hv
theorem zuQ (acts:List Ac)(s:RS)(i:Nat) {x:Lit} (h:x∈s.hv):x∈(xp acts s i).hv:=by
 unfold xp
 split
 · exact h
 · split
   · exact List.mem_append.2 (.inl h)
   · exact h
theorem zp1 (acts:List Ac)(s:RS) {x:Lit} (h:x∈s.hv):∀ k,x∈(xC acts s k).hv
 | 0=>h
 | k + 1=>by rw [uj];exact zuQ _ _ _ (zp1 acts s h k)
theorem zrh (acts:List Ac) {x:Lit}:∀ (n:Nat)(s:RS),x∈s.hv→x∈(vf acts n s).hv
 | 0,s,h=>h
 | n + 1,s,h=>by
  simp only [vf]
  split
  · exact zrh acts n _ (zp1 acts ⟨s.used,s.hv,false⟩ h _)
  · exact h
theorem ztK {acts:List Ac}{s:RS} (h:zjP acts s)(i:Nat):zjP acts (xp acts s i):=by
 refine ⟨by rw [znI];exact h.1,fun j a ha hu x hx=>?_⟩
 cases hb:acts[i]? with
 | none =>
  have e:xp acts s i=s:=by unfold xp;rw [hb]
  rw [e] at hu ⊢
  exact h.2 j a ha hu x hx
 | some b =>
  by_cases hc:s.used[i]? = some false∧vk b s.hv=true
  · have e:xp acts s i=⟨s.used.set i true,s.hv ++ b.add,true⟩:=by unfold xp;rw [hb];exact if_pos hc
    rw [e] at hu ⊢
    simp only at hu ⊢
    by_cases e:i=j
    · subst e
      rw [ha] at hb
      cases hb
      rcases hx with hx|hx
      · exact List.mem_append.2 (.inr hx)
      · refine List.mem_append.2 (.inl ?_)
        have:=List.all_eq_true.1 hc.2 x hx
        simpa using this
    · rw [List.getElem?_set_ne e] at hu
      exact List.mem_append.2 (.inl (h.2 j a ha hu x hx))
  · have e:xp acts s i=s:=by unfold xp;rw [hb];exact if_neg hc
    rw [e] at hu ⊢
    exact h.2 j a ha hu x hx
theorem znL {acts:List Ac}{s:RS} (h:zjP acts s):∀ k,zjP acts (xC acts s k)
 | 0=>h
 | k + 1=>by rw [uj];exact ztK (znL h k) k
theorem zuR {acts:List Ac}{s:RS} (h:zjP acts s):zjP acts (ve acts s):=znL (s:=⟨s.used,s.hv,false⟩) h _
theorem zst {acts:List Ac}{s:RS}{i:Nat} (h:s.again=true):(xp acts s i).again=true:=by
 unfold xp
 split
 · exact h
 · split
   · rfl
   · exact h
theorem ziK {acts:List Ac}{s:RS}:∀ k,(xC acts s k).again=false→xC acts s k=s∧∀ i,i < k→∀ a,acts[i]? = some a→s.used[i]? = some false→vk a s.hv=false
 | 0,_=>⟨rfl,fun i hi=>by omega⟩
 | k + 1,h=>by
  rw [uj] at h ⊢
  have h0:(xC acts s k).again=false:=by
   cases e:(xC acts s k).again with
   | false=>rfl
   | true=>rw [zst e] at h;cases h
  obtain ⟨h1,h2⟩:=ziK k h0
  rw [h1] at h ⊢
  have hk:∀ a,acts[k]? = some a→s.used[k]? = some false→vk a s.hv=false:=fun a ha hu=>by
   cases e:vk a s.hv with
   | false=>rfl
   | true =>
    unfold xp at h
    rw [ha] at h
    simp only at h
    rw [if_pos ⟨hu,e⟩] at h
    cases h
  refine ⟨?_,fun i hi a ha hu=>?_⟩
  · unfold xp
    split
    · rfl
    · rename_i a ha
      rw [if_neg]
      rintro ⟨hu,hr⟩
      rw [hk a ha hu] at hr
      cases hr
  · by_cases e:i=k
    · subst e;exact hk a ha hu
    · exact h2 i (by omega) a ha hu
theorem zp2 {acts:List Ac}:∀ (n:Nat)(s:RS),zjP acts s→s.again=true→zc s + 1≤n→REnd acts (vf acts n s)
 | 0,s,_,_,h=>by omega
 | n + 1,s,hi,ha,h=>by
  simp only [vf]
  rw [if_pos ha]
  obtain ⟨p1,p2⟩:=jH acts s
  have hp:=zuR hi
  cases e:(ve acts s).again with
  | true=>exact zp2 n _ hp e (by have:=p2 e;omega)
  | false =>
   have e2:vf acts n (ve acts s)=ve acts s:=by cases n<;>simp [vf,e]
   rw [e2]
   refine ⟨hp.1,fun i a hia=>?_,hp.2⟩
   obtain ⟨q1,q2⟩:=ziK (s:=⟨s.used,s.hv,false⟩) acts.length e
   have q1:ve acts s=⟨s.used,s.hv,false⟩:=q1
   rw [q1]
   simp only at q2 ⊢
   have hl:=yn hia
   obtain ⟨b,hb⟩:=zh (l:=s.used) (k:=i) (by rw [hi.1];exact hl)
   cases b with
   | true=>exact .inl hb
   | false=>exact .inr (q2 i hl a hia hb)
theorem zjQ (d:Dom)(acts:List Ac):REnd acts (wL d acts):=by
 refine zp2 _ _ ⟨by simp [rs0],fun i a ha hu=>?_⟩ rfl (Nat.le_refl _)
 simp only [rs0] at hu
 rw [List.getElem?_replicate] at hu
 split at hu<;>cases hu
theorem ztL {d:Dom}{acts:List Ac}{x:Lit} (h1:x∈ya d)(h2:vB d x=true):x∈(wL d acts).hv :=
 zrh acts _ _ (List.mem_filter.2 ⟨h1,h2⟩)
theorem q7 {F l:List Lit}{i:Nat}{x:Lit} (h:F[i]? = some x):(i:Int)∈yL F l↔x∈l:=by
 rw [vY]
 simp only [Int.toNat_natCast,h,Option.some.injEq]
 exact ⟨fun ⟨_,y,e,h2⟩=>e ▸ h2,fun h2=>⟨by omega,x,rfl,h2⟩⟩
theorem zmH {d:Dom}{F:List Lit}{i:Nat}{x:Lit} (h:F[i]? = some x):(i:Int)∈kD d F↔vB d x=true:=by
 rw [zss]
 simp only [Int.toNat_natCast,h,Option.some.injEq]
 exact ⟨fun ⟨_,y,e,h2⟩=>e ▸ h2,fun h2=>⟨by omega,x,rfl,h2⟩⟩
theorem zp3 {d:Dom}{t o:Int}:o∈zaN d t↔0≤o∧∃ ob,d.objects[o.toNat]? = some ob∧vK d.types ob.type t=true:=by
 unfold zaN xd
 simp only [List.mem_map,List.mem_filter,List.mem_range]
 constructor
 · rintro ⟨i,⟨h1,h2⟩,rfl⟩
   refine ⟨by simp,?_⟩
   simp only [Int.ofNat_eq_natCast,Int.toNat_natCast]
   cases ho:d.objects[i]? with
   | none=>rw [ho] at h2;cases h2
   | some ob=>rw [ho] at h2;exact ⟨ob,rfl,h2⟩
 · rintro ⟨h0,ob,h1,h2⟩
   exact ⟨o.toNat,⟨yn h1,by rw [h1];exact h2⟩,by simp;omega⟩
theorem zri {d:Dom}{t o:Int}{ob:Obj} (h0:0≤o)(ho:d.objects[o.toNat]? = some ob)(h:vK d.types ob.type t=true):o∈zaN d t:=zp3.2 ⟨h0,ob,ho,h⟩
theorem zuS {d:Dom} (hd:DoTy d) {t u o:Int} (h:o∈zaN d u)(hs:vK d.types u t=true):o∈zaN d t:=by
 obtain ⟨h0,ob,ho,h1⟩:=zp3.1 h
 exact zri h0 ho (ztj hd.ty (hd.o ob (zm ho)).2 h1 hs)
theorem ztM {d:Dom}{ps args:List Int} (hp:DoTy d)(ht:ps.length≤3∧∀ t∈ps,-1≤t∧t < d.types.length)(ha:args∈yB d ps) {a:At} (h:yF d ps a=0):zL args a∈wb d:=by
 obtain ⟨⟨h0,h1⟩,p,hpr,hlen,harg⟩:=vO h
 refine znt.2 ⟨a.pred.toNat,p,hpr,by simp only [zL];omega,?_⟩
 obtain ⟨hal,hmem⟩:=zb5.1 ha
 refine zb5.2 ⟨by simp [zL,hlen],fun i o t hi ht'=>?_⟩
 simp only [zL,List.getElem?_map] at hi
 cases hx:a.args[i]? with
 | none=>rw [hx] at hi;cases hi
 | some x =>
  rw [hx] at hi
  simp only [Option.map_some,Option.some.injEq] at hi
  subst hi
  obtain ⟨t2,u,ht2,hu,hsub⟩:=harg i x hx
  rw [ht'] at ht2
  cases ht2
  unfold uq
  unfold wK at hu
  by_cases hneg:x < 0
  · rw [if_pos hneg]
    rw [if_neg (by omega)] at hu
    by_cases hr:x < 0∧-(ps.length:Int)≤x
    · rw [if_pos hr] at hu
      obtain ⟨o,ho⟩:=zh (l:=args) (k:=(-1 - x).toNat) (by rw [hal];omega)
      have:=hmem _ o u ho hu
      rw [ho]
      simp only [Option.getD_some]
      exact zuS hp this hsub
    · rw [if_neg hr] at hu
      cases hu
  · rw [if_neg hneg]
    by_cases hr:0≤x∧x < (d.objects.length:Int)
    · rw [if_pos hr] at hu
      cases ho:d.objects[x.toNat]? with
      | none=>rw [ho] at hu;cases hu
      | some ob =>
       rw [ho] at hu
       simp only [Option.map_some,Option.some.injEq] at hu
       subst hu
       exact zri hr.1 ho hsub
    · rw [if_neg hr,if_neg (by omega)] at hu
      cases hu
theorem zam {d:Dom}{args:List Int}:∀ {l out n:List Lit},ws d args l out=some n→∀ y∈n,y∈out∨∃ x∈l,w9 d x.at_.pred=true∧y=vA args x
 | [],out,n,h,y,hy=>by
  simp only [ws,Option.some.injEq] at h
  subst h
  exact .inl hy
 | x :: r, out,n,h,y,hy=>by
  unfold ws at h
  have up:(y∈out∨∃ x∈r,w9 d x.at_.pred=true∧y=vA args x)→y∈out∨∃ z∈x :: r,w9 d z.at_.pred=true∧y=vA args z:=fun h=>h.imp id fun ⟨z,h1,h2⟩=>⟨z,by simp [h1],h2⟩
  split at h
  · split at h
    · cases h
    · exact up (zam h y hy)
  · rename_i hf
    split at h
    · cases h
    · split at h
      · exact up (zam h y hy)
      · rcases zam h y hy with h1|h1
        · rcases List.mem_append.1 h1 with h2|h2
          · exact .inl h2
          · exact .inr ⟨x,by simp,by simpa using hf,by simpa using h2⟩
        · exact up (.inr h1)
theorem zcu {d:Dom} (h:DomV d):DoVal d :=
 ⟨h.ty, h.pl,fun x hx=>by
  obtain ⟨i,hi⟩:=List.getElem?_of_mem hx
  exact (zc1 h hi).types.1,h.sl,fun s hs=>by
  obtain ⟨i,hi⟩:=List.getElem?_of_mem hs
  have:=h.sch i (yn hi)
  unfold x3 at this
  rw [hi] at this
  simp only at this
  split at this
  · cases this
  · split at this
    · cases this
    · exact this,h.ini,h.goal⟩
theorem zv1 {d:Dom}{i:Nat}{s:Sch}{x:Lit} (hs:d.schemas[i]? = some s)(hx:x∈s.pre)(hn:x.neg=true):ur d x.at_.pred=true:=by
 unfold ur
 rw [Bool.or_eq_true]
 refine .inr (List.any_eq_true.2 ⟨s,zm hs,List.any_eq_true.2 ⟨x,hx,by simp [hn]⟩⟩)
theorem znM {d:Dom} (hd:DoVal d) {a:Ac} (h:a∈zD d):∀ x∈a.pre,x∈ya d:=by
 obtain ⟨i,s,args,n,hs,hl,hn,_,rfl⟩:=zc7 h
 intro y hy
 have sv:=znv (hd.sc s (zm hs))
 rcases zam hn y hy with h1|⟨x,hx,hf,rfl⟩
 · cases h1
 · exact znu.2 ⟨ztM hd.ty sv.types hl (sv.pre x hx),hf,fun hneg=>zv1 (x:=x) hs hx hneg⟩
structure Sim (F G hv:List Lit)(s t:List Int):Prop where
 inv:∀ (i:Nat)(x:Lit),F[i]? = some x→(i:Int)∈s→x∈hv
 eq:∀ (i j:Nat)(x:Lit),F[i]? = some x→G[j]? = some x→((i:Int)∈s↔(j:Int)∈t)
theorem zcv {F l:List Lit}{s:List Int}:xl (yL F l) s=true↔∀ (i:Nat)(x:Lit),F[i]? = some x→x∈l→(i:Int)∈s:=by
 unfold xl
 rw [List.all_eq_true]
 constructor
 · intro h i x hi hx
   simpa using h i ((q7 hi).2 hx)
 · intro h i hi
   obtain ⟨h0,x,hx,hl⟩:=vY.1 hi
   have:=h i.toNat x hx hl
   rw [show ((i.toNat:Nat):Int)=i by omega] at this
   simpa using this
section
variable {d:Dom}
abbrev rA (d:Dom):RS:=wL d (zD d)
abbrev gA (d:Dom):List Lit:=zag d (rA d)
theorem zdS {x:Lit}:x∈gA d↔x∈ya d∧(x∈(rA d).hv∨x∈d.goal):=by
 unfold gA zag
 rw [List.mem_filter]
 simp
theorem zuT:Sim (ya d) (gA d) (rA d).hv (kD d (ya d)) (kD d (gA d)) :=
 ⟨fun i x hi h=>ztL (zm hi) ((zmH hi).1 h),fun i j x hi hj=>by rw [zmH hi,zmH hj]⟩
theorem zuU {s t:List Int} (h:Sim (ya d) (gA d) (rA d).hv s t):xl (yL (ya d) d.goal) s=xl (yL (gA d) d.goal) t:=by
 rw [Bool.eq_iff_iff,zcv,zcv]
 constructor
 · intro hs j x hj hx
   obtain ⟨i,hi⟩:=List.getElem?_of_mem (zdS.1 (zm hj)).1
   exact (h.eq i j x hi hj).1 (hs i x hi hx)
 · intro hs i x hi hx
   obtain ⟨j,hj⟩:=List.getElem?_of_mem (zdS.2 ⟨zm hi,.inr hx⟩)
   exact (h.eq i j x hi hj).2 (hs j x hj hx)
theorem zuV (hd:DoVal d) {s t:List Int} (h:Sim (ya d) (gA d) (rA d).hv s t) {i:Nat}{a:Ac} (ha:(zD d)[i]? = some a)(hp:xl (yL (ya d) a.pre) s=true):(rA d).used[i]? = some true:=by
 rcases (zjQ d (zD d)).more i a ha with h1|h1
 · exact h1
 · exfalso
   have:vk a (rA d).hv=true:=by
    unfold vk
    rw [List.all_eq_true]
    intro x hx
    obtain ⟨k,hk⟩:=List.getElem?_of_mem (znM hd (zm ha) x hx)
    simpa using h.inv k x hk (zcv.1 hp k x hk hx)
   rw [this] at h1
   cases h1
theorem zrj {s t:List Int} (h:Sim (ya d) (gA d) (rA d).hv s t) {a:Ac} (hv:∀ x,x∈a.add∨x∈a.pre→x∈(rA d).hv):xl (yL (ya d) a.pre) s=xl (yL (gA d) a.pre) t:=by
 rw [Bool.eq_iff_iff,zcv,zcv]
 constructor
 · intro hs j x hj hx
   obtain ⟨i,hi⟩:=List.getElem?_of_mem (zdS.1 (zm hj)).1
   exact (h.eq i j x hi hj).1 (hs i x hi hx)
 · intro hs i x hi hx
   obtain ⟨j,hj⟩:=List.getElem?_of_mem (zdS.2 ⟨zm hi,.inl (hv x (.inr hx))⟩)
   exact (h.eq i j x hi hj).2 (hs j x hj hx)
theorem zp4 {s t:List Int} (h:Sim (ya d) (gA d) (rA d).hv s t) {a:Ac} (hv:∀ x,x∈a.add∨x∈a.pre→x∈(rA d).hv) :
  Sim (ya d) (gA d) (rA d).hv (wC s (yL (ya d) a.add) (yL (ya d) a.del)) (wC t (yL (gA d) a.add) (yL (gA d) a.del)):=by
 refine ⟨fun i x hi hm=>?_,fun i j x hi hj=>?_⟩
 · rcases qR.1 hm with ⟨h1,_⟩|h1
   · exact h.inv i x hi h1
   · exact hv x (.inl ((q7 hi).1 h1))
 · rw [qR,qR,q7 hi,q7 hi,q7 hj,q7 hj,h.eq i j x hi hj]
end
def uO (d:Dom):Grd:=xZ d (ya d) (zD d)
def vo (d:Dom):Grd:=xZ d (gA d) (uk (zD d) (rA d))
def zeS {α β:Type} (F:Nat→α→List β):Nat→List α→List β
 | _,[]=>[]
 | i,s :: r=>F i s ++ zeS F (i + 1) r
theorem zp5 {α β:Type} (F:Nat→α→List β):∀ (l:List α)(n:Nat),((List.range l.length).flatMap fun i=>match l[i]? with
  | none=>[]
  | some s=>F (n + i) s)=zeS F n l
 | [],n=>rfl
 | a :: l,n=>by
  rw [List.length_cons,List.range_succ_eq_map,List.flatMap_cons,List.flatMap_map]
  simp only [List.getElem?_cons_zero,List.getElem?_cons_succ,Nat.add_zero,zeS]
  congr 1
  rw [← zp5 F l (n + 1)]
  congr 1
  funext i
  rw [show n + i.succ=n + 1 + i from by omega]
abbrev zuW (d:Dom)(i:Nat)(s:Sch):List Ac:=(yB d s.types).filterMap (acP d i s)
theorem zsu (d:Dom):zD d=zeS (zuW d) 0 d.schemas:=by
 rw [← zp5]
 unfold zD
 congr 1
 funext i
 rw [Nat.zero_add]
 cases d.schemas[i]?<;>rfl
theorem ztN {α:Type}{l:List α}{k:Nat}{x:α} (h:l[k]? = some x):l.drop k=x :: l.drop (k + 1):=by
 rw [List.drop_eq_getElem_cons (yn h)]
 congr 1
 exact (List.getElem?_eq_some_iff.1 h).2
theorem znN (d:Dom)(k:Nat):wz d (k + 1)=wz d k ++ if w9 d k=true then (vi d k).map yK else []:=kt _ _
theorem znO (d:Dom)(k:Nat):wc d (k + 1)=wc d k ++ if w9 d k=true∧ur d k=true then (vi d k).map ut else []:=kt _ _
theorem zjR (d:Dom)(k:Nat):(wz d k).length≤(yp d k).length:=by
 rw [zq9,List.length_map];exact List.length_filter_le _ _
theorem zjS (d:Dom)(k:Nat):(wc d k).length≤(yp d k).length:=by
 rw [zra,List.length_map];exact List.length_filter_le _ _
theorem zdu {d:Dom}{ts a:List Int} (h:a∈yB d ts):zky d ts a:=zi4 h
theorem zsv (l:List Lit)(x:Lit):(kr l x).length≤l.length + 1:=by
 unfold kr
 split
 · omega
 · have e:l.takeWhile (fun y=>decide (z7 y x < 0)) ++ l.dropWhile (fun y=>decide (z7 y x < 0))=l:=List.takeWhile_append_dropWhile
   have:=congrArg List.length e
   simp only [List.length_append,List.length_cons] at this ⊢
   omega
theorem zhq (l:List At):(sdA l).length≤l.length:=by
 have h1:∀ (l acc:List Lit),(l.foldl kr acc).length≤acc.length + l.length:=by
  intro l
  induction l with
  | nil=>intro acc;simp
  | cons x r ih =>
   intro acc
   have h2:=ih (kr acc x)
   have h3:=zsv acc x
   simp only [List.foldl_cons,List.length_cons]
   omega
 have:=h1 (l.map yK) []
 unfold sdA sdL
 rw [List.length_map]
 simpa using this
theorem zc8 {d:Dom}{args:List Int}:∀ {l out n:List Lit},ws d args l out=some n→n.length≤out.length + l.length
 | [],out,n,h=>by
  unfold ws at h
  cases h
  simp
 | x :: r, out,n,h=>by
  unfold ws at h
  simp only [List.length_cons]
  split at h
  · split at h
    · cases h
    · have:=zc8 h;omega
  · split at h
    · cases h
    · split at h
      · have:=zc8 h;omega
      · have:=zc8 h
        rw [List.length_append] at this
        simp at this
        omega
end Hm
end
section
namespace Hm
open Go
set_option maxRecDepth 100000
set_option maxHeartbeats 4000000
abbrev gP (d:Dom):V:=.cptr .p (grP d (wN d) (vz d)) 0
def acV (a:Ac):V:=.agg [.int .i64 a.sch,.sl .p (a.args.map zk),.sl .p (a.pre.map zY),.sl .p (a.add.map zY),.sl .p (a.del.map zY),.int .i64 a.cost]
abbrev acY (a:Ac):List V:=[acV a]
theorem zan {d:Dom} (h:DomV d):(zD d).length≤4096:=by
 have hv:=zcu h
 unfold zD
 refine Nat.le_trans (uh (n:=512) fun i hi=>?_) ?_
 · obtain ⟨s,hs⟩:=zh (List.mem_range.1 hi)
   simp only [hs]
   refine Nat.le_trans (List.length_filterMap_le _ _) (zi3 hv.ty.ol ?_)
   exact (zb6 h hs).val.types.1
 · have:=h.sl;simp only [List.length_range];omega
theorem vy {d:Dom} (h:DomV d) {k:Nat} (hk:k≤d.preds.length):(yp d k).length≤4096 :=
 Nat.le_trans (zns d hk) (zti (zcu h))
structure GFOk (l:List Lit):Prop where
 len:l.length≤1000000
 ok:∀ x∈l,AtOk x.at_
structure ActOk (a:Ac):Prop where
 pre:GFOk a.pre
 add:GFOk a.add
 del:GFOk a.del
def za0:Cmd :=
 (qS [qx 1 2432065 1 0,qq 2 (.mov (.c (.sl .nil [])))]
 (.seq (.ops [qq 3 (.alloc 2432193 (.sl .nil [])),qq 4 (.alloc 2432257 (.sl .nil []))]) (.nvs 4 2434563 (.nvs 3 2433923 (.cut (qT (qS [ql 9 1 1,qq 10 (.nilck (.t 9)),qf 11 0 10,qf 12 2 11,ql 13 1 12,qn 14 13,qc 15 0]
 (.block 0 (.loop (qS [qu 16 .lss [] 15 14]
 (qT (.cond (.t 16) .skip (.exit 0))
 (qT (.block 1 (qS [qm 17 15,qi 18 2 13 15,qL 19 2 18,qq 5 (.alloc 2432321 (.int .i64 0)),qq 6 (.alloc 2432386 (.agg [.str [],.sl .nil []])),qs 1 5 17,qs 2 6 19]
 (qT (qS [ql 20 1 1,qq 21 (.nilck (.t 20)),qf 22 6 21,ql 23 1 22,ql 24 1 5,qi 25 1 23 24,ql 26 1 25,qq 27 (.not (.t 26))]
 (.cond (.t 27) (.exit 1) .skip))
 (qS [ql 28 1 1,qq 29 (.nilck (.t 28)),qf 30 0 29,qL 31 6 30,qf 32 1 6,ql 33 1 32,qk 34 79 [31,33]]
 (.block 2 (.rangeF [] (.t 34) [35] (.ops [qm 7 35]) (.block 3 (qS [ql 36 1 5,qm 37 7,qq 38 (.build [.int .i64 0,.sl .nil []] [(0 ,1 ,.t 36),(1 ,1 ,.t 37)]),qq 8 (.alloc 2432514 (.agg [.int .i64 0,.sl .nil []])),qs 2 8 38]
 (qS [ql 39 1 3,qL 40 2 8,qq 41 (.build [.bool false,.int .i64 0,.sl .nil []] [(1 ,2 ,.t 40)]),qq 42 (.bsl 3 [.t 41]),qq 43 (.append 3 40 113 (.t 39) (.t 42)),qs 1 3 43]
 (qS [ql 44 1 1,qq 45 (.nilck (.t 44)),qf 46 7 45,ql 47 1 46,ql 48 1 5,qi 49 1 47 48,ql 50 1 49]
 (.cond (.t 50) (.ops [ql 51 1 4,qL 52 2 8,qq 53 (.build [.bool false,.int .i64 0,.sl .nil []] [(0 ,1 ,.c (.bool true)),(1 ,2 ,.t 52)]),qq 54 (.bsl 3 [.t 53]),qq 55 (.append 3 40 113 (.t 51) (.t 54)),qs 1 4 55]) .skip)))))))))))
 (.ops [qv 56 .add [] 15 1,qm 15 56])))))))
 (.seq (.ops [ql 57 1 3,ql 58 1 4,qq 59 (.append 3 40 113 (.t 57) (.t 58)),qm 2 59]) .ret)))))))
def za1:List RVar:=[.tmp 2]
def za2:Nat:=60
theorem za3:zj PG 38 za2 za1 za0=true:=by kernel_rfl
abbrev liS (d:Dom)(P M:List Lit):List (Nat × Blk):=[(2432065,.box (grP d (wN d) (vz d))),(2432193,.box (.sl (.own 2433923) (P.map zY))),(2432257,.box (.sl (.own 2434563) (M.map zY))),(2433923,.vec P.length),(2434563,.vec M.length)]
abbrev zgG (d:Dom)(k:Nat)(x:Prd)(P M:List Lit):List (Nat × Blk):=[(2432065,.box (grP d (wN d) (vz d))),(2432193,.box (.sl (.own 2433923) (P.map zY))),(2432257,.box (.sl (.own 2434563) (M.map zY))),(2432321,.box (.int .i64 k)),(2432386,.box (wy x)),(2433923,.vec P.length),(2434563,.vec M.length)]
abbrev liE (d:Dom)(k:Nat):List (Nat × V):=[(1,.bptr 2432065 0),(3,.bptr 2432193 0),(4,.bptr 2432257 0),(13,.sl .p (d.preds.map wy)),(14,.int .i64 d.preds.length),(15,.int .i64 k)]
abbrev zxY (d:Dom)(k:Nat):List (Nat × V):=[(1,.bptr 2432065 0),(3,.bptr 2432193 0),(4,.bptr 2432257 0),(5,.bptr 2432321 0),(6,.bptr 2432386 0),(13,.sl .p (d.preds.map wy)),(14,.int .i64 d.preds.length),(15,.int .i64 k)]
theorem zli (d:Dom)(hd:DomV d):Fc PG 38 [grP d (wN d) (vz d)] (.sl .p ((ya d).map zY)):=by
 have hpl:=hd.pl
 refine Fn.step zf za3 ?_
 repeat (first|refine i_s rfl ?_|refine sw ?_|refine zi rfl ?_|refine zr rfl rfl ?_)
 refine zoE rfl rfl rfl ?_
 refine zoE rfl rfl rfl ?_
 repeat (first|refine zo rfl ?_|refine i_s rfl ?_|refine sw ?_)
 refine ye d.preds.length (fun k=>liE d k) (fun k=>liS d (wz d k) (wc d k)) (fun _=>True) trivial ft fun k hk _=>?_
 by_cases hlt:k < d.preds.length
 · obtain ⟨x, hx⟩:=zh hlt
   have hv:=zc1 hd hx
   have hxt:=hv.types.1
   have hCh:=uU d x.types
   have hfl:(wN d)[(k:Int).toNat]? = some (w9 d (k:Int)):=by rw [Int.toNat_natCast,yI hlt];rfl
   have hdn:(vz d)[(k:Int).toNat]? = some (ur d (k:Int)):=by rw [Int.toNat_natCast,yI hlt];rfl
   have hp0:=Nat.le_trans (zjR d k) (vy hd hk)
   have hm0:=Nat.le_trans (zjS d k) (vy hd hk)
   cases hfb:w9 d (k:Int) with
   | false =>
    rw [hfb] at hfl
    have e1:wz d (k + 1)=wz d k:=by rw [znN,hfb];simp
    have e2:wc d (k + 1)=wc d k:=by rw [znO,hfb];simp
    clear hdn hCh
    repeat' (first|refine i_s rfl ?_|refine sw ?_|refine c_t rfl ?_|refine ja rfl rfl ?_|refine jd rfl rfl ?_|refine zl rfl ?_|refine zi rfl ?_|refine zd rfl (fun h=>?_) (fun h=>?_))
    all_goals first
     | (exfalso;simp at *;done)
     | (exfalso;simp at *;omega)
     | skip
    refine zK hlt trivial ⟨⟨rfl,rfl,rfl,rfl,rfl,rfl,trivial⟩,⟨rfl,?_,?_,?_,?_,trivial⟩,rfl⟩
    · rw [e1];rfl
    · rw [e2];rfl
    · rw [e1];rfl
    · rw [e2];rfl
   | true =>
    rw [hfb] at hfl
    have hal:=zi3 hd.ty.ol hxt
    have e1:wz d (k + 1)=wz d k ++ (yB d x.types).map fun a=>⟨false,⟨k,a⟩⟩:=by
     rw [znN,hfb,if_pos rfl,vx hx,List.map_map];rfl
    have e2:wc d (k + 1)=wc d k ++ if ur d (k:Int)=true then (yB d x.types).map (fun a=>⟨true,⟨k,a⟩⟩) else []:=by
     rw [znO,hfb,vx hx,List.map_map]
     congr 1
     simp only [true_and]
     rfl
    repeat' (first|refine i_s rfl ?_|refine sw ?_|refine c_f rfl ?_|refine jd rfl rfl ?_|refine zl rfl ?_|refine zi rfl ?_|refine zd rfl (fun h=>?_) (fun h=>?_)|refine sf rfl rfl hCh ?_|fail)
    all_goals first
     | (exfalso;simp at *;done)
     | (exfalso;simp at *;omega)
     | skip
    refine qw (zxY d k) (zgG d k x (wz d k) (wc d k)) [2432065,2432193,2432257,2432321,2432386,2433923,2434563]
     [] (zgG d k x (wz d k) (wc d k)) rfl ft rfl rfl rfl rfl ?_
    clear hCh
    refine u3 ?_ (zct d hd.ty x.types (by omega) _ (fun st=>st=(zy (zgG d k x (wz d k ++ (yB d x.types).map fun a=>⟨false,⟨k,a⟩⟩) (wc d k ++ if ur d (k:Int)=true then (yB d x.types).map (fun a=>⟨true,⟨k,a⟩⟩) else [])),(),none)) ?_)
    · rintro _ σ' st ⟨rfl,rfl⟩
      refine ⟨rfl,?_⟩
      show WE _ _ _ _ _ .normal _ _ _
      repeat (first|refine i_s rfl ?_|refine sw ?_|refine ja rfl rfl ?_)
      refine zK hlt trivial ⟨⟨rfl,rfl,rfl,rfl,rfl,rfl,trivial⟩,⟨rfl,?_,?_,?_,?_,trivial⟩,rfl⟩
      · rw [e1];rfl
      · rw [e2];rfl
      · rw [e1];rfl
      · rw [e2];rfl
    · have e0:zgG d k x (wz d k) (wc d k)=zgG d k x (wz d k ++ ((yB d x.types).take 0).map (fun a=>(⟨false,⟨k,a⟩⟩:Lit))) (wc d k ++ if ur d (k:Int)=true then ((yB d x.types).take 0).map (fun a=>(⟨true,⟨k,a⟩⟩:Lit)) else []):=by
       have h1:wz d k ++ ((yB d x.types).take 0).map (fun a=>(⟨false,⟨k,a⟩⟩:Lit))=wz d k:=by simp
       have h2:(wc d k ++ if ur d (k:Int)=true then ((yB d x.types).take 0).map (fun a=>(⟨true,⟨k,a⟩⟩:Lit)) else [])=wc d k:=by simp
       rw [h1,h2]
      rw [e0]
      refine zl2 (f:=fun a:List Int=>[V.sl .p (a.map zk)]) (RHm xx) (fun j=>(zy (zgG d k x (wz d k ++ ((yB d x.types).take j).map (fun a=>(⟨false,⟨k,a⟩⟩:Lit))) (wc d k ++ if ur d (k:Int)=true then ((yB d x.types).take j).map (fun a=>(⟨true,⟨k,a⟩⟩:Lit)) else [])),(),none)) (yB d x.types) 0 (fun i c hc K' hk=>?_) ?_
      · rw [Nat.zero_add] at hk ⊢
        have hil:=yn hc
        have ht:=zz hc
        obtain ⟨P,hP⟩:∃ P,P=wz d k ++ ((yB d x.types).take i).map (fun a=>(⟨false,⟨k,a⟩⟩:Lit)):=⟨_,rfl⟩
        have hPl:P.length≤5000:=by rw [hP];simp;omega
        have eP:wz d k ++ ((yB d x.types).take (i + 1)).map (fun a=>(⟨false,⟨k,a⟩⟩:Lit))=P ++ [⟨false,⟨k,c⟩⟩]:=by rw [ht,List.map_append,← List.append_assoc,← hP];rfl
        have lP:(P ++ [(⟨false,⟨k,c⟩⟩:Lit)]).length=P.length + 1:=by simp
        simp only [eP] at hk
        simp only [← hP]
        cases hdb:ur d (k:Int) with
        | false =>
         rw [hdb] at hdn
         simp only [hdb,Bool.false_eq_true,if_false,List.append_nil] at hk ⊢
         clear ht hP eP e1 e2 e0 hc
         generalize wc d k=M at *
         refine w6 xx rfl ?_
         repeat (first|refine i_s rfl ?_|refine sw ?_)
         refine ym ?_
         show WC _ _ _ _ [] _ _ _ _
         repeat (first|refine i_s rfl ?_|refine sw ?_|refine zl rfl ?_|refine zi rfl ?_)
         refine yU (c:=(⟨false,⟨k,c⟩⟩:Lit)) rfl rfl rfl rfl rfl (by omega) (by omega) ?_
         repeat' (first|refine i_s rfl ?_|refine sw ?_|refine c_f rfl ?_|refine jd rfl rfl ?_|refine zl rfl ?_)
         all_goals first
          | (exfalso;simp at *;done)
          | skip
         refine ym ?_
         refine ko rfl rfl ?_
         simp only [zgG,lP] at hk
         exact hk
        | true =>
         rw [hdb] at hdn
         simp only [hdb,if_true] at hk ⊢
         obtain ⟨M,hM⟩:∃ M,M=wc d k ++ ((yB d x.types).take i).map (fun a=>(⟨true,⟨k,a⟩⟩:Lit)):=⟨_,rfl⟩
         have hMl:M.length≤5000:=by rw [hM];simp;omega
         have eM:wc d k ++ ((yB d x.types).take (i + 1)).map (fun a=>(⟨true,⟨k,a⟩⟩:Lit))=M ++ [⟨true,⟨k,c⟩⟩]:=by rw [ht,List.map_append,← List.append_assoc,← hM];rfl
         have lM:(M ++ [(⟨true,⟨k,c⟩⟩:Lit)]).length=M.length + 1:=by simp
         simp only [eM] at hk
         simp only [← hM]
         clear ht hP eP hM eM e1 e2 e0 hc
         refine w6 xx rfl ?_
         repeat (first|refine i_s rfl ?_|refine sw ?_)
         refine ym ?_
         show WC _ _ _ _ [] _ _ _ _
         repeat (first|refine i_s rfl ?_|refine sw ?_|refine zl rfl ?_|refine zi rfl ?_)
         refine yU (c:=(⟨false,⟨k,c⟩⟩:Lit)) rfl rfl rfl rfl rfl (by omega) (by omega) ?_
         repeat' (first|refine i_s rfl ?_|refine sw ?_|refine c_t rfl ?_|refine jd rfl rfl ?_|refine zl rfl ?_)
         all_goals first
          | (exfalso;simp at *;done)
          | skip
         refine yU (c:=(⟨true,⟨k,c⟩⟩:Lit)) rfl rfl rfl rfl rfl (by omega) (by omega) ?_
         repeat' (first|refine sw ?_|refine zl rfl ?_)
         refine ym ?_
         refine ko rfl rfl ?_
         simp only [zgG,lP,lM] at hk
         exact hk
      · rw [Nat.zero_add,List.take_length]
 have hge:k=d.preds.length:=by omega
 subst hge
 have hp0:=Nat.le_trans (zjR d d.preds.length) (vy hd (Nat.le_refl _))
 have hm0:=Nat.le_trans (zjS d d.preds.length) (vy hd (Nat.le_refl _))
 repeat' (first|refine i_s rfl ?_|refine sw ?_|refine zd rfl (fun h=>?_) (fun h=>?_))
 all_goals first
  | (exfalso;simp at *;done)
  | (exfalso;simp at *;omega)
  | skip
 refine zvc rfl rfl rfl (by simp) rfl (fun row hrow=>?_) (by simp;omega) (by simp;omega) ?_
 · obtain ⟨y,_,rfl⟩:=List.mem_map.1 hrow
   exact ⟨rfl,rfl⟩
 repeat (first|refine i_s rfl ?_|refine sw ?_)
 refine zb ⟨rfl,_,rfl,?_⟩
 unfold ya
 rw [List.map_append]
 rfl
abbrev gZn:V:=.agg [.int .i64 0,.sl .nil [],.sl .nil [],.sl .nil [],.sl .nil [],.sl .nil []]
def zlj:Cmd :=
 (qS [qx 1 4992070 6 0,qq 2 (.alloc 4992134 (.agg [.int .i64 0,.sl .nil [],.sl .nil [],.sl .nil [],.sl .nil [],.sl .nil []]))]
 (qS [qq 3 (.newVec 4992195)]
 (.seq (qS [qf 6 4 1,ql 7 1 6,qn 8 7,qc 9 0]
 (.block 0 (.loop (qS [qu 10 .lss [] 9 8]
 (qT (.cond (.t 10) .skip (.exit 0))
 (qT (.block 1 (qS [qi 11 3 7 9,qL 12 3 11,qq 5 (.alloc 4992323 (.agg [.bool false,.int .i64 0,.sl .nil []])),qs 3 5 12]
 (.ops [qm 13 3,qf 14 0 5,ql 15 1 14,qf 16 1 5,qf 17 0 16,ql 18 1 17,qf 19 1 5,qf 20 1 19,ql 21 1 20,qk 22 119 [21],qq 23 (.build [.int .i64 0,.sl .nil []] [(0 ,1 ,.t 18),(1 ,1 ,.t 22)]),qq 24 (.build [.bool false,.int .i64 0,.sl .nil []] [(0 ,1 ,.t 15),(1 ,2 ,.t 23)]),qq 25 (.bsl 3 [.t 24]),qq 26 (.append 3 40 113 (.t 13) (.t 25)),qm 3 26])))
 (.ops [qv 27 .add [] 9 1,qm 9 27]))))))) (qT (.frz 3)
 (qS [qm 28 3,qf 29 4 1,qs 1 29 28]
 (.seq (.ops [qL 30 6 1,qs 6 2 30]) .ret))))))
def zlk:List RVar:=[.cell true 6 2]
def zll:Nat:=31
theorem zlm:zj PG 78 zll zlk zlj=true:=by kernel_rfl
theorem zuX (g:Grd)(hf:GFOk g.facts):Fc PG 78 [zjs g] (zjs g):=by
 have hfl:=hf.len
 refine Fn.step zf zlm ?_
 repeat (first|refine zo rfl ?_|refine i_s rfl ?_|refine sw ?_|refine zi rfl ?_|refine zr rfl rfl ?_|refine zem rfl ?_)
 refine ye g.facts.length (fun k=>[(1,.bptr 4992070 0),(2,.bptr 4992134 0),(3,.sl (.own 4992195) ((g.facts.take k).map zY)),(7,.sl .p (g.facts.map zY)),(8,.int .i64 g.facts.length),(9,.int .i64 k)])
  (fun k=>[(4992070,.box (zjs g)),(4992134,.box gZn),(4992195,.vec (g.facts.take k).length)]) (fun _=>True) trivial ft fun k hk _=>?_
 by_cases hlt:k < g.facts.length
 · obtain ⟨x,hx⟩:=zh hlt
   have hC:=xG x.at_.args (hf.ok x (zm hx)).len
   have l1:(g.facts.take k).length=k:=by simp;omega
   have e1:g.facts.take (k + 1)=g.facts.take k ++ [x]:=zz hx
   repeat' (first|refine i_s rfl ?_|refine sw ?_|refine jd rfl rfl ?_|refine zl rfl ?_|refine zi rfl ?_|refine zd rfl (fun h=>?_) (fun h=>?_)|refine sf rfl rfl hC ?_|fail)
   all_goals first
    | (exfalso;clear hC;simp at *;done)
    | (exfalso;clear hC;simp at *;omega)
    | skip
   refine yU (c:=x) rfl rfl rfl rfl rfl (by omega) (by omega) ?_
   repeat (first|refine i_s rfl ?_|refine sw ?_|refine ja rfl rfl ?_)
   refine zK hlt trivial ⟨⟨rfl,rfl,?_,rfl,rfl,rfl,trivial⟩,⟨rfl,rfl,?_,trivial⟩,rfl⟩
   · rw [e1];rfl
   · rw [e1];simp;rfl
 have hge:k=g.facts.length:=by omega
 subst hge
 rw [List.take_length]
 repeat' (first|refine i_s rfl ?_|refine sw ?_|refine zd rfl (fun h=>?_) (fun h=>?_))
 all_goals first
  | (exfalso;simp at *;done)
  | (exfalso;simp at *;omega)
  | skip
 refine zo2 rfl rfl ?_
 repeat' (first|refine i_s rfl ?_|refine sw ?_|refine zl rfl ?_)
 all_goals exact zb ⟨rfl,_,rfl,rfl⟩
def zcQ:Cmd :=
 (qS [qq 6 (.alloc 2368390 (.agg [.int .i64 0,.sl .nil [],.sl .nil [],.sl .nil [],.sl .nil [],.sl .nil []])),qq 7 (.alloc 2368450 (.agg [.int .i64 0,.int .i64 0]))]
 (qT (qS [qm 14 1,qn 15 14,qv 16 .gtr [] 15 24,qm 17 16,qg 18 17 false (.mov (.t 2)),qg 19 17 false (.len false (.t 18)),qg 20 17 false (.bin .gtr false [] (.t 19) (.c (.int .i64 40))),qq 21 (.pick (.t 17) (.c (.bool true)) (.t 20))]
 (.cond (.t 21) (.seq (.ops [qq 22 (.build [.int .i64 0,.sl .nil [],.sl .nil [],.sl .nil [],.sl .nil [],.sl .nil []] []),qq 23 (.build [.int .i64 0,.int .i64 0] [(0 ,1 ,.c (.int .i64 10)),(1 ,1 ,.c (.int .i64 (-8)))]),qs 6 6 22,qs 2 7 23]) .ret) .skip))
 (.seq (.ops [qm 24 1,qn 25 24,qm 26 1,qm 27 0,qq 28 (.nilck (.t 27)),qf 29 0 28,qf 30 5 29,ql 31 1 30,qk 32 42 [26,31],qq 33 (.build [.int .i64 0,.sl .nil [],.sl .nil [],.sl .nil []] [(0 ,1 ,.t 25),(2 ,1 ,.t 32)]),qm 34 1,qq 35 (.build [.int .i64 0,.sl .nil [],.sl .nil [],.sl .nil [],.sl .nil [],.sl .nil []] [(0 ,4 ,.t 33),(4 ,1 ,.t 34)]),qq 8 (.alloc 2368518 (.agg [.int .i64 0,.sl .nil [],.sl .nil [],.sl .nil [],.sl .nil [],.sl .nil []])),qs 6 8 35]) (.nvb 8 5 2373442 (.nvb 8 3 2373316 (.nvb 8 1 2373185 (.cut (qT (qS [qm 36 1,qn 37 36,qc 38 0]
 (.block 0 (.loop (qS [qu 39 .lss [] 38 37]
 (qT (.cond (.t 39) .skip (.exit 0))
 (qT (.block 1 (qS [qm 40 38,qi 41 3 36 38,qL 42 3 41,qq 10 (.alloc 2368643 (.agg [.bool false,.int .i64 0,.sl .nil []])),qm 9 40,qs 3 10 42]
 (qS [qm 43 0,qL 44 3 10,qk 45 41 [43,44]]
 (.cond (.t 45) (.ops [qf 46 0 8,qf 47 1 46,ql 48 1 47,qm 49 9,qq 50 (.bsl 1 [.t 49]),qq 51 (.append 1 8 3 (.t 48) (.t 50)),qf 52 0 8,qf 53 1 52,qs 1 53 51]) .skip))))
 (.ops [qv 54 .add [] 38 1,qm 38 54])))))))
 (.seq (qS [qm 55 2,qn 56 55,qc 57 0]
 (.block 2 (.loop (qS [qu 58 .lss [] 57 56]
 (qT (.cond (.t 58) .skip (.exit 2))
 (qT (.block 3 (qS [qi 59 6 55 57,qL 60 6 59,qq 12 (.alloc 2368774 (.agg [.int .i64 0,.sl .nil [],.sl .nil [],.sl .nil [],.sl .nil [],.int .i64 0])),qs 6 12 60]
 (qS [qm 61 1,qf 62 2 12,ql 63 1 62,qk 64 42 [61,63],qm 65 1,qf 66 3 12,ql 67 1 66,qk 68 42 [65,67],qm 69 1,qf 70 4 12,ql 71 1 70,qk 72 42 [69,71],qf 73 5 12,ql 74 1 73,qq 75 (.build [.sl .nil [],.sl .nil [],.sl .nil [],.int .i64 0] [(0 ,1 ,.t 64),(1 ,1 ,.t 68),(2 ,1 ,.t 72),(3 ,1 ,.t 74)]),qq 13 (.alloc 2368836 (.agg [.sl .nil [],.sl .nil [],.sl .nil [],.int .i64 0])),qs 4 13 75]
 (qS [qf 76 0 8,qf 77 3 76,ql 78 1 77,qL 79 4 13,qq 80 (.bsl 4 [.t 79]),qq 81 (.append 4 80 78 (.t 78) (.t 80)),qf 82 0 8,qf 83 3 82,qs 1 83 81]
 (.ops [qf 84 5 8,ql 85 1 84,qf 86 0 12,qL 87 2 86,qq 88 (.bsl 2 [.t 87]),qq 89 (.append 2 32 104 (.t 85) (.t 88)),qf 90 5 8,qs 1 90 89])))))
 (.ops [qv 91 .add [] 57 1,qm 57 91]))))))) (.fzb 8 5 (.fzb 8 3 (.fzb 8 1 (.cut (.seq (.ops [qL 92 6 8,qk 93 78 [92],qq 94 (.build [.int .i64 0,.int .i64 0] []),qs 6 6 93,qs 2 7 94]) .ret))))))))))))))
def zcR:List RVar:=[.cell true 6 6,.cell true 2 7]
def zcS:Nat:=95
theorem uo:zj PG 37 zcS zcR zcQ=true:=by kernel_rfl
abbrev buR (d:Dom)(F:List Lit)(I:List Int)(O:List SOp)(N:List (Nat × List Int)):V:=.agg [.int .i64 F.length,.sl (.own 2373185) (I.map zk),.sl .p ((yL F d.goal).map zk),.sl (.own 2373316) (O.map soV),.sl .p (F.map zY),.sl (.own 2373442) (N.map zwR)]
abbrev buS (d:Dom)(F:List Lit)(I:List Int)(O:List SOp)(N:List (Nat × List Int)):List (Nat × Blk):=[(2368390,.box gZn),(2368450,.box (ftV okF)),(2368518,.box (buR d F I O N)),(2373185,.vec I.length),(2373316,.vec O.length),(2373442,.vec N.length)]
theorem zrk (d:Dom)(hd:DomV d)(ho:DoOk d)(F:List Lit)(L:List Ac)(hF:GFOk F)(hLl:L.length≤1000000)(hL:∀ a∈L,ActOk a) :
  Fc PG 37 [grP d (wN d) (vz d),.sl .p (F.map zY),.sl .p (L.map acV)] (.tup [zjs (x9 d F L),ftV (vl F L)]):=by
 have hFl:=hF.len
 cases hb:uT F L with
 | true =>
  have e1:x9 d F L=grZ:=by unfold x9;rw [if_pos hb]
  have e2:vl F L=⟨10,-8⟩:=by unfold vl;rw [if_pos hb]
  rw [e1,e2]
  have hbig:=zuO hb
  clear e1 e2 hb
  refine Fn.step zf uo ?_
  repeat' (first|refine zo rfl ?_|refine i_s rfl ?_|refine sw ?_|refine yi rfl ?_|refine yw rfl ?_|refine c_t rfl ?_|refine zl rfl ?_|refine zi rfl ?_|(refine sp ?_ ?_<;>try intro h)|fail)
  all_goals first
   | exact zb ⟨rfl,_,rfl,rfl⟩
   | (exfalso;simp at *;done)
   | (exfalso;simp at *;omega)
 | false =>
  have e1:x9 d F L=xZ d F L:=by unfold x9;rw [if_neg (by rw [hb];simp)]
  have e2:vl F L=okF:=by unfold vl;rw [if_neg (by rw [hb];simp)]
  rw [e1,e2]
  obtain ⟨n24,n40⟩:=zmi hb
  clear e1 e2 hb
  have hG:=zbT F d.goal hFl (by have:=ho.goal.1;omega) hF.ok ho.goal.2
  refine Fn.step zf uo ?_
  repeat' (first|refine zo rfl ?_|refine i_s rfl ?_|refine sw ?_|refine yi rfl ?_|refine yw rfl ?_|refine c_t rfl ?_|refine zl rfl ?_|refine zi rfl ?_|(refine sp ?_ ?_<;>try intro h)|refine sf rfl rfl hG ?_|fail)
  all_goals first
   | (exfalso;clear hG;simp at *;done)
   | (exfalso;clear hG;simp at *;omega)
   | skip
  refine zkq rfl rfl rfl rfl ?_
  refine zkq rfl rfl rfl rfl ?_
  refine zkq rfl rfl rfl rfl ?_
  clear hG
  repeat' (first|refine zo rfl ?_|refine i_s rfl ?_|refine sw ?_|fail)
  refine ye F.length (fun k=>[(0,grP d (wN d) (vz d)),(1,.sl .p (F.map zY)),(2,.sl .p (L.map acV)),(6,.bptr 2368390 0),(7,.bptr 2368450 0),(8,.bptr 2368518 0),(36,.sl .p (F.map zY)),(37,.int .i64 F.length),(38,.int .i64 k)])
   (fun k=>buS d F (kC (xO d F) k) [] []) (fun _=>True) trivial ft fun k hk _=>?_
  have hkl:=qQ (xO d F) k
  by_cases hlt:k < F.length
  · obtain ⟨x,hx⟩:=zh hlt
    have hI:=ziJ d (wN d) (vz d) (by have:=ho.init.1;omega) ho.init.2 x (hF.ok x (zm hx))
    have hin:xO d F k=vB d x:=by unfold xO;rw [hx]
    have hs:=zgc (xO d F) k
    rw [hin] at hs
    cases ht:vB d x with
    | true =>
     rw [ht] at hI hs
     rw [if_pos rfl] at hs
     repeat' (first|refine zo rfl ?_|refine i_s rfl ?_|refine sw ?_|refine c_t rfl ?_|refine jd rfl rfl ?_|refine zl rfl ?_|refine zi rfl ?_|refine zd rfl (fun h=>?_) (fun h=>?_)|refine sf rfl rfl hI ?_|fail)
     all_goals first
      | (exfalso;clear hI;simp at *;done)
      | (exfalso;clear hI;simp at *;omega)
      | skip
     refine yU (c:=(k:Int)) rfl rfl rfl rfl rfl (by omega) (by omega) ?_
     repeat' (first|refine i_s rfl ?_|refine sw ?_|refine ja rfl rfl ?_|refine zl rfl ?_)
     refine zK hlt trivial ⟨⟨rfl,rfl,rfl,rfl,rfl,rfl,rfl,rfl,rfl,trivial⟩,⟨rfl,rfl,?_,?_,rfl,rfl,trivial⟩,rfl⟩
     · rw [hs];rfl
     · rw [hs];simp;rfl
    | false =>
     rw [ht] at hI hs
     rw [if_neg (by simp),List.append_nil] at hs
     repeat' (first|refine zo rfl ?_|refine i_s rfl ?_|refine sw ?_|refine c_f rfl ?_|refine ja rfl rfl ?_|refine jd rfl rfl ?_|refine zl rfl ?_|refine zi rfl ?_|refine zd rfl (fun h=>?_) (fun h=>?_)|refine sf rfl rfl hI ?_|fail)
     all_goals first
      | (exfalso;clear hI;simp at *;done)
      | (exfalso;clear hI;simp at *;omega)
      | skip
     refine zK hlt trivial ⟨⟨rfl,rfl,rfl,rfl,rfl,rfl,rfl,rfl,rfl,trivial⟩,⟨rfl,rfl,?_,?_,rfl,rfl,trivial⟩,rfl⟩
     · rw [hs];rfl
     · rw [hs];rfl
  have hge:k=F.length:=by omega
  subst hge
  clear hkl
  repeat' (first|refine zo rfl ?_|refine i_s rfl ?_|refine sw ?_|refine zd rfl (fun h=>?_) (fun h=>?_))
  all_goals first
   | (exfalso;simp at *;done)
   | (exfalso;simp at *;omega)
   | skip
  refine ye L.length (fun k=>[(1,.sl .p (F.map zY)),(6,.bptr 2368390 0),(7,.bptr 2368450 0),(8,.bptr 2368518 0),(55,.sl .p (L.map acV)),(56,.int .i64 L.length),(57,.int .i64 k)])
   (fun k=>buS d F (kD d F) ((L.take k).map (zcq F)) ((L.take k).map fun a=>(a.sch,a.args))) (fun _=>True) trivial ft fun k hk _=>?_
  by_cases hlt:k < L.length
  · obtain ⟨a,hx⟩:=zh hlt
    have hao:=hL a (zm hx)
    have hP:=zbT F a.pre hFl (by have:=hao.pre.len;omega) hF.ok hao.pre.ok
    have hA:=zbT F a.add hFl (by have:=hao.add.len;omega) hF.ok hao.add.ok
    have hD:=zbT F a.del hFl (by have:=hao.del.len;omega) hF.ok hao.del.ok
    have l1:((L.take k).map (zcq F)).length≤k:=by simp;omega
    have l2:((L.take k).map fun a=>(a.sch,a.args)).length≤k:=by simp;omega
    have e1:(L.take (k + 1)).map (zcq F)=(L.take k).map (zcq F) ++ [zcq F a]:=by rw [zz hx,List.map_append];rfl
    have e2:(L.take (k + 1)).map (fun a=>(a.sch,a.args))=(L.take k).map (fun a=>(a.sch,a.args)) ++ [(a.sch,a.args)]:=by rw [zz hx,List.map_append];rfl
    clear hao
    repeat' (first|refine i_s rfl ?_|refine sw ?_|refine jd rfl rfl ?_|refine zl rfl ?_|refine zi rfl ?_|refine zd rfl (fun h=>?_) (fun h=>?_)|refine sf rfl rfl hP ?_|refine sf rfl rfl hA ?_|refine sf rfl rfl hD ?_|fail)
    all_goals first
     | (exfalso;clear hP hA hD;simp at *;done)
     | (exfalso;clear hP hA hD;simp at *;omega)
     | skip
    refine yU (c:=zcq F a) rfl rfl rfl rfl rfl (by omega) (by omega) ?_
    repeat' (first|refine i_s rfl ?_|refine sw ?_|refine zl rfl ?_)
    refine yU (c:=(a.sch,a.args)) rfl rfl rfl rfl rfl (by omega) (by omega) ?_
    repeat' (first|refine i_s rfl ?_|refine sw ?_|refine ja rfl rfl ?_|refine zl rfl ?_)
    refine zK hlt trivial ⟨⟨rfl,rfl,rfl,rfl,rfl,rfl,rfl,trivial⟩,⟨rfl,rfl,?_,rfl,?_,?_,trivial⟩,rfl⟩
    · rw [e1,e2];rfl
    · rw [e1];simp;rfl
    · rw [e2];simp;rfl
  have hge:k=L.length:=by omega
  subst hge
  rw [List.take_length]
  have hC:=zuX (xZ d F L) hF
  repeat' (first|refine i_s rfl ?_|refine sw ?_|refine zd rfl (fun h=>?_) (fun h=>?_))
  all_goals first
   | (exfalso;clear hC;simp at *;done)
   | (exfalso;clear hC;simp at *;omega)
   | skip
  refine zrV rfl rfl rfl rfl ?_
  refine zrV rfl rfl rfl rfl ?_
  refine zrV rfl rfl rfl rfl ?_
  repeat' (first|refine i_s rfl ?_|refine sw ?_|refine zl rfl ?_|refine sf rfl rfl hC ?_|fail)
  exact zb ⟨rfl,_,rfl,rfl⟩
def zhV:Cmd :=
 (qS [qb 3 false]
 (.seq (.ops [qm 4 0,qv 5 .lss [] 4 (-1),qm 6 5,qg 7 6 false (.mov (.t 0)),qg 8 6 false (.faddr 0 (.t 1)),qg 9 6 false (.load false 1 (.t 8)),qg 10 6 false (.len false (.t 9)),qg 11 6 false (.bin .geq false [] (.t 7) (.t 10)),qq 12 (.pick (.t 6) (.c (.bool true)) (.t 11)),qm 3 12]) .ret))
def zhW:List RVar:=[.tmp 3]
def zhX:Nat:=13
theorem zhY:zj PG 191 zhX zhW zhV=true:=by kernel_rfl
theorem zhZ (d:Dom)(hd:d.types.length≤140737488355328)(t:Int):Fc PG 191 [.int .i64 t,.cptr .p (yW d) 0] (.bool (zlY d.types.length t)):=by
 refine Fn.step zf zhY ?_
 repeat' (first|refine zo rfl ?_|refine i_s rfl ?_|refine sw ?_|refine yi rfl ?_|refine yw rfl ?_|refine i_g rfl (fun h=>?_) (fun h=>?_))
 all_goals (refine zb ⟨rfl,_,rfl,congrArg V.bool ?_⟩;unfold zlY;simp at *;(try omega))
def zln:Cmd :=
 (qS [qx 2 11392134 6 0,qc 4 0]
 (qT (qS [qm 5 1,qn 6 5,qv 7 .gtr [] 6 3]
 (.cond (.t 7) (.seq (.ops [qc 4 2]) .ret) .skip))
 (qT (qS [qm 8 1,qq 9 (.mkfn 191 [.t 2]),qk 10 17 [8,9]]
 (.cond (.t 10) (.seq (.ops [qc 4 3]) .ret) .skip))
 (.seq (.ops [qc 4 0]) .ret))))
def zlo:List RVar:=[.tmp 4]
def zlp:Nat:=11
theorem kH:zj PG 178 zlp zlo zln=true:=by kernel_rfl
theorem zc9 (d:Dom)(hd:d.types.length≤140737488355328)(l:List Int)(hl:l.length≤140737488355328):Fc PG 178 [yW d,.sl .p (l.map zk)] (.int .i64 (y4 d.types.length l)):=by
 have hC:=vW l (zlY d.types.length) 191 [.cptr .p (yW d) 0] hl (fun _ _=>rfl) rfl (fun t _=>zhZ d hd t)
 unfold y4
 by_cases h3:l.length > 3
 · rw [if_pos h3]
   refine Fn.step zf kH ?_
   repeat' (first|refine zo rfl ?_|refine i_s rfl ?_|refine sw ?_|refine zr rfl rfl ?_|refine zd rfl (fun h=>?_) (fun h=>?_))
   all_goals first
    | exact zb ⟨rfl,_,rfl,rfl⟩
    | (exfalso;simp at *;omega)
 · rw [if_neg h3]
   cases hany:l.any (zlY d.types.length) with
   | true =>
    rw [hany] at hC
    refine Fn.step zf kH ?_
    repeat' (first|refine zo rfl ?_|refine i_s rfl ?_|refine sw ?_|refine c_t rfl ?_|refine zr rfl rfl ?_|refine zd rfl (fun h=>?_) (fun h=>?_)|refine sf rfl rfl hC ?_|fail)
    all_goals first
     | exact zb ⟨rfl,_,rfl,rfl⟩
     | (exfalso;clear hC;simp at *;omega)
   | false =>
    rw [hany] at hC
    refine Fn.step zf kH ?_
    repeat' (first|refine zo rfl ?_|refine i_s rfl ?_|refine sw ?_|refine c_f rfl ?_|refine zr rfl rfl ?_|refine zd rfl (fun h=>?_) (fun h=>?_)|refine sf rfl rfl hC ?_|fail)
    all_goals first
     | exact zb ⟨rfl,_,rfl,rfl⟩
     | (exfalso;clear hC;simp at *;omega)
theorem zoj {d:Dom}{ps:List Int}{a:At} (h:a.pred < 0∨(d.preds.length:Int)≤a.pred):yF d ps a=6:=by unfold yF;rw [if_pos h]
theorem zp6 {d:Dom}{ps:List Int}{a:At}{p:Prd} (h:¬ (a.pred < 0∨(d.preds.length:Int)≤a.pred))(hp:d.preds[a.pred.toNat]? = some p)(hl:a.args.length≠p.types.length):yF d ps a=9:=by
 unfold yF;rw [if_neg h,hp];simp only;rw [if_pos hl]
theorem zok {d:Dom}{ps:List Int}{a:At}{p:Prd} (h:¬ (a.pred < 0∨(d.preds.length:Int)≤a.pred))(hp:d.preds[a.pred.toNat]? = some p)(hl:a.args.length=p.types.length):yF d ps a=(y0 (uC d ps p.types a) 0 a.args.length).getD 0:=by
 unfold yF;rw [if_neg h,hp];simp only;rw [if_neg (by simp [hl])]
def zxZ:Option Int→V
 | some t=>.tup [.int .i64 t,.bool true]
 | none=>.tup [.int .i64 0,.bool false]
def zlq:Cmd :=
 (qS [qx 3 13504198 6 0,qc 6 0,qb 7 false]
 (qT (.block 0 (qS [qm 9 2,qv 10 .geq [] 9 0,qm 11 10,qg 12 11 true (.mov (.t 2)),qg 13 11 true (.faddr 1 (.t 3)),qg 14 11 true (.load false 1 (.t 13)),qg 15 11 true (.len false (.t 14)),qg 16 11 true (.bin .lss false [] (.t 12) (.t 15)),qq 17 (.pick (.t 11) (.t 16) (.c (.bool false))),qm 8 17]
 (.cond (.t 8) (.seq (.ops [qf 18 1 3,ql 19 1 18,qm 20 2,qi 21 2 19 20,qf 22 1 21,ql 23 1 22,qm 6 23,qb 7 true]) .ret) (qS [qm 25 2,qv 26 .lss [] 25 0,qm 27 26,qg 28 27 true (.mov (.t 2)),qg 29 27 true (.mov (.t 1)),qg 30 27 true (.len false (.t 29)),qg 31 27 true (.bin .sub false [] (.c (.int .i64 0)) (.t 30)),qg 32 27 true (.bin .geq false [] (.t 28) (.t 31)),qq 33 (.pick (.t 27) (.t 32) (.c (.bool false))),qm 24 33]
 (.cond (.t 24) (.seq (.ops [qm 34 1,qm 35 2,qq 36 (.bin .sub false [] (.c (.int .i64 (-1))) (.t 35)),qi 37 1 34 36,ql 38 1 37,qm 6 38,qb 7 true]) .ret) .skip)))))
 (.seq (.ops [qc 6 0,qb 7 false]) .ret)))
def zlr:List RVar:=[.tmp 6,.tmp 7]
def zls:Nat:=39
theorem kI:zj PG 211 zls zlr zlq=true:=by kernel_rfl
theorem zlt (d:Dom)(ho:d.objects.length≤140737488355328)(ps:List Int)(hl:ps.length≤140737488355328)(x:Int)(hx:InR .i64 x):Fc PG 211 [yW d,.sl .p (ps.map zk),.int .i64 x] (zxZ (wK d ps x)):=by
 have hx1:(-9223372036854775808:Int)≤x:=hx.1
 have hx2:x≤9223372036854775807:=hx.2
 clear hx
 unfold wK
 by_cases h1:0≤x∧x < d.objects.length
 · rw [if_pos h1]
   obtain ⟨o,hoo⟩:=zh (l:=d.objects) (k:=x.toNat) (by omega)
   rw [hoo]
   refine Fn.step zf kI ?_
   repeat' (first|refine zo rfl ?_|refine i_s rfl ?_|refine sw ?_|refine yi rfl ?_|refine yw rfl ?_|refine c_f rfl ?_|refine jb rfl rfl ?_|refine jd rfl rfl ?_|refine zr rfl rfl ?_|(refine sp ?_ ?_<;>try intro h)|fail)
   all_goals first
    | exact zb ⟨rfl,_,rfl,rfl⟩
    | (exfalso;simp at *;omega)
 · rw [if_neg h1]
   by_cases h2:x < 0∧-(ps.length:Int)≤x
   · rw [if_pos h2]
     obtain ⟨t,ht⟩:=zh (l:=ps) (k:=(-1 - x).toNat) (by omega)
     rw [ht]
     refine Fn.step zf kI ?_
     repeat' (first|refine zo rfl ?_|refine i_s rfl ?_|refine sw ?_|refine yi rfl ?_|refine yw rfl ?_|refine c_f rfl ?_|refine jb rfl rfl ?_|refine jd rfl rfl ?_|refine zr rfl rfl ?_|(refine sp ?_ ?_<;>try intro h)|fail)
     all_goals first
      | exact zb ⟨rfl,_,rfl,rfl⟩
      | (exfalso;simp at *;omega)
   · rw [if_neg h2]
     refine Fn.step zf kI ?_
     repeat' (first|refine zo rfl ?_|refine i_s rfl ?_|refine sw ?_|refine yi rfl ?_|refine yw rfl ?_|refine c_f rfl ?_|refine jb rfl rfl ?_|refine zr rfl rfl ?_|(refine sp ?_ ?_<;>try intro h)|fail)
     all_goals first
      | exact zb ⟨rfl,_,rfl,rfl⟩
      | (exfalso;simp at *;omega)
def zol:Cmd :=
 (qS [qx 3 12352198 6 0,qx 5 12352322 2 2,qc 6 0]
 (qT (qS [qf 12 0 5,ql 13 1 12,qv 14 .lss [] 13 0,qm 15 14,qg 16 15 false (.faddr 0 (.t 5)),qg 17 15 false (.load false 1 (.t 16)),qg 18 15 false (.faddr 2 (.t 3)),qg 19 15 false (.load false 1 (.t 18)),qg 20 15 false (.len false (.t 19)),qg 21 15 false (.bin .geq false [] (.t 17) (.t 20)),qq 22 (.pick (.t 15) (.c (.bool true)) (.t 21))]
 (.cond (.t 22) (.seq (.ops [qc 6 6]) .ret) .skip))
 (qS [qf 23 2 3,ql 24 1 23,qf 25 0 5,ql 26 1 25,qi 27 2 24 26,qf 28 1 27,ql 29 1 28,qm 7 29]
 (qT (qS [qf 30 1 5,ql 31 1 30,qn 32 31,qm 33 7,qn 34 33,qu 35 .neq [.i] 32 34]
 (.cond (.t 35) (.seq (.ops [qc 6 9]) .ret) .skip))
 (qT (qS [qf 36 1 5,ql 37 1 36,qn 38 37,qc 39 0]
 (.block 0 (.loop (qS [qu 40 .lss [] 39 38]
 (qT (.cond (.t 40) .skip (.exit 0))
 (qT (.block 1 (qS [qm 41 39,qi 42 1 37 39,ql 43 1 42,qm 8 41,qm 9 43]
 (qS [qL 45 6 3,qm 46 1,qm 47 9,qk 48 211 [45,46,47],qm 44 48,qq 49 (.extract (.t 44) 0),qq 50 (.extract (.t 44) 1),qm 10 49,qm 11 50]
 (qT (qS [qm 51 11,qq 52 (.not (.t 51))]
 (.cond (.t 52) (.seq (.ops [qc 6 3]) .ret) .skip))
 (qS [qf 53 0 3,ql 54 1 53,qm 55 10,qm 56 7,qm 57 8,qi 58 1 56 57,ql 59 1 58,qk 60 159 [54,55,59],qq 61 (.not (.t 60))]
 (.cond (.t 61) (.seq (.ops [qc 6 8]) .ret) .skip))))))
 (.ops [qv 62 .add [] 39 1,qm 39 62])))))))
 (.seq (.ops [qc 6 0]) .ret))))))
def zom:List RVar:=[.tmp 6]
def zon:Nat:=63
theorem za4:zj PG 193 zon zom zol=true:=by kernel_rfl
theorem zoo (d:Dom)(hd:DoTy d)(ps:List Int)(hps:zo4 d ps)(a:At)(ha:AtOk a):Fc PG 193 [yW d,.sl .p (ps.map zk),atV a] (.int .i64 (yF d ps a)):=by
 have hal:=ha.len
 have hpl:=hps.1
 have hol:=hd.ol
 by_cases h1:a.pred < 0∨(d.preds.length:Int)≤a.pred
 · rw [zoj h1]
   refine Fn.step zf za4 ?_
   repeat' (first|refine zo rfl ?_|refine i_s rfl ?_|refine sw ?_|refine yi rfl ?_|refine yw rfl ?_|refine c_t rfl ?_|refine zr rfl rfl ?_|(refine sp ?_ ?_<;>try intro h)|fail)
   all_goals first
    | exact zb ⟨rfl,_,rfl,rfl⟩
    | (exfalso;simp at *;omega)
 · obtain ⟨p, hp⟩:=zh (l:=d.preds) (k:=a.pred.toNat) (by omega)
   by_cases h2:a.args.length=p.types.length
   · rw [zok h1 hp h2]
     refine Fn.step zf za4 ?_
     repeat' (first|refine zo rfl ?_|refine i_s rfl ?_|refine sw ?_|refine yi rfl ?_|refine yw rfl ?_|refine c_t rfl ?_|refine jd rfl rfl ?_|refine zr rfl rfl ?_|(refine sp ?_ ?_<;>try intro h)|fail)
     all_goals first
      | (exfalso;simp at *;omega)
      | skip
     refine ye a.args.length (fun k=>[(1,.sl .p (ps.map zk)),(3,.bptr 12352198 0),(7,.sl .p (p.types.map zk)),(37,.sl .p (a.args.map zk)),(38,.int .i64 a.args.length),(39,.int .i64 k)]) (fun _=>[(12352198,.box (yW d))]) (fun k=>∀ j,j < k→uC d ps p.types a j=none) yO ft fun k hk hi=>?_
     by_cases hlt:k < a.args.length
     · obtain ⟨x,hx⟩:=zh hlt
       obtain ⟨t,ht⟩:=zh (l:=p.types) (k:=k) (by omega)
       have hT:=zlt d (by omega) ps (by omega) x (ha.r x (zm hx))
       have hbad:uC d ps p.types a k=zdG d t (wK d ps x):=by simp only [uC,hx,ht]
       cases hu:wK d ps x with
       | none =>
        rw [hu] at hbad hT
        simp only [zdG] at hbad
        rw [wQ hi hlt hbad]
        clear hi hbad ha
        repeat' (first|refine i_s rfl ?_|refine sw ?_|refine c_t rfl ?_|refine jd rfl rfl ?_|refine zd rfl (fun h=>?_) (fun h=>?_)|refine sf rfl rfl hT ?_|fail)
        all_goals first
         | exact zb ⟨rfl,_,rfl,rfl⟩
         | (exfalso;clear hT;simp at *;omega)
       | some u =>
        rw [hu] at hbad hT
        simp only [zdG] at hbad
        obtain ⟨hu1,hu2⟩:=zr3 hd hps hu
        have hS:=zlg d.types hd.ty u t hu1 hu2
        cases hs:vK d.types u t with
        | true =>
         rw [hs] at hbad hS
         rw [if_pos rfl] at hbad
         clear ha
         repeat' (first|refine i_s rfl ?_|refine sw ?_|refine c_f rfl ?_|refine ja rfl rfl ?_|refine jd rfl rfl ?_|refine zd rfl (fun h=>?_) (fun h=>?_)|refine sf rfl rfl hT ?_|refine sf rfl rfl hS ?_|fail)
         all_goals first
          | (exact zK hlt (yN hi hbad) ft)
          | (exfalso;clear hT hS;simp at *;omega)
        | false =>
         rw [hs] at hbad hS
         rw [if_neg (by simp)] at hbad
         rw [wQ hi hlt hbad]
         clear hi hbad ha
         repeat' (first|refine i_s rfl ?_|refine sw ?_|refine c_t rfl ?_|refine c_f rfl ?_|refine jd rfl rfl ?_|refine zd rfl (fun h=>?_) (fun h=>?_)|refine sf rfl rfl hT ?_|refine sf rfl rfl hS ?_|fail)
         all_goals first
          | exact zb ⟨rfl,_,rfl,rfl⟩
          | (exfalso;clear hT hS;simp at *;omega)
     · rw [wp fun j hj=>hi j (by omega)]
       clear hi ha
       repeat' (first|refine i_s rfl ?_|refine sw ?_|refine zd rfl (fun h=>?_) (fun h=>?_))
       all_goals first
        | exact zb ⟨rfl,_,rfl,rfl⟩
        | (exfalso;simp at *;omega)
   · rw [zp6 h1 hp h2]
     refine Fn.step zf za4 ?_
     repeat' (first|refine zo rfl ?_|refine i_s rfl ?_|refine sw ?_|refine yi rfl ?_|refine yw rfl ?_|refine c_t rfl ?_|refine jd rfl rfl ?_|refine zr rfl rfl ?_|(refine sp ?_ ?_<;>try intro h)|fail)
     all_goals first
      | exact zb ⟨rfl,_,rfl,rfl⟩
      | (exfalso;simp at *;omega)
def zmI:Cmd :=
 (qS [qx 4 11648262 6 0,qc 8 0]
 (qT (qS [qm 12 2,qn 13 12,qm 14 3,qu 15 .gtr [] 13 14]
 (.cond (.t 15) (.seq (.ops [qc 8 2]) .ret) .skip))
 (qT (qS [qm 16 2,qn 17 16,qc 18 0]
 (.block 0 (.loop (qS [qu 19 .lss [] 18 17]
 (qT (.cond (.t 19) .skip (.exit 0))
 (qT (.block 1 (qS [qi 20 2 16 18,qL 21 2 20,qq 10 (.alloc 11648642 (.agg [.int .i64 0,.sl .nil []])),qs 2 10 21]
 (qS [qL 22 6 4,qm 23 1,qL 24 2 10,qk 25 193 [22,23,24],qm 11 25]
 (qS [qm 26 11,qv 27 .neq [.i] 26 0]
 (.cond (.t 27) (.seq (.ops [qm 28 11,qm 8 28]) .ret) .skip)))))
 (.ops [qv 29 .add [] 18 1,qm 18 29])))))))
 (.seq (.ops [qc 8 0]) .ret))))
def zmJ:List RVar:=[.tmp 8]
def zmK:Nat:=30
theorem zdT:zj PG 182 zmK zmJ zmI=true:=by kernel_rfl
theorem um (d:Dom)(hd:DoTy d)(ps:List Int)(hps:zo4 d ps)(l:List At)(hl:l.length≤140737488355328)(ho:∀ a∈l,AtOk a)(most:Nat)(hm:most≤1000) :
  Fc PG 182 [yW d,.sl .p (ps.map zk),.sl .p (l.map atV),.int .i64 most] (.int .i64 (zI d ps l most)):=by
 unfold zI
 by_cases h3:l.length > most
 · rw [if_pos h3]
   refine Fn.step zf zdT ?_
   repeat' (first|refine zo rfl ?_|refine i_s rfl ?_|refine sw ?_|refine zr rfl rfl ?_|refine zd rfl (fun h=>?_) (fun h=>?_))
   all_goals first
    | exact zb ⟨rfl,_,rfl,rfl⟩
    | (exfalso;simp at *;omega)
 · rw [if_neg h3]
   refine Fn.step zf zdT ?_
   repeat' (first|refine zo rfl ?_|refine i_s rfl ?_|refine sw ?_|refine zr rfl rfl ?_|refine zd rfl (fun h=>?_) (fun h=>?_))
   all_goals first
    | (exfalso;simp at *;omega)
    | skip
   refine ye l.length (fun k=>[(1,.sl .p (ps.map zk)),(4,.bptr 11648262 0),(16,.sl .p (l.map atV)),(17,.int .i64 l.length),(18,.int .i64 k)]) (fun _=>[(11648262,.box (yW d))]) (fun k=>∀ j,j < k→∀ x,l[j]? = some x→yF d ps x=0) yO ft fun k hk hi=>?_
   by_cases hlt:k < l.length
   · obtain ⟨x,hx⟩:=zh hlt
     have hA:=zoo d hd ps hps x (ho x (zm hx))
     by_cases hz:yF d ps x=0
     · rw [hz] at hA
       repeat' (first|refine i_s rfl ?_|refine sw ?_|refine c_f rfl ?_|refine ja rfl rfl ?_|refine jd rfl rfl ?_|refine zl rfl ?_|refine zi rfl ?_|refine zd rfl (fun h=>?_) (fun h=>?_)|refine sf rfl rfl hA ?_|fail)
       all_goals first
        | (exact zK hlt (yN hi fun y hy=>by rw [hx] at hy;cases hy;exact hz) ft)
        | (exfalso;clear hA;simp at *;omega)
     · rw [zq5 hi hx hz]
       clear hi
       generalize yF d ps x=e at *
       repeat' (first|refine i_s rfl ?_|refine sw ?_|refine ja rfl rfl ?_|refine jd rfl rfl ?_|refine zl rfl ?_|refine zi rfl ?_|refine zd rfl (fun h=>?_) (fun h=>?_)|refine sf rfl rfl hA ?_|fail)
       all_goals first
        | exact zb ⟨rfl,_,rfl,rfl⟩
        | (exfalso;clear hA;simp at *;omega)
   · rw [ztf fun j hj=>hi j (by omega)]
     clear hi
     repeat' (first|refine i_s rfl ?_|refine sw ?_|refine zd rfl (fun h=>?_) (fun h=>?_))
     all_goals first
      | exact zb ⟨rfl,_,rfl,rfl⟩
      | (exfalso;simp at *;omega)
def zh0:Cmd :=
 (qS [qx 3 10112198 6 0,qc 6 0]
 (qS [qq 7 (.newVec 10112450)]
 (qT (qS [qm 10 2,qn 11 10,qc 12 0]
 (.block 0 (.loop (qS [qu 13 .lss [] 12 11]
 (qT (.cond (.t 13) .skip (.exit 0))
 (qT (.block 1 (qS [qi 14 3 10 12,qL 15 3 14,qq 9 (.alloc 10112579 (.agg [.bool false,.int .i64 0,.sl .nil []])),qs 3 9 15]
 (.ops [qm 16 7,qf 17 1 9,qL 18 2 17,qq 19 (.bsl 2 [.t 18]),qq 20 (.append 2 32 111 (.t 16) (.t 19)),qm 7 20])))
 (.ops [qv 21 .add [] 12 1,qm 12 21])))))))
 (.seq (.ops [qL 22 6 3,qm 23 1,qm 24 7,qq 25 (.call .f (.c (.fn 182 [])) [.t 22,.t 23,.t 24,.c (.int .i64 8)]),qm 6 25]) .ret))))
def zh1:List RVar:=[.tmp 6]
def zh2:Nat:=26
theorem zh3:zj PG 158 zh2 zh1 zh0=true:=by kernel_rfl
theorem za7 (d : Dom) (hd : DoTy d) (ps:List Int)(hps:zo4 d ps)(l:List Lit)(hl:l.length≤3518437208883)(ho:∀ x∈l,AtOk x.at_) :
  Fc PG 158 [yW d,.sl .p (ps.map zk),.sl .p (l.map zY)] (.int .i64 (zI d ps (l.map Lit.at_) 8)):=by
 have hA:=um d hd ps hps (l.map Lit.at_) (by simp;omega) (by intro a ha;obtain ⟨x,hx,rfl⟩:=List.mem_map.1 ha;exact ho x hx) 8 (by omega)
 refine Fn.step zf zh3 ?_
 repeat (first|refine zo rfl ?_|refine i_s rfl ?_|refine sw ?_|refine zr rfl rfl ?_|refine zem rfl ?_)
 refine ye l.length (fun k=>[(1,.sl .p (ps.map zk)),(3,.bptr 10112198 0),(7,.sl (.own 10112450) (((l.take k).map Lit.at_).map atV)),(10,.sl .p (l.map zY)),(11,.int .i64 l.length),(12,.int .i64 k)]) (fun k=>[(10112198,.box (yW d)),(10112450,.vec (l.take k).length)]) (fun _=>True) trivial ⟨⟨rfl,rfl,by simp;rfl,rfl,rfl,rfl,trivial⟩,⟨rfl,by simp;rfl,trivial⟩,rfl⟩ fun k hk _=>?_
 have htl:(l.take k).length=k:=by rw [List.length_take];omega
 repeat (first|refine i_s rfl ?_|refine sw ?_)
 refine zd rfl (fun h=>?_) (fun h=>?_)
 · have hlt:k < l.length:=by simpa using h
   obtain ⟨x,hx⟩:=zh hlt
   clear h hA
   repeat (first|refine i_s rfl ?_|refine sw ?_|refine jd rfl rfl ?_|refine zl rfl ?_|refine zi rfl ?_)
   refine yU (l:=(l.take k).map Lit.at_) (f:=atV) (c:=x.at_) (k:=(l.take k).length) rfl rfl rfl (by simp) rfl (by omega) (by omega) ?_
   repeat (first|refine i_s rfl ?_|refine sw ?_|refine ja rfl rfl ?_)
   refine zK hlt trivial ⟨⟨rfl,rfl,?_,rfl,rfl,rfl,trivial⟩,⟨rfl,?_,trivial⟩,rfl⟩
   · rw [zz hx];simp;rfl
   · rw [zz hx];simp;rfl
 · have hge : k = l.length := by have:¬ k < l.length:=by simpa using h
                                 omega
   subst hge
   rw [List.take_length]
   clear h
   repeat' (first|refine i_s rfl ?_|refine sw ?_|refine sf rfl rfl hA ?_|fail)
   exact zb ⟨rfl,_,rfl,rfl⟩
def zeT:Cmd :=
 (qS [qx 2 11328130 2 0,qb 3 false]
 (.seq (.ops [qf 4 0 2,ql 5 1 4,qf 6 0 1,ql 7 1 6,qu 8 .eql [.s] 5 7,qm 3 8]) .ret))
def zeU:List RVar:=[.tmp 3]
def zeV:Nat:=9
theorem zeW:zj PG 177 zeV zeU zeT=true:=by kernel_rfl
theorem zeX (u t:Prd):Fc PG 177 [wy u,.cptr .p (wy t) 0] (.bool (u.name == t.name)):=by
 refine Fn.step zf zeW ?_
 repeat' (first|refine i_s rfl ?_|refine sw ?_|refine zr rfl rfl ?_)
 exact zb ⟨rfl,_,rfl,rfl⟩
def zgH:Cmd :=
 (qS [qx 2 9920134 6 0,qc 4 0]
 (qS [qf 6 2 2,ql 7 1 6,qm 8 1,qi 9 2 7 8,qL 10 2 9,qq 5 (.alloc 9920322 (.agg [.str [],.sl .nil []])),qs 2 5 10]
 (qT (.block 0 (qS [qf 12 0 5,ql 13 1 12,qk 14 171 [13],qq 15 (.not (.t 14)),qm 16 15,qg 17 16 false (.faddr 0 (.t 5)),qg 18 16 false (.load false 1 (.t 17)),qg 19 16 false (.bin .eql false [.s] (.t 18) (.c (.str [110,111,116]))),qq 20 (.pick (.t 16) (.c (.bool true)) (.t 19)),qm 11 20]
 (.cond (.t 11) (.seq (.ops [qc 4 12]) .ret) (qS [qf 22 2 2,ql 23 1 22,qm 24 1,qq 25 (.slice false 2 (.t 23) none (some (.t 24))),qq 26 (.mkfn 177 [.t 5]),qk 27 176 [25,26],qm 21 27]
 (.cond (.t 21) (.seq (.ops [qc 4 7]) .ret) .skip)))))
 (.seq (.ops [qL 28 6 2,qf 29 1 5,ql 30 1 29,qk 31 178 [28,30],qm 4 31]) .ret))))
def zgI:List RVar:=[.tmp 4]
def zgJ:Nat:=32
theorem wu:zj PG 155 zgJ zgI zgH=true:=by kernel_rfl
theorem zgK (d:Dom)(ho:DoOk d)(i:Nat)(p:Prd)(hp:d.preds[i]? = some p):Fc PG 155 [yW d,.int .i64 i] (.int .i64 (wj d i)):=by
 have hlt:=yn hp
 have hpl:=ho.preds.1
 have hpo:=ho.preds.2 p (zm hp)
 have hN:=ul p.name hpo.1
 have hC:=zci (d.preds.take i) (fun q=>q.name == p.name) 177 [.cptr .p (wy p) 0] (by simp;omega) (fun _ _=>rfl) rfl (fun u _=>zeX u p)
 have hP:=zc9 d ho.types.1 p.types (by omega)
 have hcode:wj d i=if wq p.name=false∨p.name=zr2 then 12 else if (d.preds.take i).any (fun q=>q.name == p.name)=true then 7 else y4 d.types.length p.types:=by simp only [wj,hp]
 rw [hcode]
 clear hcode
 generalize wq p.name=b1 at *
 generalize (d.preds.take i).any (fun q=>q.name == p.name)=b2 at *
 generalize y4 d.types.length p.types=e at *
 clear ho
 cases b1 with
 | false =>
  rw [if_pos (.inl rfl)]
  refine Fn.step zf wu ?_
  repeat' (first|refine i_s rfl ?_|refine sw ?_|refine yw rfl ?_|refine c_t rfl ?_|refine jd rfl rfl ?_|refine zl rfl ?_|refine zi rfl ?_|refine zr rfl rfl ?_|refine sf rfl rfl hN ?_|fail)
  all_goals first
   | exact zb ⟨rfl,_,rfl,rfl⟩
   | (exfalso;clear hN hC hP;simp at *;done)
 | true =>
  by_cases c2:p.name=zr2
  · rw [if_pos (.inr c2)]
    have c3:(p.name == [110,111,116])=true:=by rw [c2];rfl
    refine Fn.step zf wu ?_
    repeat' (first|refine i_s rfl ?_|refine sw ?_|refine yi rfl ?_|refine jd rfl rfl ?_|refine jh rfl rfl ?_|refine zl rfl ?_|refine zi rfl ?_|refine zr rfl rfl ?_|refine zd rfl (fun h=>?_) (fun h=>?_)|refine sf rfl rfl hN ?_|fail)
    all_goals first
     | exact zb ⟨rfl,_,rfl,rfl⟩
     | (exfalso;clear hN hC hP;simp_all;done)
  · rw [if_neg (by simp [c2])]
    have c3:(p.name == [110,111,116])=false:=by rw [beq_eq_false_iff_ne];exact c2
    cases b2 with
    | true =>
     rw [if_pos rfl]
     refine Fn.step zf wu ?_
     repeat' (first|refine i_s rfl ?_|refine sw ?_|refine yi rfl ?_|refine c_t rfl ?_|refine jd rfl rfl ?_|refine jh rfl rfl ?_|refine zl rfl ?_|refine zi rfl ?_|refine zr rfl rfl ?_|refine zd rfl (fun h=>?_) (fun h=>?_)|refine sf rfl rfl hN ?_|refine sf rfl rfl hC ?_|fail)
     all_goals first
      | exact zb ⟨rfl,_,rfl,rfl⟩
      | (exfalso;clear hN hC hP;simp_all;done)
    | false =>
     rw [if_neg (by simp)]
     refine Fn.step zf wu ?_
     repeat' (first|refine i_s rfl ?_|refine sw ?_|refine yi rfl ?_|refine c_f rfl ?_|refine jd rfl rfl ?_|refine jh rfl rfl ?_|refine zl rfl ?_|refine zi rfl ?_|refine zr rfl rfl ?_|refine zd rfl (fun h=>?_) (fun h=>?_)|refine sf rfl rfl hN ?_|refine sf rfl rfl hC ?_|refine sf rfl rfl hP ?_|fail)
     all_goals first
      | exact zb ⟨rfl,_,rfl,rfl⟩
      | (exfalso;clear hN hC hP;simp_all;done)
def zh4:Cmd :=
 (qS [qx 2 11520135 7 0,qb 3 false]
 (.seq (.ops [qf 4 0 2,ql 5 1 4,qf 6 0 1,ql 7 1 6,qu 8 .eql [.s] 5 7,qm 3 8]) .ret))
def zh5:List RVar:=[.tmp 3]
def zh6:Nat:=9
theorem zh7:zj PG 180 zh6 zh5 zh4=true:=by kernel_rfl
theorem zh8 (u t:Sch):Fc PG 180 [xF u,.cptr .p (xF t) 0] (.bool (u.name == t.name)):=by
 refine Fn.step zf zh7 ?_
 repeat' (first|refine i_s rfl ?_|refine sw ?_|refine zr rfl rfl ?_)
 exact zb ⟨rfl,_,rfl,rfl⟩
def zh9:Cmd :=
 (qS [qx 2 11584130 2 0,qb 3 false]
 (.seq (.ops [qf 4 0 2,ql 5 1 4,qv 6 .lss [] 5 0,qm 7 6,qg 8 7 false (.faddr 0 (.t 2)),qg 9 7 false (.load false 1 (.t 8)),qg 10 7 false (.faddr 1 (.t 2)),qg 11 7 false (.load false 1 (.t 10)),qg 12 7 false (.bin .geq false [] (.t 9) (.t 11)),qq 13 (.pick (.t 7) (.c (.bool true)) (.t 12)),qm 14 13,qg 15 14 false (.faddr 1 (.t 2)),qg 16 14 false (.load false 1 (.t 15)),qg 17 14 false (.load false 1 (.t 1)),qg 18 14 false (.bin .geq false [] (.t 16) (.t 17)),qq 19 (.pick (.t 14) (.c (.bool true)) (.t 18)),qm 3 19]) .ret))
def zia:List RVar:=[.tmp 3]
def zib:Nat:=20
theorem zic:zj PG 181 zib zia zh9=true:=by kernel_rfl
theorem zid (p:Int × Int)(n:Nat):Fc PG 181 [uM p,.cptr .p (.int .i64 n) 0] (.bool (qy n p)):=by
 refine Fn.step zf zic ?_
 repeat' (first|refine i_s rfl ?_|refine sw ?_|refine yi rfl ?_|refine yw rfl ?_|refine zr rfl rfl ?_|refine i_g rfl (fun h=>?_) (fun h=>?_))
 all_goals (refine zb ⟨rfl,_,rfl,congrArg V.bool ?_⟩;unfold qy;rw [Bool.eq_iff_iff];simp at *;(try omega))
theorem zsw {d:Dom}{s:Sch} (h:y4 d.types.length s.types=0):zo4 d s.types:=by
 obtain ⟨h1,h2⟩:=zaL h
 exact ⟨by omega,h2⟩
def zlu:Cmd :=
 (qS [qx 2 9984134 6 0,qc 4 0]
 (qS [qf 13 3 2,ql 14 1 13,qm 15 1,qi 16 7 14 15,qL 17 7 16,qq 5 (.alloc 9984327 (.agg [.str [],.sl .nil [],.sl .nil [],.sl .nil [],.sl .nil [],.sl .nil [],.int .i64 0])),qs 7 5 17]
 (qT (.block 0 (qS [qf 19 0 5,ql 20 1 19,qk 21 171 [20],qq 22 (.not (.t 21)),qm 18 22]
 (.cond (.t 18) (.seq (.ops [qc 4 12]) .ret) (qS [qf 24 3 2,ql 25 1 24,qm 26 1,qq 27 (.slice false 7 (.t 25) none (some (.t 26))),qq 28 (.mkfn 180 [.t 5]),qk 29 179 [27,28],qm 23 29]
 (.cond (.t 23) (.seq (.ops [qc 4 7]) .ret) .skip)))))
 (qT (qS [qL 30 6 2,qf 31 1 5,ql 32 1 31,qk 33 178 [30,32],qm 6 33]
 (qS [qm 34 6,qv 35 .neq [.i] 34 0]
 (.cond (.t 35) (.seq (.ops [qm 36 6,qm 4 36]) .ret) .skip)))
 (qS [qf 37 1 5,ql 38 1 37,qn 39 38,qq 7 (.alloc 9984449 (.int .i64 0)),qs 1 7 39]
 (qS [qq 40 (.mkfn 181 [.t 7]),qm 8 40]
 (qT (qS [qf 41 2 5,ql 42 1 41,qn 43 42,qv 44 .gtr [] 43 8]
 (.cond (.t 44) (.seq (.ops [qc 4 2]) .ret) .skip))
 (qT (qS [qf 45 2 5,ql 46 1 45,qm 47 8,qk 48 83 [46,47]]
 (.cond (.t 48) (.seq (.ops [qc 4 3]) .ret) .skip))
 (qT (qS [qL 49 6 2,qf 50 1 5,ql 51 1 50,qf 52 3 5,ql 53 1 52,qk 54 158 [49,51,53],qm 9 54]
 (qS [qm 55 9,qv 56 .neq [.i] 55 0]
 (.cond (.t 56) (.seq (.ops [qm 57 9,qm 4 57]) .ret) .skip)))
 (qT (qS [qf 58 4 5,ql 59 1 58,qf 60 5 5,ql 61 1 60,qq 62 (.bsl 1 [.t 59,.t 61]),qn 63 62,qc 64 0]
 (.block 1 (.loop (qS [qu 65 .lss [] 64 63]
 (qT (.cond (.t 65) .skip (.exit 1))
 (qT (.block 2 (qS [qi 66 1 62 64,ql 67 1 66,qm 11 67]
 (qS [qL 68 6 2,qf 69 1 5,ql 70 1 69,qm 71 11,qq 72 (.call .f (.c (.fn 182 [])) [.t 68,.t 70,.t 71,.c (.int .i64 8)]),qm 12 72]
 (qS [qm 73 12,qv 74 .neq [.i] 73 0]
 (.cond (.t 74) (.seq (.ops [qm 75 12,qm 4 75]) .ret) .skip)))))
 (.ops [qv 76 .add [] 64 1,qm 64 76])))))))
 (qT (qS [qf 77 6 5,ql 78 1 77,qv 79 .lss [] 78 0,qm 80 79,qg 81 80 false (.faddr 6 (.t 5)),qg 82 80 false (.load false 1 (.t 81)),qg 83 80 false (.bin .gtr false [] (.t 82) (.c (.int .i64 100))),qq 84 (.pick (.t 80) (.c (.bool true)) (.t 83))]
 (.cond (.t 84) (.seq (.ops [qc 4 3]) .ret) .skip))
 (.seq (.ops [qc 4 0]) .ret))))))))))))
def zlv:List RVar:=[.tmp 4]
def zlw:Nat:=85
theorem xq:zj PG 156 zlw zlv zlu=true:=by kernel_rfl
theorem zlx (d : Dom)(hd:DoTy d)(ho:DoOk d)(i:Nat)(s:Sch)(hp:d.schemas[i]? = some s):Fc PG 156 [yW d,.int .i64 i] (.int .i64 (x3 d i)):=by
 have hlt:=yn hp
 have hpl:=ho.schemas.1
 have hso:=ho.schemas.2 s (zm hp)
 have hst:=hso.types
 have hsd:=hso.diff
 have hN:=ul s.name hso.name
 have hC:=zdK (d.schemas.take i) (fun q=>q.name == s.name) 180 [.cptr .p (xF s) 0] (by simp;omega) (fun _ _=>rfl) rfl (fun u _=>zh8 u s)
 have hP:=zc9 d ho.types.1 s.types (by omega)
 have hcode:x3 d i=if wq s.name=false then 12 else if (d.schemas.take i).any (fun q=>q.name == s.name)=true then 7 else xy d s:=by simp only [x3,hp]
 rw [hcode]
 clear hcode
 generalize (d.schemas.take i).any (fun q=>q.name == s.name)=b2 at *
 generalize wq s.name=b1 at *
 cases b1 with
 | false =>
  rw [if_pos rfl]
  refine Fn.step zf xq ?_
  repeat' (first|refine i_s rfl ?_|refine sw ?_|refine c_t rfl ?_|refine jd rfl rfl ?_|refine zl rfl ?_|refine zi rfl ?_|refine zr rfl rfl ?_|refine sf rfl rfl hN ?_|fail)
  all_goals first
   | exact zb ⟨rfl,_,rfl,rfl⟩
   | (exfalso;clear hN hC hP;simp at *;done)
 | true =>
  rw [if_neg (by simp)]
  cases b2 with
  | true =>
   rw [if_pos rfl]
   refine Fn.step zf xq ?_
   repeat' (first|refine i_s rfl ?_|refine sw ?_|refine c_t rfl ?_|refine c_f rfl ?_|refine jd rfl rfl ?_|refine jh rfl rfl ?_|refine zl rfl ?_|refine zi rfl ?_|refine zr rfl rfl ?_|refine sf rfl rfl hN ?_|refine sf rfl rfl hC ?_|fail)
   all_goals first
    | exact zb ⟨rfl,_,rfl,rfl⟩
    | (exfalso;clear hN hC hP;simp at *;done)
  | false =>
   rw [if_neg (by simp)]
   by_cases h1:y4 d.types.length s.types=0
   · have hps := zsw h1
     rw [h1] at hP
     by_cases h2:s.diff.length > 8
     · have e:xy d s=2:=by unfold xy;rw [if_neg (by simp [h1]),if_pos h2]
       rw [e]
       refine Fn.step zf xq ?_
       repeat' (first|refine zo rfl ?_|refine i_s rfl ?_|refine sw ?_|refine c_f rfl ?_|refine jd rfl rfl ?_|refine jh rfl rfl ?_|refine zl rfl ?_|refine zi rfl ?_|refine zr rfl rfl ?_|refine zd rfl (fun h=>?_) (fun h=>?_)|refine sf rfl rfl hN ?_|refine sf rfl rfl hC ?_|refine sf rfl rfl hP ?_|fail)
       all_goals first
        | exact zb ⟨rfl,_,rfl,rfl⟩
        | (exfalso;clear hN hC hP;simp at *;omega)
     · have hD := kA s.diff (qy s.types.length) 181 [.cptr .p (.int .i64 s.types.length) 0] (by omega) (fun _ _=>rfl) rfl (fun q _=>zid q s.types.length)
       cases h3:s.diff.any (qy s.types.length) with
       | true =>
        have e:xy d s=3:=by unfold xy;rw [if_neg (by simp [h1]),if_neg h2,if_pos h3]
        rw [e]
        rw [h3] at hD
        refine Fn.step zf xq ?_
        repeat' (first|refine zo rfl ?_|refine i_s rfl ?_|refine sw ?_|refine c_t rfl ?_|refine c_f rfl ?_|refine jd rfl rfl ?_|refine jh rfl rfl ?_|refine zl rfl ?_|refine zi rfl ?_|refine zr rfl rfl ?_|refine zd rfl (fun h=>?_) (fun h=>?_)|refine sf rfl rfl hN ?_|refine sf rfl rfl hC ?_|refine sf rfl rfl hP ?_|refine sf rfl rfl hD ?_|fail)
        all_goals first
         | exact zb ⟨rfl,_,rfl,rfl⟩
         | (exfalso;clear hN hC hP hD;simp at *;omega)
       | false =>
        rw [h3] at hD
        have hL:=za7 d hd s.types hps s.pre hso.pre hso.preA
        have hA1:=um d hd s.types hps s.add (by have:=hso.add;omega) hso.addA 8 (by omega)
        have hA2:=um d hd s.types hps s.del (by have:=hso.del;omega) hso.delA 8 (by omega)
        have e:xy d s=if zI d s.types (s.pre.map Lit.at_) 8≠0 then zI d s.types (s.pre.map Lit.at_) 8 else if zI d s.types s.add 8≠0 then zI d s.types s.add 8 else if zI d s.types s.del 8≠0 then zI d s.types s.del 8
         else if s.cost < 0∨s.cost > 100 then 3 else 0:=by unfold xy;rw [if_neg (by simp [h1]),if_neg h2,if_neg (by simp [h3])]
        rw [e]
        clear e ho hso hps h1 h3
        generalize zI d s.types (s.pre.map Lit.at_) 8=c1 at *
        generalize zI d s.types s.add 8=c2 at *
        generalize zI d s.types s.del 8=c3 at *
        by_cases z1:c1=0
        · subst z1
          rw [if_neg (by simp)]
          refine Fn.step zf xq ?_
          repeat' (first|refine zo rfl ?_|refine i_s rfl ?_|refine sw ?_|refine c_f rfl ?_|refine jd rfl rfl ?_|refine jh rfl rfl ?_|refine zl rfl ?_|refine zi rfl ?_|refine zr rfl rfl ?_|refine zd rfl (fun h=>?_) (fun h=>?_)|refine sf rfl rfl hN ?_|refine sf rfl rfl hC ?_|refine sf rfl rfl hP ?_|refine sf rfl rfl hD ?_|refine sf rfl rfl hL ?_|fail)
          all_goals first
           | (exfalso;clear hN hC hP hD hL hA1 hA2;simp at *;omega)
           | skip
          clear hN hC hP hD hL
          refine ye 2 (fun k=>[(2,.bptr 9984134 0),(5,.bptr 9984327 0),(62,.sl .p ([s.add,s.del].map fun l=>V.sl .p (l.map atV))),(63,.int .i64 2),(64,.int .i64 k)]) (fun _=>[(9984134,.box (yW d)),(9984327,.box (xF s))]) (fun k=>(0 < k→c2=0)∧(1 < k→c3=0)) (by simp) ft fun k hk hi=>?_
          have ha:([s.add,s.del]:List (List At))[0]? = some s.add:=rfl
          have hb:([s.add,s.del]:List (List At))[1]? = some s.del:=rfl
          have hk3:k=0∨k=1∨k=2:=by omega
          rcases hk3 with rfl|rfl|rfl
          · clear hi hA2
            by_cases z2:c2=0
            · subst z2
              repeat' (first|refine i_s rfl ?_|refine sw ?_|refine c_t rfl ?_|refine c_f rfl ?_|refine ja rfl rfl ?_|refine jd rfl rfl ?_|refine sf rfl rfl hA1 ?_|fail)
              all_goals first
               | (exact zK (by omega) ⟨fun _=>rfl,fun h=>by omega⟩ ft)
               | (exfalso;clear hA1;simp at *;done)
            · rw [if_pos z2]
              repeat' (first|refine i_s rfl ?_|refine sw ?_|refine c_t rfl ?_|refine ja rfl rfl ?_|refine jd rfl rfl ?_|refine zd rfl (fun h=>?_) (fun h=>?_)|refine sf rfl rfl hA1 ?_|fail)
              all_goals first
               | exact zb ⟨rfl,_,rfl,rfl⟩
               | (exfalso;clear hA1;simp_all;done)
          · have z2:=hi.1 (by omega)
            rw [if_neg (by simp [z2])]
            clear hA1 hi
            by_cases z3:c3=0
            · subst z3
              repeat' (first|refine i_s rfl ?_|refine sw ?_|refine c_t rfl ?_|refine c_f rfl ?_|refine ja rfl rfl ?_|refine jd rfl rfl ?_|refine sf rfl rfl hA2 ?_|fail)
              all_goals first
               | (exact zK (by omega) ⟨fun _=>z2,fun h=>rfl⟩ ft)
               | (exfalso;clear hA2;simp at *;done)
            · rw [if_pos z3]
              repeat' (first|refine i_s rfl ?_|refine sw ?_|refine c_t rfl ?_|refine ja rfl rfl ?_|refine jd rfl rfl ?_|refine zd rfl (fun h=>?_) (fun h=>?_)|refine sf rfl rfl hA2 ?_|fail)
              all_goals first
               | exact zb ⟨rfl,_,rfl,rfl⟩
               | (exfalso;clear hA2;simp_all;done)
          · have z2:=hi.1 (by omega)
            have z3:=hi.2 (by omega)
            rw [if_neg (by simp [z2]),if_neg (by simp [z3])]
            clear hA1 hA2 hi
            repeat' (first|refine i_s rfl ?_|refine sw ?_|refine yi rfl ?_|refine yw rfl ?_|refine c_t rfl ?_|refine c_f rfl ?_|(refine sp ?_ ?_<;>try intro h)|fail)
            all_goals first
             | (refine zb ⟨rfl,_,rfl,congrArg (V.int .i64) ?_⟩;simp at *;omega)
             | (exfalso;simp at *;omega)
             | (refine zb ⟨rfl,_,rfl,congrArg (V.int .i64) ?_⟩;simp at *;(repeat' split)<;>omega)
        · rw [if_pos z1]
          refine Fn.step zf xq ?_
          repeat' (first|refine zo rfl ?_|refine i_s rfl ?_|refine sw ?_|refine c_f rfl ?_|refine jd rfl rfl ?_|refine jh rfl rfl ?_|refine zl rfl ?_|refine zi rfl ?_|refine zr rfl rfl ?_|refine zd rfl (fun h=>?_) (fun h=>?_)|refine sf rfl rfl hN ?_|refine sf rfl rfl hC ?_|refine sf rfl rfl hP ?_|refine sf rfl rfl hD ?_|refine sf rfl rfl hL ?_|fail)
          all_goals first
           | exact zb ⟨rfl,_,rfl,rfl⟩
           | (exfalso;clear hN hC hP hD hL hA1 hA2;simp at *;omega)
           | (exfalso;clear hN hC hP hD hL hA1 hA2;simp_all;done)
   · have e:xy d s=y4 d.types.length s.types:=by unfold xy;rw [if_pos h1]
     rw [e]
     clear e ho hso
     generalize y4 d.types.length s.types=c at *
     refine Fn.step zf xq ?_
     repeat' (first|refine zo rfl ?_|refine i_s rfl ?_|refine sw ?_|refine c_f rfl ?_|refine jd rfl rfl ?_|refine jh rfl rfl ?_|refine zl rfl ?_|refine zi rfl ?_|refine zr rfl rfl ?_|refine zd rfl (fun h=>?_) (fun h=>?_)|refine sf rfl rfl hN ?_|refine sf rfl rfl hC ?_|refine sf rfl rfl hP ?_|fail)
     all_goals first
      | exact zb ⟨rfl,_,rfl,rfl⟩
      | (exfalso;clear hN hC hP;simp_all;done)
def zjT:Cmd :=
 (qS [qx 2 11712130 2 0,qb 3 false]
 (.seq (.ops [qL 4 2 1,qL 5 2 2,qk 6 129 [4,5],qv 7 .eql [.i] 6 0,qm 3 7]) .ret))
def zjU:List RVar:=[.tmp 3]
def zjV:Nat:=8
theorem zjW:zj PG 183 zjV zjU zjT=true:=by kernel_rfl
theorem zjX (u t:At)(hu:AtOk u)(ht:AtOk t):Fc PG 183 [atV u,.cptr .p (atV t) 0] (.bool (decide (t=u))):=by
 have h:=x8 t u ht hu
 refine Fn.step zf zjW ?_
 repeat' (first|refine i_s rfl ?_|refine sw ?_|refine zr rfl rfl ?_|refine sf rfl rfl h ?_|fail)
 refine zb ⟨rfl,_,rfl,congrArg V.bool ?_⟩
 by_cases e:t=u
 · rw [yD.2 e,decide_eq_true e];rfl
 · have:yb t u≠0:=fun h=>e (yD.1 h)
   rw [decide_eq_false e]
   simpa using this
def zmL:Cmd :=
 (qS [qx 1 10048070 6 0,qc 2 0]
 (qT (qS [qL 6 6 1,qf 7 4 1,ql 8 1 7,qq 9 (.call .f (.c (.fn 182 [])) [.t 6,.c (.sl .nil []),.t 8,.c (.int .i64 40)]),qm 3 9]
 (qS [qm 10 3,qv 11 .neq [.i] 10 0]
 (.cond (.t 11) (.seq (.ops [qm 12 3,qm 2 12]) .ret) .skip)))
 (qT (qS [qf 13 4 1,ql 14 1 13,qn 15 14,qc 16 0]
 (.block 0 (.loop (qS [qu 17 .lss [] 16 15]
 (qT (.cond (.t 17) .skip (.exit 0))
 (qT (.block 1 (qS [qm 18 16,qi 19 2 14 16,qL 20 2 19,qq 5 (.alloc 10048322 (.agg [.int .i64 0,.sl .nil []])),qm 4 18,qs 2 5 20]
 (qS [qf 21 4 1,ql 22 1 21,qm 23 4,qq 24 (.slice false 2 (.t 22) none (some (.t 23))),qq 25 (.mkfn 183 [.t 5]),qk 26 127 [24,25]]
 (.cond (.t 26) (.seq (.ops [qc 2 7]) .ret) .skip))))
 (.ops [qv 27 .add [] 16 1,qm 16 27])))))))
 (.seq (.ops [qc 2 0]) .ret))))
def zmM:List RVar:=[.tmp 2]
def zmN:Nat:=28
theorem zdU:zj PG 157 zmN zmM zmL=true:=by kernel_rfl
theorem zmO (d:Dom)(hd:DoTy d)(ho:DoOk d):Fc PG 157 [yW d] (.int .i64 (vM d)):=by
 have hil:=ho.init.1
 have hA:=um d hd [] ⟨by simp,by simp⟩ d.init (by omega) ho.init.2 40 (by omega)
 unfold vM
 by_cases z:zI d [] d.init 40=0
 · rw [if_neg (by simp [z])]
   rw [z] at hA
   refine Fn.step zf zdU ?_
   repeat' (first|refine zo rfl ?_|refine i_s rfl ?_|refine sw ?_|refine c_f rfl ?_|refine zr rfl rfl ?_|refine sf rfl rfl hA ?_|fail)
   all_goals first
    | (exfalso;clear hA;simp at *;done)
    | skip
   clear hA
   refine ye d.init.length (fun k=>[(1,.bptr 10048070 0),(14,.sl .p (d.init.map atV)),(15,.int .i64 d.init.length),(16,.int .i64 k)]) (fun _=>[(10048070,.box (yW d))]) (fun k=>∀ j,j < k→uD d.init j=none) yO ft fun k hk hi=>?_
   by_cases hlt:k < d.init.length
   · obtain ⟨x,hx⟩:=zh hlt
     have hxo:=ho.init.2 x (zm hx)
     have hC:=k9 (d.init.take k) (fun u=>decide (x=u)) 183 [.cptr .p (atV x) 0] (by simp;omega) (fun _ _=>rfl) rfl (fun u hu=>zjX u x (ho.init.2 u (List.mem_of_mem_take hu)) hxo)
     have hbad:uD d.init k=if x∈d.init.take k then some 7 else none:=by simp only [uD,hx]
     have hany:(d.init.take k).any (fun u=>decide (x=u))=decide (x∈d.init.take k):=by
      rw [Bool.eq_iff_iff]
      simp
     rw [hany] at hC
     by_cases hm:x∈d.init.take k
     · rw [if_pos hm] at hbad
       rw [decide_eq_true hm] at hC
       rw [wQ hi hlt hbad]
       clear hi hbad hm hany ho
       repeat' (first|refine i_s rfl ?_|refine sw ?_|refine c_t rfl ?_|refine jd rfl rfl ?_|refine jh rfl rfl ?_|refine zl rfl ?_|refine zi rfl ?_|refine zd rfl (fun h=>?_) (fun h=>?_)|refine sf rfl rfl hC ?_|fail)
       all_goals first
        | exact zb ⟨rfl,_,rfl,rfl⟩
        | (exfalso;clear hC;simp at *;omega)
     · rw [if_neg hm] at hbad
       rw [decide_eq_false hm] at hC
       clear hm hany ho
       repeat' (first|refine i_s rfl ?_|refine sw ?_|refine c_f rfl ?_|refine ja rfl rfl ?_|refine jd rfl rfl ?_|refine jh rfl rfl ?_|refine zl rfl ?_|refine zi rfl ?_|refine zd rfl (fun h=>?_) (fun h=>?_)|refine sf rfl rfl hC ?_|fail)
       all_goals first
        | (exact zK hlt (yN hi hbad) ft)
        | (exfalso;clear hC;simp at *;omega)
   · rw [wp fun j hj=>hi j (by omega)]
     clear hi ho
     repeat' (first|refine i_s rfl ?_|refine sw ?_|refine zd rfl (fun h=>?_) (fun h=>?_))
     all_goals first
      | exact zb ⟨rfl,_,rfl,rfl⟩
      | (exfalso;simp at *;omega)
 · rw [if_pos z]
   clear ho
   generalize zI d [] d.init 40=c at *
   refine Fn.step zf zdU ?_
   repeat' (first|refine zo rfl ?_|refine i_s rfl ?_|refine sw ?_|refine zr rfl rfl ?_|refine zd rfl (fun h=>?_) (fun h=>?_)|refine sf rfl rfl hA ?_|fail)
   all_goals first
    | exact zb ⟨rfl,_,rfl,rfl⟩
    | (exfalso;clear hA;simp_all;done)
end Hm
end
section
namespace Hm
open Go
set_option maxRecDepth 100000
set_option maxHeartbeats 1000000
theorem zly (n:Nat)(l:List Obj)(i:Nat):∀ f,xI n l i=some f→f.code≠0:=by
 intro f h
 unfold xI at h
 split at h
 · cases h
 · repeat' split at h
   all_goals cases h
   all_goals simp
theorem zgL {n:Nat}{l:List Obj} (h:zH n l=okF):l.length≤8∧∀ o∈l,-1≤o.type∧o.type < n:=by
 unfold zH at h
 split at h
 · cases h
 · rename_i h8
   have hs:=zlZ (xE (bad:=xI n l) (fun o=>∀ f,o=some f→f.code≠0) (by simp) (fun i=>zly n l i) l.length 0) h
   refine ⟨by omega,fun o ho=>?_⟩
   obtain ⟨i,hi,e⟩:=List.getElem_of_mem ho
   have hg:l[i]? = some o:=by rw [← e];exact List.getElem?_eq_getElem hi
   have:=vL _ _ hs i (Nat.zero_le _) (by omega)
   unfold xI at this
   rw [hg] at this
   simp only at this
   split at this
   · cases this
   · split at this
     · cases this
     · split at this
       · cases this
       · omega
theorem zie (n:Nat)(l:List Obj):(zH n l).code=0↔zH n l=okF:=by
 refine ⟨fun h=>?_,fun h=>by rw [h];rfl⟩
 unfold zH at h ⊢
 split at h
 · cases h
 · rename_i h8
   rw [if_neg h8]
   have:=xE (bad:=xI n l) (fun o=>∀ f,o=some f→f.code≠0) (by simp) (fun i=>zly n l i) l.length 0
   cases hs:y0 (xI n l) 0 l.length with
   | none=>rfl
   | some f=>rw [hs] at h;exact absurd h (this f hs)
end Hm
end
section
namespace Hm
open Go
set_option maxRecDepth 100000
set_option maxHeartbeats 4000000
theorem zv2 {d:Dom} (h1:yc d.types=okF)(h2:zH d.types.length d.objects=okF):DoTy d:=by
 obtain ⟨h3,h4⟩:=zgL h2
 exact ⟨zb4 h1,h3,h4⟩
def zif:Cmd :=
 (qS [qx 1 7552070 6 0,qq 2 (.alloc 7552130 (.agg [.int .i64 0,.int .i64 0]))]
 (qT (qS [qf 11 0 1,ql 12 1 11,qk 13 153 [12],qq 3 (.alloc 7552194 (.agg [.int .i64 0,.int .i64 0])),qs 2 3 13]
 (qS [qL 14 2 3,qq 15 (.build [.int .i64 0,.int .i64 0] []),qq 16 (.bin .neq true [.i,.i] (.t 14) (.t 15))]
 (.cond (.t 16) (.seq (.ops [qf 17 0 3,ql 18 1 17,qq 19 (.build [.int .i64 0,.int .i64 0] [(0 ,1 ,.t 18),(1 ,1 ,.c (.int .i64 (-1)))]),qs 2 2 19]) .ret) .skip)))
 (qT (qS [qf 20 0 1,ql 21 1 20,qf 22 1 1,ql 23 1 22,qk 24 154 [21,23],qq 4 (.alloc 7552258 (.agg [.int .i64 0,.int .i64 0])),qs 2 4 24]
 (qS [qL 25 2 4,qq 26 (.build [.int .i64 0,.int .i64 0] []),qq 27 (.bin .neq true [.i,.i] (.t 25) (.t 26))]
 (.cond (.t 27) (.seq (.ops [qf 28 0 4,ql 29 1 28,qq 30 (.build [.int .i64 0,.int .i64 0] [(0 ,1 ,.t 29),(1 ,1 ,.c (.int .i64 (-2)))]),qs 2 2 30]) .ret) .skip)))
 (qT (qS [qf 31 2 1,ql 32 1 31,qn 33 32,qv 34 .gtr [] 33 8]
 (.cond (.t 34) (.seq (.ops [qq 35 (.build [.int .i64 0,.int .i64 0] [(0 ,1 ,.c (.int .i64 2)),(1 ,1 ,.c (.int .i64 (-3)))]),qs 2 2 35]) .ret) .skip))
 (qT (qS [qf 36 2 1,ql 37 1 36,qn 38 37,qc 39 0]
 (.block 0 (.loop (qS [qu 40 .lss [] 39 38]
 (qT (.cond (.t 40) .skip (.exit 0))
 (qT (.block 1 (qS [qm 41 39,qm 5 41]
 (qS [qL 42 6 1,qm 43 5,qk 44 155 [42,43],qm 6 44]
 (qS [qm 45 6,qv 46 .neq [.i] 45 0]
 (.cond (.t 46) (.seq (.ops [qm 47 6,qq 48 (.build [.int .i64 0,.int .i64 0] [(0 ,1 ,.t 47),(1 ,1 ,.c (.int .i64 (-3)))]),qs 2 2 48]) .ret) .skip)))))
 (.ops [qv 49 .add [] 39 1,qm 39 49])))))))
 (qT (qS [qf 50 3 1,ql 51 1 50,qn 52 51,qv 53 .gtr [] 52 8]
 (.cond (.t 53) (.seq (.ops [qq 54 (.build [.int .i64 0,.int .i64 0] [(0 ,1 ,.c (.int .i64 2)),(1 ,1 ,.c (.int .i64 (-4)))]),qs 2 2 54]) .ret) .skip))
 (qT (qS [qf 55 3 1,ql 56 1 55,qn 57 56,qc 58 0]
 (.block 2 (.loop (qS [qu 59 .lss [] 58 57]
 (qT (.cond (.t 59) .skip (.exit 2))
 (qT (.block 3 (qS [qm 60 58,qm 7 60]
 (qS [qL 61 6 1,qm 62 7,qk 63 156 [61,62],qm 8 63]
 (qS [qm 64 8,qv 65 .neq [.i] 64 0]
 (.cond (.t 65) (.seq (.ops [qm 66 8,qm 67 7,qq 68 (.build [.int .i64 0,.int .i64 0] [(0 ,1 ,.t 66),(1 ,1 ,.t 67)]),qs 2 2 68]) .ret) .skip)))))
 (.ops [qv 69 .add [] 58 1,qm 58 69])))))))
 (qT (qS [qL 70 6 1,qk 71 157 [70],qm 9 71]
 (qS [qm 72 9,qv 73 .neq [.i] 72 0]
 (.cond (.t 73) (.seq (.ops [qm 74 9,qq 75 (.build [.int .i64 0,.int .i64 0] [(0 ,1 ,.t 74),(1 ,1 ,.c (.int .i64 (-5)))]),qs 2 2 75]) .ret) .skip)))
 (qT (qS [qL 76 6 1,qf 77 5 1,ql 78 1 77,qq 79 (.call .f (.c (.fn 158 [])) [.t 76,.c (.sl .nil []),.t 78]),qm 10 79]
 (qS [qm 80 10,qv 81 .neq [.i] 80 0]
 (.cond (.t 81) (.seq (.ops [qm 82 10,qq 83 (.build [.int .i64 0,.int .i64 0] [(0 ,1 ,.t 82),(1 ,1 ,.c (.int .i64 (-6)))]),qs 2 2 83]) .ret) .skip)))
 (.seq (.ops [qq 84 (.build [.int .i64 0,.int .i64 0] []),qs 2 2 84]) .ret))))))))))
def zig:List RVar:=[.cell true 2 2]
def zih:Nat:=85
theorem wF:zj PG 118 zih zig zif=true:=by kernel_rfl
theorem zii (d : Dom) (ho:DoOk d):Fc PG 118 [yW d] (ftV (yR d)):=by
 have hT:=zjG d.types ho.types
 have hO:=zlb d.types ho.types.1 d.objects ho.objects
 unfold yR
 by_cases t1:yc d.types=okF
 · rw [if_neg (by simp [t1])]
   rw [t1] at hT
   by_cases t2:zH d.types.length d.objects=okF
   · rw [if_neg (by simp [t2])]
     rw [t2] at hO
     have hd:=zv2 t1 t2
     have hpl:=ho.preds.1
     have hsl:=ho.schemas.1
     by_cases t3:d.preds.length > 8
     · rw [if_pos t3]
       refine Fn.step zf wF ?_
       repeat' (first|refine zo rfl ?_|refine i_s rfl ?_|refine sw ?_|refine c_f rfl ?_|refine zl rfl ?_|refine zi rfl ?_|refine zr rfl rfl ?_|refine zd rfl (fun h=>?_) (fun h=>?_)|refine sf rfl rfl hT ?_|refine sf rfl rfl hO ?_|fail)
       all_goals first
        | exact zb ⟨rfl,_,rfl,rfl⟩
        | (exfalso;clear hT hO;simp at *;omega)
        | (exfalso;clear hT hO;simp_all;done)
     · rw [if_neg t3]
       refine Fn.step zf wF ?_
       repeat' (first|refine zo rfl ?_|refine i_s rfl ?_|refine sw ?_|refine c_f rfl ?_|refine zl rfl ?_|refine zi rfl ?_|refine zr rfl rfl ?_|refine zd rfl (fun h=>?_) (fun h=>?_)|refine sf rfl rfl hT ?_|refine sf rfl rfl hO ?_|fail)
       all_goals first
        | (exfalso;clear hT hO;simp at *;omega)
        | (exfalso;clear hT hO;simp [okF] at *;done)
        | skip
       clear hT hO
       refine ye d.preds.length (fun k=>[(1,.bptr 7552070 0),(2,.bptr 7552130 0),(38,.int .i64 d.preds.length),(39,.int .i64 k)]) (fun _=>[(7552070,.box (yW d)),(7552130,.box (ftV okF))]) (fun k=>∀ j,j < k→nzF (wj d) (fun _=>-3) j=none) yO ft fun k hk hi=>?_
       by_cases hlt:k < d.preds.length
       · obtain ⟨p,hp⟩:=zh hlt
         have hP:=zgK d ho k p hp
         by_cases z:wj d k=0
         · have hn:nzF (wj d) (fun _=>-3) k=none:=by unfold nzF;rw [if_pos z]
           rw [z] at hP
           clear ho
           repeat' (first|refine zo rfl ?_|refine i_s rfl ?_|refine sw ?_|refine c_f rfl ?_|refine ja rfl rfl ?_|refine zl rfl ?_|refine zd rfl (fun h=>?_) (fun h=>?_)|refine sf rfl rfl hP ?_|fail)
           all_goals first
            | (exact zK hlt (yN hi hn) ft)
            | (exfalso;clear hP;simp at *;omega)
         · rw [wQ hi hlt (show nzF (wj d) (fun _=>-3) k=some ⟨wj d k,-3⟩ by unfold nzF;rw [if_neg z])]
           clear hi ho
           generalize wj d k=c at *
           repeat' (first|refine zo rfl ?_|refine i_s rfl ?_|refine sw ?_|refine ja rfl rfl ?_|refine zl rfl ?_|refine zd rfl (fun h=>?_) (fun h=>?_)|refine sf rfl rfl hP ?_|fail)
           all_goals first
            | exact zb ⟨rfl,_,rfl,rfl⟩
            | (exfalso;clear hP;simp at *;omega)
       · rw [wp fun j hj=>hi j (by omega)]
         clear hi
         by_cases t4:d.schemas.length > 8
         · simp only
           rw [if_pos t4]
           clear ho
           repeat' (first|refine zo rfl ?_|refine i_s rfl ?_|refine sw ?_|refine zl rfl ?_|refine zd rfl (fun h=>?_) (fun h=>?_))
           all_goals first
            | exact zb ⟨rfl,_,rfl,rfl⟩
            | (exfalso;simp at *;omega)
         · simp only
           rw [if_neg t4]
           repeat' (first|refine zo rfl ?_|refine i_s rfl ?_|refine sw ?_|refine zl rfl ?_|refine zd rfl (fun h=>?_) (fun h=>?_))
           all_goals first
            | (exfalso;simp at *;omega)
            | skip
           refine ye d.schemas.length (fun k=>[(1,.bptr 7552070 0),(2,.bptr 7552130 0),(57,.int .i64 d.schemas.length),(58,.int .i64 k)]) (fun _=>[(7552070,.box (yW d)),(7552130,.box (ftV okF))]) (fun k=>∀ j,j < k→nzF (x3 d) (fun i=>i) j=none) yO ft fun k hk hi=>?_
           by_cases hlt:k < d.schemas.length
           · obtain ⟨s,hs⟩:=zh hlt
             have hP:=zlx d hd ho k s hs
             by_cases z:x3 d k=0
             · have hn:nzF (x3 d) (fun i=>i) k=none:=by unfold nzF;rw [if_pos z]
               rw [z] at hP
               clear ho
               repeat' (first|refine i_s rfl ?_|refine sw ?_|refine c_f rfl ?_|refine ja rfl rfl ?_|refine zd rfl (fun h=>?_) (fun h=>?_)|refine sf rfl rfl hP ?_|fail)
               all_goals first
                | (exact zK hlt (yN hi hn) ft)
                | (exfalso;clear hP;simp at *;omega)
             · rw [wQ hi hlt (show nzF (x3 d) (fun i=>i) k=some ⟨x3 d k,k⟩ by unfold nzF;rw [if_neg z])]
               clear hi ho
               generalize x3 d k=c at *
               repeat' (first|refine i_s rfl ?_|refine sw ?_|refine ja rfl rfl ?_|refine zl rfl ?_|refine zd rfl (fun h=>?_) (fun h=>?_)|refine sf rfl rfl hP ?_|fail)
               all_goals first
                | exact zb ⟨rfl,_,rfl,rfl⟩
                | (exfalso;clear hP;simp at *;omega)
           · rw [wp fun j hj=>hi j (by omega)]
             clear hi
             simp only
             have hS:=zmO d hd ho
             have hG:=za7 d hd [] ⟨by simp,by simp⟩ d.goal ho.goal.1 ho.goal.2
             clear ho
             generalize vM d=c1 at *
             generalize zI d [] (d.goal.map Lit.at_) 8=c2 at *
             by_cases z1:c1=0
             · subst z1
               rw [if_neg (by simp)]
               by_cases z2:c2=0
               · subst z2
                 rw [if_neg (by simp)]
                 repeat' (first|refine i_s rfl ?_|refine sw ?_|refine c_f rfl ?_|refine zl rfl ?_|refine zd rfl (fun h=>?_) (fun h=>?_)|refine sf rfl rfl hS ?_|refine sf rfl rfl hG ?_|fail)
                 all_goals first
                  | exact zb ⟨rfl,_,rfl,rfl⟩
                  | (exfalso;clear hS hG;simp at *;omega)
               · rw [if_pos z2]
                 repeat' (first|refine i_s rfl ?_|refine sw ?_|refine c_f rfl ?_|refine zl rfl ?_|refine zd rfl (fun h=>?_) (fun h=>?_)|refine sf rfl rfl hS ?_|refine sf rfl rfl hG ?_|fail)
                 all_goals first
                  | exact zb ⟨rfl,_,rfl,rfl⟩
                  | (exfalso;clear hS hG;simp at *;omega)
             · rw [if_pos z1]
               repeat' (first|refine i_s rfl ?_|refine sw ?_|refine zl rfl ?_|refine zd rfl (fun h=>?_) (fun h=>?_)|refine sf rfl rfl hS ?_|refine sf rfl rfl hG ?_|fail)
               all_goals first
                | exact zb ⟨rfl,_,rfl,rfl⟩
                | (exfalso;clear hS hG;simp at *;omega)
   · rw [if_pos t2]
     have ht2:(zH d.types.length d.objects).code≠0:=fun h=>t2 ((zie _ _).1 h)
     clear ho
     generalize zH d.types.length d.objects=F at *
     refine Fn.step zf wF ?_
     repeat' (first|refine zo rfl ?_|refine i_s rfl ?_|refine sw ?_|refine c_f rfl ?_|refine zl rfl ?_|refine zi rfl ?_|refine zr rfl rfl ?_|refine zd rfl (fun h=>?_) (fun h=>?_)|refine sf rfl rfl hT ?_|refine sf rfl rfl hO ?_|fail)
     all_goals first
      | exact zb ⟨rfl,_,rfl,rfl⟩
      | (exfalso;clear hT hO;simp at *;omega)
      | (exfalso;clear hT hO;simp_all;done)
      | (exfalso;clear hT hO;simp [okF] at *;done)
 · rw [if_pos t1]
   have ht1:(yc d.types).code≠0:=fun h=>t1 ((zk5 _).1 h)
   clear ho hO
   generalize yc d.types=F at *
   refine Fn.step zf wF ?_
   repeat' (first|refine i_s rfl ?_|refine sw ?_|refine zl rfl ?_|refine zi rfl ?_|refine zr rfl rfl ?_|refine zd rfl (fun h=>?_) (fun h=>?_)|refine sf rfl rfl hT ?_|fail)
   all_goals first
    | exact zb ⟨rfl,_,rfl,rfl⟩
    | (exfalso;clear hT;simp at *;omega)
    | (exfalso;clear hT;simp_all;done)
    | (exfalso;clear hT;simp [okF] at *;done)
end Hm
end
