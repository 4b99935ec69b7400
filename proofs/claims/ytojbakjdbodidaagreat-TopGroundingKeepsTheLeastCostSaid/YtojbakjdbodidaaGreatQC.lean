/- Part QC of the proof. -/
import Derived.Test.YtojbakjdbodidaaGreatQB
set_option linter.unusedVariables false
set_option linter.unusedSimpArgs false
section
namespace Hm
open Go
section
variable {G:Type}{J:JT G}{w w' w'':World}{S F S' F' S'' F'':Nat→Prop}{θ θ' θ'':zJ}{σ σ' σ'':za}{l n:Nat}{g g':G}
variable {P:Program}{o:Oper}{a:Act}{ρ:Env}{H:HT G}{s0:Start}
theorem zrS {pf wo:List Nat}{R:RP}{st:za × G × Option Exit}{W1:World}{F1:Nat→Prop}{θ2:zJ}{F2:Nat→Prop}{lx:Nat} (hdis:∀ nm,nm∈pf→nm ∉ wo)
  (hs1:St J w S F θ σ l g)(hall:∀ nm,σ nm≠.zc→nm∈pf∨nm∈wo)
  (hw1:W1.heap.size=w.heap.size + 2)(hos:W1.os=w.os)(htape:W1.tape=w.tape)(hout:Out w W1)(hold:∀ b,b < w.heap.size→W1.heap[b]? = w.heap[b]?)
  (hRl:R.l=w.heap.size + 1)(hRr:R.r=w.heap.size)(hRB:R.wB=w∧R.SB=S∧R.FB=F∧R.θB=zT wo θ∧R.σB=restr wo σ∧R.wo=wo)
  (hF1:∀ b,F1 b↔F b∨zS (zT wo θ) (restr wo σ) b∨b=R.l∨b=R.r)
  (hs':St (RJ J l R) w' S' F' θ' σ' lx st)(h2:RJc J l R st w' S' F' θ2 F2)(hfr:Fr W1 S F1 (zT pf θ) (restr pf σ) w' S' F' θ' σ')(hun:∀ nm,nm ∉ pf→σ' nm=.zc)(hnr:vr σ' pf=true) :
  St J w' S' F2 (y5 pf θ2 θ') (merge pf st.1 σ') l st.2.1∧Fr w S F θ σ w' S' F2 (y5 pf θ2 θ') (merge pf st.1 σ')∧(∀ v x,Rep w' S' θ2 st.1 l v x→Rep w' S' (y5 pf θ2 θ') (merge pf st.1 σ') l v x) ∧
   ¬ zS (y5 pf θ2 θ') (merge pf st.1 σ') R.l∧¬ zS (y5 pf θ2 θ') (merge pf st.1 σ') R.r:=by
 obtain ⟨hB1,hB2,hB3,hB4,hB5,hB6⟩:=hRB
 have hun':∀ nm,σ' nm≠.zc→nm∈pf:=fun nm h=>by
  by_cases hm:nm∈pf
  · exact hm
  · exact absurd (hun nm hm) h
 have hwo':∀ nm,st.1 nm≠.zc→nm∈wo:=fun nm h=>by
  by_cases hm:nm∈wo
  · exact hm
  · exact absurd (h2.hwo nm (by rw [hB6];exact hm)) h
 have e1:∀ nm,σ' nm≠.zc→merge pf st.1 σ' nm=σ' nm∧y5 pf θ2 θ' nm=θ' nm:=fun nm h=>yt (hun' nm h)
 have e2:∀ nm,st.1 nm≠.zc→merge pf st.1 σ' nm=st.1 nm∧y5 pf θ2 θ' nm=θ2 nm:=fun nm h=>yg (fun hm=>hdis nm hm (hwo' nm h))
 have liveM:∀ b,zS (y5 pf θ2 θ') (merge pf st.1 σ') b→zS θ' σ' b∨zS θ2 st.1 b:=by
  rintro b ⟨nm,m,k1,k2⟩
  by_cases hm:nm∈pf
  · obtain ⟨q1,q2⟩:=yt (σ:=st.1) (σ':=σ') (θ:=θ2) (θ':=θ') hm
    exact .inl ⟨nm,m,by rw [← q1];exact k1,by rw [← q2];exact k2⟩
  · obtain ⟨q1,q2⟩:=yg (σ:=st.1) (σ':=σ') (θ:=θ2) (θ':=θ') hm
    exact .inr ⟨nm,m,by rw [← q1];exact k1,by rw [← q2];exact k2⟩
 have clash:∀ b,zS θ' σ' b→zS θ2 st.1 b→False:=fun b k1 k2=>(hs'.hF b ((h2.hFe b).2 (.inr (.inl k2)))).2.2 k1
 have livePf:∀ b,zS (zT pf θ) (restr pf σ) b→zS θ σ b:=fun b h=>uc (fun nm hm=>zA hm) (fun nm hm=>z8 hm) h
 have liveWo:∀ b,zS (zT wo θ) (restr wo σ) b→zS θ σ b:=fun b h=>uc (fun nm hm=>zA hm) (fun nm hm=>z8 hm) h
 have liveLt:∀ b,zS θ σ b→b < w.heap.size:=fun b ⟨nm,m,k1,k2⟩=>yd hs1 k1 k2
 have kn:=h2.frn
 rw [hB1,hB2,hB4,hB5] at kn
 refine ⟨⟨hs'.hS,fun nm=>?_,fun n1 n2 b m m' k1 k2 k3 k4=>?_,fun b hb hS=>?_,fun b hb=>?_,h2.st2.hJ⟩,?_,fun v x hr=>hr.ext e2,fun hl=>?_,fun hl=>?_⟩
 · by_cases hm:nm∈pf
   · obtain ⟨q1,q2⟩:=yt (σ:=st.1) (σ':=σ') (θ:=θ2) (θ':=θ') hm
     exact BlkOk.ext (hs'.hblk nm) e1 q1 q2 (fun row hrow=>.inl ((ziC σ' pf).1 hnr nm hm row hrow))
   · obtain ⟨q1,q2⟩:=yg (σ:=st.1) (σ':=σ') (θ:=θ2) (θ':=θ') hm
     exact BlkOk.ext (h2.st2.hblk nm) e2 q1 q2 (fun row hrow=>.inr rfl)
 · by_cases m1:n1∈pf
   · obtain ⟨q1,q2⟩:=yt (σ:=st.1) (σ':=σ') (θ:=θ2) (θ':=θ') m1
     rw [q1] at k1
     rw [q2] at k3
     by_cases m2:n2∈pf
     · obtain ⟨q3,q4⟩:=yt (σ:=st.1) (σ':=σ') (θ:=θ2) (θ':=θ') m2
       exact hs'.hinj n1 n2 b m m' k1 (by rw [← q3];exact k2) k3 (by rw [← q4];exact k4)
     · obtain ⟨q3,q4⟩:=yg (σ:=st.1) (σ':=σ') (θ:=θ2) (θ':=θ') m2
       exact (clash b ⟨n1,m,k1,k3⟩ ⟨n2,m',by rw [← q3];exact k2,by rw [← q4];exact k4⟩).elim
   · obtain ⟨q1,q2⟩:=yg (σ:=st.1) (σ':=σ') (θ:=θ2) (θ':=θ') m1
     rw [q1] at k1
     rw [q2] at k3
     by_cases m2:n2∈pf
     · obtain ⟨q3,q4⟩:=yt (σ:=st.1) (σ':=σ') (θ:=θ2) (θ':=θ') m2
       exact (clash b ⟨n2,m',by rw [← q3];exact k2,by rw [← q4];exact k4⟩ ⟨n1,m,k1,k3⟩).elim
     · obtain ⟨q3,q4⟩:=yg (σ:=st.1) (σ':=σ') (θ:=θ2) (θ':=θ') m2
       exact h2.st2.hinj n1 n2 b m m' k1 (by rw [← q3];exact k2) k3 (by rw [← q4];exact k4)
 · rcases liveM b hb with k|k
   · exact hs'.hliveS b k hS
   · exact h2.st2.hliveS b k hS
 · obtain ⟨k1,k2,k3⟩:=h2.st2.hF b hb
   refine ⟨k1,k2,fun hl=>?_⟩
   rcases liveM b hl with k|k
   · exact (hs'.hF b ((h2.hFe b).2 (.inl hb))).2.2 k
   · exact k3 k
 · exact {
    size:=by have:=hfr.size;omega
    os:=hfr.os.trans hos
    tape:=hfr.tape.trans htape
    output:=hfr.output.trans hout
    same:=fun b hb hl hF=>by
     rw [hfr.same b (by omega) (fun h=>hl (livePf b h)) (fun h=>by
      rcases (hF1 b).1 h with k|k|k|k
      · exact hF k
      · exact hl (liveWo b k)
      · omega
      · omega)]
     exact hold b hb
    sized:=fun b c e fr hc=>by
     obtain ⟨c',f,q1,q2,q3⟩:=hfr.sized b c e fr (by rw [hold b (Array.getElem?_eq_some_iff.1 hc).1];exact hc)
     refine ⟨c',f,q1,q2,q3.imp id fun q4=>⟨q4.1,fun hl=>?_⟩⟩
     rcases liveM b hl with k|k
     · exact hs'.hliveS b k q4.1
     · exact h2.st2.hliveS b k q4.1
    vecs:=fun nm k b m k1 k2 j hj=>by
     rcases hall nm (by rw [k1];intro h;cases h) with hm|hm
     · obtain ⟨q1,q2⟩:=zA (σ:=σ) (θ:=θ) hm
       rw [hfr.vecs nm k b m (by rw [q1];exact k1) (by rw [q2];exact k2) j hj]
       exact zZ (hold b (yd hs1 (yh k1) k2))
     · obtain ⟨q1,q2⟩:=zA (σ:=σ) (θ:=θ) hm
       exact kn.vecs nm k b m (by rw [q1];exact k1) (by rw [q2];exact k2) j hj
    smono:=hfr.smono
    snew:=fun b hb=>by
     rcases hfr.snew b hb with k|k|k|k
     · exact .inl k
     · exact .inr (.inl (livePf b k))
     · rcases (hF1 b).1 k with k|k|k|k
       · exact .inr (.inr (.inl k))
       · exact .inr (.inl (liveWo b k))
       · exact .inr (.inr (.inr (by omega)))
       · exact .inr (.inr (.inr (by omega)))
     · exact .inr (.inr (.inr (by omega)))
    live:=fun b hb hlt=>by
     rcases liveM b hb with k|k
     · exact livePf b (hfr.live b k (by omega))
     · exact liveWo b (kn.live b k hlt)
    fsub:=fun b hb hlt=>by
     have:=h2.fsub b hb (by rw [hB1];exact hlt)
     rw [hB3] at this
     exact this
    kdead:=fun nm k1=>by
     rcases hall nm (by rw [k1];intro h;cases h) with hm|hm
     · rw [(yt (σ:=st.1) (σ':=σ') (θ:=θ2) (θ':=θ') hm).1]
       exact hfr.kdead nm (by rw [(zA (σ:=σ) (θ:=θ) hm).1];exact k1)
     · rw [(yg (σ:=st.1) (σ':=σ') (θ:=θ2) (θ':=θ') (fun h=>hdis nm h hm)).1]
       exact kn.kdead nm (by rw [(zA (σ:=σ) (θ:=θ) hm).1];exact k1)
    kbox:=fun nm row k1=>by
     rcases hall nm (by rw [k1];intro h;cases h) with hm|hm
     · obtain ⟨q1,q2⟩:=yt (σ:=st.1) (σ':=σ') (θ:=θ2) (θ':=θ') hm
       obtain ⟨q3,q4⟩:=zA (σ:=σ) (θ:=θ) hm
       rw [q1,q2,← q4]
       exact hfr.kbox nm row (by rw [q3];exact k1)
     · obtain ⟨q1,q2⟩:=yg (σ:=st.1) (σ':=σ') (θ:=θ2) (θ':=θ') (fun h=>hdis nm h hm)
       obtain ⟨q3,q4⟩:=zA (σ:=σ) (θ:=θ) hm
       rw [q1,q2,← q4]
       exact kn.kbox nm row (by rw [q3];exact k1)
    karr:=fun nm gen rows k1=>by
     rcases hall nm (by rw [k1];intro h;cases h) with hm|hm
     · obtain ⟨q1,q2⟩:=yt (σ:=st.1) (σ':=σ') (θ:=θ2) (θ':=θ') hm
       obtain ⟨q3,q4⟩:=zA (σ:=σ) (θ:=θ) hm
       rw [q1,q2,← q4]
       exact hfr.karr nm gen rows (by rw [q3];exact k1)
     · obtain ⟨q1,q2⟩:=yg (σ:=st.1) (σ':=σ') (θ:=θ2) (θ':=θ') (fun h=>hdis nm h hm)
       obtain ⟨q3,q4⟩:=zA (σ:=σ) (θ:=θ) hm
       rw [q1,q2,← q4]
       exact kn.karr nm gen rows (by rw [q3];exact k1)
    kvec:=fun nm k k1=>by
     rcases hall nm (by rw [k1];intro h;cases h) with hm|hm
     · obtain ⟨q1,q2⟩:=yt (σ:=st.1) (σ':=σ') (θ:=θ2) (θ':=θ') hm
       obtain ⟨q3,q4⟩:=zA (σ:=σ) (θ:=θ) hm
       rw [q1,q2,← q4]
       exact hfr.kvec nm k (by rw [q3];exact k1)
     · obtain ⟨q1,q2⟩:=yg (σ:=st.1) (σ':=σ') (θ:=θ2) (θ':=θ') (fun h=>hdis nm h hm)
       obtain ⟨q3,q4⟩:=zA (σ:=σ) (θ:=θ) hm
       rw [q1,q2,← q4]
       exact kn.kvec nm k (by rw [q3];exact k1)
    kmp:=fun nm k ns vs k1=>by
     rcases hall nm (by rw [k1];intro h;cases h) with hm|hm
     · obtain ⟨q1,q2⟩:=yt (σ:=st.1) (σ':=σ') (θ:=θ2) (θ':=θ') hm
       obtain ⟨q3,q4⟩:=zA (σ:=σ) (θ:=θ) hm
       rw [q1,q2,← q4]
       exact hfr.kmp nm k ns vs (by rw [q3];exact k1)
     · obtain ⟨q1,q2⟩:=yg (σ:=st.1) (σ':=σ') (θ:=θ2) (θ':=θ') (fun h=>hdis nm h hm)
       obtain ⟨q3,q4⟩:=zA (σ:=σ) (θ:=θ) hm
       rw [q1,q2,← q4]
       exact kn.kmp nm k ns vs (by rw [q3];exact k1) }
 · rcases liveM _ hl with k|k
   · exact (hs'.hF _ ((h2.hFe _).2 (.inr (.inr (.inl rfl))))).2.2 k
   · exact h2.hl.2.2 k
 · rcases liveM _ hl with k|k
   · exact (hs'.hF _ ((h2.hFe _).2 (.inr (.inr (.inr rfl))))).2.2 k
   · exact h2.hr.2.2 k
end
section
variable {G:Type}{J:JT G}{w w' w'':World}{S F S' F' S'' F'':Nat→Prop}{θ θ' θ'':zJ}{σ σ' σ'':za}{l n:Nat}{g g':G}
variable {P:Program}{o:Oper}{a:Act}{ρ:Env}{H:HT G}{s0:Start}
theorem zws {ds:List Deferred} (h:DefOk w S F θ σ ds) {d:Deferred} (hd:d∈ds):∃ r,d.target=.collected r∧r < w.heap.size:=by
 induction ds with
 | nil=>cases hd
 | cons x ds ih =>
  obtain ⟨⟨r,h1,h2,_⟩,h3⟩:=h
  rcases List.mem_cons.1 hd with rfl|hd
  · exact ⟨r,h1,(Array.getElem?_eq_some_iff.1 h2).1⟩
  · exact ih h3 hd
theorem zs9 {pf:List Nat}{f:Opd}{ps:List Nat}{ca cb:Cmd}{gop:Operand}{qs:Array Tmp}{asg body:Code}{pn:List Nat}{Q:Exit→Env→za→G→Prop} (hst:zC J)(hM:yz H)(hH:kd P J H l)
  (ha:zko P H n true ca asg)(hb:zko P H n true cb body)(hf:zp gop f=true)(hps:ps=qs.toList)(hpsn:∀ p∈ps,p < n)(hpn:∀ nm,s0.σ nm≠.zc→nm∈pn)
  (h:Cur J l n s0 w S F θ σ g ρ a)(hw:AW P H pn (.rangeF pf f ps ca cb) ρ σ g Q):(Code.rangeFunc gop qs asg body).wpIn (wf none) 0 P (zrP J l n s0 Q) a w:=by
 simp only [AW] at hw
 split at hw
 case h_2=>exact hw.elim
 rename_i fid caps hfv
 obtain ⟨E,Sg,hfit,hck,hct⟩:=hw
 simp only [Bool.and_eq_true] at hck
 obtain ⟨⟨⟨⟨⟨⟨c1,c2⟩,c3⟩,c6⟩,c7⟩,c4⟩,c5⟩:=hck
 have hfr:=zw h.env hf
 rw [hfv] at hfr
 have hcur:=h.weaken hpn hfit
 obtain ⟨hfE,hfS,hfB⟩:=hfit
 obtain ⟨N,hN⟩:∃ N,N=Sg.map (·.1):=⟨_,rfl⟩
 rw [← hN] at c1 c4 c5 hct hcur
 obtain ⟨wo,hwo⟩:∃ wo,wo=yA pf N:=⟨_,rfl⟩
 rw [← hwo] at c4 c5 hct
 obtain ⟨σ1,hσ1⟩:∃ σ1,σ1=zy Sg:=⟨_,rfl⟩
 rw [← hσ1] at c3 c5 c7 hct hcur
 obtain ⟨θ1,hθ1⟩:∃ θ1,θ1=zT N θ:=⟨_,rfl⟩
 rw [← hθ1] at hcur
 have hpfN:∀ nm∈pf,nm∈N:=fun nm hm=>(zee _ _).1 c1 nm hm
 have hwoN:∀ nm,nm∈wo↔nm∈N∧nm ∉ pf:=fun nm=>by rw [hwo];exact zqr pf N nm
 have hσN:∀ nm,nm∈N→σ1 nm=σ nm∧θ1 nm=θ nm:=fun nm hm=>by
  rw [hσ1,hθ1]
  exact ⟨(zcW hfS nm).1 (by rw [← hN];exact hm),(zA (σ:=σ) hm).2⟩
 have hσu:∀ nm,nm ∉ N→σ1 nm=.zc:=fun nm hm=>by
  rw [hσ1]
  exact (zcW hfS nm).2 (by rw [← hN];exact hm)
 have hall:∀ nm,σ1 nm≠.zc→nm∈pf∨nm∈wo:=fun nm hnm=>by
  by_cases hm:nm∈pf
  · exact .inl hm
  · refine .inr ((hwoN nm).2 ⟨?_,hm⟩)
    by_cases hmN:nm∈N
    · exact hmN
    · exact absurd (hσu nm hmN) hnm
 have hs1:=hcur.st
 obtain ⟨cs,hfe,hcl,hcr⟩:=hfr.fn_inv
 refine wpIn_rangeFunc fun fn _=>?_
 obtain ⟨R,hR⟩:∃ R:RP,R = { l:=w.heap.size + 1,r:=w.heap.size,fn,tmps:=a.tmps,qs,asg,body,E,wo,wB:=w,SB:=S,FB:=F,θB:=zT wo θ1,σB:=restr wo σ1 }:=⟨_,rfl⟩
 obtain ⟨W1,hW1⟩:∃ W1,W1=(w.alloc (.deferred (some []))).alloc (.loop (R.rc .ready none)):=⟨_,rfl⟩
 have hz1:W1.heap.size=w.heap.size + 2:=by rw [hW1];simp
 have hold:∀ b,b < w.heap.size→W1.heap[b]? = w.heap[b]?:=fun b hb=>by
  rw [hW1,zx _ _ (by simp;omega),zx _ _ hb]
 have hlo:W1.heap[w.heap.size + 1]? = some (.loop (R.rc .ready none)):=by
  rw [hW1];have:=zM (w.alloc (.deferred (some []))) (.loop (R.rc .ready none));rwa [World.size_alloc] at this
 have hde:W1.heap[w.heap.size]? = some (.deferred (some [])):=by
  rw [hW1,zx _ _ (by simp)];exact zM w _
 have hlt1:∀ b,zS θ1 σ1 b→b < w.heap.size:=fun b ⟨nm,m,k1,k2⟩=>yd hs1 k1 k2
 have hsub:∀ pl:List Nat,∀ b,zS (zT pl θ1) (restr pl σ1) b→zS θ1 σ1 b:=fun pl b hb=>uc (fun nm hm=>zA hm) (fun nm hm=>z8 hm) hb
 have mkStay:∀ pl:List Nat,Stays w S F (zT pl θ1) (restr pl σ1) W1 S:=fun pl=>{
  size:=by omega
  os:=by rw [hW1];rfl
  tape:=by rw [hW1];rfl
  output:=⟨by rw [hW1];rfl,by rw [hW1];exact fun _=>Nat.le_refl _⟩
  same:=fun b hb=>hold b (by
   rcases hb with hb|hb|hb
   · exact hs1.hS b hb
   · exact (hs1.hF b hb).1
   · exact hlt1 b (hsub pl b hb))
  sized:=fun b c e fr hc=>⟨c,fr,by rw [hold b (Array.getElem?_eq_some_iff.1 hc).1];exact hc,rfl,.inl rfl⟩
  smono:=fun _ h=>h
  sok:=fun b hb=>⟨by have:=hs1.hS b hb;omega,fun hf=>(hs1.hF b hf).2.1 hb,fun hl=>hs1.hliveS b (hsub pl b hl) hb⟩ }
 have hsPf:St J w S F (zT pf θ1) (restr pf σ1) l g:=hs1.restr (fun nm hm=>zA hm) (fun nm hm=>z8 hm) (fun nm hm row hrow=>(z6 pf σ1 pf).1 c3 nm hm row hrow)
 have hsWo:St J w S F (zT wo θ1) (restr wo σ1) l g:=hs1.restr (fun nm hm=>zA hm) (fun nm hm=>z8 hm) (fun nm hm row hrow=>(z6 wo σ1 wo).1 c5 nm hm row hrow)
 have hSlt:∀ b,w.heap.size≤b→¬ S b∧¬ F b∧¬ zS θ1 σ1 b:=fun b hb=>⟨fun h=>by have:=hs1.hS b h;omega,fun h=>by have:=(hs1.hF b h).1;omega,fun h=>by have:=hlt1 b h;omega⟩
 obtain ⟨F1,hF1⟩:∃ F1:Nat→Prop,F1=fun b=>F b∨zS (zT wo θ1) (restr wo σ1) b∨b=R.l∨b=R.r:=⟨_,rfl⟩
 have hRl:R.l=w.heap.size + 1:=by rw [hR]
 have hRr:R.r=w.heap.size:=by rw [hR]
 have hRB:R.wB=w∧R.SB=S∧R.FB=F∧R.θB=zT wo θ1∧R.σB=restr wo σ1∧R.wo=wo:=by rw [hR];exact ⟨rfl,rfl,rfl,rfl,rfl,rfl⟩
 have hRE:R.E=E:=by rw [hR]
 have hRt:R.tmps=a.tmps:=by rw [hR]
 have hW:=(mkStay wo).st hst hsWo
 have hRJ:RJc J l R (restr wo σ1,g,none) W1 S F1 (zT wo θ1) F:={
  st2:=hW
  hFe:=fun b=>by rw [hF1]
  hl:=by rw [hRl];exact ⟨(hSlt _ (by omega)).1,(hSlt _ (by omega)).2.1,fun hl=>(hSlt _ (by omega)).2.2 (hsub wo _ hl)⟩
  hr:=by rw [hRr];exact ⟨(hSlt _ (Nat.le_refl _)).1,(hSlt _ (Nat.le_refl _)).2.1,fun hl=>(hSlt _ (Nat.le_refl _)).2.2 (hsub wo _ hl)⟩
  hlo:=by rw [hRl];exact hlo
  hde:=by rw [hRr];exact hde
  env:=fun t=>by
   rw [hRE,hRt]
   exact (mkStay wo).rep hsWo ((hcur.env t).restr (fun nm hm=>zA hm) (zfP c4 t))
  frn:=by
   rw [hRB.1,hRB.2.1,hRB.2.2.2.1,hRB.2.2.2.2.1]
   exact (mkStay wo).frN hsWo
  fsub:=fun b hb _=>by rw [hRB.2.2.1];exact hb
  hwo:=fun nm hm=>(z8 (θ:=θ1) (by rw [hRB.2.2.2.2.2] at hm;exact hm)).1
  ex:=fun e h=>by cases h }
 have hPf:=(mkStay pf).st hst hsPf
 have hStJ:St (RJ J l R) W1 S F1 (zT pf θ1) (restr pf σ1) R.l (restr wo σ1,g,none):=by
  refine ⟨hPf.hS,fun nm=>BlkOk.ext (hPf.hblk nm) (fun _ _=>⟨rfl,rfl⟩) rfl rfl (fun row hrow=>.inl ?_),hPf.hinj,hPf.hliveS,fun b hb=>?_,⟨_,_,hRJ⟩⟩
  · by_cases hm:nm∈pf
    · rw [(zA (θ:=θ1) hm).1] at hrow
      exact (ziC σ1 pf).1 c7 nm hm row hrow
    · rw [(z8 (θ:=θ1) hm).1] at hrow;cases hrow
  · rw [hF1] at hb
    rcases hb with hb|hb|rfl|rfl
    · exact hPf.hF b hb
    · obtain ⟨nm,m,k1,k2⟩:=hb
      refine ⟨yd hW k1 k2,hW.hliveS b ⟨nm,m,k1,k2⟩,fun ⟨nm',m',k3,k4⟩=>?_⟩
      have hm:nm∈wo:=by
       by_cases hm:nm∈wo
       · exact hm
       · rw [(z8 (θ:=θ1) hm).1] at k1;exact k1.elim
      have hm':nm'∈pf:=by
       by_cases hm:nm'∈pf
       · exact hm
       · rw [(z8 (θ:=θ1) hm).1] at k3;exact k3.elim
      obtain ⟨q1,q2⟩:=zA (σ:=σ1) (θ:=θ1) hm
      obtain ⟨q3,q4⟩:=zA (σ:=σ1) (θ:=θ1) hm'
      have:=hs1.hinj nm nm' b m m' (by rw [← q1];exact k1) (by rw [← q3];exact k3) (by rw [← q2];exact k2) (by rw [← q4];exact k4)
      exact ((hwoN nm).1 hm).2 (by rw [this];exact hm')
    · rw [hRl]
      exact ⟨by omega,(hSlt _ (by omega)).1,fun hl=>(hSlt _ (by omega)).2.2 (hsub pf _ hl)⟩
    · rw [hRr]
      exact ⟨by omega,(hSlt _ (Nat.le_refl _)).1,fun hl=>(hSlt _ (Nat.le_refl _)).2.2 (hsub pf _ hl)⟩
 have hReps:xw (Rep W1 S (zT pf θ1) (restr pf σ1) R.l) (.rnd :: caps) (.func (.yield R.l) #[] #[] :: cs):=by
  refine ⟨by simp [hcl],fun i v x hv hx=>?_⟩
  cases i with
  | zero =>
   simp at hv hx
   subst hv hx
   exact .rnd
  | succ i =>
   simp at hv hx
   have h1:=hcr i v x hv hx
   have h2:Rep w S (zT pf θ1) (restr pf σ1) l v x:=h1.restr (pn:=pf) (fun nm hm=>by
    obtain ⟨q1,q2⟩:=zA (σ:=σ1) (θ:=θ1) hm
    obtain ⟨q3,q4⟩:=hσN nm (hpfN nm hm)
    exact ⟨q1.trans q3,q2.trans q4⟩) ((xA pf caps).1 c2 v (zG hv))
   exact ((mkStay pf).rep hsPf h2).atL R.l ((ud caps).1 c6 v (zG hv))
 have hok:=zs8 (R:=R) (ca:=ca) (cb:=cb) (ps:=ps) hst hM hH (by rw [hR];exact ha) (by rw [hR];exact hb) (by rw [hR];exact hps) hpsn (by rw [hRt];exact h.sz) (by rw [hRl,hRr];omega)
  (fun nm hnm=>by
    rw [hRB.2.2.2.2.1] at hnm
    rw [hRB.2.2.2.2.2]
    by_cases hm:nm∈wo
    · exact hm
    · exact absurd (z8 (θ:=θ1) hm).1 hnm) (by rw [hRB.2.2.2.2.2,hRE];exact c4)
 rw [hRB.2.2.2.2.2,hRE] at hok
 have hcall:=hct.2 (RJ J l R) R.l (RJ.stable hst) (zq1 (fun pn ρ σ g Q Q'=>yP hM ca pn ρ σ g Q Q') (fun pn ρ σ g Q Q'=>yP hM cb pn ρ σ g Q Q')) hok W1 S F1 (zT pf θ1) (.func (.yield R.l) #[] #[] :: cs) hStJ hReps
 have hcb:=hct.1
 refine ⟨w.heap.size + 1,[{ target:=.collected w.heap.size,args:=#[] }],W1,{ target:=.fn (.func fid) cs.toArray,args:=#[.func (.yield (w.heap.size + 1)) #[] #[]] },W1,fid,(.func (.yield R.l) #[] #[] :: cs).toArray,W1,?_,?_,fun _ _=>trivial,?_,(fun h=>by cases h),(xW hcall).mono fun e w' he=>?_⟩
 · rw [hW1,hR];exact run_enterLoop_outer _ _ _ _ _
 · simp [resolve,hfe,Deferred.ofValue]
   rfl
 · have:(#[Value.func (.yield (w.heap.size + 1)) #[] #[]] ++ cs.toArray)=(.func (.yield R.l) #[] #[] :: cs).toArray:=by rw [hRl];apply Array.ext';simp
   simp only [invoke]
   rw [this]
   exact ziV hcb _ _
 · obtain ⟨r,x',σ',st,S',F',θ',rfl,⟨hnr,hK⟩,hs',_,hfr',hun⟩:=he
   obtain ⟨θ2,F2,h2⟩:=hs'.hJ
   obtain ⟨j1,j2,j3,j4,j5⟩:=zrS (R:=R) (pf:=pf) (wo:=wo) (fun nm h1 h2=>((hwoN nm).1 h2).2 h1) hs1 hall hz1 (by rw [hW1];rfl) (by rw [hW1];rfl) (by rw [hW1];exact ⟨rfl,fun _=>Nat.le_refl _⟩) hold hRl hRr hRB (fun b=>by rw [hF1]) hs' h2 hfr' hun hnr
   have hend:=run_endLoop (P:=P) h2.hlo (by
    simp only [RP.rc,lst]
    cases st.2.2<;>simp)
   have hstay:Stays w' S' F2 (y5 pf θ2 θ') (merge pf st.1 σ') (w'.putObj R.l (.loop { R.rc (lst st.2.2) (zaK st.2.2) with state:=.exhausted })) S' :=
    Stays.set j1 (by simp) (fun b hb=>World.putObj_heap_other hb) h2.hlo (by intro c e fr h;cases h) rfl rfl (Out.refl _) h2.hl.1 h2.hl.2.1 j4
   have j6:=hstay.st hst j1
   have hsame:Fr w S F θ1 σ1 (w'.putObj R.l (.loop { R.rc (lst st.2.2) (zaK st.2.2) with state:=.exhausted })) S' F2 (y5 pf θ2 θ') (merge pf st.1 σ'):={
    j2 with
    size:=by have:=j2.size;simp;omega
    same:=fun b hb hl hF=>by
     rw [World.putObj_heap_other (by rw [hRl];omega)]
     exact j2.same b hb hl hF
    sized:=fun b c e fr hc=>by
     obtain ⟨c',f1,k1,k2,k1'⟩:=j2.sized b c e fr hc
     obtain ⟨c'',f2,k3,k4,k3'⟩:=hstay.sized b c' e f1 k1
     refine ⟨c'',f2,k3,k4.trans k2,?_⟩
     rcases k3' with rfl|k3'
     · exact k1'
     · exact .inr ⟨k3',fun hl=>j1.hliveS b hl k3'⟩
    vecs:=fun nm k b m k1 k2 j hj=>by
     rw [← j2.vecs nm k b m k1 k2 j hj]
     exact zZ (World.putObj_heap_other (by rw [hRl];have:=yd hs1 (yh k1) k2;omega)) }
   have hfin:Cur J l n s0 (w'.putObj R.l (.loop { R.rc (lst st.2.2) (zaK st.2.2) with state:=.exhausted })) S' F2 (y5 pf θ2 θ') (merge pf st.1 σ') st.2.1 (yZ E) { a with defers:=[{ target:=.collected w.heap.size,args:=#[] }] ++ a.defers }:=by
    refine ⟨j6,fun t=>?_,h.sz,hcur.fr.trans hs1 hsame,⟨⟨w.heap.size,rfl,?_,?_⟩,hcur.de.fr hsame⟩,fun d hd r hr=>?_⟩
    · have:=h2.env t
      rw [hRE,hRt] at this
      exact hstay.rep j1 (j3 _ _ this)
    · rw [World.putObj_heap_other (by rw [hRl];omega),← hRr];exact h2.hde
    · rw [← hRr]
      refine ⟨h2.hr.1,h2.hr.2.1,j5,fun d' hd' e=>?_⟩
      obtain ⟨r',k1,k2⟩:=zws hcur.de hd'
      rw [k1] at e
      injection e with e
      omega
    · rcases List.mem_cons.1 hd with rfl|hd
      · injection hr with hr
        have:=hcur.fr.size
        omega
      · exact hcur.dn d hd r hr
   have hl1:w.heap.size + 1=R.l:=hRl.symm
   rw [hl1]
   refine ⟨_,_,hend,?_⟩
   cases hj:st.2.2 with
   | none =>
    rw [hj] at hK
    simp only [RP.rc,zaK]
    rw [hj] at hfin
    exact ⟨.inl rfl,_,_,_,_,_,_,hK,hfin⟩
   | some e =>
    rw [hj] at hK hfin
    rcases h2.ex e hj with rfl|⟨id,rfl⟩
    · simp only [RP.rc,zaK]
      exact wpIn_ret ⟨.inr (.inl rfl),_,_,_,_,_,_,hK,hfin⟩
    · simp only [RP.rc,zaK]
      exact wpIn_exit ⟨.inr (.inr ⟨id,rfl⟩),_,_,_,_,_,_,hK,hfin⟩
theorem zta {n:Nat}{r:Bool}{x y:Cmd}{code:Code} (hc:chk P n r (.seq x y) code=true) :
  (∃ t,x=.frz t∧chk P n r y code=true)∨(∃ t,y=.frz t∧chk P n r x code=true)∨∃ x' y',code=.seq x' y'∧chk P n r x x' = true∧chk P n r y y' = true:=by
 unfold chk at hc
 split at hc
 · simp only [Bool.and_eq_true] at hc
   exact .inl ⟨_,rfl,hc.2⟩
 · simp only [Bool.and_eq_true] at hc
   exact .inr (.inl ⟨_,rfl,hc.2⟩)
 · split at hc
   · simp only [Bool.and_eq_true] at hc
     exact .inr (.inr ⟨_,_,rfl,hc.1,hc.2⟩)
   · cases hc
theorem yE (hmix:P.follows .mixedOrders=true):∀ (c:Cmd)(r:Bool)(code:Code),chk P n r c code=true→zko P H n r c code
 | .skip,r,code,hc=>by
  intro J l hst hM hH ro hro pn ρ σ g Q s0 w S F θ a hpn h hw
  cases code<;>first|(cases r<;>cases hc;done)|skip
  exact wpIn_skip ⟨.inl rfl,_,_,_,_,_,_,hw,h⟩
 | .ops l',r,code,hc=>by
  intro J l hst hM hH ro hro pn ρ σ g Q s0 w S F θ a hpn h hw
  cases code<;>first|(cases r<;>cases hc;done)|skip
  rename_i id ops draw
  cases draw with
  | false =>
   have hc:ki P n ops l' (List.range ops.size)=true:=by cases r<;>exact hc
   exact wpIn_region (zb0 hst hM hH _ _ hc h hw (fun ρ' σ' g' S' F' θ' w' a' hk hc=>⟨.inl rfl,ρ',σ',g',S',F',θ',hk,hc⟩))
  | true =>
   have hc:qt P n ops l' (.leaf (List.range ops.size))=true:=by cases r<;>exact hc
   refine zq0 hmix hst hM hH hc h ?_
   have hlen:l'.length=ops.size:=by
    simp only [qt,zdE,Bool.and_eq_true] at hc
    exact Nat.eq_of_beq_eq_true hc.1.2.1
   show xk P H (yl l' (List.range ops.size)) ρ σ g _
   rw [← hlen,znY]
   exact hw
 | .opsT t l',r,code,hc=>by
  intro J l hst hM hH ro hro pn ρ σ g Q s0 w S F θ a hpn h hw
  cases code<;>first|(cases r<;>cases hc;done)|skip
  rename_i id ops draw
  cases draw with
  | false=>cases r<;>cases hc
  | true =>
   have hc:qt P n ops l' t=true:=by cases r<;>exact hc
   exact zq0 hmix hst hM hH hc h hw
 | .frz t,r,code,hc=>by cases code<;>cases r<;>cases hc
 | .seq x y,r,code,hc=>by
  intro J l hst hM hH ro hro pn ρ σ g Q s0 w S F θ a hpn h hw
  simp only [AW] at hw
  rcases zta hc with ⟨t,rfl,h1⟩|⟨t,rfl,h1⟩|⟨x',y',rfl,h1,h2⟩
  · simp only [AW] at hw
    obtain ⟨ρ',σ',S',k1,k2⟩:=zlS hst h hw
    exact yE hmix y r code h1 J l hst hM hH ro hro pn ρ' σ' g Q s0 w S' F θ a hpn k2 k1
  · refine wpIn_mono (yE hmix x r code h1 J l hst hM hH ro hro pn ρ σ g _ s0 w S F θ a hpn h hw) fun e a' w' hp=>?_
    obtain ⟨hex,ρ',σ',g',S',F',θ',hq,hc'⟩:=hp
    cases e with
    | normal =>
     simp only [AW] at hq
     obtain ⟨ρ2,σ2,S2,k1,k2⟩:=zlS hst hc' hq
     exact ⟨.inl rfl,_,_,_,_,_,_,k1,k2⟩
    | _=>exact ⟨hex,_,_,_,_,_,_,hq,hc'⟩
  · refine wpIn_seq (wpIn_mono (yE hmix x r x' h1 J l hst hM hH ro hro pn ρ σ g _ s0 w S F θ a hpn h hw) fun e a' w' hp=>?_)
    obtain ⟨hex,ρ',σ',g',S',F',θ',hq,hc'⟩:=hp
    cases e with
    | normal=>exact yE hmix y r y' h2 J l hst hM hH ro hro pn ρ' σ' g' Q s0 w' S' F' θ' a' hpn hc' hq
    | _=>exact ⟨hex,_,_,_,_,_,_,hq,hc'⟩
 | .cond x y z,r,code,hc=>by
  intro J l hst hM hH ro hro pn ρ σ g Q s0 w S F θ a hpn h hw
  cases code<;>first|(cases r<;>cases hc;done)|skip
  rename_i c' y' z'
  have hc:(zp c' x && chk P n r y y' && chk P n r z z')=true:=by cases r<;>exact hc
  simp only [Bool.and_eq_true] at hc
  obtain ⟨⟨h1,h2⟩,h3⟩:=hc
  have hr:=zw h.env h1
  simp only [AW] at hw
  split at hw
  · rename_i t ht
    rw [ht] at hr
    have e:=hr.bool_inv
    cases t with
    | true=>exact wpIn_cond_true e (yE hmix y r y' h2 J l hst hM hH ro hro pn ρ σ g Q s0 w S F θ a hpn h hw)
    | false=>exact wpIn_cond_false e (yE hmix z r z' h3 J l hst hM hH ro hro pn ρ σ g Q s0 w S F θ a hpn h hw)
  · exact hw.elim
 | .block id x,r,code,hc=>by
  intro J l hst hM hH ro hro pn ρ σ g Q s0 w S F θ a hpn h hw
  cases code<;>first|(cases r<;>cases hc;done)|skip
  rename_i id' x'
  have hc:(Nat.beq id id' && chk P n r x x')=true:=by cases r<;>exact hc
  simp only [Bool.and_eq_true] at hc
  have e:=Nat.eq_of_beq_eq_true hc.1
  subst e
  refine wpIn_block (wpIn_mono (yE hmix x r x' hc.2 J l hst hM hH ro hro pn ρ σ g _ s0 w S F θ a hpn h hw) fun e a' w' hp=>?_)
  obtain ⟨hex,ρ',σ',g',S',F',θ',hq,hc'⟩:=hp
  cases e with
  | exit i =>
   simp only at hq
   simp only [Exit.inBlock]
   cases hb:Nat.beq i id with
   | true =>
    rw [hb] at hq
    rw [if_pos (Nat.eq_of_beq_eq_true hb)]
    exact ⟨.inl rfl,_,_,_,_,_,_,hq,hc'⟩
   | false =>
    rw [hb] at hq
    rw [if_neg (fun e=>by rw [e] at hb;simp at hb)]
    exact ⟨hex,_,_,_,_,_,_,hq,hc'⟩
  | _=>exact ⟨hex,_,_,_,_,_,_,hq,hc'⟩
 | .loop x,r,code,hc=>by
  intro J l hst hM hH ro hro pn ρ σ g Q s0 w S F θ a hpn h hw
  cases code<;>first|(cases r<;>cases hc;done)|skip
  rename_i x'
  have hc:chk P n r x x' = true:=by cases r<;>exact hc
  simp only [AW] at hw
  obtain ⟨ι,E,Sg,gi,inv,μ,⟨i0,hi0,hf0,hg0⟩,hstep⟩:=hw
  refine zvB (fun i a w=>inv i∧∃ S F θ,Cur J l n s0 w S F θ (zy (Sg i)) (gi i) (yZ (E i)) a) μ i0 ⟨hi0,S,F,_,by rw [hg0];exact h.weaken hpn hf0⟩ fun i a w hI=>?_
  obtain ⟨hi,S,F,θ,hcur⟩:=hI
  refine wpIn_mono (yE hmix x r x' hc J l hst hM hH ro hro pn _ _ _ _ s0 w S F θ a hpn hcur (hstep i hi)) fun e a' w' hp=>?_
  obtain ⟨hex,ρ',σ',g',S',F',θ',hq,hc'⟩:=hp
  cases e with
  | normal =>
   obtain ⟨i',hi',hf',hg',hμ⟩:=hq
   exact ⟨i',⟨hi',S',F',_,by rw [hg'];exact hc'.weaken hpn hf'⟩,hμ⟩
  | _=>exact ⟨hex,_,_,_,_,_,_,hq,hc'⟩
 | .fzb t j x,r,code,hc=>by
  intro J l hst hM hH ro hro pn ρ σ g Q s0 w S F θ a hpn h hw
  have hc:chk P n r x code=true:=by cases r<;>cases code<;>exact hc
  simp only [AW] at hw
  split at hw
  · split at hw
    · rename_i l0 hb
      split at hw
      · rename_i nm rows hj
        split at hw
        · rename_i k hu
          obtain ⟨S2,h2⟩:=zvF hst h hb hu hj
          exact yE hmix x r code hc J l hst hM hH ro hro pn _ _ _ _ s0 w S2 F _ a hpn h2 hw
        · exact hw.elim
      · exact hw.elim
    · exact hw.elim
  · exact hw.elim
 | .nvb t j nm x,r,code,hc=>by
  intro J l hst hM hH ro hro pn ρ σ g Q s0 w S F θ a hpn h hw
  have hc:chk P n r x code=true:=by cases r<;>cases code<;>exact hc
  simp only [AW] at hw
  split at hw
  · rename_i bn ht hu
    split at hw
    · rename_i l0 hb
      split at hw
      · rename_i hj
        exact yE hmix x r code hc J l hst hM hH ro hro pn _ _ _ _ s0 w S F _ a hpn (zvC hst h hb hu hj) hw
      · exact hw.elim
    · exact hw.elim
  · exact hw.elim
 | .nvs t nm x,r,code,hc=>by
  intro J l hst hM hH ro hro pn ρ σ g Q s0 w S F θ a hpn h hw
  have hc:chk P n r x code=true:=by cases r<;>cases code<;>exact hc
  simp only [AW] at hw
  split at hw
  · rename_i bn ht hu
    split at hw
    · rename_i hb
      exact yE hmix x r code hc J l hst hM hH ro hro pn _ _ _ _ s0 w S F _ a hpn (zvD hst h hb hu) hw
    · exact hw.elim
  · exact hw.elim
 | .tagb t x,r,code,hc=>by
  intro J l hst hM hH ro hro pn ρ σ g Q s0 w S F θ a hpn h hw
  have hc:chk P n r x code=true:=by cases r<;>cases code<;>exact hc
  simp only [AW] at hw
  split at hw
  · rename_i bn ht
    split at hw
    · rename_i l0 hb
      obtain ⟨b,h2⟩:=zus hst h ht hb
      exact yE hmix x r code hc J l hst hM hH ro hro pn _ _ _ _ s0 w S F _ a hpn h2 (hw b)
    · rename_i bm hv
      split at hw
      · rename_i l0 hb
        obtain ⟨b,h2⟩:=zut hst h hv hb
        exact yE hmix x r code hc J l hst hM hH ro hro pn _ _ _ _ s0 w S F _ a hpn h2 (hw b)
      · exact hw.elim
    · exact hw.elim
  · exact hw.elim
 | .frzr x,r,code,hc=>by
  intro J l hst hM hH ro hro pn ρ σ g Q s0 w S F θ a hpn h hw
  have hc:chk P n r x code=true:=by cases r<;>cases code<;>exact hc
  simp only [AW] at hw
  obtain ⟨nm,nm2,b,b2,nn,cc,j,ll,l2,h1,h2,h3,h4,h5,h6,hw⟩:=hw
  obtain ⟨S2,h7⟩:=zuu hst h h1 h2 h3 h4 h5 h6
  exact yE hmix x r code hc J l hst hM hH ro hro pn _ _ _ _ s0 w S2 F _ a hpn h7 hw
 | .nvt t nm arr x,r,code,hc=>by
  intro J l hst hM hH ro hro pn ρ σ g Q s0 w S F θ a hpn h hw
  have hc:chk P n r x code=true:=by cases r<;>cases code<;>exact hc
  simp only [AW] at hw
  split at hw
  · rename_i ht hu
    exact yE hmix x r code hc J l hst hM hH ro hro pn _ _ _ _ s0 w S F _ a hpn (zvE hst h ht hu) hw
  · exact hw.elim
 | .cut x,r,code,hc=>by
  intro J l hst hM hH ro hro pn ρ σ g Q s0 w S F θ a hpn h hw
  have hc:chk P n r x code=true:=by cases r<;>cases code<;>exact hc
  simp only [AW] at hw
  rcases hw with hw|⟨E,Sg,hf,hw⟩
  · exact yE hmix x r code hc J l hst hM hH ro hro pn ρ σ g Q s0 w S F θ a hpn h hw
  · exact yE hmix x r code hc J l hst hM hH ro hro pn _ _ _ _ s0 w S F _ a hpn (h.weaken hpn hf) hw
 | .exit id,r,code,hc=>by
  intro J l hst hM hH ro hro pn ρ σ g Q s0 w S F θ a hpn h hw
  cases code<;>first|(cases r<;>cases hc;done)|skip
  rename_i id'
  have hc:Nat.beq id id' = true:=by cases r<;>exact hc
  have e:=Nat.eq_of_beq_eq_true hc
  subst e
  exact wpIn_exit ⟨.inr (.inr ⟨_,rfl⟩),_,_,_,_,_,_,hw,h⟩
 | .ret,r,code,hc=>by
  intro J l hst hM hH ro hro pn ρ σ g Q s0 w S F θ a hpn h hw
  cases code<;>first|(cases r<;>cases hc;done)|skip
  exact wpIn_ret ⟨.inr (.inl rfl),_,_,_,_,_,_,hw,h⟩
 | .rangeF pf f ps x y,r,code,hc=>by
  intro J l hst hM hH ro hro pn ρ σ g Q s0 w S F θ a hpn h hw
  cases r with
  | true=>cases code<;>cases hc
  | false =>
   cases code<;>first|(cases hc;done)|skip
   rename_i g' qs x' y'
   have hc:(zp g' f && (ps == qs.toList) && (ps.all fun p=>Nat.blt p n) && chk P n true x x' && chk P n true y y')=true:=hc
   simp only [Bool.and_eq_true,beq_iff_eq] at hc
   obtain ⟨⟨⟨⟨h1,h2⟩,h3⟩,h4⟩,h5⟩:=hc
   rw [hro rfl]
   exact zs9 hst hM hH (yE hmix x true x' h4) (yE hmix y true y' h5) h1 h2 (fun p hp=>by
    have:=(List.all_eq_true.1 h3) p hp
    simpa [Nat.blt_eq] using this) hpn h hw
end
inductive RVar where
 | tmp (t:Nat)
 | cell (agg:Bool)(size a:Nat)
def zkp (ρ:Env)(σ:za):RVar→Option V
 | .tmp t=>some (ρ t)
 | .cell agg size a=>match ρ a with
   | .bptr nm j=>match σ nm with
     | .box row=>xe agg size j row
     | _=>none
   | .cptr _ row j=>xe agg size j row
   | _=>none
def jM (ρ:Env)(σ:za):List RVar→Option (List V)
 | []=>some []
 | x :: r=>match zkp ρ σ x,jM ρ σ r with
   | some v,some vs=>some (v :: vs)
   | _,_=>none
def zfR:List V→V
 | [v]=>v
 | vs=>.tup vs
def zoY (P:Program):ResultVar→RVar→Bool
 | .tmp t,.tmp t'=>Nat.beq t t'
 | .cell a T,.cell agg size a'=>Nat.beq a a' && v7 P T size && zaH P T == agg && (agg || Nat.beq size 1) && (P.underlying T).isSome
 | _,_=>false
def ue (P:Program):List ResultVar→List RVar→Bool
 | [],[]=>true
 | x :: r,y :: r'=>zoY P x y && ue P r r'
 | _,_=>false
def zj (P:Program)(f n:Nat)(rs:List RVar)(c:Cmd):Bool:=match P.funcs[f]? with
 | some fn=>fn.name != "runtime.NumGoroutine" && Nat.beq fn.ntmps n && ue P fn.results.toList rs && (match fn.body with
   | some code=>chk P n false c code
   | none=>false)
 | none=>false
def okE:Exit→Bool
 | .normal|.ret=>true
 | _=>false
def ztb (rs:List RVar)(r:V):Exit→Env→za→Unit→Prop:=fun e ρ σ _=>okE e=true∧∃ vs,jM ρ σ rs=some vs∧r=er σ 6 (zfR vs)
def SL (S:Nat→Prop)(θ:zJ)(σ:za):Nat→Prop:=fun b=>S b∨zS θ σ b
section
variable {G:Type}{J:JT G}{w w' w'':World}{S F S' F' S'' F'':Nat→Prop}{θ θ' θ'':zJ}{σ σ' σ'':za}{l n:Nat}{g g':G}
variable {P:Program}{o:Oper}{a:Act}{ρ:Env}{H:HT G}{s0:Start}
theorem Rep.er2 (hst:St J w S F θ σ l g) {v:V}{x:Value} (h:Rep w S θ σ l v x)(n:Nat):RepP w (SL S θ σ) (Hm.er σ n v) x:=by
 induction n generalizing v x with
 | zero=>exact .any x
 | succ n ihn =>
  cases h with
  | pure h1=>exact (h1.mono (fun _ _=>rfl) (fun _ h=>.inl h)).er σ (n + 1)
  | agg vs xs hl h1 =>
   refine .agg _ xs (by simpa using hl) fun i v x h2 h3=>?_
   rw [List.getElem?_map] at h2
   cases h4:vs[i]? with
   | none=>simp [h4] at h2
   | some u=>simp [h4] at h2;subst h2;exact ihn (h1 i u x h4 h3)
  | tup vs xs hl h1 =>
   refine .tup _ xs (by simpa using hl) fun i v x h2 h3=>?_
   rw [List.getElem?_map] at h2
   cases h4:vs[i]? with
   | none=>simp [h4] at h2
   | some u=>simp [h4] at h2;subst h2;exact ihn (h1 i u x h4 h3)
  | fn f vs xs hl h1 =>
   refine .fn f _ xs (by simpa using hl) fun i v x h2 h3=>?_
   rw [List.getElem?_map] at h2
   cases h4:vs[i]? with
   | none=>simp [h4] at h2
   | some u=>simp [h4] at h2;subst h2;exact ihn (h1 i u x h4 h3)
  | bptr nm j x ho hn h1 =>
   simp only [Hm.er]
   cases hs:σ nm with
   | box row =>
    obtain ⟨b,m,hb,rfl⟩:=h1 row hs
    have hk:=hst.hblk nm
    rw [hs] at hk
    obtain ⟨b',c,e,h2,h3,h4,h5⟩:=hk
    have eb:b' = b:=by rw [hb] at h2;simp at h2;exact h2.1.symm
    subst eb
    have hlt:SL S θ σ b':=.inr ⟨nm,_,by rw [hs];trivial,h2⟩
    have hcell:∀ i v,row.cells[i]? = some v→w.cell? ⟨b',0 + i,none⟩ = some (c.getD i default):=by
     intro i v hv
     obtain ⟨y,hy,_⟩:=h5 i v hv
     have hi:=(Array.getElem?_eq_some_iff.1 hy).1
     simp [World.cell?,h3,Array.getD,hi]
    have hrep:∀ i v,row.cells[i]? = some v→Rep w S θ σ l v (c.getD i default):=by
     intro i v hv
     obtain ⟨y,hy,hr⟩:=h5 i v hv
     have hi:=(Array.getElem?_eq_some_iff.1 hy)
     have:c.getD i default=y:=by simp [Array.getD,hi.1,hi.2]
     rw [this];exact hr
    have fin:∀ row':V,(∀ (i:Nat)(v':V),row'.cells[i]? = some v'→∃ v:V,row.cells[i]? = some v∧v' = Hm.er σ n v)→RepP w (SL S θ σ) (.cptr .p row' j) (.pointer (some ⟨b',j,none⟩)):=by
     intro row' hrow'
     have:=RepP.cptr (w:=w) (S:=SL S θ σ) row' b' 0 j (fun i=>c.getD i default) hlt (fun i v' hv'=>by
      obtain ⟨v,hv,_⟩:=hrow' i v' hv'
      exact hcell i v hv) (fun i v' hv'=>by
      obtain ⟨v,hv,rfl⟩:=hrow' i v' hv'
      exact ihn (hrep i v hv))
     simpa using this
    have one:∀ v:V,(∀ ll,v≠.agg ll)→(∀ b ll,v≠.tag b ll)→row=v→RepP w (SL S θ σ) (.cptr .p (Hm.er σ n v) j) (.pointer (some ⟨b',j,none⟩)):=by
     intro v hv ht e
     refine fin _ fun i v' hv'=>?_
     subst e
     have hcs:row.cells=[row]:=wl hv ht
     have hce:(Hm.er σ n row).cells=[Hm.er σ n row]:=wl (znc σ n hv) (zoJ σ n ht)
     rw [hce] at hv'
     rw [hcs]
     cases i with
     | zero=>simp at hv';exact ⟨row,by simp,hv'.symm⟩
     | succ i=>simp at hv'
    cases row with
    | agg ll =>
     refine fin _ fun i v' hv'=>?_
     simp only [V.cells,List.getElem?_map] at hv' ⊢
     cases h6:ll[i]? with
     | none=>simp [h6] at hv'
     | some u=>simp [h6] at hv';exact ⟨u,rfl,hv'.symm⟩
    | tup ll=>exact .any _
    | tag b ll=>exact .any _
    | _=>exact one _ (by intro ll;simp) (by intro b ll;simp) rfl
   | _=>exact .any _
  | ptr nm gen i j x ho hn hg h1 =>
   simp only [Hm.er]
   cases hs:σ nm with
   | arr gen' rows =>
    simp only
    cases hgen:Nat.beq gen gen' with
    | false=>exact .any _
    | true =>
     have e:=Nat.eq_of_beq_eq_true hgen
     subst e
     simp only [cond_true]
     cases hrow:rows[i]? with
     | none=>exact .any _
     | some row =>
      obtain ⟨b,m,hb,rfl⟩:=h1 rows hs
      have hk:=hst.hblk nm
      rw [hs] at hk
      rcases hk with ⟨h2,_⟩|⟨b',m',c,e,h2,h3,h4,h5,h6⟩
      · rw [hb] at h2;cases h2
      · have eb:b' = b∧m' = m:=by rw [hb] at h2;simp at h2;exact ⟨h2.1.symm,h2.2.symm⟩
        obtain ⟨rfl,rfl⟩:=eb
        have hlt:SL S θ σ b':=.inr ⟨nm,_,by rw [hs];trivial,h2⟩
        refine RepP.cptr row b' (i * m') j (fun q=>c.getD (i * m' + q) default) hlt (fun q v hv=>?_) (fun q v hv=>?_)
        · obtain ⟨y,hy,_⟩:=h6 i q row v hrow hv
          have hi:=(Array.getElem?_eq_some_iff.1 hy).1
          simp [World.cell?,h3,Array.getD,hi]
        · obtain ⟨y,hy,hr⟩:=h6 i q row v hrow hv
          have hi:=(Array.getElem?_eq_some_iff.1 hy)
          have e2:c.getD (i * m' + q) default=y:=by simp [Array.getD,hi.1,hi.2]
          rw [e2];exact hr.mono (fun _ _=>rfl) (fun _ h=>.inl h)
   | _=>exact .any _
  | msl nm gen i len x ho hn hg h1 =>
   simp only [Hm.er]
   cases hs:σ nm with
   | arr gen' rows =>
    simp only
    cases hgen:Nat.beq gen gen' with
    | false=>exact .any _
    | true =>
     have e:=Nat.eq_of_beq_eq_true hgen
     subst e
     simp only [cond_true]
     rcases h1 rows hs with ⟨b,m,cap,hb,hle,rfl,hcap,hlen⟩|⟨rfl,a,rfl⟩
     · have hk:=hst.hblk nm
       rw [hs] at hk
       rcases hk with ⟨h2,_⟩|⟨b',m',c,e,h2,h3,h4,h5,h6⟩
       · rw [hb] at h2;cases h2
       · have eb:b' = b∧m' = m:=by rw [hb] at h2;simp at h2;exact ⟨h2.1.symm,h2.2.symm⟩
         obtain ⟨rfl,rfl⟩:=eb
         have hlt:SL S θ σ b':=.inr ⟨nm,_,by rw [hs];trivial,h2⟩
         have hl:((rows.drop i).take len).length=len:=by simp;omega
         have hget:∀ q row,((rows.drop i).take len)[q]? = some row→rows[i + q]? = some row:=by
          intro q row hq
          rw [List.getElem?_take] at hq
          split at hq
          · rwa [List.getElem?_drop] at hq
          · cases hq
         have:=RepP.sl (w:=w) (S:=SL S θ σ) ((rows.drop i).take len) b' (i * m') cap m' (fun q j=>c.getD ((i + q) * m' + j) default) hlt (by omega)
          (fun row hr=>h4 row (List.mem_of_mem_drop (List.mem_of_mem_take hr)))
          (fun q j row v h7 h8=>by
            obtain ⟨y,hy,_⟩:=h6 (i + q) j row v (hget q row h7) h8
            have hi:=(Array.getElem?_eq_some_iff.1 hy).1
            have e1:i * m' + q * m' + j=(i + q) * m' + j:=by rw [Nat.add_mul]
            rw [e1]
            simp [World.cell?,h3,Array.getD,hi])
          (fun q j row v h7 h8=>by
            obtain ⟨y,hy,hr⟩:=h6 (i + q) j row v (hget q row h7) h8
            have hi:=(Array.getElem?_eq_some_iff.1 hy)
            have e2:c.getD ((i + q) * m' + j) default=y:=by simp [Array.getD,hi.1,hi.2]
            rw [e2];exact hr.mono (fun _ _=>rfl) (fun _ h=>.inl h))
         rw [hl] at this
         exact this
     · simpa using RepP.emp a 0
   | _=>exact .any _
  | own nm rows b off cap m ys hn hb hcap hw hc hr hf =>
   simp only [Hm.er]
   cases rows with
   | nil=>exact .emp _ _
   | cons row rest =>
    have hlt:SL S θ σ b:=by
     rcases hb with hb|⟨m',k,hb,hk,_⟩
     · exact .inl hb
     · exact .inr ⟨nm,m',yh hk,hb⟩
    exact .sl (row :: rest) b off cap m ys hlt hcap hw hc fun i j row v h1 h2=>(hr i j row v h1 h2).mono (fun _ _=>rfl) (fun _ h=>.inl h)
  | ownemp nm a hn=>exact .emp a 0
  | cptro nm row b o j ys hn hb hc hr =>
   simp only [Hm.er]
   have hlt:SL S θ σ b:=by
    rcases hb with hb|⟨m',k,hb,hk,_⟩
    · exact .inl hb
    · exact .inr ⟨nm,m',yh hk,hb⟩
   exact .cptr row b o j ys hlt hc fun i v h1=>(hr i v h1).mono (fun _ _=>rfl) (fun _ h=>.inl h)
  | rnd=>exact .any _
  | mp nm x ho hn h1 =>
   simp only [Hm.er]
   cases hs:σ nm with
   | mp k ns vs =>
    obtain ⟨r,hb,rfl⟩:=h1 k ns vs hs
    have hk:=hst.hblk nm
    rw [hs] at hk
    obtain ⟨r',es,clk,h2,h3,h4,h5,h6,h7⟩:=hk
    have eb:r' = r:=by rw [hb] at h2;simp at h2;exact h2.symm
    subst eb
    exact .mps k ns vs r' es clk (.inr ⟨nm,_,by rw [hs];trivial,h2⟩) h3 h4 h5 h6 fun i v e a b=>(h7 i v e a b).mono (fun _ _=>rfl) fun _ h=>.inl h
   | _=>exact .any _
  | ifv t v x h1=>exact .ifv t _ x (ihn h1)
theorem Rep.bptr_inv {nm j:Nat}{row:V}{x:Value} (h:Rep w S θ σ l (.bptr nm j) x)(hσ:σ nm=.box row):∃ b m,θ nm=some (b,m)∧x=.pointer (some ⟨b,j,none⟩):=by
 cases h with
 | pure h1=>cases h1
 | bptr _ _ _ _ hn h1=>exact h1 row hσ
theorem zvG (hs:St J w S F θ σ l g)(he:EnvRep w S θ σ l ρ a.tmps) {x:ResultVar}{y:RVar}{v:V} (hc:zoY P x y=true)(hv:zkp ρ σ y=some v) :
  ∃ u, (match x with
    | .tmp t=>(pure (a.tmps.getD t undef):Sem Value)
    | .cell c t=>do loadVar t (← asAddr (a.tmps.getD c undef))).run P w=.ok u w∧Rep w S θ σ l v u:=by
 cases x with
 | tmp t =>
  cases y with
  | tmp t' =>
   have e:=Nat.eq_of_beq_eq_true hc
   subst e
   simp only [zkp,Option.some.injEq] at hv
   subst hv
   exact ⟨_,by simp,he t⟩
  | cell _ _ _=>cases hc
 | cell c T =>
  cases y with
  | tmp _=>cases hc
  | cell agg size c' =>
   simp only [zoY,Bool.and_eq_true,beq_iff_eq] at hc
   obtain ⟨⟨⟨⟨h1,h2⟩,h3⟩,h4⟩,h5⟩:=hc
   have e:=Nat.eq_of_beq_eq_true h1
   subst e
   have hr:=he c
   have fin:∀ {row:V}{b oo j:Nat}{ys:Nat→Value},a.tmps.getD c undef=.pointer (some ⟨b,oo + j,none⟩)→xe agg size j row=some v →
     (∀ (i:Nat)(u:V),row.cells[i]? = some u→w.cell? ⟨b,oo + i,none⟩ = some (ys i)∧Rep w S θ σ l u (ys i))→∃ u,(do loadVar T (← asAddr (a.tmps.getD c undef)):Sem Value).run P w=.ok u w∧Rep w S θ σ l v u:=by
    intro row b oo j ys e hld hcell
    obtain ⟨x,hrun,hrep⟩:=zoK hld h2 h3 h4 h5 hcell
    refine ⟨x,?_,hrep⟩
    rw [e]
    simp [Instr.loadAt,Instr.sureAddr] at hrun
    simpa [asAddr] using hrun
   simp only [zkp] at hv
   split at hv
   · rename_i nm j hρ
     rw [hρ] at hr
     split at hv
     · rename_i row hσ
       obtain ⟨b,m,hb,e⟩:=hr.bptr_inv hσ
       have hk:=hs.hblk nm
       rw [hσ] at hk
       obtain ⟨b',c2,e',k2,k3,k4,k5⟩:=hk
       have eb:b' = b:=by rw [hb] at k2;simp at k2;exact k2.1.symm
       subst eb
       refine fin (oo:=0) (ys:=fun i=>c2.getD i default) (by rw [e,Nat.zero_add]) hv fun i u hu=>?_
       obtain ⟨y,hy,hr⟩:=k5 i u hu
       have hi:=Array.getElem?_eq_some_iff.1 hy
       have e2:c2.getD i default=y:=by simp [Array.getD,hi.1,hi.2]
       rw [e2]
       exact ⟨by simpa [World.cell?,k3] using hy,hr⟩
     · cases hv
   · rename_i row j hρ
     rw [hρ] at hr
     obtain ⟨b,oo,ys,e1,h6,_⟩:=hr.cptr_inv
     exact fin e1 hv (fun i u hu=>⟨(h6 i u hu).1,.pure (h6 i u hu).2⟩)
   · cases hv
def zlT (tmps:Array Value):ResultVar→Sem Value
 | .tmp t=>pure (tmps.getD t undef)
 | .cell c t=>do loadVar t (← asAddr (tmps.getD c undef))
theorem zoZ (hs:St J w S F θ σ l g)(he:EnvRep w S θ σ l ρ a.tmps):∀ {xs:List ResultVar}{ys:List RVar}{vs:List V},ue P xs ys=true→jM ρ σ ys=some vs →
  ∃ us,(xs.mapM (zlT a.tmps)).run P w=.ok us w∧xw (Rep w S θ σ l) vs us
 | [],[],vs,_,hv=>by
  simp only [jM,Option.some.injEq] at hv
  subst hv
  exact ⟨[],by simp,rfl,fun i v x h=>by simp at h⟩
 | x :: xs,y :: ys,vs,hc,hv=>by
  simp only [ue,Bool.and_eq_true] at hc
  simp only [jM] at hv
  split at hv
  · rename_i v vs' h1 h2
    simp only [Option.some.injEq] at hv
    subst hv
    obtain ⟨u,k1,k2⟩:=zvG (P:=P) hs he hc.1 h1
    obtain ⟨us,k3,k4,k5⟩:=zoZ hs he hc.2 h2
    have k1':(zlT a.tmps x).run P w=.ok u w:=by cases x<;>exact k1
    refine ⟨u :: us,by simp [List.mapM_cons,Sem.run_bind,k1',k3,Result.andThen],by simp [k4],fun i v' x' h3 h4=>?_⟩
    cases i with
    | zero=>simp at h3 h4;subst h3 h4;exact k2
    | succ i=>exact k5 i v' x' (by simpa using h3) (by simpa using h4)
  · cases hv
 | [],_ :: _,_,hc,_=>by simp [ue] at hc
 | _ :: _,[],_,hc,_=>by simp [ue] at hc
theorem zvH {fn:Func}{rs:List RVar}{vs:List V} (hs:St J w S F θ σ l g)(he:EnvRep w S θ σ l ρ a.tmps)(hc:ue P fn.results.toList rs=true)(hv:jM ρ σ rs=some vs) :
  ∃ u,(results fn a.tmps).run P w=.ok u w∧Rep w S θ σ l (zfR vs) u:=by
 obtain ⟨us,k1,k2,k3⟩:=zoZ (P:=P) hs he hc hv
 have e:results fn a.tmps=(List.toArray <$> (fn.results.toList.mapM (zlT a.tmps))) >>= fun vs=>pure (if h:vs.size=1 then vs[0] else .tuple vs):=by
  rw [← Array.mapM_eq_mapM_toList]
  unfold results
  congr 1
 rw [e]
 refine ⟨if h:us.toArray.size=1 then us.toArray[0] else .tuple us.toArray,by simp [k1,Result.andThen],?_⟩
 by_cases h:us.toArray.size=1
 · rw [dif_pos h]
   simp only [List.size_toArray] at h
   cases us with
   | nil=>simp at h
   | cons u us =>
    cases us with
    | cons _ _=>simp at h
    | nil =>
     cases vs with
     | nil=>simp at k2
     | cons v vs =>
      cases vs with
      | cons _ _=>simp at k2
      | nil=>exact k3 0 v u rfl rfl
 · rw [dif_neg h]
   have hf:zfR vs=.tup vs:=by
    simp only [List.size_toArray] at h
    cases vs with
    | nil=>rfl
    | cons v vs =>
     cases vs with
     | cons _ _=>rfl
     | nil=>simp at k2;omega
   rw [hf]
   exact .tup vs us k2 k3
theorem zb1 {fn:Func}{rs:List RVar}{vs:List V}{R:Ending→World→Prop} (hst:zC J)(hc:ue P fn.results.toList rs=true)(hv:jM ρ σ rs=some vs):∀ (ds:List Deferred) {w:World},St J w S F θ σ l g→EnvRep w S θ σ l ρ a.tmps→DefOk w S F θ σ ds →
  (∀ (w':World)(u:Value),St J w' S F θ σ l g→Rep w' S θ σ l (zfR vs) u→w'.heap.size=w.heap.size→w'.os=w.os→w'.tape=w.tape→Out w w' →
    (∀ b,(∀ d∈ds,d.target≠.collected b)→w'.heap[b]? = w.heap[b]?)→R (.returned u) w')→LeavesInM Fence.wide 0 P fn a.tmps R ds .returning w
 | [],w,hs,he,_,hR=>by
  obtain ⟨u,k1,k2⟩:=zvH (P:=P) hs he hc hv
  exact ⟨u,k1,hR w u hs k2 rfl rfl rfl (Out.refl _) (fun _ _=>rfl)⟩
 | d :: ds,w,hs,he,⟨⟨r,h1,h2,h3,h4,h5,h6⟩,h7⟩,hR=>by
  have hstay:Stays w S F θ σ (w.putObj r (.deferred none)) S:=Stays.set hs (by simp) (fun b hb=>World.putObj_heap_other hb) h2 (by intro c e fr h;cases h) rfl rfl (Out.refl _) h3 h4 h5
  refine ⟨(by intro h;cases h),.inl ⟨r,_,h1,run_takeDeferred h2,?_⟩⟩
  have key:∀ ds:List Deferred,(∀ d'∈ds,d'.target≠.collected r)→DefOk w S F θ σ ds→DefOk (w.putObj r (.deferred none)) S F θ σ ds:=by
   intro ds
   induction ds with
   | nil=>intro _ _;trivial
   | cons d ds ih =>
    rintro hne ⟨⟨r',k1,k2,k3,k4,k5,k6⟩,k7⟩
    exact ⟨⟨r',k1,by rw [World.putObj_heap_other (fun e=>hne d (by simp) (by rw [k1,e]))];exact k2,k3,k4,k5,k6⟩,ih (fun d' hd'=>hne d' (by simp [hd'])) k7⟩
  refine zb1 hst hc hv ds (hstay.st hst hs) (fun t=>hstay.rep hs (he t)) (key ds h6 h7) fun w' u k1 k2 k3 k4 k5 k6 k7=>?_
  refine hR w' u k1 k2 (by simpa using k3) k4 k5 k6 fun b hb=>?_
  rw [k7 b (fun d' hd'=>hb d' (by simp [hd'])),World.putObj_heap_other (fun e=>hb d (by simp) (by rw [h1,e]))]
end
section
variable {G:Type}{J:JT G}{w w' w'':World}{S F S' F' S'' F'':Nat→Prop}{θ θ' θ'':zJ}{σ σ' σ'':za}{l n:Nat}{g g':G}
variable {P:Program}{o:Oper}{a:Act}{ρ:Env}{H:HT G}{s0:Start}
theorem znn {args:List V}{xs:List Value} (m:Nat)(h:xw (Rep w S θ σ l) args xs):EnvRep w S θ σ l (zfF args) (xs.toArray ++ Array.replicate m undef):=by
 intro t
 unfold zfF
 by_cases ht:t < args.length
 · have h1:args[t]? = some args[t]:=List.getElem?_eq_getElem ht
   have h2:t < xs.length:=by rw [← h.1];exact ht
   have h3:xs[t]? = some xs[t]:=List.getElem?_eq_getElem h2
   have e:(xs.toArray ++ Array.replicate m undef).getD t undef=xs[t]:=by
    rw [Array.getD_eq_getD_getElem?,Array.getElem?_append_left (by simpa using h2)]
    simp [h3]
   rw [h1,e]
   exact h.2 t _ _ h1 h3
 · rw [List.getElem?_eq_none (by omega)]
   have e:(xs.toArray ++ Array.replicate m undef).getD t undef=undef:=by
    have h3:xs.toArray.size≤t:=by have:=h.1;simp;omega
    rw [Array.getD_eq_getD_getElem?,Array.getElem?_append_right h3,Array.getElem?_replicate]
    split<;>rfl
   rw [e]
   exact znm
theorem zo0 {f:Nat}{rs:List RVar}{c:Cmd} (h:zj P f n rs c=true):∃ fn code,P.funcs[f]? = some fn∧fn.body=some code∧fn.ntmps=n∧ue P fn.results.toList rs=true∧chk P n false c code=true∧ww P f=true:=by
 unfold zj at h
 split at h
 · rename_i fn hf
   simp only [Bool.and_eq_true] at h
   obtain ⟨⟨⟨h1,h2⟩,h3⟩,h4⟩:=h
   split at h4
   · rename_i code hb
     refine ⟨fn,code,hf,hb,Nat.eq_of_beq_eq_true h2,h3,h4,?_⟩
     unfold ww
     rw [hf]
     simp only [Bool.and_eq_true]
     exact ⟨h1,by rw [hb];rfl⟩
   · cases h4
 · cases h
theorem zvI (J:JT Unit)(l:Nat):kd P J noH l:=fun _ _ _ _ _ _ _ _ _ h=>h.elim
theorem xx:yz (noH (G:=Unit)):=fun _ _ _ _ _ h=>h.elim
def glJ:JT Unit:=fun _ w S _=>GL w S
theorem Fn.intro {f:Nat}{rs:List RVar}{c:Cmd}{args:List V}{r:V} (hmix:P.follows .mixedOrders=true)(hc:zj P f n rs c=true)(haw:AW (G:=Unit) P noH [] c (zfF args) σ0 () (ztb rs r)):Fn P f args r:=by
 obtain ⟨fn,code,hf,hb,hn,hres,hchk,hcb⟩:=zo0 hc
 refine ⟨hcb,fun w S xs hS hgl hargs=>?_⟩
 refine callsIn_of_wp_marks hf hb trivial ?_
 have hst:zC glJ:=⟨fun _ _ _ _ h=>h,fun _ w S _ w' S' h _ _ h1 h2 _ _ _ _ _ _=>GL.same h (fun b hb=>h1 b (.inl hb)) h2⟩
 have hs:St glJ w S (fun _=>False) θ0 σ0 0 ():=⟨hS,fun nm=>rfl,fun _ _ _ _ _ h=>h.elim,fun b hb=>by obtain ⟨nm,m,h1,_⟩:=hb;exact h1.elim,fun b hb=>hb.elim,hgl⟩
 have hcur:Cur glJ 0 n ⟨w,S,fun _=>False,θ0,σ0⟩ w S (fun _=>False) θ0 σ0 () (zfF args) { tmps:=xs.toArray ++ Array.replicate (fn.ntmps - xs.toArray.size) undef,defers:=[] } :=
  ⟨hs,znn _ ⟨hargs.1,fun i v x h1 h2=>.pure (hargs.2 i v x h1 h2)⟩,by simp;omega,Fr.refl _ _ _ _ _,trivial,fun d hd=>by cases hd⟩
 refine wpIn_mono (yE hmix c false code hchk glJ 0 hst xx (zvI _ _) none (fun _=>rfl) [] _ _ _ _ ⟨w,S,fun _=>False,θ0,σ0⟩ w S _ θ0 _ (fun nm h=>absurd rfl h) hcur haw) fun e a' w' hp=>?_
 obtain ⟨hex,ρ',σ',g',S',F',θ',⟨hok,vs,hvs,rfl⟩,hc'⟩:=hp
 have key:LeavesInM Fence.wide 0 P fn a'.tmps (fun e w'=>∃ x' S',e=.returned x'∧RepP w' S' (er σ' 6 (zfR vs)) x'∧(∀ b,S' b→S b∨w.heap.size≤b)∧(∀ b,S' b→b < w'.heap.size)∧Grow w w') a'.defers .returning w':=by
  refine zb1 hst hres hvs a'.defers hc'.st hc'.env hc'.de fun w2 u k1 k2 k3 k4 k5 k6 k7=>?_
  have k:=hc'.fr
  have hnoL:∀ b,zS θ' σ' b→w.heap.size≤b:=fun b hb=>by
   by_cases hlt:b < w.heap.size
   · obtain ⟨nm,m,h1,_⟩:=k.live b hb hlt
     exact h1.elim
   · omega
  refine ⟨u,_,rfl,Rep.er2 k1 k2 6,fun b hb=>?_,fun b hb=>?_,?_⟩
  · rcases hb with hb|hb
    · rcases k.snew b hb with h1|⟨nm,m,h1,_⟩|h1|h1
      · exact .inl h1
      · exact h1.elim
      · exact h1.elim
      · exact .inr h1
    · exact .inr (hnoL b hb)
  · rcases hb with hb|⟨nm,m,h1,h2⟩
    · exact k1.hS b hb
    · exact yd k1 h1 h2
  · refine ⟨by have:=k.size;simp only at this;omega,k4.trans k.os,k5.trans k.tape,k6.trans k.output,fun b hb=>?_⟩
    have hsame:w'.heap[b]? = w.heap[b]?:=k.same b hb (fun ⟨nm,m,h1,_⟩=>h1) (fun h=>h)
    rw [k7 b (fun d hd e=>?_),hsame]
    have:=hc'.dn d hd b e
    simp only at this
    omega
 cases e with
 | normal=>exact key
 | ret=>exact key
 | exit id=>cases hok
 | goto _=>cases hok
 | panic _=>cases hok
 | outgrown=>cases hok
end
def ztc {G:Type} (pn:List Nat)(rs:List RVar)(K:V→za→G→Prop):Exit→Env→za→G→Prop:=fun e ρ σ' g' =>
 okE e=true∧∃ vs,jM ρ σ' rs=some vs∧zt pn (zfR vs)=true∧zF pn σ' pn=true∧K (zfR vs) (restr pn σ') g'
section
variable {G:Type}{J:JT G}{w w' w'':World}{S F S' F' S'' F'':Nat→Prop}{θ θ' θ'':zJ}{σ σ' σ'':za}{l n:Nat}{g g':G}
variable {P:Program}{o:Oper}{a:Act}{ρ:Env}{H:HT G}{s0:Start}
theorem zuv {w0:World}{S0 F0:Nat→Prop}{θ0':zJ}{σ0':za} (h:Cur J l n ⟨w0,S0,F0,θ0',σ0'⟩ w S F θ σ g ρ a)(hs0:∀ nm b m,(σ0' nm).live→θ0' nm=some (b,m)→b < w0.heap.size)(hsz:w'.heap.size=w.heap.size)(hos:w'.os=w.os)(ht:w'.tape=w.tape)(ho:Out w w')
  (hk:∀ b,(∀ d∈a.defers,d.target≠.collected b)→w'.heap[b]? = w.heap[b]?):Fr w0 S0 F0 θ0' σ0' w' S F θ σ:=by
 have k:=h.fr
 have hold:∀ b,b < w0.heap.size→w'.heap[b]? = w.heap[b]?:=fun b hb=>hk b fun d hd e=>by
  have:=h.dn d hd b e
  simp only at this
  omega
 exact {
  size:=by have:=k.size;simp only at this;omega
  os:=hos.trans k.os
  tape:=ht.trans k.tape
  output:=ho.trans k.output
  same:=fun b hb hl hF=>by rw [hold b hb];exact k.same b hb hl hF
  sized:=fun b c e fr hc=>by
   rw [hold b (Array.getElem?_eq_some_iff.1 hc).1]
   exact k.sized b c e fr hc
  vecs:=fun nm q b m h1 h2 j hj=>by
   have h3:=k.vecs nm q b m h1 h2 j hj
   rw [← h3]
   exact zZ (hold b (hs0 nm b m (yh h1) h2))
  smono:=k.smono
  snew:=k.snew
  live:=k.live
  fsub:=k.fsub
  kdead:=k.kdead
  kbox:=k.kbox
  karr:=k.karr
  kvec:=k.kvec
  kmp:=k.kmp }
theorem CT.intro {f:Nat}{rs:List RVar}{c:Cmd}{args:List V}{K:V→za→G→Prop} (pn:List Nat)(hmix:P.follows .mixedOrders=true)(hc:zj P f n rs c=true)
  (hpn:∀ nm,σ nm≠.zc→nm∈pn)(haw:yz H→AW P H pn c (zfF args) σ g (ztc pn rs K)):CT P H f args pn σ g K:=by
 obtain ⟨fn,code,hf,hb,hn,hres,hchk,hcb⟩:=zo0 hc
 refine ⟨hcb,fun J l hst hM hH w S F θ xs hs hargs=>?_⟩
 refine callsIn_of_wp_marks hf hb trivial ?_
 have hcur:Cur J l n ⟨w,S,F,θ,σ⟩ w S F θ σ g (zfF args) { tmps:=xs.toArray ++ Array.replicate (fn.ntmps - xs.toArray.size) undef,defers:=[] } :=
  ⟨hs,znn _ hargs,by simp;omega,Fr.refl _ _ _ _ _,trivial,fun d hd=>by cases hd⟩
 refine wpIn_mono (yE hmix c false code hchk J l hst hM hH none (fun _=>rfl) pn _ _ _ _ ⟨w,S,F,θ,σ⟩ w S _ θ _ hpn hcur (haw hM)) fun e a' w' hp=>?_
 obtain ⟨hex,ρ',σ',g',S',F',θ',⟨hok,vs,hvs,hcl,hcs,hK⟩,hc'⟩:=hp
 have key:LeavesInM Fence.wide 0 P fn a'.tmps (fun e w'=>∃ r x' σ' g' S' F' θ',e=.returned x'∧K r σ' g'∧St J w' S' F' θ' σ' l g'∧Rep w' S' θ' σ' l r x'∧Fr w S F θ σ w' S' F' θ' σ'∧∀ nm,nm ∉ pn→σ' nm=.zc) a'.defers .returning w':=by
  refine zb1 hst hres hvs a'.defers hc'.st hc'.env hc'.de fun w2 u k1 k2 k3 k4 k5 k6 k7=>?_
  refine ⟨zfR vs,u,restr pn σ',g',S',F',zT pn θ',rfl,hK,?_,?_,?_,fun nm hu=>?_⟩
  · exact k1.restr (fun nm hm=>zA hm) (fun nm hm=>z8 hm) (fun nm hm row hrow=>(z6 pn σ' pn).1 hcs nm hm row hrow)
  · exact k2.restr (fun nm hm=>zA hm) hcl
  · exact (zuv hc' (fun nm b m h1 h2=>yd hs h1 h2) k3 k4 k5 k6 k7).drop hpn (fun nm hm=>zA hm) (fun nm hm=>z8 hm)
  · exact (z8 (θ:=θ') hu).1
 cases e with
 | normal=>exact key
 | ret=>exact key
 | exit id=>cases hok
 | goto _=>cases hok
 | panic _=>cases hok
 | outgrown=>cases hok
theorem zu (σ:za):∀ pn:List Nat,restr pn σ=zy (pn.map fun nm=>(nm,σ nm))
 | []=>rfl
 | nm :: r=>by
  funext t
  have ih:=congrFun (zu σ r) t
  simp only [restr,List.map_cons,zy,x4] at ih ⊢
  cases hb:Nat.beq t nm with
  | true=>rw [Nat.eq_of_beq_eq_true hb];simp
  | false=>simpa using ih
end
inductive Frm (G:Type) where
 | seq (b:Cmd)
 | block (id:Nat)
 | loop (N:Env→za→G→Prop)
def zb2 {G:Type} (P:Program)(H:HT G)(pn:List Nat)(Q:Exit→Env→za→G→Prop):List (Frm G)→Exit→Env→za→G→Prop
 | []=>Q
 | .seq b :: fs=>fun e ρ σ g=>match e with
   | .normal=>AW P H pn b ρ σ g (zb2 P H pn Q fs)
   | e=>zb2 P H pn Q fs e ρ σ g
 | .block id :: fs=>fun e ρ σ g=>match e with
   | .exit id'=>bif Nat.beq id' id then zb2 P H pn Q fs .normal ρ σ g else zb2 P H pn Q fs (.exit id') ρ σ g
   | e=>zb2 P H pn Q fs e ρ σ g
 | .loop N :: fs=>fun e ρ σ g=>match e with
   | .normal=>N ρ σ g
   | e=>zb2 P H pn Q fs e ρ σ g
structure WC {G:Type} (P:Program)(H:HT G)(pn:List Nat)(Q:Exit→Env→za→G→Prop)(fs:List (Frm G))(c:Cmd)(ρ:Env)(σ:za)(g:G):Prop where
 out:AW P H pn c ρ σ g (zb2 P H pn Q fs)
structure WE {G:Type} (P:Program)(H:HT G)(pn:List Nat)(Q:Exit→Env→za→G→Prop)(fs:List (Frm G))(e:Exit)(ρ:Env)(σ:za)(g:G):Prop where
 out:zb2 P H pn Q fs e ρ σ g
structure WI {G:Type} (P:Program)(H:HT G)(pn:List Nat)(Q:Exit→Env→za→G→Prop)(fs:List (Frm G))(l:List GItem)(ρ:Env)(σ:za)(g:G):Prop where
 out:xk P H l ρ σ g (zb2 P H pn Q fs .normal)
def fz:V→Option V
 | .any=>some .any
 | .bool b=>some (.bool b)
 | .int k n=>some (.int k n)
 | .str s=>some (.str s)
 | .agg l=>some (.agg l)
 | .tup l=>some (.tup l)
 | .sl t rows=>some (.sl t rows)
 | .msl nm gen i len=>some (.msl nm gen i len)
 | .ptr nm gen i j=>some (.ptr nm gen i j)
 | .bptr nm j=>some (.bptr nm j)
 | .cptr t row j=>some (.cptr t row j)
 | .nilptr=>some .nilptr
 | .fn f caps=>some (.fn f caps)
 | .nilfn=>some .nilfn
 | .rnd=>some .rnd
 | .raw b j=>some (.raw b j)
 | .tag b l=>some (.tag b l)
 | .ifc b=>some (.ifc b)
 | .rsl b n c=>some (.rsl b n c)
 | .nilmp=>some .nilmp
 | .mp nm=>some (.mp nm)
 | .mps k ns vs=>some (.mps k ns vs)
 | .ifv t v=>some (.ifv t v)
theorem zhf {v u:V} (h:fz v=some u):u=v:=by cases v<;>cases h<;>rfl
def fzL:List V→Option (List V)
 | []=>some []
 | v :: r=>match fz v,fzL r with
   | some v',some r'=>some (v' :: r')
   | _,_=>none
theorem wI:∀ {l m:List V},fzL l=some m→m=l
 | [],_,h=>by cases h;rfl
 | v :: r,m,h=>by
  simp only [fzL] at h
  split at h
  · rename_i v' r' h1 h2
    cases h
    rw [zhf h1,wI h2]
  · cases h
def fzA:Option V→Option V
 | some (.agg l)=>match fzL l with
   | some l'=>some (.agg l')
   | none=>none
 | some v=>fz v
 | none=>none
theorem kj {o:Option V}{u:V} (h:fzA o=some u):o=some u:=by
 unfold fzA at h
 split at h
 · split at h
   · rename_i h1
     cases h
     rw [wI h1]
   · cases h
 · rw [zhf h]
 · cases h
def zwt (op:BinOp)(st:Bool)(et:List LT)(x y:V):Option V :=
 match op,x,y with
 | .lss,.int k a,.int k' b=>bif kEq k k' then some (.bool (decide (a < b))) else none
 | .leq,.int k a,.int k' b=>bif kEq k k' then some (.bool (decide (a≤b))) else none
 | .gtr,.int k a,.int k' b=>bif kEq k k' then some (.bool (decide (a > b))) else none
 | .geq,.int k a,.int k' b=>bif kEq k k' then some (.bool (decide (a ≥ b))) else none
 | .eql, x,y=>match eqv st et x y with
   | some b=>some (.bool b)
   | none=>none
 | .neq, x,y=>match eqv st et x y with
   | some b=>some (.bool (!b))
   | none=>none
 | _,_,_=>none
def sop (ρ:Env)(σ:za):AOp→Option V
 | .mov x=>fz (ev ρ x)
 | .pick c a b=>match ev ρ c with
   | .bool true=>fz (ev ρ a)
   | .bool false=>fz (ev ρ b)
   | _=>none
 | .bin op st et x y=>zwt op st et (ev ρ x) (ev ρ y)
 | .not x=>match ev ρ x with
   | .bool t=>some (.bool (!t))
   | _=>none
 | .len s x=>match s,ev ρ x with
   | false,.sl _ rows=>some (.int .i64 rows.length)
   | false, .msl nm gen _ n=>match σ nm with
     | .arr gen' _=>bif Nat.beq gen gen' then some (.int .i64 n) else none
     | _=>none
   | true,.str s=>some (.int .i64 s.length)
   | false,.rsl _ n _=>some (.int .i64 n)
   | _,_=>none
 | .build zero parts=>match v6 ρ zero parts with
   | some l=>match fzL l with
     | some l'=>some (.agg l')
     | none=>none
   | none=>none
 | .bsl size xs=>match fzL (xs.map (ev ρ)) with
   | some l=>bif l.all (fun v=>zP v && xr v && Nat.beq v.cells.length size) then some (.sl .p l) else none
   | none=>none
 | .load agg size a=>match ev ρ a with
   | .bptr nm j=>match σ nm with
     | .box row=>fzA (xe agg size j row)
     | _=>none
   | .cptr _ row j=>fzA (xe agg size j row)
   | _=>none
 | .faddr off x=>match ev ρ x with
   | .bptr nm j=>match σ nm with
     | .box _=>some (.bptr nm (j + off))
     | _=>none
   | .ptr nm gen i j=>match σ nm with
     | .arr gen' _=>bif Nat.beq gen gen' then some (.ptr nm gen i (j + off)) else none
     | _=>none
   | .cptr t row j=>some (.cptr t row (j + off))
   | .raw b j=>some (.raw b (j + off))
   | _=>none
 | .field agg size off x=>match ev ρ x with
   | .agg l=>fzA (xe agg size off (.agg l))
   | _=>none
 | .extract x i=>match ev ρ x with
   | .tup l=>fzA l[i]?
   | _=>none
 | .cut0 x=>match ev ρ x with
   | .sl _ _=>some (.sl .nil [])
   | _=>none
 | .mkfn f caps=>match fzL (caps.map (ev ρ)) with
   | some l=>some (.fn f l)
   | none=>none
 | .nilck x=>match ev ρ x with
   | .bptr nm j=>match σ nm with
     | .box _=>some (.bptr nm j)
     | _=>none
   | .cptr t row j=>some (.cptr t row j)
   | .raw b j=>some (.raw b j)
   | .fn f caps=>some (.fn f caps)
   | .rnd=>some .rnd
   | _=>none
 | _=>none
def zwu (ρ:Env)(σ:za)(size:Nat)(a x:Opd):Option (Nat × V):=match ev ρ a with
 | .bptr nm j=>match σ nm with
   | .box row=>match fzA (wW size j row (ev ρ x)) with
     | some r=>some (nm,r)
     | none=>none
   | _=>none
 | _=>none
def zwv (ρ:Env)(size:Nat)(x:Opd):Option V:=match fz (ev ρ x) with
 | some v=>bif xr v && Nat.beq size v.cells.length then some v else none
 | none=>none
structure Fc (P:Program)(f:Nat)(args:List V)(r:V):Prop where
 out:Fn P f args r
structure Cc {G:Type} (P:Program)(H:HT G)(f:Nat)(args:List V)(pn:List Nat)(σ:za)(g:G)(K:V→za→G→Prop):Prop where
 out:CT P H f args pn σ g K
def zek (ρ:Env)(f:Opd)(args:List Opd):Option (Nat × List V):=match ev ρ f with
 | .fn fid caps=>match fzL (args.map (ev ρ)) with
   | some as=>some (fid,as ++ caps)
   | none=>none
 | _=>none
section
variable {G:Type}{P:Program}{H:HT G}{pn:List Nat}{Q:Exit→Env→za→G→Prop}{fs:List (Frm G)}{ρ:Env}{σ:za}{g:G}{r:List GItem}{d:Nat}{dst:Option Nat}{a b:Cmd}{v:V}{o:AOp}
theorem zrT (h:WC P H pn Q (.seq b :: fs) a ρ σ g):WC P H pn Q fs (.seq a b) ρ σ g:=⟨by
 have:=h.out
 simp only [AW]
 refine cast (congrArg (AW P H pn a ρ σ g) ?_) this
 funext e ρ' σ' g'
 cases e<;>rfl⟩
theorem zww (h:WE P H pn Q fs .normal ρ σ g):WC P H pn Q fs .skip ρ σ g:=⟨h.out⟩
theorem zrU {l:List GItem} (h:WI P H pn Q fs l ρ σ g):WC P H pn Q fs (.ops l) ρ σ g:=⟨h.out⟩
theorem zwx {l:List GItem}{r:List Nat} (h:WI P H pn Q fs (yl l r) ρ σ g):WC P H pn Q fs (.opsT (.leaf r) l) ρ σ g:=⟨h.out⟩
theorem jN {l:List GItem}{i j:Nat}{x y:OT} (h:WC P H pn Q fs (.opsT x l) ρ σ g)(k:WC P H pn Q fs (.opsT y l) ρ σ g):WC P H pn Q fs (.opsT (.node i j x y) l) ρ σ g:=⟨⟨h.out,k.out⟩⟩
theorem zd {x:Opd}{t:Bool} (hx:ev ρ x=.bool t)(h1:t=true→WC P H pn Q fs a ρ σ g)(h2:t=false→WC P H pn Q fs b ρ σ g):WC P H pn Q fs (.cond x a b) ρ σ g:=⟨by
 simp only [AW,hx]
 exact kc (fun h=>(h1 h).out) (fun h=>(h2 h).out)⟩
theorem c_t {x:Opd} (hx:ev ρ x=.bool true)(h:WC P H pn Q fs a ρ σ g):WC P H pn Q fs (.cond x a b) ρ σ g:=zd hx (fun _=>h) (fun e=>by cases e)
theorem c_f {x:Opd} (hx:ev ρ x=.bool false)(h:WC P H pn Q fs b ρ σ g):WC P H pn Q fs (.cond x a b) ρ σ g:=zd hx (fun e=>by cases e) (fun _=>h)
theorem zvJ {id:Nat} (h:WC P H pn Q (.block id :: fs) a ρ σ g):WC P H pn Q fs (.block id a) ρ σ g:=⟨by
 have:=h.out
 simp only [AW]
 refine cast (congrArg (AW P H pn a ρ σ g) ?_) this
 funext e ρ' σ' g'
 cases e<;>rfl⟩
theorem zwy {id:Nat} (h:WE P H pn Q fs (.exit id) ρ σ g):WC P H pn Q fs (.exit id) ρ σ g:=⟨h.out⟩
theorem zxw (h:WE P H pn Q fs .ret ρ σ g):WC P H pn Q fs .ret ρ σ g:=⟨h.out⟩
theorem zrV {t j nm bn k:Nat}{l0 rows:List V} (ht:ρ t=.bptr bn 0)(hb:σ bn=.box (.agg l0))(hj:l0[j]? = some (.sl (.own nm) rows))(hu:σ nm=.vec k)(h:WC P H pn Q fs a ρ (ups (ups σ nm .dead) bn (.box (.agg (l0.set j (.sl .p rows))))) g):WC P H pn Q fs (.fzb t j a) ρ σ g:=⟨by
 simp only [AW,ht,hb,hj,hu]
 exact h.out⟩
theorem zkq {t j nm bn:Nat}{l0:List V} (ht:ρ t=.bptr bn 0)(hb:σ bn=.box (.agg l0))(hu:σ nm=.zc)(hj:l0[j]? = some (.sl .nil []))(h:WC P H pn Q fs a ρ (ups (ups σ nm (.vec 0)) bn (.box (.agg (l0.set j (.sl (.own nm) []))))) g):WC P H pn Q fs (.nvb t j nm a) ρ σ g:=⟨by
 simp only [AW,ht,hu,hb,hj]
 exact h.out⟩
theorem zoE {t nm bn:Nat} (ht:ρ t=.bptr bn 0)(hb:σ bn=.box (.sl .nil []))(hu:σ nm=.zc)(h:WC P H pn Q fs a ρ (ups (ups σ nm (.vec 0)) bn (.box (.sl (.own nm) []))) g):WC P H pn Q fs (.nvs t nm a) ρ σ g:=⟨by
 simp only [AW,ht,hu,hb]
 exact h.out⟩
theorem zxx {t bn:Nat}{l0:List V} (ht:ρ t=.bptr bn 0)(hb:σ bn=.box (.agg l0))(h:∀ b,WC P H pn Q fs a (upd ρ t (.raw b 0)) (ups σ bn (.box (.tag b l0))) g):WC P H pn Q fs (.tagb t a) ρ σ g:=⟨by
 simp only [AW,ht,hb]
 exact fun b=>(h b).out⟩
theorem zwz (h:WC P H pn Q fs a ρ σ g):WC P H pn Q fs (.cut a) ρ σ g:=⟨.inl h.out⟩
theorem zcX (E:List (Nat × V))(Sg:List (Nat × Blk))(hf:wx pn E Sg ρ σ)(h:WC P H pn Q fs a (yZ E) (zy Sg) g):WC P H pn Q fs (.cut a) ρ σ g:=⟨.inr ⟨E,Sg,hf,h.out⟩⟩
theorem jO {ι:Type} (E:ι→List (Nat × V))(Sg:ι→List (Nat × Blk))(gi:ι→G)(inv:ι→Prop)(μ:ι→Nat)(i0:ι)(h0:inv i0)(hf:wx pn (E i0) (Sg i0) ρ σ)(hg:gi i0=g)
  (hs:∀ i,inv i→WC P H pn Q (.loop (fun ρ' σ' g'=>∃ i',inv i'∧wx pn (E i') (Sg i') ρ' σ'∧gi i' = g'∧μ i' < μ i) :: fs) a (yZ (E i)) (zy (Sg i)) (gi i)):WC P H pn Q fs (.loop a) ρ σ g:=⟨by
 simp only [AW]
 refine ⟨ι,E,Sg,gi,inv,μ,⟨i0,h0,hf,hg⟩,fun i hi=>?_⟩
 have:=(hs i hi).out
 refine cast (congrArg (AW P H pn a _ _ _) ?_) this
 funext e ρ' σ' g'
 cases e<;>rfl⟩
theorem zo1 (hM:yz H)(R:Exit→Env→za→G→Prop)(h:WC P H pn R [] a ρ σ g)(k:∀ e ρ' σ' g',R e ρ' σ' g'→WE P H pn Q fs e ρ' σ' g'):WC P H pn Q fs a ρ σ g :=
 ⟨yP hM a pn ρ σ g _ _ (fun e ρ' σ' g' h=>(k e ρ' σ' g' h).out) h.out⟩
theorem zbg (h:WC P H pn Q fs b ρ σ g):WE P H pn Q (.seq b :: fs) .normal ρ σ g:=⟨h.out⟩
theorem zvK {id:Nat} (h:WE P H pn Q fs .normal ρ σ g):WE P H pn Q (.block id :: fs) .normal ρ σ g:=⟨h.out⟩
theorem kl {N:Env→za→G→Prop} (h:N ρ σ g):WE P H pn Q (.loop N :: fs) .normal ρ σ g:=⟨h⟩
theorem ym {e:Exit} (h:Q e ρ σ g):WE P H pn Q [] e ρ σ g:=⟨h⟩
theorem zb (h:Q .ret ρ σ g):WE P H pn Q fs .ret ρ σ g:=⟨by
 induction fs with
 | nil=>exact h
 | cons f fs ih=>cases f<;>exact ih⟩
def zoF (id:Nat):List (Frm G)→List (Frm G)
 | []=>[]
 | .block id' :: fs=>bif Nat.beq id id' then fs else zoF id fs
 | _ :: fs=>zoF id fs
def zkr (id:Nat):List (Frm G)→Bool
 | []=>false
 | .block id' :: fs=>bif Nat.beq id id' then true else zkr id fs
 | _ :: fs=>zkr id fs
theorem zwA {id:Nat} (h0:zkr id fs=true)(h:WE P H pn Q (zoF id fs) .normal ρ σ g):WE P H pn Q fs (.exit id) ρ σ g:=⟨by
 obtain ⟨h⟩:=h
 induction fs with
 | nil=>cases h0
 | cons f fs ih =>
  cases f with
  | seq b=>exact ih h0 h
  | loop N=>exact ih h0 h
  | block id' =>
   simp only [zkr,zoF] at h0 h
   simp only [zb2]
   cases hb:Nat.beq id id' with
   | true=>rw [hb] at h;exact h
   | false=>rw [hb] at h h0;exact ih h0 h⟩
theorem zhg (h:WE P H pn Q fs .normal ρ σ g):WI P H pn Q fs [] ρ σ g:=⟨h.out⟩
theorem zwB {K:V→za→G→Prop} (h:sop ρ σ o=some v)(k:K v σ g):zg P H ρ σ g o K:=by
 cases o with
 | mov x=>simp only [sop] at h;simp only [zg];rw [← zhf h];exact k
 | pick c x y =>
  simp only [sop] at h;simp only [zg]
  split at h
  · rename_i e;rw [e];simp only [cond_true];rw [← zhf h];exact k
  · rename_i e;rw [e];simp only [cond_false];rw [← zhf h];exact k
  · cases h
 | bin op st et x y =>
  simp only [sop] at h;simp only [zg]
  revert h
  generalize ev ρ x=x
  generalize ev ρ y=y
  intro h
  unfold zwt at h
  split at h
  · cases hk:kEq _ _ with
    | true=>rw [hk] at h;cases h;simp only [xg,hk,cond_true];exact k
    | false=>rw [hk] at h;cases h
  · cases hk:kEq _ _ with
    | true=>rw [hk] at h;cases h;simp only [xg,hk,cond_true];exact k
    | false=>rw [hk] at h;cases h
  · cases hk:kEq _ _ with
    | true=>rw [hk] at h;cases h;simp only [xg,hk,cond_true];exact k
    | false=>rw [hk] at h;cases h
  · cases hk:kEq _ _ with
    | true=>rw [hk] at h;cases h;simp only [xg,hk,cond_true];exact k
    | false=>rw [hk] at h;cases h
  · split at h
    · rename_i e;cases h;simp only [xg,e];exact k
    · cases h
  · split at h
    · rename_i e;cases h;simp only [xg,e];exact k
    · cases h
  · cases h
 | not x =>
  simp only [sop] at h;simp only [zg]
  split at h
  · rename_i e;cases h;rw [e];exact k
  · cases h
 | len s x =>
  simp only [sop] at h;simp only [zg]
  split at h
  · rename_i e;cases h;rw [e];exact k
  · rename_i nm gen i n e
    split at h
    · rename_i gen' rows e2
      cases hb:Nat.beq gen gen' with
      | true=>rw [hb] at h;cases h;rw [e];simp only [e2];exact ⟨Nat.eq_of_beq_eq_true hb,k⟩
      | false=>rw [hb] at h;cases h
    · cases h
  · rename_i e;cases h;rw [e];exact k
  · rename_i e;cases h;rw [e];exact k
  · cases h
 | build zero parts =>
  simp only [sop] at h;simp only [zg]
  split at h
  · rename_i l e
    rw [e]
    split at h
    · rename_i l' e2;cases h;rw [← wI e2];exact k
    · cases h
  · cases h
 | bsl size xs =>
  simp only [sop] at h;simp only [zg]
  split at h
  · rename_i l e
    rw [← wI e]
    cases hb:l.all (fun v=>zP v && xr v && Nat.beq v.cells.length size) with
    | true=>rw [hb] at h;cases h;exact ⟨rfl,k⟩
    | false=>rw [hb] at h;cases h
  · cases h
 | load agg size x =>
  simp only [sop] at h;simp only [zg]
  split at h
  · rename_i e
    split at h
    · rename_i e2;rw [e];simp only [e2];rw [kj h];exact k
    · cases h
  · rename_i e;rw [e];simp only;rw [kj h];exact k
  · cases h
 | faddr off x =>
  simp only [sop] at h;simp only [zg]
  split at h
  · rename_i e
    split at h
    · rename_i e2;cases h;rw [e];simp only [e2];exact k
    · cases h
  · rename_i nm gen i j e
    split at h
    · rename_i gen' rows e2
      cases hb:Nat.beq gen gen' with
      | true=>rw [hb] at h;cases h;rw [e];simp only [e2];exact ⟨Nat.eq_of_beq_eq_true hb,k⟩
      | false=>rw [hb] at h;cases h
    · cases h
  · rename_i e;cases h;rw [e];exact k
  · rename_i e;cases h;rw [e];exact k
  · cases h
 | field agg size off x =>
  simp only [sop] at h;simp only [zg]
  split at h
  · rename_i e;rw [e];simp only;rw [kj h];exact k
  · cases h
 | extract x i =>
  simp only [sop] at h;simp only [zg]
  split at h
  · rename_i e;rw [e];simp only;rw [kj h];exact k
  · cases h
 | cut0 x =>
  simp only [sop] at h;simp only [zg]
  split at h
  · rename_i e;cases h;rw [e];exact k
  · cases h
 | mkfn f caps =>
  simp only [sop] at h;simp only [zg]
  split at h
  · rename_i l e;cases h;rw [← wI e];exact k
  · cases h
 | nilck x =>
  simp only [sop] at h;simp only [zg]
  split at h
  · rename_i e
    split at h
    · rename_i e2;cases h;rw [e];simp only [e2];exact k
    · cases h
  · rename_i e;cases h;rw [e];exact k
  · rename_i e;cases h;rw [e];exact k
  · rename_i e;cases h;rw [e];exact k
  · rename_i e;cases h;rw [e];exact k
  · cases h
 | _=>cases h
theorem zV (h:zg P H ρ σ g o fun v σ' g'=>xk P H r (put ρ dst v) σ' g' (zb2 P H pn Q fs .normal)):WI P H pn Q fs (.op dst none o :: r) ρ σ g:=⟨by
 show zg P H ρ σ g o fun v σ' g'=>zj7 v fun v=>xk P H r (put ρ dst v) σ' g' _
 simp only [ziQ]
 exact h⟩
theorem i_s (h:sop ρ σ o=some v)(k:WI P H pn Q fs r (upd ρ d v) σ g):WI P H pn Q fs (.op (some d) none o :: r) ρ σ g:=zV (zwB h k.out)
theorem yi {s:Nat}{want:Bool} (hs:ρ s=.bool want)(h:WI P H pn Q fs (.op dst none o :: r) (upd ρ s (.bool want)) σ g):WI P H pn Q fs (.op dst (some (s,want)) o :: r) ρ σ g:=⟨by
 simp only [xk,xS,hs]
 exact kc (fun _=>h.out) (fun e=>by cases want<;>cases e)⟩
theorem yw {s:Nat}{want:Bool} (hs:ρ s=.bool (!want))(h:WI P H pn Q fs r (put (upd ρ s (.bool (!want))) dst (.tup [])) σ g):WI P H pn Q fs (.op dst (some (s,want)) o :: r) ρ σ g:=⟨by
 simp only [xk,xS,hs]
 exact kc (fun e=>by cases want<;>cases e) (fun _=>h.out)⟩
theorem zi0 {s:Nat}{want:Bool} (hs:ρ s=.tup [])(h:WI P H pn Q fs r (put ρ dst (.tup [])) σ g):WI P H pn Q fs (.op dst (some (s,want)) o :: r) ρ σ g:=⟨by
 simp only [xk,xS,hs]
 exact h.out⟩
theorem i_g {s:Nat}{want b:Bool} (hs:ρ s=.bool b)(h1:b=want→WI P H pn Q fs (.op dst none o :: r) (upd ρ s (.bool want)) σ g)(h2:b=(!want)→WI P H pn Q fs r (put (upd ρ s (.bool (!want))) dst (.tup [])) σ g):WI P H pn Q fs (.op dst (some (s,want)) o :: r) ρ σ g:=⟨by
 simp only [xk,xS,hs]
 exact kc (fun e=>(h1 e).out) (fun e=>(h2 e).out)⟩
theorem zel {k:IntKind}{n:Int} (h:InR k n):kEq k k=true:=by cases k<;>first|rfl|exact h.elim
theorem zvb {k:IntKind}{m n:Int}{st:Bool}{et:List LT}{x y:Opd} (hx:ev ρ x=.int k m)(hy:ev ρ y=.int k n)(hr:InR k (m + n))(h:WI P H pn Q fs r (upd ρ d (.int k (m + n))) σ g) :
  WI P H pn Q fs (.op (some d) none (.bin .add st et x y) :: r) ρ σ g:=zV (by
 simp only [zg,hx,hy,xg,zel hr,cond_true]
 rw [zbR hr];exact h.out)
theorem zxy {k:IntKind}{m n:Int}{st:Bool}{et:List LT}{x y:Opd} (hx:ev ρ x=.int k m)(hy:ev ρ y=.int k n)(hr:InR k (m - n))(h:WI P H pn Q fs r (upd ρ d (.int k (m - n))) σ g) :
  WI P H pn Q fs (.op (some d) none (.bin .sub st et x y) :: r) ρ σ g:=zV (by
 simp only [zg,hx,hy,xg,zel hr,cond_true]
 rw [zbR hr];exact h.out)
theorem zxz {k:IntKind}{m n:Int}{st:Bool}{et:List LT}{x y:Opd} (hx:ev ρ x=.int k m)(hy:ev ρ y=.int k n)(hr:InR k (m * n))(h:WI P H pn Q fs r (upd ρ d (.int k (m * n))) σ g) :
  WI P H pn Q fs (.op (some d) none (.bin .mul st et x y) :: r) ρ σ g:=zV (by
 simp only [zg,hx,hy,xg,zel hr,cond_true]
 rw [zbR hr];exact h.out)
theorem zxA {k:IntKind}{m n:Int}{st:Bool}{et:List LT}{x y:Opd} (hx:ev ρ x=.int k m)(hy:ev ρ y=.int k n)(hn:n≠0)(hr:InR k (m.tdiv n))(h:WI P H pn Q fs r (upd ρ d (.int k (m.tdiv n))) σ g) :
  WI P H pn Q fs (.op (some d) none (.bin .quo st et x y) :: r) ρ σ g:=zV (by
 simp only [zg,hx,hy,xg,zel hr,cond_true]
 exact ⟨hn,hr,h.out⟩)
theorem zfS {k k':IntKind}{n:Int}{x:Opd} (hx:ev ρ x=.int k' n)(hr:InR k n)(h:WI P H pn Q fs r (upd ρ d (.int k n)) σ g):WI P H pn Q fs (.op (some d) none (.conv k x) :: r) ρ σ g:=zV (by
 simp only [zg,hx]
 exact ⟨hr,h.out⟩)
theorem zxR {size:Nat}{t:Tag}{rows:List V}{kk:IntKind}{n:Int}{row:V}{x i:Opd} (hx:ev ρ x=.sl t rows)(hi:ev ρ i=.int kk n)(h0:0≤n)(hr:rows[n.toNat]? = some row)(hw:Nat.beq size row.cells.length=true)
  (h:WI P H pn Q fs r (upd ρ d (.cptr t row 0)) σ g):WI P H pn Q fs (.op (some d) none (.iaddr size x i) :: r) ρ σ g:=zV (by
 simp only [zg,hx,hi]
 exact ⟨h0,row,hr,hw,h.out⟩)
theorem yJ {size:Nat}{nm gen i len gen':Nat}{rows:List V}{kk:IntKind}{n:Int}{x y:Opd} (hx:ev ρ x=.msl nm gen i len)(hi:ev ρ y=.int kk n)(hs:σ nm=.arr gen' rows)(hg:gen=gen')(h0:0≤n)(h1:n < len)(hw:Nat.beq (wd nm) size=true)
  (h:WI P H pn Q fs r (upd ρ d (.ptr nm gen (i + n.toNat) 0)) σ g):WI P H pn Q fs (.op (some d) none (.iaddr size x y) :: r) ρ σ g:=zV (by
 simp only [zg,hx,hi,hs]
 exact ⟨hg,h0,h1,hw,h.out⟩)
theorem zwC {s:List UInt8}{kk:IntKind}{n:Int}{c:UInt8}{x i:Opd} (hx:ev ρ x=.str s)(hi:ev ρ i=.int kk n)(h0:0≤n)(hc:s[n.toNat]? = some c)(h:WI P H pn Q fs r (upd ρ d (.int .u8 c.toNat)) σ g) :
  WI P H pn Q fs (.op (some d) none (.index x i) :: r) ρ σ g:=zV (by
 simp only [zg,hx,hi]
 exact ⟨h0,c,hc,h.out⟩)
theorem zxB {s:List UInt8}{kk:IntKind}{k:Nat}{c:UInt8}{x i:Opd} (hx:ev ρ x=.str s)(hi:ev ρ i=.int kk (k:Int))(hc:s[k]? = some c)(h:WI P H pn Q fs r (upd ρ d (.int .u8 c.toNat)) σ g) :
  WI P H pn Q fs (.op (some d) none (.index x i) :: r) ρ σ g:=zwC hx hi (by omega) (by simpa using hc) h
theorem xB {agg:Bool}{size nm gen i j gen':Nat}{rows:List V}{row:V}{x:Opd} (hx:ev ρ x=.ptr nm gen i j)(hs:σ nm=.arr gen' rows)(hg:gen=gen')(hr:rows[i]? = some row)(hl:fzA (xe agg size j row)=some v)
  (h:WI P H pn Q fs r (upd ρ d v) σ g):WI P H pn Q fs (.op (some d) none (.load agg size x) :: r) ρ σ g:=zV (by
 simp only [zg,hx,hs]
 refine ⟨hg,row,hr,?_⟩
 rw [kj hl]
 exact h.out)
theorem km {size nm gen i j gen':Nat}{rows:List V}{row row':V}{x y:Opd} (hx:ev ρ x=.ptr nm gen i j)(hs:σ nm=.arr gen' rows)(hg:gen=gen')(hr:rows[i]? = some row)(hp:zP (ev ρ y)=true)(hl:fzA (wW size j row (ev ρ y))=some row')
  (h:WI P H pn Q fs r (put ρ dst (.tup [])) (ups σ nm (.arr gen (rows.set i row'))) g):WI P H pn Q fs (.op dst none (.store size x y) :: r) ρ σ g:=zV (by
 simp only [zg,hx,hs]
 refine ⟨hg,hp,row,hr,?_⟩
 rw [kj hl]
 exact h.out)
theorem zl {size nm:Nat}{row:V}{x y:Opd} (hx:zwu ρ σ size x y=some (nm,row))(h:WI P H pn Q fs r (put ρ dst (.tup [])) (ups σ nm (.box row)) g):WI P H pn Q fs (.op dst none (.store size x y) :: r) ρ σ g:=zV (by
 unfold zwu at hx
 split at hx
 · rename_i e
   split at hx
   · rename_i e2
     split at hx
     · rename_i e3
       cases hx
       simp only [zg,e,e2,kj e3]
       exact h.out
     · cases hx
   · cases hx
 · cases hx)
theorem zi {nm:Nat}{z:V} (hs:σ nm=.zc)(h:WI P H pn Q fs r (upd ρ d (.bptr nm 0)) (ups σ nm (.box z)) g):WI P H pn Q fs (.op (some d) none (.alloc nm z) :: r) ρ σ g:=zV (by
 simp only [zg,hs]
 exact h.out)
theorem zr {nm size:Nat}{x:Opd} (hs:σ nm=.zc)(hx:zwv ρ size x=some v)(h:WI P H pn Q fs r (upd ρ d (.bptr nm 0)) (ups σ nm (.box v)) g):WI P H pn Q fs (.op (some d) none (.box nm size x) :: r) ρ σ g:=zV (by
 unfold zwv at hx
 split at hx
 · rename_i v' e
   cases zhf e
   cases hb:xr (ev ρ x) && Nat.beq size (ev ρ x).cells.length with
   | true =>
    rw [hb] at hx;cases hx
    simp only [zg,hs,hb,cond_true]
    exact h.out
   | false=>rw [hb] at hx;cases hx
 · cases hx)
theorem zem {nm:Nat} (hs:σ nm=.zc)(h:WI P H pn Q fs r (upd ρ d (.sl (.own nm) [])) (ups σ nm (.vec 0)) g):WI P H pn Q fs (.op (some d) none (.newVec nm) :: r) ρ σ g:=zV (by
 simp only [zg,hs]
 exact h.out)
theorem zi1 {nm:Nat} (hs:σ nm=.zc)(h:WI P H pn Q fs r (upd ρ d (.msl nm 0 0 0)) (ups σ nm (.arr 0 [])) g):WI P H pn Q fs (.op (some d) none (.newArr nm) :: r) ρ σ g:=zV (by
 simp only [zg,hs]
 exact h.out)
theorem zwD {nm size:Nat}{xs:List Opd}{l:List V} (hs:σ nm=.zc)(hw:(Nat.beq (wd nm) size && Nat.beq (nm / 1099511627776) 0)=true)(hl:fzL (xs.map (ev ρ))=some l)(hp:l.all (fun v=>zP v && xr v && Nat.beq v.cells.length size)=true)
  (h:WI P H pn Q fs r (upd ρ d (.sl (.own nm) l)) (ups σ nm (.vec xs.length)) g):WI P H pn Q fs (.op (some d) none (.bslO nm size xs) :: r) ρ σ g:=zV (by
 cases wI hl
 simp only [zg,hs]
 exact ⟨hw,hp,h.out⟩)
theorem zvc {size bytes et nm k:Nat}{rows xs:List V}{t:Tag}{x y:Opd} (hx:ev ρ x=.sl (.own nm) rows)(hy:ev ρ y=.sl t xs)(hs:σ nm=.vec k)(hk:rows.length=k)(hw:(Nat.beq (wd nm) size && wV nm et)=true)
  (hc:∀ row∈xs,row.cells.length=size∧row.cells.all zR=true)(h1:(k + xs.length) * bytes≤140737488355328)(h2:k + xs.length≤140737488355328)
  (h:WI P H pn Q fs r (upd ρ d (.sl (.own nm) (rows ++ xs))) (ups σ nm (.vec (k + xs.length))) g):WI P H pn Q fs (.op (some d) none (.append size bytes et x y) :: r) ρ σ g:=zV (by
 simp only [zg,hx,hy,qh,hs]
 exact ⟨hk,hw,hc,h1,h2,h.out⟩)
theorem zwE {size bytes et nm k:Nat}{rows:List V}{row:V}{t:Tag}{x y:Opd} (hx:ev ρ x=.sl (.own nm) rows)(hy:ev ρ y=.sl t [row])(hs:σ nm=.vec k)(hk:rows.length=k)(hw:((Nat.beq (wd nm) size && wV nm et) && (Nat.beq row.cells.length size && row.cells.all zR))=true)
  (h1:(k + 1) * bytes≤140737488355328)(h2:k + 1≤140737488355328)
  (h:WI P H pn Q fs r (upd ρ d (.sl (.own nm) (rows ++ [row]))) (ups σ nm (.vec (k + 1))) g):WI P H pn Q fs (.op (some d) none (.append size bytes et x y) :: r) ρ σ g:=by
 simp only [Bool.and_eq_true] at hw
 exact zvc hx hy hs hk (by rw [Bool.and_eq_true];exact hw.1) (fun row' hm=>by
  rw [List.mem_singleton.1 hm]
  exact ⟨Nat.eq_of_beq_eq_true hw.2.1,hw.2.2⟩) h1 h2 h
theorem ztd {size bytes et nm gen len gen':Nat}{rows xs:List V}{t:Tag}{x y:Opd} (hx:ev ρ x=.msl nm gen 0 len)(hy:ev ρ y=.sl t xs)(hs:σ nm=.arr gen' rows)(hg:gen=gen')(hw:Nat.beq (wd nm) size=true)
  (hc:∀ row∈xs,row.cells.length=size∧row.cells.all zR=true)(h1:(len + xs.length) * bytes≤140737488355328)(h2:len + xs.length≤140737488355328)
  (h:WI P H pn Q fs r (upd ρ d (.msl nm (gen + 1) 0 (len + xs.length))) (ups σ nm (.arr (gen + 1) (rows.take len ++ xs))) g):WI P H pn Q fs (.op (some d) none (.append size bytes et x y) :: r) ρ σ g:=zV (by
 simp only [zg,hx,hy,qh,hs]
 exact ⟨hg,hw,hc,h1,h2,h.out⟩)
theorem zhh {nm size bytes:Nat}{z:V}{m n:Int}{x y:Opd} (hs:σ nm=.zc)(hx:ev ρ x=.int .i64 m)(hy:ev ρ y=.int .i64 n)(h0:0≤m)(h1:m≤n)(h2:n * bytes≤140737488355328)(h3:n≤140737488355328)
  (hw:(Nat.beq (wd nm) size && Nat.beq z.cells.length size)=true)(h:WI P H pn Q fs r (upd ρ d (.msl nm 0 0 m.toNat)) (ups σ nm (.arr 0 (List.replicate m.toNat z))) g):WI P H pn Q fs (.op (some d) none (.mkSl nm size bytes z x y) :: r) ρ σ g:=zV (by
 simp only [Bool.and_eq_true] at hw
 simp only [zg,hx,hy,hs]
 exact ⟨h0,h1,h2,h3,hw.1,hw.2,h.out⟩)
def loV (ρ:Env)(lo:Option Opd):V:=(lo.map (ev ρ)).getD (.int .i64 0)
theorem zxC {size:Nat}{t:Tag}{rows:List V}{k1 k2:IntKind}{m n:Int}{x:Opd}{lo:Option Opd}{hi:Opd} (hx:ev ρ x=.sl t rows)(hlo:loV ρ lo=.int k1 m)(hhi:ev ρ hi=.int k2 n)(h0:0≤m)(h1:m≤n)(h2:n≤rows.length)(hw:m=0∨∀ row∈rows,row.cells.length=size)
  (h:WI P H pn Q fs r (upd ρ d (.sl t ((rows.take n.toNat).drop m.toNat))) σ g):WI P H pn Q fs (.op (some d) none (.slice false size x lo (some hi)) :: r) ρ σ g:=zV (by
 unfold loV at hlo
 simp only [zg,hx,hlo,Option.map_some,hhi]
 exact ⟨h0,h1,h2,hw,h.out⟩)
theorem zrW {size nm gen i len gen':Nat}{rows:List V}{k1 k2:IntKind}{m n:Int}{x:Opd}{lo:Option Opd}{hi:Opd} (hx:ev ρ x=.msl nm gen i len)(hlo:loV ρ lo=.int k1 m)(hhi:ev ρ hi=.int k2 n)(hs:σ nm=.arr gen' rows)(hg:gen=gen')(h0:0≤m)(h1:m≤n)(h2:n≤len)(hw:Nat.beq (wd nm) size=true)
  (h:WI P H pn Q fs r (upd ρ d (.msl nm gen (i + m.toNat) (n.toNat - m.toNat))) σ g):WI P H pn Q fs (.op (some d) none (.slice false size x lo (some hi)) :: r) ρ σ g:=zV (by
 unfold loV at hlo
 simp only [zg,hx,hlo,Option.map_some,hhi,hs]
 exact ⟨hg,h0,h1,h2,hw,h.out⟩)
theorem zrX {size nm gen i len gen':Nat}{rows:List V}{k1:IntKind}{m:Int}{x:Opd}{lo:Option Opd} (hx:ev ρ x=.msl nm gen i len)(hlo:loV ρ lo=.int k1 m)(hs:σ nm=.arr gen' rows)(hg:gen=gen')(h0:0≤m)(h2:m≤len)(hw:Nat.beq (wd nm) size=true)
  (h:WI P H pn Q fs r (upd ρ d (.msl nm gen (i + m.toNat) (len - m.toNat))) σ g):WI P H pn Q fs (.op (some d) none (.slice false size x lo none) :: r) ρ σ g:=zV (by
 unfold loV at hlo
 simp only [zg,hx,hlo,Option.map_none,hs]
 exact ⟨hg,h0,h2,hw,h.out⟩)
theorem zfT {nm size:Nat}{xs:List Opd}{l:List V} (hs:σ nm=.zc)(hw:Nat.beq (wd nm) size=true)(hl:fzL (xs.map (ev ρ))=some l)(hp:l.all (fun v=>zP v && xr v && Nat.beq v.cells.length size)=true)
  (h:WI P H pn Q fs r (upd ρ d (.msl nm 0 0 xs.length)) (ups σ nm (.arr 0 l)) g):WI P H pn Q fs (.op (some d) none (.bslA nm size xs) :: r) ρ σ g:=zV (by
 cases wI hl
 simp only [zg,hs]
 exact ⟨hw,hp,h.out⟩)
theorem zq2 {size bytes nm gen i len gen':Nat}{zero:V}{rows:List V}{x:Opd} (hx:ev ρ x=.msl nm gen i len)(hs:σ nm=.arr gen' rows)(hg:gen=gen')(hw:(Nat.beq (wd nm) size && zero.cells.all zR)=true)
  (h:WI P H pn Q fs r (put ρ dst (.tup [])) (ups σ nm (.arr gen (rows.take i ++ List.replicate len zero ++ rows.drop (i + len)))) g):WI P H pn Q fs (.op dst none (.clear size bytes zero x) :: r) ρ σ g:=zV (by
 simp only [Bool.and_eq_true] at hw
 simp only [zg,hx,hs]
 exact ⟨hg,hw.1,hw.2,h.out⟩)
theorem zhi {neg:Bool}{t:Tag}{rows:List V}{x:Opd} (hx:ev ρ x=.sl t rows)(h:∀ b:Bool,(b=true→rows=[])→WI P H pn Q fs r (upd ρ d (.bool (b != neg))) σ g):WI P H pn Q fs (.op (some d) none (.isnil neg x) :: r) ρ σ g:=zV (by
 simp only [zg,hx]
 exact fun b hb=>(h b hb).out)
theorem i_f {f:Opd}{args:List Opd}{fid:Nat}{as as':List V}{v:V} (hf:zek ρ f args=some (fid,as))(ha:as.map (er σ 6)=as')(hc:Fc P fid as' v)(hp:(xj v || xt as)=true)
  (h:WI P H pn Q fs r (put ρ dst v) σ g):WI P H pn Q fs (.op dst none (.call .f f args) :: r) ρ σ g:=zV (by
 unfold zek at hf
 split at hf
 · rename_i e
   split at hf
   · rename_i e2
     cases hf
     cases ha
     cases wI e2
     simp only [zg,xu,e]
     exact ⟨v,hc.out,by rw [Bool.or_comm];exact hp,h.out⟩
   · cases hf
 · cases hf)
theorem i_c {f:Opd}{args:List Opd}{fid:Nat}{as:List V}{ns:List Nat} (hf:zek ρ f args=some (fid,as))(hcl:zW ns as=true)(hcs:zF ns σ ns=true) {K:V→za→G→Prop} (hc:Cc P H fid as ns (restr ns σ) g K)
  (h:∀ v σ' g',K v σ' g'→WI P H pn Q fs r (put ρ dst v) (merge ns σ σ') g'):WI P H pn Q fs (.op dst none (.call (.s ns) f args) :: r) ρ σ g:=zV (by
 unfold zek at hf
 split at hf
 · rename_i e
   split at hf
   · rename_i e2
     cases hf
     cases wI e2
     simp only [zg,xu,e]
     exact ⟨hcl,hcs,wg (fun v σ' g' hk=>(h v σ' g' hk).out) hc.out⟩
   · cases hf
 · cases hf)
theorem zo2 {t nm k:Nat}{rows:List V} (ht:ρ t=.sl (.own nm) rows)(hs:σ nm=.vec k)(h:WE P H pn Q fs .normal (upd ρ t (.sl .p rows)) (ups σ nm .dead) g):WC P H pn Q fs (.frz t) ρ σ g:=⟨by
 simp only [AW,xS,ht,hs]
 exact h.out⟩
theorem zte {t nm gen i len gen':Nat}{rows:List V} (ht:ρ t=.msl nm gen i len)(hs:σ nm=.arr gen' rows)(hg:gen=gen')(h:WE P H pn Q fs .normal (upd ρ t (.sl .p ((rows.drop i).take len))) (ups σ nm .dead) g):WC P H pn Q fs (.frz t) ρ σ g:=⟨by
 simp only [AW,xS,ht,hs]
 exact ⟨hg,h.out⟩⟩
end
theorem Fn.step {P:Program}{f n:Nat}{rs:List RVar}{c:Cmd}{args:List V}{r:V} (hmix:P.follows .mixedOrders=true)(hc:zj P f n rs c=true)(h:WC (G:=Unit) P noH [] (ztb rs r) [] c (zfF args) σ0 ()):Fc P f args r :=
 ⟨Fn.intro hmix hc h.out⟩
theorem CT.step {G:Type}{P:Program}{H:HT G}{f n:Nat}{σ:za}{g:G}{rs:List RVar}{c:Cmd}{args:List V}{K:V→za→G→Prop} (pn:List Nat)(hmix:P.follows .mixedOrders=true)(hc:zj P f n rs c=true)
  (hpn:∀ nm,σ nm≠.zc→nm∈pn)(h:yz H→WC P H pn (ztc pn rs K) [] c (zfF args) σ g):Cc P H f args pn σ g K :=
 ⟨CT.intro pn hmix hc hpn fun hM=>(h hM).out⟩
section
variable {G:Type}{P:Program}{H:HT G}{pn:List Nat}{Q:Exit→Env→za→G→Prop}{fs:List (Frm G)}{ρ:Env}{σ:za}{g:G}{r:List GItem}{d:Nat}{dst:Option Nat}{a b:Cmd}{v:V}{o:AOp}
def zwF (pn:List Nat)(n:Nat)(E:Nat→List (Nat × V))(Sg:Nat→List (Nat × Blk))(inv:Nat→Prop)(g:G)(k:Nat):Env→za→G→Prop :=
 fun ρ' σ' g'=>∃ i',(i'≤n∧inv i')∧wx pn (E i') (Sg i') ρ' σ'∧g=g'∧n - i' < n - k
theorem ye (n:Nat)(E:Nat→List (Nat × V))(Sg:Nat→List (Nat × Blk))(inv:Nat→Prop)(h0:inv 0)(hf:wx pn (E 0) (Sg 0) ρ σ)
  (hs:∀ k,k≤n→inv k→WC P H pn Q (.loop (zwF pn n E Sg inv g k) :: fs) a (yZ (E k)) (zy (Sg k)) g):WC P H pn Q fs (.loop a) ρ σ g :=
 jO E Sg (fun _=>g) (fun k=>k≤n∧inv k) (fun k=>n - k) 0 ⟨Nat.zero_le _,h0⟩ hf rfl fun k hk=>hs k hk.1 hk.2
theorem zK {n:Nat}{E:Nat→List (Nat × V)}{Sg:Nat→List (Nat × Blk)}{inv:Nat→Prop}{k:Nat} (hk:k < n)(hi:inv (k + 1))(hf:wx pn (E (k + 1)) (Sg (k + 1)) ρ σ) :
  WE P H pn Q (.loop (zwF pn n E Sg inv g k) :: fs) .normal ρ σ g:=kl ⟨k + 1,⟨hk,hi⟩,hf,rfl,by omega⟩
def lpN {ι:Type} (pn:List Nat)(E:ι→List (Nat × V))(Sg:ι→List (Nat × Blk))(inv:ι→Prop)(μ:ι→Nat)(g:G)(i:ι):Env→za→G→Prop :=
 fun ρ' σ' g'=>∃ i',inv i'∧wx pn (E i') (Sg i') ρ' σ'∧g=g'∧μ i' < μ i
theorem x5 {ι:Type} (E:ι→List (Nat × V))(Sg:ι→List (Nat × Blk))(inv:ι→Prop)(μ:ι→Nat)(i0:ι)(h0:inv i0)(hf:wx pn (E i0) (Sg i0) ρ σ)
  (hs:∀ i,inv i→WC P H pn Q (.loop (lpN pn E Sg inv μ g i) :: fs) a (yZ (E i)) (zy (Sg i)) g):WC P H pn Q fs (.loop a) ρ σ g :=
 jO E Sg (fun _=>g) inv μ i0 h0 hf rfl fun i hi=>hs i hi
theorem xL {ι:Type}{E:ι→List (Nat × V)}{Sg:ι→List (Nat × Blk)}{inv:ι→Prop}{μ:ι→Nat}{i:ι} (i':ι)(hi:inv i')(hm:μ i' < μ i)(hf:wx pn (E i') (Sg i') ρ σ) :
  WE P H pn Q (.loop (lpN pn E Sg inv μ g i) :: fs) .normal ρ σ g:=kl ⟨i',hi,hf,rfl,hm⟩
theorem zvd {α:Type}{f:α→V}{l:List α}{size:Nat}{t:Tag}{kk:IntKind}{n:Int}{c:α}{x i:Opd} (hx:ev ρ x=.sl t (l.map f))(hi:ev ρ i=.int kk n)(h0:0≤n)(hr:l[n.toNat]? = some c)(hw:Nat.beq size (f c).cells.length=true)
  (h:WI P H pn Q fs r (upd ρ d (.cptr t (f c) 0)) σ g):WI P H pn Q fs (.op (some d) none (.iaddr size x i) :: r) ρ σ g :=
 zxR hx hi h0 (by simp [hr]) hw h
theorem zo {α:Type}{f:α→V}{l:List α}{t:Tag}{x:Opd} (hx:ev ρ x=.sl t (l.map f))(h:WI P H pn Q fs r (upd ρ d (.int .i64 l.length)) σ g):WI P H pn Q fs (.op (some d) none (.len false x) :: r) ρ σ g:=zV (by
 simp only [zg,hx,List.length_map]
 exact h.out)
theorem zxD {f:Int→V}{l:List Int}{nm gen gen' i:Nat}{v:Int}{x y:Opd} (hf:f=fun n=>V.int .i64 n)(hx:ev ρ x=.ptr nm gen i 0)(hy:ev ρ y=.int .i64 v)(hs:σ nm=.arr gen' (l.map f))(hg:gen=gen')(hi:i < l.length)
  (h:WI P H pn Q fs r (put ρ dst (.tup [])) (ups σ nm (.arr gen ((l.set i v).map f))) g):WI P H pn Q fs (.op dst none (.store 1 x y) :: r) ρ σ g:=by
 subst hf
 refine km (row:=.int .i64 l[i]) (row':=.int .i64 v) hx hs hg (by simp [hi]) (by rw [hy];rfl) (by rw [hy];rfl) ?_
 rw [List.map_set] at h
 exact h
theorem zxS {α:Type}{f:α→V}{l:List α}{size:Nat}{t:Tag}{k2:IntKind}{k:Nat}{x hi:Opd} (hx:ev ρ x=.sl t (l.map f))(hhi:ev ρ hi=.int k2 (k:Int))(h2:k≤l.length)
  (h:WI P H pn Q fs r (upd ρ d (.sl t ((l.take k).map f))) σ g):WI P H pn Q fs (.op (some d) none (.slice false size x none (some hi)) :: r) ρ σ g :=
 zxC (k1:=.i64) (m:=0) hx rfl hhi (Int.le_refl _) (by omega) (by simp;omega) (.inl rfl) (by simpa using h)
theorem yU {α:Type}{f:α→V}{l:List α}{c:α}{size bytes et nm k:Nat}{t:Tag}{x y:Opd} (hx:ev ρ x=.sl (.own nm) (l.map f))(hy:ev ρ y=.sl t [f c])(hs:σ nm=.vec k)(hk:l.length=k)(hw:((Nat.beq (wd nm) size && wV nm et) && (Nat.beq (f c).cells.length size && (f c).cells.all zR))=true)
  (h1:(k + 1) * bytes≤140737488355328)(h2:k + 1≤140737488355328)
  (h:WI P H pn Q fs r (upd ρ d (.sl (.own nm) ((l ++ [c]).map f))) (ups σ nm (.vec (k + 1))) g):WI P H pn Q fs (.op (some d) none (.append size bytes et x y) :: r) ρ σ g :=
 zwE hx hy hs (by simp [hk]) hw h1 h2 (by simpa using h)
end
def y0 {α:Type} (bad:Nat→Option α):Nat→Nat→Option α
 | _,0=>none
 | i, n + 1=>match bad i with
   | some f=>some f
   | none=>y0 bad (i + 1) n
theorem zno {α:Type}{bad:Nat→Option α}:∀ (n i:Nat),(∀ j,i≤j→j < i + n→bad j=none)→y0 bad i n=none
 | 0,_,_=>rfl
 | n + 1,i,h=>by
  simp only [y0,h i (Nat.le_refl _) (by omega)]
  exact zno n (i + 1) fun j h1 h2=>h j (by omega) (by omega)
theorem zo3 {α:Type}{bad:Nat→Option α}{f:α}:∀ (n i k:Nat),(∀ j,i≤j→j < k→bad j=none)→i≤k→k < i + n→bad k=some f→y0 bad i n=some f
 | 0,i,k,_,_,h,_=>by omega
 | n + 1,i,k,h,h1,h2,h3=>by
  simp only [y0]
  by_cases e:i=k
  · subst e;rw [h3]
  · rw [h i (Nat.le_refl _) (by omega)]
    exact zo3 n (i + 1) k (fun j h4 h5=>h j (by omega) h5) (by omega) (by omega) h3
theorem wp {α:Type}{bad:Nat→Option α}{n:Nat} (h:∀ j,j < n→bad j=none):y0 bad 0 n=none:=zno n 0 fun j _ h2=>h j (by omega)
theorem wQ {α:Type}{bad:Nat→Option α}{n k:Nat}{f:α} (h:∀ j,j < k→bad j=none)(hk:k < n)(hf:bad k=some f):y0 bad 0 n=some f:=zo3 n 0 k (fun j _ h2=>h j h2) (Nat.zero_le _) (by omega) hf
theorem yN {p:Nat→Prop}{k:Nat} (h:∀ j,j < k→p j)(hk:p k):∀ j,j < k + 1→p j:=fun j hj=>by
 by_cases e:j=k
 · rw [e];exact hk
 · exact h j (by omega)
theorem yO {p:Nat→Prop}:∀ j,j < 0→p j:=fun j hj=>absurd hj (Nat.not_lt_zero j)
theorem zh {α:Type}{l:List α}{k:Nat} (h:k < l.length):∃ c,l[k]? = some c:=⟨l[k],List.getElem?_eq_getElem h⟩
theorem yn {α:Type}{l:List α}{k:Nat}{c:α} (h:l[k]? = some c):k < l.length:=(List.getElem?_eq_some_iff.1 h).1
theorem zz {α:Type}{l:List α}{k:Nat}{c:α} (h:l[k]? = some c):l.take (k + 1)=l.take k ++ [c]:=by
 rw [List.take_add_one,h];rfl
theorem zm {α:Type}{l:List α}{k:Nat}{c:α} (h:l[k]? = some c):c∈l:=List.mem_of_getElem? h
section
variable {G:Type}{P:Program}{H:HT G}{pn:List Nat}{Q:Exit→Env→za→G→Prop}{fs:List (Frm G)}{ρ:Env}{σ:za}{g:G}{r:List GItem}{d:Nat}{dst:Option Nat}{a b:Cmd}{v:V}{o:AOp}
theorem i_y {f:Opd}{args:List Opd}{as:List V} (hM:yz H)(hf:ev ρ f=.rnd)(ha:fzL (args.map (ev ρ))=some as)(hp:xt as=true)(h:H as g fun u g'=>WI P H pn Q fs r (put ρ dst u) σ g'):WI P H pn Q fs (.op dst none (.call .y f args) :: r) ρ σ g:=zV (by
 cases wI ha
 simp only [zg,xu,hf]
 exact ⟨hp,hM _ _ _ _ (fun u g' h=>h.out) h⟩)
def YL (H:HT G):List (List V)→G→(G→Prop)→Prop
 | [],g,K=>K g
 | as :: r,g,K=>H as g fun u g'=>(u=.bool true∧YL H r g' K)∨(u=.bool false∧K g')
abbrev RG (G:Type):=za × G × Option Exit
def rhQ (wo:List Nat)(K:V→RG G→Prop):Exit→Env→za→G→Prop:=fun e _ σ2 g2=>zF wo σ2 wo=true∧(match e with
 | .normal=>K (.bool true) (restr wo σ2,g2,none)
 | e=>K (.bool false) (restr wo σ2,g2,some e))
def rhA (P:Program)(H:HT G)(wo:List Nat)(cb:Cmd)(K:V→RG G→Prop):Exit→Env→za→G→Prop:=fun e ρ σ g=>match e with
 | .normal=>WC P H wo (rhQ wo K) [] cb ρ σ g
 | _=>False
theorem w6 {wo:List Nat}{ca cb:Cmd}{ps:List Nat}{E:List (Nat × V)}{args:List V}{σ1:za}{g1:G}{K:V→RG G→Prop} (hM:yz H)(hl:Nat.beq args.length ps.length=true)
  (h:WC P H wo (rhA P H wo cb K) [] ca (zbQ ps args (yZ E)) σ1 g1):RH P H wo ca cb ps E args (σ1,g1,none) K:=by
 refine ⟨hl,rfl,yP hM ca wo _ _ _ _ _ (fun e ρ' σ' g' h=>?_) h.out⟩
 cases e<;>try exact h
 exact WC.out h
theorem RHm {wo:List Nat}{ca cb:Cmd}{ps:List Nat}{E:List (Nat × V)} (hM:yz H):yz (RH P H wo ca cb ps E) :=
 zq1 (fun pn ρ σ g Q Q'=>yP hM ca pn ρ σ g Q Q') (fun pn ρ σ g Q Q'=>yP hM cb pn ρ σ g Q Q')
def bQ (E:List (Nat × V))(pf:List Nat)(P:Program)(H:HT G)(pn:List Nat)(Q:Exit→Env→za→G→Prop)(fs:List (Frm G)):V→za→RG G→Prop:=fun _ σ1 st=>vr σ1 pf=true∧(match st.2.2 with
 | none=>WE P H pn Q fs .normal (yZ E) (merge pf st.1 σ1) st.2.1
 | some e=>WE P H pn Q fs e (yZ E) (merge pf st.1 σ1) st.2.1)
theorem zq3 {pf ps:List Nat}{f:Opd}{fid:Nat}{caps:List V} (E:List (Nat × V))(Sg:List (Nat × Blk))(hf:ev ρ f=.fn fid caps)(hfit:wx pn E Sg ρ σ)
  (hb:(yT (Sg.map (·.1)) pf && zW pf caps && zF pf (zy Sg) pf && vh caps && vr (zy Sg) pf && zX (yA pf (Sg.map (·.1))) E && zF (yA pf (Sg.map (·.1))) (zy Sg) (yA pf (Sg.map (·.1))))=true)
  (hc:Cc P (RH P H (yA pf (Sg.map (·.1))) a b ps E) fid (.rnd :: caps) pf (restr pf (zy Sg)) (restr (yA pf (Sg.map (·.1))) (zy Sg),g,none) (bQ E pf P H pn Q fs)) :
  WC P H pn Q fs (.rangeF pf f ps a b) ρ σ g:=⟨by
 simp only [AW,hf]
 refine ⟨E,Sg,hfit,hb,wg (fun v σ' st h=>?_) hc.out⟩
 obtain ⟨h0,h⟩:=h
 refine ⟨h0,?_⟩
 obtain ⟨q1,q2,q3⟩:=st
 cases q3 with
 | none=>exact WE.out h
 | some e=>exact WE.out h⟩
theorem u3 {f:Nat}{args:List V}{K K':V→za→G→Prop} (hk:∀ v σ' g',K v σ' g'→K' v σ' g')(h:Cc P H f args pn σ g K):Cc P H f args pn σ g K':=⟨wg hk h.out⟩
theorem zq4 {α:Type}{f:α→List V} (p:α→Bool) {s0:RG G} (s1:α→RG G) {H':HT (RG G)} (hM:yz H') {K:RG G→Prop}:∀ (l:List α),(∀ c∈l,∀ K:V→RG G→Prop,(p c=true→K (.bool false) (s1 c))→(p c=false→K (.bool true) s0)→H' (f c) s0 K) →
  (match l.find? p with
    | some c=>K (s1 c)
    | none=>K s0)→YL H' (l.map f) s0 K
 | [],_,h=>h
 | c :: r,hH,h=>by
  refine hH c (by simp) _ (fun hp=>.inr ⟨rfl,?_⟩) (fun hp=>.inl ⟨rfl,zq4 p s1 hM r (fun c hc=>hH c (by simp [hc])) ?_⟩)
  · simpa [hp] using h
  · simpa [hp] using h
end
theorem yC {pn:List Nat}{σ:za} (nm:Nat)(h:restr pn σ nm≠.zc):nm∈pn:=by
 by_cases hm:nm∈pn
 · exact hm
 · exact absurd (z8 (θ:=θ0) hm).1 h
end Hm
namespace Hm
open Go
theorem w7:∀ (L:List (Nat × Blk))(nm:Nat),zy L nm≠.zc→nm∈L.map (·.1)
 | [],nm,h=>absurd rfl h
 | (d, b) :: r,nm,h=>by
   simp only [zy] at h
   cases hb:Nat.beq nm d with
   | true=>rw [Nat.eq_of_beq_eq_true hb];simp
   | false=>rw [hb] at h;exact List.mem_cons_of_mem _ (w7 r nm h)
end Hm
namespace Hm
open Go
section
variable {G:Type}{P:Program}{H:HT G}{pn:List Nat}{Q:Exit→Env→za→G→Prop}{fs:List (Frm G)}{ρ:Env}{σ:za}{g:G}{a b:Cmd}
theorem qw {pf ps:List Nat}{f:Opd}{fid:Nat}{caps:List V} (E:List (Nat × V))(Sg:List (Nat × Blk))(wo:List Nat)(S1 S2:List (Nat × Blk))(hf:ev ρ f=.fn fid caps)(hfit:wx pn E Sg ρ σ)
  (hwo:yA pf (Sg.map (·.1))=wo)(h1:pf.map (fun nm=>(nm,zy Sg nm))=S1)(h2:wo.map (fun nm=>(nm,zy Sg nm))=S2)
  (hb:(yT (Sg.map (·.1)) pf && zW pf caps && zF pf (zy Sg) pf && vh caps && vr (zy Sg) pf && zX wo E && zF wo (zy Sg) wo)=true)
  (hc:Cc P (RH P H wo a b ps E) fid (.rnd :: caps) pf (zy S1) (zy S2,g,none) (bQ E pf P H pn Q fs)) :
  WC P H pn Q fs (.rangeF pf f ps a b) ρ σ g:=by
 subst hwo h1 h2
 refine zq3 E Sg hf hfit hb ?_
 rw [zu,zu (zy Sg) (yA pf (Sg.map (·.1)))]
 exact hc
theorem ko {wo:List Nat}{K:V→RG G→Prop}{L:List (Nat × Blk)} (h1:zF wo σ wo=true)(hL:wo.map (fun nm=>(nm,σ nm))=L)(h:K (.bool true) (zy L,g,none)):rhQ wo K .normal ρ σ g :=
 ⟨h1,by rw [zu,hL];exact h⟩
theorem zrY {wo:List Nat}{K:V→RG G→Prop}{L:List (Nat × Blk)} (h1:zF wo σ wo=true)(hL:wo.map (fun nm=>(nm,σ nm))=L)(h:K (.bool false) (zy L,g,some .ret)):rhQ wo K .ret ρ σ g :=
 ⟨h1,by rw [zu,hL];exact h⟩
end
section
variable {G:Type}{P:Program}{H:HT G}{pn:List Nat}{Q:Exit→Env→za→G→Prop}{fs:List (Frm G)}{ρ:Env}{σ:za}{g:G}{r:List GItem}{d:Nat}{dst:Option Nat}{a b:Cmd}{v:V}{o:AOp}
theorem y1 (nm:Nat) {agg:Bool}{size b j:Nat}{l0:List V}{x:Opd} (hx:ev ρ x=.raw b j)(hs:σ nm=.box (.tag b l0))(hl:fzA (xe agg size j (.agg l0))=some v)(h:WI P H pn Q fs r (upd ρ d v) σ g):WI P H pn Q fs (.op (some d) none (.load agg size x) :: r) ρ σ g:=zV (by
 simp only [zg,hx]
 exact ⟨nm,l0,v,hs,kj hl,h.out⟩)
theorem uf (nm:Nat) {size b j:Nat}{l0 l1:List V}{x y:Opd} (hx:ev ρ x=.raw b j)(hs:σ nm=.box (.tag b l0))(hl:fzA (wW size j (.agg l0) (ev ρ y))=some (.agg l1))(h:WI P H pn Q fs r (put ρ dst (.tup [])) (ups σ nm (.box (.tag b l1))) g):WI P H pn Q fs (.op dst none (.store size x y) :: r) ρ σ g:=zV (by
 simp only [zg,hx]
 exact ⟨nm,l0,l1,hs,kj hl,h.out⟩)
theorem uB {nm gen i n gen':Nat}{rows:List V}{x:Opd} (hx:ev ρ x=.msl nm gen i n)(hs:σ nm=.arr gen' rows)(hg:gen=gen')(h:WI P H pn Q fs r (upd ρ d (.int .i64 n)) σ g):WI P H pn Q fs (.op (some d) none (.len false x) :: r) ρ σ g:=zV (by
 simp only [zg,hx,hs]
 exact ⟨hg,h.out⟩)
theorem wJ {α:Type}{f:α→V}{l:List α} (xs:List α) {size bytes et nm gen gen':Nat}{t:Tag}{x y:Opd} (hx:ev ρ x=.msl nm gen 0 l.length)(hy:ev ρ y=.sl t (xs.map f))(hs:σ nm=.arr gen' (l.map f))(hg:gen=gen')(hw:Nat.beq (wd nm) size=true)
  (hr:∀ c∈xs,(f c).cells.length=size∧(f c).cells.all zR=true)(h1:(l.length + xs.length) * bytes≤140737488355328)(h2:l.length + xs.length≤140737488355328)
  (h:WI P H pn Q fs r (upd ρ d (.msl nm (gen + 1) 0 (l ++ xs).length)) (ups σ nm (.arr (gen + 1) ((l ++ xs).map f))) g):WI P H pn Q fs (.op (some d) none (.append size bytes et x y) :: r) ρ σ g:=by
 refine ztd hx hy hs hg hw (fun row hrow=>?_) (by simpa using h1) (by simpa using h2) ?_
 · obtain ⟨c,hc,rfl⟩:=List.mem_map.1 hrow
   exact hr c hc
 · have e1:(l.map f).take l.length ++ xs.map f=(l ++ xs).map f:=by rw [List.take_of_length_le (by simp),List.map_append]
   rw [e1,List.length_map,← List.length_append]
   exact h
theorem zrZ {k k':IntKind}{m n q:Int}{st:Bool}{et:List LT}{x y:Opd}
  (hx:ev ρ x=.int k m)(hy:ev ρ y=.int k' n)(h0:0≤n)(hq:m.fdiv (2 ^ (min n.toNat k.bits))=q)(h:WI P H pn Q fs r (upd ρ d (.int k q)) σ g) :
  WI P H pn Q fs (.op (some d) none (.bin .shr st et x y) :: r) ρ σ g:=zV (by
 simp only [zg,hx,hy,xg]
 exact ⟨h0,hq ▸ h.out⟩)
theorem zve {k:IntKind}{m n q:Int}{st:Bool}{et:List LT}{x y:Opd} (hk:kEq k k=true)
  (hx:ev ρ x=.int k m)(hy:ev ρ y=.int k n)(hq:k.wrap (BitVec.ofInt k.bits m &&& BitVec.ofInt k.bits n).toNat=q)(h:WI P H pn Q fs r (upd ρ d (.int k q)) σ g) :
  WI P H pn Q fs (.op (some d) none (.bin .and st et x y) :: r) ρ σ g:=zV (by
 simp only [zg,hx,hy,xg,hk,cond_true]
 exact hq ▸ h.out)
theorem zwG {k:IntKind}{m n q:Int}{st:Bool}{et:List LT}{x y:Opd} (hk:kEq k k=true)(hx:ev ρ x=.int k m)(hy:ev ρ y=.int k n)(hq:k.wrap (m + n)=q)(h:WI P H pn Q fs r (upd ρ d (.int k q)) σ g) :
  WI P H pn Q fs (.op (some d) none (.bin .add st et x y) :: r) ρ σ g:=zV (by
 simp only [zg,hx,hy,xg,hk,cond_true]
 exact hq ▸ h.out)
theorem zlU:∀ l:List V,fzL l=some l
 | []=>rfl
 | v :: r=>by
  have h:fz v=some v:=by cases v<;>rfl
  simp only [fzL,h,zlU r]
theorem zhj (l:List V):fzA (some (.agg l))=some (.agg l):=by simp only [fzA,zlU]
theorem zen {b len c:Nat}{k:IntKind}{n:Int}{size:Nat}{x i:Opd} (hx:ev ρ x=.rsl b len c)(hi:ev ρ i=.int k n)(h0:0≤n)(h1:n < len)(h:WI P H pn Q fs r (upd ρ d (.raw b (n.toNat * size))) σ g):WI P H pn Q fs (.op (some d) none (.iaddr size x i) :: r) ρ σ g:=zV (by
 simp only [zg,hx,hi]
 exact ⟨h0,h1,h.out⟩)
theorem zxE (nm:Nat) {size bytes et:Nat}{xs:List V}{x y:Opd} (hx:ev ρ x=.sl .nil [])(hy:qh σ (ev ρ y)=some xs)(hne:xs≠[])(hc:∀ row∈xs,row.cells.length=size∧row.cells.all zR=true)(h1:xs.length * bytes≤140737488355328)(h2:xs.length≤140737488355328)(hs:σ nm=.zc)(ht:wV nm et=true)
  (h:∀ b c,xs.length≤c→WI P H pn Q fs r (upd ρ d (.rsl b xs.length c)) (ups σ nm (.box (.tag b (zU xs ++ List.replicate ((c - xs.length) * size) .any)))) g):WI P H pn Q fs (.op (some d) none (.appR size bytes et x y) :: r) ρ σ g:=zV (by
 simp only [zg,hx,hy]
 exact ⟨hne,hc,h1,h2,nm,hs,ht,fun b c hc=>(h b c hc).out⟩)
theorem zxF (nm:Nat) {size bytes et b n c:Nat}{xs l:List V}{x y:Opd} (hx:ev ρ x=.rsl b n c)(hy:qh σ (ev ρ y)=some xs)(hne:xs≠[])(hc:∀ row∈xs,row.cells.length=size∧row.cells.all zR=true)(h1:(n + xs.length) * bytes≤140737488355328)(h2:n + xs.length≤140737488355328)(hs:σ nm=.box (.tag b l))(hl:c * size≤l.length)
  (hr:n + xs.length≤c→WI P H pn Q fs r (upd ρ d (.rsl b (n + xs.length) c)) (ups σ nm (.box (.tag b (l.take (n * size) ++ zU xs ++ l.drop (n * size + (zU xs).length))))) g)
  (hg:c < n + xs.length→∃ nm',σ nm' = .zc∧wV nm' et=true∧∀ b' c',n + xs.length≤c'→WI P H pn Q fs r (upd ρ d (.rsl b' (n + xs.length) c')) (ups σ nm' (.box (.tag b' (l.take (n * size) ++ zU xs ++ List.replicate ((c' - (n + xs.length)) * size) .any)))) g):WI P H pn Q fs (.op (some d) none (.appR size bytes et x y) :: r) ρ σ g:=zV (by
 simp only [zg,hx,hy]
 exact ⟨hne,hc,h1,h2,nm,l,hs,hl,fun h=>(hr h).out,fun h=>by
  obtain ⟨nm',a1,a2,a3⟩:=hg h
  exact ⟨nm',a1,a2,fun b' c' hc=>(a3 b' c' hc).out⟩⟩)
theorem zxG {size b n c:Nat}{k1 k2:IntKind}{m:Int}{x:Opd}{lo:Option Opd}{hi:Opd} (hx:ev ρ x=.rsl b n c)(hlo:loV ρ lo=.int k1 0)(hhi:ev ρ hi=.int k2 m)(h0:0≤m)(h1:m≤n)(h:WI P H pn Q fs r (upd ρ d (.rsl b m.toNat c)) σ g):WI P H pn Q fs (.op (some d) none (.slice false size x lo (some hi)) :: r) ρ σ g:=zV (by
 unfold loV at hlo
 simp only [zg,hx,hlo,hhi,Option.map_some]
 exact ⟨trivial,h0,h1,h.out⟩)
theorem zoG {nm:Nat}{k:IntKind} (hs:σ nm=.zc)(h:WI P H pn Q fs r (upd ρ d (.mp nm)) (ups σ nm (.mp k [] [])) g):WI P H pn Q fs (.op (some d) none (.mkMap nm k) :: r) ρ σ g:=zV (by
 simp only [zg,hs]
 exact h.out)
theorem zr0 {ok:Bool}{zero v:V}{k k':IntKind}{ns:List Int}{vs:List V}{n:Int}{x i:Opd} (hm:ke σ (ev ρ x)=some (k,ns,vs))(hi:ev ρ i=.int k' n)(hk:kEq k k' = true)(hv:zfG ok zero (xf ns vs n)=v)
  (h:WI P H pn Q fs r (upd ρ d v) σ g):WI P H pn Q fs (.op (some d) none (.mget ok zero x i) :: r) ρ σ g:=zV (by
 simp only [zg,hm,hi,hk,cond_true,hv]
 exact h.out)
theorem zdF {k k':IntKind}{ns:List Int}{vs:List V}{n:Int}{nm:Nat}{x i v:Opd}{b:Blk} (hx:ev ρ x=.mp nm)(hi:ev ρ i=.int k' n)(hs:σ nm=.mp k ns vs)(hk:kEq k k' = true)(hp:zP (ev ρ v)=true)(hb:jz k ns vs n (ev ρ v)=b)
  (h:WI P H pn Q fs r (put ρ dst (.tup [])) (ups σ nm b) g):WI P H pn Q fs (.op dst none (.mput x i v) :: r) ρ σ g:=zV (by
 simp only [zg,hx,hi,hs,hk,hp,Bool.and_self,cond_true,hb]
 exact h.out)
theorem zwH {k k':IntKind}{ns:List Int}{vs:List V}{n:Int}{nm:Nat}{x i:Opd}{b:Blk} (hx:ev ρ x=.mp nm)(hi:ev ρ i=.int k' n)(hs:σ nm=.mp k ns vs)(hk:kEq k k' = true)(hb:zg5 k ns vs n=b)
  (h:WI P H pn Q fs r (put ρ dst (.tup [])) (ups σ nm b) g):WI P H pn Q fs (.op dst none (.mdel x i) :: r) ρ σ g:=zV (by
 simp only [zg,hx,hi,hs,hk,cond_true,hb]
 exact h.out)
theorem zwI {k:IntKind}{ns:List Int}{vs:List V}{x:Opd} (hm:ke σ (ev ρ x)=some (k,ns,vs))(h:WI P H pn Q fs r (upd ρ d (.int .i64 ns.length)) σ g):WI P H pn Q fs (.op (some d) none (.mlen x) :: r) ρ σ g:=zV (by
 simp only [zg,hm]
 exact h.out)
theorem zks {t:Nat}{x:Opd}{v:V} (hx:ev ρ x=v)(h:WI P H pn Q fs r (upd ρ d (.ifv t v)) σ g):WI P H pn Q fs (.op (some d) none (.mkifc t x) :: r) ρ σ g:=zV (by
 simp only [zg,hx]
 exact h.out)
theorem zr1 {t:Nat}{x:Opd}{v:V} (hx:ev ρ x=.ifv t v)(h:WI P H pn Q fs r (upd ρ d v) σ g):WI P H pn Q fs (.op (some d) none (.tass t x) :: r) ρ σ g:=zV (by
 simp only [zg,hx,Nat.beq_refl,cond_true]
 exact h.out)
def zuw (σ:za)(pr:Bool)(v u:V):Prop:=match pr with
 | true=>v=u
 | false=>∃ b j nm l,v=.raw b j∧σ nm=.box (.tag b l)∧l[j]? = some u
theorem zlV {name:String}{x:Opd}{args:List Opd}{t fid:Nat}{pr:Bool}{v0 u v:V}{as as':List V} (hx:ev ρ x=.ifv t v0)(hm:wX P t name=some (fid,pr))(hr:zuw σ pr v0 u)(has:fzL (args.map (ev ρ))=some as)
  (ha:(u :: as).map (er σ 6)=as')(hc:Fc P fid as' v)(hp:(xj v || xt (u :: as))=true)(h:WI P H pn Q fs r (put ρ dst v) σ g):WI P H pn Q fs (.op dst none (.callM .f name x args) :: r) ρ σ g:=zV (by
 cases wI has
 cases ha
 have key:xu P H σ g .f (.fn fid []) (u :: args.map (ev ρ)) (fun v' σ' g'=>(WI P H pn Q fs r (put ρ dst v') σ' g')):=by
  refine ⟨v,by rw [List.append_nil];exact hc.out,?_,h⟩
  rw [List.append_nil,Bool.or_comm]
  exact hp
 cases pr with
 | true =>
  cases hr
  simp only [zg,hx,hm]
  obtain ⟨r',k1,k2,k3⟩:=key
  exact ⟨r',k1,k2,k3.out⟩
 | false =>
  obtain ⟨b,j,nm,l,rfl,h1,h2⟩:=hr
  simp only [zg,hx,hm]
  obtain ⟨r',k1,k2,k3⟩:=key
  exact ⟨nm,l,u,h1,h2,r',k1,k2,k3.out⟩)
theorem zfU (ns:List Nat) {f:Opd}{args:List Opd}{fid:Nat}{as:List V} (hf:zek ρ f args=some (fid,as))(hcl:zW ns as=true)(hcs:zF ns σ ns=true) {K:V→za→G→Prop} (hc:Cc P H fid as ns (restr ns σ) g K)
  (h:∀ v σ' g',K v σ' g'→WI P H pn Q fs r (put ρ dst v) (merge ns σ σ') g'):WI P H pn Q fs (.op dst none (.call .d f args) :: r) ρ σ g:=zV (by
 unfold zek at hf
 split at hf
 · rename_i e
   split at hf
   · rename_i e2
     cases hf
     cases wI e2
     simp only [zg,xu,e]
     exact ⟨ns,hcl,hcs,wg (fun v σ' g' hk=>(h v σ' g' hk).out) hc.out⟩
   · cases hf
 · cases hf)
theorem zxT (ns:List Nat) {name:String}{x:Opd}{args:List Opd}{t fid:Nat}{pr:Bool}{v0 u:V}{as:List V} (hx:ev ρ x=.ifv t v0)(hm:wX P t name=some (fid,pr))(hr:zuw σ pr v0 u)(has:fzL (args.map (ev ρ))=some as)
  (hcl:zW ns (u :: as)=true)(hcs:zF ns σ ns=true) {K:V→za→G→Prop} (hc:Cc P H fid (u :: as) ns (restr ns σ) g K)
  (h:∀ v σ' g',K v σ' g'→WI P H pn Q fs r (put ρ dst v) (merge ns σ σ') g'):WI P H pn Q fs (.op dst none (.callM .d name x args) :: r) ρ σ g:=zV (by
 cases wI has
 cases pr with
 | true =>
  cases hr
  simp only [zg,hx,hm,xu,List.append_nil]
  exact ⟨ns,hcl,hcs,wg (fun v σ' g' hk=>(h v σ' g' hk).out) hc.out⟩
 | false =>
  obtain ⟨b,j,nm,l,rfl,h1,h2⟩:=hr
  simp only [zg,hx,hm,xu,List.append_nil]
  exact ⟨nm,l,u,h1,h2,ns,hcl,hcs,wg (fun v σ' g' hk=>(h v σ' g' hk).out) hc.out⟩)
theorem zwJ (nm:Nat) {et size:Nat}{x:Opd}{l:List V} (hx:xr (ev ρ x)=true)(hl:(ev ρ x).cells=l)(hw:Nat.beq size l.length=true)(hs:σ nm=.zc)(ht:wV nm et=true)
  (h:∀ b,WI P H pn Q fs r (upd ρ d (.raw b 0)) (ups σ nm (.box (.tag b l))) g):WI P H pn Q fs (.op (some d) none (.boxR et size x) :: r) ρ σ g:=zV (by
 subst hl
 simp only [zg,hx,hw,Bool.and_self,cond_true]
 exact ⟨nm,hs,ht,fun b=>(h b).out⟩)
end
theorem sw {p q:Prop} (x:q)(h:q→p:=by first|exact zrT|exact zwz|exact zrU|exact zhg|exact zbg|exact zvK|exact zvJ|exact zww|exact zxw|exact zwy|exact zwA rfl|exact zwx|fail):p:=h x
theorem sp {p q r:Prop} (x:q)(z:r)(h:q→r→p:=by first|exact jN|exact i_g rfl|exact zd rfl|fail):p:=h x z
abbrev qm (d t:Nat):GItem:=.op (some d) none (.mov (.t t))
abbrev qc (d:Nat)(n:Int):GItem:=.op (some d) none (.mov (.c (.int .i64 n)))
abbrev qb (d:Nat)(b:Bool):GItem:=.op (some d) none (.mov (.c (.bool b)))
abbrev qq (d:Nat)(o:AOp):GItem:=.op (some d) none o
abbrev qg (d s:Nat)(b:Bool)(o:AOp):GItem:=.op (some d) (some (s,b)) o
abbrev ql (d n t:Nat):GItem:=.op (some d) none (.load false n (.t t))
abbrev qL (d n t:Nat):GItem:=.op (some d) none (.load true n (.t t))
abbrev qf (d n t:Nat):GItem:=.op (some d) none (.faddr n (.t t))
abbrev qi (d n x y:Nat):GItem:=.op (some d) none (.iaddr n (.t x) (.t y))
abbrev qn (d t:Nat):GItem:=.op (some d) none (.len false (.t t))
abbrev qx (d n m t:Nat):GItem:=.op (some d) none (.box n m (.t t))
abbrev qu (d:Nat)(o:BinOp)(l:List LT)(x y:Nat):GItem:=.op (some d) none (.bin o false l (.t x) (.t y))
abbrev qv (d:Nat)(o:BinOp)(l:List LT)(x:Nat)(n:Int):GItem:=.op (some d) none (.bin o false l (.t x) (.c (.int .i64 n)))
abbrev qk (d f:Nat)(l:List Nat):GItem:=.op (some d) none (.call .f (.c (.fn f [])) (l.map .t))
abbrev qs (n x y:Nat):GItem:=.op none none (.store n (.t x) (.t y))
abbrev qS (l:List GItem)(c:Cmd):Cmd:=.seq (.ops l) (.cut c)
abbrev qT (a c:Cmd):Cmd:=.seq a (.cut c)
theorem ft {pn:List Nat}{E:List (Nat × V)}{S:List (Nat × Blk)}{ρ:Env}{σ:za} (h:wx pn E S ρ σ:=by first|exact ⟨by repeat (first|exact trivial|refine ⟨rfl,?_⟩),by repeat (first|exact trivial|refine ⟨rfl,?_⟩),rfl⟩|fail):wx pn E S ρ σ:=h
section
variable {G:Type}{P:Program}{H:HT G}{pn:List Nat}{Q:Exit→Env→za→G→Prop}{fs:List (Frm G)}{ρ:Env}{σ:za}{g:G}{r:List GItem}{dst:Option Nat}
variable {d:Nat}
theorem ja {k:IntKind}{m n:Int}{st:Bool}{et:List LT}{x y:Opd} (hx:ev ρ x=.int k m)(hy:ev ρ y=.int k n)(h:WI P H pn Q fs r (upd ρ d (.int k (m + n))) σ g)(hr:InR k (m + n):=by first|(simp only [InR,List.length_map];omega)|fail) :
  WI P H pn Q fs (.op (some d) none (.bin .add st et x y) :: r) ρ σ g:=zvb hx hy hr h
theorem jb {k:IntKind}{m n:Int}{st:Bool}{et:List LT}{x y:Opd} (hx:ev ρ x=.int k m)(hy:ev ρ y=.int k n)(h:WI P H pn Q fs r (upd ρ d (.int k (m - n))) σ g)(hr:InR k (m - n):=by first|(simp only [InR,List.length_map];omega)|fail) :
  WI P H pn Q fs (.op (some d) none (.bin .sub st et x y) :: r) ρ σ g:=zxy hx hy hr h
theorem jc {k k':IntKind}{n:Int}{x:Opd} (hx:ev ρ x=.int k' n)(h:WI P H pn Q fs r (upd ρ d (.int k n)) σ g)(hr:InR k n:=by first|(simp only [InR,List.length_map];omega)|fail):WI P H pn Q fs (.op (some d) none (.conv k x) :: r) ρ σ g:=zfS hx hr h
theorem jd {α:Type}{f:α→V}{l:List α}{size:Nat}{t:Tag}{kk:IntKind}{n:Int}{c:α}{x i:Opd} (hx:ev ρ x=.sl t (l.map f))(hi:ev ρ i=.int kk n)
  (h:WI P H pn Q fs r (upd ρ d (.cptr t (f c) 0)) σ g)(h0:0≤n:=by first|omega|fail)(hr:l[n.toNat]? = some c:=by first|assumption|fail)(hw:Nat.beq size (f c).cells.length=true:=by first|exact rfl|fail):WI P H pn Q fs (.op (some d) none (.iaddr size x i) :: r) ρ σ g :=
 zvd hx hi h0 hr hw h
theorem jf {s:List UInt8}{kk:IntKind}{k:Nat}{c:UInt8}{x i:Opd} (hx:ev ρ x=.str s)(hi:ev ρ i=.int kk (k:Int))(h:WI P H pn Q fs r (upd ρ d (.int .u8 c.toNat)) σ g)(hc:s[k]? = some c:=by first|assumption|fail) :
  WI P H pn Q fs (.op (some d) none (.index x i) :: r) ρ σ g:=zxB hx hi hc h
theorem jh {α:Type}{f:α→V}{l:List α}{size:Nat}{t:Tag}{k2:IntKind}{k:Nat}{x hi:Opd} (hx:ev ρ x=.sl t (l.map f))(hhi:ev ρ hi=.int k2 (k:Int))(h:WI P H pn Q fs r (upd ρ d (.sl t ((l.take k).map f))) σ g)(h2:k≤l.length:=by first|omega|fail) :
  WI P H pn Q fs (.op (some d) none (.slice false size x none (some hi)) :: r) ρ σ g:=zxS hx hhi h2 h
theorem sf {f:Opd}{args:List Opd}{fid:Nat}{as as':List V}{v:V} (hf:zek ρ f args=some (fid,as))(ha:as.map (er σ 6)=as')(hc:Fc P fid as' v)(h:WI P H pn Q fs r (put ρ dst v) σ g)(hp:(xj v || xt as)=true:=by first|exact rfl|fail)
  : WI P H pn Q fs (.op dst none (.call .f f args) :: r) ρ σ g:=i_f hf ha hc hp h
end
structure Flt where
 code:Int
 index:Int
instance:DecidableEq Flt:=fun a b=>if h:a.code=b.code∧a.index=b.index then isTrue (by cases a;cases b;simp only at h;rw [h.1,h.2]) else isFalse (by rintro rfl;exact h ⟨rfl,rfl⟩)
def ftV (f:Flt):V:=.agg [.int .i64 f.code,.int .i64 f.index]
def okF:Flt:=⟨0,0⟩
def zk (n:Int):V:=.int .i64 n
theorem yV {f:Flt}{c i:Int} (h:f=⟨c,i⟩):ftV f=.agg [.int .i64 c,.int .i64 i]:=by rw [h];rfl
theorem znp (f:Flt):(f.code == 0 && (f.index == 0 && true))=decide (f=okF):=by
 cases f with
 | mk c i =>
  simp only [okF,Flt.mk.injEq,Bool.and_true]
  by_cases h1:c=0<;>by_cases h2:i=0<;>simp [h1,h2]
theorem zxH {f:Flt} (h:(!(f.code == 0 && (f.index == 0 && true)))=true):f≠okF:=by
 rw [znp] at h;simpa using h
theorem zkt {f:Flt} (h:(!(f.code == 0 && (f.index == 0 && true)))=false):f=okF:=by
 rw [znp] at h;simpa using h
def kp {α:Type} (p:α→Bool)(l:List α):Int:=match l.findIdx? p with
 | some i=>i
 | none=>-1
theorem vH {α:Type}{p:α→Bool}{l:List α}{k:Nat}{c:α} (h:∀ j,j < k→∀ c,l[j]? = some c→p c=false)(hc:l[k]? = some c)(hp:p c=true):kp p l=k:=by
 have:l.findIdx? p=some k:=by
  rw [List.findIdx?_eq_some_iff_getElem]
  have hk:=yn hc
  refine ⟨hk,?_,fun j hj=>?_⟩
  · rw [List.getElem?_eq_getElem hk] at hc;injection hc with hc;rw [hc];exact hp
  · simp [h j hj _ (List.getElem?_eq_getElem (by omega))]
 simp [kp,this]
theorem wR {α:Type}{p:α→Bool}{l:List α} (h:∀ j,j < l.length→∀ c,l[j]? = some c→p c=false):kp p l = -1:=by
 have:l.findIdx? p=none:=by
  rw [List.findIdx?_eq_none_iff]
  intro x hx
  obtain ⟨j,hj,e⟩:=List.getElem_of_mem hx
  exact h j hj x (by rw [← e];exact List.getElem?_eq_getElem hj)
 simp [kp,this]
theorem vI {α:Type} (p:α→Bool)(l:List α):decide (kp p l ≥ 0)=l.any p:=by
 unfold kp
 cases h:l.findIdx? p with
 | none =>
  rw [List.findIdx?_eq_none_iff] at h
  have:l.any p=false:=by
   rw [Bool.eq_false_iff]
   intro e
   obtain ⟨x,h1,h2⟩:=List.any_eq_true.1 e
   rw [h x h1] at h2
   cases h2
  rw [this];rfl
 | some k =>
  rw [List.findIdx?_eq_some_iff_getElem] at h
  obtain ⟨h1,h2,_⟩:=h
  have:l.any p=true:=List.any_eq_true.2 ⟨_,List.getElem_mem h1,h2⟩
  rw [this]
  simp
structure Typ where
 name:List UInt8
 parent:Int
structure Obj where
 name:List UInt8
 type:Int
def tyV (t:Typ):V:=.agg [.str t.name,.int .i64 t.parent]
def obV (o:Obj):V:=.agg [.str o.name,.int .i64 o.type]
def vJ (i:Nat)(c:UInt8):Bool:=(decide (97≤c.toNat) && decide (c.toNat≤122)) || (decide (0 < i) && ((decide (48≤c.toNat) && decide (c.toNat≤57)) || c.toNat == 45))
def wS:Nat→List UInt8→Bool
 | _,[]=>true
 | i,c :: r=>vJ i c && wS (i + 1) r
def wq (s:List UInt8):Bool:=wS 0 s && decide (1≤s.length) && decide (s.length≤12)
theorem zlW (s:List UInt8):∀ k,(∀ j,j < k→∀ c,s[j]? = some c→vJ j c=true)→s.length≤k→wS 0 s=true:=by
 have key:∀ (s:List UInt8)(i k:Nat),(∀ j,j < k→∀ c,s[j]? = some c→vJ (i + j) c=true)→s.length≤k→wS i s=true:=by
  intro s
  induction s with
  | nil=>intros;rfl
  | cons c r ih =>
   intro i k h hl
   simp only [List.length_cons] at hl
   simp only [wS,Bool.and_eq_true]
   refine ⟨h 0 (by omega) c rfl,ih (i + 1) (k - 1) (fun j hj c' hc=>?_) (by omega)⟩
   have:=h (j + 1) (by omega) c' (by simpa using hc)
   rwa [show i + 1 + j=i + (j + 1) from by omega]
 intro k h hl
 exact key s 0 k (fun j hj c hc=>by rw [Nat.zero_add];exact h j hj c hc) hl
theorem zku {s:List UInt8}{k:Nat}{c:UInt8} (hc:s[k]? = some c)(hn:vJ k c=false):wS 0 s=false:=by
 have key:∀ (s:List UInt8)(i k:Nat),s[k]? = some c→vJ (i + k) c=false→wS i s=false:=by
  intro s
  induction s with
  | nil=>intro i k h;simp at h
  | cons a r ih =>
   intro i k h hn
   simp only [wS]
   cases k with
   | zero=>simp at h;subst h;rw [show i + 0=i from rfl] at hn;rw [hn];rfl
   | succ k=>rw [ih (i + 1) k (by simpa using h) (by rw [show i + 1 + k=i + (k + 1) from by omega];exact hn)];simp
 exact key s 0 k hc (by rw [Nat.zero_add];exact hn)
def zlX:List UInt8:=[111,98,106,101,99,116]
def w8 (l:List Typ)(i:Nat):Option Flt:=match l[i]? with
 | none=>none
 | some t=>if wq t.name=false∨t.name=zlX then some ⟨12,i⟩ else if (l.take i).any (fun u=>u.name == t.name)=true then some ⟨7,i⟩
   else if t.parent < -1∨t.parent ≥ i then some ⟨3,i⟩ else none
def yc (l:List Typ):Flt:=if l.length > 8 then ⟨2,-1⟩ else (y0 (w8 l) 0 l.length).getD okF
def xI (n:Nat)(l:List Obj)(i:Nat):Option Flt:=match l[i]? with
 | none=>none
 | some t=>if wq t.name=false then some ⟨12,-10 - i⟩ else if (l.take i).any (fun u=>u.name == t.name)=true then some ⟨7,-10 - i⟩
   else if t.type < -1∨t.type ≥ n then some ⟨3,-10 - i⟩ else none
def zH (n:Nat)(l:List Obj):Flt:=if l.length > 8 then ⟨2,-3⟩ else (y0 (xI n l) 0 l.length).getD okF
def zlY (n:Nat)(a:Int):Bool:=decide (a < -1) || decide (a ≥ n)
def zb3 (l:List Typ)(t:Int):Int:=match l[t.toNat]? with
 | some x=>x.parent
 | none=>-1
def wh (l:List Typ):Nat→Int→List Int
 | 0,_=>[-1]
 | n + 1,t=>if t < 0 then [-1] else t :: wh l n (zb3 l t)
def xc (l:List Typ)(t:Int):List Int:=wh l (t.toNat + 1) t
def vK (l:List Typ)(a b:Int):Bool:=decide (b∈xc l a)
def xd (l:List Typ)(os:List Obj)(t:Int):List Int:=((List.range os.length).filter fun i=>match os[i]? with
 | some o=>vK l o.type t
 | none=>false).map Int.ofNat
def wi (l:List Typ):Prop:=l.length≤8∧∀ (i:Nat)(t:Typ),l[i]? = some t→-1≤t.parent∧t.parent < i
theorem vL {α:Type}{bad:Nat→Option α}:∀ (n i:Nat),y0 bad i n=none→∀ j,i≤j→j < i + n→bad j=none
 | 0,i,_,j,h1,h2=>by omega
 | n + 1,i,h,j,h1,h2=>by
  simp only [y0] at h
  split at h
  · cases h
  · rename_i e
    by_cases hj:j=i
    · rw [hj];exact e
    · exact vL n (i + 1) h j (by omega) (by omega)
theorem zlZ {o:Option Flt} (hc:∀ f,o=some f→f.code≠0)(h:o.getD okF=okF):o=none:=by
 cases o with
 | none=>rfl
 | some f=>exact absurd (by rw [show f=okF from h];rfl) (hc f rfl)
theorem xE {α:Type}{bad:Nat→Option α} (p:Option α→Prop)(h0:p none)(h:∀ i,p (bad i)):∀ n i,p (y0 bad i n)
 | 0,_=>h0
 | n + 1,i=>by
  simp only [y0]
  have:=h i
  split
  · rename_i f e;rw [e] at this;exact this
  · exact xE p h0 h n (i + 1)
theorem zeo (l:List Typ)(i:Nat):∀ f,w8 l i=some f→f.code≠0:=by
 intro f h
 unfold w8 at h
 split at h
 · cases h
 · repeat' split at h
   all_goals cases h
   all_goals simp
theorem zb4 {l:List Typ} (h:yc l=okF):wi l:=by
 unfold yc at h
 split at h
 · cases h
 · rename_i h8
   have hs:=zlZ (xE (bad:=w8 l) (fun o=>∀ f,o=some f→f.code≠0) (by simp) (fun i=>zeo l i) l.length 0) h
   refine ⟨by omega,fun i t ht=>?_⟩
   have:=vL _ _ hs i (Nat.zero_le _) (by have:=yn ht;omega)
   unfold w8 at this
   rw [ht] at this
   simp only at this
   split at this
   · cases this
   · split at this
     · cases this
     · split at this
       · cases this
       · omega
theorem zcY {l:List Typ} (hv:wi l) {t:Int} (h0:0≤t)(h1:t < l.length):∃ x,l[t.toNat]? = some x∧zb3 l t=x.parent∧-1≤x.parent∧x.parent < t:=by
 obtain ⟨x,hx⟩:=zh (l:=l) (k:=t.toNat) (by omega)
 have:=hv.2 _ _ hx
 exact ⟨x,hx,by simp [zb3,hx],this.1,by omega⟩
theorem zfV {l:List Typ}{n:Nat}{t:Int} (h:¬ t < 0):wh l (n + 1) t=t :: wh l n (zb3 l t):=if_neg h
theorem kq {l:List Typ} (hv:wi l):∀ (n:Nat)(t:Int),t < n→t < l.length→wh l n t=wh l (t.toNat + 1) t
 | 0,t,h,_=>by simp [wh,h,show t < 0 from by omega]
 | n + 1, t,h,h1=>by
  by_cases h0:t < 0
  · simp [wh,h0]
  · obtain ⟨x,hx,hp,h2,h3⟩:=zcY hv (by omega) h1
    by_cases hn:t.toNat=n
    · rw [hn]
    · rw [← kq hv n t (by omega) h1]
      cases n with
      | zero=>omega
      | succ m =>
       rw [zfV h0,zfV h0,hp,kq hv (m + 1) x.parent (by omega) (by omega),kq hv m x.parent (by omega) (by omega)]
theorem zbh {l:List Typ}{t:Int} (h:t < 0):xc l t=[-1]:=by simp [xc,wh,h]
theorem jF {l:List Typ} (hv:wi l) {t:Int} (h0:0≤t)(h1:t < l.length) {x:Typ} (hx:l[t.toNat]? = some x):xc l t=t :: xc l x.parent:=by
 obtain ⟨x',hx',hp,h2,h3⟩:=zcY hv h0 h1
 rw [hx] at hx';cases hx'
 unfold xc
 rw [show wh l (t.toNat + 1) t=t :: wh l t.toNat (zb3 l t) from by simp [wh,show ¬ t < 0 from by omega],hp,kq hv _ _ (by omega) (by omega)]
structure At where
 pred:Int
 args:List Int
deriving DecidableEq
structure Lit where
 neg:Bool
 at_:At
deriving DecidableEq
structure Prd where
 name:List UInt8
 types:List Int
structure Sch where
 name:List UInt8
 types:List Int
 diff:List (Int × Int)
 pre:List Lit
 add:List At
 del:List At
 cost:Int
structure Dom where
 types:List Typ
 objects:List Obj
 preds:List Prd
 schemas:List Sch
 init:List At
 goal:List Lit
def atV (a:At):V:=.agg [.int .i64 a.pred,.sl .p (a.args.map zk)]
def zY (x:Lit):V:=.agg [.bool x.neg,.int .i64 x.at_.pred,.sl .p (x.at_.args.map zk)]
def wy (p:Prd):V:=.agg [.str p.name,.sl .p (p.types.map zk)]
def uM (p:Int × Int):V:=.agg [.int .i64 p.1,.int .i64 p.2]
def xF (s:Sch):V:=.agg [.str s.name,.sl .p (s.types.map zk),.sl .p (s.diff.map uM),.sl .p (s.pre.map zY),.sl .p (s.add.map atV),.sl .p (s.del.map atV),.int .i64 s.cost]
def yW (d:Dom):V:=.agg [.sl .p (d.types.map tyV),.sl .p (d.objects.map obV),.sl .p (d.preds.map wy),.sl .p (d.schemas.map xF),.sl .p (d.init.map atV),.sl .p (d.goal.map zY)]
def fnz {α:Type} (f:α→Int):List α→Int
 | []=>0
 | a :: r=>if f a≠0 then f a else fnz f r
theorem zq5 {α:Type}{f:α→Int}:∀ {l:List α}{k:Nat}{c:α},(∀ j,j < k→∀ x,l[j]? = some x→f x=0)→l[k]? = some c→f c≠0→fnz f l=f c
 | [],k,c,_,hc,_=>by simp at hc
 | a :: r,0,c,_,hc,hn=>by
  simp only [List.getElem?_cons_zero,Option.some.injEq] at hc
  subst hc
  simp only [fnz]
  rw [if_pos hn]
 | a :: r,k + 1,c,hi,hc,hn=>by
  have:=hi 0 (by omega) a rfl
  simp only [fnz]
  rw [if_neg (by simp [this])]
  exact zq5 (k:=k) (fun j hj x hx=>hi (j + 1) (by omega) x (by simpa using hx)) (by simpa using hc) hn
theorem ztf {α:Type}{f:α→Int}:∀ {l:List α},(∀ j,j < l.length→∀ x,l[j]? = some x→f x=0)→fnz f l=0
 | [],_=>rfl
 | a :: r,hi=>by
  have:=hi 0 (by simp) a rfl
  simp only [fnz]
  rw [if_neg (by simp [this])]
  exact ztf fun j hj x hx=>hi (j + 1) (by simp;omega) x (by simpa using hx)
theorem zq6 {α:Type}{f:α→Int}:∀ {l:List α},fnz f l=0→∀ x∈l,f x=0
 | a :: r,h,x,hx=>by
  simp only [fnz] at h
  split at h
  · rename_i h1;exact absurd h h1
  · rename_i h1
    rcases List.mem_cons.1 hx with rfl|hx
    · simpa using h1
    · exact zq6 h x hx
def wK (d:Dom)(ps:List Int)(x:Int):Option Int:=if 0≤x∧x < d.objects.length then (d.objects[x.toNat]?).map Obj.type else if x < 0∧-(ps.length:Int)≤x then ps[(-1 - x).toNat]? else none
def zdG (d:Dom)(t:Int):Option Int→Option Int
 | none=>some 3
 | some u=>if vK d.types u t=true then none else some 8
def uC (d:Dom)(ps want:List Int)(a:At)(i:Nat):Option Int:=match a.args[i]?,want[i]? with
 | some x,some t=>zdG d t (wK d ps x)
 | _,_=>none
def yF (d:Dom)(ps:List Int)(a:At):Int:=if a.pred < 0∨(d.preds.length:Int)≤a.pred then 6 else match d.preds[a.pred.toNat]? with
 | none=>6
 | some p=>if a.args.length≠p.types.length then 9 else (y0 (uC d ps p.types a) 0 a.args.length).getD 0
def zI (d:Dom)(ps:List Int)(l:List At)(most:Nat):Int:=if l.length > most then 2 else fnz (yF d ps) l
def y4 (n:Nat)(l:List Int):Int:=if l.length > 3 then 2 else if l.any (zlY n)=true then 3 else 0
def zr2:List UInt8:=[110,111,116]
def wj (d:Dom)(i:Nat):Int:=match d.preds[i]? with
 | none=>0
 | some p=>if wq p.name=false∨p.name=zr2 then 12 else if (d.preds.take i).any (fun q=>q.name == p.name)=true then 7 else y4 d.types.length p.types
def qy (n:Nat)(p:Int × Int):Bool:=decide (p.1 < 0) || (decide (p.2≤p.1) || decide ((n:Int)≤p.2))
def xy (d:Dom)(s:Sch):Int:=if y4 d.types.length s.types≠0 then y4 d.types.length s.types else if s.diff.length > 8 then 2 else if s.diff.any (qy s.types.length)=true then 3
 else if zI d s.types (s.pre.map Lit.at_) 8≠0 then zI d s.types (s.pre.map Lit.at_) 8 else if zI d s.types s.add 8≠0 then zI d s.types s.add 8 else if zI d s.types s.del 8≠0 then zI d s.types s.del 8
 else if s.cost < 0∨s.cost > 100 then 3 else 0
def x3 (d:Dom)(i:Nat):Int:=match d.schemas[i]? with
 | none=>0
 | some s=>if wq s.name=false then 12 else if (d.schemas.take i).any (fun q=>q.name == s.name)=true then 7 else xy d s
def uD (l:List At)(i:Nat):Option Int:=match l[i]? with
 | none=>none
 | some a=>if a∈l.take i then some 7 else none
def vM (d:Dom):Int:=if zI d [] d.init 40≠0 then zI d [] d.init 40 else (y0 (uD d.init) 0 d.init.length).getD 0
def nzF (f:Nat→Int)(g:Nat→Int)(i:Nat):Option Flt:=if f i=0 then none else some ⟨f i,g i⟩
def yR (d:Dom):Flt:=if yc d.types≠okF then ⟨(yc d.types).code,-1⟩ else if zH d.types.length d.objects≠okF then ⟨(zH d.types.length d.objects).code,-2⟩
 else if d.preds.length > 8 then ⟨2,-3⟩ else match y0 (nzF (wj d) fun _=>-3) 0 d.preds.length with
 | some f=>f
 | none=>if d.schemas.length > 8 then ⟨2,-4⟩ else match y0 (nzF (x3 d) fun i=>i) 0 d.schemas.length with
   | some f=>f
   | none=>if vM d≠0 then ⟨vM d,-5⟩ else if zI d [] (d.goal.map Lit.at_) 8≠0 then ⟨zI d [] (d.goal.map Lit.at_) 8,-6⟩ else okF
structure DoTy (d:Dom):Prop where
 ty:wi d.types
 ol:d.objects.length≤8
 o:∀ x∈d.objects,-1≤x.type∧x.type < d.types.length
def zo4 (d:Dom)(ps:List Int):Prop:=ps.length≤100∧∀ t∈ps,-1≤t∧t < d.types.length
theorem zaL {d:Dom}{l:List Int} (h:y4 d.types.length l=0):l.length≤3∧∀ t∈l,-1≤t∧t < d.types.length:=by
 unfold y4 at h
 split at h
 · cases h
 · split at h
   · cases h
   · rename_i h1 h2
     refine ⟨by omega,fun t ht=>?_⟩
     simp only [List.any_eq_true,not_exists,not_and,Bool.not_eq_true] at h2
     have:=h2 t ht
     simp only [zlY,Bool.or_eq_false_iff,decide_eq_false_iff_not] at this
     omega
theorem zr3 {d:Dom} (hd:DoTy d) {ps:List Int} (hp:zo4 d ps) {x t:Int} (h:wK d ps x=some t):-1≤t∧t < d.types.length:=by
 unfold wK at h
 split at h
 · cases ho:d.objects[x.toNat]? with
   | none=>rw [ho] at h;cases h
   | some o =>
    rw [ho] at h
    cases h
    exact hd.o o (zm ho)
 · split at h
   · exact hp.2 t (zm h)
   · cases h
structure AtOk (a:At):Prop where
 len:a.args.length≤17592186044416
 r:∀ c∈a.args,InR .i64 c
 p:InR .i64 a.pred
structure SchOk (s:Sch):Prop where
 name:s.name.length≤140737488355328
 types:s.types.length≤17592186044416
 diff:s.diff.length≤17592186044416
 pre:s.pre.length≤3518437208883
 add:s.add.length≤4398046511104
 del:s.del.length≤4398046511104
 preA:∀ x∈s.pre,AtOk x.at_
 addA:∀ x∈s.add,AtOk x
 delA:∀ x∈s.del,AtOk x
structure DoOk (d:Dom):Prop where
 types:d.types.length≤140737488355328∧∀ t∈d.types,t.name.length≤140737488355328
 objects:d.objects.length≤140737488355328∧∀ t∈d.objects,t.name.length≤140737488355328
 preds:d.preds.length≤140737488355328∧∀ p∈d.preds,p.name.length≤140737488355328∧p.types.length≤17592186044416
 schemas:d.schemas.length≤140737488355328∧∀ s∈d.schemas,SchOk s
 init:d.init.length≤4398046511104∧∀ a∈d.init,AtOk a
 goal:d.goal.length≤3518437208883∧∀ x∈d.goal,AtOk x.at_
def y6 (a b:Int):Int:=if a < b then -1 else if a > b then 1 else 0
def xh:List Int→List Int→Int
 | [],[]=>0
 | [],_ :: _=>-1
 | _ :: _,[]=>1
 | a :: r,b :: s=>if a=b then xh r s else y6 a b
def yb (a b:At):Int:=if a.pred=b.pred then xh a.args b.args else y6 a.pred b.pred
theorem ug {a b:Int}:y6 a b=0↔a=b:=by
 unfold y6
 split
 · simp;omega
 · split
   · simp;omega
   · simp;omega
theorem zcZ:∀ {a b:List Int},xh a b=0↔a=b
 | [],[]=>by simp [xh]
 | [],_ :: _=>by simp [xh]
 | _ :: _,[]=>by simp [xh]
 | a :: r,b :: s=>by
  simp only [xh]
  split
  · rename_i h;subst h;rw [zcZ];simp
  · rename_i h;rw [ug];simp [h]
theorem yD {a b:At}:yb a b=0↔a=b:=by
 unfold yb
 split
 · rename_i h
   rw [zcZ]
   cases a;cases b
   simp only at h
   simp [h]
 · rename_i h
   rw [ug]
   constructor
   · exact fun e=>absurd e h
   · rintro rfl;exact absurd rfl h
theorem zfW:∀ (k:Nat)(a b:List Int),a.take k=b.take k→k≤a.length→k≤b.length→xh a b=xh (a.drop k) (b.drop k)
 | 0,a,b,_,_,_=>by simp
 | k + 1,[],b,_,h,_=>by simp at h
 | k + 1,a :: r,[],_,_,h=>by simp at h
 | k + 1,a :: r,b :: s,h,h1,h2=>by
  simp only [List.take_succ_cons,List.cons.injEq] at h
  obtain ⟨rfl,h⟩:=h
  simp only [xh,if_true,List.drop_succ_cons]
  exact zfW k r s h (by simpa using h1) (by simpa using h2)
theorem zvL {k:Nat}{a b:List Int}{x y:Int} (h:a.take k=b.take k)(hx:a[k]? = some x)(hy:b[k]? = some y)(hne:x≠y):xh a b=y6 x y:=by
 have h1:=yn hx
 have h2:=yn hy
 rw [zfW k a b h (by omega) (by omega),List.drop_eq_getElem_cons h1,List.drop_eq_getElem_cons h2]
 rw [List.getElem?_eq_getElem h1,Option.some.injEq] at hx
 rw [List.getElem?_eq_getElem h2,Option.some.injEq] at hy
 rw [hx,hy]
 simp only [xh]
 rw [if_neg hne]
theorem zo5 {k:Nat}{a b:List Int} (h:a.take k=b.take k)(h1:k≤a.length)(h2:k≤b.length)(he:k=a.length∨k=b.length):xh a b=y6 a.length b.length:=by
 rw [zfW k a b h h1 h2]
 unfold y6
 rcases he with e|e
 · rw [List.drop_of_length_le (by omega)]
   by_cases hb:k=b.length
   · rw [List.drop_of_length_le (by omega),if_neg (by omega),if_neg (by omega)];rfl
   · rw [List.drop_eq_getElem_cons (by omega:k < b.length),if_pos (by omega)];rfl
 · rw [List.drop_of_length_le (by omega:b.length≤k)]
   by_cases ha:k=a.length
   · rw [List.drop_of_length_le (by omega),if_neg (by omega),if_neg (by omega)];rfl
   · rw [List.drop_eq_getElem_cons (by omega:k < a.length),if_neg (by omega),if_pos (by omega)];rfl
def z7 (x y:Lit):Int:=if yb x.at_ y.at_≠0 then yb x.at_ y.at_ else if x.neg=y.neg then 0 else if x.neg=true then 1 else -1
theorem znq (a b:Int):y6 b a = -y6 a b:=by unfold y6;(repeat' split)<;>omega
theorem vN {a b:Int}:y6 a b < 0↔a < b:=by unfold y6;(repeat' split)<;>omega
theorem zi2:∀ (a b:List Int),xh b a = -xh a b
 | [],[]=>rfl
 | [],_ :: _=>rfl
 | _ :: _,[]=>rfl
 | a :: r,b :: s=>by
  simp only [xh]
  by_cases h:a=b
  · rw [if_pos h,if_pos h.symm,zi2 r s]
  · rw [if_neg h,if_neg (fun e=>h e.symm),znq]
theorem zep:∀ {a b c:List Int},xh a b < 0→xh b c < 0→xh a c < 0
 | [],[],_,h,_=>by simp [xh] at h
 | [],_ :: _,[],_,h=>by simp [xh] at h
 | [],_ :: _,_ :: _,_,_=>by simp [xh]
 | _ :: _,[],_,h,_=>by simp [xh] at h
 | _ :: _,_ :: _,[],_,h=>by simp [xh] at h
 | a :: r,b :: s,c :: t,h1,h2=>by
  simp only [xh] at h1 h2 ⊢
  by_cases e1:a=b
  · rw [if_pos e1] at h1
    by_cases e2:b=c
    · rw [if_pos e2] at h2
      rw [if_pos (e1.trans e2)]
      exact zep h1 h2
    · rw [if_neg e2] at h2
      rw [if_neg (by rw [e1];exact e2),e1]
      exact h2
  · rw [if_neg e1,vN] at h1
    by_cases e2:b=c
    · rw [if_neg (by rw [← e2];exact e1),← e2,vN]
      exact h1
    · rw [if_neg e2,vN] at h2
      rw [if_neg (by omega),vN]
      omega
theorem jG (a b:At):yb b a = -yb a b:=by
 unfold yb
 by_cases h:a.pred=b.pred
 · rw [if_pos h,if_pos h.symm,zi2]
 · rw [if_neg h,if_neg (fun e=>h e.symm),znq]
theorem zaM {a b c:At} (h1:yb a b < 0)(h2:yb b c < 0):yb a c < 0:=by
 unfold yb at h1 h2 ⊢
 by_cases e1:a.pred=b.pred
 · rw [if_pos e1] at h1
   by_cases e2:b.pred=c.pred
   · rw [if_pos e2] at h2
     rw [if_pos (e1.trans e2)]
     exact zep h1 h2
   · rw [if_neg e2] at h2
     rw [if_neg (by rw [e1];exact e2),e1]
     exact h2
 · rw [if_neg e1,vN] at h1
   by_cases e2:b.pred=c.pred
   · rw [if_neg (by rw [← e2];exact e1),← e2,vN]
     exact h1
   · rw [if_neg e2,vN] at h2
     rw [if_neg (by omega),vN]
     omega
theorem vw {x y:Lit}:z7 x y=0↔x=y:=by
 unfold z7
 by_cases h:yb x.at_ y.at_=0
 · rw [if_neg (by simp [h])]
   have e:=yD.1 h
   by_cases hn:x.neg=y.neg
   · rw [if_pos hn]
     cases x;cases y
     simp only at e hn
     simp [e,hn]
   · rw [if_neg hn]
     constructor
     · intro h2;split at h2<;>cases h2
     · rintro rfl;exact absurd rfl hn
 · rw [if_pos h]
   constructor
   · exact fun e=>absurd e h
   · rintro rfl;exact absurd (yD.2 rfl) h
theorem zkv (x y:Lit):z7 y x = -z7 x y:=by
 have hn:=jG x.at_ y.at_
 unfold z7
 by_cases h:yb x.at_ y.at_=0
 · have h':yb y.at_ x.at_=0:=by omega
   rw [if_neg (show ¬ yb y.at_ x.at_≠0 by simp [h']),if_neg (show ¬ yb x.at_ y.at_≠0 by simp [h])]
   cases x.neg<;>cases y.neg<;>rfl
 · rw [if_pos (show yb y.at_ x.at_≠0 by omega),if_pos h]
   exact hn
theorem znr {x y:Lit} (h:z7 x y < 0):yb x.at_ y.at_≤0:=by
 unfold z7 at h
 split at h
 · omega
 · rename_i h1;simp at h1;omega
theorem zfX {x y:Lit} (h:yb x.at_ y.at_ < 0):z7 x y < 0:=by
 unfold z7
 rw [if_pos (by omega)]
 exact h
theorem zfY {x y z:Lit} (h1:z7 x y < 0)(h2:z7 y z < 0):z7 x z < 0:=by
 have a1:=znr h1
 have a2:=znr h2
 by_cases e1:yb x.at_ y.at_=0
 · by_cases e2:yb y.at_ z.at_=0
   · have f1:=yD.1 e1
     have f2:=yD.1 e2
     unfold z7 at h1 h2 ⊢
     rw [if_neg (by simp [e1])] at h1
     rw [if_neg (by simp [e2])] at h2
     rw [if_neg (by rw [f1];simp [e2])]
     cases hx:x.neg<;>cases hy:y.neg<;>cases hz:z.neg<;>simp_all
   · refine zfX ?_
     rw [yD.1 e1]
     omega
 · by_cases e2:yb y.at_ z.at_=0
   · refine zfX ?_
     rw [← yD.1 e2]
     omega
   · exact zfX (zaM (b:=y.at_) (by omega) (by omega))
theorem zkw (x:Lit):z7 x x=0:=vw.2 rfl
def SLt (l:List Lit):Prop:=l.Pairwise fun x y=>z7 x y < 0
def opp (x:Lit):Lit:=⟨!x.neg,x.at_⟩
theorem zq7:∀ {a b:List Lit},SLt a→SLt b→(∀ x,x∈a↔x∈b)→a=b
 | [],[],_,_,_=>rfl
 | [],y :: s,_,_,h=>absurd ((h y).2 (by simp)) (by simp)
 | x :: r,[],_,_,h=>absurd ((h x).1 (by simp)) (by simp)
 | x :: r,y :: s,ha,hb,h=>by
  obtain ⟨a1,a2⟩:=List.pairwise_cons.1 ha
  obtain ⟨b1,b2⟩:=List.pairwise_cons.1 hb
  have e:x=y:=by
   rcases List.mem_cons.1 ((h x).1 (by simp)) with e|hx
   · exact e
   · rcases List.mem_cons.1 ((h y).2 (by simp)) with e|hy
     · exact e.symm
     · have h1:=b1 x hx
       have h2:=a1 y hy
       have:=zkv x y
       omega
  subst e
  have key:∀ z,z∈r↔z∈s:=fun z=>by
   constructor
   · intro hz
     rcases List.mem_cons.1 ((h z).1 (by simp [hz])) with e|h1
     · subst e
       have:=a1 z hz
       have:=zkw z
       omega
     · exact h1
   · intro hz
     rcases List.mem_cons.1 ((h z).2 (by simp [hz])) with e|h1
     · subst e
       have:=b1 z hz
       have:=zkw z
       omega
     · exact h1
  rw [zq7 a2 b2 key]
def kr (l:List Lit)(x:Lit):List Lit:=if x∈l then l else l.takeWhile (fun y=>decide (z7 y x < 0)) ++ x :: l.dropWhile (fun y=>decide (z7 y x < 0))
theorem ztg {l:List Lit}{x z:Lit}:z∈kr l x↔z∈l∨z=x:=by
 unfold kr
 split
 · rename_i h
   constructor
   · exact .inl
   · rintro (h1|rfl)
     · exact h1
     · exact h
 · have e:l=l.takeWhile (fun y=>decide (z7 y x < 0)) ++ l.dropWhile (fun y=>decide (z7 y x < 0)):=List.takeWhile_append_dropWhile.symm
   conv=>rhs;rw [e]
   simp only [List.mem_append,List.mem_cons]
   constructor
   · rintro (h|h|h)
     · exact .inl (.inl h)
     · exact .inr h
     · exact .inl (.inr h)
   · rintro ((h|h)|h)
     · exact .inl h
     · exact .inr (.inr h)
     · exact .inr (.inl h)
theorem zo6 {l:List Lit}{x:Lit} (h:SLt l):SLt (kr l x):=by
 unfold kr
 split
 · exact h
 · rename_i hx
   have e:l=l.takeWhile (fun y=>decide (z7 y x < 0)) ++ l.dropWhile (fun y=>decide (z7 y x < 0)):=List.takeWhile_append_dropWhile.symm
   have hp:=h
   rw [e] at hp
   obtain ⟨p1,p2,p3⟩:=List.pairwise_append.1 hp
   have ht:∀ y∈l.takeWhile (fun y=>decide (z7 y x < 0)),z7 y x < 0:=fun y hy=>by
    have:=List.all_takeWhile (p:=fun y=>decide (z7 y x < 0)) (l:=l)
    rw [List.all_eq_true] at this
    simpa using this y hy
   have hd:∀ y∈l.dropWhile (fun y=>decide (z7 y x < 0)),z7 x y < 0:=by
    cases hc:l.dropWhile (fun y=>decide (z7 y x < 0)) with
    | nil=>intro y hy;simp at hy
    | cons z r =>
     have hz:¬ z7 z x < 0:=by
      have:=List.head?_dropWhile_not (fun y=>decide (z7 y x < 0)) l
      rw [hc] at this
      simpa using this
     have hzl:z∈l:=by rw [e,hc];simp
     have hne:z7 z x≠0:=fun h0=>hx (by rw [← vw.1 h0];exact hzl)
     have hxz:z7 x z < 0:=by have:=zkv z x;omega
     intro y hy
     rcases List.mem_cons.1 hy with rfl|hy
     · exact hxz
     · rw [hc] at p2
       exact zfY hxz ((List.pairwise_cons.1 p2).1 y hy)
   refine List.pairwise_append.2 ⟨p1,List.pairwise_cons.2 ⟨hd,p2⟩,fun y hy z hz=>?_⟩
   rcases List.mem_cons.1 hz with rfl|hz
   · exact ht y hy
   · exact p3 y hy z hz
section
variable {α:Type} [DecidableEq α]
def zhk (l:List α)(i:Nat):Option α:=match l[i]? with
 | some x=>if i=0∨l[i - 1]?≠some x then some x else none
 | none=>none
def ddG (l:List α)(k:Nat):List α:=(List.range k).filterMap (zhk l)
theorem zeq (l:List α)(k:Nat):ddG l (k + 1)=ddG l k ++ (zhk l k).toList:=by
 unfold ddG
 rw [List.range_succ,List.filterMap_append]
 congr 1
def xX (l:List α):List α:=ddG l l.length
theorem zvM (l:List α)(k:Nat):(ddG l k).length≤k:=by
 have:=List.length_filterMap_le (zhk l) (List.range k)
 simpa [ddG] using this
theorem zer {l:List α}{k:Nat}{x:α} (hx:l[k]? = some x)(h:k=0∨l[k - 1]?≠some x):ddG l (k + 1)=ddG l k ++ [x]:=by
 rw [zeq,zhk,hx];simp only [if_pos h,Option.toList]
theorem zes {l:List α}{k:Nat}{x:α} (hx:l[k]? = some x)(h0:k≠0)(h:l[k - 1]? = some x):ddG l (k + 1)=ddG l k:=by
 rw [zeq,zhk,hx];simp [h0,h]
theorem zhl {l:List α}:∀ k,k≤l.length→(∀ j,0 < j→j < k→l[j]?≠l[j - 1]?)→ddG l k=l.take k
 | 0,_,_=>by simp [ddG]
 | k + 1,h,hn=>by
  obtain ⟨x,hx⟩:=zh (l:=l) (k:=k) (by omega)
  rw [zer hx,zhl k (by omega) fun j h1 h2=>hn j h1 (by omega),zz hx]
  by_cases e:k=0
  · exact .inl e
  · refine .inr fun e2=>hn k (by omega) (by omega) ?_
    rw [hx,e2]
theorem zl0 {l:List α}{x:α}:∀ k,k≤l.length→(x∈ddG l k↔x∈l.take k)
 | 0,_=>by simp [ddG]
 | k + 1, h=>by
  obtain ⟨y,hy⟩:=zh (l:=l) (k:=k) (by omega)
  have ih:=zl0 (l:=l) (x:=x) k (by omega)
  rw [zz hy]
  by_cases c:k=0∨l[k - 1]?≠some y
  · rw [zer hy c];simp [ih]
  · simp only [not_or,Decidable.not_not] at c
    rw [zes hy c.1 c.2]
    simp only [List.mem_append,List.mem_singleton,ih]
    constructor
    · exact .inl
    · rintro (e|rfl)
      · exact e
      · obtain ⟨h1,h2⟩:=List.getElem?_eq_some_iff.1 c.2
        exact List.mem_take_iff_getElem.2 ⟨k - 1,by omega,h2⟩
theorem zth {l:List α}{x:α}:x∈xX l↔x∈l:=by
 unfold xX
 rw [zl0 l.length (Nat.le_refl _),List.take_length]
theorem zq8 {l:List α}{m i:Nat} (hi:(ddG l m).length≤i):(ddG l m ++ l.drop (ddG l m).length)[i]? = l[i]?:=by
 rw [List.getElem?_append_right hi,List.getElem?_drop]
 congr 1
 omega
theorem zvN {l:List α}{m:Nat}{x:α} (hd:(ddG l m).length < l.length):(ddG l m ++ l.drop (ddG l m).length).set (ddG l m).length x=(ddG l m ++ [x]) ++ l.drop (ddG l m ++ [x]).length:=by
 rw [List.set_append_right _ _ (Nat.le_refl _),Nat.sub_self]
 have:l.drop (ddG l m).length=l[(ddG l m).length] :: l.drop ((ddG l m).length + 1):=List.drop_eq_getElem_cons hd
 rw [this,List.set_cons_zero]
 simp
end
theorem zkx {l:List Lit} (hs:l.Pairwise fun x y=>z7 x y≤0):∀ k,k≤l.length→SLt (ddG l k)
 | 0,_=>by simp [ddG,SLt]
 | k + 1, h=>by
  obtain ⟨y,hy⟩:=zh (l:=l) (k:=k) (by omega)
  have ih:=zkx (l:=l) hs k (by omega)
  by_cases c:k=0∨l[k - 1]?≠some y
  · rw [zer hy c]
    refine List.pairwise_append.2 ⟨ih,List.pairwise_singleton _ _,fun a ha b hb=>?_⟩
    simp only [List.mem_singleton] at hb
    subst hb
    have ha':=(zl0 k (by omega)).1 ha
    obtain ⟨i,hi,e⟩:=List.mem_take_iff_getElem.1 ha'
    obtain ⟨h1,e1⟩:=List.getElem?_eq_some_iff.1 hy
    rcases c with c|c
    · omega
    · have h3:l[k - 1]? = some l[k - 1]:=List.getElem?_eq_getElem (by omega)
      have h4:z7 l[k - 1] b≤0:=by
       by_cases hk:k=0
       · omega
       · have:=List.pairwise_iff_getElem.1 hs (k - 1) k (by omega) h1 (by omega)
         rw [e1] at this;exact this
      have h5:z7 l[k - 1] b≠0:=fun e=>c (by rw [h3,vw.1 e])
      by_cases hik:i=k - 1
      · subst hik
        rw [e] at h4 h5
        omega
      · have h6:=List.pairwise_iff_getElem.1 hs i (k - 1) (by omega) (by omega) (by omega)
        rw [e] at h6
        by_cases h7:z7 a l[k - 1]=0
        · rw [← vw.1 h7] at h4 h5
          omega
        · exact zfY (y:=l[k - 1]) (by omega) (by omega)
  · simp only [not_or,Decidable.not_not] at c
    rw [zes hy c.1 c.2]
    exact ih
def uq (args:List Int)(x:Int):Int:=if x < 0 then (args[(-1 - x).toNat]?).getD 0 else x
def zL (args:List Int)(a:At):At:=⟨a.pred,a.args.map (uq args)⟩
def zky (d:Dom)(ps args:List Int):Prop:=args.length=ps.length∧∀ o∈args,0≤o∧o < d.objects.length
theorem vO {d:Dom}{ps:List Int}{a:At} (h:yF d ps a=0):(0≤a.pred∧a.pred < d.preds.length)∧∃ p,d.preds[a.pred.toNat]? = some p∧a.args.length=p.types.length∧∀ (i:Nat)(x:Int),a.args[i]? = some x→∃ t u,p.types[i]? = some t∧wK d ps x=some u∧vK d.types u t=true:=by
 unfold yF at h
 split at h
 · cases h
 · rename_i h1
   refine ⟨by omega,?_⟩
   cases hp:d.preds[a.pred.toNat]? with
   | none=>rw [hp] at h;cases h
   | some p =>
    rw [hp] at h
    simp only at h
    split at h
    · cases h
    · rename_i h2
      have h2:a.args.length=p.types.length:=by simpa using h2
      refine ⟨p,rfl,h2,fun i x hx=>?_⟩
      have hi:=yn hx
      obtain ⟨t,ht⟩:=zh (l:=p.types) (k:=i) (by omega)
      have hnone:y0 (uC d ps p.types a) 0 a.args.length=none:=by
       cases hs:y0 (uC d ps p.types a) 0 a.args.length with
       | none=>rfl
       | some e =>
        rw [hs] at h
        simp only [Option.getD_some] at h
        exfalso
        have:=xE (bad:=uC d ps p.types a) (fun o=>o≠some 0) (by simp) (fun i=>by
         unfold uC
         split
         · unfold zdG
           split
           · simp
           · split<;>simp
         · simp) a.args.length 0
        rw [hs,h] at this
        exact this rfl
      have:=vL _ _ hnone i (by omega) (by omega)
      unfold uC at this
      rw [hx,ht] at this
      simp only at this
      unfold zdG at this
      split at this
      · cases this
      · rename_i u hu
        split at this
        · rename_i hsub
          exact ⟨t,u,ht,hu,hsub⟩
        · cases this
theorem zqG {d:Dom}{ps:List Int}{x t:Int} (h:wK d ps x=some t):-(ps.length:Int)≤x∧x < d.objects.length:=by
 unfold wK at h
 split at h
 · omega
 · split at h
   · omega
   · cases h
theorem zo7 {d:Dom}{ps:List Int}{a:At} (h:yF d ps a=0):∀ x∈a.args,-(ps.length:Int)≤x∧x < d.objects.length:=by
 obtain ⟨_,p,_,_,h2⟩:=vO h
 intro x hx
 obtain ⟨i,hi⟩:=List.getElem?_of_mem hx
 obtain ⟨t,u,_,hu,_⟩:=h2 i x hi
 exact zqG hu
theorem zux {d:Dom}{ps args:List Int} (ha:zky d ps args) {x:Int} (h:-(ps.length:Int)≤x∧x < d.objects.length):0≤uq args x∧uq args x < d.objects.length:=by
 unfold uq
 split
 · obtain ⟨o,ho⟩:=zh (l:=args) (k:=(-1 - x).toNat) (by have:=ha.1;omega)
   rw [ho]
   exact ha.2 o (zm ho)
 · omega
theorem zet {d:Dom}{ps args:List Int} (ha:zky d ps args)(hd:DoTy d) {a:At} (hao:AtOk a)(h:yF d ps a=0):AtOk (zL args a):=by
 refine ⟨by simp only [zL,List.length_map];exact hao.len,fun c hc=>?_,hao.p⟩
 simp only [zL,List.mem_map] at hc
 obtain ⟨x,hx,rfl⟩:=hc
 have:=zux ha (zo7 h x hx)
 have:=hd.ol
 simp only [InR]
 omega
def zaN (d:Dom)(t:Int):List Int:=xd d.types d.objects t
def yB (d:Dom):List Int→List (List Int)
 | []=>[[]]
 | t :: r=>(zaN d t).flatMap fun o=>(yB d r).map (o :: ·)
theorem zuy {d:Dom}{t o:Int} (h:o∈zaN d t):0≤o∧o < d.objects.length:=by
 unfold zaN xd at h
 obtain ⟨i,hi,rfl⟩:=List.mem_map.1 h
 have:=List.mem_range.1 (List.mem_filter.1 hi).1
 simp only [Int.ofNat_eq_natCast]
 omega
theorem zuz (d:Dom)(t:Int):(zaN d t).length≤d.objects.length:=by
 unfold zaN xd
 rw [List.length_map]
 exact Nat.le_trans (List.length_filter_le _ _) (by simp)
theorem zb5 {d:Dom}:∀ {ts a:List Int},a∈yB d ts↔a.length=ts.length∧∀ (i:Nat)(o t:Int),a[i]? = some o→ts[i]? = some t→o∈zaN d t
 | [],a=>by
  simp only [yB,List.mem_singleton,List.length_nil,List.length_eq_zero_iff]
  constructor
  · rintro rfl;exact ⟨rfl,fun i o t h=>by simp at h⟩
  · exact fun h=>h.1
 | t :: r,a=>by
  simp only [yB,List.mem_flatMap,List.mem_map]
  constructor
  · rintro ⟨o,ho,b,hb,rfl⟩
    obtain ⟨h1,h2⟩:=zb5.1 hb
    refine ⟨by simp [h1],fun i o' t' h3 h4=>?_⟩
    cases i with
    | zero =>
     simp only [List.getElem?_cons_zero,Option.some.injEq] at h3 h4
     subst h3 h4
     exact ho
    | succ i=>exact h2 i o' t' (by simpa using h3) (by simpa using h4)
  · rintro ⟨h1,h2⟩
    cases a with
    | nil=>simp at h1
    | cons o b =>
     exact ⟨o,h2 0 o t rfl rfl,b,zb5.2 ⟨by simpa using h1,fun i o' t' h3 h4=>h2 (i + 1) o' t' (by simpa using h3) (by simpa using h4)⟩,rfl⟩
theorem uh {α β:Type}{f:α→List β}{n:Nat}:∀ {l:List α},(∀ x∈l,(f x).length≤n)→(l.flatMap f).length≤l.length * n
 | [],_=>by simp
 | x :: r,h=>by
  have h1:=h x (by simp)
  have h2:=uh (l:=r) (fun y hy=>h y (by simp [hy]))
  simp only [List.flatMap_cons,List.length_append,List.length_cons,Nat.add_mul]
  omega
theorem zkz {d:Dom} (hd:d.objects.length≤8):∀ ts:List Int,(yB d ts).length≤8 ^ ts.length
 | []=>by simp [yB]
 | t :: r=>by
  have h1:=zuz d t
  have h2:=zkz hd r
  simp only [yB,List.length_cons]
  refine Nat.le_trans (uh (n:=8 ^ r.length) (fun o _=>by simpa using h2)) ?_
  rw [Nat.pow_succ,Nat.mul_comm]
  exact Nat.mul_le_mul_left _ (by omega)
theorem zi3 {d:Dom} (hd:d.objects.length≤8) {ts:List Int} (h:ts.length≤3):(yB d ts).length≤512 :=
 Nat.le_trans (zkz hd ts) (Nat.pow_le_pow_right (by omega) h)
theorem zi4 {d:Dom}{ts a:List Int} (h:a∈yB d ts):a.length=ts.length∧∀ o∈a,0≤o∧o < d.objects.length:=by
 obtain ⟨h1,h2⟩:=zb5.1 h
 refine ⟨h1,fun o ho=>?_⟩
 obtain ⟨i,hi⟩:=List.getElem?_of_mem ho
 obtain ⟨t,ht⟩:=zh (l:=ts) (k:=i) (by have:=yn hi;omega)
 exact zuy (h2 i o t hi ht)
def vi (d:Dom)(p:Nat):List At:=match d.preds[p]? with
 | none=>[]
 | some x=>(yB d x.types).map fun a=>⟨p,a⟩
theorem vx {d:Dom}{p:Nat}{x:Prd} (h:d.preds[p]? = some x):vi d p=(yB d x.types).map fun a=>⟨p,a⟩:=by unfold vi;rw [h]
def yp (d:Dom)(k:Nat):List At:=(List.range k).flatMap (vi d)
def wb (d:Dom):List At:=yp d d.preds.length
theorem kt {β:Type} (f:Nat→List β)(k:Nat):(List.range (k + 1)).flatMap f=(List.range k).flatMap f ++ f k:=by
 rw [List.range_succ,List.flatMap_append];simp
theorem ziD (d:Dom)(k:Nat):yp d (k + 1)=yp d k ++ vi d k:=kt _ _
theorem zns (d:Dom) {j k:Nat} (h:j≤k):(yp d j).length≤(yp d k).length:=by
 induction h with
 | refl=>exact Nat.le_refl _
 | step h ih=>rw [ziD,List.length_append];omega
def atF (d:Dom):Flt:=if yR d≠okF then yR d else if (wb d).length > 400 then ⟨10,-8⟩ else okF
def w9 (d:Dom)(p:Int):Bool:=d.goal.any (fun x=>decide (x.at_.pred=p)) || d.schemas.any fun s=>s.add.any (fun a=>decide (a.pred=p)) || s.del.any fun a=>decide (a.pred=p)
def ur (d:Dom)(p:Int):Bool:=d.goal.any (fun x=>x.neg && decide (x.at_.pred=p)) || d.schemas.any fun s=>s.pre.any fun x=>x.neg && decide (x.at_.pred=p)
def yK (a:At):Lit:=⟨false,a⟩
def ut (a:At):Lit:=⟨true,a⟩
def wz (d:Dom)(k:Nat):List Lit:=(List.range k).flatMap fun p:Nat=>if w9 d p=true then (vi d p).map yK else []
def wc (d:Dom)(k:Nat):List Lit:=(List.range k).flatMap fun p:Nat=>if w9 d p=true∧ur d p=true then (vi d p).map ut else []
def ya (d:Dom):List Lit:=wz d d.preds.length ++ wc d d.preds.length
theorem ziE {d:Dom}{p:Nat}{a:At} (h:a∈vi d p):a.pred=p:=by
 unfold vi at h
 split at h
 · cases h
 · obtain ⟨x,_,rfl⟩:=List.mem_map.1 h;rfl
theorem ziF {d:Dom}{p:Nat} (q:Int→Bool):(vi d p).filter (fun a=>q a.pred)=if q p=true then vi d p else []:=by
 split
 · rename_i h
   exact List.filter_eq_self.2 fun a ha=>by rw [ziE ha];exact h
 · rename_i h
   exact List.filter_eq_nil_iff.2 fun a ha=>by rw [ziE ha];exact h
theorem zdh {α β:Type} (f:α→List β)(q:β→Bool):∀ l:List α,(l.flatMap f).filter q=l.flatMap fun x=>(f x).filter q
 | []=>rfl
 | x :: r=>by simp only [List.flatMap_cons,List.filter_append,zdh f q r]
theorem zq9 (d:Dom)(k:Nat):wz d k=((yp d k).filter fun a=>w9 d a.pred).map yK:=by
 unfold wz yp
 rw [zdh,List.map_flatMap]
 congr 1
 funext p
 rw [ziF (fun p=>w9 d p)]
 split<;>rfl
theorem zra (d:Dom)(k:Nat):wc d k=((yp d k).filter fun a=>w9 d a.pred && ur d a.pred).map ut:=by
 unfold wc yp
 rw [zdh,List.map_flatMap]
 congr 1
 funext p
 rw [ziF (fun p=>w9 d p && ur d p)]
 by_cases h:w9 d p=true∧ur d p=true
 · rw [if_pos h,if_pos (by rw [h.1,h.2];rfl)]
 · rw [if_neg h,if_neg (by simpa using h)];rfl
theorem znt {d:Dom}{a:At}:a∈wb d↔∃ (p:Nat)(x:Prd),d.preds[p]? = some x∧a.pred=p∧a.args∈yB d x.types:=by
 unfold wb yp
 rw [List.mem_flatMap]
 constructor
 · rintro ⟨p,hp,ha⟩
   obtain ⟨x,hx⟩:=zh (List.mem_range.1 hp)
   rw [vx hx] at ha
   obtain ⟨b,hb,rfl⟩:=List.mem_map.1 ha
   exact ⟨p,x,hx,rfl,hb⟩
 · rintro ⟨p,x,hx,h1,h2⟩
   refine ⟨p,List.mem_range.2 (yn hx),?_⟩
   rw [vx hx]
   exact List.mem_map.2 ⟨a.args,h2,by cases a;simp only at h1;subst h1;rfl⟩
theorem znu {d:Dom}{x:Lit}:x∈ya d↔x.at_∈wb d∧w9 d x.at_.pred=true∧(x.neg=true→ur d x.at_.pred=true):=by
 unfold ya
 rw [zq9,zra,List.mem_append,List.mem_map,List.mem_map]
 change _↔x.at_∈yp d d.preds.length∧_
 constructor
 · rintro (⟨a,ha,rfl⟩|⟨a,ha,rfl⟩)
   · have:=List.mem_filter.1 ha
     exact ⟨this.1,this.2,fun h=>by cases h⟩
   · have:=List.mem_filter.1 ha
     simp only [Bool.and_eq_true] at this
     exact ⟨this.1,this.2.1,fun _=>this.2.2⟩
 · rintro ⟨h1,h2,h3⟩
   cases x with
   | mk n a =>
    simp only at h1 h2 h3
    cases n with
    | false=>exact .inl ⟨a,List.mem_filter.2 ⟨h1,h2⟩,rfl⟩
    | true=>exact .inr ⟨a,List.mem_filter.2 ⟨h1,by rw [h2,h3 rfl];rfl⟩,rfl⟩
structure DoVal (d:Dom):Prop where
 ty:DoTy d
 ps:d.preds.length≤8
 pt:∀ x∈d.preds,x.types.length≤3
 ss:d.schemas.length≤8
 sc:∀ s∈d.schemas,xy d s=0
 ini:zI d [] d.init 40=0
 goal:zI d [] (d.goal.map Lit.at_) 8=0
theorem zti {d:Dom} (h:DoVal d):(wb d).length≤4096:=by
 unfold wb yp
 refine Nat.le_trans (uh (n:=512) fun p hp=>?_) ?_
 · obtain ⟨x,hx⟩:=zh (List.mem_range.1 hp)
   rw [vx hx,List.length_map]
   exact zi3 h.ty.ol (h.pt x (zm hx))
 · have:=h.ps;simp only [List.length_range];omega
structure SOp where
 pre:List Int
 add:List Int
 del:List Int
 cost:Int
structure STask where
 facts:Int
 init:List Int
 goal:List Int
 ops:List SOp
def soV (o:SOp):V:=.agg [.sl .p (o.pre.map zk),.sl .p (o.add.map zk),.sl .p (o.del.map zk),.int .i64 o.cost]
def skV (t:STask):V:=.agg [.int .i64 t.facts,.sl .p (t.init.map zk),.sl .p (t.goal.map zk),.sl .p (t.ops.map soV)]
def skZ:STask:=⟨0,[],[],[]⟩
structure SkOk (s:STask):Prop where
 i:s.init.length≤140737488355328
 g:s.goal.length≤140737488355328
 o:s.ops.length≤140737488355328
 e:∀ o∈s.ops,o.pre.length≤140737488355328∧o.add.length≤140737488355328∧o.del.length≤140737488355328
theorem zkA {l:List Typ} (hv:wi l)(Pr:Int→Prop)(h0:∀ t,t < 0→Pr t)(h1:∀ (t:Int)(x:Typ),0≤t→t < l.length→l[t.toNat]? = some x→-1≤x.parent→x.parent < t→Pr x.parent→Pr t):∀ t:Int,t < l.length→Pr t:=by
 have key:∀ (n:Nat)(t:Int),t < n→t < l.length→Pr t:=by
  intro n
  induction n with
  | zero=>intro t ht _;exact h0 t (by omega)
  | succ n ih =>
   intro t ht hl
   by_cases hn:t < 0
   · exact h0 t hn
   · obtain ⟨x,hx,_,h2,h3⟩:=zcY hv (by omega) hl
     exact h1 t x (by omega) hl hx h2 h3 (ih x.parent (by omega) (by omega))
 intro t ht
 exact key (t.toNat + 1) t (by omega) ht
theorem zo8 {l:List Typ} (hv:wi l)(t:Int)(h0:-1≤t)(h1:t < l.length):∀ x∈xc l t,-1≤x∧x≤t:=by
 refine zkA hv (fun t=>-1≤t→∀ x∈xc l t,-1≤x∧x≤t) (fun t ht h0 x hx=>?_) (fun t x h0 h1 hx h2 h3 ih _ y hy=>?_) t h1 h0
 · rw [zbh ht] at hx
   simp at hx
   omega
 · rw [jF hv h0 h1 hx] at hy
   rcases List.mem_cons.1 hy with rfl|hy
   · omega
   · have:=ih h2 y hy;omega
theorem zo9 {l:List Typ} (hv:wi l)(t:Int)(h1:t < l.length):∀ y∈xc l t,∃ pre,xc l t=pre ++ xc l y∧∀ z∈pre,y < z:=by
 refine zkA hv (fun t=>∀ y∈xc l t,∃ pre,xc l t=pre ++ xc l y∧∀ z∈pre,y < z) (fun t ht y hy=>?_) (fun t x h0 h1 hx h2 h3 ih y hy=>?_) t h1
 · rw [zbh ht] at hy ⊢
   simp at hy
   subst hy
   exact ⟨[],by rw [zbh (by omega)];rfl,fun z hz=>by cases hz⟩
 · rw [jF hv h0 h1 hx] at hy ⊢
   rcases List.mem_cons.1 hy with rfl|hy
   · exact ⟨[],by rw [jF hv h0 h1 hx];rfl,fun z hz=>by cases hz⟩
   · obtain ⟨pre,e,hp⟩:=ih y hy
     refine ⟨t :: pre,by rw [e];rfl,fun z hz=>?_⟩
     rcases List.mem_cons.1 hz with ez|hz
     · have:=(zo8 hv x.parent h2 (by omega) y hy).2;omega
     · exact hp z hz
theorem zi5 {l:List Typ}{a b:Int}:vK l a b=true↔b∈xc l a:=by simp [vK]
theorem ztj {l:List Typ} (hv:wi l) {a b c:Int} (h1:a < l.length)(h:vK l a b=true)(k:vK l b c=true):vK l a c=true:=by
 obtain ⟨pre,e,_⟩:=zo9 hv a h1 b (zi5.1 h)
 rw [zi5,e]
 exact List.mem_append.2 (.inr (zi5.1 k))
theorem vj {d:Dom}{ps:List Int}{l:List At}{m:Nat} (h:zI d ps l m=0):l.length≤m∧∀ a∈l,yF d ps a=0:=by
 unfold zI at h
 split at h
 · cases h
 · exact ⟨by omega,zq6 h⟩
structure SchVal (d:Dom)(s:Sch):Prop where
 types:s.types.length≤3∧∀ t∈s.types,-1≤t∧t < d.types.length
 dl:s.diff.length≤8
 diff:∀ p∈s.diff,0≤p.1∧p.1 < p.2∧p.2 < s.types.length
 prel:s.pre.length≤8
 pre:∀ x∈s.pre,yF d s.types x.at_=0
 addl:s.add.length≤8
 add:∀ x∈s.add,yF d s.types x=0
 dell:s.del.length≤8
 del:∀ x∈s.del,yF d s.types x=0
 c0:0≤s.cost
 c1:s.cost≤100
theorem znv {d : Dom}{s:Sch} (h:xy d s=0):SchVal d s:=by
 unfold xy at h
 split at h
 · rename_i h1;exact absurd h h1
 · rename_i h1
   split at h
   · cases h
   · rename_i h2
     split at h
     · cases h
     · rename_i h3
       split at h
       · rename_i h4;exact absurd h h4
       · rename_i h4
         split at h
         · rename_i h5;exact absurd h h5
         · rename_i h5
           split at h
           · rename_i h6;exact absurd h h6
           · rename_i h6
             split at h
             · cases h
             · rename_i h7
               have e4:=vj (show zI d s.types (s.pre.map Lit.at_) 8=0 by simpa using h4)
               have e5:=vj (show zI d s.types s.add 8=0 by simpa using h5)
               have e6:=vj (show zI d s.types s.del 8=0 by simpa using h6)
               refine ⟨zaL (by simpa using h1),by omega,fun p hp=>?_,by simpa using e4.1,fun x hx=>e4.2 _ (List.mem_map_of_mem hx),e5.1,e5.2,e6.1,e6.2,by omega,by omega⟩
               have h3:s.diff.any (qy s.types.length)=false:=by simpa using h3
               have:=List.any_eq_false.1 h3 p hp
               simp only [qy,Bool.or_eq_true,decide_eq_true_eq,not_or] at this
               omega
theorem zuA (n:Nat)(l:List Obj)(i:Nat):∀ f,xI n l i=some f→f.code≠0:=by
 intro f h
 unfold xI at h
 split at h
 · cases h
 · repeat' split at h
   all_goals cases h
   all_goals simp
theorem ztk {n:Nat}{l:List Obj} (h:zH n l=okF):l.length≤8∧∀ o∈l,-1≤o.type∧o.type < n:=by
 unfold zH at h
 split at h
 · cases h
 · rename_i h8
   have hs:=zlZ (xE (bad:=xI n l) (fun o=>∀ f,o=some f→f.code≠0) (by simp) (fun i=>zuA n l i) l.length 0) h
   refine ⟨by omega,fun o ho=>?_⟩
   obtain ⟨i,hi,e⟩:=List.getElem_of_mem ho
   have hg:l[i]? = some o:=by rw [← e];exact List.getElem?_eq_getElem hi
   have:=vL _ _ hs i (Nat.zero_le _) (by omega)
   unfold xI at this
   rw [hg] at this
   simp only at this
   split at this
   · cases this
   · split at this
     · cases this
     · split at this
       · cases this
       · omega
theorem zuB {d:Dom} (h1:yc d.types=okF)(h2:zH d.types.length d.objects=okF):DoTy d:=by
 obtain ⟨h3,h4⟩:=ztk h2
 exact ⟨zb4 h1,h3,h4⟩
theorem zpa {l:List Typ} (this:(yc l).code=0):yc l=okF:=by
 unfold yc at this ⊢
 split at this
 · cases this
 · rename_i h8
   rw [if_neg h8]
   have hp:=xE (bad:=w8 l) (fun o=>∀ f,o=some f→f.code≠0) (by simp) (fun i=>zeo l i) l.length 0
   cases hs:y0 (w8 l) 0 l.length with
   | none=>rfl
   | some f=>rw [hs] at this;exact absurd this (hp f hs)
theorem zpb {n:Nat}{l:List Obj} (this:(zH n l).code=0):zH n l=okF:=by
 unfold zH at this ⊢
 split at this
 · cases this
 · rename_i h8
   rw [if_neg h8]
   have hp:=xE (bad:=xI n l) (fun o=>∀ f,o=some f→f.code≠0) (by simp) (fun i f hf=>by
    unfold xI at hf
    split at hf
    · cases hf
    · repeat' split at hf
      all_goals first
       | (cases hf;done)
       | (cases hf;simp)) l.length 0
   cases hs:y0 (xI n l) 0 l.length with
   | none=>rfl
   | some f=>rw [hs] at this;exact absurd this (hp f hs)
theorem zc0 {f g:Nat→Int}{n:Nat}{x:Flt} (h:y0 (nzF f g) 0 n=some x):x.code≠0:=by
 have:=xE (bad:=nzF f g) (fun o=>∀ y,o=some y→y.code≠0) (by simp) (fun i y hy=>by
  unfold nzF at hy
  split at hy
  · cases hy
  · rename_i h;cases hy;exact h) n 0
 exact this x h
structure DomV (d:Dom):Prop where
 types:yc d.types=okF
 objects:zH d.types.length d.objects=okF
 ty:DoTy d
 pl:d.preds.length≤8
 prd:∀ i,i < d.preds.length→wj d i=0
 sl:d.schemas.length≤8
 sch:∀ i,i < d.schemas.length→x3 d i=0
 ini:zI d [] d.init 40=0
 dup:∀ i,i < d.init.length→uD d.init i=none
 goal:zI d [] (d.goal.map Lit.at_) 8=0
theorem zpc {f g:Nat→Int}{n:Nat} (h:y0 (nzF f g) 0 n=none):∀ i,i < n→f i=0:=fun i hi=>by
 have:=vL _ _ h i (Nat.zero_le _) (by omega)
 unfold nzF at this
 split at this
 · assumption
 · cases this
theorem zpd {d:Dom} (h:vM d=0):zI d [] d.init 40=0∧∀ i,i < d.init.length→uD d.init i=none:=by
 unfold vM at h
 split at h
 · rename_i h1;exact absurd h h1
 · rename_i h1
   refine ⟨by simpa using h1,fun i hi=>?_⟩
   have hn:y0 (uD d.init) 0 d.init.length=none:=by
    cases hs:y0 (uD d.init) 0 d.init.length with
    | none=>rfl
    | some e =>
     rw [hs] at h
     simp only [Option.getD_some] at h
     have:=xE (bad:=uD d.init) (fun o=>o≠some 0) (by simp) (fun i=>by
      unfold uD
      split
      · simp
      · split<;>simp) d.init.length 0
     rw [hs,h] at this
     exact absurd rfl this
   exact vL _ _ hn i (Nat.zero_le _) (by omega)
theorem zkB {c i:Int} (h:c≠0):(⟨c,i⟩:Flt)≠okF:=fun e=>h (congrArg Flt.code e)
theorem ui {d : Dom} (h:yR d=okF):DomV d:=by
 unfold yR at h
 split at h
 · rename_i h1;exact absurd h (zkB fun e=>h1 (zpa e))
 · rename_i h1
   have h1:yc d.types=okF:=by simpa using h1
   split at h
   · rename_i h2;exact absurd h (zkB fun e=>h2 (zpb e))
   · rename_i h2
     have h2:zH d.types.length d.objects=okF:=by simpa using h2
     split at h
     · cases h
     · rename_i h3
       split at h
       · rename_i f hf;exact absurd (by rw [h];rfl) (zc0 hf)
       · rename_i h4
         split at h
         · cases h
         · rename_i h5
           split at h
           · rename_i f hf;exact absurd (by rw [h];rfl) (zc0 hf)
           · rename_i h6
             split at h
             · rename_i h7;exact absurd h (zkB h7)
             · rename_i h7
               split at h
               · rename_i h8;exact absurd h (zkB h8)
               · rename_i h8
                 obtain ⟨s1,s2⟩:=zpd (by simpa using h7)
                 exact ⟨h1,h2,zuB h1 h2,by omega,zpc h4,by omega,zpc h6,s1,s2,by simpa using h8⟩
structure PrdVal (d:Dom)(i:Nat)(p:Prd):Prop where
 name:wq p.name=true
 no:p.name≠zr2
 new:∀ (j:Nat)(q:Prd),j < i→d.preds[j]? = some q→q.name≠p.name
 types:p.types.length≤3∧∀ t∈p.types,-1≤t∧t < d.types.length
theorem zfi {α:Type}{f:α→List UInt8}{l:List α}{i:Nat}{s:List UInt8} (h:¬ (l.take i).any (fun q=>f q == s)=true):∀ (j:Nat)(q:α),j < i→l[j]? = some q→f q≠s:=fun j q hj hq e=>h (by
 refine List.any_eq_true.2 ⟨q,?_,by simpa using e⟩
 have:(l.take i)[j]? = some q:=by rw [List.getElem?_take,if_pos hj,hq]
 exact List.mem_of_getElem? this)
theorem zc1 {d:Dom} (h:DomV d) {i:Nat}{p:Prd} (hp:d.preds[i]? = some p):PrdVal d i p:=by
 have:=h.prd i (yn hp)
 unfold wj at this
 rw [hp] at this
 simp only at this
 split at this
 · cases this
 · rename_i h1
   split at this
   · cases this
   · rename_i h2
     simp only [not_or,Bool.not_eq_false] at h1
     exact ⟨h1.1,h1.2,zfi h2,zaL this⟩
structure SchV2 (d:Dom)(i:Nat)(s:Sch):Prop where
 name:wq s.name=true
 new:∀ (j:Nat)(q:Sch),j < i→d.schemas[j]? = some q→q.name≠s.name
 val:SchVal d s
theorem zb6 {d:Dom} (h:DomV d) {i:Nat}{s:Sch} (hs:d.schemas[i]? = some s):SchV2 d i s:=by
 have:=h.sch i (yn hs)
 unfold x3 at this
 rw [hs] at this
 simp only at this
 split at this
 · cases this
 · rename_i h1
   split at this
   · cases this
   · rename_i h2
     exact ⟨by simpa using h1,zfi h2,znv this⟩
theorem zl1 (d : Dom):(yR d).code=0↔yR d=okF:=by
 have key:∀ c i:Int,c≠0→((⟨c,i⟩:Flt).code=0↔(⟨c,i⟩:Flt)=okF):=fun c i h=>⟨fun h1=>absurd h1 h,fun h1=>absurd (congrArg Flt.code h1) h⟩
 have key2:∀ x:Flt,x.code≠0→(x.code=0↔x=okF):=fun x h=>⟨fun h1=>absurd h1 h,fun h1=>absurd (congrArg Flt.code h1) h⟩
 unfold yR
 split
 · rename_i h;exact key _ _ fun h1=>h (zpa h1)
 · split
   · rename_i h;exact key _ _ fun h1=>h (zpb h1)
   · split
     · exact key _ _ (by decide)
     · split
       · rename_i f hf;exact key2 _ (zc0 hf)
       · split
         · exact key _ _ (by decide)
         · split
           · rename_i f hf;exact key2 _ (zc0 hf)
           · split
             · rename_i h;exact key _ _ h
             · split
               · rename_i h;exact key _ _ h
               · simp [okF]
section
variable {G:Type}{H:HT G}
def YB (H:HT G):List (List V)→G→(Bool→G→Prop)→Prop
 | [],g,K=>K true g
 | as_ :: r,g,K=>H as_ g fun u g'=>(u=.bool true∧YB H r g' K)∨(u=.bool false∧K false g')
theorem zrb (hM:yz H):∀ (l:List (List V))(g:G)(K K':Bool→G→Prop),(∀ b g,K b g→K' b g)→YB H l g K→YB H l g K'
 | [],_,_,_,hk,h=>hk _ _ h
 | a :: r,g,K,K',hk,h=>hM _ _ _ _ (fun u g' h=>by
  rcases h with ⟨h1,h2⟩|⟨h1,h2⟩
  · exact .inl ⟨h1,zrb hM r g' K K' hk h2⟩
  · exact .inr ⟨h1,hk _ _ h2⟩) h
theorem jP (hM:yz H):∀ (l m:List (List V))(g:G)(K:Bool→G→Prop),YB H (l ++ m) g K→YB H l g (fun b g'=>(b=true∧YB H m g' K)∨(b=false∧K false g'))
 | [],m,g,K,h=>.inl ⟨rfl,h⟩
 | a :: r,m,g,K,h=>hM _ _ _ _ (fun u g' h=>by
  rcases h with ⟨h1,h2⟩|⟨h1,h2⟩
  · exact .inl ⟨h1,jP hM r m g' K h2⟩
  · exact .inr ⟨h1,.inr ⟨rfl,h2⟩⟩) h
theorem zi6 (hM:yz H):∀ (l:List (List V))(g:G)(K:G→Prop),YL H l g K→YB H l g fun _=>K
 | [],g,K,h=>h
 | a :: r,g,K,h=>hM _ _ _ _ (fun u g' h=>by
  rcases h with ⟨h1,h2⟩|⟨h1,h2⟩
  · exact .inl ⟨h1,zi6 hM r g' K h2⟩
  · exact .inr ⟨h1,h2⟩) h
end
theorem zl2 {G:Type}{H:HT G} (hM:yz H) {α:Type}{f:α→List V} (st:Nat→G) {K:G→Prop}:∀ (l:List α)(n:Nat),(∀ (i:Nat)(c:α),l[i]? = some c→∀ K':V→G→Prop,K' (.bool true) (st (n + i + 1))→H (f c) (st (n + i)) K')→K (st (n + l.length))→YL H (l.map f) (st n) K
 | [],n,_,h=>h
 | c :: r,n,hH,h=>by
  refine hH 0 c rfl _ (.inl ⟨rfl,?_⟩)
  refine zl2 hM st r (n + 1) (fun i c' hc K' hk=>?_) (by rw [List.length_cons] at h;rw [show n + 1 + r.length=n + (r.length + 1) by omega];exact h)
  have:=hH (i + 1) c' (by simpa using hc) K' (by rw [show n + (i + 1) + 1=n + 1 + i + 1 by omega];exact hk)
  rw [show n + 1 + i=n + (i + 1) by omega]
  exact this
theorem zrc {G G':Type}{H:HT G}{H':HT G'} (hM:yz H)(hM':yz H') {α β:Type}{f:α→List V}{h:β→List V} (p:α→Option β)(s0:G→G')(s1:G→G') {K':G'→Prop}:∀ (l:List α)(g:G),
  (∀ c∈l,∀ (g:G)(K:V→G'→Prop),(match p c with
    | none=>K (.bool true) (s0 g)
    | some b=>H (h b) g fun u g'=>(u=.bool true∧K (.bool true) (s0 g'))∨(u=.bool false∧K (.bool false) (s1 g')))→H' (f c) (s0 g) K) →
  YB H ((l.filterMap p).map h) g (fun b g'=>K' (bif b then s0 g' else s1 g'))→YL H' (l.map f) (s0 g) K'
 | [],g,_,hy=>hy
 | c :: r,g,hH,hy=>by
  have ih:=fun g=>zrc hM hM' p s0 s1 (K':=K') r g (fun c hc=>hH c (by simp [hc]))
  refine hH c (by simp) g _ ?_
  cases hp:p c with
  | none =>
   simp only
   rw [List.filterMap_cons,hp] at hy
   exact .inl ⟨by trivial,ih g hy⟩
  | some b =>
   simp only
   rw [List.filterMap_cons,hp] at hy
   refine hM _ _ _ _ (fun u g' hu=>?_) hy
   rcases hu with ⟨rfl,hu⟩|⟨rfl,hu⟩
   · exact .inl ⟨rfl,.inl ⟨by trivial,ih g' hu⟩⟩
   · exact .inr ⟨rfl,.inr ⟨by trivial,hu⟩⟩
theorem zpe {G:Type}{P:Program}{H:HT G}{pn:List Nat}{Q:Exit→Env→za→G→Prop}{fs:List (Frm G)}{r:List GItem}{ρ:Env}{σ:za}{g:G}{dst:Option Nat}{f:Opd}{args:List Opd}{fid:Nat}{av:List V}{ns:List Nat}{L:List (Nat × Blk)}
  (hf:zek ρ f args=some (fid,av))(hcl:zW ns av=true)(hcs:zF ns σ ns=true)(hL:ns.map (fun nm=>(nm,σ nm))=L) {K:V→za→G→Prop} (hc:Cc P H fid av ns (zy L) g K)
  (h:∀ v σ' g',K v σ' g'→WI P H pn Q fs r (put ρ dst v) (Hm.merge ns σ σ') g'):WI P H pn Q fs (.op dst none (.call (.s ns) f args) :: r) ρ σ g :=
 i_c hf hcl hcs (by rw [zu,hL];exact hc) h
def Cl (ns:List Nat)(σ:za):Prop:=zF ns σ ns=true
theorem Cl.at {ns:List Nat}{σ:za}{nm:Nat}{row:V} (h:Cl ns σ)(hm:nm∈ns)(hb:σ nm=.box row):zt ns row=true:=(z6 ns σ ns).1 h nm hm row hb
theorem Cl.ups {ns:List Nat}{σ:za}{nm:Nat}{b:Blk} (h:Cl ns σ)(hb:∀ row,b=.box row→zt ns row=true):Cl ns (ups σ nm b):=(z6 _ _ _).2 fun n hn row hr=>by
 by_cases e:n=nm
 · subst e
   rw [zn] at hr
   exact hb row hr
 · rw [ze σ b e] at hr
   exact h.at hn hr
theorem Cl.of {ns:List Nat}{σ σ':za} (h:Cl ns σ)(he:∀ nm∈ns,σ' nm=σ nm):Cl ns σ':=(z6 _ _ _).2 fun n hn row hr=>h.at hn ((he n hn).symm.trans hr)
theorem zB {ns:List Nat}{σ:za}{nm:Nat} (h:nm∈ns):restr ns σ nm=σ nm:=(zA (σ:=σ) (θ:=θ0) h).1
theorem jQ {ns:List Nat}{σ:za}{nm:Nat} (h:nm ∉ ns):restr ns σ nm=.zc:=(z8 (σ:=σ) (θ:=θ0) h).1
theorem zi7 {ns:List Nat}{σ σ':za}{nm:Nat} (h:nm∈ns):merge ns σ σ' nm=σ' nm:=(yt (σ:=σ) (σ':=σ') (θ:=θ0) (θ':=θ0) h).1
theorem vP {ns:List Nat}{σ σ':za}{nm:Nat} (h:nm ∉ ns):merge ns σ σ' nm=σ nm:=(yg (σ:=σ) (σ':=σ') (θ:=θ0) (θ':=θ0) h).1
theorem Cl.restr {ns:List Nat}{σ:za} (h:Cl ns σ):Cl ns (restr ns σ):=h.of fun nm hm=>zB hm
theorem yY {ns:List Nat}{σ:za} (h:∀ nm,σ nm≠.zc→nm∈ns):restr ns σ=σ:=by
 funext nm
 by_cases hm:nm∈ns
 · exact zB hm
 · rw [jQ hm]
   cases hk:σ nm with
   | zc=>rfl
   | _=>exact absurd (h nm (by rw [hk];intro e;cases e)) hm
theorem znw {ns:List Nat}{σ σ':za} (h:∀ nm,σ nm≠.zc→nm∈ns)(h':∀ nm,σ' nm≠.zc→nm∈ns):merge ns σ σ' = σ':=by
 funext nm
 by_cases hm:nm∈ns
 · exact zi7 hm
 · rw [vP hm]
   cases hk:σ nm with
   | zc=>cases hk':σ' nm with
     | zc=>rfl
     | _=>exact absurd (h' nm (by rw [hk'];intro e;cases e)) hm
   | _=>exact absurd (h nm (by rw [hk];intro e;cases e)) hm
theorem qz {ns:List Nat}{σ:za}{nm:Nat}{b:Blk} (h:∀ nm,σ nm≠.zc→nm∈ns)(hm:nm∈ns):∀ n,ups σ nm b n≠.zc→n∈ns:=fun n hn=>by
 by_cases e:n=nm
 · exact e ▸ hm
 · rw [ze σ b e] at hn
   exact h n hn
abbrev lsn (ns:List Nat)(σ:za):List (Nat × Blk):=ns.map fun nm=>(nm,σ nm)
theorem zrd (ns:List Nat)(σ:za):(lsn ns σ).map (·.1)=ns:=by
 unfold lsn
 rw [List.map_map]
 exact List.map_id ns
theorem vc (ns:List Nat)(σ:za):zy (lsn ns σ)=restr ns σ:=(zu σ ns).symm
theorem znx {σ σ':za}:∀ {ns:List Nat},(∀ nm∈ns,σ' nm=σ nm)→zoy (lsn ns σ) σ'
 | [],_=>trivial
 | n :: r,h=>⟨h n (by simp),znx fun nm hm=>h nm (by simp [hm])⟩
theorem x6 {ns pn:List Nat}{E:List (Nat × V)}{ρ:Env}{σ σ':za} (hE:zg6 E ρ)(hσ:∀ nm∈ns,σ' nm=σ nm)(hc:zX ns E=true)(hcl:Cl ns σ)(hp:∀ n∈pn,n∈ns):wx pn E (lsn ns σ) ρ σ':=by
 refine ⟨hE,znx hσ,?_⟩
 unfold wY
 rw [zrd,vc,hc,Bool.true_and,Bool.and_eq_true]
 exact ⟨hcl.restr,(zee _ _).2 hp⟩
mutual
theorem zdi (pn:List Nat):∀ v:V,zP v=true→zt pn v=true
 | .any,_|.bool _,_|.int _ _,_|.str _,_|.nilptr,_|.nilfn,_|.raw _ _,_|.ifc _,_|.rsl _ _ _,_|.nilmp,_|.mps _ _ _,_=>rfl
 | .agg l,h=>vQ pn l h
 | .tup l,h=>vQ pn l h
 | .fn _ l,h=>vQ pn l h
 | .ifv _ v,h=>zdi pn v h
 | .sl .p _,_|.sl .nil _,_|.cptr .p _ _,_=>rfl
 | .sl (.own _) _,h=>by cases h
 | .cptr .nil _ _,h=>by cases h
 | .cptr (.own _) _ _,h=>by cases h
 | .msl _ _ _ _,h=>by cases h
 | .ptr _ _ _ _,h=>by cases h
 | .bptr _ _,h=>by cases h
 | .rnd,h=>by cases h
 | .tag _ _,h=>by cases h
 | .mp _,h=>by cases h
theorem vQ (pn:List Nat):∀ l:List V,xt l=true→zW pn l=true
 | [],_=>rfl
 | v :: r,h=>by
  have h2:(zP v && xt r)=true:=h
  rw [Bool.and_eq_true] at h2
  show (zt pn v && zW pn r)=true
  rw [zdi pn v h2.1,vQ pn r h2.2]
  rfl
end
theorem zny:∀ {l:List V},(∀ v∈l,zP v=true)→xt l=true
 | [],_=>rfl
 | v :: r,h=>by
  show (zP v && xt r)=true
  rw [h v (by simp),zny fun v hv=>h v (by simp [hv])]
  rfl
theorem zeu (ns:List Nat)(h:ns.length < 1000000000000):∃ nm,nm ∉ ns∧nm < 1000000000000:=by
 by_cases c:∃ nm,nm ∉ ns∧nm < 1000000000000
 · exact c
 · exfalso
   have hsub:∀ x∈List.range (ns.length + 1),x∈ns:=fun x hx=>by
    refine Classical.byContradiction fun hn=>c ⟨x,hn,?_⟩
    have:=List.mem_range.1 hx
    omega
   have:=List.Nodup.length_le_of_subset (List.nodup_range (n:=ns.length + 1)) hsub
   rw [List.length_range] at this
   omega
theorem zpf {nm et:Nat} (h:nm < 1000000000000):wV nm et=true:=by
 have e:nm / 1099511627776=0:=Nat.div_eq_of_lt (by omega)
 unfold wV
 rw [e]
 rfl
theorem znz (vs:List V)(n:Int):xf [] vs n=none:=rfl
theorem xY (k:Int)(ks:List Int)(v:V)(vs:List V)(n:Int):xf (k :: ks) (v :: vs) n=if k=n then some v else xf ks vs n:=by
 unfold xf
 rw [List.idxOf?_cons]
 by_cases h:k=n
 · simp [h]
 · have hb:(k == n)=false:=by simpa using h
   rw [if_neg h,hb]
   cases ks.idxOf? n<;>simp
def xM:List Int→List V→Int→V→List Int × List V
 | k :: ks,v0 :: vs,n,v=>if k=n then (k :: ks,v :: vs) else (k :: (xM ks vs n v).1,v0 :: (xM ks vs n v).2)
 | _,_,n,v=>([n],[v])
theorem zev (kk:IntKind)(n:Int)(v:V):∀ (ks:List Int)(vs:List V),vs.length=ks.length→jz kk ks vs n v=.mp kk (xM ks vs n v).1 (xM ks vs n v).2
 | [],[],_=>rfl
 | k :: ks,v0 :: vs,h=>by
  have ih:=zev kk n v ks vs (by simpa using h)
  unfold jz at ih ⊢
  rw [List.idxOf?_cons]
  by_cases c:k=n
  · have hb:(k == n)=true:=by simpa using c
    simp [hb,xM,c]
  · have hb:(k == n)=false:=by simpa using c
    rw [hb]
    simp only [xM,if_neg c]
    cases hi:ks.idxOf? n with
    | none =>
     rw [hi] at ih
     simp only [Blk.mp.injEq,true_and] at ih
     simp [← ih.1,← ih.2]
    | some i =>
     rw [hi] at ih
     simp only [Blk.mp.injEq,true_and] at ih
     simp [← ih.1,← ih.2]
theorem zpg (n:Int)(v:V):∀ (ks:List Int)(vs:List V),vs.length=ks.length→(xM ks vs n v).2.length=(xM ks vs n v).1.length
 | [],[],_=>rfl
 | k :: ks,v0 :: vs,h=>by
  have ih:=zpg n v ks vs (by simpa using h)
  simp only [xM]
  split
  · simpa using h
  · simp [ih]
theorem zph (n:Int)(v:V)(x:Int):∀ (ks:List Int)(vs:List V),vs.length=ks.length→(x∈(xM ks vs n v).1↔x∈ks∨x=n)
 | [],[],_=>by simp [xM]
 | k :: ks,v0 :: vs,h=>by
  have ih:=zph n v x ks vs (by simpa using h)
  simp only [xM]
  split
  · rename_i c
    subst c
    simp only [List.mem_cons]
    constructor
    · exact .inl
    · rintro (h|h)
      · exact h
      · exact .inl h
  · simp only [List.mem_cons,ih,or_assoc]
theorem zre (n:Int)(v:V):∀ (ks:List Int)(vs:List V),vs.length=ks.length→ks.Nodup→(xM ks vs n v).1.Nodup
 | [],[],_,_=>by simp [xM]
 | k :: ks,v0 :: vs,h,hn=>by
  have hl:vs.length=ks.length:=by simpa using h
  have hn':=List.nodup_cons.1 hn
  have ih:=zre n v ks vs hl hn'.2
  simp only [xM]
  split
  · exact hn
  · rename_i c
    refine List.nodup_cons.2 ⟨fun hm=>?_,ih⟩
    rcases (zph n v k ks vs hl).1 hm with h1|h1
    · exact hn'.1 h1
    · exact c h1
theorem zpi (n:Int)(v:V)(m:Int):∀ (ks:List Int)(vs:List V),vs.length=ks.length→xf (xM ks vs n v).1 (xM ks vs n v).2 m=if m=n then some v else xf ks vs m
 | [],[],_=>by
  simp only [xM,xY,znz]
  by_cases c:m=n
  · subst c;simp
  · rw [if_neg (fun e=>c e.symm),if_neg c]
 | k :: ks,v0 :: vs,h=>by
  have ih:=zpi n v m ks vs (by simpa using h)
  simp only [xM]
  split
  · rename_i c
    subst c
    rw [xY,xY]
    by_cases c2:m=k
    · subst c2;simp
    · rw [if_neg (fun e=>c2 e.symm),if_neg c2,if_neg (fun e=>c2 e.symm)]
  · rename_i c
    rw [xY,xY,ih]
    by_cases c2:k=m
    · subst c2
      rw [if_pos rfl,if_neg c,if_pos rfl]
    · rw [if_neg c2,if_neg c2]
def uR:List Int→List V→Int→List Int × List V
 | k :: ks,v0 :: vs,n=>if k=n then (ks,vs) else (k :: (uR ks vs n).1,v0 :: (uR ks vs n).2)
 | ks,vs,_=>(ks,vs)
theorem zpj (kk:IntKind)(n:Int):∀ (ks:List Int)(vs:List V),vs.length=ks.length→zg5 kk ks vs n=.mp kk (uR ks vs n).1 (uR ks vs n).2
 | [],[],_=>rfl
 | k :: ks,v0 :: vs,h=>by
  have ih:=zpj kk n ks vs (by simpa using h)
  unfold zg5 at ih ⊢
  rw [List.idxOf?_cons]
  by_cases c:k=n
  · have hb:(k == n)=true:=by simpa using c
    simp [hb,uR,c]
  · have hb:(k == n)=false:=by simpa using c
    rw [hb]
    simp only [uR,if_neg c]
    cases hi:ks.idxOf? n with
    | none =>
     rw [hi] at ih
     simp only [Blk.mp.injEq,true_and] at ih
     simp [← ih.1,← ih.2]
    | some i =>
     rw [hi] at ih
     simp only [Blk.mp.injEq,true_and] at ih
     simp [← ih.1,← ih.2]
theorem zpk (n:Int):∀ (ks:List Int)(vs:List V),vs.length=ks.length→(uR ks vs n).2.length=(uR ks vs n).1.length
 | [],[],_=>rfl
 | k :: ks,v0 :: vs,h=>by
  have ih:=zpk n ks vs (by simpa using h)
  simp only [uR]
  split
  · simpa using h
  · simp [ih]
theorem zpl (n:Int):∀ (ks:List Int)(vs:List V),(uR ks vs n).1.Sublist ks
 | [],vs=>by cases vs<;>exact List.Sublist.refl _
 | k :: ks,[]=>List.Sublist.refl _
 | k :: ks,v0 :: vs=>by
  simp only [uR]
  split
  · exact List.sublist_cons_self _ _
  · exact (zpl n ks vs).cons_cons k
theorem ztl {m:Int}:∀ {ks:List Int}{vs:List V},m ∉ ks→xf ks vs m=none:=fun {ks vs} h=>by
 unfold xf
 rw [List.idxOf?_eq_none_iff.2 h]
 rfl
theorem zpm (n m:Int):∀ (ks:List Int)(vs:List V),vs.length=ks.length→ks.Nodup→xf (uR ks vs n).1 (uR ks vs n).2 m=if m=n then none else xf ks vs m
 | [],[],_,_=>by simp [uR,znz]
 | k :: ks,v0 :: vs,h,hn=>by
  have hn':=List.nodup_cons.1 hn
  have ih:=zpm n m ks vs (by simpa using h) hn'.2
  simp only [uR]
  split
  · rename_i c
    subst c
    rw [xY]
    by_cases c2:m=k
    · subst c2
      rw [if_pos rfl]
      exact ztl hn'.1
    · rw [if_neg c2,if_neg (fun e=>c2 e.symm)]
  · rename_i c
    rw [xY,xY,ih]
    by_cases c2:k=m
    · subst c2
      rw [if_pos rfl,if_neg c,if_pos rfl]
    · rw [if_neg c2,if_neg c2]
structure MB (b:Blk)(F:Int→Option V) where
 ks:List Int
 vs:List V
 eq:b=.mp .u32 ks vs
 len:vs.length=ks.length
 nd:ks.Nodup
 get:∀ n,xf ks vs n=F n
def MP (b:Blk)(F:Int→Option V):Prop:=Nonempty (MB b F)
theorem MP.nil:MP (.mp .u32 [] []) (fun _=>none):=⟨[],[],rfl,rfl,List.nodup_nil,fun _=>rfl⟩
theorem MP.ext {b:Blk}{F F':Int→Option V} (h:MP b F)(e:∀ n,F n=F' n):MP b F':=h.elim fun h=>⟨h.ks,h.vs,h.eq,h.len,h.nd,fun n=>(h.get n).trans (e n)⟩
section
variable {G:Type}{P:Program}{H:HT G}{pn:List Nat}{Q:Exit→Env→za→G→Prop}{fs:List (Frm G)}{ρ:Env}{σ:za}{g:G}{r:List GItem}{d:Nat}{dst:Option Nat}{F:Int→Option V}
theorem zkC {ok:Bool}{zero v:V}{k':IntKind}{nm:Nat}{n:Int}{x i:Opd} (hx:ev ρ x=.mp nm)(hm:MP (σ nm) F)(hi:ev ρ i=.int k' n)(hk:kEq .u32 k' = true)(hv:zfG ok zero (F n)=v)
  (h:WI P H pn Q fs r (upd ρ d v) σ g):WI P H pn Q fs (.op (some d) none (.mget ok zero x i) :: r) ρ σ g:=by
 obtain ⟨ks,vs,e,_,_,hg⟩:=hm
 exact zr0 (k:=.u32) (ns:=ks) (vs:=vs) (by rw [hx];simp only [ke,e]) hi hk (by rw [hg];exact hv) h
theorem zl3 {k':IntKind}{n:Int}{nm:Nat}{x i v:Opd}{u:V} (hx:ev ρ x=.mp nm)(hi:ev ρ i=.int k' n)(hm:MP (σ nm) F)(hk:kEq .u32 k' = true)(hu:ev ρ v=u)(hp:zP u=true)
  (h:∀ b,MP b (fun m=>if m=n then some u else F m)→WI P H pn Q fs r (put ρ dst (.tup [])) (ups σ nm b) g):WI P H pn Q fs (.op dst none (.mput x i v) :: r) ρ σ g:=by
 subst hu
 obtain ⟨ks,vs,e,hl,hn,hg⟩:=hm
 refine zdF hx hi e hk hp (zev .u32 n _ ks vs hl) (h _ ⟨⟨_,_,rfl,zpg _ _ _ _ hl,zre _ _ _ _ hl hn,fun m=>?_⟩⟩)
 rw [zpi _ _ _ _ _ hl,hg]
theorem zvO {k':IntKind}{n:Int}{nm:Nat}{x i:Opd} (hx:ev ρ x=.mp nm)(hi:ev ρ i=.int k' n)(hm:MP (σ nm) F)(hk:kEq .u32 k' = true)
  (h:∀ b,MP b (fun m=>if m=n then none else F m)→WI P H pn Q fs r (put ρ dst (.tup [])) (ups σ nm b) g):WI P H pn Q fs (.op dst none (.mdel x i) :: r) ρ σ g:=by
 obtain ⟨ks,vs,e,hl,hn,hg⟩:=hm
 refine zwH hx hi e hk (zpj .u32 n ks vs hl) (h _ ⟨⟨_,_,rfl,zpk _ _ _ hl,(zpl n ks vs).nodup hn,fun m=>?_⟩⟩)
 rw [zpm _ _ _ _ hl hn,hg]
end
theorem MP.box {b:Blk}{F:Int→Option V} (h:MP b F):∀ row,b=.box row→False:=fun row e=>by
 obtain ⟨ks,vs,e2,_⟩:=h
 rw [e2] at e
 cases e
end Hm
end
