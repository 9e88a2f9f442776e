import Derived.RangeFuncLeaves
import Derived.Test.YthmnhjcmefjgjaaGreatDoorXAB
set_option linter.all false
set_option linter.unusedSectionVars false
set_option autoImplicit true
set_option relaxedAutoImplicit true
set_option maxRecDepth 100000
set_option maxHeartbeats 1000000
noncomputable section
namespace Go.AM
open Go Go.Proofs Go.RowKit
variable {E:Env} (hE:zCt E) {lo n:Nat} {F:Fence} (hF:FW F)
variable {all:Array Oper} {ps:List PO} {T0 T:Tm} {defs:List Nat} {σ:Sg} {done:Nat} {rds:List Rd} {rest:List PO} {h:AH} {L:Array Bool} {a:Act} {w:World}
theorem mem_addRd{p:PO}{v:Value}:(∀ r∈rds,r∈zTz p T v rds)/\(∀ c,cls p.o.op=c->c=.read->(⟨p.i,T,p.o,v⟩:Rd)∈zTz p T v rds):=by
 unfold zTz;refine⟨λ r hr=>?_,λ c hc iZ=>?_⟩
 ·split
  ·simp[hr]
  ·exact hr
 ·subst iZ;rw[hc];simp
theorem zE9(R:Reg all ps n):∀(xs pre:List PO) (T:Tm) (done:Nat) (rds:List Rd) (s:Sw),DI E n lo all ps T0 defs σ T done rds (pre++xs) h L a w->zIQ E all.toList h xs T done rds=some s->
  DI E n lo all ps T0 defs σ s.T s.done s.rds (pre++s.rest) h L a w
 | [],pre,T,done,rds,s,I,e=>by
  simp only[zIQ,xAN] at e;subst e;exact I
 | p::xs,pre,T,done,rds,s,I,e=>by
  simp only[zIQ] at e;have hp:p∈pre++p::xs:=by simp
  have bp:=I.nodup;rw[xBr] at bp;obtain⟨n1,n2,n3⟩:=bp;rw[xCV] at n2;have r1:∀ q∈pre++xs,q∈pre++p::xs/\q≠p:=by
   intro q hq;rcases xCU.1 hq with hq|hq
   ·exact⟨by simp[hq],n3 q hq p (by simp)⟩
   ·exact⟨by simp[hq],λ e=>n2.1 (e ▸ hq)⟩
  have r2:∀ q∈pre++p::xs,q≠p->q∈pre++xs:=by
   intro q hq aj;rcases xCU.1 hq with hq|hq
   ·simp[hq]
   ·rcases xCg.1 hq with hq|hq
    ·exact absurd hq aj
    ·simp[hq]
  have r3:(pre++xs).Nodup:=by
   rw[xBr];exact⟨n1,n2.2,λ x hx y hy=>n3 x hx y (by simp[hy])⟩
  cases hc:(zBk p done&&!zEp p.o.op) with
  | true=>
   rw[hc] at e;simp only[xAG] at e;simp only[xAP] at hc;split at e
   ·rename_i hw;split at e
    ·rename_i v hv;exact zE9 R xs pre _ _ _ s (I.add R hp hc.1 hw (by simp) (λ _=>hv) mem_addRd.1 (λ _=>mem_addRd.2) r1 r2 r3) e
    ·cases e
   ·rename_i hw;exact zE9 R xs pre _ _ _ s (I.add R hp hc.1 hw (λ _=>rfl) (by simp) (λ r hr=>hr) (by simp) r1 r2 r3) e
   ·cases e
  | false=>
   rw[hc] at e;simp only[xAH] at e;unfold zsa at e;split at e;rotate_left
   ·cases e
   rename_i s' aV;cases e;have:=zE9 R xs (pre++[p]) T done rds s' (by simpa using I) aV;simpa using this
theorem zKa{x y:R St}{outs:List St}(h:joinR x y=some outs):∃ xs ys,x=some xs/\y=some ys/\outs=xs++ys:=by
 unfold joinR at h;split at h
 ·cases h;exact⟨_,_,rfl,rfl,rfl⟩
 ·cases h
theorem zIC{rec:Rec}{k:DK}{allL:List Oper}:∀(xs pre:List PO) (outs:List St),fires E rec allL k T done rds h pre xs=some outs->
  (∀ p∈xs,zBk p done=true->∃ l1 l2 os,pre++xs=l1++p::l2/\fire E rec allL k p T done rds (l1++l2) h=some os/\∀ o∈os,o∈outs)/\(outs≠[]->∃ p∈xs,zBk p done=true)
 | [],pre,outs,e=>by
  simp only[fires,xAN] at e;subst e;exact⟨(λ p hp=>by cases hp),λ h=>absurd rfl h⟩
 | p::xs,pre,outs,e=>by
  simp only[fires] at e;cases hr:zBk p done with
  | true=>
   rw[hr] at e;simp only[xAG] at e;obtain⟨aas,bs,e1,e2,rfl⟩:=zKa e;obtain⟨i1,i2⟩:=zIC xs (pre++[p]) bs e2;refine⟨λ q hq hqr=>?_,λ _=>⟨p,by simp,hr⟩⟩;rcases xCg.1 hq with rfl|hq
   ·exact⟨pre,xs,aas,rfl,e1,λ o ho=>by simp[ho]⟩
   ·obtain⟨l1,l2,os,g1,g2,g3⟩:=i1 q hq hqr;exact⟨l1,l2,os,by rw[← g1];simp,g2,λ o ho=>by simp[g3 o ho]⟩
  | false=>
   rw[hr] at e;simp only[xAH] at e;obtain⟨i1,i2⟩:=zIC xs (pre++[p]) outs e;refine⟨λ q hq hqr=>?_,λ aj=>let ⟨q,q1,q2⟩:=i2 aj;⟨q,by simp[q1],q2⟩⟩;rcases xCg.1 hq with rfl|hq
   ·rw[hr] at hqr;cases hqr
   ·obtain⟨l1,l2,os,g1,g2,g3⟩:=i1 q hq hqr;exact⟨l1,l2,os,by rw[← g1];simp,g2,g3⟩
def zJf(L:Array Bool):Nat:=L.toList.countP λ b=>!b
theorem zKn:∀(l:List Bool) (i:Nat),l[i]?=some false->(l.set i true).countP (λ b=>!b)+1=l.countP λ b=>!b
 | [],i,h=>by simp at h
 | b::l,0,h=>by simp at h;subst h;simp
 | b::l,i+1,h=>by
  simp only[xAj] at h;have:=zKn l i h;simp only[List.set_cons_succ,List.countP_cons];omega
theorem zVz{L:Array Bool}{i:Nat}(h:L.getD i true=false):zJf (L.setIfInBounds i true)+1=zJf L:=by
 unfold zJf;rw[xAW];apply zKn;rw[xAz];rw[xAT] at h;cases hL:L[i]? with
 | none=>rw[hL] at h;cases h
 | some b=>rw[hL] at h;simp at h;rw[h]
theorem zSq{L:Array Bool}(h:zJf L=0){k:Nat}(hk:k<L.size):Ran L k:=by
 unfold zJf at h;rw[List.countP_eq_zero] at h;unfold Ran;have:=h L[k] (by simp);simp[Array.getD,hk] at this ⊢;exact this
theorem zPO{L:Array Bool}{k:Nat}(hk:k<L.size):L.getD k true=false ↔ ¬ Ran L k:=by
 unfold Ran;simp[Array.getD,hk]
def ztu(E:Env)(rec:Rec)(allL:List Oper)(defs:List Nat)(s:Sw)(h:AH)(outs:List St):Prop:=
 (s.rest=[]/\(⟨s.T,h,defs⟩:St)∈outs)\/∃ f o os,fires E rec allL (drawRun E rec allL defs f) s.T s.done s.rds h [] s.rest=some (o::os)/\∀ x∈o::os,x∈outs
theorem zEQ{rec:Rec}{allL:List Oper}{f:Nat}{outs:List St}(e:drawRun E rec allL defs f T done rds rest h=some outs):∃ s,zIQ E allL h rest T done rds=some s/\ztu E rec allL defs s h outs:=by
 cases f with
 | zero=>simp[drawRun] at e
 | succ f=>
  simp only[drawRun] at e;split at e
  ·cases e
  ·rename_i s hs;refine⟨s,hs,?_⟩;split at e
   ·rename_i hr;simp only[one,xAN] at e;subst e;exact .inl ⟨hr,by simp⟩
   ·rename_i hr;unfold zMV at e;split at e
    ·rename_i o os ho;cases e;exact .inr ⟨f,o,os,ho,λ x hx=>hx⟩
    ·cases e
theorem zhf(hE:zCt E)(H:HR lo σ h w){o:Oper}(hT:zJc σ T a o.op.operands.toList){v:Value}(e:zDW E T o h=some v) :
  ∃ v',(execOp a.eval o).run E.prog w=.ok (.value v') w/\VR σ v v'/\∀ c,o.op≠.defer c:=by
 unfold zDW at e;split at e
 ·obtain⟨v',q1,q2⟩:=zNI hE hT e;exact⟨v',q1 w,q2,λ c hc=>by simp[zw,hc] at e⟩
 ·obtain⟨v',q1,q2⟩:=zNF hE H hT e;exact⟨v',q1,q2,λ c hc=>by simp[zh,hc] at e⟩
 ·cases e
include hE hF in
theorem zpY{rec:Rec}(ah:RecOps E rec)(R:Reg all ps n){k:Nat}{Q:Exit->Act->World->Prop}:∀(fuel:Nat) {σ:Sg} {s:Sw} {h:AH} {L:Array Bool} {a:Act} {w:World} {outs:List St},
  DI E n lo all ps T0 defs σ s.T s.done s.rds s.rest h L a w->ztu E rec all.toList defs s h outs->zJf L=fuel->
  (∀ st'∈outs,∀ τ a' w',Sg.le σ τ->StR n lo τ st' a' w'->Below lo w w'->Q .normal a' w')->wpAnyIn F k E.prog .any all Q fuel L a w:=by
 intro fuel
 induction fuel with
 | zero=>
  intro σ s h L a w outs I gU dL hQ;have jm:∀ j,j<all.size->Ran L j:=λ j hj=>zSq dL (by rw[I.Lsize];exact hj);refine⟨?_,?_⟩
  ·cases hr:Region.ready .any all L with
   | nil=>rfl
   | cons j js=>
    have:j∈Region.ready .any all L:=by rw[hr];simp
    obtain⟨q1,o,q2,_⟩:=mem_ready.1 this;have hj:j<all.size:=(xAV.1 q2).1;exact absurd (jm j hj) ((zPO (by rw[I.Lsize];exact hj)).1 q1)
  ·have dJ:∀ p∈ps,s.done.testBit p.i=true:=λ p hp=>I.sub _ (jm _ (R.lt hp));have cU:s.rest=[]:=by
    cases hs:s.rest with
    | nil=>rfl
    | cons p l=>
     have:=I.left p (by rw[hs];simp);rw[dJ p this.1] at this;cases this.2
   rcases gU with ⟨_,hm⟩|⟨f,o,os,hf,_⟩
   ·refine hQ _ hm σ a w (Sg.le_refl σ) ⟨⟨by rw[I.size,I.nT],λ t=>?_⟩,I.H,I.D,I.nT⟩ (Below.refl _ _);by_cases hq:∃ q∈ps,zBZ q t=true
    ·obtain⟨q,q1,q2⟩:=hq;exact I.ran t q q1 q2 (jm _ (R.lt q1))
    ·have cw:∀ q∈ps,zBZ q t=true->False:=λ q q1 q2=>hq ⟨q,q1,q2⟩;show VR σ (s.T.get t) _;rw[I.old t λ q q1 q2=>(cw q q1 q2).elim];exact I.kept t λ q q1 q2=>(cw q q1 q2).elim
   ·rw[cU] at hf;simp[fires] at hf
 | succ fuel ih=>
  intro σ s h L a w outs I gU dL hQ;refine⟨λ jo=>?_,λ j hj=>?_⟩
  ·
   exfalso
   have fe:∀ p∈ps,¬ Ran L p.i->∃ j,p.dep.testBit j=true/\¬ Ran L j:=by
    intro p hp de;apply xAd;intro cw;have:p.i∈Region.ready .any all L:=mem_ready.2 ⟨(zPO (by rw[I.Lsize];exact R.lt hp)).2 de,p.o,R.op hp,λ e he hb=>xAd λ hn=>
     cw ⟨e.on,(R.dep_iff hp _).2 ⟨e,by simpa using he,hb,rfl⟩,hn⟩⟩
    rw[jo] at this;cases this
   have aD:∀(m:Nat) (p:PO),p∈ps->p.i=m->s.done.testBit p.i=true->Ran L p.i:=by
    intro m
    induction m using Nat.strongRecOn with
    | _ m ihm=>
     intro p hp jn hd;apply xAd;intro de;obtain⟨j,j1,j2⟩:=fe p hp de;have kl:=R.dep_lt hp j1;obtain⟨e,e1,e2,e3⟩:=(R.dep_iff hp j).1 j1;obtain⟨q,q1,q2⟩:=R.atIdx (k:=j) (Nat.lt_trans kl (R.lt hp));have hdj:s.done.testBit j=true:=I.dcl p hp hd j ((R.mem_at hp).db j j1);exact j2 (q2 ▸ ihm j (by omega) q q1 q2 (q2 ▸ hdj))
   rcases gU with ⟨hr,_⟩|⟨f,o,os,hf,_⟩
   ·
    have:∀ k,k<L.size->Ran L k:=by
     intro k hk;obtain⟨p,p1,p2⟩:=R.atIdx (k:=k) (by rw[← I.Lsize];exact hk);cases hd:s.done.testBit p.i with
     | true=>rw[← p2];exact aD _ p p1 rfl hd
     | false=>have:=I.cover p p1 hd;rw[hr] at this;cases this
    have hz:zJf L=0:=by
     unfold zJf;rw[List.countP_eq_zero];intro b hb;obtain⟨i,hi⟩:=xAy.1 hb;rw[xAz] at hi;have ab:=(xAV.1 hi).1;have:=this i ab;unfold Ran at this;rw[xAT,hi] at this;simp at this;simp[this]
    omega
   ·obtain⟨p,p1,p2⟩:=(zIC _ _ _ hf).2 (by simp);obtain⟨g1,g2⟩:=I.left p p1;have de:¬ Ran L p.i:=λ hr=>by have:=I.sub _ hr;rw[g2] at this;cases this
    obtain⟨j,j1,j2⟩:=fe p g1 de;have hdj:=(zGF p s.done).1 p2 j j1;obtain⟨q,q1,q2⟩:=R.atIdx (k:=j) (Nat.lt_trans (R.dep_lt g1 j1) (R.lt g1));exact j2 (q2 ▸ aD _ q q1 rfl (q2 ▸ hdj))
  ·obtain⟨fU,o,lq,hj3⟩:=mem_ready.1 hj;have hjs:j<all.size:=(xAV.1 lq).1;obtain⟨p,hp,hpj⟩:=R.atIdx hjs;subst hpj;have hpo:=R.op hp;rw[hpo] at lq;cases lq;have de:¬ Ran L p.i:=(zPO (by rw[I.Lsize];exact hjs)).1 fU;have iY:∀ j,p.dep.testBit j=true->Ran L j:=by
    intro j dC;obtain⟨e,e1,e2,rfl⟩:=(R.dep_iff hp j).1 dC;exact hj3 e (by simpa using e1) e2
   have dW:=R.closed (S:=Ran L) I.lcl hp iY;have ig:zJf (L.setIfInBounds p.i true)=fuel:=by have:=zVz fU;omega
   unfold wpOpIn;rw[hpo];simp only;cases hd:s.done.testBit p.i with
   | true=>
    obtain⟨Tp,k1,b,v,k2,k3,k4,k5⟩:=I.pend p hp hd de;have dG:=I.look R hp de dW k1;have b9:=zDy (a:=a) (λ d hd=>dG d (by unfold zJi;exact xBB _ hd)) k2;cases b with
    | true=>
     rw[xDO b9];obtain⟨v',q1,q2,q3⟩:=zhf hE I.H (a:=a) (λ t ht=>dG t (by unfold zJi;exact xBK _ (mem_tmpsOf.2 ht))) (k4 rfl).1;have kJ:Upon E.prog (λ u w'=>u=v'/\w'=w) ((execOp a.eval p.o).run E.prog w):=by rw[q1];exact⟨rfl,rfl⟩
     refine kJ.wpIn hF q3 λ u w' hu=>?_;obtain⟨rfl,rfl⟩:=hu;exact ih (I.step R hp hd de dW (v':=u) (λ d hd=>by rw[k5 d hd];exact q2)) gU ig hQ
    | false=>
     rw[xDN (by rw[b9];simp)];refine⟨λ f _=>hF.fn f,?_⟩;have:=k3 rfl;subst this;exact ih (I.step R hp hd de dW (v':=undef) (λ d hd=>by rw[k5 d hd];exact .tuple .nil)) gU ig hQ
   | false=>
    have di:=I.cover p hp hd;rcases gU with ⟨hr,_⟩|⟨f,o,os,hf,aq⟩
    ·rw[hr] at di;cases di
    have ct:zBk p s.done=true:=(zGF _ _).2 λ j dC=>I.sub _ (iY j dC);obtain⟨l1,l2,fs,g1,g2,g3⟩:=(zIC _ _ _ hf).1 p di ct;simp only[xCa] at g1;have bp:=I.nodup;rw[g1,xBr] at bp;obtain⟨n1,n2,n3⟩:=bp;rw[xCV] at n2;have r1:∀ q∈l1++l2,q∈s.rest/\q≠p:=by
     intro q hq;rw[g1];rcases xCU.1 hq with hq|hq
     ·exact⟨by simp[hq],n3 q hq p (by simp)⟩
     ·exact⟨by simp[hq],λ e=>n2.1 (e ▸ hq)⟩
    have r2:∀ q∈s.rest,q≠p->q∈l1++l2:=by
     intro q hq aj;rw[g1] at hq;rcases xCU.1 hq with hq|hq
     ·simp[hq]
     ·rcases xCg.1 hq with hq|hq
      ·exact absurd hq aj
      ·simp[hq]
    have r3:(l1++l2).Nodup:=by
     rw[xBr];exact⟨n1,n2.2,λ x hx y hy=>n3 x hx y (by simp[hy])⟩
    have dG:=I.look R hp de dW (I.now R hp hd);unfold fire at g2;split at g2
    ·rename_i hw;have b9:=zDy (a:=a) (λ d hd=>dG d (by unfold zJi;exact xBB _ hd)) hw;rw[xDO b9];obtain⟨xs,hx,az⟩:=zAi g2;obtain⟨kJ,bp⟩:=zKi hE ah I.H (a:=a) (λ t ht=>dG t (by unfold zJi;exact xBK _ (mem_tmpsOf.2 ht))) hx;refine kJ.wpIn hF bp λ v w' hg=>?_;obtain⟨x,dZ,τ,le,cu,hv,hb⟩:=hg;obtain⟨cs,hc,lP⟩:=az x dZ;unfold zXo at hc;cases eZ:s.rds.all (zrK E p.bef x.2) with
     | false=>rw[eZ] at hc;cases hc
     | true=>
     rw[eZ] at hc;simp only[xAG] at hc;have I':=I.fire R di dW le cu hv (rds':=zJL p.bef s.rds) (λ r hr bZ=>by
      have h1:=xCB.1 eZ r hr;unfold zrK at h1;rw[zGO] at h1;have df:p.bef.testBit r.i=false:=by simpa using bZ
      rw[df,xCn] at h1;refine⟨by unfold zJL;rw[xCW,zGO,df];exact⟨hr,rfl⟩,λ _=>?_⟩;split at h1
      ·rename_i v0 ie;rw[ie,(zHN 100).1 _ _ h1]
      ·cases h1) r1 r2 r3
     obtain⟨s',aV,jf⟩:=zEQ hc;have I'':=zE9 R (l1++l2) [] _ _ _ s' (by simpa using I') aV;exact ih (by simpa using I'') jf ig λ st' hm υ a' w'' le' jg ar=>hQ st' (aq _ (g3 _ (lP _ hm))) υ a' w'' (Sg.le_trans le le') jg (hb.trans ar)
    ·rename_i hw;have b9:=zDy (a:=a) (λ d hd=>dG d (by unfold zJi;exact xBB _ hd)) hw;rw[xDN (by rw[b9];simp)];refine⟨λ f _=>hF.fn f,?_⟩;have I':=I.fire R di dW (Sg.le_refl σ) I.H (v:=undef) (v':=undef) (.tuple .nil) (rds':=s.rds) (λ r hr _=>⟨hr,id⟩) r1 r2 r3;obtain⟨s',aV,jf⟩:=zEQ g2;have I'':=zE9 R (l1++l2) [] _ _ _ s' (by simpa using I') aV;exact ih (by simpa using I'') jf ig λ st' hm=>hQ st' (aq _ (g3 _ hm))
    ·cases g2
end Go.AM
namespace Go.AM
open Go Go.Proofs Go.RowKit
variable {E:Env} (hE:zCt E) {lo n:Nat} {F:Fence}
include hE in
theorem zWW{rec:Rec}(ah:RecOps E rec)(hF:FW F){k id:Nat}{ops:Array Oper}{draw:Bool}(ak:fits n (.region id ops draw)=true){Q:Exit->Act->World->Prop}{σ:Sg}{st:St}{a:Act}{w:World}{outs:List St}
  (af:StR n lo σ st a w) (e:evRegion E rec ops.toList draw st=some outs)
  (hQ:∀ st'∈outs,∀ τ a' w',Sg.le σ τ->StR n lo τ st' a' w'->Below lo w w'->Q .normal a' w'):(Code.region id ops draw).wpIn F k E.prog Q a w:=by
 unfold fits at ak;simp only[xAP,xCB] at ak;unfold evRegion at e;split at e
 ·refine wpIn_region ?_;have:=zh6 hE hF ah (k:=k) (all:=ops) ak.1 (Q:=Q) ops.toList 0 rfl af e hQ;rw[List.range_eq_range'];simpa using this
 ·refine wpIn_region_any hE.mixed ?_;have aa:zFF ops.toList (prep 0 [] ops.toList)=true:=by simpa using ak.2
  have R:Reg ops (prep 0 [] ops.toList) n:=⟨λ _ _=>zWj,by rw[zFk];simp,ak.1,aa⟩;obtain⟨s,hs,gU⟩:=zEQ e;have noran:∀ j,¬ Ran (Array.replicate ops.size false) j:=by
   intro j hj;unfold Ran at hj;rw[xAT,Array.getElem?_replicate] at hj;split at hj <;> simp at hj
  have nodone:∀ j,(0:Nat).testBit j=true->False:=λ j hj=>by simp at hj
  have I:DI E n lo ops (prep 0 [] ops.toList) st.T st.defs σ st.T 0 [] ([]++prep 0 [] ops.toList) st.h (Array.replicate ops.size false) a { w with drawn:=w.drawn+1 }:=by
   refine⟨af.H.heap rfl,af.n,af.n,by rw[af.T.size,af.n],by simp,?_,?_,?_,?_,?_,?_,λ _ _=>rfl,?_,λ t _=>af.T.get t,?_,af.D⟩
   ·intro j hj;exact absurd hj (noran j)
   ·intro q _ hr;exact absurd hr (noran _)
   ·intro q _ hd;exact (nodone _ hd).elim
   ·intro p hp;exact⟨by simpa using hp,by simp⟩
   ·simp only[xCa];refine xAe.2 λ i j hi hj eQ dU=>?_;have h1:=(zWj (xAA hi)).i;have h2:=(zWj (xAA hj)).i;rw[dU] at h1;omega
   ·intro p hp _;simpa using hp
   ·intro t q _ _ hr;exact absurd hr (noran _)
   ·intro p _ hd;exact (nodone _ hd).elim
  have I':=zE9 R (prep 0 [] ops.toList) [] _ _ _ s I hs;refine zpY hE hF ah R ops.size (s:=s) (by simpa using I') gU ?_ λ st' hm τ a' w' le aV hb=>hQ st' hm τ a' w' le aV ((zFu w).trans hb);unfold zJf;simp[List.countP_replicate]
inductive ExR:Ex->Exit->Prop
 | normal:ExR .normal .normal
 | exit (id:Nat):ExR (.exit id) (.exit id)
 | ret:ExR .ret .ret
def QE(n lo:Nat)(σ:Sg)(w:World)(outs:List Out)(e:Exit)(a':Act)(w':World):Prop:=
 ∃ o∈outs,ExR o.ex e/\∃ τ,Sg.le σ τ/\StR n lo τ o.st a' w'/\Below lo w w'
theorem QE.sub{σ τ:Sg}{w w₁:World}{os outs:List Out}{e:Exit}{a':Act}{w':World}(h:QE n lo τ w₁ os e a' w')(hs:∀ o∈os,o∈outs)(le:Sg.le σ τ)(hb:Below lo w w₁):QE n lo σ w outs e a' w':=by
 obtain⟨o,h1,h2,υ,h3,h4,h5⟩:=h;exact⟨o,hs o h1,h2,υ,Sg.le_trans le h3,h4,hb.trans h5⟩
def LoopIn(F:Fence)(k:Nat)(P:Program)(c:Code)(Q:Exit->Act->World->Prop)(a:Act)(w:World):Prop:=
 ∀(b:Frame) (i:List Item) (cs:List Frame),b.roundOf=F.round->F.fn b.fn->F.room (cs.length+1+k)->
  ∃ e a' w',Q e a' w'/\ArrivesIn (Machine.fenced P F) P (lone (b.atR a (.inLoop c::i)) cs w) b i cs e a' w'
theorem LoopIn.turn{k:Nat}{P:Program}{c:Code}{Q:Exit->Act->World->Prop}{a:Act}{w:World}(h:c.wpIn F k P (Exit.then (LoopIn F k P c Q) Q) a w) :
  ∀(b:Frame) (i:List Item) (cs:List Frame),b.roundOf=F.round->F.fn b.fn->F.room (cs.length+1+k)->
  ∃ e a' w',Q e a' w'/\ArrivesIn (Machine.fenced P F) P (lone (b.atR a (.code c::.inLoop c::i)) cs w) b i cs e a' w':=by
 intro b i cs eb hb hr;obtain⟨e,a₁,w₁,hq,ay⟩:=h b (.inLoop c::i) cs eb hb hr;cases e with
 | normal=>
  obtain⟨e₂,a₂,w₂,hq₂,harr₂⟩:=hq b i cs eb hb hr;exact⟨e₂,a₂,w₂,hq₂,.of_steps ay harr₂⟩
 | exit id=>exact⟨_,a₁,w₁,hq,.pass (x:=.inLoop c) rfl (λ _ _=>.inl (by simp)) ay⟩
 | goto l=>exact⟨_,a₁,w₁,hq,.pass (x:=.inLoop c) rfl (λ _ _=>.inl (by simp)) ay⟩
 | ret=>exact⟨_,a₁,w₁,hq,.pass (x:=.inLoop c) rfl (λ _ _=>.inl (by simp)) ay⟩
 | panic ch=>exact⟨_,a₁,w₁,hq,.pass (x:=.inLoop c) rfl (λ _ _=>.inl (by simp)) ay⟩
 | outgrown=>exact⟨_,a₁,w₁,hq,.pass (x:=.inLoop c) rfl (λ _ _=>.inl (by simp)) ay⟩
theorem LoopIn.again{k:Nat}{P:Program}{c:Code}{Q:Exit->Act->World->Prop}{a:Act}{w:World}(h:c.wpIn F k P (Exit.then (LoopIn F k P c Q) Q) a w):LoopIn F k P c Q a w:=by
 intro b i cs eb hb hr;obtain⟨e,a',w',hq,ay⟩:=LoopIn.turn h b i cs eb hb hr;exact⟨e,a',w',hq,.of_steps (.one (fenced_calm hb hr rfl) stepR_inLoop) ay⟩
theorem LoopIn.wpIn{k:Nat}{P:Program}{c:Code}{Q:Exit->Act->World->Prop}{a:Act}{w:World}(h:c.wpIn F k P (Exit.then (LoopIn F k P c Q) Q) a w):(Code.loop c).wpIn F k P Q a w:=by
 intro b i cs eb hb hr;obtain⟨e,a',w',hq,ay⟩:=LoopIn.turn h b i cs eb hb hr;exact⟨e,a',w',hq,.of_steps (.one (fenced_calm hb hr rfl) stepR_loop) ay⟩
theorem LoopIn.mono{k:Nat}{P:Program}{c:Code}{Q Q':Exit->Act->World->Prop}{a:Act}{w:World}(h:LoopIn F k P c Q a w)(hq:∀ e a w,Q e a w->Q' e a w):LoopIn F k P c Q' a w:=
 λ b i cs h1 h2 h3=>let ⟨e,a',w',q,r⟩:=h b i cs h1 h2 h3;⟨e,a',w',hq _ _ _ q,r⟩
def FR(σ:Sg)(F:Fence):Option Nat->Prop
 | none=>F=Fence.wide
 | some b=>∃ l,σ b=some l/\F=Fence.wide.inRound l.blk
theorem FR.fw{σ:Sg}{ro:Option Nat}(h:FR σ F ro):FW F:=by
 cases ro with
 | none=>exact .inl h
 | some b=>obtain⟨l,_,h⟩:=h;exact .inr ⟨_,h⟩
theorem FR.mono{σ τ:Sg}(le:Sg.le σ τ){ro:Option Nat}(h:FR σ F ro):FR τ F ro:=by
 cases ro with
 | none=>exact h
 | some b=>obtain⟨l,h1,h2⟩:=h;exact⟨l,le _ _ h1,h2⟩
structure zT1(E:Env)(rec:Rec):Prop extends RecOps E rec where
 loop:∀ {n lo:Nat} {σ:Sg} {F:Fence} {ro:Option Nat} {c:Code} {st:St} {a:Act} {w:World} {outs:List Out},FR σ F ro->fits n c=true->StR n lo σ st a w->rec.loop ro c st=some outs->
  LoopIn F 0 E.prog c (QE n lo σ w outs) a w
section
include hE
theorem zG8{f:FuncId}(h:zDQ E f=true)(args:Array Value)(w:World):(callFunc f args).run E.prog w=.ok (.enter f args) w:=by
 unfold zDQ at h;split at h;rotate_left
 ·cases h
 rename_i g hg;cases hb:g.body with
 | none=>rw[hb] at h;cases h
 | some c=>
 have h1:=(hE.fn f g hg).1;have h2:=hE.name f g c hg hb;unfold callFunc;have h3:¬ g.name="runtime.NumGoroutine":=by simpa using h2
 simp[h1,h3,hb]
theorem zI8{rec:Rec}(ah:RecOps E rec){f:FuncId}(hb:zDQ E f=true){σ:Sg}{h:AH}{w:World}{args args':List Value}{outs:List (Value×AH)}(H:HR lo σ h w)(ha:VRs σ args args')(e:rec.call f args h=some outs) :
  CallsIn Fence.wide 0 E.prog f args'.toArray w (Ret (zFw lo σ w outs)):=by
 have:=ah.call H ha e;rw[zG8 hE hb] at this;exact this
end
theorem zDO{P:Program}{w:World}{k:Nat}{r:Loop}(h:w.heap[k]?=some (.loop r)):(Instr.getLoop k).run P w=.ok r w:=by
 unfold Instr.getLoop;simp[zBH h (by intros;intro h;cases h)]
theorem zGu{P:Program}{σ:Sg}{h h':AH}{w:World}{l:Nat}{loc:Loc}{f:LoopState->Option Code->LoopState×Option Code}(H:HR lo σ h w)(hs:σ l=some loc)(e:zCW l h f=some h') :
  ∃ r:Loop,w.heap[loc.blk]?=some (.loop r)/\(∀ r':Loop,r'={ r with state:=(f r.state r.pending).1,pending:=(f r.state r.pending).2 }->(setObj loc.blk (.loop r')).run P w=.ok () (World.put w loc.blk (.loop r'))/\HR lo σ h' (World.put w loc.blk (.loop r'))/\Below lo w (World.put w loc.blk (.loop r'))):=by
 unfold zCW at e;split at e;rotate_left
 ·cases e
 rename_i st pend T ps aas body d hl;cases e;obtain⟨l',a1,gq,a3⟩:=H.live l _ hl;rw[hs] at a1;cases a1;obtain⟨r,r1,r2,r3,r4,r5,r6,r7,r8,r9,r10⟩:=gq;have ab:=zAd r1;refine⟨r,r1,λ r' cu=>⟨zFB _ r1 (by intros;intro h;cases h),H.upd _ hl hs rfl (λ _ _ h=>by cases h) ?_,zEy _ (a3 rfl)⟩⟩;subst cu;refine⟨{ r with state:=(f r.state r.pending).1,pending:=(f r.state r.pending).2 },by rw[World.put_get ab,xDO rfl],?_,?_,r4,r5,r6,r7,r8,r9,r10⟩
 ·simp only[r2,r3]
 ·simp only[r2,r3]
end Go.AM
namespace Go.AM
open Go Go.Proofs Go.RowKit
variable {E:Env} (hE:zCt E) {lo n:Nat} {F:Fence}
theorem zS6{σ:Sg}{h:AH}{w:World}{T:Tm}{ps:List Tmp}{aas body:Code}{d:Nat}{r:Loop}(H:HR lo σ h w)(hT:TmR σ T r.tmps)(h1:fits T.n aas=true)(h2:fits T.n body=true)(h3:ps.all (λ d=>Nat.ble (d+1) T.n)=true)
  (r1:r.state=.ready) (r2:r.pending=none) (r3:r.params.toList=ps) (r4:r.assign=aas) (r5:r.body=body) :
  HR lo (σ.ext h.qa ⟨w.heap.size,0,0,0⟩) (h.new (.loop .ready none T ps aas body d)) (w.alloc (.loop r))/\Sg.le σ (σ.ext h.qa ⟨w.heap.size,0,0,0⟩)/\Below lo w (w.alloc (.loop r)):=by
 have le:Sg.le σ (σ.ext h.qa ⟨w.heap.size,0,0,0⟩):=Sg.le_ext H.free;exact⟨H.new _ _ _ rfl ⟨r,by rw[zBI,xDO rfl],r1,r2,r3,r4,r5,hT.mono le,h1,h2,h3⟩,le,zDb w _ H.lo⟩
theorem zS7{σ:Sg}{h:AH}{w:World}(H:HR lo σ h w) :
  HR lo (σ.ext h.qa ⟨w.heap.size,0,0,0⟩) (h.new .defd) (w.alloc (.deferred (some [])))/\Sg.le σ (σ.ext h.qa ⟨w.heap.size,0,0,0⟩)/\Below lo w (w.alloc (.deferred (some []))):=by
 have le:Sg.le σ (σ.ext h.qa ⟨w.heap.size,0,0,0⟩):=Sg.le_ext H.free;refine⟨H.new _ _ _ rfl ?_,le,zDb w _ H.lo⟩;show (w.alloc _).heap[_]?=_;rw[zBI,xDO rfl]
theorem zo2{P:Program}{Q:Exit->Act->World->Prop}{jump:Option Code}{ex:Ex}{a':Act}{w₄:World}:zRI jump=some ex->(∀ e,ExR ex e->Q e a' w₄)->
  (match jump with|none=>Q .normal a' w₄|some c=>c.wpIn F 0 P Q a' w₄):=by
 intro hex hN;unfold zRI at hex;split at hex
 ·cases hex;exact hN _ .normal
 ·cases hex;exact wpIn_ret (hN _ .ret)
 ·cases hex;exact wpIn_exit (hN _ (.exit _))
 ·cases hex
theorem zP1{P:Program}{σ:Sg}{h:AH}{w:World}{l:Nat}{loc:Loc}{T:Tm}{defs:List Nat}{outs:List Out}{a':Act}(H:HR lo σ h w)(hs:σ l=some loc)(hT:TmR σ T a'.tmps)(hn:T.n=n)(hD:DefsR σ defs a'.defers)
  (e:zBi l T defs h=some outs) {Q:Exit->Act->World->Prop} (hQ:∀ e w',QE n lo σ w outs e a' w'->Q e a' w') :
  ∃ jump w₄,(Instr.endLoop loc.blk).run P w=.ok jump w₄/\(match jump with|none=>Q .normal a' w₄|some c=>c.wpIn F 0 P Q a' w₄):=by
 unfold zBi at e;split at e;rotate_left
 ·cases e
 rename_i st pend T' ps aas body d hl;cases hb:znH st with
 | true=>rw[hb] at e;cases e
 | false=>
 rw[hb] at e;simp only[xAH] at e;unfold zHE at e;split at e;rotate_left
 ·cases e
 rename_i ex hex;simp only[one,xAN] at e;subst e;obtain⟨r,r1,r2⟩:=zGu (P:=P) (h':=h.upd l (some (.loop .exhausted pend T' ps aas body d))) (f:=λ _ p=>(.exhausted,p)) H hs (by unfold zCW;rw[hl]);obtain⟨l',a1,gq,_⟩:=H.live l _ hl;rw[hs] at a1;cases a1;obtain⟨r',q1,q2,q3,_⟩:=gq;rw[r1] at q1;cases q1;obtain⟨k1,k2,k3⟩:=r2 _ rfl;have k1':(setObj loc.blk (.loop { r with state:=.exhausted })).run P w=.ok () (World.put w loc.blk (.loop { r with state:=.exhausted,pending:=r.pending })):=k1;refine⟨r.pending,World.put w loc.blk (.loop { r with state:=.exhausted,pending:=r.pending }),?_,?_⟩
 ·unfold Instr.endLoop;have bZ:(r.state==LoopState.busy)=false:=by rw[q2];cases st <;> first|rfl|cases hb
  have im:¬ r.state=LoopState.busy:=by rw[q2];intro hh;subst hh;cases hb
  simp[xCs,zDO r1,xBj,bZ,im,k1']
 ·have af:StR n lo σ ⟨T,h.upd l (some (.loop .exhausted pend T' ps aas body d)),defs⟩ a' (World.put w loc.blk (.loop { r with state:=.exhausted,pending:=r.pending })):=⟨hT,k2,hD,hn⟩;have hexr:zRI r.pending=some ex:=by rw[q3];exact hex
  exact zo2 hexr λ e he=>hQ _ _ ⟨_,xBV.2 rfl,he,σ,Sg.le_refl σ,af,k3⟩
include hE in
theorem zMi{rec:Rec}(ah:RecOps E rec){σ:Sg}{ro:Option Nat}(bV:FR σ F ro){g:Operand}{ps:Array Tmp}{aas body:Code}{st:St}{a:Act}{w:World}{outs:List Out}
  (ak:fits n (.rangeFunc g ps aas body)=true) (af:StR n lo σ st a w) (e:evRange E rec ro (zAj st.T g) ps.toList aas body st=some outs):(Code.rangeFunc g ps aas body).wpIn F 0 E.prog (QE n lo σ w outs) a w:=by
 unfold fits at ak;simp only[xAP] at ak;obtain⟨⟨f1,f2⟩,f3⟩:=ak;unfold evRange at e;split at e;rotate_left
 ·cases e
 rename_i f fs cs hg;cases dK:zDQ E f with
 | false=>rw[dK] at e;cases e
 | true=>
 rw[dK] at e;simp only[xAG] at e;have hv:=zAF (af.T.ops [g]) (by simp) hg;generalize hgq:a.eval g=gv at hv;cases hv with
 | func _ hfs aT=>
 rename_i fs' cs';have main:∀ {σ₁:Sg} {h₁:AH} {w₁:World} {T:Tm} {defs:List Nat} {d:Nat} {mark:List Deferred} {r:Loop},HR lo σ₁ h₁ w₁->Sg.le σ σ₁->Below lo w w₁->T=st.T->r.tmps=a.tmps->r.state=.ready->r.pending=none->r.params=ps->r.assign=aas->r.body=body->
   DefsR σ₁ defs (mark++a.defers)->zB5 rec f fs.toList cs.toList ps.toList aas body d defs T h₁=some outs->
   ∃(dd:Deferred) (w₁':World) (f':FuncId) (args:Array Value) (w₂:World),(resolve a.eval (rangeCall g w₁.heap.size) 0).run E.prog (w₁.alloc (.loop r))=.ok dd w₁'/\(∀ f',Target.leads E.prog w₁' dd.target dd.args=some f'->F.fn f') ∧
    (invoke dd.target dd.args).run E.prog w₁'=.ok (.enter f' args) w₂/\CallsIn F 0 E.prog f' args w₂ (rangePost F 0 E.prog w₁.heap.size (QE n lo σ w outs) { a with defers:=mark++a.defers }):=by
  intro σ₁ h₁ w₁ T defs d mark r H₁ le₁ hb₁ hT fy fv hr3 hr4 hr5 hr6 hD e;subst hT;obtain⟨k1,k2,k3⟩:=zS6 (d:=d) (r:=r) H₁ (T:=st.T) (by rw[fy];exact af.T.mono le₁) (by rw[af.n];exact f2) (by rw[af.n];exact f3) (by rw[af.n];exact f1) fv hr3 (by rw[hr4]) hr5 hr6;unfold zB5 at e;obtain⟨xs,hx,az⟩:=zAi e;have hyl:VRs (σ₁.ext h₁.qa ⟨w₁.heap.size,0,0,0⟩) [.func (.yield h₁.qa) #[] #[]] [.func (.yield w₁.heap.size) #[] #[]]:=
   .cons (.yield (l:=⟨w₁.heap.size,0,0,0⟩) (Sg.ext_self ..) .nil .nil) .nil
  have ao:=((VRs.mono (Sg.le_trans le₁ k2) hfs).append hyl).append (VRs.mono (Sg.le_trans le₁ k2) aT);have bT:=zI8 hE ah dK k1 ao hx;refine⟨{ target:=.fn (.func f) cs',args:=fs'++#[.func (.yield w₁.heap.size) #[] #[]] },w₁.alloc (.loop r),f,_,w₁.alloc (.loop r),?_,λ _ _=>bV.fw.fn _,?_,bV.fw.calls (n:=0) (CallsIn.mono bT λ en w₃ hen=>?_)⟩
  ·simp only[resolve];rw[hgq];simp[Deferred.ofValue,Act.eval]
  ·simp only[invoke];rw[zG8 hE dK]
   congr 2
   apply xDH;simp
  ·cases en with
   | panicked ch=>exact hen.elim
   | outgrown=>exact hen.elim
   | returned v=>
    obtain⟨x,dZ,τ,le,hr,_,hb⟩:=hen;obtain⟨os,ho,aq⟩:=az x dZ;exact zP1 (F:=F) (P:=E.prog) (a':={ a with defers:=mark++a.defers }) hr (le _ _ (Sg.ext_self ..)) (af.T.mono (Sg.le_trans le₁ (Sg.le_trans k2 le))) af.n (hD.mono (Sg.le_trans k2 le)) ho
     λ e' w' hq=>hq.sub aq (Sg.le_trans le₁ (Sg.le_trans k2 le)) (hb₁.trans (k3.trans hb))
 refine wpIn_rangeFunc λ fn _=>?_;cases ro with
 | none=>
  have hF:F=Fence.wide:=bV;obtain⟨q1,q2,q3⟩:=zS7 af.H;obtain⟨dd,w₁',f',args,w₂,m1,m2,m3,m4⟩:=main (mark:=[{ target:=.collected w.heap.size,args:=#[] }]) (r:={ state:=.ready,pending:=none,fn,tmps:=a.tmps,params:=ps,assign:=aas,body,defers:=w.heap.size }) q1 q2 q3 rfl rfl rfl rfl rfl rfl rfl
   (.cons (l:=⟨w.heap.size,0,0,0⟩) (Sg.ext_self ..) (af.D.mono q2)) e
  refine⟨_,[{ target:=.collected w.heap.size,args:=#[] }],_,dd,w₁',f',args,w₂,?_,m1,m2,m3,λ h=>absurd h bV.fw.depth,m4⟩;subst hF;simp[Instr.enterLoop,Fence.wide]
 | some b=>
  cases jx:zXV b st.h with
  | false=>simp only[jx] at e;cases e
  | true=>
  simp only[jx,xAG] at e;obtain⟨l,hσ,hF⟩:=bV;have kU:∃ r0:Loop,w.heap[l.blk]?=some (.loop r0):=by
   unfold zXV at jx;split at jx
   ·rename_i hl;obtain⟨l',a1,gq,_⟩:=af.H.live b _ hl;rw[hσ] at a1;cases a1;obtain⟨r0,r1,_⟩:=gq;exact⟨r0,r1⟩
   ·cases jx
  obtain⟨r0,hr0⟩:=kU;obtain⟨dd,w₁',f',args,w₂,m1,m2,m3,m4⟩:=main (mark:=[]) (r:={ state:=.ready,pending:=none,fn,tmps:=a.tmps,params:=ps,assign:=aas,body,defers:=r0.defers }) af.H (Sg.le_refl σ) (Below.refl _ _) rfl rfl rfl rfl rfl rfl rfl (by simpa using af.D) e;refine⟨_,[],_,dd,w₁',f',args,w₂,?_,m1,m2,m3,λ h=>absurd h (FR.fw (σ:=σ) (ro:=some b) ⟨l,hσ,hF⟩).depth,m4⟩;subst hF;simp[Instr.enterLoop,Fence.inRound,zDO hr0]
include hE in
theorem zFd{rec:Rec}(ah:zT1 E rec){ro:Option Nat}:∀(c:Code) {σ:Sg} {st:St} {a:Act} {w:World} {outs:List Out},FR σ F ro->fits n c=true->StR n lo σ st a w->evC E rec ro c st=some outs->
  c.wpIn F 0 E.prog (QE n lo σ w outs) a w
 | .skip,σ,st,a,w,outs,bV,ak,af,e=>by
  simp only[evC,outOf,one,xAN] at e;subst e;exact wpIn_skip ⟨_,xBV.2 rfl,.normal,σ,Sg.le_refl σ,af,Below.refl _ _⟩
 | .label l,σ,st,a,w,outs,bV,ak,af,e=>by
  simp only[evC,outOf,one,xAN] at e;subst e;exact wpIn_label ⟨_,xBV.2 rfl,.normal,σ,Sg.le_refl σ,af,Below.refl _ _⟩
 | .exit id,σ,st,a,w,outs,bV,ak,af,e=>by
  simp only[evC,one,xAN] at e;subst e;exact wpIn_exit ⟨_,xBV.2 rfl,.exit id,σ,Sg.le_refl σ,af,Below.refl _ _⟩
 | .ret,σ,st,a,w,outs,bV,ak,af,e=>by
  simp only[evC,one,xAN] at e;subst e;exact wpIn_ret ⟨_,xBV.2 rfl,.ret,σ,Sg.le_refl σ,af,Below.refl _ _⟩
 | .region id ops d,σ,st,a,w,outs,bV,ak,af,e=>by
  simp only[evC] at e;obtain⟨xs,hx,az⟩:=zAi e;refine zWW hE ah.toRecOps bV.fw ak af hx λ st' hm τ a' w' le hs hb=>?_;obtain⟨os,ho,aq⟩:=az st' hm;simp only[outOf,one,xAN] at ho;subst ho;exact⟨⟨.normal,st'⟩,aq _ (xBV.2 rfl),.normal,τ,le,hs,hb⟩
 | .seq x y,σ,st,a,w,outs,bV,ak,af,e=>by
  simp only[evC] at e;unfold fits at ak;simp only[xAP] at ak;obtain⟨xs,hx,az⟩:=zAi e;refine wpIn_seq (wpIn_mono (zFd ah x bV ak.1 af hx) λ e' a' w' hq=>?_);obtain⟨o,hm,hex,τ,le,hs,hb⟩:=hq;obtain⟨os,ho,aq⟩:=az o hm;obtain⟨ex,st'⟩:=o;simp only at hex;unfold thenC at ho;cases hex with
  | normal=>exact wpIn_mono (zFd ah y (bV.mono le) ak.2 hs ho) λ e₂ a₂ w₂ hq₂=>hq₂.sub aq le hb
  | exit id=>simp only[one,xAN] at ho;subst ho;exact⟨_,aq _ (xBV.2 rfl),.exit id,τ,le,hs,hb⟩
  | ret=>simp only[one,xAN] at ho;subst ho;exact⟨_,aq _ (xBV.2 rfl),.ret,τ,le,hs,hb⟩
 | .cond c x y,σ,st,a,w,outs,bV,ak,af,e=>by
  simp only[evC] at e;unfold fits at ak;simp only[xAP] at ak;unfold zX0 at e;split at e;rotate_left
  ·cases e
  rename_i b hc;have hv:=zAF (af.T.ops [c]) (by simp) hc;generalize hq:a.eval c=cv at hv;cases hv;cases b with
  | true=>exact wpIn_cond_true hq (zFd ah x bV ak.1 af e)
  | false=>exact wpIn_cond_false hq (zFd ah y bV ak.2 af e)
 | .block id c,σ,st,a,w,outs,bV,ak,af,e=>by
  simp only[evC] at e;unfold fits at ak;obtain⟨xs,hx,az⟩:=zAi e;refine wpIn_block (wpIn_mono (zFd ah c bV ak af hx) λ e' a' w' hq=>?_);obtain⟨o,hm,hex,τ,le,hs,hb⟩:=hq;obtain⟨os,ho,aq⟩:=az o hm;obtain⟨ex,st'⟩:=o;simp only at hex;unfold zDo at ho;cases hex with
  | normal=>simp only[one,xAN] at ho;subst ho;exact⟨_,aq _ (xBV.2 rfl),.normal,τ,le,hs,hb⟩
  | exit id'=>
   simp only[Exit.inBlock];by_cases hid:id'=id
   ·rw[xDO hid];subst hid;simp only[xCp,xAG,one,xAN] at ho;subst ho;exact⟨_,aq _ (xBV.2 rfl),.normal,τ,le,hs,hb⟩
   ·rw[xDN hid];simp only[zBw hid,xAH,one,xAN] at ho;subst ho;exact⟨_,aq _ (xBV.2 rfl),.exit id',τ,le,hs,hb⟩
  | ret=>simp only[one,xAN] at ho;subst ho;exact⟨_,aq _ (xBV.2 rfl),.ret,τ,le,hs,hb⟩
 | .loop c,σ,st,a,w,outs,bV,ak,af,e=>by
  simp only[evC] at e;unfold fits at ak;obtain⟨xs,hx,az⟩:=zAi e;refine LoopIn.wpIn (wpIn_mono (zFd ah c bV ak af hx) λ e' a' w' hq=>?_);obtain⟨o,hm,hex,τ,le,hs,hb⟩:=hq;obtain⟨os,ho,aq⟩:=az o hm;obtain⟨ex,st'⟩:=o;simp only at hex;unfold thenC at ho;cases hex with
  | normal=>exact LoopIn.mono (ah.loop (bV.mono le) ak hs ho) λ e₂ a₂ w₂ hq₂=>hq₂.sub aq le hb
  | exit id=>simp only[one,xAN] at ho;subst ho;exact⟨_,aq _ (xBV.2 rfl),.exit id,τ,le,hs,hb⟩
  | ret=>simp only[one,xAN] at ho;subst ho;exact⟨_,aq _ (xBV.2 rfl),.ret,τ,le,hs,hb⟩
 | .rangeFunc g ps aas body,σ,st,a,w,outs,bV,ak,af,e=>by
  simp only[evC] at e;exact zMi hE ah.toRecOps bV ak af e
 | .scope c,σ,st,a,w,outs,bV,ak,af,e=>by simp[evC] at e
 | .goto l,σ,st,a,w,outs,bV,ak,af,e=>by simp[evC] at e
 | .refuse s,σ,st,a,w,outs,bV,ak,af,e=>by simp[evC] at e
include hE in
theorem zPR{rec:Rec}(ah:zT1 E rec){ro:Option Nat}{c:Code}{σ:Sg}{st:St}{a:Act}{w:World}{outs:List Out}(bV:FR σ F ro)(ak:fits n c=true)(af:StR n lo σ st a w)(e:loopCall E rec ro c st=some outs) :
  LoopIn F 0 E.prog c (QE n lo σ w outs) a w:=by
 unfold loopCall at e;obtain⟨xs,hx,az⟩:=zAi e;refine LoopIn.again (wpIn_mono (zFd hE ah c bV ak af hx) λ e' a' w' hq=>?_);obtain⟨o,hm,hex,τ,le,hs,hb⟩:=hq;obtain⟨os,ho,aq⟩:=az o hm;obtain⟨ex,st'⟩:=o;simp only at hex;unfold thenC at ho;cases hex with
 | normal=>exact LoopIn.mono (ah.loop (bV.mono le) ak hs ho) λ e₂ a₂ w₂ hq₂=>hq₂.sub aq le hb
 | exit id=>simp only[one,xAN] at ho;subst ho;exact⟨_,aq _ (xBV.2 rfl),.exit id,τ,le,hs,hb⟩
 | ret=>simp only[one,xAN] at ho;subst ho;exact⟨_,aq _ (xBV.2 rfl),.ret,τ,le,hs,hb⟩
end Go.AM
namespace Go.AM
open Go Go.Proofs Go.RowKit
variable {E:Env}
structure Fr(h h':AH):Prop where
 qa:h.qa<=h'.qa
 wm:h'.wm<=h.wm
 get:∀ b,b<h.qa->b<h'.wm->h'.get b=h.get b
theorem Fr.refl(h:AH):Fr h h:=⟨xAF _,xAF _,λ _ _ _=>rfl⟩
theorem Fr.trans{h h' h'':AH}(a:Fr h h')(b:Fr h' h''):Fr h h'':=
 ⟨xCx a.qa b.qa,xCx b.wm a.wm,λ c hc hw=>(b.get c (xAC hc a.qa) hw).trans (a.get c hc (xAC hw b.wm))⟩
theorem Fr.new(h:AH)(o:AObj):Fr h (h.new o):=⟨by simp,xAF _,λ b hb _=>by rw[AH.get_new,xDN (by omega)]⟩
theorem zBr(h:AH)(b:Nat)(o:Option AObj):(h.upd b o).wm<=h.wm/\(h.upd b o).wm<=b:=by
 unfold AH.upd;cases hb:Nat.ble h.wm b with
 | true=>simp only[xAG];exact⟨xAF _,ble_true.1 hb⟩
 | false=>simp only[xAH];rw[ble_false] at hb;omega
theorem Fr.upd(h:AH)(b:Nat)(o:Option AObj):Fr h (h.upd b o):=
 ⟨xAF _,(zBr h b o).1,λ c _ hw=>by rw[AH.get_upd,xDN];have:=(zBr h b o).2;omega⟩
theorem zAa{α:Type}{b:Bool}{x:Option α}{z:α}(h:cond b x none=some z):x=some z:=by
 cases b with
 | true=>exact h
 | false=>cases h
theorem zWB{t:TypeId}{v x:Value}{h h':AH}(e:zJy E t v x h=some h'):Fr h h':=by
 unfold zJy at e;split at e
 ·split at e
  ·simp only at e;split at e
   ·split at e
    ·cases e;exact Fr.upd ..
    ·cases e
   ·cases e
  ·cases e
 ·cases e
theorem zGL{t:TypeId}{m k v:Value}{h h':AH}(e:zA8 E t m k v h=some h'):Fr h h':=by
 unfold zA8 at e;split at e
 ·split at e
  ·have e:=zAa e;split at e
   ·cases e;exact Fr.upd ..
   ·cases e
  ·cases e
 ·cases e
theorem zE2{el:TypeId}{size n:Nat}{cs:List Value}{h:AH}{x:Value×AH}(e:zA2 el size n cs h=some x):Fr h x.2:=by
 unfold zA2 at e;have e:=zAa e;cases e;exact Fr.new ..
theorem zJJ{b o len n cap at_:Nat}{cs vs:List Value}{ty:TypeId}{es:Nat}{h:AH}{x:Value×AH}(e:zFR b o len n cap at_ cs vs ty es h=some x):Fr h x.2:=by
 unfold zFR at e;have e:=zAa e;cases e;exact Fr.upd ..
theorem zAv{α:Type}{b:Bool}{x y z:α}(h:cond b x y=z):(b=true/\x=z)\/(b=false/\y=z):=by
 cases b with
 | true=>exact .inl ⟨rfl,h⟩
 | false=>exact .inr ⟨rfl,h⟩
theorem zNc{b o len cap:Nat}{el:TypeId}{size n:Nat}{cs vs:List Value}{ty:TypeId}{es:Nat}{h:AH}{x:Value×AH}(e:zED b o len cap el size n cs vs ty es h=some x):Fr h x.2:=by
 unfold zED at e;rcases zAv e with ⟨_,e⟩|⟨_,e⟩
 ·exact zJJ e
 ·have e:=zAa e;unfold zEE at e;have e:=zAa e;exact (Fr.upd _ _ _).trans (zE2 e)
theorem zNd{b o len cap:Nat}{el:TypeId}{size n:Nat}{cs vs:List Value}{ty:TypeId}{es:Nat}{ro:Bool}{h:AH}{x:Value×AH}(e:zCs b o len cap el size n cs vs ty es ro h=some x):Fr h x.2:=by
 unfold zCs at e;split at e
 ·exact zNc (zAa e)
 ·rcases zAv e with ⟨_,e⟩|⟨_,e⟩
  ·rcases zAv e with ⟨_,e⟩|⟨_,e⟩
   ·cases e
   ·exact zJJ e
  ·exact zE2 (zAa e)
theorem zQV{el:TypeId}{size n:Nat}{s:Value}{cs:List Value}{h:AH}{x:Value×AH}(e:zBj el size s n cs h=some x):Fr h x.2:=by
 unfold zBj at e;split at e
 ·rcases zAv e with ⟨_,e⟩|⟨_,e⟩
  ·cases e;exact Fr.refl _
  ·exact zE2 e
 ·rcases zAv e with ⟨_,e⟩|⟨_,e⟩
  ·have e:=zAa e;cases e;exact Fr.refl _
  ·split at e
   ·exact zNd e
   ·cases e
 ·cases e
theorem zTy{ts:List TypeId}{s y:Value}{h:AH}{x:Value×AH}(e:zBD E ts s y h=some x):Fr h x.2:=by
 unfold zBD at e;split at e
 ·split at e
  ·rcases zAv e with ⟨_,e⟩|⟨_,e⟩
   ·cases e
   ·split at e
    ·unfold zCQ at e;split at e
     ·exact zQV (zAa e)
     ·cases e
    ·cases e
  ·cases e
 ·cases e
def zCT(h:AH)(outs:List (Value×AH)):Prop:=∀ x∈outs,Fr h x.2
theorem zDw{h h':AH}{v:Value}(H:Fr h h'):zCT h [(v,h')]:=λ x hx=>by simp at hx;subst hx;exact H
theorem zAk{α:Type}{a:α}{l:List α}(h:one a=some l):l=[a]:=by unfold one at h;cases h;rfl
theorem zJs{t:TypeId}{z:Option Value}{h:AH}{outs:List (Value×AH)}(e:zAm t h z=some outs):zCT h outs:=by
 unfold zAm at e;split at e
 ·rw[zAk e];exact zDw (Fr.new ..)
 ·cases e
theorem zoI{x:Option AH}{h:AH}{outs:List (Value×AH)}(e:u1 x=some outs)(H:∀ h',x=some h'->Fr h h'):zCT h outs:=by
 unfold u1 at e;split at e
 ·rw[zAk e];exact zDw (H _ rfl)
 ·cases e
theorem zO9{b:Builtin}{c:Call}{vs:List Value}{h:AH}{outs:List (Value×AH)}(e:zE8 E b c vs h=some outs):zCT h outs:=by
 unfold zE8 at e;split at e
 ·unfold v2 at e;split at e
  ·rename_i r hr;rw[zAk e];intro x hx;simp at hx;subst hx;exact zTy hr
  ·cases e
 ·unfold zIM at e;split at e
  ·rw[zAk e];exact zDw (Fr.refl _)
  ·rcases zAv e with ⟨_,e⟩|⟨_,e⟩
   ·rw[zAk e];exact zDw (Fr.refl _)
   ·unfold zIE at e;split at e
    ·rw[zAk (zAa e)];exact zDw (Fr.upd ..)
    ·cases e
  ·cases e
 ·unfold zVv at e;split at e
  ·split at e
   ·split at e
    ·unfold zP8 at e;split at e
     ·rw[zAk (zAa e)];exact zDw (Fr.upd ..)
     ·cases e
    ·cases e
   ·cases e
  ·cases e
 ·unfold zCB at e;split at e
  ·unfold zoE at e;split at e
   ·split at e
    ·rw[zAk (zAa e)];exact zDw (Fr.upd ..)
    ·cases e
   ·cases e
  ·cases e
 ·cases e
theorem zhN{s:Bool}{x:Option Value}{h:AH}{outs:List (Value×AH)}(e:zDs s x h=some outs):zCT h outs:=by
 unfold zDs at e;split at e
 ·unfold zWs at e;split at e
  ·split at e
   ·rw[zAk e];exact zDw (Fr.refl _)
   ·split at e
    ·split at e
     ·cases e
     ·split at e
      ·rw[zAk e];exact zDw (Fr.refl _)
      ·cases e;intro x hx;obtain⟨⟨p,q⟩,_,rfl⟩:=xCv.1 hx;exact Fr.upd ..
    ·cases e
   ·cases e
  ·cases e
 ·cases e
structure zFW(rec:Rec):Prop where
 call:∀ {f:FuncId} {args:List Value} {h:AH} {outs:List (Value×AH)},rec.call f args h=some outs->zCT h outs
 round:∀ {l:Nat} {args:List Value} {h:AH} {outs:List (Value×AH)},rec.round l args h=some outs->zCT h outs
 loop:∀ {ro:Option Nat} {c:Code} {st:St} {outs:List Out},rec.loop ro c st=some outs->∀ o∈outs,Fr st.h o.st.h
theorem zKj{rec:Rec}(ah:zFW rec){T:Tm}{o:Oper}{h:AH}{outs:List (Value×AH)}(e:evWrite E rec T o h=some outs):zCT h outs:=by
 unfold evWrite at e;split at e
 ·exact zJs e
 ·exact zJs e
 ·unfold zAM at e;split at e
  ·exact zoI e λ _=>zWB
  ·cases e
 ·unfold zg at e;split at e
  ·split at e
   ·split at e
    ·rw[zAk (zAa e)];exact zDw (Fr.new ..)
    ·cases e
   ·cases e
  ·cases e
 ·rw[zAk e];exact zDw (Fr.new ..)
 ·unfold zAG at e;split at e
  ·split at e
   ·split at e
    ·rw[zAk (zAa e)];exact zDw (Fr.new ..)
    ·cases e
   ·cases e
  ·cases e
 ·unfold zu at e;split at e
  ·exact zoI e λ _=>zGL
  ·cases e
 ·unfold zu at e;split at e
  ·exact zoI e λ _=>zGL
  ·cases e
 ·split at e
  ·unfold zCk at e;split at e
   ·rw[zAk e];exact zDw (Fr.new ..)
   ·split at e
    ·rw[zAk e];exact zDw (Fr.new ..)
    ·cases e
   ·cases e
  ·cases e
 ·exact zhN e
 ·unfold wCall at e;split at e
  ·split at e
   ·exact zO9 e
   ·cases e
  ·unfold zAs at e;split at e
   ·unfold callFn at e;split at e
    ·exact ah.call e
    ·exact ah.round e
    ·cases e
   ·cases e
  ·cases e
 ·cases e
theorem zpM{rec:Rec}(ah:zFW rec){T:Tm}{o:Oper}{h:AH}{outs:List (Value×AH)}(e:evOp E rec T o h=some outs):zCT h outs:=by
 unfold evOp at e;split at e
 ·obtain⟨v,_,rfl⟩:=zGn e;exact zDw (Fr.refl _)
 ·obtain⟨v,_,rfl⟩:=zGn e;exact zDw (Fr.refl _)
 ·exact zKj ah e
theorem zNY{α β:Type}{f:α->R β}{p:α->Prop}{q:β->Prop}(hf:∀ a bs,p a->f a=some bs->∀ b∈bs,q b):∀ {l:List α} {bs:List β},(∀ a∈l,p a)->bindL f l=some bs->∀ b∈bs,q b
 | [],bs,_,h,b,hb=>by simp only[bindL,xAN] at h;subst h;cases hb
 | a::aas,bs,hp,h,b,hb=>by
  simp only[bindL] at h;split at h
  ·cases h
  ·rename_i xs h1;split at h
   ·cases h
   ·rename_i ys h2;cases h;rcases xCU.1 hb with hb|hb
    ·exact hf a xs (hp a (by simp)) h1 b hb
    ·exact zNY hf (λ c hc=>hp c (by simp[hc])) h2 b hb
theorem zA3{α β:Type}{x:R α}{f:α->R β}{p:α->Prop}{q:β->Prop}{bs:List β}(h:R.andThen x f=some bs)(hx:∀ l,x=some l->∀ a∈l,p a)(hf:∀ a bs,p a->f a=some bs->∀ b∈bs,q b):∀ b∈bs,q b:=by
 unfold R.andThen at h;split at h
 ·cases h
 ·rename_i a;exact hf a bs (hx _ rfl a (by simp)) h
 ·rename_i l _;exact zNY hf (hx _ rfl) h
theorem zLt{rec:Rec}(ah:zFW rec){all:List Oper}:∀(rest:List Oper) (st:St) (outs:List St),evOps E rec all rest st=some outs->∀ o∈outs,Fr st.h o.h
 | [],st,outs,e=>by
  simp only[evOps] at e;rw[zAk e];intro o ho;simp at ho;subst ho;exact Fr.refl _
 | o::rest,st,outs,e=>by
  simp only[evOps] at e;split at e
  ·exact zA3 e (λ l hl=>zpM ah hl) λ x bs hx hb b bj=>hx.trans (zLt ah rest _ _ hb b bj)
  ·exact zLt ah rest ⟨putDst st.T o.dst undef,st.h,st.defs⟩ _ e
  ·cases e
theorem zLm{rec:Rec}(ah:zFW rec){all:List Oper}{k:DK}{T:Tm}{done:Nat}{rds:List Rd}{h:AH}(hk:∀ T done rds rest h outs,k T done rds rest h=some outs->∀ o∈outs,Fr h o.h):∀(xs pre:List PO) (outs:List St),
  fires E rec all k T done rds h pre xs=some outs->∀ o∈outs,Fr h o.h
 | [],pre,outs,e=>by simp only[fires,xAN] at e;subst e;intro o ho;cases ho
 | p::xs,pre,outs,e=>by
  simp only[fires] at e;rcases zAv e with ⟨_,e⟩|⟨_,e⟩
  ·obtain⟨aas,bs,e1,e2,rfl⟩:=zKa e;intro o ho;rcases xCU.1 ho with ho|ho
   ·unfold fire at e1;split at e1
    ·refine zA3 (q:=λ o=>Fr h o.h) e1 (λ l hl=>zKj ah hl) (λ x bs hx hb b bj=>?_) o ho;unfold zXo at hb;exact hx.trans (hk _ _ _ _ _ _ (zAa hb) b bj)
    ·exact hk _ _ _ _ _ _ e1 o ho
    ·cases e1
   ·exact zLm ah hk xs _ bs e2 o ho
  ·exact zLm ah hk xs _ outs e
theorem zKm{rec:Rec}(ah:zFW rec){all:List Oper}{defs:List Nat}:∀(f:Nat) (T:Tm) (done:Nat) (rds:List Rd) (rest:List PO) (h:AH) (outs:List St),drawRun E rec all defs f T done rds rest h=some outs->∀ o∈outs,Fr h o.h
 | 0,T,done,rds,rest,h,outs,e=>by simp[drawRun] at e
 | f+1,T,done,rds,rest,h,outs,e=>by
  simp only[drawRun] at e;split at e
  ·cases e
  ·split at e
   ·rw[zAk e];intro o ho;simp at ho;subst ho;exact Fr.refl _
   ·unfold zMV at e;split at e
    ·rename_i o os ho;cases e;exact zLm ah (zKm ah f) _ _ _ ho
    ·cases e
theorem zPx{rec:Rec}(ah:zFW rec){ops:List Oper}{draw:Bool}{st:St}{outs:List St}(e:evRegion E rec ops draw st=some outs):∀ o∈outs,Fr st.h o.h:=by
 unfold evRegion at e;split at e
 ·exact zLt ah _ _ _ e
 ·exact zKm ah _ _ _ _ _ _ _ e
theorem zP2{l:Nat}{T:Tm}{defs:List Nat}{h:AH}{outs:List Out}(e:zBi l T defs h=some outs):∀ o∈outs,Fr h o.st.h:=by
 unfold zBi at e;split at e
 ·rcases zAv e with ⟨_,e⟩|⟨_,e⟩
  ·cases e
  ·unfold zHE at e;split at e
   ·rw[zAk e];intro o ho;simp at ho;subst ho;exact Fr.upd ..
   ·cases e
 ·cases e
theorem zF7{rec:Rec}(ah:zFW rec){f:FuncId}{fs cs:List Value}{ps:List Tmp}{aas body:Code}{d:Nat}{defs:List Nat}{T:Tm}{h:AH}{outs:List Out}(e:zB5 rec f fs cs ps aas body d defs T h=some outs):∀ o∈outs,Fr h o.st.h:=by
 unfold zB5 at e;exact zA3 e (λ l hl=>ah.call hl) λ x bs hx hb b bj=>(Fr.new h _).trans (hx.trans (zP2 hb b bj))
theorem zFe{rec:Rec}(ah:zFW rec){ro:Option Nat}:∀(c:Code) {st:St} {outs:List Out},evC E rec ro c st=some outs->∀ o∈outs,Fr st.h o.st.h
 | .skip,st,outs,e=>by simp only[evC,outOf] at e;rw[zAk e];intro o ho;simp at ho;subst ho;exact Fr.refl _
 | .label l,st,outs,e=>by simp only[evC,outOf] at e;rw[zAk e];intro o ho;simp at ho;subst ho;exact Fr.refl _
 | .exit id,st,outs,e=>by simp only[evC] at e;rw[zAk e];intro o ho;simp at ho;subst ho;exact Fr.refl _
 | .ret,st,outs,e=>by simp only[evC] at e;rw[zAk e];intro o ho;simp at ho;subst ho;exact Fr.refl _
 | .region id ops d,st,outs,e=>by
  simp only[evC] at e;refine zA3 (p:=λ s=>Fr st.h s.h) e (λ l hl=>zPx ah hl) λ x bs hx hb b bj=>?_;unfold outOf at hb;rw[zAk hb] at bj;simp at bj;subst bj;exact hx
 | .seq x y,st,outs,e=>by
  simp only[evC] at e;refine zA3 (p:=λ s=>Fr st.h s.st.h) e (λ l hl=>zFe ah x hl) λ o bs hx hb b bj=>?_;unfold thenC at hb;split at hb
  ·exact hx.trans (zFe ah y hb b bj)
  ·rw[zAk hb] at bj;simp at bj;subst bj;exact hx
 | .cond c x y,st,outs,e=>by
  simp only[evC] at e;unfold zX0 at e;split at e
  ·rcases zAv e with ⟨_,e⟩|⟨_,e⟩
   ·exact zFe ah x e
   ·exact zFe ah y e
  ·cases e
 | .block id c,st,outs,e=>by
  simp only[evC] at e;refine zA3 (p:=λ s=>Fr st.h s.st.h) e (λ l hl=>zFe ah c hl) λ o bs hx hb b bj=>?_;unfold zDo at hb;split at hb
  ·rcases zAv hb with ⟨_,hb⟩|⟨_,hb⟩ <;> (rw[zAk hb] at bj;simp at bj;subst bj;exact hx)
  ·rw[zAk hb] at bj;simp at bj;subst bj;exact hx
 | .loop c,st,outs,e=>by
  simp only[evC] at e;refine zA3 (p:=λ s=>Fr st.h s.st.h) e (λ l hl=>zFe ah c hl) λ o bs hx hb b bj=>?_;unfold thenC at hb;split at hb
  ·exact hx.trans (ah.loop hb b bj)
  ·rw[zAk hb] at bj;simp at bj;subst bj;exact hx
 | .rangeFunc g ps aas body,st,outs,e=>by
  simp only[evC] at e;unfold evRange at e;split at e
  ·have e:=zAa e;split at e
   ·exact λ o ho=>(Fr.new _ _).trans (zF7 ah e o ho)
   ·exact zF7 ah (zAa e)
  ·cases e
 | .scope c,st,outs,e=>by simp[evC] at e
 | .goto l,st,outs,e=>by simp[evC] at e
 | .refuse s,st,outs,e=>by simp[evC] at e
end Go.AM
namespace Go.AM
open Go Go.Proofs Go.RowKit
variable {E:Env} {lo:Nat}
mutual
theorem VR.back{σ τ:Sg}(le:Sg.le σ τ):∀ {v x y:Value},VR σ v x->VR τ v y->VR σ v y
 | _,_,_,.bool b,h=>by cases h;exact .bool b
 | _,_,_,.int k n,h=>by cases h;exact .int k n
 | _,_,_,.float k n,h=>by cases h;exact .float k n
 | _,_,_,.complex k m n,h=>by cases h;exact .complex k m n
 | _,_,_,.string s,h=>by cases h;exact .string s
 | _,_,_,.ptrN,h=>by cases h;exact .ptrN
 | _,_,_,.ptr o hs,h=>by
  cases h with
  | ptr _ ht=>rw[le _ _ hs] at ht;cases ht;exact .ptr o hs
 | _,_,_,.sliceN n c,h=>by cases h;exact .sliceN n c
 | _,_,_,.slice o n c hs hc,h=>by
  cases h with
  | slice _ _ _ ht _=>rw[le _ _ hs] at ht;cases ht;exact .slice o n c hs hc
  | sliceU _ _ _ ht am hn=>rw[le _ _ hs] at ht;cases ht;omega
 | _,_,_,.sliceU o n c hs hc hn,h=>by
  generalize hq:UNK+_=cap at h;cases h with
  | slice _ _ _ ht am=>omega
  | sliceU _ _ c' ht am jr=>
   rw[le _ _ hs] at ht;cases ht;rw[← hq];exact .sliceU o n c' hs am jr
 | _,_,_,.sliceS _,h=>by cases h;exact .sliceS _
 | _,_,_,.mapN,h=>by cases h;exact .mapN
 | _,_,_,.map hs,h=>by
  cases h with
  | map ht=>rw[le _ _ hs] at ht;cases ht;exact .map hs
 | _,_,_,.chanN,h=>by cases h;exact .chanN
 | _,_,_,.func f ha hb,h=>by
  cases h with
  | func _ cR ar=>exact .func f (VRs.back le ha cR) (VRs.back le hb ar)
 | _,_,_,.yield hs ha hb,h=>by
  cases h with
  | yield ht cR ar=>rw[le _ _ hs] at ht;cases ht;exact .yield hs (VRs.back le ha cR) (VRs.back le hb ar)
 | _,_,_,.nilFunc,h=>by cases h;exact .nilFunc
 | _,_,_,.nilIface,h=>by cases h;exact .nilIface
 | _,_,_,.iface t hv,h=>by
  cases h with
  | iface _ aH=>exact .iface t (VR.back le hv aH)
 | _,_,_,.agg ha,h=>by
  cases h with
  | agg cR=>exact .agg (VRs.back le ha cR)
 | _,_,_,.tuple ha,h=>by
  cases h with
  | tuple cR=>exact .tuple (VRs.back le ha cR)
theorem VRs.back{σ τ:Sg}(le:Sg.le σ τ):∀ {v x y:List Value},VRs σ v x->VRs τ v y->VRs σ v y
 | _,_,_,.nil,h=>by cases h;exact .nil
 | _,_,_,.cons h hs,h'=>by
  cases h' with
  | cons k ks=>exact .cons (VR.back le h k) (VRs.back le hs ks)
end
theorem EntsR.back{σ τ:Sg}(le:Sg.le σ τ):∀ {es:List (Value×Value)} {p q:List MapEntry},EntsR σ es p->EntsR τ es q->EntsR σ es q
 | _,_,_,.nil,h=>by cases h;exact .nil
 | _,_,_,.cons hk hv hs,h=>by
  cases h with
  | cons eH aH aV=>exact .cons (hk.back le eH) (hv.back le aH) (EntsR.back le hs aV)
theorem OR.back{σ τ:Sg}(le:Sg.le σ τ){h h':AH}{o:AObj}{l:Loc}{w w':World}(A:OR σ h o l w)(B:OR τ h' o l w')(hm:∀ m lm,σ m=some lm->h'.get m=h.get m):OR σ h o l w':=by
 cases o with
 | row vs ty es ro=>
  obtain⟨cs,el,frz,a1,a2⟩:=A;obtain⟨ds,el',frz',b1,b2⟩:=B;refine⟨ds,el',frz',b1,b2.size,λ i v hv=>?_,b2.free,b2.elt,b2.fixed,b2.grown⟩;obtain⟨u,_,u2⟩:=a2.cell i v hv;obtain⟨u',u1',u2'⟩:=b2.cell i v hv;exact⟨u',u1',u2.back le u2'⟩
 | map es v=>
  obtain⟨ents,clock,a1,a2⟩:=A;obtain⟨ents',clock',b1,b2⟩:=B;obtain⟨p,_,p2⟩:=a2.perm;obtain⟨q,q1,q2⟩:=b2.perm;exact⟨ents',clock',b1,b2.born,b2.nodup,q,q1,p2.back le q2⟩
 | iter m ver left cur=>
  cases m with
  | none=>exact B
  | some m=>
   obtain⟨lm,since,seen,last,a1,a2,a3⟩:=A;obtain⟨lm',since',seen',last',b1,b2,b3⟩:=B;rw[le _ _ a1] at b1;cases b1;refine⟨lm,since',seen',last',a1,b2,λ es v' hg=>?_⟩;obtain⟨c1,c2⟩:=a3 es v' hg;obtain⟨d1,d2⟩:=b3 es v' ((hm m lm a1).trans hg);refine⟨c1,λ ev=>?_⟩;obtain⟨_,_,_,⟨⟨p,_,p2⟩,pc⟩⟩:=c2 ev;obtain⟨ents',e1,e2,⟨⟨q,q1,q2⟩,qc⟩⟩:=d2 ev;refine⟨ents',e1,e2,⟨q,q1,p2.back le q2⟩,λ c hc=>?_⟩;obtain⟨x,_,_,x3,x4⟩:=pc c hc;obtain⟨y,y1,y2,y3,y4⟩:=qc c hc;exact⟨y,y1,y2,x3.back le y3,x4.back le y4⟩
 | loop st pend T ps aas body d=>
  obtain⟨r,a1,a2,a3,a4,a5,a6,a7,a8⟩:=A;obtain⟨r',b1,b2,b3,b4,b5,b6,b7,b8⟩:=B;exact⟨r',b1,b2,b3,b4,b5,b6,⟨b7.size,λ k=>(a7.get k).back le (b7.get k)⟩,b8⟩
 | defd=>exact B
theorem HR.back{σ τ:Sg}{h h':AH}{w w':World}(H:HR lo σ h w)(H':HR lo τ h' w')(le:Sg.le σ τ)(hg:∀ b,b<h.qa->h'.get b=h.get b):HR lo σ h w':=by
 have get:∀ {b o},h.get b=some o->h'.get b=some o:=by
  intro b o hb;rcases xCq b h.qa with ab|eA
  ·rw[hg b ab];exact hb
  ·rw[H.qb b eA] at hb;cases hb
 refine⟨H.dom,H.qb,λ b o hb=>?_,λ b b' o o' l l' h1 h2 s1 s2=>H'.inj b b' o o' l l' (get h1) (get h2) (le _ _ s1) (le _ _ s2),H'.lo⟩;obtain⟨l,a1,a2,a3⟩:=H.live b o hb;obtain⟨l',b1,b2,b3⟩:=H'.live b o (get hb);rw[le _ _ a1] at b1;cases b1;exact⟨l,a1,a2.back le b2 λ m lm hm=>hg m (H.dom _ _ hm),b3⟩
theorem HR.sub{σ:Sg}{h h':AH}{w:World}(H:HR lo σ h w)(hn:h'.qa=h.qa)(hs:∀ b,h'.get b=none\/h'.get b=h.get b):HR lo σ h' w:=by
 have sub:∀ c x,h'.get c=some x->h.get c=some x:=λ c x e=>by
  rcases hs c with h0|h0
  ·rw[h0] at e;cases e
  ·rw[← h0];exact e
 refine⟨λ b l e=>hn ▸ H.dom b l e,λ c hc=>?_,λ c x e=>?_,λ c c' o1 o2 l1 l2 e1 e2=>H.inj c c' o1 o2 l1 l2 (sub _ _ e1) (sub _ _ e2),H.lo⟩
 ·rcases hs c with h0|h0
  ·exact h0
  ·rw[h0];exact H.qb c (hn ▸ hc)
 ·obtain⟨l,a,k,d⟩:=H.live c x (sub c x e);exact⟨l,a,OR.mono k (Sg.le_refl σ) rfl (λ m es v lm hm _=>⟨sub _ _ hm,rfl⟩),d⟩
theorem zNB{h:AH}{t0:Tr AObj}:∀(ids:List Nat) (c:Nat),(ids.foldr (λ b t=>t.set (b+1) b (h.get b)) t0).get c=if c∈ids then h.get c else t0.get c
 | [],c=>by simp
 | b::ids,c=>by
  simp only[List.foldr_cons];rw[Tr.get_set _ _ _ _ _ (xCA b),zNB ids c];by_cases e:c=b
  ·subst e;simp
  ·rw[xDN e];by_cases m:c∈ids
   ·rw[xDO m,xDO (by simp[m])]
   ·rw[xDN m,xDN (by simp[e,m])]
theorem zBc(h0 h:AH)(ids:List Nat)(c:Nat):(zDl h0 h ids).get c=if c∈ids then h.get c else h0.get c:=zNB ids c
theorem znA{a b:Option AObj}(h:oeq a b=true):a=b:=by
 unfold oeq at h;split at h
 ·rfl
 ·simp only[xAP,beq_true] at h;obtain⟨⟨⟨h1,h2⟩,h3⟩,h4⟩:=h;rw[(zHN 1000).2 _ _ h1,h2,h3,eq_of_beq h4]
 ·rename_i a v b w;simp only[xAP,beq_true] at h;obtain⟨⟨h1,h2⟩,h3⟩:=h;have e2:=(zHN 1000).2 _ _ h2;have e3:=(zHN 1000).2 _ _ h3;have:a=b:=by
   apply xBo;intro i;have g2:=congrArg (·[i]?) e2;have g3:=congrArg (·[i]?) e3;simp only[xBi] at g2 g3;cases ha:a[i]? with
   | none=>cases hb:b[i]? with
    | none=>rfl
    | some y=>rw[ha,hb] at g2;simp at g2
   | some x=>cases hb:b[i]? with
    | none=>rw[ha,hb] at g2;simp at g2
    | some y=>rw[ha,hb] at g2 g3;simp at g2 g3;rw[Prod.ext g2 g3]
  rw[h1,this]
 ·cases h
structure KOK(h0:AH)(k:zK7):Prop where
 at0:∀ b,b ∉ k.2.1->k.2.2.get b=h0.get b
 old:∀ b,b<h0.qa->k.2.2.get b=h0.get b
 qa:h0.qa<=k.2.2.qa
theorem zXQ{h0:AH}{x:Value×AH}(hf:Fr h0 x.2)(hc:zEv h0 x=true):KOK h0 (kept h0 x):=by
 unfold zEv at hc;rw[ble_true] at hc;refine⟨λ b hb=>?_,λ b hb=>?_,hf.qa⟩
 ·show (zDl _ _ _).get b=_;rw[zBc];exact xDN hb
 ·show (zDl _ _ _).get b=_;rw[zBc];split
  ·exact hf.get b hb (xAC hb hc)
  ·rfl
theorem ziT{h0:AH}(iB:∀ b,h0.qa<=b->h0.get b=none){a b:zK7}(ha:KOK h0 a)(hb:KOK h0 b)(h:zL6 a b=true):b.1=a.1/\b.2.2.qa=a.2.2.qa/\∀ c,b.2.2.get c=none\/b.2.2.get c=a.2.2.get c:=by
 unfold zL6 at h;simp only[xAP,beq_true,xCB] at h;obtain⟨⟨h1,h2⟩,h3⟩:=h;refine⟨((zHN 1000).1 _ _ h1).symm,h2.symm,λ c=>?_⟩;by_cases hc:c∈b.2.1
 ·have:=h3 c hc;unfold zmy at this;simp only[xAP] at this;exact .inr (znA this.2).symm
 ·rcases xCq c h0.qa with ab|eA
  ·exact .inr ((hb.old c ab).trans (ha.old c ab).symm)
  ·exact .inl ((hb.at0 c hc).trans (iB c eA))
theorem zLV{h0:AH}(iB:∀ b,h0.qa<=b->h0.get b=none):∀(l acc:List zK7),(∀ k∈l,KOK h0 k)->(∀ k∈acc,KOK h0 k)->
  (∀ k∈zEd l acc,KOK h0 k)/\(∀ k∈acc,k∈zEd l acc)/\∀ k∈l,∃ k'∈zEd l acc,k'.1=k.1/\k'.2.2.qa=k.2.2.qa/\∀ c,k'.2.2.get c=none\/k'.2.2.get c=k.2.2.get c
 | [],acc,_,ha=>⟨ha,λ k hk=>hk,λ k hk=>by cases hk⟩
 | x::l,acc,hl,ha=>by
  simp only[zEd];cases hx:acc.any (zL6 x) with
  | true=>
   simp only[xAG];obtain⟨i1,i2,i3⟩:=zLV iB l acc (λ k hk=>hl k (by simp[hk])) ha;refine⟨i1,i2,λ k hk=>?_⟩;rcases xCg.1 hk with rfl|hk
   ·obtain⟨b,b1,b2⟩:=xCK.1 hx;exact⟨b,i2 b b1,ziT iB (hl k (by simp)) (ha b b1) b2⟩
   ·exact i3 k hk
  | false=>
   simp only[xAH];obtain⟨i1,i2,i3⟩:=zLV iB l (acc++[x]) (λ k hk=>hl k (by simp[hk])) (λ k hk=>by
    rcases xCU.1 hk with hk|hk
    ·exact ha k hk
    ·simp at hk;subst hk;exact hl _ (by simp))
   refine⟨i1,λ k hk=>i2 k (by simp[hk]),λ k hk=>?_⟩;rcases xCg.1 hk with rfl|hk
   ·exact⟨k,i2 k (by simp),rfl,rfl,λ _=>.inr rfl⟩
   ·exact i3 k hk
theorem zIo{p:zK7->Prop}:∀(l acc:List zK7),(∀ k∈l,p k)->(∀ k∈acc,p k)->∀ k∈zEd l acc,p k
 | [],acc,_,ha,k,hk=>ha k hk
 | x::l,acc,hl,ha,k,hk=>by
  simp only[zEd] at hk;rcases xAh (acc.any (zL6 x)) with hb|hb
  ·rw[hb] at hk;exact zIo l acc (λ k hk=>hl k (by simp[hk])) ha k hk
  ·rw[hb] at hk;refine zIo l (acc++[x]) (λ k hk=>hl k (by simp[hk])) (λ k hk=>?_) k hk;rcases xCU.1 hk with hk|hk
   ·exact ha k hk
   ·simp at hk;subst hk;exact hl _ (by simp)
theorem zQx{h0:AH}{x:Value×AH}(hf:Fr h0 x.2):Fr h0 (zBf h0 x).2:=by
 unfold zBf;cases hc:(zEv h0 x&&zm x.1) with
 | true=>exact Fr.refl h0
 | false=>exact hf
theorem zMY{h0:AH}{outs:List (Value×AH)}(hf:zCT h0 outs):zCT h0 (zCD h0 outs):=by
 unfold zCD;cases hc:outs.all (zEv h0) with
 | false=>exact hf
 | true=>
  simp only[xAG];rw[xCB] at hc;have hk:∀ k∈outs.map (kept h0),KOK h0 k/\k.2.2.wm<=h0.wm:=by
   intro k hk;obtain⟨x,x1,rfl⟩:=xCv.1 hk;exact⟨zXQ (hf x x1) (hc x x1),(hf x x1).wm⟩
  intro x hx;obtain⟨k,k1,rfl⟩:=xCv.1 hx;have h1:=zIo _ [] hk (by simp) k k1;exact⟨h1.1.qa,h1.2,λ b hb _=>h1.1.old b hb⟩
theorem zCm(h0:AH)(outs:List (Value×AH)):(∃ x,outs=[x]/\zEY h0 outs=[zBf h0 x])\/zEY h0 outs=zCD h0 (outs.map (zBf h0)):=by
 unfold zEY;split
 ·exact .inl ⟨_,rfl,rfl⟩
 ·exact .inr rfl
theorem zMf{h0:AH}{outs:List (Value×AH)}(hf:zCT h0 outs):zCT h0 (outs.map (zBf h0)):=by
 intro x hx;obtain⟨y,y1,rfl⟩:=xCv.1 hx;exact zQx (hf y y1)
theorem zWQ{h0:AH}{outs:List (Value×AH)}(hf:zCT h0 outs):zCT h0 (zEY h0 outs):=by
 rcases zCm h0 outs with ⟨x,rfl,hse⟩|hse
 ·rw[hse];intro y hy;simp at hy;subst hy;exact zQx (hf x (by simp))
 ·rw[hse];exact zMY (zMf hf)
theorem zhd{σ:Sg}{h0:AH}{w:World}(H:HR lo σ h0 w){x:Value×AH}(hf:Fr h0 x.2){τ:Sg}{v:Value}{w':World}(le:Sg.le σ τ)(H':HR lo τ x.2 w')(hv:VR τ x.1 v) :
  ∃ υ,Sg.le σ υ/\HR lo υ (zBf h0 x).2 w'/\VR υ (zBf h0 x).1 v:=by
 unfold zBf;cases hc:(zEv h0 x&&zm x.1) with
 | false=>exact⟨τ,le,H',hv⟩
 | true=>
  simp only[xAP] at hc;have an:=ble_true.1 hc.1;refine⟨σ,Sg.le_refl σ,?_,?_⟩
  ·have:=H.back H' le λ b hb=>hf.get b hb (xAC hb an);exact this.same rfl λ _=>rfl
  ·show VR σ x.1 v;rw[VR.eq_of_isFlat hc.2 hv];exact VR.of_isFlat hc.2
theorem zMX{σ:Sg}{h0:AH}{w:World}(H:HR lo σ h0 w){outs:List (Value×AH)}(hf:zCT h0 outs){v:Value}{w':World}(g:zFw lo σ w outs v w'):zFw lo σ w (zCD h0 outs) v w':=by
 obtain⟨x,hx,τ,le,H',hv,hb⟩:=g;unfold zCD;cases hc:outs.all (zEv h0) with
 | false=>exact⟨x,hx,τ,le,H',hv,hb⟩
 | true=>
  simp only[xAG];rw[xCB] at hc;have hk:∀ k∈outs.map (kept h0),KOK h0 k:=by
   intro k hk;obtain⟨x,x1,rfl⟩:=xCv.1 hk;exact zXQ (hf x x1) (hc x x1)
  obtain⟨_,_,i3⟩:=zLV H.qb _ [] hk (by simp);obtain⟨k',k1,k2,k3,k4⟩:=i3 (kept h0 x) (xCv.2 ⟨x,hx,rfl⟩);refine⟨(k'.1,k'.2.2),xCv.2 ⟨k',k1,rfl⟩,τ,le,?_,by rw[k2];exact hv,hb⟩;have lj:HR lo τ (zDl h0 x.2 (zBm x.2 h0.qa 1000 (zBR 4 x.1) [])) w':=H'.sub rfl λ b=>by
   rw[zBc];split
   ·exact .inr rfl
   ·rcases xCq b h0.qa with ab|eA
    ·exact .inr ((hf x hx).get b ab (xAC ab (ble_true.1 (hc x hx)))).symm
    ·exact .inl (H.qb b eA)
  exact lj.sub k3 k4
theorem zWO{σ:Sg}{h0:AH}{w:World}(H:HR lo σ h0 w){outs:List (Value×AH)}(hf:zCT h0 outs){v:Value}{w':World}(g:zFw lo σ w outs v w'):zFw lo σ w (zEY h0 outs) v w':=by
 obtain⟨x,hx,τ,le,H',hv,hb⟩:=g;obtain⟨υ,l1,l2,l3⟩:=zhd H (hf x hx) le H' hv;rcases zCm h0 outs with ⟨y,rfl,hse⟩|hse
 ·rw[hse];simp at hx;subst hx;exact⟨_,xBV.2 rfl,υ,l1,l2,l3,hb⟩
 ·rw[hse];exact zMX H (zMf hf) ⟨zBf h0 x,xCv.2 ⟨x,hx,rfl⟩,υ,l1,l2,l3,hb⟩
end Go.AM
namespace Go.AM
open Go Go.Proofs Go.RowKit
variable {E:Env} (hE:zCt E) {lo:Nat} {σ:Sg} {T:Tm} {h:AH} {w:World}
def zrJ(tmps:Array Value):ResultVar->Sem Value
 | .tmp t=>pure (tmps.getD t undef)
 | .cell a t=>do loadVar t (← asAddr (tmps.getD a undef))
theorem zS0(fn:Func)(tmps:Array Value):results fn tmps=(do let vs ← fn.results.mapM (zrJ tmps);pure (if h:vs.size=1 then vs[0] else .tuple vs)):=by
 unfold results
 congr 1
 try (congr 1;funext x;cases x <;> rfl)
include hE in
theorem zFE{tmps:Array Value}(H:HR lo σ h w)(hT:TmR σ T tmps):∀ {rs:List ResultVar} {vs:List Value},zCy E T h rs=some vs->∃ vs',(rs.mapM (zrJ tmps)).run E.prog w=.ok vs' w/\VRs σ vs vs'
 | [],vs,e=>by
  simp only[zCy,xAN] at e;subst e;exact⟨[],by simp,.nil⟩
 | .tmp t::rs,vs,e=>by
  simp only[zCy] at e;split at e
  ·rename_i us hus;cases e;obtain⟨vs',q1,q2⟩:=zFE H hT hus;exact⟨tmps.getD t undef::vs',by rw[List.mapM_cons];simp[zrJ,q1],.cons (hT.get t) q2⟩
  ·cases e
 | .cell a t::rs,vs,e=>by
  simp only[zCy] at e;split at e
  ·rename_i v us hv hus;cases e;obtain⟨vs',q1,q2⟩:=zFE H hT hus;obtain⟨v',p1,p2⟩:=zRC hE H (hT.get a) hv;have hp:∃ ad,tmps.getD a undef=.pointer (some ad):=by
    have hr:=hT.get a;unfold zC1 at hv;split at hv
    ·rename_i dU;rw[dU] at hr;generalize hq:tmps.getD a undef=q at hr;cases hr;exact⟨_,rfl⟩
    ·cases hv
   obtain⟨ad,mo⟩:=hp;rw[mo] at p1;have p1':(loadVar t ad).run E.prog w=.ok v' w:=p1;refine⟨v'::vs',?_,.cons p2 q2⟩;rw[List.mapM_cons];simp only[zrJ,mo,asAddr,xCs,xCt,xBj,p1',q1]
  ·cases e
include hE in
theorem zSz{fn:Func}{tmps:Array Value}(H:HR lo σ h w)(hT:TmR σ T tmps){v:Value}(e:zFD E fn T h=some v):∃ v',(results fn tmps).run E.prog w=.ok v' w/\VR σ v v':=by
 unfold zFD at e;rw[zS0];have hm:∀ vs',(fn.results.toList.mapM (zrJ tmps)).run E.prog w=.ok vs' w->(fn.results.mapM (zrJ tmps)).run E.prog w=.ok vs'.toArray w:=by
  intro vs' hv;rw[Array.mapM_eq_mapM_toList,← bind_pure_comp];simp only[xCs,hv,xBj,xCt]
 split at e
 ·rename_i v0 hv;cases e;obtain⟨vs',q1,q2⟩:=zFE hE H hT hv;obtain⟨x,rfl,hx⟩:=q2.one1;refine⟨x,?_,hx⟩;simp[xCs,hm _ q1]
 ·rename_i vs aj hv;cases e;obtain⟨vs',q1,q2⟩:=zFE hE H hT hv;refine⟨.tuple vs'.toArray,?_,.tuple (by simpa using q2)⟩;have hl:¬ vs'.length=1:=by
   intro hl;have:=q2.length;rw[hl] at this
   match vs,this with
   | [v],_=>exact aj v rfl
  simp[xCs,hm _ q1,hl]
 ·cases e
theorem HR.setDead(H:HR lo σ h w)(k:Nat)(ob:Obj)(hk:k<w.heap.size)(hd:∀ c x m,h.get c=some x->σ c=some m->m.blk≠k):HR lo σ h (World.put w k ob):=by
 have old:∀ j,j≠k->(World.put w k ob).heap[j]?=w.heap[j]?:=λ j hj=>by rw[World.put_get hk,xDN hj]
 refine⟨H.dom,H.qb,λ c x hx=>?_,H.inj,by rw[zHv];exact H.lo⟩;obtain⟨l,a1,a2,a3⟩:=H.live c x hx;exact⟨l,a1,a2.mono (Sg.le_refl σ) (old _ (hd c x l hx a1)) (λ m es v lm hm hs=>⟨hm,old _ (hd m _ lm hm hs)⟩),a3⟩
theorem zM1{F:Fence}{P:Program}{fn:Func}{tmps:Array Value}{R:Ending->World->Prop}:∀ {defs:List Nat} {ds:List Deferred} {h h':AH} {w:World},DefsR σ defs ds->HR lo σ h w->zCI defs h=some h'->
  (∀ w',HR lo σ h' w'->Below lo w w'->LeavesIn F 0 P fn tmps R [] .returning w')->LeavesInM F 0 P fn tmps R ds .returning w
 | [],_,h,h',w,.nil,H,e,hK=>by
  simp only[zCI,xAN] at e;subst e;exact hK w H (Below.refl _ _)
 | b::bs,_,h,h',w,.cons (l:=l) (ds:=ds) hσ hs,H,e,hK=>by
  simp only[zCI] at e;split at e;rotate_left
  ·cases e
  rename_i hb;obtain⟨l',a1,gq,a3⟩:=H.live b _ hb;rw[hσ] at a1;cases a1;have hw:w.heap[l.blk]?=some (.deferred (some [])):=gq;have ab:=zAd hw;have H':HR lo σ (h.upd b none) (World.put w l.blk (.deferred none)):=by
   refine (H.kill b).setDead _ _ ab λ c x m hc hm dU=>?_;rw[AH.get_upd] at hc;split at hc
   ·cases hc
   ·rename_i fW;have:=(H.inj c b x .defd m l hc hb hm hσ dU fW).2;cases this
  have dV:Below lo w (World.put w l.blk (.deferred none)):=zEy _ (a3 rfl);refine⟨by simp,.inl ⟨l.blk,World.put w l.blk (.deferred none),rfl,?_,zM1 hs H' e λ w' dg ar=>hK w' dg (dV.trans ar)⟩⟩;unfold Instr.takeDeferred;simp[xCs,zBH hw (by intros;intro h;cases h),zFB (.deferred none) hw (by intros;intro h;cases h)]
theorem zIx:∀(vs:List Value) (k:Nat) (t:Tr Value) (j:Nat),(zCp vs k t).get j=if k<=j/\j<k+vs.length then vs[j-k]? else t.get j
 | [],k,t,j=>by simp[zCp];intro h1 h2;omega
 | v::vs,k,t,j=>by
  simp only[zCp];rw[zIx vs (k+1),Tr.get_set _ _ _ _ _ (xCA k)];by_cases h1:k+1<=j/\j<k+1+vs.length
  ·rw[xDO h1,xDO (by simp;omega)];rw[show j-k=(j-(k+1))+1 by omega,xAj]
  ·rw[xDN h1];by_cases h2:j=k
   ·subst h2;rw[xDO rfl,xDO (by simp)];simp
   ·rw[xDN h2,xDN (by simp;omega)]
theorem zo5{args args':List Value}(ha:VRs σ args args'){n:Nat}(hn:args.length<=n):TmR σ ⟨n,zCp args 0 .e⟩ (args'.toArray++Array.replicate (n-args'.toArray.size) undef):=by
 have hl:=ha.length;refine⟨by simp;omega,λ k=>?_⟩;show VR σ ((zCp args 0 .e).get k |>.getD undef) _;rw[zIx,xAT,Array.getElem?_append];by_cases hk:k<args.length
 ·rw[xDO ⟨xDF _,by omega⟩,xDO (by simp;omega)];simp only[Nat.sub_zero,xBA];obtain⟨b,b1,b2⟩:=ha.get (xAA hk);rw[b1,xAA hk];exact b2
 ·rw[xDN (by omega),xDN (by simp;omega),Array.getElem?_replicate];simp only[Tr.get_e,Option.getD_none];split <;> exact .tuple .nil
theorem zKZ:∀ {defs:List Nat} {h h':AH},zCI defs h=some h'->Fr h h'
 | [],h,h',e=>by simp only[zCI,xAN] at e;subst e;exact Fr.refl _
 | b::bs,h,h',e=>by
  simp only[zCI] at e;split at e
  ·exact (Fr.upd _ _ _).trans (zKZ e)
  ·cases e
theorem zYX{rec:Rec}(bI:zFW rec){fn:Func}{c:Code}{st:St}{os:List (Value×AH)}(kg:R.andThen (evC E rec none c st) (zAU E fn)=some os):zCT st.h os:=
 zA3 (p:=λ o=>Fr st.h o.st.h) kg (λ l hl=>zFe bI c hl) λ o bs ho aK b bj=>by
  unfold zAU at aK;split at aK
  ·cases aK
  ·unfold zCM at aK;split at aK
   ·rename_i hk;obtain⟨v,_,rfl⟩:=zGn aK;simp at bj;subst bj;exact ho.trans (zKZ hk)
   ·cases aK
theorem zQP{rec:Rec}(bI:zFW rec){fn:Func}{c:Code}{args:List Value}{h:AH}{outs:List (Value×AH)}(e:zEV E rec fn c args h ⟨h.t,h.qa,Nat.add h.qa UNK⟩=some outs):zCT h outs:=by
 unfold zEV at e;have e:=zAa e;unfold zEl at e;split at e
 ·cases e
 rename_i os kg;cases e;have aQ:=zWQ (zYX bI kg);intro x hx;obtain⟨y,y1,rfl⟩:=xCv.1 hx;have hy:=aQ y y1;refine⟨hy.qa,?_,λ b hb hw=>?_⟩
 ·show cond _ _ _<=_;cases hc:Nat.ble h.wm y.2.wm with
  | true=>exact xAF _
  | false=>rw[ble_false] at hc;simp only[xAH];omega
 ·refine hy.get b hb ?_;have dg:b<cond (Nat.ble h.wm y.2.wm) h.wm y.2.wm:=hw;cases hc:Nat.ble h.wm y.2.wm with
  | true=>rw[hc] at dg;rw[ble_true] at hc;simp only[xAG] at dg;omega
  | false=>rw[hc] at dg;exact dg
include hE in
theorem zQO{rec:Rec}(ah:zT1 E rec)(bI:zFW rec)(H:HR lo σ h w){f:FuncId}{fn:Func}{c:Code}(hf:E.prog.funcs[f]?=some fn)(hb:fn.body=some c)(ak:fits fn.ntmps c=true){args args':List Value}(ha:VRs σ args args')
  {outs:List (Value×AH)} (e:zEV E rec fn c args h ⟨h.t,h.qa,Nat.add h.qa UNK⟩=some outs):CallsIn Fence.wide 0 E.prog f args'.toArray w (Ret (zFw lo σ w outs)):=by
 unfold zEV at e;have hc:=zAv e;rcases hc with ⟨hn,e⟩|⟨_,e⟩;rotate_left
 ·cases e
 rw[ble_true,zAL] at hn;unfold zEl at e;split at e
 ·cases e
 rename_i os kg;cases e;have H0:HR lo σ ⟨h.t,h.qa,Nat.add h.qa UNK⟩ w:=H.same rfl λ _=>rfl;have hfos:zCT ⟨h.t,h.qa,Nat.add h.qa UNK⟩ os:=zYX bI kg;show CallsIn _ _ _ _ _ _ _
 ·skip
  have key:CallsIn Fence.wide 0 E.prog f args'.toArray w (Ret (zFw lo σ w os)):=by
   obtain⟨xs,hx,az⟩:=zAi kg;refine callsIn_of_wp_marks hf hb trivial (wpIn_mono (zFd hE ah (n:=fn.ntmps) (ro:=none) c (σ:=σ) (F:=Fence.wide) rfl ak ⟨zo5 ha hn,H0,.nil,rfl⟩ hx) λ en a' w' hq=>?_);obtain⟨⟨ox,ost⟩,hom,hex,τ,le,hs,dV⟩:=hq;obtain⟨bs,aK,aq⟩:=az _ hom;unfold zAU at aK;simp only at hex hs;have fin:∀ {hk:Option AH},zCI ost.defs ost.h=hk->zCM E fn ost.T hk=some bs->LeavesInM Fence.wide 0 E.prog fn a'.tmps (Ret (zFw lo σ w os)) a'.defers .returning w':=by
    intro hk jz aK;unfold zCM at aK;split at aK;rotate_left
    ·cases aK
    rename_i h';obtain⟨v,hv,rfl⟩:=zGn aK;refine zM1 hs.D hs.H jz λ w'' H'' hb''=>?_;obtain⟨v',q1,q2⟩:=zSz hE H'' hs.T hv;exact⟨v',q1,(v,h'),aq _ (by simp),τ,le,H'',q2,dV.trans hb''⟩
   cases hex with
   | normal=>exact fin rfl aK
   | ret=>exact fin rfl aK
   | exit id=>simp at aK
  refine CallsIn.mono key λ en w' hr=>?_;cases en with
  | panicked _=>exact hr.elim
  | outgrown=>exact hr.elim
  | returned v=>
   obtain⟨x,x1,τ,le,Hx,hv,dV⟩:=zWO H0 hfos hr;exact⟨zg9 h.wm x,xCv.2 ⟨x,x1,rfl⟩,τ,le,Hx.same rfl λ _=>rfl,hv,dV⟩
structure zOp(E:Env):Prop where
 sum:∀ f args h outs,E.sum f args h=some outs->(∀ lo σ w args',HR lo σ h w->VRs σ args args'->CallsIn Fence.wide 0 E.prog f args'.toArray w (Ret (zFw lo σ w outs)))/\zCT h outs
 nobody:∀ f c,E.tab.ext.get f=some c->c=1\/c=2
 one:∀ f,E.tab.ext.get f=some 1->∀ x w,(callFunc f #[x]).run E.prog w=.ok (.value x) w
 two:∀ f,E.tab.ext.get f=some 2->∀(s:ByteArray) (c:Int) w,(callFunc f #[.string s,.int .u8 c]).run E.prog w=.ok (.value (.int .i64 (zFo s.data.toList (UInt8.ofNat c.toNat) 0))) w
include hE in
theorem zXk{rec:Rec}(hX:zOp E)(ah:zT1 E rec)(bI:zFW rec)(H:HR lo σ h w){f:FuncId}{args args':List Value}(ha:VRs σ args args'){outs:List (Value×AH)}(e:fnCall E rec f args h=some outs) :
  Upon E.prog (zFw lo σ w outs) ((callFunc f args'.toArray).run E.prog w):=by
 unfold fnCall at e;split at e
 ·cases e
 rename_i fn iV;obtain⟨h1,h2⟩:=hE.fn f fn iV;split at e
 ·rename_i hb;unfold zPw at e;split at e
  ·rename_i hc;split at e
   ·rename_i x;rw[zAk e];obtain⟨x',rfl,hx⟩:=ha.one1;rw[hX.one f hc];exact⟨(x,h),by simp,σ,Sg.le_refl σ,H,hx,Below.refl _ _⟩
   ·cases e
  ·rename_i hc;split at e
   ·rename_i s c;rw[zAk e];obtain⟨x',y',rfl,hx,hy⟩:=ha.two;cases hx;cases hy;rw[hX.two f hc];exact⟨_,xBV.2 rfl,σ,Sg.le_refl σ,H,.int _ _,Below.refl _ _⟩
   ·cases e
  ·cases e
 ·rename_i c hb;have dK:zDQ E f=true:=by unfold zDQ;rw[iV];simp[hb]
  rw[zG8 hE dK];split at e
  ·rename_i outs' hs;cases e;exact (hX.sum f args h outs hs).1 _ _ _ _ H ha
  ·exact zQO hE ah bI H h1 hb (h2 c hb) ha e
theorem zXl{rec:Rec}(hX:zOp E)(bI:zFW rec){f:FuncId}{args:List Value}{h:AH}{outs:List (Value×AH)}(e:fnCall E rec f args h=some outs):zCT h outs:=by
 unfold fnCall at e;split at e
 ·cases e
 split at e
 ·unfold zPw at e;split at e
  ·split at e
   ·rw[zAk e];exact zDw (Fr.refl _)
   ·cases e
  ·split at e
   ·rw[zAk e];exact zDw (Fr.refl _)
   ·cases e
  ·cases e
 ·split at e
  ·rename_i outs' hs;cases e;exact (hX.sum f args h outs hs).2
  ·exact zQP bI e
end Go.AM
namespace Go.AM
open Go Go.Proofs Go.RowKit
variable {E:Env} (hE:zCt E) {lo:Nat} {σ:Sg} {T:Tm} {h:AH} {w:World}
theorem zHR:∀ {ps:List Tmp} {args args':List Value} {T T':Tm} {tmps:Array Value},zBs T ps args=some T'->VRs σ args args'->TmR σ T tmps->ps.all (λ d=>Nat.ble (d+1) T.n)=true->
  ps.length=args'.length/\T'.n=T.n/\TmR σ T' ((ps.zip args').foldl (λ tmps (x:Tmp×Value)=>tmps.setIfInBounds x.1 x.2) tmps)
 | [],[],args',T,T',tmps,e,ha,hT,_=>by
  simp only[zBs,xAN] at e;subst e;cases ha;exact⟨rfl,rfl,hT⟩
 | [],_::_,args',T,T',tmps,e,ha,hT,_=>by simp[zBs] at e
 | _::_,[],args',T,T',tmps,e,ha,hT,_=>by simp[zBs] at e
 | t::ts,v::vs,args',T,T',tmps,e,ha,hT,hp=>by
  simp only[zBs] at e;cases ha with
  | cons hv hs=>
  rename_i b bs;simp only[xCj,xAP] at hp;have ab:t<T.n:=ble_true.1 hp.1;obtain⟨q1,q2,q3⟩:=zHR e hs (hT.put ab hv) (by rw[Tm.n_put];exact hp.2);exact⟨by simp[q1],q2,by simpa using q3⟩
theorem zP0{P:Program}{τ:Sg}{w w0:World}{l:Nat}{loc:Loc}{o:Out}{outs os:List (Value×AH)}(H:HR lo τ o.st.h w)(hs:τ l=some loc)(e:endRound l o=some os)(aq:∀ x∈os,x∈outs){σ:Sg}(le:Sg.le σ τ)(hb:Below lo w0 w) :
  ∃ v w',(Instr.endRound loc.blk (zEo o.ex)).run P w=.ok v w'/\Ret (zFw lo σ w0 outs) (.returned v) w':=by
 unfold endRound at e;unfold zDG at e;split at e;rotate_left
 ·cases e
 rename_i h' hh;rw[zAk e] at aq;obtain⟨r,r1,r2⟩:=zGu (P:=P) H hs hh;obtain⟨k1,k2,k3⟩:=r2 _ rfl;refine⟨.bool (zEo o.ex).isNone,_,?_,⟨_,aq _ (xBV.2 rfl),τ,le,k2,.bool _,hb.trans k3⟩⟩;unfold Instr.endRound;have af:(if (zEo o.ex).isNone=true then LoopState.ready else LoopState.done)=cond (zEo o.ex).isNone .ready .done:=by cases (zEo o.ex).isNone <;> rfl
 simp only[xCs,zDO r1,xBj,af,k1,xCt]
include hE in
theorem zMd{rec:Rec}(ah:zT1 E rec)(H:HR lo σ h w){l:Nat}{loc:Loc}(hσ:σ l=some loc){args args':List Value}(ha:VRs σ args args'){outs:List (Value×AH)}(e:roundCall E rec l args h=some outs) :
  Upon E.prog (zFw lo σ w outs) ((Instr.yield loc.blk args'.toArray).run E.prog w):=by
 unfold roundCall at e;split at e;rotate_left
 ·cases e
 rename_i st pend T ps aas body d hl;obtain⟨l',a1,gq,_⟩:=H.live l _ hl;rw[hσ] at a1;cases a1;obtain⟨r,r1,r2,r3,r4,r5,r6,r7,r8,r9,r10⟩:=gq;unfold zDC at e;split at e
 ·cases e
 rename_i T' mq;obtain⟨p1,p2,p3⟩:=zHR mq ha r7 r10;obtain⟨xs,hx,az⟩:=zAi e;have hzip:(r.params.zip args'.toArray).foldl (λ tmps (x:Tmp×Value)=>tmps.setIfInBounds x.1 x.2) r.tmps=(ps.zip args').foldl (λ tmps (x:Tmp×Value)=>tmps.setIfInBounds x.1 x.2) r.tmps:=by
  rw[← Array.foldl_toList,Array.toList_zip,r4]
 have hy:(Instr.yield loc.blk args'.toArray).run E.prog w=.ok (.round loc.blk r.fn ((ps.zip args').foldl (λ tmps (x:Tmp×Value)=>tmps.setIfInBounds x.1 x.2) r.tmps) aas body) w:=by
  unfold Instr.yield;have hsz:args'.toArray.size=r.params.size:=by
   have:r.params.size=ps.length:=by rw[← r4];simp
   simp[this,p1]
  simp only[xCs,zDO r1,xBj,hsz,ne_eq,xBk,xDI,xCt,r5,r6];rw[← hzip]
 rw[hy];show RoundIn Fence.wide 0 E.prog loc.blk r.fn _ aas body w _;have bV:FR σ (Fence.wide.inRound loc.blk) (some l):=⟨loc,hσ,rfl⟩;refine roundIn_of_wpIn trivial (wpIn_mono (zFd hE ah (n:=T.n) aas bV r8 ⟨p3,H,.nil,p2⟩ hx) λ en a₁ w₁ hq=>?_);obtain⟨⟨ox,ost⟩,hom,hex,τ,le,hs,dV⟩:=hq;obtain⟨bs,aK,aq⟩:=az _ hom;unfold zDk at aK;simp only at hex hs;cases hex with
 | exit id=>simp at aK
 | ret=>simp at aK
 | normal=>
  simp only at aK;rcases zAv aK with ⟨ct,aK⟩|⟨_,aK⟩;rotate_left
  ·cases aK
  unfold beginRound at aK;split at aK;rotate_left
  ·cases aK
  rename_i h₂ hh₂;have hσ':=le _ _ hσ;obtain⟨r',s1,s2⟩:=zGu (P:=E.prog) hs.H hσ' hh₂;obtain⟨k1,k2,k3⟩:=s2 _ rfl;have jg:r'.state=.ready:=by
   unfold zLe at ct;split at ct
   ·rename_i dH;obtain⟨l',a1,gq,_⟩:=hs.H.live l _ dH;rw[hσ'] at a1;cases a1;obtain⟨r0,q1,q2,_⟩:=gq;rw[s1] at q1;cases q1;exact q2
   ·cases ct
  refine⟨World.put w₁ loc.blk (.loop { r' with state:=.busy,pending:=r'.pending }),?_,?_⟩
  ·unfold Instr.beginRound;have k1':(setObj loc.blk (.loop { r' with state:=.busy })).run E.prog w₁=.ok () (World.put w₁ loc.blk (.loop { r' with state:=.busy,pending:=r'.pending })):=k1;simp only[xCs,zDO s1,xBj,k1',jg];rfl
  ·obtain⟨ys,kv,jp⟩:=zAi aK;refine wpIn_mono (zFd hE ah (n:=T.n) body (st:=⟨ost.T,h₂,ost.defs⟩) (bV.mono le) r9 ⟨hs.T,k2,hs.D,hs.n⟩ kv) λ en a₂ w₂ hq₂=>?_;obtain⟨⟨ox₂,ost₂⟩,hom₂,hex₂,υ,le₂,hs₂,hbel₂⟩:=hq₂;obtain⟨cs,aT,hsub₂⟩:=jp _ hom₂;simp only at hex₂ hs₂;have fin:=zP0 (P:=E.prog) (w0:=w) hs₂.H (le₂ _ _ hσ') aT (λ x hx=>aq _ (hsub₂ x hx)) (Sg.le_trans le le₂) (dV.trans (k3.trans hbel₂));cases hex₂ with
   | normal=>exact fin
   | ret=>exact fin
   | exit id=>exact fin
theorem zJ2{l:Nat}{h h':AH}{f:LoopState->Option Code->LoopState×Option Code}(e:zCW l h f=some h'):Fr h h':=by
 unfold zCW at e;split at e
 ·cases e;exact Fr.upd ..
 ·cases e
theorem zMe{rec:Rec}(bI:zFW rec){l:Nat}{args:List Value}{h:AH}{outs:List (Value×AH)}(e:roundCall E rec l args h=some outs):zCT h outs:=by
 unfold roundCall at e;split at e;rotate_left
 ·cases e
 unfold zDC at e;split at e
 ·cases e
 refine zA3 (p:=λ o=>Fr h o.st.h) e (λ l hl=>zFe bI _ hl) λ o bs ho aK b bj=>?_;unfold zDk at aK;split at aK
 ·have aK:=zAa aK;unfold beginRound at aK;split at aK
  ·rename_i hh;refine zA3 (p:=λ o=>Fr h o.st.h) (q:=λ b=>Fr h b.2) aK (λ l hl o' ho'=>(ho.trans (zJ2 hh)).trans (zFe bI _ hl o' ho')) (λ o' cs ho' aT c fG=>?_) b bj;unfold endRound at aT;unfold zDG at aT;split at aT
   ·rename_i hh';rw[zAk aT] at fG;simp at fG;subst fG;exact ho'.trans (zJ2 hh')
   ·cases aT
  ·cases aK
 ·cases aK
theorem zPS{rec:Rec}(bI:zFW rec){ro:Option Nat}{c:Code}{st:St}{outs:List Out}(e:loopCall E rec ro c st=some outs):∀ o∈outs,Fr st.h o.st.h:=by
 unfold loopCall at e;refine zA3 (p:=λ s=>Fr st.h s.st.h) e (λ l hl=>zFe bI c hl) λ o bs hx hb b bj=>?_;unfold thenC at hb;split at hb
 ·exact hx.trans (bI.loop hb b bj)
 ·rw[zAk hb] at bj;simp at bj;subst bj;exact hx
include hE in
theorem zWY(hX:zOp E):∀ m,zT1 E (zD4 E m)/\zFW (zD4 E m)
 | 0=>⟨⟨⟨λ _ _ e=>by simp[zD4] at e,λ _ _ _ e=>by simp[zD4] at e⟩,λ _ _ _ e=>by simp[zD4] at e⟩,⟨λ e=>by simp[zD4] at e,λ e=>by simp[zD4] at e,λ e=>by simp[zD4] at e⟩⟩
 | m+1=>by
  obtain⟨i1,i2⟩:=zWY hX m;exact⟨⟨⟨λ H ha e=>zXk hE hX i1 i2 H ha e,λ H hσ ha e=>zMd hE i1 H hσ ha e⟩,λ bV ak af e=>zPR hE i1 bV ak af e⟩,
   ⟨λ e=>zXl hX i2 e,λ e=>zMe i2 e,λ e=>zPS i2 e⟩⟩
include hE in
theorem zLx(hX:zOp E){m:Nat}{f:FuncId}(hb:zDQ E f=true){args args':List Value}(H:HR lo σ h w)(ha:VRs σ args args'){outs:List (Value×AH)}(e:(zD4 E m).call f args h=some outs) :
  Calls E.prog f args'.toArray w (Ret (zFw lo σ w outs)):=
 callsIn_wide.1 (zI8 hE (zWY hE hX m).1.toRecOps hb H ha e)
end Go.AM
namespace Go.AM
open Go Go.Proofs
inductive Qy where
 | call (f:FuncId) (a:List Value) (h:AH)
 | loop (ro:Option Nat) (c:Code) (st:St)
 | round (l:Nat) (a:List Value) (h:AH)
def Agr(r s:Rec):Qy->Prop
 | .call f a h=>∀ x,r.call f a h=some x->s.call f a h=some x
 | .loop ro c st=>∀ x,r.loop ro c st=some x->s.loop ro c st=some x
 | .round l a h=>∀ x,r.round l a h=some x->s.round l a h=some x
structure Sup{α:Type}(F:Rec->Option α):Prop where
 out:∀ r y,F r=some y->∃ S:List Qy,∀ s,(∀ q∈S,Agr r s q)->F s=some y
theorem Sup.const{α:Type}(x:Option α):Sup λ _=>x:=⟨λ _ _ e=>⟨[],λ _ _=>e⟩⟩
theorem Sup.call(f:FuncId)(a:List Value)(h:AH):Sup λ r=>r.call f a h:=⟨λ _ _ e=>⟨[.call f a h],λ _ H=>H (.call f a h) (by simp) _ e⟩⟩
theorem Sup.loop(ro:Option Nat)(c:Code)(st:St):Sup λ r=>r.loop ro c st:=⟨λ _ _ e=>⟨[.loop ro c st],λ _ H=>H (.loop ro c st) (by simp) _ e⟩⟩
theorem Sup.round(l:Nat)(a:List Value)(h:AH):Sup λ r=>r.round l a h:=⟨λ _ _ e=>⟨[.round l a h],λ _ H=>H (.round l a h) (by simp) _ e⟩⟩
theorem Sup.bindL{α β:Type}{G:α->Rec->R β}(hG:∀ a,Sup (G a)):∀ l:List α,Sup λ r=>AM.bindL (λ a=>G a r) l
 | []=>Sup.const _
 | a::aas=>by
  refine⟨λ r y e=>?_⟩;simp only[AM.bindL] at e;cases e1:G a r with
  | none=>rw[e1] at e;cases e
  | some b=>
   rw[e1] at e;cases e2:AM.bindL (λ a=>G a r) aas with
   | none=>simp only[e2] at e;cases e
   | some cs=>
    simp only[e2] at e;obtain⟨S1,h1⟩:=(hG a).out r _ e1;obtain⟨S2,h2⟩:=(Sup.bindL hG aas).out r _ e2;refine⟨S1++S2,λ s H=>?_⟩;have k1:=h1 s λ q hq=>H q (by simp[hq]);have k2:=h2 s λ q hq=>H q (by simp[hq]);simp only[AM.bindL];rw[k1]
    try simp only at k2
    rw[k2];exact e
theorem zKv{α β:Type}(x:R α)(f:α->R β):R.andThen x f=x.bind (AM.bindL f):=by
 unfold R.andThen;split
 ·rfl
 ·rename_i a;simp only[xCI,AM.bindL];cases f a <;> simp
 ·rfl
theorem Sup.andThen{α β:Type}{F:Rec->R α}{G:α->Rec->R β}(hF:Sup F)(hG:∀ a,Sup (G a)):Sup λ r=>R.andThen (F r) λ a=>G a r:=by
 refine⟨λ r y e=>?_⟩;simp only[zKv] at e ⊢;cases e1:F r with
 | none=>rw[e1] at e;cases e
 | some l=>
  rw[e1] at e;obtain⟨S1,h1⟩:=hF.out r _ e1;obtain⟨S2,h2⟩:=(Sup.bindL hG l).out r _ e;refine⟨S1++S2,λ s H=>?_⟩;rw[h1 s λ q hq=>H q (by simp[hq])];exact h2 s λ q hq=>H q (by simp[hq])
theorem Sup.cond{α:Type}{F G:Rec->Option α}(b:Bool)(hF:Sup F)(hG:Sup G):Sup λ r=>bif b then F r else G r:=by
 cases b
 ·exact hG
 ·exact hF
theorem Sup.map{α β:Type}{F:Rec->Option α}(hF:Sup F)(g:α->Option β):Sup λ r=>(F r).bind g:=by
 refine⟨λ r y e=>?_⟩
 try simp only at e
 cases e1:F r with
 | none=>rw[e1] at e;cases e
 | some x=>
  rw[e1] at e;obtain⟨S,h⟩:=hF.out r _ e1;exact⟨S,λ s H=>by rw[h s H];exact e⟩
variable (P:Env)
theorem Sup.callFn(fn:Fn)(fs args cs:List Value)(h:AH):Sup λ r=>AM.callFn r fn fs args cs h:=by
 unfold AM.callFn;cases fn with
 | func f=>exact Sup.call f (fs++args++cs) h
 | yield l=>exact Sup.round l (fs++args) h
 | _=>exact .const _
theorem Sup.wCall(c:Call)(T:Tm)(h:AH):Sup λ r=>AM.wCall P r c T h:=by
 unfold AM.wCall;cases c.callee with
 | builtin b=>exact .const _
 | value f=>
  simp only[zAs];generalize zAj T f=x;generalize zBu T c.args.toList=y;cases x with
  | none=>exact .const _
  | some v=>
   cases v with
   | func fn fs cs=>
    cases y with
    | none=>exact .const _
    | some l=>exact .callFn ..
   | _=>exact .const _
 | _=>exact .const _
theorem Sup.evWrite(T:Tm)(o:Oper)(h:AH):Sup λ r=>AM.evWrite P r T o h:=by
 unfold AM.evWrite;split <;> first|exact .const _|exact .wCall ..
theorem Sup.evOp(T:Tm)(o:Oper)(h:AH):Sup λ r=>AM.evOp P r T o h:=by
 unfold AM.evOp;split <;> first|exact .const _|exact .evWrite ..
theorem Sup.evOps(all:List Oper):∀(l:List Oper) (st:St),Sup λ r=>AM.evOps P r all l st
 | [],st=>.const _
 | o::rest,st=>by
  simp only[AM.evOps];split
  ·exact Sup.andThen (.evOp ..) λ x=>Sup.evOps all rest _
  ·exact Sup.evOps all rest _
  ·exact .const _
theorem Sup.joinR{F G:Rec->R St}(hF:Sup F)(hG:Sup G):Sup λ r=>AM.joinR (F r) (G r):=by
 refine⟨λ r y e=>?_⟩
 try simp only at e
 cases e1:F r with
 | none=>rw[e1] at e;cases e
 | some a=>
  cases e2:G r with
  | none=>rw[e1,e2] at e;cases e
  | some b=>
   rw[e1,e2] at e;obtain⟨S1,h1⟩:=hF.out r _ e1;obtain⟨S2,h2⟩:=hG.out r _ e2;refine⟨S1++S2,λ s H=>?_⟩
   try simp only
   rw[h1 s λ q hq=>H q (by simp[hq]),h2 s λ q hq=>H q (by simp[hq])];exact e
theorem Sup.fire(all:List Oper){k:Rec->DK}(hk:∀ a b c d e,Sup λ r=>k r a b c d e)(p:PO)(T:Tm)(done:Nat)(rds:List Rd)(rest:List PO)(h:AH):Sup λ r=>AM.fire P r all (k r) p T done rds rest h:=by
 unfold AM.fire;split
 ·refine Sup.andThen (.evWrite ..) λ x=>?_;unfold zXo;exact Sup.cond _ (hk ..) (.const _)
 ·exact hk ..
 ·exact .const _
theorem Sup.fires(all:List Oper){k:Rec->DK}(hk:∀ a b c d e,Sup λ r=>k r a b c d e)(T:Tm)(done:Nat)(rds:List Rd)(h:AH):∀(l pre:List PO),Sup λ r=>AM.fires P r all (k r) T done rds h pre l
 | [],_=>.const _
 | p::ps,pre=>by
  simp only[AM.fires];exact Sup.cond _ (Sup.joinR (Sup.fire P all hk ..) (Sup.fires all hk T done rds h ps _)) (Sup.fires all hk T done rds h ps _)
theorem Sup.drawRun(all:List Oper)(defs:List Nat):∀(f:Nat) (T:Tm) (done:Nat) (rds:List Rd) (rest:List PO) (h:AH),Sup λ r=>AM.drawRun P r all defs f T done rds rest h
 | 0,_,_,_,_,_=>.const _
 | f+1,T,done,rds,rest,h=>by
  simp only[AM.drawRun];split
  ·exact .const _
  ·rename_i s _;split
   ·exact .const _
   ·refine⟨λ r y e=>?_⟩;have hk:=Sup.fires P all (k:=λ r=>AM.drawRun P r all defs f) (λ a b c d e=>Sup.drawRun all defs f a b c d e) s.T s.done s.rds h s.rest [];have hm:=Sup.map hk λ l=>(match l with|a::aas=>some (a::aas)|_=>none:R St);have key:∀ x:R St,zMV x=x.bind λ l=>(match l with|a::aas=>some (a::aas)|_=>none:R St):=by
     intro x;cases x with|none=>rfl|some l=>cases l <;> rfl
    simp only[key] at e ⊢;exact hm.out r y e
theorem Sup.evRegion(ops:List Oper)(draw:Bool)(st:St):Sup λ r=>AM.evRegion P r ops draw st:=by
 unfold AM.evRegion;cases draw
 ·exact .evOps ..
 ·exact .drawRun ..
theorem Sup.thenC{G:St->Rec->R Out}(hG:∀ s,Sup (G s))(o:Out):Sup λ r=>AM.thenC (λ s=>G s r) o:=by
 unfold AM.thenC;cases o.ex with
 | normal=>exact hG _
 | _=>exact .const _
theorem Sup.evRange(ro:Option Nat)(f:Option Value)(ps:List Tmp)(aas body:Code)(st:St):Sup λ r=>AM.evRange P r ro f ps aas body st:=by
 have hs:∀ f fs cs d defs T h1,Sup λ r=>zB5 r f fs cs ps aas body d defs T h1:=λ f fs cs d defs T h1=>by
  unfold zB5;exact Sup.andThen (.call ..) λ x=>.const _
 unfold AM.evRange;split
 ·refine Sup.cond _ ?_ (.const _);split
  ·exact hs ..
  ·exact Sup.cond _ (hs ..) (.const _)
 ·exact .const _
theorem Sup.evC(ro:Option Nat):∀(c:Code) (st:St),Sup λ r=>AM.evC P r ro c st
 | .region _ ops d,st=>by simp only[AM.evC];exact Sup.andThen (.evRegion ..) λ _=>.const _
 | .seq a b,st=>by
  simp only[AM.evC];exact Sup.andThen (Sup.evC ro a st) λ o=>Sup.thenC (G:=λ s r=>AM.evC P r ro b s) (λ s=>Sup.evC ro b s) o
 | .cond c t e,st=>by
  simp only[AM.evC,zX0];split
  ·exact Sup.cond _ (Sup.evC ro t st) (Sup.evC ro e st)
  ·exact .const _
 | .block id c,st=>by
  simp only[AM.evC];refine Sup.andThen (Sup.evC ro c st) λ o=>.const _
 | .loop c,st=>by
  simp only[AM.evC];exact Sup.andThen (Sup.evC ro c st) λ o=>Sup.thenC (G:=λ s r=>r.loop ro c s) (λ s=>.loop ..) o
 | .rangeFunc f ps aas body,st=>by simp only[AM.evC];exact .evRange ..
 | .skip,st=>.const _
 | .exit id,st=>.const _
 | .label _,st=>.const _
 | .ret,st=>.const _
 | .goto _,st=>.const _
 | .scope _,st=>.const _
 | .refuse _,st=>.const _
theorem Sup.fnCall(f:FuncId)(a:List Value)(h:AH):Sup λ r=>AM.fnCall P r f a h:=by
 unfold AM.fnCall;split
 ·exact .const _
 ·split
  ·exact .const _
  ·rename_i fn _ _ c _;split
   ·exact .const _
   unfold zEV;refine Sup.cond _ ?_ (.const _);have hm:=Sup.map (Sup.andThen (Sup.evC P none c ⟨⟨fn.ntmps,zCp a 0 .e⟩,⟨h.t,h.qa,Nat.add h.qa UNK⟩,[]⟩) λ o=>Sup.const (zAU P fn o)) λ outs=>some ((zEY ⟨h.t,h.qa,Nat.add h.qa UNK⟩ outs).map (zg9 h.wm));refine⟨λ r y e=>?_⟩;have key:∀ x:R (Value×AH),zEl ⟨h.t,h.qa,Nat.add h.qa UNK⟩ h.wm x=x.bind λ outs=>some ((zEY ⟨h.t,h.qa,Nat.add h.qa UNK⟩ outs).map (zg9 h.wm)):=by
    intro x;cases x <;> rfl
   simp only[key] at e ⊢;exact hm.out r y e
theorem Sup.loopCall(ro:Option Nat)(c:Code)(st:St):Sup λ r=>AM.loopCall P r ro c st:=by
 unfold AM.loopCall;exact Sup.andThen (Sup.evC P ro c st) λ o=>Sup.thenC (G:=λ s r=>r.loop ro c s) (λ s=>.loop ..) o
theorem Sup.roundCall(l:Nat)(a:List Value)(h:AH):Sup λ r=>AM.roundCall P r l a h:=by
 unfold AM.roundCall;split
 ·rename_i T ps aas body _ _;generalize zBs T ps a=x;cases x with
  | none=>exact .const _
  | some T=>
   simp only[zDC];refine Sup.andThen (Sup.evC P _ aas _) λ o=>?_;unfold zDk;split
   ·refine Sup.cond _ ?_ (.const _);generalize zCW l o.st.h _=z;cases z with
    | none=>exact .const _
    | some h=>
     simp only[beginRound];exact Sup.andThen (Sup.evC P _ body _) λ _=>.const _
   ·exact .const _
 ·exact .const _
theorem zMg:∀(m:Nat) (q:Qy),Agr (zD4 P m) (zD4 P (m+1)) q
 | 0,q=>by cases q <;> (intro x e;simp[zD4] at e)
 | m+1,q=>by
  have ih:=zMg m;cases q with
  | call f a h=>
   intro x e;obtain⟨S,hS⟩:=(Sup.fnCall P f a h).out (zD4 P m) x e;exact hS (zD4 P (m+1)) λ q _=>ih q
  | loop ro c st=>
   intro x e;obtain⟨S,hS⟩:=(Sup.loopCall P ro c st).out (zD4 P m) x e;exact hS (zD4 P (m+1)) λ q _=>ih q
  | round l a h=>
   intro x e;obtain⟨S,hS⟩:=(Sup.roundCall P l a h).out (zD4 P m) x e;exact hS (zD4 P (m+1)) λ q _=>ih q
theorem Agr.trans{r s t:Rec}:∀ {q:Qy},Agr r s q->Agr s t q->Agr r t q
 | .call ..,h,k=>λ x e=>k x (h x e)
 | .loop ..,h,k=>λ x e=>k x (h x e)
 | .round ..,h,k=>λ x e=>k x (h x e)
theorem Agr.refl(r:Rec):∀ q:Qy,Agr r r q
 | .call ..=>λ _ e=>e
 | .loop ..=>λ _ e=>e
 | .round ..=>λ _ e=>e
theorem zIZ{m n:Nat}(h:m<=n)(q:Qy):Agr (zD4 P m) (zD4 P n) q:=by
 induction h with
 | refl=>exact Agr.refl _ q
 | step _ ih=>exact ih.trans (zMg P _ q)
open Classical in
def lim{α:Type}(g:Nat->Option α):Option α:=if h:∃ m,(g m).isSome then g h.choose else none
theorem zLb{α:Type}{g:Nat->Option α}(mono:∀ m n x,m<=n->g m=some x->g n=some x){x:α}:lim g=some x ↔ ∃ m,g m=some x:=by
 unfold lim;constructor
 ·intro e;split at e
  ·exact⟨_,e⟩
  ·cases e
 ·rintro⟨m,e⟩;have h:∃ m,(g m).isSome:=⟨m,by rw[e];rfl⟩;rw[dif_pos h];obtain⟨y,hy⟩:=Option.isSome_iff_exists.1 h.choose_spec;have a1:=mono _ (max m h.choose) _ (Nat.le_max_left ..) e;have a2:=mono _ (max m h.choose) _ (Nat.le_max_right ..) hy;rw[hy,← a2,a1]
def zc:Rec:=
 { call:=(λ f a h=>lim λ m=>(zD4 P m).call f a h),loop:=(λ ro c st=>lim λ m=>(zD4 P m).loop ro c st),round:=(λ l a h=>lim λ m=>(zD4 P m).round l a h) }
theorem zCF{f:FuncId}{a:List Value}{h:AH}{x:List (Value×AH)}:(zc P).call f a h=some x ↔ ∃ m,(zD4 P m).call f a h=some x:=
 zLb λ _ _ x hm e=>zIZ P hm (.call f a h) x e
theorem zGE{ro:Option Nat}{c:Code}{st:St}{x:List Out}:(zc P).loop ro c st=some x ↔ ∃ m,(zD4 P m).loop ro c st=some x:=
 zLb λ _ _ x hm e=>zIZ P hm (.loop ro c st) x e
theorem zFG{l:Nat}{a:List Value}{h:AH}{x:List (Value×AH)}:(zc P).round l a h=some x ↔ ∃ m,(zD4 P m).round l a h=some x:=
 zLb λ _ _ x hm e=>zIZ P hm (.round l a h) x e
theorem zsA(m:Nat):∀ q:Qy,Agr (zD4 P m) (zc P) q
 | .call ..=>λ _ e=>(zCF P).2 ⟨m,e⟩
 | .loop ..=>λ _ e=>(zGE P).2 ⟨m,e⟩
 | .round ..=>λ _ e=>(zFG P).2 ⟨m,e⟩
theorem zm5:∀ S:List Qy,∃ m,∀ q∈S,Agr (zc P) (zD4 P m) q
 | []=>⟨0,λ _ h=>by cases h⟩
 | q::S=>by
  obtain⟨m,hm⟩:=zm5 S;have hq:∃ n,Agr (zc P) (zD4 P n) q:=by
   cases q with
   | call f a h=>
    cases e:(zc P).call f a h with
    | none=>exact⟨0,λ x e'=>by rw[e] at e';cases e'⟩
    | some x=>obtain⟨n,hn⟩:=(zCF P).1 e;exact⟨n,λ y e'=>by rw[e] at e';cases e';exact hn⟩
   | loop ro c st=>
    cases e:(zc P).loop ro c st with
    | none=>exact⟨0,λ x e'=>by rw[e] at e';cases e'⟩
    | some x=>obtain⟨n,hn⟩:=(zGE P).1 e;exact⟨n,λ y e'=>by rw[e] at e';cases e';exact hn⟩
   | round l a h=>
    cases e:(zc P).round l a h with
    | none=>exact⟨0,λ x e'=>by rw[e] at e';cases e'⟩
    | some x=>obtain⟨n,hn⟩:=(zFG P).1 e;exact⟨n,λ y e'=>by rw[e] at e';cases e';exact hn⟩
  obtain⟨n,hn⟩:=hq;refine⟨max m n,λ q' eL=>?_⟩;rcases xCg.1 eL with rfl|eL
  ·exact hn.trans (zIZ P (Nat.le_max_right ..) _)
  ·exact (hm _ eL).trans (zIZ P (Nat.le_max_left ..) _)
theorem zXn{α:Type}{F:Rec->Option α}(hF:Sup F){x:α}:F (zc P)=some x ↔ ∃ m,F (zD4 P m)=some x:=by
 constructor
 ·intro e;obtain⟨S,hS⟩:=hF.out _ _ e;obtain⟨m,hm⟩:=zm5 P S;exact⟨m,hS _ hm⟩
 ·rintro⟨m,e⟩;obtain⟨S,hS⟩:=hF.out _ _ e;exact hS _ λ q _=>zsA P m q
theorem zPM{α:Type}{a b:Option α}(h:∀ x,a=some x ↔ b=some x):a=b:=by
 cases a with
 | none=>cases b with
  | none=>rfl
  | some y=>exact ((h y).2 rfl)
 | some x=>exact ((h x).1 rfl).symm
theorem zX3(f:FuncId)(a:List Value)(h:AH):(zc P).call f a h=AM.fnCall P (zc P) f a h:=by
 refine zPM λ x=>?_;rw[zXn P (Sup.fnCall P f a h),zCF];constructor
 ·rintro⟨m,e⟩;cases m with
  | zero=>simp[zD4] at e
  | succ m=>exact⟨m,e⟩
 ·rintro⟨m,e⟩;exact⟨m+1,e⟩
theorem zWu(ro:Option Nat)(c:Code)(st:St):(zc P).loop ro c st=AM.loopCall P (zc P) ro c st:=by
 refine zPM λ x=>?_;rw[zXn P (Sup.loopCall P ro c st),zGE];constructor
 ·rintro⟨m,e⟩;cases m with
  | zero=>simp[zD4] at e
  | succ m=>exact⟨m,e⟩
 ·rintro⟨m,e⟩;exact⟨m+1,e⟩
theorem zQw(l:Nat)(a:List Value)(h:AH):(zc P).round l a h=AM.roundCall P (zc P) l a h:=by
 refine zPM λ x=>?_;rw[zXn P (Sup.roundCall P l a h),zFG];constructor
 ·rintro⟨m,e⟩;cases m with
  | zero=>simp[zD4] at e
  | succ m=>exact⟨m,e⟩
 ·rintro⟨m,e⟩;exact⟨m+1,e⟩
theorem zFf{E:Env}(hE:zCt E)(hX:zOp E){f:FuncId}(hb:zDQ E f=true){lo:Nat}{σ:Sg}{h:AH}{w:World}{args args':List Value}(H:HR lo σ h w)(ha:VRs σ args args'){outs:List (Value×AH)}(e:(zc E).call f args h=some outs) :
  Calls E.prog f args'.toArray w (Ret (zFw lo σ w outs)):=by
 obtain⟨m,e⟩:=(zCF E).1 e;exact zLx hE hX hb H ha e
end Go.AM
namespace Go.AM
open Go Go.Proofs Go.RowKit
def zE6(A:List Tmp)(T T':Tm):Prop:=∀ t∈A,T.get t=T'.get t
section
variable {T T':Tm} {xs:List Operand}
def zNf(xs:List Operand)(T T':Tm):Prop:=∀ t,Operand.tmp t∈xs->T.get t=T'.get t
theorem zCn(H:zNf xs T T'){x:Operand}(hx:x∈xs):zAj T x=zAj T' x:=by
 cases x with
 | tmp t=>simp only[zAj];rw[H t hx]
 | _=>rfl
theorem zHx(H:zNf xs T T'){x:Operand}(hx:x∈xs):rho T x=rho T' x:=by
 cases x with
 | tmp t=>simp only[rho];rw[H t hx]
 | _=>rfl
theorem zAn(H:zNf xs T T'){x:Operand}(hx:x∈xs):zr T x=zr T' x:=by
 cases x with
 | tmp t=>simp only[zr];rw[H t hx]
 | _=>rfl
theorem zCZ(H:zNf xs T T'):∀ {ys:List Operand},(∀ y∈ys,y∈xs)->zBu T ys=zBu T' ys
 | [],_=>rfl
 | y::ys,h=>by
  simp only[zBu];rw[zCn H (h y (by simp)),zCZ H λ z hz=>h z (by simp[hz])]
theorem zGx(H:zNf xs T T'):∀ {ys:List (Nat×Operand)},(∀ y∈ys,y.2∈xs)->zHn T ys=zHn T' ys
 | [],_=>rfl
 | (i,y)::ys,h=>by
  simp only[zHn];rw[zCn H (h (i,y) (by simp)),zGx H λ z hz=>h z (by simp[hz])]
theorem all_same{ys:List Operand}(H:zNf xs T T')(h:∀ y∈ys,y∈xs):ys.all (zr T)=ys.all (zr T'):=by
 induction ys with
 | nil=>rfl
 | cons y ys ih=>simp only[xCj];rw[zAn H (h y (by simp)),ih λ z hz=>h z (by simp[hz])]
theorem zBg{P:Env}{o:Oper}(H:zNf o.op.operands.toList T T'):zCG P T o=zCG P T' o:=by
 unfold zCG;rw[all_same H λ _ h=>h];cases hs:zD6 o.op with
 | false=>simp
 | true=>
  have gH:execOp (rho T) o=execOp (rho T') o:=by
   refine execOp_congr o (λ cs b aV=>?_) (λ x hx=>zHx H (xBF.2 hx));rw[aV] at hs;simp[zD6] at hs
  rw[gH]
variable {P:Env}
theorem zWo{op:BinOp}{t:TypeId}{x y:Operand}{o:Oper}(H:zNf o.op.operands.toList T T')(hx:x∈o.op.operands.toList)(hy:y∈o.op.operands.toList):zom P op t x y T o=zom P op t x y T' o:=by
 unfold zom zH1;rw[zHx H hx,zHx H hy,zAn H hx,zAn H hy,zBg H,zCn H hx,zCn H hy]
theorem zFq{o:Oper}(H:zNf o.op.operands.toList T T'):zw P T o=zw P T' o:=by
 have hop:∀ x,x∈o.op.operands.toList->zAj T x=zAj T' x:=λ x hx=>zCn H hx;unfold zw;split
 case _ x e=>exact hop x (by rw[e];simp[Op.operands])
 case _ x e=>exact hop x (by rw[e];simp[Op.operands])
 case _ c a b e=>
  unfold pPick;rw[hop c (by rw[e];simp[Op.operands])];split
  ·rename_i t _;cases t
   ·exact hop b (by rw[e];simp[Op.operands])
   ·exact hop a (by rw[e];simp[Op.operands])
  ·rfl
 case _ x e=>rw[hop x (by rw[e];simp[Op.operands])]
 case _ op t x y c e=>exact zWo H (by rw[e];simp[Op.operands]) (by rw[e];simp[Op.operands])
 case _ op x e=>
  unfold pUn zS4;rw[zHx H (by rw[e];simp[Op.operands]),zAn H (x:=x) (by rw[e];simp[Op.operands]),zBg H]
 case _ x e=>
  unfold zS4;rw[zAn H (x:=x) (by rw[e];simp[Op.operands]),zBg H]
 case _ x i e=>rw[hop x (by rw[e];simp[Op.operands])]
 case _ t ps e=>rw[zGx H (λ y hy=>by rw[e];simp only[Op.operands];simp;exact⟨y.1,by simpa using hy⟩)]
 case _ t x f e=>rw[hop x (by rw[e];simp[Op.operands])]
 case _ t x i e=>rw[hop x (by rw[e];simp[Op.operands]),hop i (by rw[e];simp[Op.operands])]
 case _ t x f e=>rw[hop x (by rw[e];simp[Op.operands])]
 case _ t x i e=>rw[hop x (by rw[e];simp[Op.operands]),hop i (by rw[e];simp[Op.operands])]
 case _ t x lo hi mx e=>
  have hm:∀ y:Option Operand,(∀ z∈y.toList,z∈o.op.operands.toList)->zBu T y.toList=zBu T' y.toList:=λ y hy=>zCZ H hy;unfold zIe;rw[zAn H (x:=x) (by rw[e];simp[Op.operands]),zBg H,hop x (by rw[e];simp[Op.operands]),
   hm lo (by rw[e];simp[Op.operands];intro z hz;simp[hz]),hm hi (by rw[e];simp[Op.operands];intro z hz;simp[hz]),hm mx (by rw[e];simp[Op.operands];intro z hz;simp[hz])]
 case _ fn fs cs e=>
  rw[zCZ H (ys:=fs.toList) (by rw[e];simp[Op.operands];intro z hz;simp[hz]),zCZ H (ys:=cs.toList) (by rw[e];simp[Op.operands];intro z hz;simp[hz])]
 all_goals rfl
theorem zC9{o:Oper}{c:Call}(e:o.op=.call c):(∀ y∈c.args.toList,y∈o.op.operands.toList)/\∀ f,c.callee=.value f->f∈o.op.operands.toList:=by
 rw[e];constructor
 ·intro y hy;simp[Op.operands,Call.operands];exact .inr (by simpa using hy)
 ·intro f hf;simp[Op.operands,Call.operands,hf]
theorem zEO{o:Oper}(H:zNf o.op.operands.toList T T')(h:AH):zh P T o h=zh P T' o h:=by
 have hop:∀ x,x∈o.op.operands.toList->zAj T x=zAj T' x:=λ x hx=>zCn H hx;unfold zh;split
 case _ t a e=>rw[hop a (by rw[e];simp[Op.operands])]
 case _ src dst x e=>
  unfold zof;rw[zAn H (x:=x) (by rw[e];simp[Op.operands]),zBg H,hop x (by rw[e];simp[Op.operands])]
 case _ t x k ok e=>rw[hop x (by rw[e];simp[Op.operands]),hop k (by rw[e];simp[Op.operands])]
 case _ x e=>rw[hop x (by rw[e];simp[Op.operands])]
 case _ c e=>
  split
  ·rename_i b hb;rw[zCZ H (zC9 e).1];split
   ·unfold zHz;rw[zBg H]
   ·rfl
  ·rfl
 all_goals rfl
theorem zHe{o:Oper}(H:zNf o.op.operands.toList T T')(r:Rec)(h:AH):evWrite P r T o h=evWrite P r T' o h:=by
 have hop:∀ x,x∈o.op.operands.toList->zAj T x=zAj T' x:=λ x hx=>zCn H hx;unfold evWrite;split
 case _ t e=>rfl
 case _ t x e=>rw[hop x (by rw[e];simp[Op.operands])]
 case _ t a x e=>rw[hop a (by rw[e];simp[Op.operands]),hop x (by rw[e];simp[Op.operands])]
 case _ t len ps e=>rw[zGx H (λ y hy=>by rw[e];simp only[Op.operands];simp;exact⟨y.1,by simpa using hy⟩)]
 case _ e=>rfl
 case _ t l c e=>rw[hop l (by rw[e];simp[Op.operands]),hop c (by rw[e];simp[Op.operands])]
 case _ t m k v e=>rw[hop m (by rw[e];simp[Op.operands]),hop k (by rw[e];simp[Op.operands]),hop v (by rw[e];simp[Op.operands])]
 case _ t m k v e=>rw[hop m (by rw[e];simp[Op.operands]),hop k (by rw[e];simp[Op.operands]),hop v (by rw[e];simp[Op.operands])]
 case _ t x e=>rw[hop x (by rw[e];simp[Op.operands])]
 case _ x s e=>rw[hop x (by rw[e];simp[Op.operands])]
 case _ c e=>
  unfold wCall;split
  ·rw[zCZ H (zC9 e).1]
  ·rename_i f hf;rw[zCZ H (zC9 e).1,hop f ((zC9 e).2 f hf)]
  ·rfl
 all_goals rfl
end
end Go.AM
section
section
namespace Go.AM
open Go Go.Proofs
def Ev{α:Type}(s:Bool)(x:R α)(Q:α->Prop):Prop:=∃ l,x=some l/\l≠[]/\(s=true->l.length=1)/\∀ a∈l,Q a
theorem Ev.mono{α:Type}{s:Bool}{x:R α}{Q Q':α->Prop}(h:Ev s x Q)(hQ:∀ a,Q a->Q' a):Ev s x Q':=
 let ⟨l,a,b,c,d⟩:=h;⟨l,a,b,c,λ x hx=>hQ x (d x hx)⟩
theorem Ev.one{α:Type}{s:Bool}{a:α}{Q:α->Prop}(h:Q a):Ev s (AM.one a) Q:=⟨[a],rfl,by simp,λ _=>rfl,λ b hb=>by simp at hb;rw[hb];exact h⟩
theorem zJ{α:Type}{s:Bool}{a:α}{Q:α->Prop}:Ev s (some [a]) Q ↔ Q a:=⟨λ ⟨l,e,_,_,h⟩=>by cases e;exact h a (by simp),λ h=>Ev.one h⟩
theorem zF{α:Type}{s:Bool}{a:α}{Q:α->Prop}:Ev s (one a) Q ↔ Q a:=zJ
theorem Ev.bindL{α β:Type}{s:Bool}{f:α->R β}{Q:β->Prop}:∀ {l:List α},l≠[]->(s=true->l.length=1)->(∀ a∈l,Ev s (f a) Q)->Ev s (AM.bindL f l) Q
 | [a],_,_,h=>by
  obtain⟨l,e,h1,h2,h3⟩:=h a (by simp);simp only[AM.bindL,e,xCb];exact⟨l,rfl,h1,h2,h3⟩
 | a::b::aas,_,h1,h=>by
  have hs:s=false:=by cases s with|false=>rfl|true=>have:=h1 rfl;simp at this
  subst hs;obtain⟨l,e,k1,_,k3⟩:=h a (by simp);obtain⟨l',e',j1,_,j3⟩:=Ev.bindL (s:=false) (l:=b::aas) (by simp) (λ h=>by cases h) λ c hc=>h c (by simp at hc ⊢;exact .inr hc);have:AM.bindL f (a::b::aas)=some (l++l'):=by simp only[AM.bindL] at e' ⊢;rw[e];simp only[e']
  rw[this];exact⟨_,rfl,by simp[k1],(λ h=>nomatch h),λ c hc=>(xCU.1 hc).elim (k3 c) (j3 c)⟩
theorem Ev.andThen{α β:Type}{s:Bool}{x:R α}{f:α->R β}{Q:β->Prop}(h:Ev s x λ a=>Ev s (f a) Q):Ev s (R.andThen x f) Q:=by
 obtain⟨l,e,h1,h2,h3⟩:=h;rw[zKv,e];exact Ev.bindL h1 h2 h3
theorem Ev.weak{α:Type}{x:R α}{Q:α->Prop}{s:Bool}(h:Ev true x Q):Ev s x Q:=let ⟨l,a,b,c,d⟩:=h;⟨l,a,b,λ _=>c rfl,d⟩
theorem Ev.single{α:Type}{x:R α}{a:α}(h:Ev true x λ b=>b=a):x=some [a]:=by
 obtain⟨l,e,_,h2,h3⟩:=h;have:=h2 rfl
 match l,this with
 | [b],_=>rw[e,h3 b (by simp)]
@[congr] theorem zh5{α:Type}{s:Bool}{x y:R α}{Q:α->Prop}(h:x=y):Ev s x Q=Ev s y Q:=by rw[h]
def EvO{α:Type}(x:Option α)(K:α->Prop):Prop:=match x with
 | some v=>K v
 | none=>False
theorem zA{α:Type}{v:α}{K:α->Prop}:EvO (some v) K ↔ K v:=Iff.rfl
theorem zRb{α:Type}{K:α->Prop}:EvO (none:Option α) K ↔ False:=Iff.rfl
theorem EvO.ex{α:Type}{x:Option α}{K:α->Prop}(h:EvO x K):∃ v,x=some v/\K v:=match x,h with
 | some v,h=>⟨v,rfl,h⟩
theorem EvO.of{α:Type}{x:Option α}{K:α->Prop}{v:α}(e:x=some v)(h:K v):EvO x K:=by rw[e];exact h
@[congr] theorem zsr{α:Type}{x y:Option α}{K:α->Prop}(h:x=y):EvO x K=EvO y K:=by rw[h]
def gdB(g:Value)(want:Bool)(x:Option Value):Option Value:=match g with
 | .bool b=>cond (b==want) x (some undef)
 | _=>some undef
def gdW(g:Value)(want:Bool)(x:R (Value×AH))(h:AH):R (Value×AH):=match g with
 | .bool b=>cond (b==want) x (one (undef,h))
 | _=>one (undef,h)
def zVh(all:List Oper)(j:Nat):Option Tmp:=match lnth all j with
 | some oj=>oj.dst
 | none=>none
def gdO(all:List Oper)(T:Tm)(o:Oper)(x:Option Value):Option Value:=match o.guard with
 | none=>x
 | some (j,want)=>match zVh all j with
  | some d=>gdB (T.get d) want x
  | none=>some undef
def gdR(all:List Oper)(T:Tm)(o:Oper)(x:R (Value×AH))(h:AH):R (Value×AH):=match o.guard with
 | none=>x
 | some (j,want)=>match zVh all j with
  | some d=>gdW (T.get d) want x h
  | none=>one (undef,h)
def zpE(T:Tm):List Nat->List (Nat×Value)
 | []=>[]
 | t::ts=>(t,T.get t)::zpE T ts
def zAc:List (Nat×Value)->Tm
 | []=>⟨0,.e⟩
 | x::l=>(zAc l).put x.1 x.2
theorem zRS(T:Tm):∀ {l:List Nat} {t:Nat},t∈l->(zAc (zpE T l)).get t=T.get t
 | u::l,t,h=>by
  simp only[zpE,zAc,Tm.get_put];by_cases e:t=u
  ·simp[e]
  ·rw[xDN e];exact zRS T ((xCg.1 h).resolve_left e)
def zrM(T:Tm)(o:Oper):Tm:=zAc (zpE T (zDz o.op.operands.toList))
theorem zMt(T:Tm)(o:Oper):zNf o.op.operands.toList (zrM T o) T:=λ _ ht=>zRS T (mem_tmpsOf.2 ht)
def zGG(c a b:Option Value):Option Value:=match c with
 | some (.bool t)=>cond t a b
 | _=>none
def zsd(op:BinOp):Bool:=match op with
 | .eql=>true
 | .neq=>true
 | _=>false
def zXW(op:BinOp):Bool:=match op with
 | .add=>true
 | .sub=>true
 | .mul=>true
 | .eql=>true
 | .neq=>true
 | .lss=>true
 | .leq=>true
 | .gtr=>true
 | .geq=>true
 | _=>false
def zYY(P:Env)(op:BinOp)(t:TypeId):Bool:=match und P t with
 | some (.int _)=>zXW op
 | some (.array _ _)=>zsd op
 | _=>false
section
variable (P:Env)
def zDx(T:Tm)(o:Oper):Option Value:=match o.op with
 | .move x=>zAj T x
 | .assign x=>zAj T x
 | .pick c a b=>zGG (zAj T c) (zAj T a) (zAj T b)
 | .nilCheck x=>zAz (zAj T x)
 | .binOp op t x y _=>cond (zYY P op t) (zAJ P op t (rho T x) (rho T y)) (zw P (zrM T o) o)
 | .unOp .not _ x=>zDg .not (rho T x)
 | .extract x i=>z6 i (zAj T x)
 | .build t ps=>zAT P t (zHn T ps.toList)
 | .field t x f=>zDP P t f (zAj T x)
 | .index t x i=>zBl P t (zAj T x) (zAj T i)
 | .fieldAddr t x f=>zX P t f (zAj T x)
 | .indexAddr t x i=>zV P t (zAj T x) (zAj T i)
 | .makeFunc fn fs cs=>zAX fn (zBu T fs.toList) (zBu T cs.toList)
 | _=>zw P (zrM T o) o
def zHD(T:Tm)(o:Oper)(h:AH):Option Value:=match o.op with
 | .load t a=>zb P t h (zAj T a)
 | .lookup t x k ok=>zAy P t ok (zAj T x) (zAj T k) h
 | .entry x=>zC4 (zAj T x) h
 | _=>zh P (zrM T o) o h
def zMJ(b:Builtin)(ts:List TypeId)(vs:List Value)(h:AH):R (Value×AH):=
  match b,vs,ts with
  | .append,[s,x],_=>v2 (zBD P ts s x h)
  | .clear,[x],t::_=>zIM P t x h
  | .copy,[d,s],t::_=>zVv P t d s h
  | .unsafeString,[p,n],t::_=>zCB P t p n h
  | _,_,_=>none
def zy(b:Builtin)(ts:List TypeId)(vs:Option (List Value))(h:AH):R (Value×AH):=match vs with
 | some vs=>zMJ P b ts vs h
 | none=>none
def zGb(r:Rec)(T:Tm)(o:Oper)(h:AH):R (Value×AH):=match o.op with
 | .call c=>(match c.callee with
  | .builtin b=>zy P b c.argTypes.toList (zBu T c.args.toList) h
  | .value f=>zAs r (zAj T f) (zBu T c.args.toList) h
  | _=>none)
 | _=>evWrite P r T o h
def zEP(T:Tm)(o:Oper)(h:AH):Option Value:=match cls o.op with
 | .pure=>zDx P T o
 | .read=>zHD P T o h
 | .write=>none
end
variable {P:Env}
theorem zI5{T:Tm}{o:Oper}{v:Value}(h:zDx P T o=some v):zw P T o=some v:=by
 have gen:zw P (zrM T o) o=some v->zw P T o=some v:=λ h=>by rw[← zFq (zMt T o)];exact h
 unfold zDx at h;split at h
 case _ x e=>unfold zw;rw[e];exact h
 case _ x e=>unfold zw;rw[e];exact h
 case _ c a b e=>
  unfold zw;rw[e];unfold zGG at h;unfold AM.pPick;simp only;split at h
  ·rename_i t ht;rw[ht];cases t <;> exact h
  ·cases h
 case _ x e=>unfold zw;rw[e];exact h
 case _ op t x y c e=>
  cases hb:zYY P op t with
  | false=>rw[hb] at h;exact gen h
  | true=>
   rw[hb] at h;simp only[xAG] at h;unfold zw;rw[e];simp only[zom,h]
 case _ t x e=>
  unfold zw;rw[e];simp only[pUn,h]
 case _ x i e=>unfold zw;rw[e];exact h
 case _ t ps e=>unfold zw;rw[e];exact h
 case _ t x f e=>unfold zw;rw[e];exact h
 case _ t x i e=>unfold zw;rw[e];exact h
 case _ t x f e=>unfold zw;rw[e];exact h
 case _ t x i e=>unfold zw;rw[e];exact h
 case _ fn fs cs e=>unfold zw;rw[e];exact h
 case _=>exact gen h
theorem zFp{T:Tm}{o:Oper}{h:AH}{v:Value}(e:zHD P T o h=some v):zh P T o h=some v:=by
 have gen:zh P (zrM T o) o h=some v->zh P T o h=some v:=λ e=>by rw[← zEO (zMt T o)];exact e
 unfold zHD at e;split at e
 case _ t a eo=>unfold zh;rw[eo];exact e
 case _ t x k ok eo=>unfold zh;rw[eo];exact e
 case _ x eo=>unfold zh;rw[eo];exact e
 case _=>exact gen e
theorem zNH{T:Tm}{o:Oper}{h:AH}{v:Value}(e:zEP P T o h=some v):zDW P T o h=some v:=by
 unfold zEP at e;unfold zDW;split at e
 ·rename_i hc;rw[hc];exact zI5 e
 ·rename_i hc;rw[hc];exact zFp e
 ·cases e
theorem zI4(r:Rec)(T:Tm)(o:Oper)(h:AH):zGb P r T o h=evWrite P r T o h:=by
 unfold zGb;split
 ·rename_i c e;unfold evWrite;rw[e];simp only[wCall];split
  ·rename_i b hb;rw[hb];unfold zy;cases zBu T c.args.toList with
   | none=>rfl
   | some vs=>
    simp only;unfold zMJ zE8;rfl
  ·rename_i f hf;rw[hf]
  ·rename_i h1 h2;split
   ·rename_i b hb;exact absurd hb (h1 b)
   ·rename_i f hf;exact absurd hf (h2 f)
   ·rfl
 ·rfl
theorem EvO.imp{α:Type}{x y:Option α}{K:α->Prop}(h:EvO x K)(hx:∀ v,x=some v->y=some v):EvO y K:=let ⟨_,e,k⟩:=h.ex;.of (hx _ e) k
theorem zXh{all:List Oper}{T:Tm}{o:Oper}{x y:Option Value}(hx:∀ v,x=some v->y=some v):∀ v,gdO all T o x=some v->gdO all T o y=some v:=by
 intro v h;unfold gdO gdB at h ⊢;cases hg:o.guard with
 | none=>rw[hg] at h;exact hx v h
 | some a=>
  rw[hg] at h;simp only at h ⊢;cases hd:zVh all a.1 with
  | none=>rw[hd] at h;exact h
  | some d=>
   rw[hd] at h;simp only at h ⊢;cases ht:T.get d with
   | bool b=>
    rw[ht] at h;simp only at h ⊢;cases hb:(b==a.2) with
    | true=>rw[hb] at h;exact hx v h
    | false=>rw[hb] at h;exact h
   | _=>rw[ht] at h;exact h
section
variable (P:Env) (r:Rec) (s:Bool)
def zVg(all:List Oper):List Oper->Tm->AH->(Tm->AH->Prop)->Prop
 | [],T,h,K=>K T h
 | o::rest,T,h,K=>match cls o.op with
  | .pure=>EvO (gdO all T o (zDx P T o)) λ v=>zVg all rest (putDst T o.dst v) h K
  | .read=>EvO (gdO all T o (zHD P T o h)) λ v=>zVg all rest (putDst T o.dst v) h K
  | .write=>Ev s (gdR all T o (zGb P r T o h) h) λ x=>zVg all rest (putDst T o.dst x.1) x.2 K
def zhA(t:Nat):List Nat->Bool
 | []=>false
 | a::aas=>Nat.beq a t||zhA t aas
def subN(A B:List Nat):Bool:=A.all λ t=>zhA t B
def zHS(all:List Oper)(o:Oper):List Tmp:=zDz o.op.operands.toList++(match o.guard with|some (j,_)=>(zVh all j).toList|none=>[])
def ztt(d:Option Tmp)(A:List Nat):List Nat:=match d with|some d=>d::A|none=>A
def zWa(all:List Oper):List Nat->List Oper->Option (List Nat)
 | A,[]=>some A
 | A,o::rest=>cond (subN (zHS all o) A) (zWa all (ztt o.dst A) rest) none
end
theorem memN_iff{t:Nat}:∀ {A:List Nat},zhA t A=true ↔ t∈A
 | []=>by simp[zhA]
 | a::aas=>by
  simp only[zhA,xCZ,memN_iff (A:=aas),xAQ];constructor
  ·rintro (h|h)
   ·exact .inl (xAw h).symm
   ·exact .inr h
  ·rintro (rfl|h)
   ·exact .inl (xCp _)
   ·exact .inr h
theorem subN_iff{A B:List Nat}:subN A B=true ↔ ∀ t∈A,t∈B:=by
 unfold subN;rw[xCB];exact⟨λ h t ht=>memN_iff.1 (h t ht),λ h t ht=>memN_iff.2 (h t ht)⟩
variable {P:Env} {r:Rec} {s:Bool}
theorem zYo{A:List Nat}{T T':Tm}(H:zE6 A T T')(d:Option Tmp)(v:Value):zE6 (ztt d A) (putDst T d v) (putDst T' d v):=by
 unfold ztt putDst;cases d with
 | none=>exact H
 | some d=>
  intro t ht;simp only[Tm.get_put];by_cases e:t=d
  ·simp[e]
  ·rw[xDN e,xDN e];exact H t ((xCg.1 ht).resolve_left e)
theorem zod{A:List Nat}{T T':Tm}{all:List Oper}{o:Oper}(H:zE6 A T T')(hr:subN (zHS all o) A=true):zNf o.op.operands.toList T T':=
 λ t ht=>H t (subN_iff.1 hr t (xBK _ (mem_tmpsOf.2 ht)))
theorem zH7{A:List Nat}{T T':Tm}{all:List Oper}{o:Oper}(H:zE6 A T T')(hr:subN (zHS all o) A=true){j:Nat}{w:Bool}(hg:o.guard=some (j,w)){d:Tmp}(hd:zVh all j=some d):T.get d=T'.get d:=
 H d (subN_iff.1 hr d (xBB _ (by rw[hg];simp[hd])))
theorem zGm{all:List Oper}{o:Oper}{T:Tm}:zDL o all T=match o.guard with
  | none=>some true
  | some (j,want)=>match zVh all j with
   | some d=>(match T.get d with | .bool b=>some (b==want)|_=>some false)
   | none=>some false:=by
 unfold zDL zVh;split
 ·rename_i h;rw[h]
 ·rename_i j w h;rw[h];simp only;cases hj:lnth all j with
  | none=>rfl
  | some oj=>cases hd:oj.dst <;> simp only[hd] <;> rfl
theorem zWp{all:List Oper}{D:List Nat}{K:Tm->AH->Prop}:∀ {ops:List Oper} {A A':List Nat} {T T':Tm} {h:AH},zWa all A ops=some A'->zE6 A T T'->zVg P r s all ops T' h K->
  Ev s (evOps P r all ops ⟨T,h,D⟩) λ st=>∃ T1,zE6 A' st.T T1/\st.defs=D/\K T1 st.h
 | [],A,A',T,T',h,hA,H,hK=>by
  simp only[zWa,xAN] at hA;subst hA;exact Ev.one ⟨T',H,rfl,hK⟩
 | o::rest,A,A',T,T',h,hA,H,hK=>by
  simp only[zWa] at hA;cases hr:subN (zHS all o) A with
  | false=>rw[hr] at hA;cases hA
  | true=>
   rw[hr] at hA;simp only[xAG] at hA;have aA:=zod H hr;have key:∀(v:Value) (h':AH),zVg P r s all rest (putDst T' o.dst v) h' K->Ev s (evOps P r all rest ⟨putDst T o.dst v,h',D⟩) λ st=>∃ T1,zE6 A' st.T T1/\st.defs=D/\K T1 st.h:=
    λ v h' hk=>zWp hA (zYo H o.dst v) hk
   have run:Ev s (evOp P r T o h) (λ x=>zVg P r s all rest (putDst T' o.dst x.1) x.2 K)->Ev s (R.andThen (evOp P r T o h) λ x=>evOps P r all rest (zm6 T o.dst D x)) λ st=>∃ T1,zE6 A' st.T T1/\st.defs=D/\K T1 st.h:=
    λ hx=>Ev.andThen (hx.mono λ x hx=>key x.1 x.2 hx)
   have quiet:∀ {x:Option Value},EvO x (λ v=>zVg P r s all rest (putDst T' o.dst v) h K)->Ev s (v1 x h) (λ x=>zVg P r s all rest (putDst T' o.dst x.1) x.2 K):=by
    intro x hx;obtain⟨v,rfl,hv⟩:=hx.ex;exact Ev.one hv
   have val:∀ {x:Option Value},(cls o.op=.pure\/cls o.op=.read)->evOp P r T o h=v1 x h->EvO (gdO all T' o x) (λ v=>zVg P r s all rest (putDst T' o.dst v) h K)->
     Ev s (evOps P r all (o::rest) ⟨T,h,D⟩) λ st=>∃ T1,zE6 A' st.T T1/\st.defs=D/\K T1 st.h:=by
    intro x _ hx hk;simp only[evOps];rw[zGm];unfold gdO at hk;split
    ·rename_i hw;refine run ?_;rw[hx];refine quiet ?_;split at hw
     ·rename_i hg;rw[hg] at hk;exact hk
     ·rename_i j w hg;rw[hg] at hk;simp only at hk;split at hw
      ·rename_i d hd;rw[hd] at hk;simp only at hk;rw[zH7 H hr hg hd] at hw;split at hw
       ·rename_i b hb;rw[hb] at hk;simp only[xAN] at hw;simpa[gdB,hw] using hk
       ·cases hw
      ·cases hw
    ·rename_i hw;refine key undef h ?_;split at hw
     ·cases hw
     ·rename_i j w hg;rw[hg] at hk;simp only at hk;split at hw
      ·rename_i d hd;rw[hd] at hk;simp only at hk;rw[zH7 H hr hg hd] at hw;split at hw
       ·rename_i b hb;rw[hb] at hk;simp only[xAN] at hw;simpa[gdB,hw,zA] using hk
       ·rename_i bZ;have:gdB (T'.get d) w x=some undef:=by
         unfold gdB;split
         ·rename_i b hb;exact absurd hb (bZ b)
         ·rfl
        rw[this,zA] at hk;exact hk
      ·rename_i hd;rw[hd] at hk;simpa[zA] using hk
    ·rename_i hw;split at hw
     ·cases hw
     ·split at hw
      ·split at hw <;> cases hw
      ·cases hw
   simp only[zVg] at hK;cases hc:cls o.op with
   | pure=>
    rw[hc] at hK;simp only at hK;have hK:=hK.imp (zXh λ v=>zI5);rw[← zFq aA] at hK;exact val (.inl hc) (by unfold evOp;rw[hc]) hK
   | read=>
    rw[hc] at hK;simp only at hK;have hK:=hK.imp (zXh λ v=>zFp);rw[← zEO aA] at hK;exact val (.inr hc) (by unfold evOp;rw[hc]) hK
   | write=>
    rw[hc] at hK;simp only at hK;rw[zI4,← zHe aA] at hK;have he:evOp P r T o h=evWrite P r T o h:=by unfold evOp;rw[hc]
    simp only[evOps];rw[zGm];unfold gdR at hK;split
    ·rename_i hw;refine run ?_;rw[he];split at hw
     ·rename_i hg;rw[hg] at hK;exact hK
     ·rename_i j w hg;rw[hg] at hK;simp only at hK;split at hw
      ·rename_i d hd;rw[hd] at hK;simp only at hK;rw[zH7 H hr hg hd] at hw;split at hw
       ·rename_i b hb;rw[hb] at hK;simp only[xAN] at hw;simpa[gdW,hw] using hK
       ·cases hw
      ·cases hw
    ·rename_i hw;refine key undef h ?_;split at hw
     ·cases hw
     ·rename_i j w hg;rw[hg] at hK;simp only at hK;split at hw
      ·rename_i d hd;rw[hd] at hK;simp only at hK;rw[zH7 H hr hg hd] at hw;split at hw
       ·rename_i b hb;rw[hb] at hK;simp only[xAN] at hw;simpa[gdW,hw,zF] using hK
       ·rename_i bZ;have:∀ y,gdW (T'.get d) w y h=one (undef,h):=by
         intro y;unfold gdW;split
         ·rename_i b hb;exact absurd hb (bZ b)
         ·rfl
        rw[this,zF] at hK;exact hK
      ·rename_i hd;rw[hd] at hK;simpa[zF] using hK
    ·rename_i hw;split at hw
     ·cases hw
     ·split at hw
      ·split at hw <;> cases hw
      ·cases hw
end Go.AM
end
end
