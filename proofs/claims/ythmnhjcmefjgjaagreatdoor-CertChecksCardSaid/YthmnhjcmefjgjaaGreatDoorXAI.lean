import Derived.Test.YthmnhjcmefjgjaaGreatDoorXAH
import Derived.Test.YthmnhjcmefjgjaaGreatDoorXAE
import Derived.Test.YthmnhjcmefjgjaaGreatDoorXAG
import Derived.Test.YthmnhjcmefjgjaaGreatDoorXAD
import Derived.Test.YthmnhjcmefjgjaaGreatDoorXAF
set_option linter.all false
set_option linter.unusedSectionVars false
set_option autoImplicit true
set_option relaxedAutoImplicit true
set_option maxRecDepth 100000
set_option maxHeartbeats 1000000
noncomputable section
namespace Go.Proofs
open Go Go.AM
def stp(L:GL)(s:Int)(c:CL)(s':Int):Prop:=∃ e∈L.eds,e.1=s/\L.labs[e.2.1.toNat]?=some c/\e.2.2=s'
inductive Sil(L:GL)(s:Int):Int->Prop
 | refl:Sil L s s
 | step {t u:Int} {c:CL} (h:Sil L s t) (e:stp L t c u) (hc:c.1=-1):Sil L s u
def Fol(kind:Int)(L M:GL)(R:List (Int×Int)):Prop:=∀ s t c s',(s,t)∈R->stp L s c s'->
 if kind=1 then ∃ t',stp M t c t'/\(s',t')∈R else ∃ u,Sil M t u/\(s,u)∈R/\((c.1=-1/\(s',u)∈R)\/∃ t',stp M u c t'/\(s',t')∈R)
def zCx{L:GL}(hL:zT L=false){s s':Int}{c:CL}(h:stp L s c s'):(0<=s/\s<L.n)/\(0<=s'/\s'<L.n)/\c∈L.labs:=by
 obtain⟨e,he,rfl,hc,rfl⟩:=h;obtain⟨j,hj⟩:=xBN he;obtain⟨d1,d2,_⟩:=zA1 hL hj;exact⟨d1,d2,xBI hc⟩
def zBa{L:GL}(hL:zT L=false){cs:List CL}{s:Int}(hs:0<=s){S:za}(hS:(zAO (L.labs.map (zAY cs)) L)[s.toNat]?=some S)(n s':Int):(n,s')∈S ↔ ∃ c,stp L s c s'/\n=zAY cs c:=by
 rw[zIR hS];constructor
 ·rintro⟨e,he,h1,h2⟩;obtain⟨j,hj⟩:=xBN he;obtain⟨d1,_,d3,d4⟩:=zA1 hL hj;obtain⟨c,hc⟩:∃ c,L.labs[e.2.1.toNat]?=some c:=⟨_,xAA (by omega)⟩;have hv:zSt (L.labs.map (zAY cs)) e=(zAY cs c,e.2.2):=by simp[zSt,hc]
  rw[hv] at h2;exact⟨c,⟨e,he,by omega,hc,(Prod.mk.inj h2).2.symm⟩,(Prod.mk.inj h2).1⟩
 ·rintro⟨c,⟨e,he,h1,hc,h2⟩,rfl⟩;exact⟨e,he,by rw[h1],by simp[zSt,hc,h2]⟩
def zGo{L M:GL}{cs:List CL}{R:List (Int×Int)}(c1:zDr cs)(c2:∀ c∈L.labs,c.1≠-1->c∈cs)(c3':∀ c∈M.labs,c.1≠-1->c∈cs)(hL:zT L=false)(hM:zT M=false){c:CL}(hc:c∈L.labs){u s':Int}(hu:0<=u/\u<M.n) :
  zCf R (zAO (M.labs.map (zAY cs)) M) u (zAY cs c,s')=true ↔ ∃ t',stp M u c t'/\(s',t')∈R:=by
 obtain⟨S,hS⟩:∃ S,(zAO (M.labs.map (zAY cs)) M)[u.toNat]?=some S:=⟨_,xAA (by rw[zAx];omega)⟩;unfold zCf;simp only[hS,zEi,xCK,zF6,xAP,xBl];constructor
 ·rintro⟨⟨n,t'⟩,hy,h1,h2⟩;simp only at h1 h2;obtain⟨d,hd,e⟩:=(zBa hM hu.1 hS n t').1 hy;have hdm:=(zCx hM hd).2.2;have:d=c:=by
   rcases zMn c1 (c3' d hdm) (c2 c hc) (e.symm.trans h1) with ⟨e1,e2⟩|e
   ·obtain⟨i,hi⟩:=xBN hdm;obtain⟨j,hj⟩:=xBN hc;have a1:=zCo hM hi e1;have a2:=zCo hL hj e2;obtain⟨g1,l1⟩:=d;obtain⟨g2,l2⟩:=c;simp only at e1 e2 a1 a2;rw[e1,e2,a1,a2]
   ·exact e
  exact⟨t',this ▸ hd,h2⟩
 ·rintro⟨t',h1,h2⟩;exact⟨(zAY cs c,t'),(zBa hM hu.1 hS _ _).2 ⟨c,h1,rfl⟩,rfl,h2⟩
def num_zero{cs:List CL}{c:CL}:zAY cs c=0 ↔ c.1=-1:=⟨zS5,λ h=>by unfold zAY;rw[xDO h]⟩
def zH9:∀(S:za) (l:List Int),∃ t,S.foldl zDq l=l++t
 | [],l=>⟨[],by simp⟩
 | y::S,l=>by
  obtain⟨t,ht⟩:=zH9 S (zDq l y);obtain⟨t1,h1⟩:∃ t1,zDq l y=l++t1:=by
   unfold zDq;split
   ·exact⟨_,rfl⟩
   ·exact⟨[],by simp⟩
  exact⟨t1++t,by rw[List.foldl_cons,ht,h1,xBs]⟩
def zRU:∀(S:za) (l:List Int) (y:Int×Int),y∈S->y.1=0->y.2∈S.foldl zDq l
 | x::S,l,y,hy,h0=>by
  rw[List.foldl_cons];rcases xCg.1 hy with rfl|hy
  ·obtain⟨t,ht⟩:=zH9 S (zDq l y);rw[ht];refine xBK _ ?_;unfold zDq;split
   ·simp
   ·rename_i hn;simp only[not_and,Classical.not_not] at hn;exact hn h0
  ·exact zRU S _ y hy h0
def zYZ{TT:List za}{body:Int->Bool}(hv:∀(i:Nat) (S:za),TT[i]?=some S->∀ y∈S,0<=y.2/\y.2<(TT.length:Int)) :
  ∀(f i:Nat) (l:List Int),l.Nodup->(∀ u∈l,0<=u/\u<(TT.length:Int))->TT.length<=f+i->(∀(j:Nat) (u:Int),j<i->l[j]?=some u->body u=false/\∀ S,TT[u.toNat]?=some S->∀ y∈S,y.1=0->y.2∈l)->bfs TT body f i l=false->
   ∃ l':List Int,(∀ u∈l,u∈l')/\∀ u∈l',body u=false/\∀ S,TT[u.toNat]?=some S->∀ y∈S,y.1=0->y.2∈l':=by
 intro f
 induction f with
 | zero=>
  intro i l hn hr hf hp _;have:=zAB TT.length l hn hr;refine⟨l,λ _ h=>h,λ u hu=>?_⟩;obtain⟨j,hj⟩:=xBN hu;exact hp j u (by have:=(xAc.1 hj).1;omega) hj
 | succ f ih=>
  intro i l hn hr hf hp hb;simp only[bfs] at hb;split at hb
  ·rename_i hi;refine⟨l,λ _ h=>h,λ u hu=>?_⟩;obtain⟨j,hj⟩:=xBN hu;refine hp j u ?_ hj;have h1:=(xAc.1 hj).1;have h2:=xAf.1 hi;omega
  ·rename_i u hu;simp only[xBJ] at hb;obtain⟨S,hS⟩:∃ S,TT[u.toNat]?=some S:=⟨_,xAA (by have:=hr u (xBI hu);omega)⟩;have dO:zDf TT l u=S.foldl zDq l:=by unfold zDf;rw[hS]
   rw[dO] at hb;obtain⟨t,ht⟩:=zH9 S l;have sub:∀ x∈l,x∈S.foldl zDq l:=λ x hx=>by rw[ht];exact xBK _ hx
   obtain⟨l',h1,h2⟩:=ih (i+1) (S.foldl zDq l) (zFO hn) (λ x hx=>by
    rcases zIA hx with h|⟨y,hy,rfl⟩
    ·exact hr x h
    ·exact hv _ S hS y hy) (by omega) (λ j v hj hjv=>by
    have ax:=(xAc.1 hu).1;rw[ht,xAb (by omega)] at hjv;rcases xAi.1 hj with h|h
    ·obtain⟨a,b⟩:=hp j v h hjv;exact⟨a,λ S' ib y hy h0=>sub _ (b S' ib y hy h0)⟩
    ·subst h;rw[hu] at hjv;cases hjv;refine⟨hb.1,λ S' ib y hy h0=>?_⟩;rw[hS] at ib;cases ib;exact zRU S l y hy h0) hb.2
   exact⟨l',λ x hx=>h1 x (sub x hx),h2⟩
def zqZ{TT:List za}{body:Int->Bool}{P:Int->Prop}(hc:∀ u,P u->∀ S,TT[u.toNat]?=some S->∀ y∈S,y.1=0->P y.2) :
  ∀(f i:Nat) (l:List Int),(∀ u∈l,P u)->bfs TT body f i l=true->∃ u,P u/\body u=true
 | 0,i,l,_,h=>by simp[bfs] at h
 | f+1,i,l,hl,h=>by
  simp only[bfs] at h;split at h
  ·cases h
  ·rename_i u hu;have hm:=hl u (xBI hu);rcases Bool.or_eq_true_iff.1 h with h|h
   ·exact⟨u,hm,h⟩
   ·refine zqZ hc f (i+1) _ (λ v hv=>?_) h;unfold zDf at hv;split at hv
    ·rename_i S hS;rcases zKd S l v hv with h1|⟨y,h1,h2,h3⟩
     ·exact hl v h1
     ·rw[← h3];exact hc u hm S hS y h1 h2
    ·exact hl v hv
def zqY{M:GL}{cs:List CL}(hM:zT M=false){body:Int->Bool}{t:Int}(ht:0<=t/\t<M.n) :
  bfs (zAO (M.labs.map (zAY cs)) M) body (zAO (M.labs.map (zAY cs)) M).length 0 [t]=true ↔ ∃ u,Sil M t u/\body u=true:=by
 have hlen:=zAx (M.labs.map (zAY cs)) M;obtain⟨m1,m2,_,_⟩:=zf hM;have vld:∀(i:Nat) (S:za),(zAO (M.labs.map (zAY cs)) M)[i]?=some S->∀ y∈S,0<=y.2/\y.2<((zAO (M.labs.map (zAY cs)) M).length:Int):=λ i S hS y hy=>by
  have:i=((i:Nat):Int).toNat:=by omega
  rw[this] at hS;obtain⟨c,hc,_⟩:=(zBa hM (Int.natCast_nonneg i) hS y.1 y.2).1 hy;have:=(zCx hM hc).2.1;omega
 constructor
 ·intro h;obtain⟨u,hu,hb⟩:=zqZ (P:=λ u=>Sil M t u/\0<=u) (λ u hu S hS y hy h0=>by
   obtain⟨c,hc,e⟩:=(zBa hM hu.2 hS y.1 y.2).1 hy;exact⟨.step hu.1 hc (num_zero.1 (e.symm.trans h0)),(zCx hM hc).2.1.1⟩) _ _ _ (λ u hu=>by rw[xBV.1 hu];exact⟨.refl,ht.1⟩) h
  exact⟨u,hu.1,hb⟩
 ·rintro⟨u,hu,hb⟩;rcases xAh (bfs (zAO (M.labs.map (zAY cs)) M) body (zAO (M.labs.map (zAY cs)) M).length 0 [t]) with h|h
  ·exact h
  ·obtain⟨l',h1,h2⟩:=zYZ vld _ 0 [t] (by simp) (λ u hu=>by rw[xBV.1 hu];omega) (by omega) (λ j u hj=>by omega) h;have:∀ u,Sil M t u->u∈l'/\(0<=u/\u<M.n):=by
    intro u hu
    induction hu with
    | refl=>exact⟨h1 t (by simp),ht⟩
    | @step v w c hv e hc ih=>
     obtain⟨S,hS⟩:∃ S,(zAO (M.labs.map (zAY cs)) M)[v.toNat]?=some S:=⟨_,xAA (by omega)⟩;exact⟨(h2 v ih.1).2 S hS _ ((zBa hM ih.2.1 hS _ _).2 ⟨c,e,rfl⟩) (num_zero.2 hc),(zCx hM e).2.1⟩
   have:=(h2 u (this u hu).1).1;rw[this] at hb;cases hb
def Sil.rng{M:GL}(hM:zT M=false){t u:Int}(h:Sil M t u)(ht:0<=t/\t<M.n):0<=u/\u<M.n:=by
 cases h with
 | refl=>exact ht
 | step _ e _=>exact (zCx hM e).2.1
def zYl{L M:GL}{cs:List CL}{R:List (Int×Int)}{kind:Int}(c1:zDr cs)(c2:∀ c∈L.labs,c.1≠-1->c∈cs)(c3':∀ c∈M.labs,c.1≠-1->c∈cs)(hL:zT L=false)(hM:zT M=false)(hr:InR L M R) :
  zRx kind R (zAO (L.labs.map (zAY cs)) L) (zAO (M.labs.map (zAY cs)) M)=true ↔ Fol kind L M R:=by
 have key:∀ s t c s',(s,t)∈R->stp L s c s'->(zDT kind R (zAO (M.labs.map (zAY cs)) M) (s,t) (zAY cs c,s')=true ↔ if kind=1 then ∃ t',stp M t c t'/\(s',t')∈R else ∃ u,Sil M t u/\(s,u)∈R/\((c.1=-1/\(s',u)∈R)\/∃ t',stp M u c t'/\(s',t')∈R)):=by
  intro s t c s' af hc;have ht:=(hr _ af).2;have fG:=(zCx hL hc).2.2;unfold zDT;by_cases hk:kind=1
  ·rw[xDO hk,xDO hk];exact zGo c1 c2 c3' hL hM fG ht
  ·rw[xDN hk,xDN hk];unfold zEU;rw[zqY hM ht];constructor
   ·rintro⟨u,hu,hb⟩;simp only[zEC,xAP,xCZ,xBl] at hb;refine⟨u,hu,hb.1,hb.2.imp (λ h=>⟨num_zero.1 h.1,h.2⟩) λ h=>(zGo c1 c2 c3' hL hM fG (hu.rng hM ht)).1 h⟩
   ·rintro⟨u,hu,h1,h2⟩;refine⟨u,hu,?_⟩;simp only[zEC,xAP,xCZ,xBl];exact⟨h1,h2.imp (λ h=>⟨num_zero.2 h.1,h.2⟩) λ h=>(zGo c1 c2 c3' hL hM fG (hu.rng hM ht)).2 h⟩
 simp only[zRx,zYn,xCB];constructor
 ·intro h s t c s' af hc;obtain⟨S,hS⟩:∃ S,(zAO (L.labs.map (zAY cs)) L)[s.toNat]?=some S:=⟨_,xAA (by rw[zAx];have:=(hr _ af).1;simp only at this;omega)⟩;have:=h _ af;rw[show ((s,t):Int×Int).1=s from rfl,hS] at this;exact (key s t c s' af hc).1 (xCB.1 this _ ((zBa hL (hr _ af).1.1 hS _ _).2 ⟨c,hc,rfl⟩))
 ·rintro h ⟨s,t⟩ af;obtain⟨S,hS⟩:∃ S,(zAO (L.labs.map (zAY cs)) L)[s.toNat]?=some S:=⟨_,xAA (by rw[zAx];have:=(hr _ af).1;simp only at this;omega)⟩;simp only[hS];refine xCB.2 λ y hy=>?_;obtain⟨n,s'⟩:=y;obtain⟨c,hc,rfl⟩:=(zBa hL (hr _ af).1.1 hS n s').1 hy;exact (key s t c s' af hc).2 (h s t c s' af hc)
def InR.swap{L M:GL}{R:List (Int×Int)}(h:InR L M R):InR M L (R.map zB9):=λ p hp=>by
 obtain⟨q,hq,rfl⟩:=xCv.1 hp;exact⟨(h q hq).2,(h q hq).1⟩
def zWV{L M:GL}{R:List (Int×Int)}{kind:Int}(hL:zT L=false)(hM:zT M=false)(hr:InR L M R):zVe L M ⟨kind,R⟩=true ↔ (0,0)∈R/\Fol kind L M R/\Fol kind M L (R.map zB9):=by
 obtain⟨c1,c2,c3'⟩:=zP7 L M;unfold zVe;rw[zI1];simp only[zoe,xAP,xCB,xBl,inB];rw[zYl c1 c2 c3' hL hM hr,zYl c1 c3' c2 hM hL hr.swap];constructor
 ·rintro⟨_,⟨a,b⟩,c⟩;exact⟨a,b,c⟩
 ·rintro⟨a,b,c⟩;exact⟨λ x hx=>⟨(hr x hx).1.2,(hr x hx).2.2⟩,⟨a,b⟩,c⟩
def zJx:∀ {N M:Nat} {F:List (Int×Int)},zBM F->(∀ p∈F,(0<=p.1/\p.1<(N:Int))/\(0<=p.2/\p.2<(M:Int)))->F.length<=N*M:=by
 intro N M F hs hr;have bp:(F.map λ p=>p.1*(M:Int)+p.2).Nodup:=by
  rw[List.nodup_iff_pairwise_ne,xBz];refine List.Pairwise.imp_of_mem (λ {p q} hp hq h=>?_) hs;have h1:=hr p hp;have h2:=hr q hq;rw[zAp] at h;intro e;rcases h with h|⟨h,h'⟩
  ·have:(p.1+1)*(M:Int)<=q.1*(M:Int):=Int.mul_le_mul_of_nonneg_right (by omega) (by omega);rw[Int.add_mul] at this;omega
  ·rw[h] at e;omega
 have:=zAB (N*M) _ bp λ x hx=>by
  obtain⟨p,hp,rfl⟩:=xCv.1 hx;have h1:=hr p hp;have a:0<=p.1*(M:Int):=Int.mul_nonneg h1.1.1 (by omega);have b:(p.1+1)*(M:Int)<=(N:Int)*(M:Int):=Int.mul_le_mul_of_nonneg_right (by omega) (by omega);rw[Int.add_mul] at b;rw[Int.natCast_mul];omega
 simpa using this
end Go.Proofs
namespace Go.Proofs
open Go Go.AM Go.Sort
def zJj{t a u:Nat}{Rp:Value->AH->Prop}{ex:Ex}{v w:Value}{h:AH}:KR E [.cell a t,.tmp u] Rp ex [v,w] h=(zCa ex=true/\EvO (zC1 E t v h) λ x=>Rp (.tuple #[x,w]) h):=by
 simp only[KR,zIY];cases zC1 E t v h with
 | none=>simp only[zRb]
 | some x=>simp only[zA,zm3]
def Ac(lo:Nat)(m:AH)(v:Value)(l:List (Int×Int)):Prop:=(l=[]/\v=.slice none 0 0)\/∃ b:Nat,v=sl b l.length (UNK+2)/\lo<=b/\b<m.qa/\m.get b=some (.row (l.flatMap zC) 54 2 false)
def Ac.app{lo:Nat}{m:AH}{v:Value}{l:List (Int×Int)}(aa:m.ok)(A:Ac lo m v l)(fA:lo<=m.qa)(hn:l.length+1<=1000000)(p:Int×Int) :
  ∃ m' v',zy E .append [26,26] (some [v,.slice (some ⟨m.qa,0,none⟩) 1 1]) (m.new (rO (zC p) 54))=one (v',m')/\Ac lo m' v' (l++[p])/\Fx (zY v) m m'/\∀ c,zY v' c->m.qa<=c/\c<m'.qa:=by
 have aw:=zD m (rO (zC p) 54);have blk:∀ {b n cp c:Nat},zY (.slice (some ⟨b,0,none⟩) n cp) c->c=b:=λ h=>by
  obtain⟨n,cap,e⟩:=h;simp only[xBu,xAN,xCo] at e;exact e.1.1.symm
 rcases A with ⟨rfl,rfl⟩|⟨b,rfl,h1,h2,h3⟩
 ·refine⟨_,_,append_nil zs0 aw rfl,.inr ⟨(m.new (rO (zC p) 54)).qa,rfl,?_,?_,?_⟩,((Fx.refl aa).new _).new _,λ c hc=>?_⟩
  ·show lo<=m.qa+1;omega
  ·exact xCA _
  ·exact zD (m.new _) _
  ·have:=blk hc;show m.qa<=c/\c<m.qa+1+1;have e:(m.new (rO (zC p) 54)).qa=m.qa+1:=rfl;omega
 ·have dy:(m.new (rO (zC p) 54)).get b=some (.row (l.flatMap zC) 54 2 false):=by rw[zG (by omega)];exact h3
  have f1:Fx (zY (sl b l.length (UNK+2))) m (m.new (rO (zC p) 54)):=(Fx.refl aa).new _;refine⟨_,_,zB8 zs0 (by omega) dy (zBW l) hn aw rfl (by simp[zC,zl]),.inr ⟨(m.new (rO (zC p) 54)).qa,by simp,?_,?_,?_⟩,(f1.upd (.inl ⟨_,_,rfl⟩) none).new _,λ c hc=>?_⟩
  ·show lo<=m.qa+1;omega
  ·exact xCA _
  ·rw[xBU,xBv,List.flatMap_nil,xCb];exact zD ((m.new _).upd b none) _
  ·have:=blk hc;show m.qa<=c/\c<m.qa+1+1;have e:(m.new (rO (zC p) 54)).qa=m.qa+1:=rfl;omega
def Ac.fx{P:Nat->Prop}{lo:Nat}{m m':AH}{v:Value}{l:List (Int×Int)}(A:Ac lo m v l)(f:Fx P m m')(hP:∀ c,zY v c->¬ P c):Ac lo m' v l:=by
 rcases A with h|⟨b,rfl,h1,h2,h3⟩
 ·exact .inl h
 ·exact .inr ⟨b,rfl,h1,xAC h2 f.qa,(f.get b h2 (hP b ⟨_,_,rfl⟩)).trans h3⟩
def Ac.wm{lo:Nat}{m:AH}{v:Value}{l:List (Int×Int)}(A:Ac lo m v l)(w:Nat):Ac lo ⟨m.t,m.qa,w⟩ v l:=by
 rcases A with h|⟨b,rfl,h1,h2,h3⟩
 ·exact .inl h
 ·exact .inr ⟨b,rfl,h1,h2,zHZ h3⟩
def Ac.leaf{lo:Nat}{m:AH}{v:Value}{l:List (Int×Int)}(A:Ac lo m v l):zl v=true/\zd v=[v]/\∃ a c,v=.slice a l.length c:=by
 rcases A with ⟨rfl,rfl⟩|⟨b,rfl,_⟩
 ·exact⟨rfl,rfl,_,_,rfl⟩
 ·exact⟨rfl,rfl,_,_,rfl⟩
def Ac.arr{lo:Nat}{m:AH}{v:Value}{l:List (Int×Int)}(A:Ac lo m v l):Arr m 2 v (l.map zC):=by
 rcases A with ⟨rfl,rfl⟩|⟨b,rfl,_,h2,h3⟩
 ·exact .nil _ _
 ·exact zYe (rest:=[]) h3 h2 (by simp)
def zhh{a:Int}:zAT E 32 (some [(0,iI a)])=some (.agg ⟨[iI a,.slice none 0 0]⟩):=by kernel_rfl
def zGg{m:AH}{b:Nat}{vs:List Value}{a:Int}{v:Value}(hg:m.get b=some (rO vs 32))(hl:vs.length=2)(hv:zl v=true) :
  zAM E 32 m (sP b 0) (some (.agg ⟨[iI a,v]⟩))=one (undef,m.upd b (some (rO [iI a,v] 32))):=by
 have:=zi (P:=E) zoL (o:=0) (x:=.agg ⟨[iI a,v]⟩) (cs:=[iI a,v]) hg rfl rfl (by omega) (by simpa[zl] using hv);rw[this]
 match vs,hl with
 | [x,y],_=>rfl
def idl(n:Nat):List (Int×Int):=(List.range n).map λ (i:Nat)=>(((i:Nat):Int),((i:Nat):Int))
def zRO(n:Nat):idl (n+1)=idl n++[((n:Int),(n:Int))]:=by simp[idl,List.range_succ]
def zIz(n:Nat):(idl n).length=n:=by simp[idl]
def zqP{k:AH}{kind:Int}{n:Nat}(aa:k.ok)(h0:0<n)(hn:n<=200000) :
  Ev true ((zc E).call 106 [iI kind,iI (n:Int)] k) λ x=>∃ vs,x.1=.tuple #[.agg ⟨[iI kind,vs]⟩,iI 0]/\Ac k.qa x.2 vs (idl n)/\Fx NoB k x.2:=by
 refine zgl (Rp:=λ x m=>∃ vs,x=.tuple #[.agg ⟨[iI kind,vs]⟩,iI 0]/\Ac k.qa m vs (idl n)/\Fx NoB k m) (ze9 ?_);obtain⟨k1,e1,n1,t1,o1,f1⟩:=nwF k (rO [iI 0,.slice none 0 0] 32);simp only[zSo,zU,zF,zK,e1,zR];refine ze8 ?_;simp only[zAK,zA,show decide ((200000:Int)<(n:Int))=false from xAI (by omega),zZ];refine ze7 ?_;obtain⟨k2,e2,n2,t2,o2,f2⟩:=zho o1 (rO [iI 0,.slice none 0 0] 32) (rO [iI kind,.slice none 0 0] 32);have s2:=zGg (a:=kind) (v:=.slice none 0 0) (zD k1 (rO [iI 0,.slice none 0 0] 32)) rfl rfl;rw[e2] at s2;simp only[zhh,zSo,zU,zF,zK,zA,s2];refine ze6 ?_;have x1:Fx NoB k.qb k1:=by rw[← e1];exact (Fx.refl (zAR k)).new _
 have x2:Fx NoB k.qb k2:=by rw[← e2];exact (x1.new _).upd (.inr (by show k.qa<=k1.qa;omega)) _
 have loop:∀(m i:Nat),i+m=n->∀ h vs,Fx NoB k.qb h->k1.qa<h.qa->h.get k.qa=some (rO [iI 0,.slice none 0 0] 32)->h.get k1.qa=some (rO [iI kind,vs] 32)->Ac k.qa h vs (idl i)->(∀ c,zY vs c->k1.qa<c)->
   PI (zg0 true) (KR E [.cell 4 32,.tmp 5] λ x m=>(zm x=false\/m.wm<k.qa)/\(λ x m=>∃ vs,x=.tuple #[.agg ⟨[iI kind,vs]⟩,iI 0]/\Ac k.qa m vs (idl n)/\Fx NoB k m) x ⟨m.t,m.qa,cond (Nat.ble k.wm m.wm) k.wm m.wm⟩) 5 [ptr k.qa,ptr k1.qa,iI (n:Int),iI (i:Int)] h:=by
  intro m
  induction m with
  | zero=>
   intro i hi h vs hf hl g4 g6 A hb;have hi:i=n:=by omega
   subst hi;refine zOb ?_;simp only[zP,zA,show decide ((i:Int)<(i:Int))=false from xAI (by omega),zZ];refine ze2 ?_;have l6:zb E 32 h (sP k1.qa 0)=some (.agg ⟨[iI kind,vs]⟩):=zN (P:=E) zD1 (o:=0) g6 (by simp);have st:=zGg (a:=kind) (v:=vs) g4 rfl A.leaf.1;have dI:k.qa<k1.qa:=by omega
   have fu:Fx (λ c=>c=k.qa) h (h.upd k.qa (some (rO [iI kind,vs] 32))):=(Fx.refl (P:=λ c=>c=k.qa) hf.ok).upd (.inl rfl) _;have fo:Fx NoB k.qb (h.upd k.qa (some (rO [iI kind,vs] 32))):=hf.upd (.inr (xAF _)) _;have ge:=zH h k.qa (some (rO [iI kind,vs] 32));have A':=A.fx fu λ c hc e=>by have:=hb c hc;have:c=k.qa:=e;omega
   have aj:vs≠.slice none 0 0:=λ e=>by
    rcases A with ⟨e',_⟩|⟨b,e',_⟩
    ·have:=congrArg List.length e';rw[zIz] at this;simp at this;omega
    ·rw[e] at e';cases e'
   simp only[l6,st,zA,zF];generalize h.upd k.qa (some (rO [iI kind,vs] 32))=hh at fo ge A';rw[zJj];have la:zC1 E 32 (ptr k.qa) hh=some (.agg ⟨[iI kind,vs]⟩):=zN (P:=E) zD1 (o:=0) ge (by simp);rw[la,zA];have lH:zm (.tuple #[.agg ⟨[iI kind,vs]⟩,iI 0])=false:=by
    rcases A with ⟨_,e'⟩|⟨b,e',_⟩
    ·exact absurd e' aj
    ·rw[e'];rfl
   exact⟨zO ▸ trivial,.inl lH,vs,rfl,A'.wm _,fo.back⟩
  | succ m ih=>
   intro i hi h vs hf hl g4 g6 A hb;refine zOb ?_;simp only[zP,zA,show decide ((i:Int)<(n:Int))=true from xAJ (by omega),ze];refine ze5 (ze4 ?_);have l6:zb E 26 h (sP k1.qa (0+1))=some vs:=zB (P:=E) zEc (o:=0+1) g6;have dr:k.qa<=h.qa:=hf.qa;obtain⟨h1,v',q1,A1,fx1,cj⟩:=A.app hf.ok dr (by rw[zIz];omega) ((i:Int),(i:Int));simp only[zAZ,l6,pbI,zRu,zA,zF,q1];have fo1:Fx NoB k.qb h1:=hf.trans fx1 λ c hc=>.inr (by have:=hb c hc;show k.qa<=c;omega);have g6':h1.get k1.qa=some (rO [iI kind,vs] 32):=(fx1.get _ hl λ hc=>by have:=hb _ hc;omega).trans g6;have g4':h1.get k.qa=some (rO [iI 0,.slice none 0 0] 32):=(fx1.get _ (by omega) λ hc=>by have:=hb _ hc;omega).trans g4;have st:=zi (P:=E) zhQ (o:=0+1) (x:=v') g6' A1.leaf.2.1 rfl (by simp) (by simp[A1.leaf.1]);rw[show lput [iI kind,vs] (0+1) [v']=[iI kind,v'] from rfl] at st;obtain⟨h2,e2',n2',t2',g2',fu⟩:∃ mm,h1.upd k1.qa (some (rO [iI kind,v'] 32))=mm/\mm.qa=h1.qa/\mm.get k1.qa=some (rO [iI kind,v'] 32)/\(∀ c,c≠k1.qa->mm.get c=h1.get c)/\Fx (λ c=>c=k1.qa) h1 mm:=
    ⟨_,rfl,rfl,zH _ _ _,λ c hc=>zL hc,(Fx.refl (P:=λ c=>c=k1.qa) fo1.ok).upd (.inl rfl) _⟩
   rw[e2'] at st;simp only[st,zF];refine ze3 ?_;simp only[zA,zk _ (zCS (show i<n by omega) (by omega))];have hn1:=fx1.qa;refine ih (i+1) (by omega) h2 v' (fo1.trans fu λ c hc=>.inr (by have:c=k1.qa:=hc;show k.qa<=c;omega)) (by omega) ((g2' _ (by omega)).trans g4') t2' ?_ λ c hc=>by have:=cj c hc;omega
   rw[zRO];exact A1.fx fu λ c hc e=>by have:=cj c hc;have:c=k1.qa:=e;omega
 exact loop n 0 (by omega) k2 (.slice none 0 0) x2 (by omega) ((f2 _ (by omega)).trans t1) t2 (.inl ⟨(rfl:idl 0=[]),rfl⟩) λ c hc=>by obtain⟨a,b,e⟩:=hc;cases e
def zJB{d:Dt}(hs:SortedIn (ltQ zDH) 0 d.size d):∀ j,j<=d.size->zBM (dd d j)
 | 0,_=>List.Pairwise.nil
 | j+1,hj=>by
  have ih:=zJB hs j (by omega);simp only[dd];split
  ·exact ih
  ·rename_i aj;refine xBO.2 ⟨ih,List.pairwise_singleton _ _,λ p hp q hq=>?_⟩;rw[xBV.1 hq];obtain⟨i,hi,rfl⟩:=zRg d j p hp;have h1:=hs (j-1) j (xDF _) (by omega) (by omega);have h2:i=j-1\/ltQ zDH d[j-1]! d[i]! = false:=by
    by_cases e:i=j-1
    ·exact .inl e
    ·exact .inr (hs i (j-1) (xDF _) (by omega) (by omega))
   have h3:d[j]!≠d[j-1]!:=λ e=>aj ⟨by omega,e⟩;have h4:zDH d[j-1]! d[j]! < 0:=by
    simp only[xAk,zAp] at h1;rw[zAp];have:¬ (d[j]!.1=d[j-1]!.1/\d[j]!.2=d[j-1]!.2):=λ e=>h3 (Prod.ext e.1 e.2);omega
   rcases h2 with h2|h2
   ·rw[h2];exact h4
   ·simp only[xAk,zAp] at h2;rw[zAp] at h4 ⊢;omega
def znV(d:Dt)(p:Int×Int):p∈dd d d.size ↔ p∈d.toList:=by
 constructor
 ·intro h;obtain⟨q,hq,e⟩:=zRg d d.size p h;exact e ▸ xBI (zGR hq)
 ·intro h;obtain⟨q,hq⟩:=xBN h;have ik:q<d.size:=by simpa using (xAc.1 hq).1
  rw[zGR ik] at hq;cases hq;exact zXw d d.size q ik
def zQy{d d':Dt}(h:PermIn 0 d.size d d')(p:Int×Int):p∈d'.toList ↔ p∈d.toList:=by
 have hp:=h.2.2;have e1:(d'.extract 0 d.size).toList=d'.toList:=by rw[← h.1,Array.extract_size]
 rw[e1,Array.extract_size] at hp;exact hp.mem_iff
def Made(P:Nat->Prop)(k:AH)(kind:Int)(F:List (Int×Int))(v:Value)(m:AH):Prop:=∃ b,v=.tuple #[.agg ⟨[iI kind,sl b F.length (UNK+2)]⟩,iI 0]/\(P b\/k.qa<=b)/\Arr m 2 (sl b F.length (UNK+2)) (F.map zC)/\Fx P k m
def Arr.upd{m:AH}{b c n cp:Nat}{z:Nat}{els:List (List Value)}(A:Arr m z (sl b n cp) els)(h:b≠c)(o:Option AObj):Arr (m.upd c o) z (sl b n cp) els:=by
 generalize hv:sl b n cp=v at A;cases A with
 | nil a c=>exact .nil a c
 | row h1 h2 h3 h4=>
  simp only[sl,xBu,xAN,xCo] at hv;exact .row ((zL (by rw[← hv.1.1];exact h)).trans h1) h2 h3 h4
def Arr.wm{m:AH}{v:Value}{z:Nat}{els:List (List Value)}(A:Arr m z v els)(w:Nat):Arr ⟨m.t,m.qa,w⟩ z v els:=by
 cases A with
 | nil a c=>exact .nil a c
 | row h1 h2 h3 h4=>exact .row (zHZ h1) h2 h3 h4
def Made.outP{P:Nat->Prop}{ex:Ex}{l k:AH}{kind:Int}{F:List (Int×Int)}{v:Value}{h:AH}{c:Nat}{a u:Nat}{K:Value->AH->Prop}(M:Made P k kind F v h)(hl:Fx NoB l.qb k)(hP:∀ b,P b\/k.qa<=b->l.qa<=b/\b≠c)(hc:l.qa<=c)(g:h.get c=some (rO [iI 0,.slice none 0 0] 32))(hex:zCa ex=true)
  (hK:∀ x m,Made NoB l kind F x m->K x m) :
  EvO (z6 0 (some v)) λ x4=>EvO (z6 1 (some v)) λ x5=>Ev true (zAM E 32 h (some (ptr c)) (some x4)) λ x6=>KR E [.cell a 32,.tmp u] (λ x m=>(zm x=false\/m.wm<l.qa)/\K x ⟨m.t,m.qa,cond (Nat.ble l.wm m.wm) l.wm m.wm⟩) ex [ptr c,x5] x6.2:=by
 obtain⟨b,rfl,hb,q2,q3⟩:=M;have hb:=hP b hb;have s2:=zGg (a:=kind) (v:=sl b F.length (UNK+2)) g rfl rfl;rw[show z6 0 (some (.tuple #[.agg ⟨[iI kind,sl b F.length (UNK+2)]⟩,iI 0]))=some (.agg ⟨[iI kind,sl b F.length (UNK+2)]⟩) from by kernel_rfl,show z6 1 (some (.tuple #[.agg ⟨[iI kind,sl b F.length (UNK+2)]⟩,iI 0]))=some (iI 0) from by kernel_rfl];simp only[zA,s2,zF];have fo:=(hl.trans q3 λ c hc=>.inr (hP c (.inl hc)).1).upd (b:=c) (.inr hc) (some (rO [iI kind,sl b F.length (UNK+2)] 32));have A':=q2.upd (c:=c) hb.2 (some (rO [iI kind,sl b F.length (UNK+2)] 32));have gu:=zH h c (some (rO [iI kind,sl b F.length (UNK+2)] 32));generalize h.upd c (some (rO [iI kind,sl b F.length (UNK+2)] 32))=hh at fo A' gu;rw[zJj];have la:zC1 E 32 (ptr c) hh=some (.agg ⟨[iI kind,sl b F.length (UNK+2)]⟩):=zN (P:=E) zD1 (o:=0) gu (by simp);rw[la,zA];exact⟨hex,.inl rfl,hK _ _ ⟨b,rfl,.inr hb.1,A'.wm _,fo.back⟩⟩
def Made.out{ex:Ex}{l k:AH}{kind:Int}{F:List (Int×Int)}{v:Value}{h:AH}{c:Nat}{a u:Nat}{K:Value->AH->Prop}(M:Made NoB k kind F v h)(hl:Fx NoB l.qb k)(hc:l.qa<=c)(hck:c<k.qa)(g:h.get c=some (rO [iI 0,.slice none 0 0] 32))(hex:zCa ex=true)
  (hK:∀ x m,Made NoB l kind F x m->K x m) :
  EvO (z6 0 (some v)) λ x4=>EvO (z6 1 (some v)) λ x5=>Ev true (zAM E 32 h (some (ptr c)) (some x4)) λ x6=>KR E [.cell a 32,.tmp u] (λ x m=>(zm x=false\/m.wm<l.qa)/\K x ⟨m.t,m.qa,cond (Nat.ble l.wm m.wm) l.wm m.wm⟩) ex [ptr c,x5] x6.2:=
 M.outP hl (λ b hb=>by have hn:l.qa<=k.qa:=hl.qa;have:=hb.resolve_left λ h=>h;omega) hc g hex hK
def Ac.ne{lo:Nat}{m:AH}{v:Value}{l:List (Int×Int)}(A:Ac lo m v l)(h:l≠[]):∃ b,v=sl b l.length (UNK+2)/\lo<=b/\b<m.qa/\m.get b=some (.row (l.flatMap zC) 54 2 false):=A.resolve_left λ e=>h e.1
def Ac.blk{lo:Nat}{m:AH}{v:Value}{l:List (Int×Int)}(A:Ac lo m v l)(c:Nat)(hc:zY v c):lo<=c:=by
 obtain⟨n,cp,e⟩:=hc;rcases A with ⟨_,rfl⟩|⟨b,rfl,h1,_⟩
 ·cases e
 ·simp only[xBu,xAN,xCo] at e;exact e.1.1 ▸ h1
def ztW{a b c:Value}{h:AH}:zg E 82 1 (some [(0,.agg ⟨[a,b,c]⟩)]) h=one (.slice (some ⟨h.qa,0,none⟩) 1 1,h.new (rO [a,b,c] 25)):=by kernel_rfl
def pe0{a b:Value}:z6 0 (some (.tuple #[a,b]))=some a:=by kernel_rfl
def pe1{a b:Value}:z6 1 (some (.tuple #[a,b]))=some b:=by kernel_rfl
def ztN{k:AH}{x:Value}{L:GL}{kind:Int}(aa:k.ok)(hx:RL k x L)(hL:zT L=false)(hk:kind=1\/kind=2)(hn:L.n<=200000) :
  Ev true ((zc E).call 53 [iI kind,x] k) λ y=>Made NoB k kind (idl L.n.toNat) y.1 y.2:=by
 obtain⟨l1,l2,_,_⟩:=zf hL;obtain⟨vl,ve,elsL,rfl,x2,x3,x4⟩:=id hx.ex;refine zl6 (Rp:=λ v m=>Made NoB k kind (idl L.n.toNat) v m) (zSM ?_);obtain⟨k1,e1,n1,t1,o1,f1⟩:=nwF k (rO [iI L.n,vl,ve] 25);obtain⟨k2,e2,n2,t2,o2,f2⟩:=nw o1 (rO [iI 0,.slice none 0 0] 32);have x2:Fx NoB k.qb k2:=by rw[← e2,← e1];exact ((Fx.refl (zAR k)).new _).new _
 simp only[zSo,zU,zF,zK,zA,e1,zR,e2,n1];refine zSL ?_;have ga:∀ h,Fx NoB k2 h->h.get k.qa=some (rO [iI L.n,vl,ve] 25):=λ h f=>(f.get _ (by omega) (λ h=>h)).trans ((f2 _ (by omega)).trans t1);have la:∀ h,Fx NoB k2 h->zb E 25 h (sP k.qa 0)=some (.agg ⟨[iI L.n,vl,ve]⟩):=λ h f=>zN (P:=E) zBT (o:=0) (ga h f) (by simp);have ln:∀ h,Fx NoB k2 h->zb E 3 h (sP k.qa (0+0))=some (iI L.n):=λ h f=>zB (P:=E) zAE (o:=0) (ga h f);obtain⟨k3,e3,n3,t3,o3,f3⟩:=nw o2 (rO [iI L.n,vl,ve] 25);have x3':Fx NoB k2 k3:=by rw[← e3];exact (Fx.refl x2.ok).new _
 have c7:=zRp (h0:=k3) (k:=k3) (v:=.slice (some ⟨k2.qa,0,none⟩) 1 1) (els:=[[iI L.n,vl,ve]]) (Ls:=[L])
  (Arr.row (els:=[[iI L.n,vl,ve]]) t3 (by omega) (by simp) (λ i ee aC=>by
   match i with
   | 0=>simp at aC;subst aC;exact⟨rfl,rfl⟩
   | i+1=>simp at aC)) rfl (by simp) (λ i ee LL h1 h2=>by
   match i with
   | 0=>simp at h1 h2;subst h1 h2;exact hx.ext o3.ext
   | i+1=>simp at h1) (Ext.refl o3.ext.ok)
 have bD:zn (zHt [L]) 1 0=false:=by simp[zn,zHt,hL]
 simp only[xCG,xCR,xAK,bD,xBX,xDI] at c7;simp only[la k2 (Fx.refl x2.ok),zA,ztW,zF,e3,zM,c7,zJ];refine zSK ?_;simp only[zAS,zA,xDG,xAL,zZ];refine zSJ ?_;have hm:zBV kind=true:=by rcases hk with rfl|rfl <;> rfl
 simp only[zM,zL1 (a:=kind) o3.ext.ok,hm,zJ,zq,zA,xAL,zZ];refine zkZ ?_;have hN:L.n=((L.n.toNat:Nat):Int):=by omega
 have c6:=zqP (k:=k3) (kind:=kind) (n:=L.n.toNat) o3.ext.ok (by omega) (by omega);rw[← hN] at c6;simp only[zAP,ln k3 x3',zA,zM];refine c6.mono ?_;rintro⟨v,h⟩ ⟨vs,rfl,A,f⟩;simp only at A f ⊢;have aj:idl L.n.toNat≠[]:=λ e'=>by have:=congrArg List.length e';rw[zIz] at this;simp at this;omega
 have ff:Fx NoB k2 h:=x3'.trans f λ c hc=>hc.elim;have g5:h.get (k.qa+1)=some (rO [iI 0,.slice none 0 0] 32):=(ff.get _ (by omega) (λ h=>h)).trans (by rw[← n1];exact t2);obtain⟨b,rfl,h1,h2,h3⟩:=A.ne aj;exact Made.out (l:=k) (k:=k3) (K:=λ v m=>Made NoB k kind (idl L.n.toNat) v m) ⟨b,rfl,.inr h1,A.arr,f⟩ (x2.trans x3' λ c hc=>hc.elim) (by omega) (by omega) g5 (zO ▸ trivial) λ x m h=>h
def zNK(M:List (Int×Value)):List (Value×Value):=M.map λ p=>(iI p.1,p.2)
def lkV(q:Int):List (Int×Value)->Option Value
 | []=>none
 | p::M=>if q=p.1 then some p.2 else lkV q M
def zhX(q:Int)(v:Value)(M:List (Int×Value)):List (Int×Value):=M.map λ p=>if q=p.1 then (p.1,v) else p
def zRK(q:Int)(v:Value):List (Int×Value)->List (Int×Value)
 | []=>[(q,v)]
 | p::M=>if klt (iI q) (iI p.1) then (q,v)::p::M else p::zRK q v M
def zBQ(M:List (Int×Value)):List Int:=M.map (·.1)
def zRD{q:Int}:∀ {M:List (Int×Value)},q ∉ zBQ M->lkV q M=none
 | [],_=>rfl
 | p::M,h=>by
  simp only[zBQ,xCi,xAQ,not_or] at h;simp only[lkV,xDN h.1];exact zRD h.2
def zPt:∀ {M:List (Int×Value)},(zBQ M).Nodup->∀ q,zAe E 3 (iI q) (zNK M)=some (lkV q M)
 | [],_,q=>rfl
 | p::M,h,q=>by
  obtain⟨h1,h2⟩:=xCV.1 (show (p.1::zBQ M).Nodup from h);have ih:=zPt h2 q;simp only[zNK,xCi,zAe,lkV] at ih ⊢;rw[zXP,ih];by_cases e:q=p.1
  ·subst e;simp[zRD h1]
  ·simp[e]
def zLQ{q:Int}{v:Value}:∀ M:List (Int×Value),zBx E 3 (iI q) v (zNK M)=some (zNK (zhX q v M))
 | []=>rfl
 | p::M=>by
  have ih:=zLQ (q:=q) (v:=v) M;simp only[zNK,xCi,zBx,zhX] at ih ⊢;rw[zXP,ih];by_cases e:q=p.1
  ·subst e;simp[zBF]
  ·simp[e]
def zLf{q:Int}{v:Value}:∀ M:List (Int×Value),zBC (iI q) v (zNK M)=zNK (zRK q v M)
 | []=>rfl
 | p::M=>by
  have:=zLf (q:=q) (v:=v) M;simp only[zNK,xCi,zBC,zRK] at this ⊢;split
  ·rfl
  ·rw[this];rfl
def zMZ{q:Int}{v:Value}(M:List (Int×Value)):zBQ (zhX q v M)=zBQ M:=by
 simp only[zBQ,zhX,List.map_map];refine xBT λ p _=>?_;simp only[Function.comp_apply];split <;> rfl
def zM3{q:Int}{v:Value}:∀ M:List (Int×Value),∀ x,x∈zBQ (zRK q v M) ↔ x=q\/x∈zBQ M
 | [],x=>by simp[zBQ,zRK]
 | p::M,x=>by
  have ih:=zM3 (q:=q) (v:=v) M x;simp only[zRK];split
  ·simp[zBQ]
  ·simp only[zBQ,xCi,xAQ] at ih ⊢;rw[ih];constructor
   ·rintro (h|h|h) <;> simp[h]
   ·rintro (h|h|h) <;> simp[h]
def zG5{q:Int}{v:Value}:∀ {M:List (Int×Value)},(zBQ M).Nodup->q ∉ zBQ M->(zBQ (zRK q v M)).Nodup
 | [],_,_=>by simp[zBQ,zRK]
 | p::M,h,hq=>by
  obtain⟨h1,h2⟩:=xCV.1 (show (p.1::zBQ M).Nodup from h);have eL:q≠p.1/\q ∉ zBQ M:=by simpa[zBQ] using hq
  simp only[zRK];split
  ·exact xCV.2 ⟨hq,h⟩
  ·refine xCV.2 ⟨λ hm=>?_,zG5 h2 eL.2⟩;rcases (zM3 M p.1).1 hm with e|e
   ·exact eL.1 e.symm
   ·exact h1 e
def zPE{q:Int}{v:Value}(x:Int):∀ M:List (Int×Value),lkV x (zhX q v M)=if x=q then (lkV x M).map λ _=>v else lkV x M
 | []=>by simp[zhX,lkV]
 | p::M=>by
  have ih:=zPE (q:=q) (v:=v) x M;simp only[zhX,xCi] at ih ⊢;by_cases e:q=p.1
  ·rw[xDO e];simp only[lkV];by_cases h:x=p.1
   ·simp[h,e]
   ·simp only[xDN h,ih]
  ·rw[xDN e];simp only[lkV];by_cases h:x=p.1
   ·simp only[xDO h];rw[xDN (by omega)]
   ·simp only[xDN h,ih]
def zPm{q:Int}{v:Value}(x:Int):∀ M:List (Int×Value),q ∉ zBQ M->lkV x (zRK q v M)=if x=q then some v else lkV x M
 | [],_=>by simp[zRK,lkV]
 | p::M,hq=>by
  have eL:q≠p.1/\q ∉ zBQ M:=by simpa[zBQ] using hq
  have ih:=zPm (q:=q) (v:=v) x M eL.2;simp only[zRK];split
  ·simp only[lkV]
  ·simp only[lkV,ih];by_cases h:x=p.1
   ·simp only[xDO h];rw[xDN (by omega)]
   ·simp only[xDN h]
def zox:zMs E 125=some (3,47):=by kernel_rfl
def zWw{h:AH}{m ver:Nat}{M:List (Int×Value)}(hm:h.get m=some (.map (zNK M) ver))(hM:(zBQ M).Nodup)(q:Int) :
  zAy E 125 false (some (.map (some m))) (some (iI q)) h=some ((lkV q M).getD (.slice none 0 0)):=by
 simp only[zAy,zFm,zox,zEA,hm,zHX,xAG,zPt hM];cases lkV q M with
 | none=>simp[zEt,zyJ,okV]
 | some v=>simp[zEt,okV]
def zra{h:AH}{m ver:Nat}{M:List (Int×Value)}(hm:h.get m=some (.map (zNK M) ver))(hM:(zBQ M).Nodup)(q:Int)(v:Value) :
  ∃ M',zu E 125 (some (.map (some m))) (some (iI q)) (some v) h=one (undef,h.upd m (some (.map (zNK M') (ver+1))))/\(zBQ M').Nodup/\∀ x,lkV x M'=if x=q then some v else lkV x M:=by
 have cM:zm (iI q)=true:=rfl;cases hl:lkV q M with
 | none=>
  have hq:q ∉ zBQ M:=λ hq=>by
   have:∀ M:List (Int×Value),q∈zBQ M->lkV q M≠none:=by
    intro M
    induction M with
    | nil=>intro h;cases h
    | cons p M ih=>
     intro h;simp only[lkV];split
     ·simp
     ·rename_i e;have h:q=p.1\/q∈zBQ M:=by simpa[zBQ] using h
      exact ih (h.resolve_left e)
   exact this M hq hl
  refine⟨zRK q v M,?_,zG5 hM hq,λ x=>zPm x M hq⟩;simp only[zu,zA8,zox,hm,zHX,cM,xCm,xAG,zBe,zPt hM,hl,zLf,u1]
 | some w=>
  refine⟨zhX q v M,?_,by rw[zMZ];exact hM,λ x=>?_⟩
  ·simp only[zu,zA8,zox,hm,zHX,cM,xCm,xAG,zBe,zPt hM,hl,zLQ,u1]
  ·rw[zPE];by_cases e:x=q
   ·simp[e,hl]
   ·simp[e]
structure MI(lo:Nat)(h:AH)(m:Nat)(f:Int->List Int):Prop where
 ex:∃ M ver,h.get m=some (.map (zNK M) ver)/\(zBQ M).Nodup/\(∀ q,IS lo h ((lkV q M).getD (.slice none 0 0)) (f q))/\∀ q q' b,q≠q'->zY ((lkV q M).getD (.slice none 0 0)) b->¬ zY ((lkV q' M).getD (.slice none 0 0)) b
def zts(f:Int->List Int)(q u:Int):Int->List Int:=λ x=>if x=q then f x++[u] else f x
def MI.add{lo:Nat}{h0 h:AH}{m:Nat}{f:Int->List Int}(I0:MI lo h0 m f)(x0:Fx NoB h0 h)(hm:m<lo)(hlo0:lo<=h0.qa){q u:Int}(hn:(f q).length<=999998) :
  ∃ v m1 v' m2,(∀ h',h'.get m=h.get m->zAy E 125 false (some (.map (some m))) (some (iI q)) h'=some v)/\zl v=true/\veq 100 v v=true ∧
   zy E .append [47,47] (some [v,.slice (some ⟨h.qa,0,none⟩) 1 1]) (h.new (rO [iI u] 3))=one (v',m1) ∧
   zu E 125 (some (.map (some m))) (some (iI q)) (some v') m1=one (undef,m2)/\(∀ b,b<lo\/h0.qa<=b->b<h.qa->m1.get b=h.get b)/\MI lo m2 m (zts f q u)/\Fx (λ c=>c=m\/lo<=c) h m2:=by
 obtain⟨M,ver,h1,h2,h30,h4⟩:=I0.ex;have dO:=x0.qa;have fA:lo<=h.qa:=xCx hlo0 dO;have h1:h.get m=some (.map (zNK M) ver):=(x0.get m (by omega) (λ h=>h)).trans h1;have h3:∀ q,IS lo h ((lkV q M).getD (.slice none 0 0)) (f q):=λ q=>(h30 q).mono dO λ b hb _=>x0.get b hb (λ h=>h);obtain⟨m1,a1,a2,a3,a4⟩:=(h3 q).app fA hn u;have a4:=a4 x0.ok;have hg:∀ b,b<lo\/h0.qa<=b->b<h.qa->m1.get b=h.get b:=λ b hb aN=>a4.get b aN λ hk=>by have:=(h30 q).blk hk;omega
 obtain⟨M',u1,u2,u3⟩:=zra (v:=.slice (some ⟨h.qa+1,0,none⟩) ((f q).length+1) (UNK+1)) ((hg m (.inl hm) (by omega)).trans h1) h2 q;obtain⟨sa,sc,hs⟩:=(h3 q).slice;refine⟨_,m1,_,_,λ h' e=>zWw (e.trans h1) h2 q,by rw[hs];rfl,by rw[hs];exact zAw _ _ _ _,a1,u1,hg,⟨M',ver+1,zH _ _ _,u2,λ x=>?_,λ x y b eJ hx hy=>?_⟩,?_⟩
 ·rw[u3];by_cases e:x=q
  ·simp only[xDO e,xCH,zts];rw[e];exact .inr (a2.mono (xAF _) λ b hb _ _=>zL (by omega))
  ·simp only[xDN e,zts];refine (h3 x).mono (by show h.qa<=m1.qa;omega) λ b hb hk=>?_;have:=(h3 x).blk hk;rw[zL (by omega)];exact a4.get b hb λ eH=>h4 x q b e hk eH
 ·rw[u3] at hx hy;have key:∀ z,z≠q->zY ((lkV z M).getD (.slice none 0 0)) b->b<h.qa:=λ z _ hz=>((h3 z).blk hz).2;have own:zY (.slice (some ⟨h.qa+1,0,none⟩) ((f q).length+1) (UNK+1)) b->b=h.qa+1:=λ ⟨n,cp,e⟩=>by
   simp only[xBu,xAN,xCo] at e;exact e.1.1.symm
  by_cases ex:x=q
  ·have ey:y≠q:=λ e=>eJ (ex.trans e.symm);rw[xDO ex] at hx;rw[xDN ey] at hy;have:=own hx;have:=key y ey hy;omega
  ·rw[xDN ex] at hx;by_cases ey:y=q
   ·rw[xDO ey] at hy;have:=own hy;have:=key x ex hx;omega
   ·rw[xDN ey] at hy;exact h4 x y b eJ hx hy
 ·exact (a4.mono (P':=λ c=>c=m\/lo<=c) λ c hc=>.inl (.inr ((h3 q).blk hc).1)).upd (.inl (.inl rfl)) _
def zp6{k:AH}{e f:Int×Int}(aa:k.ok):(zc E).call 176 [.agg ⟨zC e⟩,.agg ⟨zC f⟩] k=some [(iI (zDH e f),k)]:=by
 refine zgF (s:=true) aa rfl (zcv ?_);simp only[zU,zF,zK,zA];refine zcu ?_;have o1:=((Own.qb k).new (rO (zC e) 134)).new (rO (zC f) 134);have t1:((k.qb.new (rO (zC e) 134)).new (rO (zC f) 134)).get k.qa=some (rO (zC e) 134):=by
  rw[zG (by simp)];exact zD k.qb _
 have t2:((k.qb.new (rO (zC e) 134)).new (rO (zC f) 134)).get (k.qa+1)=some (rO (zC f) 134):=zD (k.qb.new _) _;simp only[zR,AH.next_new];generalize ((k.qb.new (rO (zC e) 134)).new (rO (zC f) 134))=k1 at o1 t1 t2;have l0:=zB (P:=E) zAE (o:=0) t1;have l1:=zB (P:=E) zAE (o:=1) t1;have m0:=zB (P:=E) zAE (o:=0) t2;have m1:=zB (P:=E) zAE (o:=1) t2;simp only[lnth,zC] at l0 l1 m0 m1;simp only[zDn,zBB,xCu,xAK,l0,l1,m0,m1,zA,zM,zJF o1.ext.ok,zJ,zBF,xDJ,zYV,zF];rw[or2 o1.ext.ok];simp only[zJ,zA,zAC,zO,xDJ];exact⟨rfl,o1.wm⟩
def znX:zu9 (.func (.func 176) #[] #[]) zDH:=λ k x y aa=>by rw[zM];exact zp6 aa
def zRN{h k:AH}{v:Value}{els:List (List Value)}(ha:Arr h 2 v els)(e:Ext h k){i:Nat}{x:List Value}(hi:els[i]?=some x) :
  ∃ p,zV E 132 (some v) (some (iI (i:Int)))=some p/\zb E 134 k (some p)=some (.agg ⟨x⟩):=zEs zIO zJu zEg ha e hi
def ztE{h0 k:AH}{v w:Value}{l m:List (Int×Int)}(ha:Arr h0 2 v (l.map zC))(hb:Arr h0 2 w (m.map zC))(hn:l.length<=9223372036854775807)(hk:Ext h0 k) :
  (zc E).call 91 [v,w] k=some [(.bool (decide (l=m)),k)]:=by
 obtain⟨a1,c1,hv⟩:=ha.slice;obtain⟨a2,c2,hw⟩:=hb.slice;rw[xCY] at hv hw;refine zlq (s:=true) hk.ok rfl (zi7 (zi6 ?_));have ew:k.qa<=k.qb.wm:=by rw[zAN];omega
 rw[hv,hw];simp only[zW3,zW2,zA,zAS,zJn];rw[← hv,← hw];refine⟨λ aj=>zi5 ?_,λ dU=>zi4 ?_⟩
 ·simp only[zAC,zO,xDJ];exact⟨by rw[xAI (λ e=>aj (by rw[e]))],ew⟩
 have ki:l.length=m.length:=by omega
 rw[hv];simp only[zW1,zA];rw[← hv];have loop:∀(r i:Nat),i+r=l.length->(∀ j,j<i->l[j]?=m[j]?)->PI (C91 true) (KR E [.tmp 4] λ x l'=>x=.bool (decide (l=m))/\k.qa<=l'.wm) 4 [v,w,iI (l.length:Int),iI (i:Int)] k.qb:=by
  intro r
  induction r with
  | zero=>
   intro i hi hj;refine zR3 ?_;simp only[zP,zA,show decide ((i:Int)<(l.length:Int))=false from xAI (by omega),zZ];refine ziz ?_;simp only[zAC,zO,xDJ];have e:l=m:=xBo λ j=>by
    by_cases h:j<i
    ·exact hj j h
    ·rw[xAx (by omega),xAx (by omega)]
   exact⟨by rw[xAJ e],ew⟩
  | succ r ih=>
   intro i hi hj;have ax:i<l.length:=by omega
   have him:i<m.length:=by omega
   refine zR3 ?_;simp only[zP,zA,show decide ((i:Int)<(l.length:Int))=true from xAJ (by omega),ze];refine zi3 (zi2 ?_);have x1:(l.map zC)[i]?=some (zC l[i]):=by rw[xBi,xAA ax];rfl
   have x2:(m.map zC)[i]?=some (zC m[i]):=by rw[xBi,xAA him];rfl
   obtain⟨p,q1,q2⟩:=zRN ha hk.qb x1;obtain⟨p',q3,q4⟩:=zRN hb hk.qb x2;simp only[q1,q2,q3,q4,zA,zwh,zJn];refine⟨λ aj=>zi1 ?_,λ he=>zi0 ?_⟩
   ·simp only[zAC,zO,xDJ];have ne:¬ l=m:=λ e=>aj (by
     have:l[i]?=m[i]?:=by rw[e]
     rw[xAA ax,xAA him] at this;exact xCc this)
    exact⟨by rw[xAI ne],ew⟩
   ·simp only[zA,zk _ (zCS ax hn)];refine ih (i+1) (by omega) λ j dC=>?_;rcases xAi.1 dC with h|h
    ·exact hj j h
    ·subst h;rw[xAA ax,xAA him,he]
 exact loop l.length 0 (by omega) λ j hj=>by omega
def zVm(c:Int):Bool:=decide (c<0)||decide (40000<c)
def zDd(l:List Int)(i:Nat):Bool:=match l[i]? with
 | some c=>zVm c
 | none=>false
def zIy(p:Nat->Bool):∀ m i,0<=zj p m i ↔ zn p m i=true
 | 0,i=>by simp[zj,zn]
 | m+1,i=>by
  show 0<=(if p i=true then (i:Int) else zj p m (i+1)) ↔ (p i||zn p m (i+1))=true;by_cases h:p i=true
  ·rw[xDO h,h,xDB];simp
  ·have h':p i=false:=by simpa using h
   rw[xDN h,h',xCn];exact zIy p m (i+1)
def zqE{k:AH}{c:Int}(aa:k.ok):(zc E).call 142 [iI c] k=some [(.bool (zVm c),k)]:=by
 refine zgW (s:=true) aa rfl (zdy (zdx ?_));have hw:k.qa<=k.qb.wm:=by rw[zAN];omega
 cases h:decide (c<0) <;> simp only[zP,zAK,h,zA,zI,xAO,show (true==false)=false from rfl,xAG,zE,xAH,zAC,zO,xDJ,zVm,xDB,xCn] <;> exact hw
def zp2{h0 k:AH}{v:Value}{l:List Int}(ha:Arr h0 1 v (l.map i1))(hn:l.length<=9223372036854775807)(hk:Ext h0 k) :
  (zc E).call 189 [v,.func (.func 142) #[] #[]] k=some [(iI (zj (zDd l) l.length 0),k)]:=by
 obtain⟨a1,c1,hv⟩:=ha.slice;rw[xCY] at hv;refine zgA (s:=true) hk.ok rfl (zcW (zcV ?_));have hw:k.qa<=k.qb.wm:=by rw[zAN];omega
 have loop:∀(r i:Nat),i+r=l.length->PI (zhH true) (KR E [.tmp 4] λ x l'=>x=iI (zj (zDd l) r i)/\k.qa<=l'.wm) 2 [v,.func (.func 142) #[] #[],iI (l.length:Int),iI (i:Int)] k.qb:=by
  intro r
  induction r with
  | zero=>
   intro i hi;refine zOA ?_;simp only[zP,zA,show decide ((i:Int)<(l.length:Int))=false from xAI (by omega),zZ];refine zcQ ?_;simp only[zAC,zO,xDJ,zj];exact hw
  | succ r ih=>
   intro i hi;have ax:i<l.length:=by omega
   refine zOA ?_;simp only[zP,zA,show decide ((i:Int)<(l.length:Int))=true from xAJ (by omega),ze];refine zcU (zcT ?_);obtain⟨p,q1,q2⟩:=zCc ha hk.qb (xAA ax);have hb:zDd l i=zVm l[i]:=by unfold zDd;rw[xAA ax]
   simp only[q1,q2,zA,zM,zqE hk.qb.ok,zJ,zAq];refine⟨λ h=>zcS ?_,λ h=>zcR ?_⟩
   ·simp only[zAC,zO,xDJ,zj,hb,h,xDM];exact hw
   ·simp only[zA,zk _ (zCS ax hn)];have:=ih (i+1) (by omega);simp only[zj,hb,h,xBX,xDI];exact this
 rw[hv];simp only[zTU,zA];rw[← hv];exact loop l.length 0 (by omega)
def zqF{h0 k:AH}{v:Value}{l:List Int}(ha:Arr h0 1 v (l.map i1))(hn:l.length<=9223372036854775807)(hk:Ext h0 k) :
  (zc E).call 141 [v,.func (.func 142) #[] #[]] k=some [(.bool (zn (zDd l) l.length 0),k)]:=by
 refine zgX (s:=true) hk.ok rfl (zd0 (zdz ?_));simp only[zM,zp2 ha hn hk.qb,zJ,zBY,zA,zAC,zO,xDJ];refine⟨?_,by rw[zAN];omega⟩
 congr 1
 rw[xCT,xBl];exact zIy _ _ _
def zCR(kind:Int)(L M:GL)(cl:List Int):Int:=if zT L||zT M then 8 else if zBV kind=false then 361 else if (cl.length:Int)≠L.n+M.n then 1 else if zn (zDd cl) cl.length 0 then 1 else 0
def zQE{k:AH}{x y v:Value}{L M:GL}{kind:Int}{cl:List Int}(aa:k.ok)(hx:RL k x L)(hy:RL k y M)(hc:Arr k 1 v (cl.map i1))(an:cl.length<=9223372036854775807) :
  (zc E).call 89 [iI kind,x,y,v] k=some [(iI (zCR kind L M cl),k)]:=by
 obtain⟨vl,ve,elsL,rfl,x2,x3,x4⟩:=id hx.ex;obtain⟨wl,we,elsM,rfl,y2,y3,y4⟩:=id hy.ex;obtain⟨ca,cc,hv⟩:=hc.slice;rw[xCY] at hv;refine zls (s:=true) aa rfl (zjN ?_);obtain⟨k1,e1,n1,t1,o1,f1⟩:=nwF k (rO [iI L.n,vl,ve] 25);obtain⟨k2,e2,n2,t2,o2,f2⟩:=nw o1 (rO [iI M.n,wl,we] 25);obtain⟨k3,e3,n3,t3,o3,f3⟩:=nw o2 (rO [iI L.n,vl,ve,iI M.n,wl,we] 25);rw[n1] at t2;have g0:k2.get k.qa=some (rO [iI L.n,vl,ve] 25):=(f2 _ (by omega)).trans t1;have g0':=(f3 k.qa (by omega)).trans g0;have g1':=(f3 (k.qa+1) (by omega)).trans t2;simp only[zU,zF,zK,zA,e1,e2,zR,n1];refine zjM ?_;have la:zb E 25 k2 (sP k.qa 0)=some (.agg ⟨[iI L.n,vl,ve]⟩):=zN (P:=E) zBT (o:=0) g0 (by simp);have lb:zb E 25 k2 (some (.pointer (some ⟨k.qa+1,0,none⟩)))=some (.agg ⟨[iI M.n,wl,we]⟩):=zN (P:=E) zBT (o:=0) t2 (by simp);have eD:=ztX (a:=iI L.n) (b:=vl) (c:=ve) (a':=iI M.n) (b':=wl) (c':=we) (h:=k2);rw[e3] at eD;have c7:=zRp (h0:=k3) (k:=k3) (v:=.slice (some ⟨k2.qa,0,none⟩) 2 2) (els:=[[iI L.n,vl,ve],[iI M.n,wl,we]]) (Ls:=[L,M])
  (Arr.row (els:=[[iI L.n,vl,ve],[iI M.n,wl,we]]) t3 (by omega) (by simp) (λ i ee aC=>by
   match i with
   | 0=>simp at aC;subst aC;exact⟨rfl,rfl⟩
   | 1=>simp at aC;subst aC;exact⟨rfl,rfl⟩
   | i+2=>simp at aC)) rfl (by simp) (λ i ee LL h1 h2=>by
   match i with
   | 0=>simp at h1 h2;subst h1 h2;exact hx.ext o3.ext
   | 1=>simp at h1 h2;subst h1 h2;exact hy.ext o3.ext
   | i+2=>simp at h1) (Ext.refl o3.ext.ok)
 have bD:zn (zHt [L,M]) 2 0=(zT L||zT M):=by simp[zn,zHt]
 simp only[xCG,xCR,xAK] at c7;rw[show (1+1:Nat)=2 from rfl,bD] at c7;simp only[la,lb,zA,eD,zF,zM,c7,zJ];refine zjL ?_;have fin:∀ n:Int,n=zCR kind L M cl->KR E [.tmp 4] (λ x m=>x=iI (zCR kind L M cl)/\k.qa<=m.wm) .ret [iI n] k3:=λ n h=>by
  rw[zAC];exact⟨zO ▸ trivial,by rw[h],o3.wm⟩
 cases hb:(zT L||zT M) with
 | true=>
  simp only[xDM,zAS,zA,show decide ((8:Int)=0)=false from rfl,xAM,ze];exact zjK (fin 8 (by simp[zCR,hb]))
 | false=>
 obtain⟨hL,hM⟩:=xBJ.1 hb;obtain⟨l1,l2,_⟩:=zf hL;obtain⟨m1,m2,_⟩:=zf hM;simp only[xBX,xDI,zAS,zA,xDG,xAL,zZ];refine zjJ ?_;simp only[zM,zL1 (a:=kind) o3.ext.ok,zJ,zq,zA];cases hm:zBV kind with
 | false=>rw[xAM,ze];exact zjI (fin 361 (by simp[zCR,hL,hM,hm]))
 | true=>
 rw[xAL,zZ];refine zjH ?_;have n0:zb E 3 k3 (sP k.qa (0+0))=some (iI L.n):=zB (P:=E) zAE (o:=0+0) g0';have n1':zb E 3 k3 (some (.pointer (some ⟨k.qa+1,0+0,none⟩)))=some (iI M.n):=zB (P:=E) zAE (o:=0+0) g1';have c141:=zqF (hc.ext o3.ext) an (Ext.refl o3.ext.ok);rw[hv] at c141 ⊢;simp only[zW6,zAP,n0,n1',zA,zk _ (show zC2 (L.n+M.n) from ⟨by omega,by omega⟩),zAS];by_cases hn:(cl.length:Int)=L.n+M.n
 ·simp only[hn,xDG,xAL,zI,zS,xAO,xAG,xAH,zA,zM,c141,zJ,zE,zAq];exact⟨λ h=>zR6 (fin 1 (by simp[zCR,hL,hM,hm,hn,h])),λ h=>zjG (fin 0 (by simp[zCR,hL,hM,hm,hn,h]))⟩
 ·simp only[hn,xCz,xAM,zI,zS,show (true==false)=false from rfl,xAG,xAH,zA,zF,zE,ze];exact zR6 (fin 1 (by simp[zCR,hL,hM,hm,hn]))
def zou{L M:GL}{kind:Int}{cl:List Int}(hL:zT L=false)(hM:zT M=false)(hk:kind=1\/kind=2)(hn:(cl.length:Int)=L.n+M.n)(hl:∀ c∈cl,0<=c/\c<=40000):zCR kind L M cl=0:=by
 have hm:zBV kind=true:=by rcases hk with rfl|rfl <;> rfl
 have ha:zn (zDd cl) cl.length 0=false:=zFS λ j _ _=>by
  unfold zDd;cases h:cl[j]? with
  | none=>rfl
  | some c=>have:=hl c (xBI h);simp[zVm];omega
 simp[zCR,hL,hM,hm,hn,ha]
def zna{k:AH}{x y v:Value}{L M:GL}{kind:Int}{cl:List Int}(aa:k.ok)(hx:RL k x L)(hy:RL k y M)(hL:zT L=false)(hM:zT M=false)(hk:kind=1\/kind=2)(hc:Arr k 1 v (cl.map i1))(hn:(cl.length:Int)=L.n+M.n)(hl:∀ c∈cl,0<=c/\c<=40000) :
  (zc E).call 89 [iI kind,x,y,v] k=some [(iI 0,k)]:=by
 obtain⟨_,l2,_⟩:=zf hL;obtain⟨_,m2,_⟩:=zf hM;rw[zQE aa hx hy hc (by omega),zou hL hM hk hn hl]
def ziI{k:AH}{cf:Value}(aa:k.ok):(zc E).call 248 [.slice none 0 0,iI 0,iI 0,cf] k=some [(.tuple #[],k)]:=by
 refine zVD aa rfl (za5 ?_);rw[zk _ (a:=0) (b:=1) ⟨by omega,by omega⟩];simp only[zA,xDA];refine za4 ?_;simp only[zP,zA,show decide ((1:Int)<0)=false from rfl,zZ,znF,zEm,xDJ];rw[zAN];omega
def ziK{k:AH}{cf:Value}{n:Int}(aa:k.ok):(zc E).call 221 [.slice none 0 0,iI 0,iI 0,iI n,cf] k=some [(.tuple #[],k)]:=by
 refine zVH aa rfl (zbt (zbs (zbr ?_)));rw[zKt _ (a:=0) (b:=0) ⟨by omega,by omega⟩];simp only[zA,Int.sub_self];refine zbq ?_;simp only[zYb,zA,show decide ((0:Int)<=12)=true from rfl,ze];refine zbp ?_;simp only[zM,ziI (zAR k),zJ,znF,zO,xDJ];rw[zAN];omega
def zpg(a:Int)(h:AH):zh E (zAc [(9,iI a)]) (zA4 zrE [1] 3) h=some (.int .u64 (IntKind.u64.wrap a)):=by kernel_rfl
def zRs{k:AH}{cf:Value}(aa:k.ok):(zc E).call 175 [.slice none 0 0,cf] k=some [(.tuple #[],k)]:=by
 refine zVN (by kernel_rfl) aa rfl (zcx ?_);simp only[zA,zTX];refine zcw ?_;obtain⟨l,hl,c93⟩:=ztD (zAR k) (x:=0) (by omega);simp only[zA,zpg,zv4 (show (0:Nat)<18446744073709551616 by omega),zM,c93,zJ];rw[show (((0:Nat):Int))=0 from rfl,ziK (zAR k)];simp only[zJ,znF,zEm,xDJ];rw[zAN];omega
def zRr{k:AH}(aa:k.ok):(zc E).call 177 [.slice none 0 0] k=some [(.slice none 0 0,k)]:=by
 refine zVM aa rfl (zOI (zOH ?_));simp only[zKL,zA,zP,show decide (((0:Nat):Int)<2)=true from rfl,ze];refine zOG ?_;simp only[zAC,zO,xDJ];rw[zAN];omega
def toL(B:List (Int×Int))(q:Int):List Int:=(B.filter λ p=>decide (p.1=q)).map (·.2)
def zJ6(A B:List (Int×Int)):List (Int×Int):=A.flatMap λ p=>(toL B p.2).map λ u=>(p.1,u)
def zoM(B:List (Int×Int))(p:Int×Int):toL (B++[p])=zts (toL B) p.1 p.2:=by
 funext q
 unfold toL zts;rw[xBh,xCX];by_cases h:p.1=q
 ·rw[xDO h.symm];simp[h]
 ·rw[xDN (λ e=>h e.symm)];simp[h]
def zV7(B:List (Int×Int))(q:Int):(toL B q).length<=B.length:=by
 unfold toL;rw[xCY];exact List.length_filter_le _ _
def zQ0(A B:List (Int×Int))(p:Int×Int):zJ6 (A++[p]) B=zJ6 A B++(toL B p.2).map λ u=>(p.1,u):=by
 simp[zJ6]
def zhl{A B:List (Int×Int)}(i:Nat):(zJ6 (A.take i) B).length<=(zJ6 A B).length:=by
 conv=>rhs;rw[← List.take_append_drop i A]
 unfold zJ6;rw[xBU,xBY];omega
def zon{A B:List (Int×Int)}(p:Int×Int):p∈zJ6 A B ↔ ∃ t,(p.1,t)∈A/\(t,p.2)∈B:=by
 obtain⟨s,u⟩:=p;simp only[zJ6,toL,xCM,xCv,xCW,xBl];constructor
 ·rintro⟨⟨a,t⟩,ha,v,⟨⟨b,c⟩,⟨hb,e⟩,rfl⟩,e2⟩;simp only at e e2;simp only[xCl] at e2;exact⟨t,e2.1 ▸ ha,by rw[← e,← e2.2];exact hb⟩
 ·rintro⟨t,ha,hb⟩;exact⟨(s,t),ha,u,⟨(t,u),⟨hb,rfl⟩,rfl⟩,rfl⟩
def MI.look{lo:Nat}{h:AH}{m:Nat}{f:Int->List Int}(I:MI lo h m f)(q:Int):∃ v,IS lo h v (f q)/\∀ h',h'.get m=h.get m->zAy E 125 false (some (.map (some m))) (some (iI q)) h'=some v:=by
 obtain⟨M,ver,h1,h2,h3,h4⟩:=I.ex;exact⟨_,h3 q,λ h' e=>zWw (e.trans h1) h2 q⟩
def zMP{l:List (Int×Int)}{i:Nat}(h:i<l.length):l.take (i+1)=l.take i++[l[i]]:=by
 rw[xBw,xAA h];rfl
structure GW(h:AH)(bg:Nat)(SS:List za):Prop where
 ex:∃ bs cells cp es,h.get bg=some (rO [.slice (some ⟨bs,0,none⟩) cells.length cp] 131)/\bg<h.qa/\h.get bs=some (.row cells 132 es false)/\bs<h.qa/\cells.length=SS.length/\∀(i:Nat) (c:Value) (S:za),cells[i]?=some c->SS[i]?=some S->CellOK h c S
def GW.ext{h k:AH}{bg:Nat}{SS:List za}(g:GW h bg SS)(e:Ext h k):GW k bg SS:=by
 obtain⟨bs,cells,cp,es,h1,h2,h3,h4,h5,h6⟩:=g.ex;refine⟨bs,cells,cp,es,(e.get _ h2).trans h1,xAC h2 e.qa,(e.get _ h4).trans h3,xAC h4 e.qa,h5,λ i c S hc hS=>?_⟩;rcases h6 i c S hc hS with a|⟨b,a1,a2,a3⟩
 ·exact .inl a
 ·exact .inr ⟨b,a1,(e.get b a3).trans a2,xAC a3 e.qa⟩
def Sl(lo:Nat)(m:AH)(v:Value)(F:za):Prop:=(F=[]/\v=.slice none 0 0)\/∃ b rest,v=sl b F.length (UNK+2)/\lo<=b/\b<m.qa/\m.get b=some (.row (F.flatMap zC++rest) 134 2 false)
def zAg(cl:List Int)(u:Int):Int:=(cl[u.toNat]?).getD 0
def zJE(S:za)(cl:List Int):za:=S.map λ y=>(y.1,zAg cl y.2)
def zYW{k:AH}{p:Int×Int} :
  zAM E 134 (k.new (rO [iI 0,iI 0] 134)) (some (ptr k.qa)) (some (.agg ⟨zC p⟩))=one (undef,(k.new (rO [iI 0,iI 0] 134)).upd k.qa (some (rO (zC p) 134))):=zNX
def zYJ{k:AH}{bg s:Nat}{SS:List za}{S:za}{v:Value}{cl:List Int}(aa:k.ok)(hg:GW k bg SS)(hS:SS[s]?=some S)(hc:Arr k 1 v (cl.map i1))(hr:∀ y∈S,0<=y.2/\y.2<(cl.length:Int))(gZ:S.length<=900000) :
  Ev true ((zc E).call 129 [ptr bg,v,iI (s:Int)] k) λ x=>∃ F,zBM F/\(∀ p,p∈F ↔ p∈zJE S cl)/\F.length<=S.length/\Sl k.qa x.2 x.1 F/\Fx NoB k x.2:=by
 obtain⟨bs,cells,cp,es,g1,g2,g3,g4,g5,g6⟩:=hg.ex;have ht:s<cells.length:=by rw[g5];exact (xAc.1 hS).1
 have an:cells[s]?=some cells[s]:=xAA ht;have ac:=g6 s _ _ an hS;have lg:zb E 129 k.qb (sP bg (0+0))=some (.slice (some ⟨bs,0,none⟩) cells.length cp):=zB (P:=E) zEh (o:=0+0) g1;have ia:=zI0 (b:=bs) (o:=0) (c:=cp) ht;have ls:=zB (P:=E) zC3 (o:=0+s*1) (h:=k.qb) g3;rw[zAI,show 0+s*1=s by omega,an] at ls;rw[show 0+s*1=s by omega] at ia;obtain⟨ca,cc,dw⟩:=(zCO ac).slice;rw[xCY] at dw;by_cases aj:S=[]
 ·subst aj;have:(zc E).call 129 [ptr bg,v,iI (s:Int)] k=some [(.slice none 0 0,k)]:=by
   refine zVP aa rfl (zOV (zOU (zOT ?_)));simp only[zx,zCj,lg,zA,ia,ls];rw[dw];simp only[zKQ,zA];refine zJa ?_;simp only[zP,zA,show decide ((0:Int)<(([]:za).length:Int))=false from rfl,zZ];refine zOS ?_;simp only[zM,zRs (zAR k),zJ];refine zOR ?_;simp only[zM,zRr (zAR k),zJ,zAC,zO,xDJ];rw[zAN];omega
  rw[this,zJ];exact⟨[],List.Pairwise.nil,λ p=>Iff.rfl,xAF _,.inl ⟨rfl,rfl⟩,Fx.refl aa⟩
 refine zgc (Rp:=λ x m=>∃ F,zBM F/\(∀ p,p∈F ↔ p∈zJE S cl)/\F.length<=S.length/\Sl k.qa m x F/\Fx NoB k m) (zOV (zOU (zOT ?_)));simp only[zx,zCj,lg,zA,ia,ls];rw[dw];simp only[zKQ,zA];rw[← dw];have ex:∀ h,Fx NoB k.qb h->Ext k h:=λ h f=>(f.own (Own.qb k) λ c hc=>hc.elim).ext;have loop:∀(m i:Nat),i+m=S.length->∀ h w,Fx NoB k.qb h->CellOK h w (zJE (S.take i) cl)->(∀ c,zY w c->k.qa<=c)->
   PI (zVo true) (KR E [.tmp 6] λ x m=>(zm x=false\/m.wm<k.qa)/\(λ x m=>∃ F,zBM F/\(∀ p,p∈F ↔ p∈zJE S cl)/\F.length<=S.length/\Sl k.qa m x F/\Fx NoB k m) x ⟨m.t,m.qa,cond (Nat.ble k.wm m.wm) k.wm m.wm⟩) 3 [v,w,cells[s],iI (S.length:Int),iI (i:Int)] h:=by
  intro m
  induction m with
  | zero=>
   intro i hi h w hf hw hb;have hi:i=S.length:=by omega
   subst hi;rw[xCQ] at hw;refine zJa ?_;simp only[zP,zA,show decide ((S.length:Int)<(S.length:Int))=false from xAI (by omega),zZ];refine zOS ?_;rcases hw with ⟨_,h0⟩|⟨b,rfl,gb,lb⟩
   ·exact absurd (List.map_eq_nil_iff.1 h0) aj
   ·have hl:(zJE S cl).length=S.length:=by simp[zJE]
    simp only[zM];refine (zYC (c:=UNK+2) (d:=(zJE S cl).toArray) (cm:=zDH) (ty:=134) (es:=2) (RowB.of (by simpa[zFT,stc] using gb)) lb hf.ok (n:=(zJE S cl).length) (by simp) (by simp;omega) znX zrs).mono ?_;rintro⟨w1,h2⟩ ⟨d',⟨_,hP,mr⟩,R⟩;simp only at hP mr R ⊢;have hsz:d'.size=(zJE S cl).length:=by rw[R.sz];simp
    refine zOR ?_;simp only[zM];refine (zYB (d:=d') R.g R.l hsz (by omega)).mono ?_;rintro⟨v2,h3⟩ C;have eF:=C.v;obtain⟨rs,aw,dR⟩:=C.row;have fx3:=C.fx;simp only at eF aw fx3 ⊢;subst eF;have c8:=hb b ⟨_,_,rfl⟩;have f3:Fx NoB k.qb h3:=(hf.trans R.fx λ c hc=>.inr (by have:c=b:=hc;rw[this];exact c8)).trans fx3 λ c hc=>.inr (by have:c=b:=hc;rw[this];exact c8);have n23:=fx3.qa;have n12:=R.fx.qa;rw[zAC];have jn:PermIn 0 (zJE S cl).toArray.size (zJE S cl).toArray d':=by simpa using hP
    refine⟨zO ▸ trivial,.inl rfl,dd d' d'.size,zJB (by rw[hsz];simpa using mr) _ (xAF _),λ p=>(znV d' p).trans ((zQy jn p).trans (by simp)),(by have:=zXx d' d'.size;omega),.inr ⟨b,rs,rfl,c8,by show b<h3.qa;omega,zHZ aw⟩,f3.back⟩
  | succ m ih=>
   intro i hi h w hf hw hb;have ai:i<S.length:=by omega
   refine zJa ?_;simp only[zP,zA,show decide ((i:Int)<(S.length:Int))=true from xAJ (by omega),ze];refine zeP ?_;have bM:(S.map zC)[i]?=some (zC S[i]):=by rw[xBi,xAA ai];rfl
   obtain⟨p,q1,q2⟩:=zRN (zCO ac) (ex h hf) bM;obtain⟨h1,e1,f1,g1',n1⟩:∃ h1,(h.new (rO [iI 0,iI 0] 134)).upd h.qa (some (rO (zC S[i]) 134))=h1/\Fx NoB h h1/\h1.get h.qa=some (rO (zC S[i]) 134)/\h1.qa=h.qa+1:=
    ⟨_,rfl,((Fx.refl hf.ok).new _).upd (.inr (xAF _)) _,zH _ _ _,rfl⟩
   simp only[q1,q2,zO6,zU,zF,zK,zA,zYW,e1];refine zeO ?_;have eT:Fx NoB k.qb h1:=hf.trans f1 λ c hc=>hc.elim;have m0:zb E 3 h1 (sP h.qa (0+0))=some (iI S[i].1):=zB (P:=E) zAE (o:=0+0) g1';have m1:zb E 3 h1 (sP h.qa (0+1))=some (iI S[i].2):=zB (P:=E) zAE (o:=0+1) g1';have fS:=hr S[i] (xCF ai);have htn:S[i].2=((S[i].2.toNat:Nat):Int):=by omega
   have ab:S[i].2.toNat<cl.length:=by omega
   obtain⟨pc,r1,r2⟩:=zCc hc (ex h1 eT) (xAA ab);rw[← htn] at r1;have aU:zAg cl S[i].2=cl[S[i].2.toNat]:=by unfold zAg;rw[xAA ab];rfl
   obtain⟨h2,s1,s2,s3,s4⟩:=zFv eT.ok (hw.fx f1 λ _ _ h=>h) (by simp[zJE];omega) S[i].1 cl[S[i].2.toNat];simp only[zDn,zBB,m0,m1,zA,r1,r2,zoj,zqT,zF,s1];refine zeN ?_;simp only[zA,zk _ (zCS ai (by omega))];have hh:h1.qa+1<h2.qa:=by omega
   refine ih (i+1) (by omega) h2 _ (eT.trans s4 λ c hc=>.inr (hb c hc)) ?_ ?_
   ·rw[zMP ai];have e2:zJE (S.take i++[S[i]]) cl=zJE (S.take i) cl++[(S[i].1,cl[S[i].2.toNat])]:=by simp only[zJE,xCX,xCi,xCy,aU]
    rw[e2];exact .inr ⟨h1.qa+1,by rw[xBY];rfl,s2,hh⟩
   ·rintro c ⟨n,cp,e⟩;simp only[xBu,xAN,xCo] at e;have:k.qb.qa<=h1.qa:=eT.qa;have e':k.qb.qa=k.qa:=rfl;omega
 exact loop S.length 0 (by omega) k.qb (.slice none 0 0) (Fx.refl (zAR k)) (.inl ⟨rfl,rfl⟩) λ c hc=>by obtain⟨n,cp,e⟩:=hc;cases e
def zFt(SS:List za):Nat->Nat->List Int->List Int
 | 0,_,L=>L
 | f+1,i,L=>match L[i]? with
  | none=>L
  | some u=>zFt SS f (i+1) (zDf SS L u)
def zMp(SS:List za)(L:List Int)(u:Int):∃ t,zDf SS L u=L++t:=by
 unfold zDf;split
 ·exact zH9 _ L
 ·exact⟨[],by simp⟩
def zRv(SS:List za):∀(f i:Nat) (L:List Int),∃ t,zFt SS f i L=L++t
 | 0,_,L=>⟨[],by simp[zFt]⟩
 | f+1,i,L=>by
  simp only[zFt];split
  ·exact⟨[],by simp⟩
  ·rename_i u hu;obtain⟨t,ht⟩:=zMp SS L u;obtain⟨t2,h2⟩:=zRv SS f (i+1) (zDf SS L u);exact⟨t++t2,by rw[h2,ht,xBs]⟩
def zYa{SS:List za}(hv:zQX SS):∀(f i:Nat) (L:List Int),L.Nodup->(∀ u∈L,0<=u/\u<(SS.length:Int))->(zFt SS f i L).Nodup/\∀ u∈zFt SS f i L,0<=u/\u<(SS.length:Int)
 | 0,_,L,h1,h2=>⟨h1,h2⟩
 | f+1,i,L,h1,h2=>by
  simp only[zFt];split
  ·exact⟨h1,h2⟩
  ·rename_i u hu;refine zYa hv f (i+1) _ ?_ ?_
   ·unfold zDf;split;exact zFO h1;exact h1
   ·intro x hx;unfold zDf at hx;split at hx
    ·rename_i S hS;rcases zIA hx with h|⟨y,hy,rfl⟩
     ·exact h2 x h
     ·exact (hv.stp _ S hS).2 y hy
    ·exact h2 x hx
def zxS{SS:List za}{body:Int->Bool}(hv:∀(i:Nat) (S:za),SS[i]?=some S->∀ y∈S,0<=y.2/\y.2<(SS.length:Int)) :
  ∀(f i:Nat) (L:List Int),L.Nodup->(∀ u∈L,0<=u/\u<(SS.length:Int))->SS.length<=f+i->bfs SS body f i L=((zFt SS f i L).drop i).any body:=by
 intro f
 induction f with
 | zero=>
  intro i L hn hr hf;have:=zAB SS.length L hn hr;simp only[bfs,zFt];rw[xAs (by omega)];rfl
 | succ f ih=>
  intro i L hn hr hf;simp only[bfs,zFt];cases hi:L[i]? with
  | none=>
   simp only;rw[xAs (by have:=xAf.1 hi;omega)];rfl
  | some u=>
   simp only;have ax:=(xAc.1 hi).1;rw[ih (i+1) (zDf SS L u) (by unfold zDf;split;exact zFO hn;exact hn) (λ x hx=>by
    unfold zDf at hx;split at hx
    ·rename_i S hS;rcases zIA hx with h|⟨y,hy,rfl⟩
     ·exact hr x h
     ·exact hv _ S hS y hy
    ·exact hr x hx) (by omega)]
   obtain⟨t,ht⟩:=zMp SS L u;obtain⟨t2,h2⟩:=zRv SS f (i+1) (zDf SS L u);have hu:(zFt SS f (i+1) (zDf SS L u))[i]?=some u:=by rw[h2,ht,xBs,xAb ax];exact hi
   have lz:=(xAc.1 hu).1;rw[xAZ lz,List.any_cons];have:(zFt SS f (i+1) (zDf SS L u))[i]=u:=by rw[xAA lz] at hu;exact xCc hu
   rw[this]
structure Exb(b:Nat)(k h:AH):Prop where
 ok:h.ok
 qa:k.qa<=h.qa
 get:∀ c,c<k.qa->c≠b->h.get c=k.get c
def Exb.step{b:Nat}{k h g:AH}(e:Exb b k h)(ok:g.ok)(hn:h.qa<=g.qa)(hg:∀ c,c<k.qa->c≠b->g.get c=h.get c):Exb b k g:=
 ⟨ok,xCx e.qa hn,λ c h1 h2=>(hg c h1 h2).trans (e.get c h1 h2)⟩
structure GWB(b:Nat)(h:AH)(bg:Nat)(SS:List za):Prop where
 ex:∃ bs cells cp es,h.get bg=some (rO [.slice (some ⟨bs,0,none⟩) cells.length cp] 131)/\bg<h.qa/\h.get bs=some (.row cells 132 es false)/\bs<h.qa/\cells.length=SS.length/\(∀(i:Nat) (c:Value) (S:za),cells[i]?=some c->SS[i]?=some S->CellOK h c S)/\bg≠b/\bs≠b/\∀(i:Nat) (c:Value) (x:Nat),cells[i]?=some c->zY c x->x≠b
abbrev JT:=List Int->(Nat->Prop)->AH->Prop
def zYt(b:Nat)(J:JT):Prop:=∀ vis O (h g:AH),J vis O h->h.qa<=g.qa->(∀ c,O c\/c=b->g.get c=h.get c)->J vis O g
def YdG(b:Nat)(k:AH)(l w0 N:Nat)(J:JT):Prop:=∀ vis O h,vis.length<N->J vis O h->Exb b k h->w0<=h.wm->(∀ c,O c->k.qa<=c/\c<h.qa)->∀ u:Int,0<=u->u<(N:Int)->
 ∃ h' O',(zc E).round l [iI u] h=some [(.bool true,h')]/\Exb b k h'/\h'.wm<=l/\w0<=h'.wm/\h.qa<=h'.qa/\(∀ c,k.qa<=c->c<h.qa->¬ O c->h'.get c=h.get c)/\(∀ c,O' c->(O c\/h.qa<=c)/\c<h'.qa)/\J (vis++[u]) O' h'
structure StG(b:Nat)(k:AH)(w0 m1 N:Nat)(J:JT)(v5:Value)(L:List Int)(vis:List Int)(O:Nat->Prop)(h:AH):Prop where
 ext:Exb b k h
 w:w0<=h.wm
 map:∃ R ver,h.get m1=some (.map (zGc R) ver)/\R.Nodup/\∀ x,x∈R ↔ x∈L
 mlt:m1<h.qa
 nd:L.Nodup
 bd:∀ x∈L,0<=x/\x<(N:Int)
 ls:LS (m1+1) h v5 L
 om:¬ O m1
 ol:∀ c,zY v5 c->¬ O c
 ob:∀ c,O c->k.qa<=c/\c<h.qa
 j:J vis O h
def StG.keep{b:Nat}{k:AH}{w0 m1 N:Nat}{J:JT}{v5:Value}{L vis:List Int}{O:Nat->Prop}{h g:AH}(st:StG b k w0 m1 N J v5 L vis O h)(hs:zYt b J)(hb:b<k.qa)(ok:g.ok)(w:w0<=g.wm)(hn:h.qa<=g.qa)(hg:∀ c,c<h.qa->g.get c=h.get c):StG b k w0 m1 N J v5 L vis O g:=by
 have dr:=st.ext.qa;obtain⟨R,ver,ma,mb⟩:=st.map;exact⟨st.ext.step ok hn λ c h1 _=>hg c (by omega),w,⟨R,ver,(hg _ st.mlt).trans ma,mb⟩,xAC st.mlt hn,st.nd,st.bd,st.ls.mono hn λ c _ h2 _=>hg c h2,st.om,st.ol,λ c hc=>⟨(st.ob c hc).1,by have:=(st.ob c hc).2;omega⟩,
  hs _ _ _ _ st.j hn λ c hc=>hg c (by rcases hc with h|rfl;exact (st.ob c h).2;omega)⟩
def wmB{k h:AH}{w0:Nat}(hw:w0<=k.wm)(st:w0<=h.wm)(ok:h.ok):w0<=cond (Nat.ble k.wm h.wm) k.wm h.wm/\cond (Nat.ble k.wm h.wm) k.wm h.wm<=h.qa+UNK:=by
 unfold AH.ok at ok;cases hc:Nat.ble k.wm h.wm with
 | true=>have:=ble_true.1 hc;simp only[xAG];omega
 | false=>simp only[xAH];omega
def ziJ{k:AH}{l bs0 bgp bg w0 b:Nat}{SS:List za}{J:JT}{t:Int}{ty1 es1 ty2 es2:Nat}{ro1 ro2:Bool}(aa:k.ok)
  (hs:k.get bs0=some (.row [iI t] ty1 es1 ro1)) (cT:bs0<k.qa) (hsb:bs0≠b) (hgp:k.get bgp=some (.row [ptr bg] ty2 es2 ro2)) (dE:bgp<k.qa) (hgb:bgp≠b) (hb:b<k.qa)
  (hG:GWB b k bg SS) (bY:zQX SS) (kN:0<=t) (fQ:t<(SS.length:Int)) (hw:w0<=k.wm) (dg:w0<=k.qa) (hl:l<k.qa) (ku:zYt b J) (hJ0:J [] (λ _=>False) k) (hY:YdG b k l w0 SS.length J) :
  Ev true ((zc E).call 222 [.func (.yield l) #[] #[],ptr bs0,ptr bgp] k) λ x=>x.1=.tuple #[]/\∃ O,J (zFt SS SS.length 0 [t]) O x.2/\Exb b k x.2/\w0<=x.2.wm/\∀ c,O c->k.qa<=c/\c<x.2.qa:=by
 refine zOl (Rp:=λ v m=>v=.tuple #[]/\∃ O,J (zFt SS SS.length 0 [t]) O m/\Exb b k m/\w0<=m.wm/\∀ c,O c->k.qa<=c/\c<m.qa) (zN3 ?_);have e0:Exb b k k.qb:=⟨zAR k,xAF _,λ _ _ _=>rfl⟩;have fR:(k.qb.new (.map [] 0)).get bs0=some (.row [iI t] ty1 es1 ro1):=(zG (by show bs0≠k.qa;omega)).trans hs;have ls1:zb E 3 (k.qb.new (.map [] 0)) (some (ptr bs0))=some (iI t):=zB (P:=E) zAE (o:=0) fR;have m1g:=zD k.qb (.map [] 0);have hu:=zQh (h:=k.qb.new (.map [] 0)) (R:=[]) (q:=t) m1g List.nodup_nil (by simp);simp only[zR] at hu;simp only[zF,ls1,zA,zR,hu];refine zN2 ?_;obtain⟨k2,e2,m2,o2,n2,w2,ok2⟩:∃ k2,(k.qb.new (.map [] 0)).upd k.qa (some (.map (zGc (zF1 t [])) (0+1)))=k2/\k2.get k.qa=some (.map (zGc (zF1 t [])) (0+1))/\(∀ c,c<k.qa->k2.get c=k.get c)/\k2.qa=k.qa+1/\w0<=k2.wm/\k2.ok:=
  ⟨_,rfl,zH _ _ _,λ c hc=>(zL (by omega)).trans (zG (by show c≠k.qa;omega)),rfl,zp (by rw[zDK,zAN];omega) dg,zCH (zBb (zAR k) _) _ _⟩
 have ls2:zb E 3 k2 (some (ptr bs0))=some (iI t):=zB (P:=E) zAE (o:=0) ((o2 bs0 cT).trans hs);simp only[e2,ls2,zA,zhD,zF];refine zN1 ?_;have x3:Exb b k (k2.new (rO [iI t] 3)):=⟨zBb ok2 _,by show k.qa<=k2.qa+1;omega,λ c hc _=>(zG (by omega)).trans (o2 c hc)⟩;have st0:StG b k w0 k.qa SS.length J (.slice (some ⟨k2.qa,0,none⟩) 1 1) [t] [] (λ _=>False) (k2.new (rO [iI t] 3)):=
  ⟨x3,w2,⟨[t],0+1,(zG (by omega)).trans m2,by simp,by simp⟩,by show k.qa<k2.qa+1;omega,by simp,λ x hx=>by rw[xBV.1 hx];exact⟨kN,fQ⟩,⟨k2.qa,1,rfl,by omega,by show k2.qa<k2.qa+1;omega,.inl ⟨rfl,rfl,zD _ _⟩⟩,λ h=>h,λ _ _ h=>h,λ _ h=>h.elim,
   ku _ _ k _ hJ0 x3.qa λ c hc=>by rcases hc with h|rfl;exact h.elim;exact (zG (by omega)).trans (o2 _ hb)⟩
 generalize (k2.new (rO [iI t] 3))=k3 at st0;have fin:∀(L:List Int) (v5:Value) (O:Nat->Prop) (h:AH),StG b k w0 k.qa SS.length J v5 L L O h->h.wm<=l->zFt SS SS.length 0 [t]=L->
   KR E [] (λ v m=>(zm v=false\/m.wm<k.qa)/\(λ v m=>v=.tuple #[]/\∃ O,J (zFt SS SS.length 0 [t]) O m/\Exb b k m/\w0<=m.wm/\∀ c,O c->k.qa<=c/\c<m.qa) v ⟨m.t,m.qa,cond (Nat.ble k.wm m.wm) k.wm m.wm⟩) .normal [] h:=by
  intro L v5 O h st fO hL;simp only[znF,zEm,xDJ];obtain⟨w1,w2⟩:=wmB hw st.w st.ext.ok;refine⟨.inr (by omega),O,?_,⟨w2,st.ext.qa,λ c h1 h2=>st.ext.get c h1 h2⟩,w1,st.ob⟩;rw[hL];exact ku _ _ h _ st.j (xAF _) λ _ _=>rfl
 have loop:∀(f i:Nat) (L:List Int) (v5:Value) (O:Nat->Prop) (h:AH),f+i=SS.length->StG b k w0 k.qa SS.length J v5 L (L.take i) O h->0<L.length->i<=L.length->(i=0\/h.wm<=l)->zFt SS SS.length 0 [t]=zFt SS f i L->
   PI (zJd true) (KR E [] (λ v m=>(zm v=false\/m.wm<k.qa)/\(λ v m=>v=.tuple #[]/\∃ O,J (zFt SS SS.length 0 [t]) O m/\Exb b k m/\w0<=m.wm/\∀ c,O c->k.qa<=c/\c<m.qa) v ⟨m.t,m.qa,cond (Nat.ble k.wm m.wm) k.wm m.wm⟩)) 3 [.func (.yield l) #[] #[],ptr bgp,.map (some k.qa),v5,iI (i:Int)] h:=by
  intro f
  induction f with
  | zero=>
   intro i L v5 O h hf st h0 hi fO hL;have hlen:=zAB _ _ st.nd st.bd;refine zGi ?_;obtain⟨bb,c,hv,h1,h2,h3⟩:=id st.ls;have ax:i=L.length:=by omega
   rw[hv];simp only[zA,zDF,zP,show decide ((i:Int)<(L.length:Int))=false from xAI (by omega),zZ];have st':=st;rw[ax,xCQ] at st';exact fin L v5 O h st' (fO.resolve_left (by omega)) hL
  | succ f ih=>
   intro i L v5 O h hf st h0 hi fO hL;have hlen:=zAB _ _ st.nd st.bd;refine zGi ?_;obtain⟨bb,c,hv,h1,h2,h3⟩:=id st.ls;by_cases hiL:i<L.length
   ·have hq:PI (zJd true) (KR E [] (λ v m=>(zm v=false\/m.wm<k.qa)/\(λ v m=>v=.tuple #[]/\∃ O,J (zFt SS SS.length 0 [t]) O m/\Exb b k m/\w0<=m.wm/\∀ c,O c->k.qa<=c/\c<m.qa) v ⟨m.t,m.qa,cond (Nat.ble k.wm m.wm) k.wm m.wm⟩)) 4 [.func (.yield l) #[] #[],ptr bgp,.map (some k.qa),v5,iI (i:Int)] h:=by
     refine zN0 ?_;obtain⟨x3,e3,x4,e4,rfl⟩:=st.ls.at hiL;obtain⟨u0,u1⟩:=st.bd L[i] (xCF hiL);obtain⟨h',O',y1,y2,y3,y4,y5,y6,y7,y8⟩:=hY _ O h (by rw[xCD];omega) st.j st.ext st.w st.ob L[i] u0 u1;simp only[zA,e3,e4,zIN,xCa,y1,zJ,zq,xAL,zZ];have st1:StG b k w0 k.qa SS.length J v5 L (L.take i++[L[i]]) O' h':=by
      obtain⟨R,ver,ma,mb⟩:=st.map;refine⟨y2,y4,⟨R,ver,(y6 _ (xAF _) st.mlt st.om).trans ma,mb⟩,xAC st.mlt y5,st.nd,st.bd,st.ls.mono y5 λ c eI cN hc3=>y6 c (by omega) cN (st.ol c hc3),λ ho=>?_,λ c hc ho=>?_,λ c hc=>?_,y8⟩
      ·rcases (y7 _ ho).1 with h|h
       ·exact st.om h
       ·have:=st.mlt;omega
      ·obtain⟨bx,cx,ex,_,hx2,_⟩:=st.ls.ex;rcases (y7 _ ho).1 with h|h
       ·exact st.ol c hc h
       ·obtain⟨n',c',he⟩:=hc;rw[ex] at he;simp only[xBu,xAN,xCo] at he;omega
      ·have:=y7 c hc;have dr:=st.ext.qa;rcases this.1 with h|h
       ·exact⟨(st.ob c h).1,this.2⟩
       ·exact⟨by omega,this.2⟩
     refine zNz ?_;have jG:=(st1.ext.get bgp dE hgb).trans hgp;obtain⟨x3,e3,x4,e4,rfl⟩:=st1.ls.at hiL;obtain⟨s,aV⟩:=xAp u0;have jk:s<SS.length:=by omega
     have gT:SS[s]?=some SS[s]:=xAA jk;obtain⟨bs,cells,cp,es,g1,g2,g3,g4,g5,g6,gb1,gb2,gb3⟩:=hG.ex;have d9:s<cells.length:=by rw[g5];exact jk
     have aT:cells[s]?=some cells[s]:=xAA d9;have q0:zb E 128 h' (some (ptr bgp))=some (ptr bg):=zB (P:=E) zCU (o:=0) jG;have q1:zb E 129 h' (sP bg (0+0))=some (.slice (some ⟨bs,0,none⟩) cells.length cp):=zB (P:=E) zEh (o:=0+0) ((st1.ext.get bg g2 gb1).trans g1);have q3:=zB (P:=E) zC3 (o:=0+s*1) ((st1.ext.get bs g4 gb2).trans g3);rw[zAI,show 0+s*1=s by omega,aT] at q3;have ia:=zI0 (b:=bs) (o:=0) (c:=cp) d9;rw[show 0+s*1=s by omega] at ia;have ac:=g6 s _ _ aT gT;obtain⟨ca,cc,bv⟩:=(zCO ac).slice;rw[xCY] at bv;have ay:=zCO ac;rw[bv] at q3 ay;rw[aV] at e4;obtain⟨hZ,eE⟩:=bY.stp s _ gT;simp only[q0,zA,zx,zCj,q1,e3,e4,ia,q3,zIt];have dO:zDf SS L L[i]=(SS[s]).foldl zDq L:=by
      unfold zDf;rw[aV];simp[gT]
     have hbf:zFt SS (f+1) i L=zFt SS f (i+1) (zDf SS L L[i]):=by simp only[zFt,xAA hiL]
     generalize hK:(KR E [] (λ v m=>(zm v=false\/m.wm<k.qa)/\(λ v m=>v=.tuple #[]/\∃ O,J (zFt SS SS.length 0 [t]) O m/\Exb b k m/\w0<=m.wm/\∀ c,O c->k.qa<=c/\c<m.qa) v ⟨m.t,m.qa,cond (Nat.ble k.wm m.wm) k.wm m.wm⟩))=K at ih ⊢;have steps:∀(r j:Nat) (L':List Int) (v5':Value) (g:AH),r+j=(SS[s]).length->StG b k w0 k.qa SS.length J v5' L' (L.take i++[L[i]]) O' g->(∃ tl,L'=L++tl)->g.wm<=l->((SS[s]).drop j).foldl zDq L'=(SS[s]).foldl zDq L->
       PI (zJd true) K 6 [.func (.yield l) #[] #[],ptr bgp,.map (some k.qa),v5',iI (i:Int),.slice ca (SS[s]).length cc,iI ((SS[s]).length:Int),iI (j:Int)] g:=by
      intro r
      induction r with
      | zero=>
       intro j L' v5' g hr sg hpre hgw au;refine zGh ?_;simp only[zP,zA,show decide ((j:Int)<((SS[s]).length:Int))=false from xAI (by omega),zZ];refine zKy ?_;have jD:zC2 ((i:Int)+1):=zLi (by omega) (by have:=bY.len;omega);simp only[zA,zk _ jD];obtain⟨tl,rfl⟩:=hpre;have hv:L.take i++[L[i]]=(L++tl).take (i+1):=by
        rw[xAR (by omega),xBw,xAA hiL];rfl
       rw[hv] at sg;refine ih (i+1) (L++tl) v5' O' g (by omega) sg (by simp;omega) (by simp;omega) (.inr hgw) (hL.trans (hbf.trans ?_));rw[dO,← au,xAs (by omega)];rfl
      | succ r ihr=>
       intro j L' v5' g hr sg hpre hgw au;have iu:j<(SS[s]).length:=by omega
       refine zGh ?_;simp only[zP,zA,show decide ((j:Int)<((SS[s]).length:Int))=true from xAJ (by omega),ze];refine zNy ?_;have gQ:((SS[s]).map zC)[j]?=some (zC (SS[s])[j]):=by simp[iu]
       obtain⟨b',o',c',vs',ty',es',ro',aH,ar,aI,cy,cK,cF⟩:=ay.load gQ;simp only[xBu] at aH;obtain⟨bP,_,_⟩:=aH;subst bP;have jU:b'≠b:=by
        rcases ac with ⟨e,_⟩|⟨bq,e,_⟩
        ·rw[e] at bv;cases bv
        ·have e2:bq=b':=by
          have:=e.symm.trans bv;simp only[xBu,xAN,xCo] at this;exact this.1.1
         exact gb3 s _ b' aT ⟨_,_,e2 ▸ e⟩
       have gb':=(sg.ext.get b' aI jU).trans ar;obtain⟨xt0,xtN⟩:=eE (SS[s])[j] (xCF iu);have hdr:=zNC (L:=L') iu;rw[hdr] at au;generalize (SS[s])[j]=x at cK xt0 xtN au;simp only[zD8 iu,zA,zN zEg gb' cy,cK,zO6,zU,zF,zK,zNX];refine zNx ?_;have hgn:=sg.ext.qa;have w5:w0<=((g.new (rO [iI 0,iI 0] 134)).upd g.qa (some (rO (zC x) 134))).wm:=zp sg.w (by omega);have v5w:((g.new (rO [iI 0,iI 0] 134)).upd g.qa (some (rO (zC x) 134))).wm<=l:=xCx (zBr _ _ _).1 hgw;have x5:((g.new (rO [iI 0,iI 0] 134)).upd g.qa (some (rO (zC x) 134))).get g.qa=some (rO (zC x) 134):=zH _ _ _;have n5:((g.new (rO [iI 0,iI 0] 134)).upd g.qa (some (rO (zC x) 134))).qa=g.qa+1:=rfl;have s5:=sg.keep ku hb (g:=(g.new (rO [iI 0,iI 0] 134)).upd g.qa (some (rO (zC x) 134))) (zCH (zBb sg.ext.ok _) _ _) w5 (by omega) (λ c hc=>(zL (by omega)).trans (zG (by omega)));generalize ((g.new (rO [iI 0,iI 0] 134)).upd g.qa (some (rO (zC x) 134)))=g5 at x5 w5 v5w n5 s5;have y0:zb E 3 g5 (sP g.qa (0+0))=some (iI x.1):=zB (P:=E) zAE (o:=0+0) x5;have y1:zb E 3 g5 (sP g.qa (0+1))=some (iI x.2):=zB (P:=E) zAE (o:=0+1) x5;obtain⟨R,ver,mg,mnd,mmem⟩:=s5.map;have du:decide (x.2∈R)=decide (x.2∈L'):=xCO.2 (mmem x.2);have jC:zC2 ((j:Int)+1):=zLi (by omega) (by omega);have skip:∀ g' v6 L'',StG b k w0 k.qa SS.length J v6 L'' (L.take i++[L[i]]) O' g'->(∃ tl,L''=L++tl)->g'.wm<=l->((SS[s]).drop (j+1)).foldl zDq L''=(SS[s]).foldl zDq L->
         PI (zJd true) K 11 [.func (.yield l) #[] #[],ptr bgp,.map (some k.qa),v6,iI (i:Int),.slice (some ⟨b',o',none⟩) (SS[s]).length cc,iI ((SS[s]).length:Int),iI (j:Int)] g':=by
        intro g' v6 L'' s6 hl6 hw6 hf6;refine zKz ?_;simp only[zk _ jC,zA];exact ihr (j+1) L'' v6 g' (by omega) s6 hl6 hw6 hf6
       simp only[zDn,zBB,y0,y1,zA,zAD,zI,zG0 mg mnd,du];by_cases hx0:x.1=0
       ·by_cases dZ:x.2∈L'
        ·have:zDq L' x=L':=by unfold zDq;simp[dZ]
         rw[this] at au;simp only[hx0,dZ,xDG,xAO,xAG,zA,zBB,y1,zG0 mg mnd,du,zq,zE,xAL,zZ];exact skip g5 v5' L' s5 hpre v5w au
        ·have gS:zDq L' x=L'++[x.2]:=by unfold zDq;simp[dZ,hx0]
         rw[gS] at au;simp only[hx0,dZ,xDG,xCz,xAO,xAG,zA,zBB,y1,zG0 mg mnd,du,zq,zE,xAM,ze];refine zNw ?_;have kw:x.2 ∉ R:=λ h=>dZ ((mmem _).1 h);simp only[zBB,y1,zA,zQh mg mnd kw,zF];refine zK0 ?_;have hkn5:=s5.ext.qa;obtain⟨g6,e6,m6,o6,n6,w6,v6w,k6⟩:∃ g6,g5.upd k.qa (some (.map (zGc (zF1 x.2 R)) (ver+1)))=g6/\g6.get k.qa=some (.map (zGc (zF1 x.2 R)) (ver+1))/\(∀ c,c≠k.qa->g6.get c=g5.get c)/\g6.qa=g5.qa/\w0<=g6.wm/\g6.wm<=l/\g6.ok:=
          ⟨_,rfl,zH _ _ _,λ c hc=>zL hc,rfl,zp s5.w dg,xCx (zBr _ _ _).1 v5w,zCH s5.ext.ok _ _⟩
         rw[e6];have aW:=sg.mlt;have x6:g6.get g.qa=some (rO (zC x) 134):=(o6 _ (by omega)).trans x5;have y6':zb E 3 g6 (sP g.qa (0+1))=some (iI x.2):=zB (P:=E) zAE (o:=0+1) x6;have l6:LS (k.qa+1) g6 v5' L':=s5.ls.mono (xCr n6.symm) (λ c h1 h2 _=>o6 c (by omega));have l7:LS (k.qa+1) (g6.new (rO [iI x.2] 3)) v5' L':=l6.mono (by simp) (λ c h1 h2 _=>zG (by omega));have r7:=zD g6 (rO [iI x.2] 3);have hL9:L'.length<=999999:=by have:=zAB _ _ s5.nd s5.bd;have:=bY.len;omega
         obtain⟨v8,g8,a1,a2,a3,a4,a5,a6,a7,a8⟩:=l7.app hL9 r7;simp only[zBB,y6',zA,zhD,zF,a1];have n7:(g6.new (rO [iI x.2] 3)).qa=g6.qa+1:=rfl;obtain⟨bl,cl,aP,dQ,fh,_⟩:=l7.ex;have k8:g8.ok:=a6 (zBb k6 _);have kp:∀ c,c<g5.qa->c≠k.qa->¬ zY v5' c->g8.get c=g5.get c:=λ c h1 h2 h3=>(a5 c (by omega) h3).trans ((zG (by omega)).trans (o6 c h2));have bZ:∀ c,c<=k.qa->¬ zY v5' c:=by
          rintro c hc ⟨n',c',he⟩;rw[aP] at he;simp only[xBu,xAN,xCo] at he;omega
         have m8:g8.get k.qa=some (.map (zGc (zF1 x.2 R)) (ver+1)):=(a5 _ (by omega) (bZ _ (xAF _))).trans ((zG (by omega)).trans m6);have s8:StG b k w0 k.qa SS.length J v8 (L'++[x.2]) (L.take i++[L[i]]) O' g8:=by
          refine⟨s5.ext.step k8 (by omega) λ c h1 h2=>kp c (by omega) (by omega) (bZ c (by omega)),a8 w0 (by rw[zDK];exact w6) (by omega),⟨zF1 x.2 R,ver+1,m8,zG6 mnd kw,λ y=>?_⟩,by omega,?_,?_,?_,s5.om,?_,λ c hc=>⟨(s5.ob c hc).1,by have:=(s5.ob c hc).2;omega⟩,?_⟩
          ·rw[zH6,mmem];simp only[xCU,xAE];exact Or.comm
          ·rw[← gS];exact zHJ s5.nd x
          ·intro y hy;rcases xCU.1 hy with hy|hy
           ·exact s5.bd y hy
           ·rw[xBV.1 hy];exact⟨xt0,xtN⟩
          ·exact⟨_,UNK+1,by rw[a2];simp,by omega,by omega,.inr ⟨rfl,a4⟩⟩
          ·rintro c ⟨n',c',he⟩ ho;rw[a2] at he;simp only[xBu,xAN,xCo] at he;have:=(s5.ob c ho).2;omega
          ·refine ku _ _ g5 _ s5.j (by omega) λ c hc=>?_;rcases hc with h|rfl
           ·exact kp c (s5.ob c h).2 (λ e=>s5.om (e ▸ h)) λ ar=>s5.ol c ar h
           ·exact kp c (by omega) (by omega) (bZ c (by omega))
         obtain⟨tl,htl⟩:=hpre;exact skip g8 v8 _ s8 ⟨tl++[x.2],by rw[htl,xBs]⟩ (xCx a7 (by rw[zDK];exact v6w)) au
       ·have:zDq L' x=L':=by unfold zDq;simp[hx0]
        rw[this] at au;simp only[hx0,xCz,show (false==true)=false from rfl,xAH,zA,zE,zZ];exact skip g5 v5' L' s5 hpre v5w au
     exact steps (SS[s]).length 0 L v5 h' (by omega) st1 ⟨[],by simp⟩ y3 (by simp)
    rw[hv] at hq ⊢;simp only[zA,zDF,zP,show decide ((i:Int)<(L.length:Int))=true from xAJ (by omega),ze];exact hq
   ·have ax:i=L.length:=by omega
    rw[hv];simp only[zA,zDF,zP,show decide ((i:Int)<(L.length:Int))=false from xAI (by omega),zZ];have st':=st;rw[ax,xCQ] at st';refine fin L v5 O h st' (fO.resolve_left (by omega)) (hL.trans ?_);simp only[zFt,xAx (by omega:L.length<=i)]
 exact loop SS.length 0 [t] _ _ _ (by omega) st0 (by simp) (by simp) (.inl rfl) rfl
end Go.Proofs
namespace Go.Proofs
open Go Go.AM
inductive zYw(T:Int->Int->Int->Prop)(u:Int):Int->Prop
 | refl:zYw T u u
 | step {v w:Int} (h:zYw T u v) (e:T v 0 w):zYw T u w
def zgt(T:Int->Int->Int->Prop)(cl:Int->Int)(kind u n k:Int):Prop:=
 if kind=1 then ∃ v,T u n v/\cl v=k else ∃ w v,zYw T u w/\cl w=cl u/\T w n v/\cl v=k/\¬ (n=0/\k=cl u)
section
variable {T:Int->Int->Int->Prop} {cl:Int->Int} {ok:Int->Prop} {sd:Int->Bool} {kind:Int}
end
def wst(SS:List za)(u n v:Int):Prop:=0<=u/\∃ S,SS[u.toNat]?=some S/\(n,v)∈S
def zvV(SS:List za):Prop:=∀(i:Nat) (S:za),SS[i]?=some S->∀ y∈S,0<=y.2/\y.2<(SS.length:Int)
def ziR{TT:List za}(vld:zvV TT){body:Int->Bool}{t:Int}(ht:0<=t/\t<(TT.length:Int)) :
  bfs TT body TT.length 0 [t]=true ↔ ∃ u,zYw (wst TT) t u/\body u=true:=by
 constructor
 ·intro h;obtain⟨u,hu,hb⟩:=zqZ (P:=λ u=>zYw (wst TT) t u/\0<=u) (λ u hu S hS y hy h0=>
   ⟨.step hu.1 ⟨hu.2,S,hS,by rw[← h0];exact hy⟩,(vld _ S hS y hy).1⟩) _ _ _ (λ u hu=>by rw[xBV.1 hu];exact⟨.refl,ht.1⟩) h
  exact⟨u,hu.1,hb⟩
 ·rintro⟨u,hu,hb⟩;rcases xAh (bfs TT body TT.length 0 [t]) with h|h
  ·exact h
  ·obtain⟨l',h1,h2⟩:=zYZ vld _ 0 [t] (by simp) (λ u hu=>by rw[xBV.1 hu];omega) (by omega) (λ j u hj=>by omega) h;have:∀ u,zYw (wst TT) t u->u∈l':=by
    intro u hu
    induction hu with
    | refl=>exact h1 t (by simp)
    | @step v w hv e ih=>
     obtain⟨S,hS,hm⟩:=e.2;exact (h2 v ih).2 S hS _ hm rfl
   have:=(h2 u (this u hu)).1;rw[this] at hb;cases hb
def zRA{TT:List za}(vld:zvV TT){t x:Int}(ht:0<=t/\t<(TT.length:Int)) :
  x∈zFt TT TT.length 0 [t] ↔ zYw (wst TT) t x:=by
 have h:=ziR vld (body:=λ u=>decide (u=x)) ht;rw[zxS vld _ 0 [t] (by simp) (λ u hu=>by rw[xBV.1 hu];omega) (by omega),xCe,xCK] at h;constructor
 ·intro hx;obtain⟨u,hu,e⟩:=h.1 ⟨x,hx,xAJ rfl⟩;exact xBm e ▸ hu
 ·intro hx;obtain⟨u,hu,e⟩:=h.2 ⟨x,hx,xAJ rfl⟩;exact xBm e ▸ hu
def Emb(T:Int->Int->Int->Prop)(A:GL)(a:Int)(cs:List CL):Prop:=∀ s,0<=s->s<A.n->∀ n v,T (a+s) n v ↔ ∃ c s',stp A s c s'/\v=a+s'/\n=zAY cs c
def zLU{L M:GL}{cs:List CL}(c1:zDr cs)(c2:∀ c∈L.labs,c.1≠-1->c∈cs)(c3':∀ c∈M.labs,c.1≠-1->c∈cs)(hL:zT L=false)(hM:zT M=false){c d:CL}(hc:c∈L.labs)(hd:d∈M.labs)(e:zAY cs d=zAY cs c):d=c:=by
 rcases zMn c1 (c3' d hd) (c2 c hc) e with ⟨e1,e2⟩|e
 ·obtain⟨i,hi⟩:=xBN hd;obtain⟨j,hj⟩:=xBN hc;have a1:=zCo hM hi e1;have a2:=zCo hL hj e2;obtain⟨g1,l1⟩:=d;obtain⟨g2,l2⟩:=c;simp only at e1 e2 a1 a2;rw[e1,e2,a1,a2]
 ·exact e
section
variable {T:Int->Int->Int->Prop} {cl:Int->Int} {kind:Int} {A B:GL} {a b:Int} {cs:List CL}
end
def shS(n:Int)(S:za):za:=S.map λ y=>(y.1,y.2+n)
def zMI(SL SM:List za)(n:Int):List za:=SL++SM.map (shS n)
section
variable {L M:GL} {cs:List CL} {kind:Int} {cl:Int->Int}
abbrev SSW(L M:GL)(cs:List CL):List za:=zMI (zAO (L.labs.map (zAY cs)) L) (zAO (M.labs.map (zAY cs)) M) L.n
def zsx(hL:zT L=false):Emb (wst (SSW L M cs)) L 0 cs:=by
 intro s h0 h1 n v;have hlen:=zAx (L.labs.map (zAY cs)) L;obtain⟨S,hS⟩:∃ S,(zAO (L.labs.map (zAY cs)) L)[s.toNat]?=some S:=⟨_,xAA (by omega)⟩;have hW:(SSW L M cs)[s.toNat]?=some S:=by
  unfold SSW zMI;rw[xAb (by omega)];exact hS
 rw[xDA];constructor
 ·rintro⟨_,S',ib,hm⟩;rw[hW] at ib;cases ib;obtain⟨c,e1,e2⟩:=(zBa hL h0 hS n v).1 hm;exact⟨c,v,e1,by omega,e2⟩
 ·rintro⟨c,s',e1,e2,e3⟩;rw[xDA] at e2;subst e2;exact⟨h0,S,hW,(zBa hL h0 hS n v).2 ⟨c,e1,e3⟩⟩
def zsw(hL:zT L=false)(hM:zT M=false):Emb (wst (SSW L M cs)) M L.n cs:=by
 intro s h0 h1 n v;obtain⟨l1,l2,_⟩:=zf hL;have hlen:=zAx (L.labs.map (zAY cs)) L;have hlen2:=zAx (M.labs.map (zAY cs)) M;obtain⟨S,hS⟩:∃ S,(zAO (M.labs.map (zAY cs)) M)[s.toNat]?=some S:=⟨_,xAA (by omega)⟩;have hW:(SSW L M cs)[(L.n+s).toNat]?=some (shS L.n S):=by
  unfold SSW zMI;rw[xAX (by omega),xBi,show (L.n+s).toNat-(zAO (L.labs.map (zAY cs)) L).length=s.toNat by omega,hS];rfl
 constructor
 ·rintro⟨_,S',ib,hm⟩;rw[hW] at ib;cases ib;obtain⟨⟨n1,v1⟩,hy,e⟩:=xCv.1 hm;simp only[xCl] at e;obtain⟨c,e1,e2⟩:=(zBa hM h0 hS n1 v1).1 hy;exact⟨c,v1,e1,by omega,by rw[← e.1];exact e2⟩
 ·rintro⟨c,s',e1,rfl,e3⟩;exact⟨by omega,_,hW,xCv.2 ⟨(n,s'),(zBa hM h0 hS n s').2 ⟨c,e1,e3⟩,by simp[Int.add_comm]⟩⟩
def zMH:(SSW L M cs).length=L.n.toNat+M.n.toNat:=by
 unfold SSW zMI;rw[xBY,xCY,zAx,zAx]
def zVs(hL:zT L=false)(hM:zT M=false):zvV (SSW L M cs):=by
 intro i S hS y hy;obtain⟨l1,l2,_⟩:=zf hL;obtain⟨m1,m2,_⟩:=zf hM;have hlen:(SSW L M cs).length=L.n.toNat+M.n.toNat:=zMH;have hi:=(xAc.1 hS).1;have hw:wst (SSW L M cs) (i:Int) y.1 y.2:=⟨by omega,S,by simpa using hS,hy⟩;rw[hlen];by_cases h:(i:Int)<L.n
 ·have:=(zsx (M:=M) (cs:=cs) hL i (by omega) h y.1 y.2).1 (by rw[xDA];exact hw);obtain⟨c,s',e,e2,_⟩:=this;have:=(zCx hL e).2.1;omega
 ·have:=(zsw (cs:=cs) hL hM ((i:Int)-L.n) (by omega) (by omega) y.1 y.2).1 (by rw[show L.n+((i:Int)-L.n)=i by omega];exact hw);obtain⟨c,s',e,e2,_⟩:=this;have:=(zCx hM e).2.1;omega
end
end Go.Proofs
namespace Go.Proofs
open Go Go.AM Go.Sort
def zoS(F:za):(stc F).all zl=true:=by
 induction F with
 | nil=>rfl
 | cons x F ih=>
  have:stc (x::F)=zC x++stc F:=rfl;rw[this,List.all_append,ih,zm8];rfl
def zNb{h:AH}(aa:h.ok){c v:Value}{F G:za}{lo:Nat}(hc:CellOK h c F)(hs:Sl lo h v G)(hl:F.length+G.length<=1000000) :
  ∃ c' h',zy E .append [132,132] (some [c,v]) h=one (c',h')/\CellOK h' c' (F++G)/\Fx (λ x=>zY c x) h h'/\∀ x,zY c' x->zY c x\/h.qa<=x:=by
 obtain⟨ti,e1,e2,e3⟩:=elt132.ti;have hG:∃ n,n=G.length/\zBG 2 v h=some (n,stc G):=by
  rcases hs with ⟨rfl,rfl⟩|⟨b,rest,rfl,h1,h2,h3⟩
  ·exact⟨0,rfl,rfl⟩
  ·refine⟨G.length,rfl,?_⟩;have e:((G.flatMap zC++rest).drop 0).take (G.length*2)=stc G:=by
    rw[xCe,xAR (by rw[zBW];omega),xAD (by rw[zBW];omega)];rfl
   simp only[sl,zBG,h3,zAl,zAo,e,zAL];rw[show (stc G).length=G.length*2 from zIU G,xCp,xDO rfl]
 obtain⟨n,hn,hG⟩:=hG;show ∃ c' h',v2 (zBD E [132,132] c v h)=_/\_;simp only[zBD,elt132.el,elt132.un,zFb,xAH,e1,zCQ,e2,hG,e3,xAG];by_cases hz:G=[]
 ·subst hz;have:n=0:=hn;subst this;refine⟨c,h,?_,by simpa using hc,Fx.refl aa,λ x hx=>.inl hx⟩;rcases hc with ⟨rfl,rfl⟩|⟨b,rfl,_⟩
  ·rfl
  ·simp only[zBj,show Nat.beq 0 0=true from rfl,xAG,show Nat.ble F.length (UNK+2)=true from ble_true.2 (by have:UNK=18446744073709551616:=rfl;omega),v2]
 ·have cJ:Nat.beq n 0=false:=by
   rw[hn];cases G with
   | nil=>exact absurd rfl hz
   | cons x G=>rfl
  have af:stc (F++G)=stc F++stc G:=by simp[stc,xBU]
  rcases hc with ⟨rfl,rfl⟩|⟨bl,rfl,hg,ab⟩
  ·refine⟨.slice (some ⟨h.qa,0,none⟩) n (UNK+2),h.new (.row (stc G) 134 2 false),by simp only[zBj,cJ,xAH,zA2,ble_true.2 (show n<=1000000 by simp at hl;omega),xAG,v2],.inr ⟨h.qa,by rw[hn];rfl,zD _ _,by simp⟩,(Fx.refl aa).new _,λ x ⟨m,q,e⟩=>?_⟩;simp only[xBu,xAN,xCo] at e;exact .inr (by omega)
  ·have h1:Nat.ble UNK (UNK+2)=true:=ble_true.2 (by omega);have k9:(stc F).length=F.length*2:=zIU F;have h2:Nat.ble (0+(F.length+n)*2) (stc F).length=false:=ble_false.2 (by rw[k9];have:n≠0:=(λ e=>by rw[e] at cJ;cases cJ);omega);have h3:Nat.beq (0+F.length*2) (stc F).length=true:=by rw[k9,xAK];exact xCp _
   have h4:((stc F).drop 0).take (F.length*2)=stc F:=by rw[xCe,xAD (by omega)]
   refine⟨.slice (some ⟨h.qa,0,none⟩) (F.length+n) (UNK+2),(h.upd bl none).new (.row (stc F++stc G) 134 2 false),by simp only[zBj,cJ,xAH,hg,zCs,h1,xCp,xCm,xAM,xAG,zED,zAL,h2,h3,zEE,zoS,zAl,zAo,h4,zA2,ble_true.2 (show F.length+n<=1000000 by omega),xAG,v2];rfl,.inr ⟨h.qa,?_,?_,by simp⟩,?_,λ x ⟨m,q,e⟩=>?_⟩
   ·rw[hn,xBY]
   ·rw[af];exact zD (h.upd bl none) _
   ·exact ((Fx.refl aa).upd (.inl ⟨_,_,rfl⟩) none).new _
   ·simp only[xBu,xAN,xCo] at e;exact .inr (by have:(h.upd bl none).qa=h.qa:=rfl;omega)
structure zty(b8:Nat)(c0:Value)(F0 S:za)(cl:List Int)(h g:AH):Prop where
 ex:∃ c' F,(∀ p,p∈F ↔ p∈zJE S cl)/\F.length<=S.length/\g.get b8=some (rO [c'] 132)/\CellOK g c' (F0++F)/\∀ x,zY c' x->zY c0 x\/h.qa<=x
 fx:Fx (λ c=>c=b8\/zY c0 c) h g
def zxr(un:Nat)(b8:Nat)(c0:Value)(F0 S:za)(cl:List Int)(own:Int)(h:AH):KF:=λ ex _ g=>ex=.normal/\((zAg cl un≠own/\g=h)\/(zAg cl un=own/\zty b8 c0 F0 S cl h g))
def zqW{h:AH}{l b3 b4 b7 b8 bg un:Nat}{SS:List za}{S F0:za}{v c0:Value}{cl:List Int}{own:Int}{T:Tm}(aa:h.ok)
  (h3:h.get b3=some (rO [ptr bg] 128)) (h4:h.get b4=some (rO [v] 47)) (h7:h.get b7=some (rO [iI own] 3)) (h8:h.get b8=some (rO [c0] 132)) (l8:b8<h.qa)
  (hg:GW h bg SS) (hS:SS[un]?=some S) (hc:Arr h 1 v (cl.map i1)) (dL:un<cl.length) (hr:∀ y∈S,0<=y.2/\y.2<(cl.length:Int)) (hF:CellOK h c0 F0) (hlen:F0.length+S.length<=900000) (n8:¬ zY c0 b8)
  (hT:∀ y∈[(3,ptr b3),(4,ptr b4),(7,ptr b7),(8,ptr b8),(9,iI (un:Int))],T.get y.1=y.2) :
  Ev true (evC E (zc E) (some l) zE5 ⟨T,h,[]⟩) (zJm (zOq true l) (zxr un b8 c0 F0 S cl own h)):=by
 refine zmL hT (zUX ?_);have l3:=zB (P:=E) zCU (o:=0) h3;have l4:=zB (P:=E) zhR (o:=0) h4;have l7:=zB (P:=E) zAE (o:=0) h7;have lc:=zB (P:=E) zC3 (o:=0) h8;simp only[lnth] at l3 l4 l7 lc;obtain⟨p,q1,q2⟩:=zCc hc (Ext.refl aa) (xAA dL);have aU:zAg cl un=cl[un]:=by unfold zAg;rw[show ((un:Int)).toNat=un from rfl,xAA dL];rfl
 simp only[l4,l7,q1,q2,zA,zAD,zAV];refine⟨λ e=>zUW ?_,λ e=>⟨rfl,.inl ⟨by rw[aU];exact e,rfl⟩⟩⟩;simp only[l3,l4,lc,zA,zM];refine (zYJ aa hg hS hc hr (by omega)).mono ?_;rintro⟨w,h1⟩ ⟨F,s1,s2,s3,s4,f1⟩;simp only at s4 f1 ⊢;have h8':=(f1.get b8 l8 (λ h=>h)).trans h8;have lc':=zB (P:=E) zC3 (o:=0) h8';simp only[lnth] at lc';obtain⟨c',h2,a1,a2,a3,a4⟩:=zNb f1.ok (hF.fx f1 λ _ _ h=>h) s4 (by omega);have dw:veq 100 c0 c0=true:=by rcases hF with ⟨rfl,_⟩|⟨b,rfl,_⟩ <;> exact zAw _ _ _ _
 simp only[lc',zA,dw,xDJ,a1,zF];have h8'':=(a3.get b8 (xAC l8 f1.qa) n8).trans h8';have an:zl c'=true:=by rcases a2 with ⟨rfl,_⟩|⟨b,rfl,_⟩ <;> rfl
 have af:=zi (P:=E) zQk (o:=0) (x:=c') (cs:=[c']) h8'' (by rcases a2 with ⟨rfl,_⟩|⟨b,rfl,_⟩ <;> rfl) rfl (by simp) (by simp[an]);simp only[af,zF];have n12:=f1.qa;refine⟨rfl,.inr ⟨by rw[aU];exact e,⟨c',F,s2,s3,zH _ _ _,?_,λ x hx=>(a4 x hx).imp id λ h=>by omega⟩,?_⟩⟩
 ·refine a2.imp id ?_;rintro⟨b,x1,x2,x3⟩;refine⟨b,x1,(zL ?_).trans x2,x3⟩;rintro rfl;rcases a4 b ⟨_,_,x1⟩ with h|h
  ·exact n8 h
  ·omega
 ·exact ((f1.mono (P':=λ c=>c=b8\/zY c0 c) λ c hc=>hc.elim).trans a3 λ c hc=>.inl (.inr hc)).upd (.inl (.inl rfl)) _
def zCA(st:LoopState)(pend:Option Code)(T:Tm)(d:Nat):AObj:=.loop st pend T [17] zFy zE5 d
def zBL{h:AH}{a l:Nat}{vs:List Value}{ty es:Nat}{ro:Bool}{st:LoopState}{pend:Option Code}{T:Tm}{d:Nat}(h1:h.get a=some (.row vs ty es ro))(h2:h.get l=some (zCA st pend T d)):a≠l:=by
 rintro rfl;rw[h1] at h2;simp[zCA] at h2
def Cell.ne_loop{h:AH}{c:Value}{F:za}{l:Nat}{st:LoopState}{pend:Option Code}{T:Tm}{d:Nat}(hc:CellOK h c F)(hl:h.get l=some (zCA st pend T d)):¬ zY c l:=by
 rintro⟨m,q,e⟩;rcases hc with ⟨rfl,_⟩|⟨b,rfl,hb,_⟩
 ·cases e
 ·simp only[xBu,xAN,xCo] at e;exact zBL (e.1.1 ▸ hb) hl rfl
def Cell.upd{h:AH}{c:Value}{F:za}{l:Nat}{o:Option AObj}(hc:CellOK h c F)(hl:¬ zY c l):CellOK (h.upd l o) c F:=by
 rcases hc with ⟨e1,e2⟩|⟨b,e1,e2,e3⟩
 ·exact .inl ⟨e1,e2⟩
 ·exact .inr ⟨b,e1,(zL λ e=>hl ⟨_,_,e ▸ e1⟩).trans e2,e3⟩
def GW.upd{h:AH}{bg l:Nat}{SS:List za}{st:LoopState}{pend:Option Code}{T:Tm}{d:Nat}(g:GW h bg SS)(hl:h.get l=some (zCA st pend T d))(o:Option AObj):GW (h.upd l o) bg SS:=by
 obtain⟨bs,cells,cp,es,h1,h2,h3,h4,h5,h6⟩:=g.ex;exact⟨bs,cells,cp,es,(zL (zBL h1 hl)).trans h1,h2,(zL (zBL h3 hl)).trans h3,h4,h5,λ i c S hc hS=>Cell.upd (h6 i c S hc hS) (Cell.ne_loop (h6 i c S hc hS) hl)⟩
def Arr.updL{h:AH}{z:Nat}{v:Value}{els:List (List Value)}{l:Nat}{st:LoopState}{pend:Option Code}{T:Tm}{d:Nat}(a:Arr h z v els)(hl:h.get l=some (zCA st pend T d))(o:Option AObj):Arr (h.upd l o) z v els:=by
 cases a with
 | nil a c=>exact .nil a c
 | row hb ab bK hz=>exact .row ((zL (zBL hb hl)).trans hb) ab bK hz
def zhb{h:AH}{l d b3 b4 b7 b8 bg un:Nat}{SS:List za}{S F0:za}{v c0:Value}{cl:List Int}{own:Int}{T:Tm}(aa:h.ok)
  (hl:h.get l=some (zCA .ready none T d)) (lh:l<h.qa)
  (h3:h.get b3=some (rO [ptr bg] 128)) (h4:h.get b4=some (rO [v] 47)) (h7:h.get b7=some (rO [iI own] 3)) (h8:h.get b8=some (rO [c0] 132)) (l8:b8<h.qa)
  (hg:GW h bg SS) (hS:SS[un]?=some S) (hc:Arr h 1 v (cl.map i1)) (dL:un<cl.length) (hr:∀ y∈S,0<=y.2/\y.2<(cl.length:Int)) (hF:CellOK h c0 F0) (hlen:F0.length+S.length<=900000) (n8:¬ zY c0 b8)
  (hT:∀ y∈[(3,ptr b3),(4,ptr b4),(7,ptr b7),(8,ptr b8)],T.get y.1=y.2) :
  ∃ h',(zc E).round l [iI (un:Int)] h=some [(.bool true,h')]/\h'.ok/\h'.wm<=l/\(∀ w,w<=h.wm->w<=l->w<=b8->(∀ c,zY c0 c->w<=c)->w<=h.qa->w<=h'.wm)/\h.qa<=h'.qa/\(∀ c,c<h.qa->c≠b8->¬ zY c0 c->h'.get c=h.get c) ∧
   ∃ c' F,(∀ p,p∈F ↔ zAg cl un=own/\p∈zJE S cl)/\F.length<=S.length/\h'.get b8=some (rO [c'] 132)/\CellOK h' c' (F0++F)/\∀ x,zY c' x->zY c0 x\/h.qa<=x:=by
 have n3:=zBL h3 hl;have n4:=zBL h4 hl;have n7:=zBL h7 hl;have nb8:=zBL h8 hl;have ncl:=Cell.ne_loop hF hl
 let hb:=h.upd l (some (zCA .busy none T d))
 have fJ:hb.ok:=zCH aa _ _;have q:∀ {c:Nat},c≠l->hb.get c=h.get c:=λ hc=>zL hc;have ql:hb.get l=some (zCA .busy none T d):=zH _ _ _;have key:Ev true ((zc E).round l [iI (un:Int)] h) λ y=>∃ g,((zAg cl un≠own/\g=hb)\/(zAg cl un=own/\zty b8 c0 F0 S cl hb g))/\y=(.bool true,g.upd l (some (zCA .ready none T d))):=by
  rw[zQw];unfold roundCall;rw[hl];show Ev true (zDC E (zc E) l zFy zE5 h (zBs T [17] [iI (un:Int)])) _;show Ev true (AM.R.andThen (evC E (zc E) (some l) zFy ⟨T.put 17 (iI (un:Int)),h,[]⟩) (zDk E (zc E) l zE5)) _;have mq:∀ y∈[(3,ptr b3),(4,ptr b4),(7,ptr b7),(8,ptr b8),(17,iI (un:Int))],(T.put 17 (iI (un:Int))).get y.1=y.2:=by
   intro y hy;rw[Tm.get_put];simp only[xAQ,xCN,xDK] at hy;rcases hy with rfl|rfl|rfl|rfl|rfl
   ·exact hT _ (by simp)
   ·exact hT _ (by simp)
   ·exact hT _ (by simp)
   ·exact hT _ (by simp)
   ·rfl
  have ha:=zmK (s:=true) (ll:=l) (h:=h) (K:=λ ex vs g=>ex=.normal/\vs=[ptr b3,ptr b4,ptr b7,ptr b8,iI (un:Int)]/\g=h) mq (zUV (by exact⟨by trivial,by trivial,by trivial⟩));refine Ev.andThen (ha.mono λ o ho=>?_);obtain⟨o1,o2,o3,o4⟩:=ho;have kh:o.st.defs=[]:=o1;have dz:[o.st.T.get 3,o.st.T.get 4,o.st.T.get 7,o.st.T.get 8,o.st.T.get 9]=[ptr b3,ptr b4,ptr b7,ptr b8,iI (un:Int)]:=o3;simp only[xCd,xDL] at dz;unfold zDk;rw[o2,o4,kh];simp only[zLe,hl,zCA,xAG,zCW,beginRound];have hT2:∀ y∈[(3,ptr b3),(4,ptr b4),(7,ptr b7),(8,ptr b8),(9,iI (un:Int))],o.st.T.get y.1=y.2:=by
   intro y hy;simp only[xAQ,xCN,xDK] at hy;rcases hy with rfl|rfl|rfl|rfl|rfl
   ·exact dz.1
   ·exact dz.2.1
   ·exact dz.2.2.1
   ·exact dz.2.2.2.1
   ·exact dz.2.2.2.2
  have df:=zqW (h:=hb) (l:=l) (T:=o.st.T) fJ ((q n3).trans h3) ((q n4).trans h4) ((q n7).trans h7) ((q nb8).trans h8) l8 (hg.upd hl _) hS (hc.updL hl _) dL hr (Cell.upd hF ncl) hlen n8 hT2;refine Ev.andThen (df.mono λ p hp=>?_);obtain⟨_,p2⟩:=hp;obtain⟨p4,p5⟩:=p2;have gl:p.st.h.get l=some (zCA .busy none T d):=by
   rcases p5 with ⟨_,e⟩|⟨_,e⟩
   ·rw[e];exact ql
   ·exact (e.fx.get l lh λ h=>h.elim (λ h=>nb8 h.symm) ncl).trans ql
  unfold endRound;rw[p4];simp only[zEo,zCW,gl,zCA,zDG,Option.isNone,xAG];exact Ev.one ⟨_,p5,rfl⟩
 obtain⟨y,e,g,hy,rfl⟩:=znO key;rcases hy with ⟨hy,rfl⟩|⟨hy,P⟩
 ·refine⟨_,e,zCH fJ _ _,(zBr _ _ _).2,λ w h1 h2 h3 _ _=>zp (zp h1 h2) h2,xAF _,λ c _ _ _=>?_,c0,[],λ p=>⟨λ h=>absurd h (by simp),λ h=>absurd h.1 hy⟩,xDF _,?_,?_,λ x hx=>.inl hx⟩
  ·by_cases hc:c=l
   ·subst hc;rw[zH,hl]
   ·rw[zL hc,q hc]
  ·rw[zL nb8];exact (q nb8).trans h8
  ·rw[xCb];exact Cell.upd (Cell.upd hF ncl) ncl
 ·obtain⟨c',F,s1,s2,s3,s4,s5⟩:=P.ex;have hn:hb.qa<=g.qa:=P.fx.qa;have i9:hb.qa=h.qa:=rfl;have nc':¬ zY c' l:=λ hx=>by
   rcases s5 l hx with h|h
   ·exact ncl h
   ·omega
  refine⟨_,e,zCH P.fx.ok _ _,(zBr _ _ _).2,λ w h1 h2 h3 h4 h5=>zp (P.fx.wm w (zp h1 h2) (λ c hc=>hc.elim (λ e=>by omega) (h4 c)) h5) h2,hn,λ c x1 x2 x3=>?_,c',F,λ p=>(s1 p).trans ⟨λ h=>⟨hy,h⟩,λ h=>h.2⟩,s2,(zL nb8).trans s3,Cell.upd s4 nc',s5⟩;by_cases hc:c=l
  ·subst hc;rw[zH,hl]
  ·rw[zL hc];exact (P.fx.get c x1 λ h=>h.elim x2 x3).trans (q hc)
def ziL{k:AH}{cf:Value}(aa:k.ok):(zc E).call 220 [.slice none 0 0,cf] k=some [(iI (-1),k)]:=by
 refine zVI aa rfl (zJQ ?_)
 try simp only[zA]
 refine zJP ?_;simp only[zA,zFM];refine zE4 ?_;simp only[zP,zA,show decide ((0:Int)<((0:Nat):Int))=false from rfl,zZ];refine zJO ?_
 try simp only[zA]
 rw[zAC];exact⟨zO ▸ trivial,rfl,by rw[zAN];omega⟩
def ziM{k:AH}{cf:Value}(aa:k.ok):(zc E).call 179 [.slice none 0 0,cf] k=some [(.slice none 0 0,k)]:=by
 refine zVL aa rfl (zJV ?_)
 try simp only[zA]
 refine zJU ?_;simp only[zA,zM,ziL (zAR k),zJ];refine zJT ?_;simp only[zA,zAD,xDG,ze];refine zOD ?_
 try simp only[zA]
 rw[zAC];exact⟨zO ▸ trivial,rfl,by rw[zAN];omega⟩
def zsL{a:Int}:zAT E 134 (some [(0,iI 0),(1,iI a)])=some (.agg ⟨zC (0,a)⟩):=by kernel_rfl
def zp4{k:AH}{b:Nat}{p:Int×Int}{own:Int}(aa:k.ok)(hb:k.get b=some (rO [iI own] 3))(ba:b<k.qa) :
  (zc E).call 180 [.agg ⟨zC p⟩,ptr b] k=some [(.bool (decide (p=(0,own))),k)]:=by
 refine zgC (s:=true) aa rfl (zch ?_);obtain⟨k1,e1,n1,t1,o1,f1⟩:=nwF k (rO (zC p) 134);simp only[zU,zF,zK,zA,e1,zR];refine zcg ?_;have l1:zb E 134 k1 (sP k.qa 0)=some (.agg ⟨zC p⟩):=zN (P:=E) zEg (o:=0) t1 (by simp[zC]);have l2:=zB (P:=E) zAE (o:=0) ((f1 b ba).trans hb);simp only[lnth] at l2;simp only[l1,l2,zsL,zA,zss,zAC,zO,xDJ];exact o1.wm
def zoO{h0:AH}{b:Nat}{own:Int}(hb:h0.get b=some (rO [iI own] 3))(ba:b<h0.qa):zYs h0 (.func (.func 180) #[] #[ptr b]) λ p=>decide (p=(0,own)):=
 λ k' p e=>by rw[zoA];exact zp4 e.ok ((e.get b ba).trans hb) (xAC ba e.qa)
def zJb(s:Bool)(d:Nat):Cx:=⟨E,s,none,zJq,[([0],[7,8]),([1,0],[8]),([1,1,0],[8])],[6],[d]⟩
section
variable {s:Bool} {K:KF} {h:AH} {v7 v8:Value} {d:Nat}
def zUS(H :
 EvO (zb E 132 h v8) λ x0=>
 EvO (zAX (.func 180) (some []) [v7]) λ x1=>
 Ev s (zAs (zc E) (some (.func (.func 179) #[] #[])) [x0,x1] h) λ x2=>
 Ev s (zAM E 132 x2.2 v8 x2.1) λ x3=>
 PI (zJb s d) K 1 [v8] x3.2):PI (zJb s d) K 0 [v7,v8] h:=zCC H
def zK4(H :
 EvO (zb E 132 h v8) λ x0=>
 Ev s (zAs (zc E) (some (.func (.func 175) #[] #[])) (some [x0,(.func (.func 176) #[] #[])]) h) λ x1=>
 PI (zJb s d) K 2 [v8] x1.2):PI (zJb s d) K 1 [v8] h:=zCC H
def zK3(H :
 EvO (zb E 132 h v8) λ x0=>
 Ev s (zAs (zc E) (some (.func (.func 177) #[] #[])) [x0] h) λ x1=>
 K .ret [x1.1] x1.2):PI (zJb s d) K 2 [v8] h:=zCC H
def zmH{T:Tm}(hT:∀ x∈[(7,v7),(8,v8)],T.get x.1=x.2)(H:PI (zJb s d) K 0 [v7,v8] h) :
 Ev s (evC E (zc E) none zJq ⟨T,h,[d]⟩) (zJm (zJb s d) K):=
 zBh (C:=zJb s d) (by kernel_rfl) (by kernel_rfl) hT ((by kernel_rfl:zDY (zJb s d) K 30 (rs zJq 60 (.at [])) (zAc [(7,v7),(8,v8)]) h=(PI (zJb s d) K 0 [v7,v8] h)).mpr H)
end
def zu4(b8:Nat)(c:Value)(F:za)(own:Int)(h:AH):KF:=λ ex vs g=>ex=.ret/\∃ x F',vs=[x]/\zBM F'/\(∀ p,p∈F' ↔ p∈F/\p≠(0,own))/\F'.length<=F.length/\Sl (b8+1) g x F'/\Fx (λ y=>y=b8\/zY c y) h g
def mkF{f b:Nat}:zAX (.func f) (some []) (some [ptr b])=some (.func (.func f) #[] #[ptr b]):=rfl
def zoP{h:AH}{d b7 b8:Nat}{c:Value}{own:Int}{F:za}{T:Tm}(aa:h.ok)(h7:h.get b7=some (rO [iI own] 3))(h8:h.get b8=some (rO [c] 132))(l78:b7<b8)(l8:b8<h.qa)
  (hc:CellOK h c F) (fW:∀ x,zY c x->b8<x) (hlen:F.length<=1000000) (hT:∀ y∈[(7,ptr b7),(8,ptr b8)],T.get y.1=y.2) :
  Ev true (evC E (zc E) none zJq ⟨T,h,[d]⟩) (zJm (zJb true d) (zu4 b8 c F own h)):=by
 refine zmH hT (zUS ?_);have lc:=zB (P:=E) zC3 (o:=0) h8;simp only[lnth] at lc;simp only[lc,zA,mkF,zM];rcases hc with ⟨rfl,rfl⟩|⟨bl,rfl,hg,ab⟩
 ·simp only[ziM aa,zJ];have af:=zi (P:=E) zQk (o:=0) (x:=.slice none 0 0) (cs:=[.slice none 0 0]) h8 rfl rfl (by simp) (by simp[zl]);simp only[af,zF];have g8:=zH h b8 (some (rO (lput [.slice none 0 0] 0 [.slice none 0 0]) 132));have ok2:(h.upd b8 (some (rO (lput [.slice none 0 0] 0 [.slice none 0 0]) 132))).ok:=zCH aa _ _;have fx:Fx (λ y=>y=b8\/zY (.slice none 0 0) y) h (h.upd b8 (some (rO (lput [.slice none 0 0] 0 [.slice none 0 0]) 132))):=(Fx.refl aa).upd (.inl (.inl rfl)) _;generalize h.upd b8 (some (rO (lput [.slice none 0 0] 0 [.slice none 0 0]) 132))=h3 at g8 ok2 fx;have lc3:zb E 132 h3 (some (ptr b8))=some (.slice none 0 0):=zB (P:=E) zC3 (o:=0) g8;refine zK4 ?_;simp only[lc3,zA,zM,zRs ok2,zJ];refine zK3 ?_;simp only[lc3,zA,zM,zRr ok2,zJ];exact⟨rfl,_,[],rfl,List.Pairwise.nil,λ p=>⟨λ h=>absurd h (by simp),λ h=>absurd h.1 (by simp)⟩,xAF _,.inl ⟨rfl,rfl⟩,fx⟩
 ·have ba:=fW bl ⟨_,_,rfl⟩;refine (zp5 (k:=h) (h0:=⟨h.t,b8,h.wm⟩) (d:=F.toArray) (f:=λ p=>decide (p=(0,own))) (ty:=134) (es:=2) (RowB.of (by simpa[zFT,stc] using hg)) ab (n:=F.length) (by simp) (by simpa using hlen) ⟨aa,Nat.le_of_lt l8,λ _ _=>rfl⟩ (Nat.le_of_lt ba) (zoO h7 l78)).mono ?_;rintro⟨v2,h2⟩ C;have eF:=C.v;obtain⟨rs,aw,dR⟩:=C.row;have fx:=C.fx;simp only at eF aw fx ⊢;generalize hG:(F.toArray.toList.filter λ p=>!decide (p=(0,own)))=G at eF aw;have hGl:G.length<=F.length:=by rw[← hG];simpa using List.length_filter_le _ F
  have hGm:∀ p,p∈G ↔ p∈F/\p≠(0,own):=λ p=>by rw[← hG];simp
  subst eF;have h82:=(fx.get b8 l8 (by omega)).trans h8;have n2:=fx.qa;have af:=zi (P:=E) zQk (o:=0) (x:=sl bl G.length (UNK+2)) (cs:=[sl bl G.length (UNK+2)]) h82 rfl rfl (by simp) (by simp[zl,sl]);simp only[af,zF];obtain⟨h3,e3⟩:∃ h3,h2.upd b8 (some (.row (lput [.slice (some ⟨bl,0,none⟩) F.length (UNK+2)] 0 [sl bl G.length (UNK+2)]) 132 0 false))=h3:=⟨_,rfl⟩;have g8:h3.get b8=some (rO [sl bl G.length (UNK+2)] 132):=by rw[← e3];exact zH _ _ _
  have fx3:Fx (λ y=>y=b8\/y=bl) h h3:=by rw[← e3];exact (fx.mono (P':=λ y=>y=b8\/y=bl) λ y hy=>.inl (.inr hy)).upd (.inl (.inl rfl)) _
  have row3:h3.get bl=h2.get bl:=by rw[← e3];exact zL (by omega)
  rw[e3];have n3:=fx3.qa;have lc3:zb E 132 h3 (some (ptr b8))=some (sl bl G.length (UNK+2)):=zB (P:=E) zC3 (o:=0) g8;refine zK4 ?_;simp only[lc3,zA,zM];have dE:G.toArray.size=G.length:=by simp
  refine (zYC (c:=UNK+2) (d:=G.toArray) (cm:=zDH) (ty:=134) (es:=2) ⟨rs,by rw[row3];simpa[zFT] using aw,dR⟩ (by omega) fx3.ok (n:=G.length) dE (by omega) znX zrs).mono ?_;rintro⟨w1,h4⟩ ⟨d',⟨_,hP,mr⟩,R⟩;simp only at hP mr R ⊢;have hsz:d'.size=G.length:=by rw[R.sz];simp
  have h84:=(R.fx.get b8 (by omega) (by omega)).trans g8;have lc4:zb E 132 h4 (some (ptr b8))=some (sl bl G.length (UNK+2)):=zB (P:=E) zC3 (o:=0) h84;refine zK3 ?_;simp only[lc4,zA,zM];refine (zYB (d:=d') R.g R.l hsz (by omega)).mono ?_;rintro⟨v5,h5⟩ C;have kI:=C.v;obtain⟨rs5,iG,hids5⟩:=C.row;have fx5:=C.fx;simp only at kI iG fx5 ⊢;subst kI;have n4:=R.fx.qa;have n5:=fx5.qa;have jn:PermIn 0 G.toArray.size G.toArray d':=by simpa using hP
  refine⟨rfl,_,dd d' d'.size,rfl,zJB (by rw[hsz];simpa using mr) _ (xAF _),λ p=>(znV d' p).trans ((zQy jn p).trans (by simpa using hGm p)),(by have:=zXx d' d'.size;omega),.inr ⟨bl,rs5,rfl,ba,by omega,iG⟩,?_⟩;exact ((fx3.trans R.fx λ c hc=>.inl (.inr hc)).trans fx5 λ c hc=>.inl (.inr hc)).mono λ y hy=>hy.elim (λ e=>.inl (.inl e)) λ e=>.inl (.inr (e ▸ ⟨F.length,UNK+2,rfl⟩))
def zCP{f:FuncId}{fn:Func}{c:Code}{args:List Value}{h:AH}{Q:Value->AH->Prop}(aa:h.ok)(hf:E.tab.fn.get f=some fn)(hb:fn.body=some c)(bh:E.sum f args h=none)(hl:Nat.ble (zBU args) fn.ntmps=true)
  (fC:Ev true (AM.R.andThen (evC E (zc E) none (zW fn) ⟨⟨fn.ntmps,zCp args 0 .e⟩,h.qb,[]⟩) (zAU E fn)) λ x=>Q x.1 x.2) :
  Ev true ((zc E).call f args h) λ x=>∃ k,Q x.1 k/\((h.qa<=k.wm/\zm x.1=true/\x.2=h)\/x.2=⟨k.t,k.qa,cond (Nat.ble h.wm k.wm) h.wm k.wm⟩):=by
 rw[zB4 hf hb bh hl];obtain⟨l,e,aj,h1,dH⟩:=fC;rw[e]
 match l,h1 rfl with
 | [x],_=>
  have hq:=dH x (by simp);show Ev true (some [zg9 h.wm (zBf h.qb x)]) _;rw[zJ];unfold zBf;cases hc:(zEv h.qb x&&zm x.1) with
  | true=>
   have an:zEv h.qb x=true/\zm x.1=true:=by simpa only[xAP] using hc
   simp only[xAG];refine⟨x.2,hq,.inl ⟨ble_true.1 an.1,an.2,?_⟩⟩;show (⟨h.t,h.qa,cond (Nat.ble h.wm (Nat.add h.qa UNK)) h.wm (Nat.add h.qa UNK)⟩:AH)=h;have:Nat.ble h.wm (Nat.add h.qa UNK)=true:=ble_true.2 aa;rw[this];rfl
  | false=>
   simp only[xAH];exact⟨x.2,hq,.inr rfl⟩
def zrF:zg5=.seq zQb (.seq zOu (.seq zMB (.seq (.seq zJr (.block 0 (.rangeFunc (.tmp 16) #[17] zFy zE5))) zJq))):=by kernel_rfl
def zsv{T:Tm}{h:AH}{d:Nat}{v:Value}(hT:T.get 6=v)(hd:h.get d=some .defd) :
  zAU E Tryz.f131 ⟨.ret,⟨T,h,[d]⟩⟩=one (v,h.upd d none):=by
 have jl:Tryz.f131.results.toList=[.tmp 6]:=by kernel_rfl
 have:zAU E Tryz.f131 ⟨.ret,⟨T,h,[d]⟩⟩=zCM E Tryz.f131 T (zCI [d] h):=rfl;rw[this];simp only[zCI,hd,zCM,zFD,jl,zCy,hT,v1]
def zHb{k l:AH}(o:Own k l):Fx NoB k.qb l:=⟨o.ext.ok,o.ext.qa,λ c hc _=>o.ext.get c hc,λ m _ _ h3=>xCx h3 o.wm⟩
def zvW(b8:Nat)(SS:List za)(cl:List Int)(own:Int):JT:=λ vis O h=>∃ c F,h.get b8=some (rO [c] 132)/\CellOK h c F/\(∀ x,zY c x->O x)/\(∀ p,p∈F ↔ ∃ u∈vis,zAg cl u=own/\∃ S,SS[u.toNat]?=some S/\p∈zJE S cl)/\F.length<=vis.length*900
def zqJ{k:AH}{bg s:Nat}{SS:List za}{v:Value}{cl:List Int}(aa:k.ok)(hg:GW k bg SS)(bY:zQX SS)(hc:Arr k 1 v (cl.map i1))(hs:s<SS.length)(an:cl.length=SS.length)(hn:SS.length<=900)(hS9:∀(i:Nat) (S:za),SS[i]?=some S->S.length<=900) :
  Ev true ((zc E).call 131 [ptr bg,v,iI (s:Int)] k) λ x=>∃ F,zBM F/\(∀ p,p∈F ↔ (∃ u∈zFt SS SS.length 0 [(s:Int)],zAg cl u=zAg cl s/\∃ S,SS[u.toNat]?=some S/\p∈zJE S cl)/\p≠(0,zAg cl s))/\F.length<=900000/\Sl k.qa x.2 x.1 F/\Fx NoB k x.2:=by
 generalize gp:zAg cl (s:Int)=own;have lT:s<cl.length:=by omega
 have aU:cl[s]=own:=by
  rw[← gp];unfold zAg;rw[show ((s:Int)).toNat=s from rfl,xAA lT];rfl
 have main:Ev true (AM.R.andThen (evC E (zc E) none (zW Tryz.f131) ⟨⟨Tryz.f131.ntmps,zCp [ptr bg,v,iI (s:Int)] 0 .e⟩,k.qb,[]⟩) (zAU E Tryz.f131)) λ x=>
   ∃ F,zBM F/\(∀ p,p∈F ↔ (∃ u∈zFt SS SS.length 0 [(s:Int)],zAg cl u=own/\∃ S,SS[u.toNat]?=some S/\p∈zJE S cl)/\p≠(0,own))/\F.length<=900000/\Sl k.qa x.2 x.1 F/\Fx NoB k.qb x.2:=by
  show Ev true (AM.R.andThen (evC E (zc E) none zg5 _) (zAU E Tryz.f131)) _;have mp:∀ y∈[(0,ptr bg),(1,v),(2,iI (s:Int))],(⟨Tryz.f131.ntmps,zCp [ptr bg,v,iI (s:Int)] 0 .e⟩:Tm).get y.1=y.2:=by
   intro y hy;simp only[xAQ,xCN,xDK] at hy;rcases hy with rfl|rfl|rfl <;> kernel_rfl
  generalize (⟨Tryz.f131.ntmps,zCp [ptr bg,v,iI (s:Int)] 0 .e⟩:Tm)=T0 at mp;rw[zrF];refine Ev.andThen ?_;obtain⟨k1,e1,n1,t1,o1,f1⟩:=nwF k (rO [ptr bg] 128);obtain⟨k2,e2,n2,t2,o2,f2⟩:=nw o1 (rO [v] 47);rw[n1] at t2;show Ev true (AM.R.andThen (evC E (zc E) none zQb ⟨T0,k.qb,[]⟩) (thenC (evC E (zc E) none (.seq zOu (.seq zMB (.seq (.seq zJr (.block 0 (.rangeFunc (.tmp 16) #[17] zFy zE5))) zJq)))))) _;have aP:zl v=true/\zd v=[v]:=by obtain⟨a,c,e⟩:=hc.slice;rw[e];exact⟨rfl,rfl⟩
  have ha:=zmN (s:=true) (h:=k.qb) (K:=λ ex vs g=>ex=.normal/\vs=[iI (s:Int),ptr k.qa,ptr (k.qa+1)]/\g=k2) mp (zUZ (by
   simp only[zU,zF,zA,aP.2,show zd (ptr bg)=[ptr bg] from rfl,e1,zR,e2,n1];exact⟨by trivial,by trivial,by trivial⟩))
  refine Ev.andThen (ha.mono λ o ho=>?_);obtain⟨ex,T,g,ds⟩:=o;obtain⟨p1,p2,p3,p4⟩:=ho;have p1':ds=[]:=p1;have p2':ex=.normal:=p2;have p4':g=k2:=p4;subst p1' p2' p4';clear p1 p2 p4;have p3':[T.get 2,T.get 3,T.get 4]=[iI (s:Int),ptr k.qa,ptr (k.qa+1)]:=p3;simp only[xCd,xDL] at p3';have t3:=(f2 k.qa (by omega)).trans t1;have l4:zb E 47 g (some (ptr (k.qa+1)))=some v:=zB (P:=E) zhR (o:=0) t2;obtain⟨p,q1,q2⟩:=zCc hc o2.ext (xAA lT);obtain⟨k3,e3,n3,t3',o3,f3⟩:=nw o2 (rO [iI 0] 3);rw[n2,n1] at t3';obtain⟨k4,e4,n4,t4,o4,f4⟩:=up o3 (b:=k.qa+2) (by omega) (rO [iI own] 3);have hst3:zAM E 3 k3 (some (ptr (k.qa+2))) (some (iI own))=one (undef,k4):=by
   rw[← e4];exact zi (P:=E) zg8 (o:=0) (x:=iI own) (cs:=[iI own]) t3' rfl rfl (by simp) rfl
  show Ev true (AM.R.andThen (evC E (zc E) none zOu ⟨T,g,[]⟩) (thenC (evC E (zc E) none (.seq zMB (.seq (.seq zJr (.block 0 (.rangeFunc (.tmp 16) #[17] zFy zE5))) zJq))))) _;have hf:=zmJ (s:=true) (v2:=iI (s:Int)) (v3:=ptr k.qa) (v4:=ptr (k.qa+1)) (T:=T) (h:=g) (K:=λ ex vs g=>ex=.normal/\vs=[iI (s:Int),ptr k.qa,ptr (k.qa+1),ptr (k.qa+2)]/\g=k4) (by
   intro y hy;simp only[xAQ,xCN,xDK] at hy;rcases hy with rfl|rfl|rfl
   ·exact p3'.1
   ·exact p3'.2.1
   ·exact p3'.2.2) (zUU (by
   simp only[l4,q1,q2,zA,aU,z_3,zU,zF,show zd (iI 0)=[iI 0] from rfl,e3,n2,n1,show k.qa+1+1=k.qa+2 from rfl,hst3];exact⟨by trivial,by trivial,by trivial⟩))
  refine Ev.andThen (hf.mono λ o ho=>?_);obtain⟨ex,T2,g4,ds⟩:=o;obtain⟨p1,p2,p3,p4⟩:=ho;have p1':ds=[]:=p1;have p2':ex=.normal:=p2;have p4':g4=k4:=p4;subst p1' p2' p4';clear p1 p2 p4;have p3'':[T2.get 2,T2.get 3,T2.get 4,T2.get 7]=[iI (s:Int),ptr k.qa,ptr (k.qa+1),ptr (k.qa+2)]:=p3;simp only[xCd,xDL] at p3'';obtain⟨k5,e5,n5,t5,o5,f5⟩:=nw o4 (rO [.slice none 0 0] 132);rw[n4,n3,n2,n1] at t5;show Ev true (AM.R.andThen (evC E (zc E) none zMB ⟨T2,g4,[]⟩) (thenC (evC E (zc E) none (.seq (.seq zJr (.block 0 (.rangeFunc (.tmp 16) #[17] zFy zE5))) zJq)))) _;have hgg:=zmI (s:=true) (v2:=iI (s:Int)) (v3:=ptr k.qa) (v4:=ptr (k.qa+1)) (v7:=ptr (k.qa+2)) (T:=T2) (h:=g4) (K:=λ ex vs g=>ex=.normal/\vs=[iI (s:Int),ptr k.qa,ptr (k.qa+1),ptr (k.qa+2),ptr (k.qa+3)]/\g=k5) (by
   intro y hy;simp only[xAQ,xCN,xDK] at hy;rcases hy with rfl|rfl|rfl|rfl
   ·exact p3''.1
   ·exact p3''.2.1
   ·exact p3''.2.2.1
   ·exact p3''.2.2.2) (zUT (by
   simp only[zn9,zU,zF,show zd (.slice none 0 0)=[.slice none 0 0] from rfl,e5,n4,n3,n2,n1,show k.qa+1+1+1=k.qa+3 from rfl];exact⟨by trivial,by trivial,by trivial⟩))
  refine Ev.andThen (hgg.mono λ o ho=>?_);obtain⟨ex,T3,g5,ds⟩:=o;obtain⟨p1,p2,p3,p4⟩:=ho;have p1':ds=[]:=p1;have p2':ex=.normal:=p2;have p4':g5=k5:=p4;subst p1' p2' p4';clear p1 p2 p4;have p3g:[T3.get 2,T3.get 3,T3.get 4,T3.get 7,T3.get 8]=[iI (s:Int),ptr k.qa,ptr (k.qa+1),ptr (k.qa+2),ptr (k.qa+3)]:=p3;simp only[xCd,xDL] at p3g;have m5:g5.qa=k.qa+4:=by omega
  have b3:g5.get k.qa=some (rO [ptr bg] 128):=(f5 _ (by omega)).trans ((f4 _ (by omega)).trans ((f3 _ (by omega)).trans t3));have b4:g5.get (k.qa+1)=some (rO [v] 47):=(f5 _ (by omega)).trans ((f4 _ (by omega)).trans ((f3 _ (by omega)).trans t2));have b7:g5.get (k.qa+2)=some (rO [iI own] 3):=(f5 _ (by omega)).trans t4;have b8:g5.get (k.qa+3)=some (rO [.slice none 0 0] 132):=t5;show Ev true (AM.R.andThen (AM.R.andThen (evC E (zc E) none zJr ⟨T3,g5,[]⟩) (thenC (evC E (zc E) none (.block 0 (.rangeFunc (.tmp 16) #[17] zFy zE5))))) (thenC (evC E (zc E) none zJq))) _;refine Ev.andThen (Ev.andThen ?_);have lg:=zB (P:=E) zCU (o:=0) b3;simp only[lnth] at lg;have hb:=zmM (s:=true) (v2:=iI (s:Int)) (v3:=ptr k.qa) (v4:=ptr (k.qa+1)) (v7:=ptr (k.qa+2)) (v8:=ptr (k.qa+3)) (T:=T3) (h:=g5) (K:=λ ex vs kB=>ex=.normal/\vs=[ptr k.qa,ptr (k.qa+1),ptr (k.qa+2),ptr (k.qa+3),.func (.func 222) #[] #[ptr (g5.qa+1),ptr g5.qa]] ∧
    kB.qa=g5.qa+2/\kB.ok/\(∀ w,w<=g5.wm->w<=g5.qa->w<=kB.wm)/\kB.get g5.qa=some (rO [ptr bg] 128)/\kB.get (g5.qa+1)=some (rO [iI (s:Int)] 3)/\∀ c,c<g5.qa->kB.get c=g5.get c) (by
   intro y hy;simp only[xAQ,xCN,xDK] at hy;rcases hy with rfl|rfl|rfl|rfl|rfl
   ·exact p3g.1
   ·exact p3g.2.1
   ·exact p3g.2.2.1
   ·exact p3g.2.2.2.1
   ·exact p3g.2.2.2.2) (zUY (by
   simp only[lg,zA,zM];refine call178.mono λ y hy=>?_;obtain⟨y1,y2⟩:=hy;rw[y1];exact⟨trivial,rfl,y2⟩))
  refine hb.mono λ o ho=>?_;obtain⟨ex,T',kB,ds⟩:=o;obtain⟨p1,p2,p3,nB,okB,wB,c4,c5,bo⟩:=ho;have p1':ds=[]:=p1;have p2':ex=.normal:=p2;subst p1' p2';clear p1 p2;have p3b:[T'.get 3,T'.get 4,T'.get 7,T'.get 8,T'.get 16]=[ptr k.qa,ptr (k.qa+1),ptr (k.qa+2),ptr (k.qa+3),.func (.func 222) #[] #[ptr (g5.qa+1),ptr g5.qa]]:=p3;simp only[xCd,xDL] at p3b;obtain⟨u3,u4,u7,u8,u16⟩:=p3b;clear p3;simp only at nB okB wB c4 c5 bo;show Ev true (AM.R.andThen (evRange E (zc E) none (some (T'.get 16)) [17] zFy zE5 ⟨T',kB,[]⟩) (zDo 0)) _;rw[u16];have hhb:zDQ E 222=true:=by kernel_rfl
  have af:evRange E (zc E) none (some (.func (.func 222) #[] #[ptr (g5.qa+1),ptr g5.qa])) [17] zFy zE5 ⟨T',kB,[]⟩ =
    AM.R.andThen ((zc E).call 222 [.func (.yield (kB.qa+1)) #[] #[],ptr (g5.qa+1),ptr g5.qa] ((kB.new .defd).new (zCA .ready none T' kB.qa))) λ x=>zBi (kB.qa+1) T' [kB.qa] x.2:=by
   unfold evRange;simp only[hhb,xAG];rfl
  rw[af];refine Ev.andThen (Ev.andThen ?_);have okC:((kB.new .defd).new (zCA .ready none T' kB.qa)).ok:=zBb (zBb okB _) _;have cl':((kB.new .defd).new (zCA .ready none T' kB.qa)).get (kB.qa+1)=some (zCA .ready none T' kB.qa):=zD (kB.new .defd) _;have cd:((kB.new .defd).new (zCA .ready none T' kB.qa)).get kB.qa=some .defd:=(zG (by simp)).trans (zD kB _);have co:∀ c,c<kB.qa->((kB.new .defd).new (zCA .ready none T' kB.qa)).get c=kB.get c:=λ c hc=>(zG (by simp;omega)).trans (zG (by omega));have nC:((kB.new .defd).new (zCA .ready none T' kB.qa)).qa=kB.qa+2:=rfl;have wC:((kB.new .defd).new (zCA .ready none T' kB.qa)).wm=kB.wm:=rfl;generalize ((kB.new .defd).new (zCA .ready none T' kB.qa))=kC at okC cl' cd co nC wC;have cg:∀ c,c<g5.qa->kC.get c=g5.get c:=λ c hc=>(co c (by omega)).trans (bo c hc);have eC:Ext k kC:=⟨okC,by omega,λ c hc=>(cg c (by omega)).trans (o5.ext.get c hc)⟩;have hw0:k.qa<=kC.wm:=by rw[wC];exact wB _ o5.wm (by omega)
  have eX:∀ h,Exb (k.qa+3) kC h->Ext k h:=λ h e=>⟨e.ok,by have:=e.qa;omega,λ c hc=>(e.get c (by omega) (by omega)).trans (eC.get c hc)⟩;have hGB:GWB (k.qa+3) kC bg SS:=by
   obtain⟨bs,cells,cp,es,x1,x2,x3,x4,x5,x6⟩:=hg.ex;obtain⟨bs',cells',cp',es',y1,y2,y3,y4,y5,y6⟩:=(hg.ext eC).ex;have r1:=(eC.get bg x2).trans x1;rw[r1] at y1;simp only[xAN,AObj.row.injEq,xCd,xBu,xCo,xDL,xDJ] at y1;obtain⟨rfl,_,_⟩:=y1;have r2:=(eC.get bs x4).trans x3;rw[r2] at y3;simp only[xAN,AObj.row.injEq,xDL,xDJ] at y3;obtain⟨rfl,rfl⟩:=y3;refine⟨bs,cells,cp,es,r1,by omega,r2,by omega,x5,y6,by omega,by omega,λ i c x hi hx=>?_⟩;have his:i<SS.length:=by have:=(xAc.1 hi).1;omega
   rcases x6 i c _ hi (xAA his) with ⟨e,_⟩|⟨b,e,_,hb⟩
   ·rw[e] at hx;obtain⟨_,_,e'⟩:=hx;cases e'
   ·rw[e] at hx;obtain⟨_,_,e'⟩:=hx;simp only[xBu,xAN,xCo] at e';omega
  have hY:YdG (k.qa+3) kC (kB.qa+1) k.qa SS.length (zvW (k.qa+3) SS cl own):=by
   intro vis O h hv hJ he hw hO u hu0 huN;obtain⟨c,F,j1,j2,j3,j4,j5⟩:=hJ;obtain⟨un,rfl⟩:=xAp hu0;have dL:un<SS.length:=by omega
   have ja:SS[un]?=some SS[un]:=xAA dL;obtain⟨z1,z2⟩:=bY.stp un _ ja;have z9:=hS9 un _ ja;have hk:=eX h he;have dO:=he.qa;have nb:∀ x,zY c x->kC.qa<=x/\x<h.qa:=λ x hx=>hO x (j3 x hx);have hmul:vis.length*900+900<=900*900:=by
    have:(vis.length+1)*900<=900*900:=xBH _ (by omega);omega
   obtain⟨h',r1,r2,r3,r4,r5,r6,c',F',s1,s2,s3,s4,s5⟩:=zhb (h:=h) (l:=kB.qa+1) (d:=kB.qa) (un:=un) (own:=own) (F0:=F) (T:=T') he.ok ((he.get _ (by omega) (by omega)).trans cl') (by omega)
    ((he.get _ (by omega) (by omega)).trans ((cg _ (by omega)).trans b3)) ((he.get _ (by omega) (by omega)).trans ((cg _ (by omega)).trans b4)) ((he.get _ (by omega) (by omega)).trans ((cg _ (by omega)).trans b7)) j1 (by omega)
    (hg.ext hk) ja (hc.ext hk) (by omega) (λ y hy=>by rw[an];exact z2 y hy) j2 (by omega) (λ hx=>by have:=(nb _ hx).1;omega) (by
     intro y hy;simp only[xAQ,xCN,xDK] at hy;rcases hy with rfl|rfl|rfl|rfl
     ·exact u3
     ·exact u4
     ·exact u7
     ·exact u8)
   refine⟨h',λ x=>zY c' x,r1,he.step r2 r5 λ x x1 x2=>r6 x (by omega) x2 λ hx=>by have:=(nb x hx).1;omega,r3,r4 _ hw (by omega) (by omega) (λ x hx=>by have:=(nb x hx).1;omega) (by omega),r5,λ x x1 x2 x3=>r6 x x2 (by omega) λ hx=>x3 (j3 x hx),λ x hx=>⟨(s5 x hx).imp (j3 x) id,?_⟩,c',F++F',s3,s4,λ x hx=>hx,λ p=>?_,?_⟩
   ·rcases s4 with ⟨e,_⟩|⟨b,e,_,hb⟩
    ·rw[e] at hx;obtain⟨_,_,e'⟩:=hx;cases e'
    ·rw[e] at hx;obtain⟨_,_,e'⟩:=hx;simp only[xBu,xAN,xCo] at e';omega
   ·rw[xCU,j4,s1];constructor
    ·rintro (⟨u,a1,a2⟩|⟨a1,a2⟩)
     ·exact⟨u,xBK _ a1,a2⟩
     ·exact⟨un,by simp,a1,_,ja,a2⟩
    ·rintro⟨u,a1,a2,S,a3,a4⟩;rcases xCU.1 a1 with a1|a1
     ·exact .inl ⟨u,a1,a2,S,a3,a4⟩
     ·rw[xBV.1 a1] at a2 a3;rw[show ((un:Int)).toNat=un from rfl,ja] at a3;cases a3;exact .inr ⟨a2,a4⟩
   ·rw[xBY,xBY];simp only[xCG,xCR];omega
  have ku:zYt (k.qa+3) (zvW (k.qa+3) SS cl own):=by
   rintro vis O h g ⟨c,F,j1,j2,j3,j4,j5⟩ hn dy;refine⟨c,F,(dy _ (.inr rfl)).trans j1,?_,j3,j4,j5⟩;rcases j2 with e|⟨b,x1,x2,x3⟩
   ·exact .inl e
   ·exact .inr ⟨b,x1,(dy b (.inl (j3 b ⟨_,_,x1⟩))).trans x2,by omega⟩
  have hJ0:zvW (k.qa+3) SS cl own [] (λ _=>False) kC:=⟨_,[],(cg _ (by omega)).trans b8,.inl ⟨rfl,rfl⟩,λ x hx=>(by obtain⟨_,_,e'⟩:=hx;cases e'),λ p=>⟨λ h=>absurd h (by simp),λ ⟨u,h,_⟩=>absurd h (by simp)⟩,xAF _⟩;have lW:=ziJ (k:=kC) (l:=kB.qa+1) (bs0:=g5.qa+1) (bgp:=g5.qa) (bg:=bg) (w0:=k.qa) (b:=k.qa+3) (SS:=SS) (J:=zvW (k.qa+3) SS cl own) (t:=(s:Int)) okC ((co _ (by omega)).trans c5) (by omega) (by omega) ((co _ (by omega)).trans c4) (by omega) (by omega) (by omega) hGB bY (by omega) (by omega) hw0 (by omega) (by omega) ku hJ0 hY;refine lW.mono λ y hy=>?_;obtain⟨vv,h⟩:=y;obtain⟨_,O,⟨c,F,j1,j2,j3,j4,j5⟩,he,d7,hO⟩:=hy;simp only at j1 j2 he d7 hO ⊢;have dE:h.get (kB.qa+1)=some (zCA .ready none T' kB.qa):=(he.get _ (by omega) (by omega)).trans cl';have lN:zBi (kB.qa+1) T' [kB.qa] h=one ⟨.normal,⟨T',h.upd (kB.qa+1) (some (zCA .exhausted none T' kB.qa)),[kB.qa]⟩⟩:=by
   unfold zBi;rw[dE];rfl
  rw[lN,zF];show Ev true (one _) _;rw[zF];have dO:=he.qa;have nb:∀ x,zY c x->kC.qa<=x/\x<h.qa:=λ x hx=>hO x (j3 x hx);have q8:(h.upd (kB.qa+1) (some (zCA .exhausted none T' kB.qa))).get (k.qa+3)=some (rO [c] 132):=(zL (by omega)).trans j1;have q7:(h.upd (kB.qa+1) (some (zCA .exhausted none T' kB.qa))).get (k.qa+2)=some (rO [iI own] 3):=(zL (by omega)).trans ((he.get _ (by omega) (by omega)).trans ((cg _ (by omega)).trans b7));have qd:(h.upd (kB.qa+1) (some (zCA .exhausted none T' kB.qa))).get kB.qa=some .defd:=(zL (by omega)).trans ((he.get _ (by omega) (by omega)).trans cd);have qo:Own k (h.upd (kB.qa+1) (some (zCA .exhausted none T' kB.qa))):=Own.upd ⟨eX h he,d7⟩ (by omega) _;have qc:CellOK (h.upd (kB.qa+1) (some (zCA .exhausted none T' kB.qa))) c F:=Cell.upd j2 λ hx=>by have:=(nb _ hx).1;omega
  have qn:(h.upd (kB.qa+1) (some (zCA .exhausted none T' kB.qa))).qa=h.qa:=rfl;generalize (h.upd (kB.qa+1) (some (zCA .exhausted none T' kB.qa)))=h1 at q8 q7 qd qo qc qn;obtain⟨hvl2,_⟩:(zFt SS SS.length 0 [(s:Int)]).length<=900/\True:=by
   refine⟨?_,trivial⟩;have bp:=zAB SS.length (zFt SS SS.length 0 [(s:Int)]);have:=zYa bY SS.length 0 [(s:Int)] (by simp) (λ u hu=>by rw[xBV.1 hu];omega);have:=bp this.1 this.2;omega
  have hF:F.length<=810000:=xCx j5 (by have:=xBH 900 hvl2;omega);have htl:=zoP (h:=h1) (d:=kB.qa) (b7:=k.qa+2) (b8:=k.qa+3) (c:=c) (own:=own) (F:=F) (T:=T') qo.ext.ok q7 q8 (by omega) (by omega) qc (λ x hx=>by have:=(nb x hx).1;omega) (by omega) (by
   intro y hy;simp only[xAQ,xCN,xDK] at hy;rcases hy with rfl|rfl
   ·exact u7
   ·exact u8)
  show Ev true (evC E (zc E) none zJq ⟨T',h1,[kB.qa]⟩) _;refine htl.mono λ o ho=>?_;obtain⟨ex,T2',g2,ds⟩:=o;obtain⟨o1',o2',x,F',o3',s1,s2,s3,s4,s5⟩:=ho;have o1'':ds=[kB.qa]:=o1';have o2'':ex=.ret:=o2';have o3'':[T2'.get 6]=[x]:=o3';subst o1'' o2'';simp only at s4 s5;show Ev true (zAU E Tryz.f131 ⟨.ret,⟨T2',g2,[kB.qa]⟩⟩) _;have gd:g2.get kB.qa=some .defd:=(s5.get _ (by omega) λ hx=>hx.elim (λ e=>by omega) λ e=>by have:=(nb _ e).1;omega).trans qd;rw[zsv (List.cons.inj o3'').1 gd,zF];have n2':=s5.qa;have fxg:Fx NoB k.qb (g2.upd kB.qa none):=((zHb qo).trans s5 λ y hy=>.inr (by
   show k.qa<=y;rcases hy with e|e
   ·omega
   ·have:=(nb _ e).1;omega)).upd (.inr (by show k.qa<=kB.qa;omega)) none
  refine⟨F',s1,λ p=>(s2 p).trans (and_congr_left λ _=>j4 p),by omega,?_,fxg⟩;rcases s4 with e|⟨b,rest,y1,y2,y3,y4⟩
  ·exact .inl e
  ·refine .inr ⟨b,rest,y1,by omega,y3,(zL λ e=>?_).trans y4⟩;rw[e,gd] at y4;cases y4
 have hbe:zW Tryz.f131=zg5:=rfl;refine (zCP (Q:=λ v m=>∃ F,zBM F/\(∀ p,p∈F ↔ (∃ u∈zFt SS SS.length 0 [(s:Int)],zAg cl u=own/\∃ S,SS[u.toNat]?=some S/\p∈zJE S cl)/\p≠(0,own))/\F.length<=900000/\Sl k.qa m v F/\Fx NoB k.qb m) aa zmP zga (zmO _ _) (by kernel_rfl) main).mono ?_;rintro⟨x,m⟩ ⟨k',⟨F,s1,s2,s3,s4,s5⟩,⟨_,cM,h2⟩|h2⟩
 ·simp only at h2 cM s4 ⊢;subst h2;refine⟨F,s1,s2,s3,?_,Fx.refl aa⟩;rcases s4 with e|⟨b,rest,y1,_⟩
  ·exact .inl e
  ·rw[y1] at cM;cases cM
 ·simp only at h2 s4 s5 ⊢;subst h2;refine⟨F,s1,s2,s3,?_,s5.back⟩;rcases s4 with e|⟨b,rest,y1,y2,y3,y4⟩
  ·exact .inl e
  ·exact .inr ⟨b,rest,y1,y2,y3,zHZ y4⟩
end Go.Proofs
namespace Go.Proofs
open Go Go.AM
mutual
def nT:GT->Nat
 | .mk k n l=>1+nL l
def nL:List GT->Nat
 | []=>0
 | t::ts=>nT t+nL ts
end
abbrev zXN(Q:Prop)(k:AH):KF:=KR E [.tmp 2] (λ x l=>(zm x=true/\∃ b,x=.bool b/\(b=true->Q))/\k.qa<=l.wm)
def zI3{Q:Prop}{k h:AH}(ho:Own k h)(b:Bool)(hb:b=true->Q):zXN Q k .ret [.bool b] h:=by
 simp only[zXN,zAC,zO,xDJ];exact⟨⟨rfl,b,rfl,hb⟩,ho.wm⟩
end Go.Proofs
namespace Go.Proofs
open Go Go.AM Go.Sort
def zTB{B:GB}(h:zAt B=0):zBM B.prs:=by
 refine zV9 λ j p q hp hq=>?_;have ik:=(xAc.1 hq).1;unfold zAt at h;split at h
 ·omega
 ·split at h
  ·omega
  ·split at h
   ·omega
   ·rename_i h3;have:=zAr (Bool.not_eq_true _ ▸ h3) (j+1) (xDF _) (by omega);unfold zA6 at this;simp only[hq,Nat.add_sub_cancel,hp,Nat.succ_pos,xDG,xCk,xBJ,xAk] at this;omega
def zhm{A B:List (Int×Int)}{K:Nat}(h:∀ q,(toL B q).length<=K):(zJ6 A B).length<=A.length*K:=by
 induction A with
 | nil=>simp[zJ6]
 | cons p A ih=>
  have:=h p.2;have e:zJ6 (p::A) B=(toL B p.2).map (λ u=>(p.1,u))++zJ6 A B:=rfl;rw[e,xBY,xCY,xCG,xDE];omega
end Go.Proofs
namespace Go.Proofs
open Go Go.AM
def rd:Nat->Bool->Int->Int->List (Int×Int)->Bs->Option (Bool×Int×List (Int×Int))
 | 0,first,_,k,p,_=>some (first,k,p)
 | f+1,first,last,k,p,s=>if s=[] then some (first,k,p) else
   if (ziD 10 s).2.2=false then none
   else if first=true then (if zBV (kindOf (ziD 10 s).1)=true then rd f false last (kindOf (ziD 10 s).1) p (ziD 10 s).2.1 else none)
   else match rowF (ziD 10 s).1 with
    | none=>none
    | some g=>if (g.1:Int)<=last then none else rd f false g.1 k (p++g.2.map λ t:Nat=>((g.1:Int),(t:Int))) (ziD 10 s).2.1
where kindOf (l:Bs):Int:=if l=[] then 0 else if l=[115,116,114,111,110,103] then 1 else if l=[98,114,97,110,99,104,105,110,103] then 2 else -1
end Go.Proofs
namespace Go.Proofs
open Go Go.AM Go.Sort
abbrev s1(s:Bs):List Value:=[sV s]
end Go.Proofs
namespace Go.Proofs
open Go Go.AM
def adE(p:Ed->Bool)(l:List Int)(e:Ed):List Int:=if p e=true/\e.2.2 ∉ l then l++[e.2.2] else l
def zDe(p:Ed->Bool)(l:List Int)(S:List Ed):List Int:=S.foldl (adE p) l
def zBy(L:GL)(u:Int):List Ed:=((outOf L)[u.toNat]?).getD []
def inE(L:GL)(e:Ed):Bool:=match L.labs[e.2.1.toNat]? with
 | some c=>decide (c.1=-1)
 | none=>false
def zDa(L:GL):Nat->Nat->List Int->List Int
 | 0,_,l=>l
 | f+1,i,l=>match l[i]? with
  | none=>l
  | some u=>zDa L f (i+1) (zDe (inE L) l (zBy L u))
def zBS(L:GL)(l:List Int):List Int:=zDa L L.n.toNat 0 l
def adE_mem{p:Ed->Bool}{l:List Int}{e:Ed}{x:Int}:x∈adE p l e ↔ x∈l\/(p e=true/\e.2.2=x):=by
 unfold adE;split
 ·rename_i h;rw[xCU,xAE];exact or_congr_right ⟨λ e=>⟨h.1,e.symm⟩,λ e=>e.2.symm⟩
 ·rename_i h;refine⟨.inl,λ h1=>h1.elim id λ h2=>?_⟩;rw[not_and,Classical.not_not] at h;exact h2.2 ▸ h h2.1
def zNe{p:Ed->Bool}{l:List Int}{e:Ed}(h:l.Nodup):(adE p l e).Nodup:=by
 unfold adE;split
 ·rename_i h1;rw[xBr];exact⟨h,by simp,λ a ha b hb=>by rw[xAE] at hb;subst hb;exact λ e=>h1.2 (e ▸ ha)⟩
 ·exact h
def addRow_mem{p:Ed->Bool}:∀ {S:List Ed} {l:List Int} {x:Int},x∈zDe p l S ↔ x∈l\/∃ e∈S,p e=true/\e.2.2=x
 | [],l,x=>by simp[zDe]
 | e::S,l,x=>by
  show x∈zDe p (adE p l e) S ↔ _;rw[addRow_mem,adE_mem];simp[or_assoc]
def zHi{p:Ed->Bool}:∀ {S:List Ed} {l:List Int},l.Nodup->(zDe p l S).Nodup
 | [],l,h=>h
 | e::S,l,h=>zHi (S:=S) (zNe h)
def zKw{p:Ed->Bool}:∀ {S:List Ed} {l:List Int},∃ t,zDe p l S=l++t
 | [],l=>⟨[],by simp[zDe]⟩
 | e::S,l=>by
  obtain⟨t,ht⟩:=zKw (p:=p) (S:=S) (l:=adE p l e);obtain⟨t1,h1⟩:∃ t1,adE p l e=l++t1:=by
   unfold adE;split
   ·exact⟨_,rfl⟩
   ·exact⟨[],by simp⟩
  exact⟨t1++t,by show zDe p (adE p l e) S=_;rw[ht,h1,xBs]⟩
def zFC{L:GL}(hL:zT L=false){u:Int}(hu:0<=u/\u<L.n){e:Ed}:e∈zBy L u ↔ e∈L.eds/\e.1=u:=by
 obtain⟨S,hS⟩:∃ S,(outOf L)[u.toNat]?=some S:=⟨_,xAA (by rw[zIf];omega)⟩;unfold zBy;rw[hS,xCH,zMk hS];refine and_congr_right λ he=>?_;obtain⟨j,hj⟩:=xBN he;have:=(zA1 hL hj).1;omega
def zPo{L:GL}(hL:zT L=false){u:Int}(hu:0<=u/\u<L.n){v:Int}:(∃ e∈zBy L u,inE L e=true/\e.2.2=v) ↔ ∃ c,stp L u c v/\c.1=-1:=by
 constructor
 ·rintro⟨e,he,h1,h2⟩;obtain⟨h3,h4⟩:=(zFC hL hu).1 he;unfold inE at h1;split at h1
  ·rename_i c hc;exact⟨c,⟨e,h3,h4,hc,h2⟩,by simpa using h1⟩
  ·cases h1
 ·rintro⟨c,⟨e,h3,h4,hc,h2⟩,h1⟩;exact⟨e,(zFC hL hu).2 ⟨h3,h4⟩,by unfold inE;rw[hc];simpa using h1,h2⟩
def Rg(L:GL)(A:List Int):Prop:=∀ u∈A,0<=u/\u<L.n
def zSs{L:GL}(hL:zT L=false){l:List Int}{u:Int}(hu:0<=u/\u<L.n):Rg L l->Rg L (zDe (inE L) l (zBy L u)):=λ h x hx=>by
 rcases addRow_mem.1 hx with h1|h1
 ·exact h x h1
 ·obtain⟨c,hc,_⟩:=(zPo hL hu).1 h1;exact (zCx hL hc).2.1
def zNR{L:GL}(hL:zT L=false)(Q:Int->Prop)(hQ:∀ u c v,Q u->stp L u c v->c.1=-1->Q v):∀(f i:Nat) (l:List Int),l.Nodup->Rg L l->L.n.toNat<=f+i->(∀ x∈l,Q x)->
  (∀(j:Nat) (u:Int),j<i->l[j]?=some u->∀ c v,stp L u c v->c.1=-1->v∈l)->
  (zDa L f i l).Nodup/\Rg L (zDa L f i l)/\(∀ x∈zDa L f i l,Q x)/\(∀ x∈l,x∈zDa L f i l)/\∀ u∈zDa L f i l,∀ c v,stp L u c v->c.1=-1->v∈zDa L f i l:=by
 obtain⟨z1,z2,_,_⟩:=zf hL;intro f
 induction f with
 | zero=>
  intro i l hn hr hf hq hp;have hb:=zAB L.n.toNat l hn (λ x hx=>by have:=hr x hx;omega);simp only[zDa];refine⟨hn,hr,hq,λ _ h=>h,λ u hu c v=>?_⟩;obtain⟨j,hj⟩:=xBN hu;have:=(xAc.1 hj).1;exact hp j u (by omega) hj c v
 | succ f ih=>
  intro i l hn hr hf hq hp;simp only[zDa];split
  ·rename_i hi;refine⟨hn,hr,hq,λ _ h=>h,λ u hu c v=>?_⟩;obtain⟨j,hj⟩:=xBN hu;have h1:=(xAc.1 hj).1;have h2:=xAf.1 hi;exact hp j u (by omega) hj c v
  ·rename_i u hu;have hum:=xBI hu;have de:=hr u hum;have aq:∀ x∈l,x∈zDe (inE L) l (zBy L u):=λ x hx=>addRow_mem.2 (.inl hx);obtain⟨a,b,c,d,e⟩:=ih (i+1) (zDe (inE L) l (zBy L u)) (zHi hn) (zSs hL de hr) (by omega) (λ x hx=>by
    rcases addRow_mem.1 hx with h1|h1
    ·exact hq x h1
    ·obtain⟨c,hc,h2⟩:=(zPo hL de).1 h1;exact hQ u c x (hq u hum) hc h2) (λ j w hj hw c v hs hc=>by
    obtain⟨t,ht⟩:=zKw (p:=inE L) (S:=zBy L u) (l:=l);have ax:=(xAc.1 hu).1;rw[ht,xAb (by omega)] at hw;rcases xAi.1 hj with h|h
    ·exact aq v (hp j w h hw c v hs hc)
    ·subst h;rw[hu] at hw;cases hw;exact addRow_mem.2 (.inr ((zPo hL de).2 ⟨c,hs,hc⟩)))
   exact⟨a,b,c,λ x hx=>d x (aq x hx),e⟩
def Clo(L:GL)(A:List Int):Prop:=∀ u∈A,∀ c v,stp L u c v->c.1=-1->v∈A
def zJC{L:GL}(hL:zT L=false){l:List Int}(hn:l.Nodup)(hr:Rg L l):(zBS L l).Nodup/\Rg L (zBS L l)/\Clo L (zBS L l)/\(∀ x∈l,x∈zBS L l)/\∀ Q:Int->Prop,(∀ u c v,Q u->stp L u c v->c.1=-1->Q v)->(∀ x∈l,Q x)->∀ x∈zBS L l,Q x:=by
 obtain⟨a,b,_,d,e⟩:=zNR hL (λ _=>True) (λ _ _ _ _ _ _=>trivial) L.n.toNat 0 l hn hr (by omega) (λ _ _=>trivial) (λ j u hj=>by omega);exact⟨a,b,e,d,λ Q hQ hq=>(zNR hL Q hQ L.n.toNat 0 l hn hr (by omega) hq (λ j u hj=>by omega)).2.2.1⟩
def Sil.clo{L:GL}{B:List Int}(hB:Clo L B){t u:Int}(h:Sil L t u)(ht:t∈B):u∈B:=by
 induction h with
 | refl=>exact ht
 | step _ e hc ih=>exact hB _ ih _ _ e hc
def zQn{R:List (Int×Int)}{a b:Int}:(b,a)∈R.map zB9 ↔ (a,b)∈R:=by
 rw[xCv];constructor
 ·rintro⟨⟨x,y⟩,h,e⟩;cases e;exact h
 ·exact λ h=>⟨_,h,rfl⟩
def zHc{α β:Type}{f:α->List β}:∀ {l:List α},(∀ a∈l,f a=[])->l.flatMap f=[]
 | [],_=>rfl
 | a::l,h=>by rw[xBv,h a (by simp),zHc λ b hb=>h b (by simp[hb])];rfl
end Go.Proofs
