import Derived.KernelRfl
import Derived.Lib.Bytealg
import Derived.Test.YthmnhjcmefjgjaaGreatDoorProg
import Derived.Test.YthmnhjcmefjgjaaGreatDoorXAC
set_option linter.all false
set_option linter.unusedSectionVars false
set_option autoImplicit true
set_option relaxedAutoImplicit true
set_option maxRecDepth 100000
set_option maxHeartbeats 1000000
noncomputable section
section
section
namespace Go.AM
open Go Go.Proofs
structure RdK where
 i:Nat
 T:Tm
 o:Oper
 v:Value
 g:Option (Value×Bool)
def gOf(all:List Oper)(T:Tm)(o:Oper):Option (Value×Bool):=match o.guard with
 | none=>none
 | some (j,w)=>match zVh all j with
  | some d=>some (T.get d,w)
  | none=>some (undef,w)
def gdG(g:Option (Value×Bool))(x:Option Value):Option Value:=match g with
 | none=>x
 | some (g,w)=>gdB g w x
def zJM(all:List Oper)(p:PO)(T:Tm)(v:Value)(rds:List RdK):List RdK:=match cls p.o.op with
 | .read=>⟨p.i,T,p.o,v,gOf all T p.o⟩::rds
 | _=>rds
def zHB(bef:Nat):List RdK->List RdK
 | []=>[]
 | r::rs=>cond (zC5 bef r.i) (zHB bef rs) (r::zHB bef rs)
def zYq(p:PO)(rds:List RdK):List RdK:=match p.o.guard with
 | none=>zHB p.bef rds
 | some _=>rds
def zCz(done:Nat):List PO->List PO->List (PO×List PO)
 | _,[]=>[]
 | pre,p::ps=>cond (zBk p done) ((p,pre++ps)::zCz done (pre++[p]) ps) (zCz done (pre++[p]) ps)
def joinAll:List (R St)->R St
 | []=>some []
 | a::l=>joinR a (joinAll l)
def zXz:List Prop->Prop
 | []=>True
 | [a]=>a
 | a::b::l=>a/\zXz (b::l)
section
variable (P:Env) (r:Rec) (s:Bool)
def zHP(all:List Oper)(h:AH):List PO->Tm->Nat->List RdK->(Tm->Nat->List RdK->List PO->Prop)->Prop
 | [],T,done,rds,K=>K T done rds []
 | p::ps,T,done,rds,K=>
  cond (zBk p done&&!zEp p.o.op)
   (EvO (gdO all T p.o (zEP P T p.o h)) λ v=>zHP all h ps (putDst T p.o.dst v) (zBt done p.i) (zJM all p T v rds) K)
   (zHP all h ps T done rds λ T done rds rest=>K T done rds (p::rest))
def zhe(bef:Nat)(h:AH):List RdK->Prop->Prop
 | [],K=>K
 | rd::rs,K=>cond (zC5 bef rd.i) (zhe bef h rs K) (EvO (gdG rd.g (zHD P rd.T rd.o h)) λ v=>veq 100 v rd.v=true/\zhe bef h rs K)
def zTp(all:List Oper)(k:Tm->Nat->List RdK->List PO->AH->Prop)(p:PO)(T:Tm)(done:Nat)(rds:List RdK)(rest:List PO)(h:AH):Prop:=
 Ev s (gdR all T p.o (zGb P r T p.o h) h) λ x=>zhe P p.bef x.2 rds (k (putDst T p.o.dst x.1) (zBt done p.i) (zYq p rds) rest x.2)
def zKg(all:List Oper)(k:Tm->Nat->List RdK->List PO->AH->Prop)(T:Tm)(done:Nat)(rds:List RdK)(h:AH)(rest:List PO):Prop:=
 match zCz done [] rest with
 | []=>False
 | [x]=>zTp P r s all k x.1 T done rds x.2 h
 | l=>s=false/\zXz (l.map λ x=>zTp P r s all k x.1 T done rds x.2 h)
def zP6(all:List Oper)(K:Tm->AH->Prop):Nat->Tm->Nat->List RdK->List PO->AH->Prop
 | 0,_,_,_,_,_=>False
 | f+1,T,done,rds,rest,h=>zHP P all h rest T done rds λ T done rds rest=>match rest with
  | []=>K T h
  | p::ps=>zKg P r s all (zP6 all K f) T done rds h (p::ps)
def zQ7(T:Tm)(o:Oper):Option Value:=match o.guard with
 | some _=>none
 | none=>match o.op with
  | .move x=>zAj T x
  | .assign x=>zAj T x
  | _=>none
def zop(all:List Oper):List Oper->Tm->AH->(Tm->AH->Prop)->Prop
 | [],T,h,K=>K T h
 | o::rest,T,h,K=>match zQ7 T o with
  | some v=>zop all rest (putDst T o.dst v) h K
  | none=>match cls o.op with
   | .pure=>EvO (gdO all T o (zDx P T o)) λ v=>zop all rest (putDst T o.dst v) h K
   | .read=>EvO (gdO all T o (zHD P T o h)) λ v=>zop all rest (putDst T o.dst v) h K
   | .write=>Ev s (gdR all T o (zGb P r T o h) h) λ x=>zop all rest (putDst T o.dst x.1) x.2 K
def zJw(all:List Oper)(h:AH):List PO->Tm->Nat->List RdK->(Tm->Nat->List RdK->List PO->Prop)->Prop
 | [],T,done,rds,K=>K T done rds []
 | p::ps,T,done,rds,K=>
  cond (zBk p done&&!zEp p.o.op)
   (match zQ7 T p.o with
    | some v=>zJw all h ps (putDst T p.o.dst v) (zBt done p.i) (zJM all p T v rds) K
    | none=>EvO (gdO all T p.o (zEP P T p.o h)) λ v=>zJw all h ps (putDst T p.o.dst v) (zBt done p.i) (zJM all p T v rds) K)
   (zJw all h ps T done rds λ T done rds rest=>K T done rds (p::rest))
def ziB(all:List Oper)(K:Tm->AH->Prop):Nat->Tm->Nat->List RdK->List PO->AH->Prop
 | 0,_,_,_,_,_=>False
 | f+1,T,done,rds,rest,h=>zJw P all h rest T done rds λ T done rds rest=>match rest with
  | []=>K T h
  | p::ps=>zKg P r s all (ziB all K f) T done rds h (p::ps)
def rdD(A:List Nat)(all:List Oper)(ps:List PO)(p:PO):Bool:=
 (zHS all p.o).all λ t=>zhA t A||ps.any λ q=>zC5 p.dep q.i&&zBZ q t
def chkD(A:List Nat)(all:List Oper):Bool:=(prep 0 [] all).all (rdD A all (prep 0 [] all))
def zP5:List Oper->List Nat->List Nat
 | [],A=>A
 | o::os,A=>ztt o.dst (zP5 os A)
end
variable {P:Env} {r:Rec} {s:Bool}
theorem EvO.mono{α:Type}{x:Option α}{K K':α->Prop}(h:EvO x K)(hK:∀ a,K a->K' a):EvO x K':=let ⟨_,e,k⟩:=h.ex;.of e (hK _ k)
theorem zMr{all:List Oper}{T:Tm}{o:Oper}{v:Value}(hm:zQ7 T o=some v)(h:AH):cls o.op=.pure/\gdO all T o (zDx P T o)=some v/\gdO all T o (zEP P T o h)=some v:=by
 unfold zQ7 at hm;split at hm
 ·cases hm
 ·rename_i hg;split at hm
  ·rename_i x hx;have hc:cls o.op=.pure:=by rw[hx];rfl
   have hp:zDx P T o=some v:=by unfold zDx;rw[hx];exact hm
   refine⟨hc,?_,?_⟩
   ·unfold gdO;rw[hg];exact hp
   ·unfold gdO zEP;rw[hg,hc];exact hp
  ·rename_i x hx;have hc:cls o.op=.pure:=by rw[hx];rfl
   have hp:zDx P T o=some v:=by unfold zDx;rw[hx];exact hm
   refine⟨hc,?_,?_⟩
   ·unfold gdO;rw[hg];exact hp
   ·unfold gdO zEP;rw[hg,hc];exact hp
  ·cases hm
theorem zGH{all:List Oper}:∀ {l:List Oper} {T:Tm} {h:AH} {K:Tm->AH->Prop},zop P r s all l T h K->zVg P r s all l T h K
 | [],_,_,_,hh=>hh
 | o::rest,T,h,K,hh=>by
  simp only[zop] at hh;simp only[zVg];split at hh
  ·rename_i v hv;obtain⟨a,b,_⟩:=zMr (P:=P) (all:=all) hv h;rw[a];simp only;rw[b];exact zGH hh
  ·split at hh
   ·rename_i hc;(try rw[hc]);exact EvO.mono hh λ _ k=>zGH k
   ·rename_i hc;(try rw[hc]);exact EvO.mono hh λ _ k=>zGH k
   ·rename_i hc;(try rw[hc]);exact Ev.mono hh λ _ k=>zGH k
theorem zFA{all:List Oper}{h:AH}:∀ {ps:List PO} {T:Tm} {done:Nat} {rds:List RdK} {K K':Tm->Nat->List RdK->List PO->Prop},(∀ T d r l,K T d r l->K' T d r l)->zJw P all h ps T done rds K->zHP P all h ps T done rds K'
 | [],_,_,_,_,_,hK,hh=>hK _ _ _ _ hh
 | p::ps,T,done,rds,K,K',hK,hh=>by
  simp only[zJw] at hh;simp only[zHP];cases hr:(zBk p done&&!zEp p.o.op) with
  | false=>
   rw[hr] at hh;exact zFA (λ _ _ _ _ k=>hK _ _ _ _ k) hh
  | true=>
   rw[hr] at hh;simp only[xAG] at hh ⊢;split at hh
   ·rename_i v hv;rw[(zMr (P:=P) (all:=all) hv h).2.2];exact zFA hK hh
   ·exact EvO.mono hh λ _ k=>zFA hK k
theorem zIa{bef:Nat}{h:AH}{K K':Prop}(hK:K->K'):∀ {rs:List RdK},zhe P bef h rs K->zhe P bef h rs K'
 | [],hh=>hK hh
 | rd::rs,hh=>by
  simp only[zhe] at hh ⊢;cases hb:zC5 bef rd.i with
  | true=>rw[hb] at hh;exact zIa hK hh
  | false=>rw[hb] at hh;exact EvO.mono hh λ _ k=>⟨k.1,zIa hK k.2⟩
theorem zKo{α:Type}{f g:α->Prop}(h:∀ a,f a->g a):∀ {l:List α},zXz (l.map f)->zXz (l.map g)
 | [],hh=>hh
 | [a],hh=>h a hh
 | a::b::l,hh=>⟨h a hh.1,zKo h (l:=b::l) hh.2⟩
theorem zPs{all:List Oper}{k k':Tm->Nat->List RdK->List PO->AH->Prop}(hk:∀ T d r l h,k T d r l h->k' T d r l h){T:Tm}{done:Nat}{rds:List RdK}{h:AH}{rest:List PO}(hh:zKg P r s all k T done rds h rest):zKg P r s all k' T done rds h rest:=by
 have one:∀ x:PO×List PO,zTp P r s all k x.1 T done rds x.2 h->zTp P r s all k' x.1 T done rds x.2 h:=λ x hx=>Ev.mono hx λ _ kx=>zIa (hk _ _ _ _ _) kx;unfold zKg at hh ⊢;generalize zCz done [] rest=l at hh ⊢
 match l,hh with
 | [],hh=>exact hh
 | [x],hh=>exact one x hh
 | a::b::l,hh=>exact⟨hh.1,zKo one (l:=a::b::l) hh.2⟩
theorem zNL{all:List Oper}{K:Tm->AH->Prop}:∀ {f:Nat} {T:Tm} {done:Nat} {rds:List RdK} {rest:List PO} {h:AH},ziB P r s all K f T done rds rest h->zP6 P r s all K f T done rds rest h
 | 0,_,_,_,_,_,hh=>hh
 | f+1,T,done,rds,rest,h,hh=>by
  simp only[ziB] at hh;simp only[zP6];refine zFA (λ T d r l kk=>?_) hh;cases l with
  | nil=>exact kk
  | cons p ps=>exact zPs (λ _ _ _ _ _ k=>zNL k) kk
theorem zLn{all:List Oper}{k:DK}{T:Tm}{done:Nat}{rds:List Rd}{h:AH}:∀(ps pre:List PO),fires P r all k T done rds h pre ps=joinAll ((zCz done pre ps).map λ x=>fire P r all k x.1 T done rds x.2 h)
 | [],_=>rfl
 | p::ps,pre=>by
  simp only[fires,zCz];cases zBk p done with
  | true=>simp only[xAG,xCi,joinAll];rw[zLn ps]
  | false=>simp only[xAH];rw[zLn ps]
theorem Ev.joinAll{Q:St->Prop}:∀ {l:List (R St)},l≠[]->(s=true->l.length=1)->(∀ x∈l,Ev s x Q)->Ev s (zMV (AM.joinAll l)) Q:=by
 have base:∀ {l:List (R St)},l≠[]->(s=true->l.length=1)->(∀ x∈l,Ev s x Q)->Ev s (AM.joinAll l) Q:=by
  intro l
  induction l with
  | nil=>intro h;exact absurd rfl h
  | cons x l ih=>
   intro _ h1 h2;obtain⟨a,e,k1,k2,k3⟩:=h2 x (by simp);cases l with
   | nil=>simp only[AM.joinAll,e,joinR,xCb];exact⟨a,rfl,k1,k2,k3⟩
   | cons y l=>
    have hs:s=false:=by cases s with|false=>rfl|true=>have:=h1 rfl;simp at this
    obtain⟨b,e',_,_,j3⟩:=ih (by simp) (λ h=>by rw[hs] at h;cases h) λ z hz=>h2 z (by simp at hz ⊢;exact .inr hz);simp only[AM.joinAll] at e' ⊢;rw[e,e'];exact⟨a++b,rfl,by simp[k1],(λ h=>by rw[hs] at h;cases h),λ c hc=>(xCU.1 hc).elim (k3 c) (j3 c)⟩
 intro l h1 h2 h3;obtain⟨a,e,k1,k2,k3⟩:=base h1 h2 h3;rw[e];cases a with
 | nil=>exact absurd rfl k1
 | cons x xs=>exact⟨x::xs,rfl,k1,k2,k3⟩
theorem zNN:∀ {l:List Prop},zXz l->∀ p∈l,p
 | [a],h,p,hp=>by simp at hp;rw[hp];exact h
 | a::b::l,h,p,hp=>by
  rcases xCg.1 hp with rfl|hp
  ·exact h.1
  ·exact zNN h.2 p hp
def zxq(A:List Nat)(PS:List PO)(done:Nat)(t:Nat):Prop:=t∈A\/∃ q∈PS,q.o.dst=some t/\done.testBit q.i=true
def AgreeD(A:List Nat)(PS:List PO)(done:Nat)(T T':Tm):Prop:=∀ t,zxq A PS done t->T.get t=T'.get t
inductive RdsR:List Rd->List RdK->Prop
 | nil:RdsR [] []
 | cons {i:Nat} {o:Oper} {v:Value} {g:Option (Value×Bool)} {T T':Tm} {l:List Rd} {l':List RdK} (h:zNf o.op.operands.toList T T') (hg:∀ x,gdG g x=x) (hs:RdsR l l'):RdsR (⟨i,T,o,v⟩::l) (⟨i,T',o,v,g⟩::l')
 | skip {r:RdK} {l:List Rd} {l':List RdK} (hs:RdsR l l'):RdsR l (r::l')
theorem RdsR.after{l:List Rd}{l':List RdK}(H:RdsR l l')(bef:Nat):RdsR (zJL bef l) (zHB bef l'):=by
 induction H with
 | nil=>exact .nil
 | @cons i o v g T T' l l' h hg hs ih=>
  simp only[zJL,List.filter_cons,zHB];cases zC5 bef i with
  | true=>exact ih
  | false=>exact .cons h hg ih
 | @skip r l l' hs ih=>
  simp only[zHB];cases zC5 bef r.i with
  | true=>exact ih
  | false=>exact .skip ih
theorem RdsR.drop{l:List Rd}{l':List RdK}(H:RdsR l l')(bef:Nat):RdsR (zJL bef l) l':=by
 induction H with
 | nil=>exact .nil
 | @cons i o v g T T' l l' h hg hs ih=>
  simp only[zJL,List.filter_cons];cases zC5 bef i with
  | true=>exact .skip ih
  | false=>exact .cons h hg ih
 | @skip r l l' hs ih=>exact .skip ih
theorem zWb{bef:Nat}{h:AH}{K:Prop}{l:List Rd}{l':List RdK}(H:RdsR l l')(hk:zhe P bef h l' K):l.all (zrK P bef h)=true/\K:=by
 induction H with
 | nil=>exact⟨rfl,hk⟩
 | @cons i o v g T T' l l' hs hg _ ih=>
  simp only[zhe] at hk;simp only[xCj,xAP];cases hb:zC5 bef i with
  | true=>
   rw[hb] at hk;obtain⟨a,b⟩:=ih hk;exact⟨⟨by simp[zrK,hb],a⟩,b⟩
  | false=>
   rw[hb] at hk;simp only[xAH] at hk;obtain⟨u,e,hv,hk⟩:=hk.ex;rw[hg] at e;have e:=zFp e;obtain⟨a,b⟩:=ih hk;exact⟨⟨by simp only[zrK,hb,xCn];rw[zEO hs,e];exact hv,a⟩,b⟩
 | @skip r l l' _ ih=>
  simp only[zhe] at hk;cases hb:zC5 bef r.i with
  | true=>rw[hb] at hk;exact ih hk
  | false=>
   rw[hb] at hk;obtain⟨u,_,_,hk⟩:=hk.ex;exact ih hk
section
variable {A:List Nat} {all:List Oper} {PS:List PO}
theorem AgreeD.put{done:Nat}{T T':Tm}(H:AgreeD A PS done T T'){p:PO}(ci:∀ q∈PS,q.i=p.i->q.o=p.o)(v:Value):AgreeD A PS (zBt done p.i) (putDst T p.o.dst v) (putDst T' p.o.dst v):=by
 intro t ht;cases hd:p.o.dst with
 | none=>
  simp only[putDst];refine H t (ht.imp id ?_);rintro⟨q,q1,q2,q3⟩;refine⟨q,q1,q2,?_⟩;rw[zAH,xCZ,xBl] at q3;rcases q3 with h|h
  ·exact h
  ·rw[ci q q1 h.symm,hd] at q2;cases q2
 | some d=>
  simp only[putDst,Tm.get_put];by_cases e:t=d
  ·simp[e]
  ·rw[xDN e,xDN e];refine H t (ht.imp id ?_);rintro⟨q,q1,q2,q3⟩;refine⟨q,q1,q2,?_⟩;rw[zAH,xCZ,xBl] at q3;rcases q3 with h|h
   ·exact h
   ·rw[ci q q1 h.symm,hd] at q2;cases q2;exact absurd rfl e
theorem zRH{done:Nat}{T T':Tm}(H:AgreeD A PS done T T'){p:PO}(hr:zBk p done=true)(hc:rdD A all PS p=true):∀ t∈zHS all p.o,T.get t=T'.get t:=by
 intro t ht;unfold rdD at hc;rw[xCB] at hc;have:=hc t ht;simp only[xCZ] at this;rcases this with h|h
 ·exact H t (.inl (memN_iff.1 h))
 ·simp only[xCK,xAP] at h;obtain⟨q,q1,q2,q3⟩:=h;rw[zGO] at q2;exact H t (.inr ⟨q,q1,writes_iff.1 q3,(zGF p done).1 hr _ q2⟩)
theorem zQu{T T':Tm}{o:Oper}(h:∀ t∈zHS all o,T.get t=T'.get t):zNf o.op.operands.toList T T':=λ t ht=>h t (xBK _ (mem_tmpsOf.2 ht))
theorem zM8{T T':Tm}{o:Oper}(h:∀ t∈zHS all o,T.get t=T'.get t){j:Nat}{w:Bool}(hg:o.guard=some (j,w)){d:Tmp}(hd:zVh all j=some d):T.get d=T'.get d:=
 h d (xBB _ (by rw[hg];simp[hd]))
theorem zNG{o:Oper}{T T':Tm}(H:zNf o.op.operands.toList T T')(h:AH):zDW P T o h=zDW P T' o h:=by
 unfold zDW;split
 ·exact zFq H
 ·exact zEO H h
 ·rfl
theorem RdsR.add{p:PO}{T T':Tm}(H:zNf p.o.op.operands.toList T T')(v:Value){l:List Rd}{l':List RdK}(h:RdsR l l')(hg:∀ x,gdG (gOf all T' p.o) x=x):RdsR (zTz p T v l) (zJM all p T' v l'):=by
 unfold zTz zJM;cases cls p.o.op with
 | read=>exact .cons H hg h
 | _=>exact h
theorem RdsR.add0{p:PO}{T':Tm}(v:Value){l:List Rd}{l':List RdK}(h:RdsR l l'):RdsR l (zJM all p T' v l'):=by
 unfold zJM;cases cls p.o.op with
 | read=>exact .skip h
 | _=>exact h
theorem zpF{T:Tm}{o:Oper}(x:Option Value):gdO all T o x=gdG (gOf all T o) x:=by
 unfold gdO gOf;cases o.guard with
 | none=>rfl
 | some y=>
  simp only;cases zVh all y.1 <;> rfl
theorem zHM{T T':Tm}{o:Oper}(hT:∀ j w d,o.guard=some (j,w)->zVh all j=some d->T.get d=T'.get d) :
  (zDL o all T=some true/\(∀ x,gdG (gOf all T' o) x=x)/\∀ x h,gdR all T' o x h=x) ∨
  (zDL o all T=some false/\(∀ x,gdG (gOf all T' o) x=some undef)/\(∀ x h,gdR all T' o x h=one (undef,h))/\o.guard.isSome=true):=by
 rw[zGm];unfold gOf gdR;cases hg:o.guard with
 | none=>exact .inl ⟨rfl,λ _=>rfl,λ _ _=>rfl⟩
 | some y=>
  simp only;cases hd:zVh all y.1 with
  | none=>exact .inr ⟨rfl,λ _=>rfl,λ _ _=>rfl,rfl⟩
  | some d=>
   have:=hT y.1 y.2 d hg hd;simp only;rw[this];cases hb:T'.get d with
   | bool b=>
    cases i8:(b==y.2) with
    | true=>exact .inl ⟨by simp[i8],λ x=>by simp[gdG,gdB,i8],λ x h=>by simp[gdW,i8]⟩
    | false=>exact .inr ⟨by simp[i8],λ x=>by simp[gdG,gdB,i8],λ x h=>by simp[gdW,i8],rfl⟩
   | _=>exact .inr ⟨rfl,λ _=>rfl,λ _ _=>rfl,rfl⟩
theorem zIP(ci:∀ p∈PS,∀ q∈PS,q.i=p.i->q.o=p.o)(hc:∀ p∈PS,rdD A all PS p=true){h:AH}:∀ {ps:List PO} {T T':Tm} {done:Nat} {rds:List Rd} {rds':List RdK} {K:Tm->Nat->List RdK->List PO->Prop},
  (∀ p∈ps,p∈PS)->AgreeD A PS done T T'->RdsR rds rds'->zHP P all h ps T' done rds' K->
  ∃ sw T1 rds1,zIQ P all h ps T done rds=some sw/\AgreeD A PS sw.done sw.T T1/\RdsR sw.rds rds1/\K T1 sw.done rds1 sw.rest/\(∀ p∈ps,p∈sw.rest\/sw.done.testBit p.i=true)/\(∀ i,done.testBit i=true->sw.done.testBit i=true)/\∀ p∈sw.rest,p∈ps
 | [],T,T',done,rds,rds',K,_,H,hr,hk=>⟨⟨T,done,rds,[]⟩,T',rds',rfl,H,hr,hk,by simp,λ _ h=>h,by simp⟩
 | p::ps,T,T',done,rds,rds',K,dx,H,hr,hk=>by
  have hpP:=dx p (by simp);have kV:∀ q∈ps,q∈PS:=λ q hq=>dx q (by simp[hq]);simp only[zHP] at hk;simp only[zIQ];cases eZ:(zBk p done&&!zEp p.o.op) with
  | false=>
   rw[eZ] at hk;simp only[xAH] at hk ⊢;obtain⟨sw,T1,rds1,e,k1,k2,k3,k4,k5,k6⟩:=zIP ci hc kV H hr hk;rw[e];refine⟨_,T1,rds1,rfl,k1,k2,k3,?_,k5,?_⟩
   ·intro q hq;rcases xCg.1 hq with rfl|hq
    ·exact .inl (by simp)
    ·exact (k4 q hq).imp (λ h=>by simp[h]) id
   ·intro q hq;rcases xCg.1 hq with rfl|hq
    ·simp
    ·simp[k6 q hq]
  | true=>
   rw[eZ] at hk;simp only[xAG] at hk ⊢;have ct:zBk p done=true:=by simp only[xAP] at eZ;exact eZ.1
   have dI:=zRH H ct (hc p hpP);have hs:=zQu dI;have next:∀(v:Value) (rds2:List Rd) (rds2':List RdK),RdsR rds2 rds2'->zHP P all h ps (putDst T' p.o.dst v) (zBt done p.i) rds2' K->
     ∃ sw T1 rds1,zIQ P all h ps (putDst T p.o.dst v) (zBt done p.i) rds2=some sw/\AgreeD A PS sw.done sw.T T1/\RdsR sw.rds rds1/\K T1 sw.done rds1 sw.rest/\(∀ q∈p::ps,q∈sw.rest\/sw.done.testBit q.i=true)/\(∀ i,done.testBit i=true->sw.done.testBit i=true)/\∀ q∈sw.rest,q∈p::ps:=by
    intro v rds2 rds2' h2 hk2;obtain⟨sw,T1,rds1,e,k1,k2,k3,k4,k5,k6⟩:=zIP ci hc kV (H.put (ci p hpP) v) h2 hk2;refine⟨sw,T1,rds1,e,k1,k2,k3,?_,λ i hi=>k5 i (by rw[zAH,hi];rfl),λ q hq=>by simp[k6 q hq]⟩;intro q hq;rcases xCg.1 hq with rfl|hq
    ·exact .inr (k5 _ (by rw[zAH];simp))
    ·exact k4 q hq
   obtain⟨v,e,hv⟩:=hk.ex;rw[zpF] at e;rcases zHM (T:=T) (T':=T') (o:=p.o) (all:=all) (λ j w d hg hd=>zM8 dI hg hd) with ⟨hw,hg,_⟩|⟨hw,hg,_⟩
   ·rw[hg] at e;have e:=zNH e;rw[hw];simp only;rw[zNG hs,e];exact next v _ _ (hr.add hs v hg) hv
   ·rw[hg] at e;cases e;rw[hw];exact next undef _ _ (hr.add0 undef) hv
theorem zIp{done:Nat}:∀ {ps pre:List PO} {x:PO×List PO},x∈zCz done pre ps->x.1∈ps/\zBk x.1 done=true/\(∀ q,q∈x.2->q∈pre\/q∈ps)/\∀ q,(q∈pre\/q∈ps)->q=x.1\/q∈x.2
 | [],_,x,h=>by cases h
 | p::ps,pre,x,h=>by
  simp only[zCz] at h;have rec':x∈zCz done (pre++[p]) ps->x.1∈p::ps/\zBk x.1 done=true/\(∀ q,q∈x.2->q∈pre\/q∈p::ps)/\∀ q,(q∈pre\/q∈p::ps)->q=x.1\/q∈x.2:=by
   intro h;obtain⟨a,b,c,d⟩:=zIp h;refine⟨by simp[a],b,λ q hq=>?_,λ q hq=>?_⟩
   ·rcases c q hq with h|h
    ·simp at h;rcases h with h|h
     ·exact .inl h
     ·exact .inr (by simp[h])
    ·exact .inr (by simp[h])
   ·refine d q ?_;rcases hq with h|h
    ·exact .inl (by simp[h])
    ·rcases xCg.1 h with rfl|h
     ·exact .inl (by simp)
     ·exact .inr h
  cases hr:zBk p done with
  | false=>rw[hr] at h;exact rec' h
  | true=>
   rw[hr] at h;simp only[xAG] at h;rcases xCg.1 h with rfl|h
   ·refine⟨by simp,hr,λ q hq=>?_,λ q hq=>?_⟩
    ·simp at hq;rcases hq with h|h
     ·exact .inl h
     ·exact .inr (by simp[h])
    ·rcases hq with h|h
     ·exact .inr (by simp[h])
     ·rcases xCg.1 h with rfl|h
      ·exact .inl rfl
      ·exact .inr (by simp[h])
   ·exact rec' h
theorem zJA{t:Nat}:∀ {os:List Oper},t∈zP5 os A->t∈A\/∃ o∈os,o.dst=some t
 | [],h=>.inl h
 | o::os,h=>by
  simp only[zP5,ztt] at h;split at h
  ·rename_i d hd;rcases xCg.1 h with rfl|h
   ·exact .inr ⟨o,by simp,hd⟩
   ·rcases zJA h with h|⟨q,a,b⟩
    ·exact .inl h
    ·exact .inr ⟨q,by simp[a],b⟩
  ·rcases zJA h with h|⟨q,a,b⟩
   ·exact .inl h
   ·exact .inr ⟨q,by simp[a],b⟩
theorem zRe(ci:∀ p∈PS,∀ q∈PS,q.i=p.i->q.o=p.o)(aD:∀ o∈all,∃ p∈PS,p.o=o)(hc:∀ p∈PS,rdD A all PS p=true){D:List Nat}{K:Tm->AH->Prop} :
  ∀ {f:Nat} {T T':Tm} {done:Nat} {rds:List Rd} {rds':List RdK} {rest:List PO} {h:AH},(∀ p∈rest,p∈PS)->(∀ p∈PS,p∈rest\/done.testBit p.i=true)->AgreeD A PS done T T'->RdsR rds rds'->
  zP6 P r s all K f T' done rds' rest h->Ev s (drawRun P r all D f T done rds rest h) λ st=>∃ T1,zE6 (zP5 all A) st.T T1/\st.defs=D/\K T1 st.h
 | 0,_,_,_,_,_,_,_,_,_,_,_,hk=>hk.elim
 | f+1,T,T',done,rds,rds',rest,h,cU,hinv,H,hr,hk=>by
  simp only[zP6] at hk;simp only[drawRun];obtain⟨sw,T1,rds1,e,k1,k2,k3,k4,k5,k6⟩:=zIP ci hc cU H hr hk;rw[e];simp only;have iQ:∀ p∈PS,p∈sw.rest\/sw.done.testBit p.i=true:=λ p hp=>(hinv p hp).elim (λ h=>k4 p h) λ h=>.inr (k5 _ h);cases fS:sw.rest with
  | nil=>
   rw[fS] at k3;refine Ev.one ⟨T1,?_,rfl,k3⟩;intro t ht;refine k1 t ?_;rcases zJA ht with h|⟨o,ho,hd⟩
   ·exact .inl h
   ·obtain⟨p,hp,rfl⟩:=aD o ho;refine .inr ⟨p,hp,hd,?_⟩;rcases iQ p hp with h|h
    ·rw[fS] at h;cases h
    ·exact h
  | cons p0 ps0=>
   rw[fS] at k3;simp only at k3 ⊢;rw[zLn];have fire1:∀ x∈zCz sw.done [] (p0::ps0),zTp P r s all (zP6 P r s all K f) x.1 T1 sw.done rds1 x.2 h->Ev s (fire P r all (drawRun P r all D f) x.1 sw.T sw.done sw.rds x.2 h) λ st=>∃ T1,zE6 (zP5 all A) st.T T1/\st.defs=D/\K T1 st.h:=by
    intro x hx hk;obtain⟨m1,m2,m3,m4⟩:=zIp hx;have hxP:x.1∈PS:=cU _ (k6 _ (by rw[fS];exact m1));have dr:=zRH k1 m2 (hc _ hxP);have hs:=zQu dr;have sub:∀ p∈x.2,p∈PS:=λ p hp=>by
     rcases m3 p hp with h|h
     ·cases h
     ·exact cU _ (k6 _ (by rw[fS];exact h))
    have inv2:∀ p∈PS,p∈x.2\/(zBt sw.done x.1.i).testBit p.i=true:=λ p hp=>by
     rcases iQ p hp with h|h
     ·rw[fS] at h;rcases m4 p (.inr h) with rfl|h
      ·exact .inr (by rw[zAH];simp)
      ·exact .inl h
     ·exact .inr (by rw[zAH,h];rfl)
    have go:∀(v:Value) (h':AH) (l:List Rd) (l':List RdK),RdsR l l'->zP6 P r s all K f (putDst T1 x.1.o.dst v) (zBt sw.done x.1.i) l' x.2 h'->
      Ev s (drawRun P r all D f (putDst sw.T x.1.o.dst v) (zBt sw.done x.1.i) l x.2 h') λ st=>∃ T1,zE6 (zP5 all A) st.T T1/\st.defs=D/\K T1 st.h:=
     λ v h' l l' hl hk=>zRe ci aD hc sub inv2 (k1.put (ci _ hxP) v) hl hk
    unfold zTp at hk;rcases zHM (T:=sw.T) (T':=T1) (o:=x.1.o) (all:=all) (λ j w d hg hd=>zM8 dr hg hd) with ⟨hw,_,hg⟩|⟨hw,_,hg,hgs⟩
    ·rw[hg] at hk;unfold fire;rw[hw];simp only;rw[zHe hs,← zI4];refine Ev.andThen (hk.mono λ y hy=>?_);obtain⟨q1,q2⟩:=zWb k2 hy;unfold zXo;rw[q1];refine go y.1 y.2 _ _ ?_ q2;unfold zYq;split
     ·exact k2.after _
     ·exact k2.drop _
    ·rw[hg,zF] at hk;obtain⟨_,q2⟩:=zWb k2 hk;unfold fire;rw[hw];refine go undef h _ _ ?_ q2;unfold zYq;split
     ·rename_i hn;rw[hn] at hgs;cases hgs
     ·exact k2
   unfold zKg at k3;cases hl:zCz sw.done [] (p0::ps0) with
   | nil=>rw[hl] at k3;exact k3.elim
   | cons x l=>
    refine Ev.joinAll (by simp) ?_ ?_
    ·intro hs;rw[hl] at k3;cases l with
     | nil=>rfl
     | cons y l=>simp only at k3;rw[hs] at k3;cases k3.1
    ·intro z hz;simp only[xCv] at hz;obtain⟨y,hy,rfl⟩:=hz;refine fire1 y (by rw[hl];exact hy) ?_;rw[hl] at k3;cases l with
     | nil=>simp at hy;subst hy;exact k3
     | cons x' l=>exact zNN k3.2 _ (xCv.2 ⟨y,hy,rfl⟩)
end
end Go.AM
end
end
section
section
namespace Go.AM
open Go Go.Proofs
def sub:Code->List Nat->Code
 | c,[]=>c
 | .seq a b,i::p=>cond (Nat.beq i 0) (sub a p) (sub b p)
 | .cond _ a b,i::p=>cond (Nat.beq i 0) (sub a p) (sub b p)
 | .block _ c,_::p=>sub c p
 | .loop c,_::p=>sub c p
 | _,_::_=>.skip
section
variable (P:Env) (s:Bool) (ro:Option Nat)
def ctx:Code->List Nat->(Out->Prop)->Out->Prop
 | _,[],Q=>Q
 | .seq a b,i::p,Q=>cond (Nat.beq i 0) (ctx a p λ o=>Ev s (thenC (evC P (zc P) ro b) o) Q) (ctx b p Q)
 | .cond _ a b,i::p,Q=>cond (Nat.beq i 0) (ctx a p Q) (ctx b p Q)
 | .block id c,_::p,Q=>ctx c p λ o=>Ev s (zDo id o) Q
 | .loop c,_::p,Q=>ctx c p λ o=>Ev s (thenC ((zc P).loop ro c) o) Q
 | _,_::_,_=>λ _=>False
def At(B:Code)(Q:Out->Prop)(p:List Nat)(st:St):Prop:=Ev s (evC P (zc P) ro (sub B p) st) (ctx P s ro B p Q)
end
inductive Wh where
 | fin
 | at (p:List Nat)
 | out
 | bad
def Wh.push(i:Nat):Wh->Wh
 | .at p=>.at (i::p)
 | w=>w
def Wh.finAt(p:List Nat):Wh->Wh
 | .fin=>.at p
 | w=>w
def nx:Code->List Nat->Wh
 | _,[]=>.fin
 | .seq a b,i::p=>cond (Nat.beq i 0) (((nx a p).push 0).finAt [1]) ((nx b p).push 1)
 | .cond _ a b,i::p=>cond (Nat.beq i 0) ((nx a p).push 0) ((nx b p).push 1)
 | .block _ c,_::p=>(nx c p).push 0
 | .loop c,_::p=>((nx c p).push 0).finAt []
 | _,_::_=>.bad
def Wh.endAt(b:Bool):Wh->Wh
 | .out=>cond b .fin .out
 | w=>w
def xt(id:Nat):Code->List Nat->Wh
 | _,[]=>.out
 | .seq a b,i::p=>cond (Nat.beq i 0) (((xt id a p).push 0).finAt [1]) ((xt id b p).push 1)
 | .cond _ a b,i::p=>cond (Nat.beq i 0) ((xt id a p).push 0) ((xt id b p).push 1)
 | .block id' c,_::p=>((xt id c p).push 0).endAt (Nat.beq id id')
 | .loop c,_::p=>((xt id c p).push 0).finAt []
 | _,_::_=>.bad
section
variable {P:Env} {s:Bool} {ro:Option Nat}
def AtW(P:Env)(s:Bool)(ro:Option Nat)(B:Code)(Q:Out->Prop)(w:Wh)(st:St):Prop:=match w with
 | .fin=>Q ⟨.normal,st⟩
 | .at p=>At P s ro B Q p st
 | _=>False
theorem b10:Nat.beq 1 0=false:=rfl
theorem b00:Nat.beq 0 0=true:=rfl
theorem zJh:∀(c:Code) (p:List Nat) (Q:Out->Prop) (st:St),AtW P s ro c Q (nx c p) st->ctx P s ro c p Q ⟨.normal,st⟩
 | c,[],Q,st,h=>by simp only[nx] at h;simp only[ctx];exact h
 | .seq a b,i::p,Q,st,h=>by
  simp only[nx] at h;simp only[ctx];cases hi:Nat.beq i 0 with
  | true=>
   simp only[hi,xAG] at h ⊢;refine zJh a p _ st ?_;generalize nx a p=w at h;cases w with
   | fin=>
    show Ev s (evC P (zc P) ro b st) Q;simpa only[Wh.push,Wh.finAt,AtW,At,sub,ctx,b10,xAH] using h
   | «at» q=>exact h
   | _=>exact h.elim
  | false=>
   simp only[hi,xAH] at h ⊢;refine zJh b p Q st ?_;generalize nx b p=w at h;cases w with
   | fin=>exact h
   | «at» q=>exact h
   | _=>exact h.elim
 | .cond _ a b,i::p,Q,st,h=>by
  simp only[nx] at h;simp only[ctx];cases hi:Nat.beq i 0 with
  | true=>
   simp only[hi,xAG] at h ⊢;refine zJh a p Q st ?_;generalize nx a p=w at h;cases w with
   | fin=>exact h
   | «at» q=>exact h
   | _=>exact h.elim
  | false=>
   simp only[hi,xAH] at h ⊢;refine zJh b p Q st ?_;generalize nx b p=w at h;cases w with
   | fin=>exact h
   | «at» q=>exact h
   | _=>exact h.elim
 | .block id c,i::p,Q,st,h=>by
  simp only[nx] at h;simp only[ctx];refine zJh c p _ st ?_;generalize nx c p=w at h;cases w with
  | fin=>exact Ev.one h
  | «at» q=>exact h
  | _=>exact h.elim
 | .loop c,i::p,Q,st,h=>by
  simp only[nx] at h;simp only[ctx];refine zJh c p _ st ?_;generalize nx c p=w at h;cases w with
  | fin=>
   show Ev s ((zc P).loop ro c st) Q;rw[zWu];exact h
  | «at» q=>exact h
  | _=>exact h.elim
 | .skip,_::_,_,_,h=>by simp[nx,AtW] at h
 | .region ..,_::_,_,_,h=>by simp[nx,AtW] at h
 | .rangeFunc ..,_::_,_,_,h=>by simp[nx,AtW] at h
 | .exit _,_::_,_,_,h=>by simp[nx,AtW] at h
 | .scope _,_::_,_,_,h=>by simp[nx,AtW] at h
 | .label _,_::_,_,_,h=>by simp[nx,AtW] at h
 | .goto _,_::_,_,_,h=>by simp[nx,AtW] at h
 | .ret,_::_,_,_,h=>by simp[nx,AtW] at h
 | .refuse _,_::_,_,_,h=>by simp[nx,AtW] at h
def AtX(P:Env)(s:Bool)(ro:Option Nat)(B:Code)(Q:Out->Prop)(id:Nat)(w:Wh)(st:St):Prop:=match w with
 | .out=>Q ⟨.exit id,st⟩
 | w=>AtW P s ro B Q w st
theorem zMF(id:Nat):∀(c:Code) (p:List Nat) (Q:Out->Prop) (st:St),AtX P s ro c Q id (xt id c p) st->ctx P s ro c p Q ⟨.exit id,st⟩
 | c,[],Q,st,h=>by simp only[xt] at h;simp only[ctx];exact h
 | .seq a b,i::p,Q,st,h=>by
  simp only[xt] at h;simp only[ctx];cases hi:Nat.beq i 0 with
  | true=>
   simp only[hi,xAG] at h ⊢;refine zMF id a p _ st ?_;generalize xt id a p=w at h;cases w with
   | fin=>
    show Ev s (evC P (zc P) ro b st) Q;simpa only[Wh.push,Wh.finAt,AtX,AtW,At,sub,ctx,b10,xAH] using h
   | «at» q=>exact h
   | out=>exact Ev.one h
   | bad=>exact h.elim
  | false=>
   simp only[hi,xAH] at h ⊢;refine zMF id b p Q st ?_;generalize xt id b p=w at h;cases w with
   | fin=>exact h
   | «at» q=>exact h
   | out=>exact h
   | bad=>exact h
 | .cond _ a b,i::p,Q,st,h=>by
  simp only[xt] at h;simp only[ctx];cases hi:Nat.beq i 0 with
  | true=>
   simp only[hi,xAG] at h ⊢;refine zMF id a p Q st ?_;generalize xt id a p=w at h;cases w with
   | fin=>exact h
   | «at» q=>exact h
   | out=>exact h
   | bad=>exact h
  | false=>
   simp only[hi,xAH] at h ⊢;refine zMF id b p Q st ?_;generalize xt id b p=w at h;cases w with
   | fin=>exact h
   | «at» q=>exact h
   | out=>exact h
   | bad=>exact h
 | .block id' c,i::p,Q,st,h=>by
  simp only[xt] at h;simp only[ctx];refine zMF id c p _ st ?_;generalize xt id c p=w at h;cases w with
  | fin=>exact Ev.one h
  | «at» q=>exact h
  | out=>
   show Ev s (zDo id' ⟨.exit id,st⟩) Q;unfold zDo;cases hid:Nat.beq id id' with
   | true=>
    simp only[Wh.push,Wh.endAt,hid,xAG] at h;simp only[hid,xAG];exact Ev.one h
   | false=>
    simp only[Wh.push,Wh.endAt,hid,xAH] at h;simp only[hid,xAH];exact Ev.one h
  | bad=>exact h.elim
 | .loop c,i::p,Q,st,h=>by
  simp only[xt] at h;simp only[ctx];refine zMF id c p _ st ?_;generalize xt id c p=w at h;cases w with
  | fin=>
   show Ev s ((zc P).loop ro c st) Q;rw[zWu];exact h
  | «at» q=>exact h
  | out=>exact Ev.one h
  | bad=>exact h.elim
 | .skip,_::_,_,_,h=>h.elim
 | .region ..,_::_,_,_,h=>h.elim
 | .rangeFunc ..,_::_,_,_,h=>h.elim
 | .exit _,_::_,_,_,h=>h.elim
 | .scope _,_::_,_,_,h=>h.elim
 | .label _,_::_,_,_,h=>h.elim
 | .goto _,_::_,_,_,h=>h.elim
 | .ret,_::_,_,_,h=>h.elim
 | .refuse _,_::_,_,_,h=>h.elim
theorem zIX:∀(c:Code) (p:List Nat) (Q:Out->Prop) (st:St),sub c p=.ret->Q ⟨.ret,st⟩->ctx P s ro c p Q ⟨.ret,st⟩
 | c,[],Q,st,_,h=>by simp only[ctx];exact h
 | .seq a b,i::p,Q,st,hs,h=>by
  simp only[ctx,sub] at hs ⊢;cases hi:Nat.beq i 0 with
  | true=>rw[hi] at hs;exact zIX a p _ st hs (Ev.one h)
  | false=>rw[hi] at hs;exact zIX b p Q st hs h
 | .cond _ a b,i::p,Q,st,hs,h=>by
  simp only[ctx,sub] at hs ⊢;cases hi:Nat.beq i 0 with
  | true=>rw[hi] at hs;exact zIX a p _ st hs h
  | false=>rw[hi] at hs;exact zIX b p Q st hs h
 | .block id' c,i::p,Q,st,hs,h=>by
  simp only[ctx,sub] at hs ⊢;exact zIX c p _ st hs (Ev.one h)
 | .loop c,i::p,Q,st,hs,h=>by
  simp only[ctx,sub] at hs ⊢;exact zIX c p _ st hs (Ev.one h)
 | .skip,_::_,_,_,h,_=>by simp[sub] at h
 | .region ..,_::_,_,_,h,_=>by simp[sub] at h
 | .rangeFunc ..,_::_,_,_,h,_=>by simp[sub] at h
 | .exit _,_::_,_,_,h,_=>by simp[sub] at h
 | .scope _,_::_,_,_,h,_=>by simp[sub] at h
 | .label _,_::_,_,_,h,_=>by simp[sub] at h
 | .goto _,_::_,_,_,h,_=>by simp[sub] at h
 | .ret,_::_,_,_,h,_=>by simp[sub] at h
 | .refuse _,_::_,_,_,h,_=>by simp[sub] at h
theorem zDB:∀(c:Code) (p q:List Nat),sub c (p++q)=sub (sub c p) q
 | c,[],q=>by simp[sub]
 | .seq a b,i::p,q=>by
  simp only[sub,xCL];cases Nat.beq i 0 <;> simp[zDB]
 | .cond _ a b,i::p,q=>by
  simp only[sub,xCL];cases Nat.beq i 0 <;> simp[zDB]
 | .block _ c,i::p,q=>by simp only[sub,xCL];exact zDB c p q
 | .loop c,i::p,q=>by simp only[sub,xCL];exact zDB c p q
 | .skip,_::_,q=>by cases q <;> rfl
 | .region ..,_::_,q=>by cases q <;> rfl
 | .rangeFunc ..,_::_,q=>by cases q <;> rfl
 | .exit _,_::_,q=>by cases q <;> rfl
 | .scope _,_::_,q=>by cases q <;> rfl
 | .label _,_::_,q=>by cases q <;> rfl
 | .goto _,_::_,q=>by cases q <;> rfl
 | .ret,_::_,q=>by cases q <;> rfl
 | .refuse _,_::_,q=>by cases q <;> rfl
theorem zB7:∀(c:Code) (p q:List Nat) (Q:Out->Prop),sub c p≠.skip->ctx P s ro c (p++q) Q=ctx P s ro (sub c p) q (ctx P s ro c p Q)
 | c,[],q,Q,_=>by simp[sub,ctx]
 | .seq a b,i::p,q,Q,h=>by
  simp only[sub,xCL,ctx] at h ⊢;cases hi:Nat.beq i 0 with
  | true=>rw[hi] at h;simp only[xAG] at h ⊢;exact zB7 a p q _ h
  | false=>rw[hi] at h;simp only[xAH] at h ⊢;exact zB7 b p q _ h
 | .cond _ a b,i::p,q,Q,h=>by
  simp only[sub,xCL,ctx] at h ⊢;cases hi:Nat.beq i 0 with
  | true=>rw[hi] at h;simp only[xAG] at h ⊢;exact zB7 a p q _ h
  | false=>rw[hi] at h;simp only[xAH] at h ⊢;exact zB7 b p q _ h
 | .block _ c,i::p,q,Q,h=>by simp only[sub,xCL,ctx] at h ⊢;exact zB7 c p q _ h
 | .loop c,i::p,q,Q,h=>by simp only[sub,xCL,ctx] at h ⊢;exact zB7 c p q _ h
 | .skip,_::_,q,_,h=>absurd rfl h
 | .region ..,_::_,q,_,h=>absurd rfl h
 | .rangeFunc ..,_::_,q,_,h=>absurd rfl h
 | .exit _,_::_,q,_,h=>absurd rfl h
 | .scope _,_::_,q,_,h=>absurd rfl h
 | .label _,_::_,q,_,h=>absurd rfl h
 | .goto _,_::_,q,_,h=>absurd rfl h
 | .ret,_::_,q,_,h=>absurd rfl h
 | .refuse _,_::_,q,_,h=>absurd rfl h
def rs(B:Code):Nat->Wh->Wh
 | 0,w=>w
 | n+1,.at q=>match sub B q with
  | .seq _ _=>rs B n (.at (q++[0]))
  | .block _ _=>rs B n (.at (q++[0]))
  | .loop _=>rs B n (.at (q++[0]))
  | .label _=>rs B n (nx B q)
  | .exit id=>(match xt id B q with
   | .out=>.at q
   | w=>rs B n w)
  | .skip=>rs B n (nx B q)
  | _=>.at q
 | _+1,w=>w
theorem zHm{B:Code}{Q:Out->Prop}{st:St}:∀ {n:Nat} {w:Wh},AtW P s ro B Q (rs B n w) st->AtW P s ro B Q w st
 | 0,w,h=>h
 | n+1,.fin,h=>h
 | n+1,.out,h=>h
 | n+1,.bad,h=>h
 | n+1,.at q,h=>by
  simp only[rs] at h;have dn:∀(c:Code),sub B q=c->c≠.skip->AtW P s ro B Q (.at (q++[0])) st->Ev s (evC P (zc P) ro (sub c [0]) st) (ctx P s ro c [0] (ctx P s ro B q Q)):=by
   intro c hc aj h;simp only[AtW,At,zDB,hc] at h;rw[zB7 B q [0] Q (by rw[hc];exact aj),hc] at h;exact h
  show Ev s (evC P (zc P) ro (sub B q) st) (ctx P s ro B q Q);split at h
  ·rename_i a b hc;have:=dn _ hc (by simp) (zHm h);rw[hc];simp only[sub,ctx,b00,xAG] at this;simp only[evC];exact Ev.andThen this
  ·rename_i id c hc;have:=dn _ hc (by simp) (zHm h);rw[hc];simp only[sub,ctx,b00,xAG] at this;simp only[evC];exact Ev.andThen this
  ·rename_i c hc;have:=dn _ hc (by simp) (zHm h);rw[hc];simp only[sub,ctx,b00,xAG] at this;simp only[evC];exact Ev.andThen this
  ·rename_i l hc;rw[hc];exact Ev.one (zJh B q Q st (zHm h))
  ·rename_i id hc;have fin:AtX P s ro B Q id (xt id B q) st->Ev s (evC P (zc P) ro (sub B q) st) (ctx P s ro B q Q):=λ k=>by
    rw[hc];exact Ev.one (zMF id B q Q st k)
   cases hx:xt id B q with
   | out=>rw[hx] at h;exact h
   | fin=>rw[hx] at h fin;exact fin (zHm h)
   | «at» q'=>rw[hx] at h fin;exact fin (zHm h)
   | bad=>rw[hx] at h;cases n <;> exact h.elim
  ·rename_i hc;rw[hc];exact Ev.one (zJh B q Q st (zHm h))
  ·exact h
structure Cx where
 P:Env
 s:Bool
 ro:Option Nat
 B:Code
 lv:List (List Nat×List Nat)
 rt:List Nat
 D:List Nat
def zKk:List Nat->List Nat->Bool
 | [],[]=>true
 | a::aas,b::bs=>Nat.beq a b&&zKk aas bs
 | _,_=>false
def zS9(p:List Nat):List (List Nat×List Nat)->List Nat
 | []=>[]
 | x::l=>cond (zKk x.1 p) x.2 (zS9 p l)
abbrev KF:=Ex->List Value->AH->Prop
def zJm(C:Cx)(K:KF)(o:Out):Prop:=o.st.defs=C.D/\K o.ex (C.rt.map o.st.T.get) o.st.h
def SP(C:Cx)(K:KF)(p:List Nat)(L:List (Nat×Value))(h:AH):Prop:=
 ∀ T,(∀ x∈L,T.get x.1=x.2)->At C.P C.s C.ro C.B (zJm C K) p ⟨T,h,C.D⟩
def BrK(v:Option Value)(A B:Prop):Prop:=match v with
 | some (.bool b)=>(b=true->A)/\(b=false->B)
 | _=>False
def zDY(C:Cx)(K:KF):Nat->Wh->Tm->AH->Prop
 | 0,_,_,_=>False
 | _+1,.fin,T,h=>K .normal (C.rt.map T.get) h
 | n+1,.at q,T,h=>match sub C.B q with
  | .cond c _ _=>BrK (zAj T c) (zDY C K n (rs C.B 60 (.at (q++[0]))) T h) (zDY C K n (rs C.B 60 (.at (q++[1]))) T h)
  | .ret=>K .ret (C.rt.map T.get) h
  | .exit id=>(match xt id C.B q with
   | .out=>K (.exit id) (C.rt.map T.get) h
   | _=>False)
  | .region _ _ _=>SP C K q (zpE T (zS9 q C.lv)) h
  | .rangeFunc _ _ _ _=>SP C K q (zpE T (zS9 q C.lv)) h
  | _=>False
 | _+1,_,_,_=>False
def zHo(C:Cx):Nat->Wh->List Nat
 | 0,_=>[]
 | _+1,.fin=>C.rt
 | n+1,.at q=>match sub C.B q with
  | .cond c _ _=>zDz [c]++zHo C n (rs C.B 60 (.at (q++[0])))++zHo C n (rs C.B 60 (.at (q++[1])))
  | .ret=>C.rt
  | .exit _=>C.rt
  | _=>zS9 q C.lv
 | _+1,_=>[]
def zhT(C:Cx)(K:KF)(p:List Nat)(T:Tm)(h:AH):Prop:=match sub C.B p with
 | .region _ ops false=>zop C.P (zc C.P) C.s ops.toList ops.toList T h λ T h=>zDY C K 30 (rs C.B 60 (nx C.B p)) T h
 | .region _ ops true=>ziB C.P (zc C.P) C.s ops.toList (λ T h=>zDY C K 30 (rs C.B 60 (nx C.B p)) T h) (zBU ops.toList+1) T 0 [] (prep 0 [] ops.toList) h
 | _=>False
def zHU:List Nat->Bool
 | []=>true
 | a::aas=>!zhA a aas&&zHU aas
def zxL(C:Cx)(p:List Nat):Bool:=zHU (zS9 p C.lv)&&match sub C.B p with
 | .region _ ops false=>(match zWa ops.toList (zS9 p C.lv) ops.toList with
  | some A=>subN (zHo C 30 (rs C.B 60 (nx C.B p))) A
  | none=>false)
 | .region _ ops true=>chkD (zS9 p C.lv) ops.toList&&subN (zHo C 30 (rs C.B 60 (nx C.B p))) (zP5 ops.toList (zS9 p C.lv))
 | _=>false
variable {C:Cx} {K:KF}
theorem zLW{A:List Nat}{T T':Tm}(H:zE6 A T T'):∀ {l:List Nat},(∀ t∈l,t∈A)->l.map T.get=l.map T'.get
 | [],_=>rfl
 | t::l,h=>by simp only[xCi];rw[H t (h t (by simp)),zLW H λ u hu=>h u (by simp[hu])]
theorem zG9{A:List Nat}{T T':Tm}(H:zE6 A T T'):∀ {l:List Nat},(∀ t∈l,t∈A)->∀ x∈zpE T' l,T.get x.1=x.2
 | [],_,x,hx=>by cases hx
 | t::l,h,x,hx=>by
  rcases xCg.1 hx with rfl|hx
  ·exact H t (h t (by simp))
  ·exact zG9 H (λ u hu=>h u (by simp[hu])) x hx
theorem zGf{T T':Tm}{h:AH}:∀ {n:Nat} {w:Wh},zE6 (zHo C n w) T T'->zDY C K n w T' h->AtW C.P C.s C.ro C.B (zJm C K) w ⟨T,h,C.D⟩
 | 0,_,_,hk=>hk.elim
 | n+1,.fin,H,hk=>by
  simp only[zHo] at H;simp only[zDY] at hk;refine⟨rfl,?_⟩;rw[zLW H λ _ h=>h];exact hk
 | n+1,.out,H,hk=>hk.elim
 | n+1,.bad,H,hk=>hk.elim
 | n+1,.at q,H,hk=>by
  simp only[zHo] at H;simp only[zDY] at hk;show Ev C.s (evC C.P (zc C.P) C.ro (sub C.B q) ⟨T,h,C.D⟩) (ctx C.P C.s C.ro C.B q (zJm C K));have dn:∀(i:Nat) (c:Code),sub C.B q=c->c≠.skip->AtW C.P C.s C.ro C.B (zJm C K) (.at (q++[i])) ⟨T,h,C.D⟩->Ev C.s (evC C.P (zc C.P) C.ro (sub c [i]) ⟨T,h,C.D⟩) (ctx C.P C.s C.ro c [i] (ctx C.P C.s C.ro C.B q (zJm C K))):=by
   intro i c hc aj h;simp only[AtW,At,zDB,hc] at h;rw[zB7 C.B q [i] _ (by rw[hc];exact aj),hc] at h;exact h
  split at hk
  ·rename_i c a b hc;rw[hc] at H ⊢;simp only[evC];have hop:zAj T c=zAj T' c:=zCn (xs:=[c]) (λ t ht=>H t (by simp[mem_tmpsOf.2 ht])) (by simp);rw[hop];unfold BrK at hk;split at hk
   ·rename_i v hv;rw[hv];simp only[zX0];cases v with
    | true=>
     have:=dn 0 _ hc (by simp) (zHm (zGf (λ t ht=>H t (by simp[ht])) (hk.1 rfl)));simp only[sub,ctx,b00,xAG] at this;exact this
    | false=>
     have:=dn 1 _ hc (by simp) (zHm (zGf (λ t ht=>H t (by simp[ht])) (hk.2 rfl)));simp only[sub,ctx,b10,xAH] at this;exact this
   ·exact hk.elim
  ·rename_i hc;rw[hc] at H ⊢;refine Ev.one (zIX C.B q _ _ hc ⟨rfl,?_⟩);simp only;rw[zLW H λ _ h=>h];exact hk
  ·rename_i id hc;rw[hc] at H ⊢;split at hk
   ·rename_i hx;refine Ev.one (zMF id C.B q _ _ ?_);rw[hx];refine⟨rfl,?_⟩;simp only;rw[zLW H λ _ h=>h];exact hk
   ·exact hk.elim
  ·rename_i i ops d hc;rw[hc] at H;have:=hk T (zG9 H λ _ h=>h);exact this
  ·rename_i f ps aas body hc;rw[hc] at H;have:=hk T (zG9 H λ _ h=>h);exact this
  ·exact hk.elim
theorem zLI:∀ {L:List (Nat×Value)},zHU (L.map (·.1))=true->∀ x∈L,(zAc L).get x.1=x.2
 | y::l,h,x,hx=>by
  simp only[xCi,zHU,xAP,xBq] at h;simp only[zAc,Tm.get_put];rcases xCg.1 hx with rfl|hx
  ·simp
  ·have:x.1≠y.1:=by
    intro e;have:zhA y.1 (l.map (·.1))=true:=memN_iff.2 (by rw[← e];exact xCv.2 ⟨x,hx,rfl⟩);rw[h.1] at this;cases this
   rw[xDN this];exact zLI h.2 x hx
theorem zWi{all:List Oper}{k:Nat}{p:PO}(h:(prep 0 [] all)[k]?=some p):p.i=k/\all[k]?=some p.o:=⟨(zWj h).i,(zWj h).o⟩
theorem zS2(all:List Oper):(∀ p∈prep 0 [] all,∀ q∈prep 0 [] all,q.i=p.i->q.o=p.o)/\∀ o∈all,∃ p∈prep 0 [] all,p.o=o:=by
 constructor
 ·intro p hp q hq e;obtain⟨k,hk⟩:=xAy.1 hp;obtain⟨j,hj⟩:=xAy.1 hq;have a:=zWi hk;have b:=zWi hj;have:j=k:=by rw[← a.1,← b.1,e]
  subst this;rw[hk] at hj;cases hj;rfl
 ·intro o ho;obtain⟨k,hk⟩:=xAy.1 ho;have ab:k<(prep 0 [] all).length:=by
   rw[zFk];exact (xAc.1 hk).1
  refine⟨(prep 0 [] all)[k],xCF ab,?_⟩;have:=(zWi (xAA ab)).2;rw[hk] at this;cases this;rfl
theorem zWC{p:List Nat}{L:List (Nat×Value)}{h:AH}(hc:zxL C p=true)(hL:L.map (·.1)=zS9 p C.lv)(hk:zhT C K p (zAc L) h):SP C K p L h:=by
 intro T hT;unfold zxL at hc;rw[xAP] at hc;obtain⟨hn,hc⟩:=hc;have ez:=zLI (L:=L) (by rw[hL];exact hn);have H:zE6 (zS9 p C.lv) T (zAc L):=by
  intro t ht;rw[← hL] at ht;obtain⟨x,hx,rfl⟩:=xCv.1 ht;rw[hT x hx,ez x hx]
 unfold zhT at hk;unfold At;split at hk
 ·rename_i i ops hs;rw[hs] at hc ⊢;simp only at hc;split at hc
  ·rename_i A hA;simp only[evC,evRegion];refine Ev.andThen ((zWp (D:=C.D) hA H (zGH hk)).mono λ st af=>?_);obtain⟨T1,a,b,c⟩:=af;refine Ev.one ?_;have:=zGf (T:=st.T) (λ t ht=>a t (subN_iff.1 hc t ht)) c;have:=zJh C.B p _ _ (zHm this);rw[← b] at this;exact this
  ·cases hc
 ·rename_i i ops hs;rw[hs] at hc ⊢;simp only[xAP] at hc;simp only[evC,evRegion];obtain⟨f1,f2⟩:=zS2 ops.toList;have:=zRe (D:=C.D) f1 f2 (xCB.1 hc.1) (rest:=prep 0 [] ops.toList) (done:=0) (rds:=[]) (rds':=[]) (T:=T) (λ _ h=>h) (λ p hp=>.inl hp)
   (λ t ht=>ht.elim (H t) λ ⟨q,_,_,h⟩=>by simp at h) .nil (zNL hk)
  refine Ev.andThen (this.mono λ st af=>?_);obtain⟨T1,a,b,c⟩:=af;refine Ev.one ?_;have:=zGf (T:=st.T) (λ t ht=>a t (subN_iff.1 hc.2 t ht)) c;have:=zJh C.B p _ _ (zHm this);rw[← b] at this;exact this
 ·exact hk.elim
theorem zBh{T:Tm}{L:List (Nat×Value)}{h:AH}(hn:zHU (L.map (·.1))=true)(dm:subN (zHo C 30 (rs C.B 60 (.at []))) (L.map (·.1))=true)(hT:∀ x∈L,T.get x.1=x.2)
  (hk:zDY C K 30 (rs C.B 60 (.at [])) (zAc L) h):Ev C.s (evC C.P (zc C.P) C.ro C.B ⟨T,h,C.D⟩) (zJm C K):=by
 have ez:=zLI hn;have H:zE6 (zHo C 30 (rs C.B 60 (.at []))) T (zAc L):=by
  intro t ht;obtain⟨x,hx,rfl⟩:=xCv.1 (subN_iff.1 dm t ht);rw[hT x hx,ez x hx]
 have:=zHm (zGf H hk);simpa only[AtW,At,sub,ctx] using this
end
end Go.AM
end
end
section
section
namespace Go.AM
open Go Go.Proofs
def zW(fn:Func):Code:=match fn.body with
 | some c=>c
 | none=>.skip
def zm0:List ResultVar->List Nat
 | []=>[]
 | .tmp t::rs=>t::zm0 rs
 | .cell a _::rs=>a::zm0 rs
def zIY(P:Env):List ResultVar->List Value->AH->Option (List Value)
 | [],_,_=>some []
 | .tmp _::rs,v::vs,h=>(match zIY P rs vs h with|some l=>some (v::l)|none=>none)
 | .cell _ t::rs,v::vs,h=>(match zC1 P t v h,zIY P rs vs h with|some x,some l=>some (x::l)|_,_=>none)
 | _::_,[],_=>none
def zm3(l:List Value):Value:=match l with
 | [v]=>v
 | vs=>.tuple ⟨vs⟩
def zCa:Ex->Bool
 | .exit _=>false
 | _=>true
def KR(P:Env)(rs:List ResultVar)(R:Value->AH->Prop):KF:=λ ex vs h=>zCa ex=true/\EvO (zIY P rs vs h) λ l=>R (zm3 l) h
def zVd:Nat->List Value->List (Nat×Value)
 | _,[]=>[]
 | k,v::vs=>(k,v)::zVd (k+1) vs
def AH.qb(h:AH):AH:=⟨h.t,h.qa,Nat.add h.qa UNK⟩
@[simp] theorem zsm(h:AH)(b:Nat):h.qb.get b=h.get b:=rfl
@[simp] theorem zR(h:AH):h.qb.qa=h.qa:=rfl
@[simp] theorem zAN(h:AH):h.qb.wm=h.qa+UNK:=rfl
def AH.ok(h:AH):Prop:=h.wm<=h.qa+UNK
theorem zAR(h:AH):h.qb.ok:=xAF _
theorem zBb{h:AH}(k:h.ok)(o:AObj):(h.new o).ok:=by unfold AH.ok at k ⊢;show h.wm<=h.qa+1+UNK;omega
theorem zCH{h:AH}(k:h.ok)(b:Nat)(o:Option AObj):(h.upd b o).ok:=xCx (zBr h b o).1 k
section
variable {P:Env} {s:Bool}
theorem zGv(T:Tm)(h:AH):∀ rs:List ResultVar,zCy P T h rs=zIY P rs ((zm0 rs).map T.get) h
 | []=>rfl
 | .tmp t::rs=>by simp only[zCy,zm0,xCi,zIY];rw[zGv T h rs];rfl
 | .cell a t::rs=>by simp only[zCy,zm0,xCi,zIY];rw[zGv T h rs];rfl
theorem zQf{T:Tm}:∀ {vs:List Value} {k:Nat},(∀ i v,vs[i]?=some v->T.get (k+i)=v)->∀ x∈zVd k vs,T.get x.1=x.2
 | [],_,_,x,hx=>by cases hx
 | v::vs,k,h,x,hx=>by
  rcases xCg.1 hx with rfl|hx
  ·exact h 0 v rfl
  ·exact zQf (k:=k+1) (λ i u hu=>by have:=h (i+1) u (by simpa using hu);rw[show k+1+i=k+(i+1) by omega];exact this) x hx
theorem zpk{fn:Func}{C:Cx}(hP:C.P=P)(hs:C.s=s)(hC:C.B=zW fn/\C.ro=none/\C.rt=zm0 fn.results.toList/\C.D=[]){args:List Value}{h:AH}{Rp:Value->AH->Prop}
  (dm:subN (zHo C 30 (rs C.B 60 (.at []))) ((zVd 0 args).map (·.1))=true) (bp:zHU ((zVd 0 args).map (·.1))=true)
  (hk:zDY C (KR P fn.results.toList Rp) 30 (rs C.B 60 (.at [])) (zAc (zVd 0 args)) h) :
  Ev s (R.andThen (evC P (zc P) none (zW fn) ⟨⟨fn.ntmps,zCp args 0 .e⟩,h,[]⟩) (zAU P fn)) λ x=>Rp x.1 x.2:=by
 obtain⟨h1,h2,h3,h4⟩:=hC;have hT:∀ x∈zVd 0 args,(Tm.get ⟨fn.ntmps,zCp args 0 .e⟩ x.1)=x.2:=by
  refine zQf λ i v hv=>?_;unfold Tm.get;simp only;rw[zIx];have ab:i<args.length:=(xAc.1 hv).1;rw[xDO ⟨xDF _,by omega⟩];simp[hv]
 have:=zBh (C:=C) bp dm hT hk;rw[hP,hs,h1,h2,h4] at this;refine Ev.andThen (this.mono λ o ho=>?_);obtain⟨hd,aj,ho⟩:=ho;obtain⟨l,e,hR⟩:=EvO.ex ho;rw[h4] at hd;rw[h3,← zGv] at e;have aR:zAU P fn o=one (zm3 l,o.st.h):=by
  unfold zAU;cases ho:o.ex with
  | exit i=>rw[ho] at aj;cases aj
  | _=>
   simp only;rw[hd];simp only[zCI,zCM,zFD,e];unfold zm3;split <;> simp_all [v1]
 rw[aR];exact Ev.one hR
theorem zB4{f:FuncId}{fn:Func}{c:Code}{args:List Value}{h:AH}(hf:P.tab.fn.get f=some fn)(hb:fn.body=some c)(bh:P.sum f args h=none)(hl:Nat.ble (zBU args) fn.ntmps=true) :
  (zc P).call f args h=zEl h.qb h.wm (R.andThen (evC P (zc P) none (zW fn) ⟨⟨fn.ntmps,zCp args 0 .e⟩,h.qb,[]⟩) (zAU P fn)):=by
 rw[zX3];unfold fnCall;rw[hf];simp only[hb,bh,zEV,hl,xAG,zW];rfl
def zFN:Value->Bool
 | .int _ _=>true
 | .bool _=>true
 | _=>false
theorem zPF{v:Value}(h:zFN v=true):zm v=true:=by cases v <;> first|rfl|cases h
theorem zSv{v:Value}(h:zFN v=true):veq 1000 v v=true:=by
 cases v with
 | int k n=>show (decide (k=k)&&decide (n=n))=true;simp
 | bool b=>show (b==b)=true;simp
 | _=>cases h
theorem zSw{v:Value}(h:zFN v=true):zBR 4 v=[]:=by cases v <;> first|rfl|cases h
def AH.back(h:AH):AH:=⟨h.t,h.qa,cond (Nat.ble h.wm (h.qa+UNK)) h.wm (h.qa+UNK)⟩
theorem zQS{h:AH}(hw:h.ok):h.back=h:=by unfold AH.back;rw[ble_true.2 hw];rfl
theorem zNU{f:FuncId}{fn:Func}{c:Code}{args:List Value}{h:AH}{v0:Value}(aa:h.ok)(hf:P.tab.fn.get f=some fn)(hb:fn.body=some c)(bh:P.sum f args h=none)(hl:Nat.ble (zBU args) fn.ntmps=true)(hv:zFN v0=true)
  (fC:Ev s (R.andThen (evC P (zc P) none (zW fn) ⟨⟨fn.ntmps,zCp args 0 .e⟩,h.qb,[]⟩) (zAU P fn)) λ x=>x.1=v0/\h.qa<=x.2.wm) :
  (zc P).call f args h=some [(v0,h)]:=by
 rw[zB4 hf hb bh hl];obtain⟨l,e,aj,_,dH⟩:=fC;rw[e];simp only[zEl,xAN];have gj:∀ x∈l,zBf h.qb x=(v0,h.qb):=by
  intro x hx;obtain⟨a,b⟩:=dH x hx;unfold zBf zEv;rw[zR,ble_true.2 b,a,zPF hv];rfl
 have jO:zEv h.qb (v0,h.qb)=true:=ble_true.2 (by simp);have aQ:zEY h.qb l=[(v0,h.qb)]:=by
  rcases zCm h.qb l with ⟨x,hx,hs⟩|hs
  ·rw[hs,gj x (by rw[hx];simp)]
  ·rw[hs];have eN:l.map (zBf h.qb)=l.map λ _=>(v0,h.qb):=xBT gj;rw[eN];unfold zCD;have:(l.map λ _=>(v0,h.qb)).all (zEv h.qb)=true:=by
    rw[List.all_map,xCB];intro x _;exact jO
   rw[this];simp only[xAG,List.map_map];have hk:kept h.qb (v0,h.qb)=(v0,[],h.qb):=by
    unfold kept;simp only[zSw hv,zBm,zDl,List.foldr_nil]
   have jy:l.map (kept h.qb ∘ λ _=>(v0,h.qb))=l.map λ _=>((v0,[],h.qb):zK7):=xBT λ x _=>hk;rw[jy];have ju:∀(l:List (Value×AH)) (acc:List zK7),acc=[(v0,[],h.qb)]->zEd (l.map λ _=>((v0,[],h.qb):zK7)) acc=[(v0,[],h.qb)]:=by
    intro l
    induction l with
    | nil=>intro acc ha;exact ha
    | cons x l ih=>
     intro acc ha;subst ha;simp only[xCi,zEd];have:([(v0,[],h.qb)]:List zK7).any (zL6 (v0,[],h.qb))=true:=by
      simp[zL6,zSv hv,xCp]
     rw[this];exact ih _ rfl
   cases l with
   | nil=>exact absurd rfl aj
   | cons x l=>
    simp only[xCi,zEd,List.any_nil,xAH,xCa];rw[ju l _ rfl];rfl
 rw[aQ];have:=zQS aa;unfold AH.back at this;simp only[xCi,xCy,zg9];show [(v0,(⟨h.t,h.qa,cond (Nat.ble h.wm (h.qa+UNK)) h.wm (h.qa+UNK)⟩:AH))]=_;rw[this]
theorem zKp{f:FuncId}{fn:Func}{c:Code}{args:List Value}{h:AH}{v0:Value}(aa:h.ok)(hf:P.tab.fn.get f=some fn)(hb:fn.body=some c)(bh:P.sum f args h=none)(hl:Nat.ble (zBU args) fn.ntmps=true)(hv:zm v0=true)
  (fC:Ev true (R.andThen (evC P (zc P) none (zW fn) ⟨⟨fn.ntmps,zCp args 0 .e⟩,h.qb,[]⟩) (zAU P fn)) λ x=>x.1=v0/\h.qa<=x.2.wm) :
  (zc P).call f args h=some [(v0,h)]:=by
 rw[zB4 hf hb bh hl];obtain⟨l,e,aj,h1,dH⟩:=fC;rw[e]
 match l,h1 rfl with
 | [x],_=>
  obtain⟨a,b⟩:=dH x (by simp);have hr:zBf h.qb x=(v0,h.qb):=by
   unfold zBf zEv;rw[zR,ble_true.2 b,a,hv];rfl
  show some [zg9 h.wm (zBf h.qb x)]=_;rw[hr];have:=zQS aa;unfold AH.back at this;show some [(v0,(⟨h.t,h.qa,cond (Nat.ble h.wm (h.qa+UNK)) h.wm (h.qa+UNK)⟩:AH))]=_;rw[this]
theorem zTu{f:FuncId}{fn:Func}{c:Code}{args:List Value}{h:AH}{Rp:Value->Prop}(aa:h.ok)(hf:P.tab.fn.get f=some fn)(hb:fn.body=some c)(bh:P.sum f args h=none)(hl:Nat.ble (zBU args) fn.ntmps=true)
  (fC:Ev true (R.andThen (evC P (zc P) none (zW fn) ⟨⟨fn.ntmps,zCp args 0 .e⟩,h.qb,[]⟩) (zAU P fn)) λ x=>(zm x.1=true/\Rp x.1)/\h.qa<=x.2.wm) :
  ∃ v,Rp v/\(zc P).call f args h=some [(v,h)]:=by
 obtain⟨l,e,aj,h1,dH⟩:=fC
 match l,h1 rfl with
 | [x],_=>
  obtain⟨⟨a,b⟩,w⟩:=dH x (by simp);refine⟨x.1,b,zKp aa hf hb bh hl a ⟨[x],e,by simp,λ _=>rfl,λ y hy=>?_⟩⟩;simp at hy;subst hy;exact⟨rfl,w⟩
theorem ziH{f:FuncId}{fn:Func}{c:Code}{args:List Value}{h h1:AH}{v0:Value}(hf:P.tab.fn.get f=some fn)(hb:fn.body=some c)(bh:P.sum f args h=none)(hl:Nat.ble (zBU args) fn.ntmps=true)
  (fC:Ev true (R.andThen (evC P (zc P) none (zW fn) ⟨⟨fn.ntmps,zCp args 0 .e⟩,h.qb,[]⟩) (zAU P fn)) λ x=>x=(v0,h1)) :
  (zc P).call f args h=some [zg9 h.wm (zBf h.qb (v0,h1))]:=by
 rw[zB4 hf hb bh hl,Ev.single fC];rfl
theorem zX2{f:FuncId}{fn:Func}{c:Code}{args:List Value}{h:AH}{Rp:Value->AH->Prop}(hf:P.tab.fn.get f=some fn)(hb:fn.body=some c)(bh:P.sum f args h=none)(hl:Nat.ble (zBU args) fn.ntmps=true)
  (fC:Ev true (R.andThen (evC P (zc P) none (zW fn) ⟨⟨fn.ntmps,zCp args 0 .e⟩,h.qb,[]⟩) (zAU P fn)) λ x=>(zm x.1=false\/x.2.wm<h.qa)/\Rp x.1 ⟨x.2.t,x.2.qa,cond (Nat.ble h.wm x.2.wm) h.wm x.2.wm⟩) :
  Ev true ((zc P).call f args h) λ x=>Rp x.1 x.2:=by
 rw[zB4 hf hb bh hl];obtain⟨l,e,aj,h1,dH⟩:=fC;rw[e]
 match l,h1 rfl with
 | [x],_=>
  obtain⟨a,b⟩:=dH x (by simp);have:zBf h.qb x=x:=by
   unfold zBf;rcases a with a|a
   ·rw[a];simp
   ·have:zEv h.qb x=false:=ble_false.2 a;rw[this];simp
  show Ev true (some [zg9 h.wm (zBf h.qb x)]) _;rw[this,zJ];exact b
end
end Go.AM
end
end
namespace Go.AM
open Go Go.Proofs
def zA4(B:Code)(p:List Nat)(i:Nat):Oper:=match sub B p with
 | .region _ ops _=>(match lnth ops.toList i with|some o=>o|none=>default)
 | _=>default
def zyL:Code->Code
 | .rangeFunc _ _ a _=>a
 | _=>.skip
def zmz:Code->Code
 | .rangeFunc _ _ _ b=>b
 | _=>.skip
section
variable {P:Env} {s:Bool}
theorem zAq(b:Bool)(A B:Prop):BrK (some (.bool b)) A B=((b=true->A)/\(b=false->B)):=rfl
theorem ze(A B:Prop):BrK (some (.bool true)) A B=A:=by simp[zAq]
theorem zZ(A B:Prop):BrK (some (.bool false)) A B=B:=by simp[zAq]
theorem zAV(p:Prop)[Decidable p](A B:Prop):BrK (some (.bool (decide p))) A B=((p->A)/\(¬ p->B)):=by simp[zAq]
theorem zJn(p:Prop)[Decidable p](A B:Prop):BrK (some (.bool (!decide p))) A B=((¬ p->A)/\(p->B)):=by simp[zAq]
theorem zAC{t:Nat}{Rp:Value->AH->Prop}{ex:Ex}{v:Value}{h:AH}:KR P [.tmp t] Rp ex [v] h=(zCa ex=true/\Rp v h):=by
 simp only[KR,zIY,zA,zm3]
theorem zo1{t u:Nat}{Rp:Value->AH->Prop}{ex:Ex}{v w:Value}{h:AH}:KR P [.tmp t,.tmp u] Rp ex [v,w] h=(zCa ex=true/\Rp (.tuple #[v,w]) h):=by
 simp only[KR,zIY,zA,zm3]
theorem znF{Rp:Value->AH->Prop}{ex:Ex}{h:AH}:KR P [] Rp ex [] h=(zCa ex=true/\Rp (.tuple #[]) h):=by
 simp only[KR,zIY,zA,zm3]
theorem zwn{t a:Nat}{Rp:Value->AH->Prop}{ex:Ex}{v:Value}{h:AH}:KR P [.cell a t] Rp ex [v] h=(zCa ex=true/\EvO (zC1 P t v h) λ x=>Rp x h):=by
 simp only[KR,zIY];cases zC1 P t v h with
 | none=>simp only[zRb]
 | some x=>simp only[zA,zm3]
theorem zO:(zCa .ret=true)=True:=by simp[zCa]
theorem zEm:(zCa .normal=true)=True:=by simp[zCa]
theorem zE7{r:Rec}{f:FuncId}{fs cs:Array Value}{args:List Value}{h:AH}:zAs r (some (.func (.func f) fs cs)) (some args) h=r.call f (fs.toList++args++cs.toList) h:=rfl
theorem zIN{r:Rec}{l:Nat}{fs cs:Array Value}{args:List Value}{h:AH}:zAs r (some (.func (.yield l) fs cs)) (some args) h=r.round l (fs.toList++args) h:=rfl
theorem zM{r:Rec}{f:FuncId}{args:List Value}{h:AH}:zAs r (some (.func (.func f) #[] #[])) (some args) h=r.call f args h:=by rw[zE7];simp
theorem zP(t:TypeId)(a b:Int):zAJ P .lss t (.int .i64 a) (.int .i64 b)=some (.bool (decide (a<b))):=by
 show some (Value.bool (!ile b a))=_;rw[zG7];congr 2;by_cases h:a<b
 ·rw[xAJ h,xAI (by omega)];rfl
 ·rw[xAI h,xAJ (by omega)];rfl
theorem zAK(t:TypeId)(a b:Int):zAJ P .gtr t (.int .i64 a) (.int .i64 b)=some (.bool (decide (b<a))):=by
 show some (Value.bool (!ile a b))=_;rw[zG7];congr 2;by_cases h:b<a
 ·rw[xAJ h,xAI (by omega)];rfl
 ·rw[xAI h,xAJ (by omega)];rfl
theorem zYb(t:TypeId)(a b:Int):zAJ P .leq t (.int .i64 a) (.int .i64 b)=some (.bool (decide (a<=b))):=by
 show some (Value.bool (ile a b))=_;rw[zG7]
theorem zBY(t:TypeId)(a b:Int):zAJ P .geq t (.int .i64 a) (.int .i64 b)=some (.bool (decide (b<=a))):=by
 show some (Value.bool (ile b a))=_;rw[zG7]
theorem zAD(t:TypeId)(a b:Int):zAJ P .eql t (.int .i64 a) (.int .i64 b)=some (.bool (decide (a=b))):=by
 show some (Value.bool (ieq a b))=_;rw[zEL];rfl
theorem zAS(t:TypeId)(a b:Int):zAJ P .neq t (.int .i64 a) (.int .i64 b)=some (.bool (!decide (a=b))):=by
 show some (Value.bool (!ieq a b))=_;rw[zEL];rfl
def zC2(n:Int):Prop:=-9223372036854775808<=n/\n<=9223372036854775807
theorem zCu{n:Int}(h:zC2 n):zCv .i64 n=n:=by
 unfold zC2 at h;cases n with
 | ofNat m=>
  have:Nat.ble m 9223372036854775807=true:=ble_true.2 (by have:=h.2;simp only[Int.ofNat_eq_natCast] at this;omega);simp only[zCv,this,xDM]
 | negSucc m=>
  have:Nat.ble m 9223372036854775807=true:=ble_true.2 (by have:=h.1;omega);simp only[zCv,this,xDM]
theorem zk(t:TypeId){a b:Int}(h:zC2 (a+b)):zAJ P .add t (.int .i64 a) (.int .i64 b)=some (.int .i64 (a+b)):=by
 show some (Value.int .i64 (zCv .i64 (a+b)))=_;rw[zCu h]
theorem zQQ(t:TypeId)(a b:Int):zAJ P .add t (.int .i64 a) (.int .i64 b)=some (.int .i64 (zCv .i64 (a+b))):=rfl
theorem zKt(t:TypeId){a b:Int}(h:zC2 (a-b)):zAJ P .sub t (.int .i64 a) (.int .i64 b)=some (.int .i64 (a-b)):=by
 show some (Value.int .i64 (zCv .i64 (a-b)))=_;rw[zCu h]
theorem zq(b:Bool):zDg .not (.bool b)=some (.bool !b):=rfl
theorem zE(b:Bool)(x y:Option Value):zGG (some (.bool b)) x y=cond b x y:=rfl
theorem zI(b w:Bool)(x:Option Value):gdB (.bool b) w x=cond (b==w) x (some undef):=rfl
theorem zS(b w:Bool)(x:R (Value×AH))(h:AH):gdW (.bool b) w x h=cond (b==w) x (one (undef,h)):=rfl
theorem zx(a:Addr):zAz (some (.pointer (some a)))=some (.pointer (some a)):=rfl
theorem zAA{t e:TypeId}{z:Nat}(hu:und P t=some (.slice e))(hz:zAW P e=some z){b o len c k:Nat}(hk:k<len) :
  zV P t (some (.slice (some ⟨b,o,none⟩) len c)) (some (.int .i64 (k:Int)))=some (.pointer (some ⟨b,o+k*z,none⟩)):=by
 have ha:zE0 (.int .i64 (k:Int))=some k:=rfl;simp only[zV,zD7,hu,ha,hz,ble_true.2 (show k+1<=len by omega),xAG]
theorem zPn{t e:TypeId}{n z:Nat}(hu:und P t=some (.array n e))(hz:zAW P e=some z){b o k:Nat}(hk:k<n) :
  zV P t (some (.pointer (some ⟨b,o,none⟩))) (some (.int .i64 (k:Int)))=some (.pointer (some ⟨b,o+k*z,none⟩)):=by
 have ha:zE0 (.int .i64 (k:Int))=some k:=rfl;simp only[zV,zD7,hu,ha,hz,ble_true.2 (show k+1<=n by omega),xAG]
def tAS(P:Env)(t:TypeId):Option (Bool×Nat):=match zC6 P t with
 | some i=>some (i.agg,i.size)
 | none=>none
theorem zB{t:TypeId}{n:Nat}(ht:tAS P t=some (false,n)){h:AH}{b o:Nat}{vs:List Value}{ty es:Nat}{ro:Bool}(hb:h.get b=some (.row vs ty es ro)) :
  zb P t h (some (.pointer (some ⟨b,o,none⟩)))=lnth vs o:=by
 unfold tAS at ht;split at ht
 ·rename_i i hi;simp only[xAN,xCl] at ht;simp only[zb,zC1,hb,hi,ht.1,xBX,xDI]
 ·cases ht
theorem zN{t:TypeId}{n:Nat}(ht:tAS P t=some (true,n)){h:AH}{b o:Nat}{vs:List Value}{ty es:Nat}{ro:Bool}(hb:h.get b=some (.row vs ty es ro))(hl:o+n<=vs.length) :
  zb P t h (some (.pointer (some ⟨b,o,none⟩)))=some (.agg ⟨(vs.drop o).take n⟩):=by
 unfold tAS at ht;split at ht
 ·rename_i i hi;simp only[xAN,xCl] at ht;have hlen:((vs.drop o).take n).length=n:=by simp;omega
  simp only[zb,zC1,hb,hi,ht.1,ht.2,zAl,zAo,zAL,hlen,xCp,xDM]
 ·cases ht
theorem zU{t:TypeId}{h:AH}{z:Value}:zAm t h (some z)=one (.pointer (some ⟨h.qa,0,none⟩),h.new (.row (zd z) t 0 false)):=rfl
theorem zi{t:TypeId}{n:Nat}(ht:zAW P t=some n){h:AH}{b o:Nat}{vs cs:List Value}{ty es:Nat}{x:Value}(hb:h.get b=some (.row vs ty es false))(hx:zd x=cs)(hl:cs.length=n)(ho:o+n<=vs.length)(dq:cs.all zl=true) :
  zAM P t h (some (.pointer (some ⟨b,o,none⟩))) (some x)=one (undef,h.upd b (some (.row (lput vs o cs) ty es false))):=by
 simp only[zAM,zJy,hb,ht,hx,zAL,hl,xCp,ble_true.2 ho,dq,xCm,xDM,u1]
theorem zK(cs:Array Value):zd (.agg cs)=cs.toList:=rfl
theorem zEw(k:IntKind)(n:Int):zd (.int k n)=[.int k n]:=rfl
theorem zFr(a:Option Addr)(n c:Nat):zd (.slice a n c)=[.slice a n c]:=rfl
theorem zTt(f:Fn)(a b:Array Value):zd (.func f a b)=[.func f a b]:=rfl
theorem zD(h:AH)(o:AObj):(h.new o).get h.qa=some o:=by rw[AH.get_new,xDO rfl]
theorem zG{h:AH}{o:AObj}{b:Nat}(hb:b≠h.qa):(h.new o).get b=h.get b:=by rw[AH.get_new,xDN hb]
theorem zH(h:AH)(b:Nat)(o:Option AObj):(h.upd b o).get b=o:=by rw[AH.get_upd,xDO rfl]
theorem zL{h:AH}{o:Option AObj}{b c:Nat}(hb:c≠b):(h.upd b o).get c=h.get c:=by rw[AH.get_upd,xDN hb]
theorem zDK(h:AH)(o:AObj):(h.new o).wm=h.wm:=rfl
theorem zp{h:AH}{b n:Nat}{o:Option AObj}(h1:n<=h.wm)(h2:n<=b):n<=(h.upd b o).wm:=by
 show n<=cond (Nat.ble h.wm b) h.wm b;cases Nat.ble h.wm b <;> assumption
structure Ext(h k:AH):Prop where
 ok:k.ok
 qa:h.qa<=k.qa
 get:∀ b,b<h.qa->k.get b=h.get b
theorem Ext.refl{h:AH}(k:h.ok):Ext h h:=⟨k,xAF _,λ _ _=>rfl⟩
theorem Ext.qb{h k:AH}(e:Ext h k):Ext h k.qb:=⟨zAR k,e.qa,λ b hb=>e.get b hb⟩
theorem Ext.trans{h k l:AH}(e:Ext h k)(f:Ext k l):Ext h l:=⟨f.ok,xCx e.qa f.qa,λ b hb=>(f.get b (xAC hb e.qa)).trans (e.get b hb)⟩
theorem Ext.new{h k:AH}(e:Ext h k)(o:AObj):Ext h (k.new o):=⟨zBb e.ok o,xCx e.qa (by simp),λ b hb=>by
 have:=e.qa;rw[zG (by omega)];exact e.get b hb⟩
theorem Ext.upd{h k:AH}(e:Ext h k){b:Nat}(hb:h.qa<=b)(o:Option AObj):Ext h (k.upd b o):=⟨zCH e.ok b o,e.qa,λ c hc=>by
 rw[zL (by omega)];exact e.get c hc⟩
structure Chg(k:AH)(b:Nat)(k':AH):Prop where
 ok:k'.ok
 qa:k.qa<=k'.qa
 get:∀ c,c<k.qa->c≠b->k'.get c=k.get c
 wm:∀ n,n<=k.wm->n<=b->n<=k.qa->n<=k'.wm
theorem Chg.refl{k:AH}(h:k.ok)(b:Nat):Chg k b k:=⟨h,xAF _,λ _ _ _=>rfl,λ _ h _ _=>h⟩
theorem Chg.trans{k l m:AH}{b:Nat}(e:Chg k b l)(f:Chg l b m):Chg k b m:=
 ⟨f.ok,xCx e.qa f.qa,λ c hc hb=>(f.get c (xAC hc e.qa) hb).trans (e.get c hc hb),λ n h1 h2 h3=>f.wm n (e.wm n h1 h2 h3) h2 (xCx h3 e.qa)⟩
theorem Chg.new{k l:AH}{b:Nat}(e:Chg k b l)(o:AObj):Chg k b (l.new o):=
 ⟨zBb e.ok o,xCx e.qa (by simp),λ c hc hb=>by
  have:=e.qa;rw[zG (by omega)];exact e.get c hc hb,λ n h1 h2 h3=>e.wm n h1 h2 h3⟩
theorem Chg.upd{k l:AH}{b:Nat}(e:Chg k b l)(o:Option AObj):Chg k b (l.upd b o):=
 ⟨zCH e.ok b o,e.qa,λ c hc hb=>by rw[zL hb];exact e.get c hc hb,λ n h1 h2 h3=>zp (e.wm n h1 h2 h3) h2⟩
theorem Chg.updNew{k l:AH}{b c:Nat}(e:Chg k b l)(hc:k.qa<=c)(o:Option AObj):Chg k b (l.upd c o):=
 ⟨zCH e.ok c o,e.qa,λ d hd hb=>by rw[zL (by omega)];exact e.get d hd hb,λ n h1 h2 h3=>zp (e.wm n h1 h2 h3) (xCx h3 hc)⟩
theorem Chg.ext{h k l:AH}{b:Nat}(e:Ext h k)(hb:h.qa<=b)(c:Chg k b l):Ext h l:=
 ⟨c.ok,xCx e.qa c.qa,λ d hd=>(c.get d (xAC hd e.qa) (by omega)).trans (e.get d hd)⟩
theorem Chg.of_fresh{k l:AH}{b:Nat}(c:Chg k.qb b l):Chg k b ⟨l.t,l.qa,cond (Nat.ble k.wm l.wm) k.wm l.wm⟩:=by
 refine⟨?_,c.qa,λ d hd hb=>c.get d hd hb,λ n h1 h2 h3=>?_⟩
 ·show cond (Nat.ble k.wm l.wm) k.wm l.wm<=l.qa+UNK;have:=c.ok;unfold AH.ok at this;cases hc:Nat.ble k.wm l.wm with
  | true=>rw[ble_true] at hc;simp only[xAG];omega
  | false=>exact this
 ·show n<=cond (Nat.ble k.wm l.wm) k.wm l.wm;cases hc:Nat.ble k.wm l.wm with
  | true=>exact h1
  | false=>exact c.wm n (by rw[zAN];omega) h2 h3
end
theorem zIn:∀(l acc:List zK7) (k:zK7),k∈zEd l acc->k∈l\/k∈acc
 | [],acc,k,h=>.inr h
 | x::l,acc,k,h=>by
  simp only[zEd] at h;cases hb:acc.any (zL6 x) with
  | true=>rw[hb] at h;exact (zIn l acc k h).imp (λ h=>by simp[h]) id
  | false=>
   rw[hb] at h;rcases zIn l (acc++[x]) k h with h|h
   ·exact .inl (by simp[h])
   ·rcases xCU.1 h with h|h
    ·exact .inr h
    ·simp at h;exact .inl (by simp[h])
theorem zIm:∀(l acc:List zK7) (k:zK7),k∈acc->k∈zEd l acc
 | [],acc,k,h=>h
 | x::l,acc,k,h=>by
  simp only[zEd];cases acc.any (zL6 x) with
  | true=>exact zIm l acc k h
  | false=>exact zIm l (acc++[x]) k (by simp[h])
theorem zhp(l:List zK7)(h:l≠[]):zEd l []≠[]:=by
 cases l with
 | nil=>exact absurd rfl h
 | cons x l=>
  simp only[zEd,List.any_nil,xAH,xCa];intro e;have:=zIm l [x] x (by simp);rw[e] at this;cases this
theorem zWP{h0:AH}{l:List (Value×AH)}(h:l≠[]):zEY h0 l≠[]:=by
 rcases zCm h0 l with ⟨x,rfl,e⟩|e
 ·rw[e];simp
 ·rw[e];unfold zCD;cases ((l.map (zBf h0)).all (zEv h0)) with
  | true=>
   simp only[xAG];intro e';have:=List.map_eq_nil_iff.1 e';exact zhp _ (by simpa using h) this
  | false=>simpa using h
theorem zSu{h0:AH}{l:List (Value×AH)}{y:Value×AH}(hy:y∈zEY h0 l) :
  ∃ x∈l,y=zBf h0 x\/y=((zBf h0 x).1,zDl h0 (zBf h0 x).2 (zBm (zBf h0 x).2 h0.qa 1000 (zBR 4 (zBf h0 x).1) [])):=by
 rcases zCm h0 l with ⟨x,rfl,e⟩|e
 ·rw[e] at hy;simp at hy;exact⟨x,by simp,.inl hy⟩
 ·rw[e] at hy;unfold zCD at hy;cases hc:((l.map (zBf h0)).all (zEv h0)) with
  | true=>
   rw[hc] at hy;simp only[xAG] at hy;obtain⟨k,hk,rfl⟩:=xCv.1 hy;rcases zIn _ _ _ hk with hk|hk
   ·obtain⟨z,hz,rfl⟩:=xCv.1 hk;obtain⟨x,hx,rfl⟩:=xCv.1 hz;exact⟨x,hx,.inr rfl⟩
   ·cases hk
  | false=>
   rw[hc] at hy;simp only[xAH] at hy;obtain⟨x,hx,rfl⟩:=xCv.1 hy;exact⟨x,hx,.inl rfl⟩
def AH.kept(h0:AH)(v:Value)(h:AH):AH:=zDl h0 h (zBm h h0.qa 1000 (zBR 4 v) [])
def AH.wmTo(h:AH)(w:Nat):AH:=⟨h.t,h.qa,cond (Nat.ble w h.wm) w h.wm⟩
theorem zNT{P:Env}{s:Bool}{f:FuncId}{fn:Func}{c:Code}{args:List Value}{h:AH}{Rp:Value->AH->Prop}(hf:P.tab.fn.get f=some fn)(hb:fn.body=some c)(bh:P.sum f args h=none)(hl:Nat.ble (zBU args) fn.ntmps=true)
  (fC:Ev s (R.andThen (evC P (zc P) none (zW fn) ⟨⟨fn.ntmps,zCp args 0 .e⟩,h.qb,[]⟩) (zAU P fn)) λ x=>zm x.1=false/\Rp x.1 (x.2.wmTo h.wm)/\Rp x.1 ((AH.kept h.qb x.1 x.2).wmTo h.wm)) :
  Ev false ((zc P).call f args h) λ x=>Rp x.1 x.2:=by
 rw[zB4 hf hb bh hl];obtain⟨l,e,aj,_,dH⟩:=fC;rw[e];refine⟨(zEY h.qb l).map (zg9 h.wm),rfl,by simpa using zWP aj,(λ h=>by cases h),λ y hy=>?_⟩;obtain⟨z,hz,rfl⟩:=xCv.1 hy;obtain⟨x,hx,hh⟩:=zSu hz;obtain⟨a,b,c⟩:=dH x hx;have hr:zBf h.qb x=x:=by unfold zBf;rw[a];simp
 rw[hr] at hh;rcases hh with rfl|rfl
 ·exact b
 ·exact c
def zrT:List Nat->List Value->List (Nat×Value)
 | [],_=>[]
 | _,[]=>[]
 | t::ts,v::vs=>(t,v)::zrT ts vs
def PI(C:Cx)(K:KF)(i:Nat)(vs:List Value)(h:AH):Prop:=match lnth C.lv i with
 | some x=>SP C K x.1 (zrT x.2 vs) h
 | none=>False
def zoR(C:Cx)(K:KF)(i:Nat)(vs:List Value)(h:AH):Prop:=match lnth C.lv i with
 | some x=>zhT C K x.1 (zAc (zrT x.2 vs)) h
 | none=>False
def zxM(C:Cx)(i:Nat)(vs:List Value):Bool:=match lnth C.lv i with
 | some x=>zxL C x.1&&zKk (zS9 x.1 C.lv) x.2&&Nat.beq (zBU x.2) (zBU vs)
 | none=>false
theorem zQe:∀(l:List Nat) (vs:List Value),zBU l=zBU vs->(zrT l vs).map (·.1)=l
 | [],vs,_=>rfl
 | t::ts,[],h=>by simp[zBU] at h
 | t::ts,v::vs,h=>by simp only[zrT,xCi];rw[zQe ts vs (by simpa[zBU] using h)]
theorem zI6:∀ {l m:List Nat},zKk l m=true->l=m
 | [],[],_=>rfl
 | a::l,b::m,h=>by
  simp only[zKk,xAP] at h;rw[beq_true.1 h.1,zI6 h.2]
 | [],_::_,h=>by cases h
 | _::_,[],h=>by cases h
theorem zCC{C:Cx}{K:KF}{i:Nat}{vs:List Value}{h:AH}{Q:Prop}(H:Q)(hc:zxM C i vs=true:=by kernel_rfl)(hk:zoR C K i vs h=Q:=by kernel_rfl):PI C K i vs h:=by
 rw[← hk] at H;unfold PI;unfold zoR at H;unfold zxM at hc;split at hc
 ·rename_i x hx;simp only[xAP,beq_true] at hc;obtain⟨⟨h1,h2⟩,h3⟩:=hc;have h2:=zI6 h2;simp only[hx] at H ⊢;exact zWC h1 (by rw[zQe _ _ h3,h2]) H
 ·cases hc
variable {P:Env} {s:Bool} {f:FuncId} {fn:Func} {args:List Value} {h:AH} {v:Value}
abbrev EvC(P:Env)(s:Bool)(fn:Func)(args:List Value)(h:AH)(Rp:Value->AH->Prop):Prop:=
 Ev s (R.andThen (evC P (zc P) none (zW fn) ⟨⟨fn.ntmps,zCp args 0 .e⟩,h,[]⟩) (zAU P fn)) λ x=>Rp x.1 x.2
theorem zHp(C:Cx){Rp:Value->AH->Prop}{Q:Prop}(H:Q)(hP:C.P=P:=by rfl)(hs:C.s=s:=by rfl)(h1:C.B=zW fn:=by rfl)(h2:C.ro=none:=by rfl)(h3:C.rt=zm0 fn.results.toList:=by kernel_rfl)(h4:C.D=[]:=by rfl)
  (dm:subN (zHo C 30 (rs C.B 60 (.at []))) ((zVd 0 args).map (·.1))=true:=by kernel_rfl) (bp:zHU ((zVd 0 args).map (·.1))=true:=by kernel_rfl)
  (hk:zDY C (KR P fn.results.toList Rp) 30 (rs C.B 60 (.at [])) (zAc (zVd 0 args)) h=Q:=by kernel_rfl):EvC P s fn args h Rp:=
 zpk hP hs ⟨h1,h2,h3,h4⟩ dm bp (hk ▸ H)
theorem zxH(fn:Func)(aa:h.ok)(hv:zFN v=true)(H:EvC P s fn args h.qb λ x k=>x=v/\h.qa<=k.wm)(h1:P.tab.fn.get f=some fn:=by kernel_rfl)(h2:fn.body=some (zW fn):=by kernel_rfl)(h3:P.sum f args h=none:=by kernel_rfl)(h4:Nat.ble (zBU args) fn.ntmps=true:=by kernel_rfl):(zc P).call f args h=some [(v,h)]:=
 zNU aa h1 h2 h3 h4 hv H
theorem znN(fn:Func)(aa:h.ok)(hv:zm v=true)(H:EvC P true fn args h.qb λ x k=>x=v/\h.qa<=k.wm)(h1:P.tab.fn.get f=some fn:=by kernel_rfl)(h2:fn.body=some (zW fn):=by kernel_rfl)(h3:P.sum f args h=none:=by kernel_rfl)(h4:Nat.ble (zBU args) fn.ntmps=true:=by kernel_rfl):(zc P).call f args h=some [(v,h)]:=
 zKp aa h1 h2 h3 h4 hv H
theorem zsp(fn:Func){Rp:Value->Prop}(aa:h.ok)(H:EvC P true fn args h.qb λ x k=>(zm x=true/\Rp x)/\h.qa<=k.wm)(h1:P.tab.fn.get f=some fn:=by kernel_rfl)(h2:fn.body=some (zW fn):=by kernel_rfl)(h3:P.sum f args h=none:=by kernel_rfl)(h4:Nat.ble (zBU args) fn.ntmps=true:=by kernel_rfl):∃ v,Rp v/\(zc P).call f args h=some [(v,h)]:=
 zTu aa h1 h2 h3 h4 H
theorem zwG(fn:Func){Rp:Value->AH->Prop}(H:EvC P true fn args h.qb λ x k=>(zm x=false\/k.wm<h.qa)/\Rp x ⟨k.t,k.qa,cond (Nat.ble h.wm k.wm) h.wm k.wm⟩)(h1:P.tab.fn.get f=some fn:=by kernel_rfl)(h2:fn.body=some (zW fn):=by kernel_rfl)(h3:P.sum f args h=none:=by kernel_rfl)(h4:Nat.ble (zBU args) fn.ntmps=true:=by kernel_rfl):Ev true ((zc P).call f args h) λ x=>Rp x.1 x.2:=
 zX2 h1 h2 h3 h4 H
end Go.AM
namespace Go.AM
open Go Go.Proofs
section
def cst{v:Value}:Value:=v
def cs{n:Nat}:Nat:=n
theorem zs7{v:Value}:@cst v=v:=rfl
theorem zxJ{n:Nat}:@cs n=n:=rfl
abbrev GL:=List (Nat×Value)
abbrev GG:=Option (Value×Bool)
inductive PT where
 | evo (g:GG) (x:Option Value) (k:Value->PT)
 | evp (g:GG) (L:GL) (p:List Nat) (i:Nat) (k:Value->PT)
 | evr (g:GG) (L:GL) (p:List Nat) (i:Nat) (h:AH) (k:Value->PT)
 | ev (g:GG) (x:R (Value×AH)) (h:AH) (k:Value->AH->PT)
 | chk (u v:Value) (k:PT)
 | br (c:Option Value) (a b:PT)
 | pi (i:Nat) (vs:List Value) (h:AH)
 | fin (ex:Ex) (vs:List Value) (h:AH)
 | alt (a:PT)
 | and (a b:PT)
 | no
def PT.den(C:Cx)(K:KF)(E:Env)(s:Bool)(B:Code):PT->Prop
 | .evo none x k=>EvO x λ a=>(k a).den C K E s B
 | .evo (some (g,w)) x k=>EvO (gdB g w x) λ a=>(k a).den C K E s B
 | .evp none L p i k=>EvO (zw E (zAc L) (zA4 B p i)) λ a=>(k a).den C K E s B
 | .evp (some (g,w)) L p i k=>EvO (gdB g w (zw E (zAc L) (zA4 B p i))) λ a=>(k a).den C K E s B
 | .evr none L p i h k=>EvO (zh E (zAc L) (zA4 B p i) h) λ a=>(k a).den C K E s B
 | .evr (some (g,w)) L p i h k=>EvO (gdB g w (zh E (zAc L) (zA4 B p i) h)) λ a=>(k a).den C K E s B
 | .ev none x h k=>Ev s x λ a=>(k a.1 a.2).den C K E s B
 | .ev (some (g,w)) x h k=>Ev s (gdW g w x h) λ a=>(k a.1 a.2).den C K E s B
 | .chk u v k=>veq 100 u v=true/\(k.den C K E s B)
 | .br c a b=>BrK c (a.den C K E s B) (b.den C K E s B)
 | .pi i vs h=>PI C K i vs h
 | .fin ex vs h=>K ex vs h
 | .alt a=>s=false/\a.den C K E s B
 | .and a b=>a.den C K E s B/\b.den C K E s B
 | .no=>False
section
variable (E:Env) (md:List Nat×List Nat) (C:Cx)
def gM:GL->Nat->Value
 | [],_=>undef
 | x::l,t=>cond (Nat.beq x.1 t) x.2 (gM l t)
def gOp(L:GL):Operand->Option Value
 | .tmp t=>some (gM L t)
 | .const v=>cond (zm v) (some (@cst v)) none
 | .global _=>none
 | .func f=>some (@cst (.func (.func f) #[] #[]))
def gV(L:GL):Operand->Value
 | .tmp t=>gM L t
 | .const v=>@cst v
 | .global g=>.pointer (some ⟨g,0,none⟩)
 | .func f=>@cst (.func (.func f) #[] #[])
def gVs(L:GL):List Operand->List Value
 | []=>[]
 | x::l=>gV L x::gVs L l
def gPs(L:GL):List (Nat×Operand)->List (Nat×Value)
 | []=>[]
 | x::l=>(@cs x.1,gV L x.2)::gPs L l
def gNs:List Nat->List Nat
 | []=>[]
 | x::l=>@cs x::gNs l
def zvS(L:GL):List Nat->GL
 | []=>[]
 | t::l=>(@cs t,gM L t)::zvS L l
def zxE{α:Type}:List α->Nat->Option α
 | [],_=>none
 | a::_,0=>some a
 | _::l,n+1=>zxE l n
def zM9(all:List Oper)(L:GL)(o:Oper):GG:=match o.guard with
 | none=>none
 | some (j,w)=>match zxE all j with
  | some oj=>match oj.dst with
   | some d=>some (gM L d,w)
   | none=>none
  | none=>none
def zrN(L:GL)(o:Oper)(v:Value):GL:=match o.dst with
 | some d=>(d,v)::L
 | none=>L
def zsn(L:GL)(o:Oper):Option Value:=match o.guard with
 | some _=>none
 | none=>match o.op with
  | .move x=>gOp L x
  | .assign x=>gOp L x
  | _=>none
def zxF(op:BinOp)(t:Nat):Bool:=cond (zhA t md.1) (zXW op) (cond (zhA t md.2) (zsd op) false)
def zXi(L:GL)(g:GG)(p:List Nat)(i:Nat)(o:Oper)(h:AH)(k:Value->PT):PT:=match o.op with
 | .move x=>.evo g (gOp L x) k
 | .assign x=>.evo g (gOp L x) k
 | .pick c a b=>.evo g (zGG (gOp L c) (gOp L a) (gOp L b)) k
 | .nilCheck x=>.evo g (zAz (gOp L x)) k
 | .binOp op t x y _=>cond (zxF md op t) (.evo g (zAJ E op (@cs t) (gV L x) (gV L y)) k) (.evp g (zvS L (zDz o.op.operands.toList)) p i k)
 | .unOp .not _ x=>.evo g (zDg .not (gV L x)) k
 | .extract x i=>.evo g (z6 (@cs i) (gOp L x)) k
 | .build t ps=>.evo g (zAT E (@cs t) (some (gPs L ps.toList))) k
 | .field t x f=>.evo g (zDP E (@cs t) (@cs f) (gOp L x)) k
 | .index t x i=>.evo g (zBl E (@cs t) (gOp L x) (gOp L i)) k
 | .fieldAddr t x f=>.evo g (zX E (@cs t) (@cs f) (gOp L x)) k
 | .indexAddr t x i=>.evo g (zV E (@cs t) (gOp L x) (gOp L i)) k
 | .makeFunc (.func f) fs xs=>.evo g (zAX (.func (@cs f)) (some (gVs L fs.toList)) (some (gVs L xs.toList))) k
 | .load t a=>.evo g (zb E (@cs t) h (gOp L a)) k
 | .lookup t x y ok=>.evo g (zAy E (@cs t) ok (gOp L x) (gOp L y) h) k
 | .entry x=>.evo g (zC4 (gOp L x) h) k
 | _=>match cls o.op with
  | .pure=>.evp g (zvS L (zDz o.op.operands.toList)) p i k
  | _=>.evr g (zvS L (zDz o.op.operands.toList)) p i h k
def znL(L:GL)(o:Oper)(h:AH):R (Value×AH):=match o.op with
 | .alloc t=>zAm (@cs t) h (zAh E (@cs t))
 | .box t x=>zAm (@cs t) h (gOp L x)
 | .store t a x=>zAM E (@cs t) h (gOp L a) (gOp L x)
 | .buildSlice t len ps=>zg E (@cs t) (@cs len) (some (gPs L ps.toList)) h
 | .makeMap _ none=>one (.map (some h.qa),h.new (.map [] (@cs 0)))
 | .makeSlice t l c=>zAG E (@cs t) (gOp L l) (gOp L c) h
 | .mapUpdate t a k v=>zu E (@cs t) (gOp L a) (gOp L k) (gOp L v) h
 | .insert t a k v=>zu E (@cs t) (gOp L a) (gOp L k) (gOp L v) h
 | .range _ x=>zCk (gOp L x) h
 | .next x s=>zDs s (gOp L x) h
 | .call c=>(match c.callee with
  | .value f=>zAs (zc E) (gOp L f) (some (gVs L c.args.toList)) h
  | .builtin b=>zy E b (gNs c.argTypes.toList) (some (gVs L c.args.toList)) h
  | _=>none)
 | _=>none
def zxG(q:List Nat):List (List Nat×List Nat)->Nat->Nat
 | [],_=>9999
 | x::l,n=>cond (zKk x.1 q) n (zxG q l (n+1))
def gMs(L:GL):List Nat->List Value
 | []=>[]
 | t::l=>gM L t::gMs L l
def zhx:Nat->Wh->GL->AH->PT
 | 0,_,_,_=>.no
 | _+1,.fin,L,h=>.fin .normal (gMs L C.rt) h
 | n+1,.at q,L,h=>match sub C.B q with
  | .cond c _ _=>.br (gOp L c) (zhx n (rs C.B 60 (.at (q++[0]))) L h) (zhx n (rs C.B 60 (.at (q++[1]))) L h)
  | .ret=>.fin .ret (gMs L C.rt) h
  | .exit id=>(match xt id C.B q with
   | .out=>.fin (.exit (@cs id)) (gMs L C.rt) h
   | _=>.no)
  | .region _ _ _=>.pi (zxG q C.lv 0) (gMs L (zS9 q C.lv)) h
  | .rangeFunc _ _ _ _=>.pi (zxG q C.lv 0) (gMs L (zS9 q C.lv)) h
  | _=>.no
 | _+1,_,_,_=>.no
def zvR(p:List Nat)(all:List Oper)(kt:GL->AH->PT):Nat->List Oper->GL->AH->PT
 | _,[],L,h=>kt L h
 | i,o::os,L,h=>match zsn L o with
  | some v=>zvR p all kt (i+1) os (zrN L o v) h
  | none=>cond (zEp o.op)
   (.ev (zM9 all L o) (znL E L o h) h λ v h'=>zvR p all kt (i+1) os (zrN L o v) h')
   (zXi E md L (zM9 all L o) p i o h λ v=>zvR p all kt (i+1) os (zrN L o v) h)
structure RdG where
 i:Nat
 L:GL
 o:Oper
 v:Value
def frc(n:Nat)(k:Nat->Bool):Bool:=match n with
 | 0=>k 0
 | m+1=>k (m+1)
def zyr(m i:Nat):Bool:=frc i λ i=>frc m λ m=>Nat.beq (Nat.mod (Nat.div m (Nat.pow 2 i)) 2) 1
def zxD(p:List Nat)(all:List Oper)(bef:Nat)(h:AH):List RdG->PT->PT
 | [],k=>k
 | r::rs,k=>cond (zyr bef r.i) (zxD p all bef h rs k) (zXi E md r.L (zM9 all r.L r.o) p r.i r.o h λ u=>.chk u r.v (zxD p all bef h rs k))
def zpG(bef:Nat):List RdG->List RdG
 | []=>[]
 | r::rs=>cond (zyr bef r.i) (zpG bef rs) (r::zpG bef rs)
def isRd(o:Op):Bool:=match cls o with
 | .read=>true
 | _=>false
def zso:List PT->PT
 | []=>.no
 | [a]=>a
 | a::b::l=>.and a (zso (b::l))
def gAft(q:PO)(rds:List RdG):List RdG:=match q.o.guard with
 | none=>zpG q.bef rds
 | some _=>rds
def zyq{α β:Type}(f:α->β):List α->List β
 | []=>[]
 | a::l=>f a::zyq f l
def zXj(p:List Nat)(all:List Oper)(kt:GL->AH->PT):Nat->List PO->List PO->GL->Nat->List RdG->AH->PT
 | 0,_,_,_,_,_,_=>.no
 | n+1,[],kept,L,done,rds,h=>match kept.reverse with
  | []=>kt L h
  | rest=>
   let fire:=λ (x:PO×List PO)=>PT.ev (zM9 all L x.1.o) (znL E L x.1.o h) h λ v h2=>zxD E md p all x.1.bef h2 rds (zXj p all kt n x.2 [] (zrN L x.1.o v) (zBt done x.1.i) (gAft x.1 rds) h2)
   match zCz done [] rest with
   | []=>.no
   | [x]=>fire x
   | l=>.alt (zso (zyq fire l))
 | n+1,q::ps,kept,L,done,rds,h=>cond (zBk q done&&!zEp q.o.op)
   (match zsn L q.o with
    | some v=>zXj p all kt n ps kept (zrN L q.o v) (zBt done q.i) rds h
    | none=>zXi E md L (zM9 all L q.o) p q.i q.o h λ v=>zXj p all kt n ps kept (zrN L q.o v) (zBt done q.i) (cond (isRd q.o.op) (⟨q.i,L,q.o,v⟩::rds) rds) h)
   (zXj p all kt n ps (q::kept) L done rds h)
def zxC:List Nat->List Value->GL
 | [],_=>[]
 | _,[]=>[]
 | t::ts,v::vs=>(t,v)::zxC ts vs
def gen(i:Nat)(vs:List Value)(h:AH):PT:=match zxE C.lv i with
 | some x=>match sub C.B x.1 with
  | .region _ ops false=>zvR E md x.1 ops.toList (λ L h=>zhx C 30 (rs C.B 60 (nx C.B x.1)) L h) 0 ops.toList (zxC x.2 vs) h
  | .region _ ops true=>zXj E md x.1 ops.toList (λ L h=>zhx C 30 (rs C.B 60 (nx C.B x.1)) L h) 600 (prep 0 [] ops.toList) [] (zxC x.2 vs) 0 [] h
  | _=>.no
 | none=>.no
end
end
def zIb:Code->List (List Nat)
 | .seq a b=>(zIb a).map (0::·)++(zIb b).map (1::·)
 | .cond _ a b=>(zIb a).map (0::·)++(zIb b).map (1::·)
 | .block _ c=>(zIb c).map (0::·)
 | .loop c=>(zIb c).map (0::·)
 | .region _ _ _=>[[]]
 | .rangeFunc _ _ _ _=>[[]]
 | _=>[]
def lvz:List (List Nat)->List (List Nat)->List (List Nat×List Nat)
 | [],_=>[]
 | _,[]=>[]
 | p::ps,l::ls=>(p,l)::lvz ps ls
def lvs(B:Code)(l:List (List Nat)):List (List Nat×List Nat):=lvz (zIb B) l
end Go.AM
namespace Go.AM
open Go Go.Proofs Go.RowKit
def zhP(raw:Tr TypeInfo)(i:TypeInfo):Bool:=
 (match i.desc with
  | .named _ u=>(match raw.get u with|some _=>true|none=>false)
  | _=>true) &&
 (match i.zero with
  | some z=>zEe 4 z
  | none=>true)
def tysOk(P:Program):Bool:=let raw:=Tr.ofList 40 P.types.toList;P.types.toList.all (zhP raw)
def fnOk(g:Func):Bool:=match g.body with
 | some c=>fits g.ntmps c&&!(g.name=="runtime.NumGoroutine")
 | none=>true
theorem zXd{P:Program}{t:TypeId}{info:TypeInfo}(h:P.types[t]?=some info):P.info? t=some info:=by
 unfold Tables.info?;rw[xDO (xAV.1 h).1];exact h
theorem zh8{P:Program}{ext:List (FuncId×Nat)}{sum:FuncId->List Value->AH->Option (List (Value×AH))}(h1:tysOk P=true)(h2:P.funcs.toList.all fnOk=true)(h3:P.follows .mixedOrders=true):zCt (zIl P ext sum):=by
 have cY:∀ t i,(zIl P ext sum).tab.ty.get t=some i->∃ info,P.types[t]?=some info/\i=zvO (Tr.ofList 40 P.types.toList) info:=by
  intro t i h;have:=Tr.get_ofList _ _ _ _ h;rw[xBi] at this;cases hx:P.types.toList[t]? with
  | none=>rw[hx] at this;cases this
  | some info=>
   rw[hx] at this;simp only[xCS,xAN] at this;exact⟨info,by rw[← Array.getElem?_toList];exact hx,this.symm⟩
 have aa:∀ {t:Nat} {info:TypeInfo},P.types[t]?=some info->zhP (Tr.ofList 40 P.types.toList) info=true:=by
  intro t info h;exact xCB.1 h1 info (xBI (by rw[xAz];exact h))
 have iV:∀ f g,(zIl P ext sum).tab.fn.get f=some g->P.funcs[f]?=some g/\fnOk g=true:=by
  intro f g h;have:=Tr.get_ofList _ _ _ _ h;exact⟨by rw[← Array.getElem?_toList];exact this,xCB.1 h2 g (xBI this)⟩
 refine⟨?_,?_,?_,?_,h3,?_⟩
 ·intro t i h;obtain⟨info,q1,rfl⟩:=cY t i h;have h1:=aa q1;have hi:P.info? t=some info:=zXd q1;refine⟨info,hi,?_⟩;unfold zhP at h1;rw[xAP] at h1;obtain⟨k1,_⟩:=h1;show P.underlying t=_/\_;unfold Program.underlying zvO;rw[hi];cases hd:info.desc with
  | named nm u=>
   rw[hd] at k1;simp only at k1;split at k1
   ·rename_i j hj;have dC:P.types[u]?=some j:=by rw[← Array.getElem?_toList];exact Tr.get_ofList _ _ _ _ hj
    have hju:P.info? u=some j:=zXd dC;obtain⟨d1,d2⟩:=info;simp only at hd;subst hd;simp[hj,hju]
    try (cases j.desc <;> rfl)
   ·cases k1
  | _=>
   obtain⟨d1,d2⟩:=info;simp only at hd;subst hd;simp
 ·intro t i z h hz;obtain⟨info,q1,rfl⟩:=cY t i h;have h1:=aa q1;unfold zhP at h1;rw[xAP] at h1;have iC:info.zero=some z:=by
   rw[← hz];unfold zvO;cases hd:info.desc <;> simp;split <;> rfl
  have h2:=h1.2;rw[iC] at h2;exact h2
 ·intro f g h;obtain⟨q1,q2⟩:=iV f g h;refine⟨q1,λ c hc=>?_⟩;unfold fnOk at q2;rw[hc] at q2;simp only[xAP] at q2;exact q2.1
 ·intro f g c h hc;obtain⟨q1,q2⟩:=iV f g h;unfold fnOk at q2;rw[hc] at q2;simp only[xAP,xBq] at q2;exact q2.2
 ·show 2<=P.depth;unfold Program.depth;omega
theorem zXp(P:Program):∀ {ext:List (FuncId×Nat)} {f:FuncId} {c:Nat},(zIl P ext sum).tab.ext.get f=some c->(f,c)∈ext
 | [],f,c,h=>by cases h
 | (g,d)::ext,f,c,h=>by
  have e:(zIl P ((g,d)::ext) sum).tab.ext=(zIl P ext sum).tab.ext.set (g+1) g (some d):=rfl;rw[e,Tr.get_set _ _ _ _ _ (xCA g)] at h;split at h
  ·rename_i hf;cases h;subst hf;simp
  ·exact xBG _ (zXp P h)
theorem zEa:∀(l:List UInt8) (c:UInt8),Lib.indexByte l c=-1\/0<=Lib.indexByte l c
 | [],c=>.inl rfl
 | b::l,c=>by
  simp only[Lib.indexByte];split
  ·exact .inr (by omega)
  ·split
   ·exact .inl rfl
   ·rename_i h;rcases zEa l c with h'|h'
    ·rw[h'] at h;simp at h
    ·exact .inr (by omega)
theorem zKc:∀(l:List UInt8) (c:UInt8) (i:Nat),zFo l c i=(if Lib.indexByte l c=-1 then -1 else Lib.indexByte l c+i)
 | [],c,i=>by simp[zFo,Lib.indexByte]
 | b::l,c,i=>by
  simp only[zFo,Lib.indexByte];by_cases hb:b=c
  ·subst hb;simp
  ·have hn:¬ (Nat.beq b.toNat c.toNat=true):=by rw[beq_true];intro h;exact hb (UInt8.toNat_inj.1 h)
   have ar:(b==c)=false:=by simpa using hb
   rw[xDN hn,zKc l c (i+1)];simp only[ar,xBX,xDI];rcases zEa l c with h|h
   ·simp[h]
   ·have h1:¬ Lib.indexByte l c=-1:=by omega
    have h2:¬ (Lib.indexByte l c+1=-1):=by omega
    simp only[h1,xDI,beq_iff_eq,h2];omega
theorem zM4(l:List UInt8)(c:UInt8):zFo l c 0=Lib.indexByte l c:=by
 rw[zKc];split
 ·rename_i h;exact h.symm
 ·simp
end Go.AM
namespace Go.Proofs
open Go Go.Proofs Go.AM
def zXc(args:List Value)(h:AH):Option (List (Value×AH)):=match args with
 | [.slice (some ⟨b,0,none⟩) n cap,iI (.ofNat i),.slice (some ⟨c,0,none⟩) 1 1]=>
  (match h.get b,h.get c with
  | some (.row vs 36 2 false),some (rO us 36)=>
   cond (Nat.beq cap (UNK+2)&&Nat.ble i n&&Nat.beq (zBU vs) (n*2)&&Nat.beq (zBU us) 2&&!Nat.beq b c&&vs.all zl&&us.all zl&&Nat.ble n 100000)
    (some [(.slice (some ⟨h.qa,0,none⟩) (n+1) (UNK+2),(h.upd b none).new (.row (zFU (i*2) vs++us++zG3 (i*2) vs) 36 2 false))]) none
  | _,_=>none)
 | _=>none
def zWR(args:List Value)(h:AH):Option (List (Value×AH)):=match args with
 | []=>some [(.bool true,h)]
 | _=>none
def zmv:Nat->List Value->Option (List (Int×Int))
 | 0,_=>some []
 | n+1,iI a::iI b::vs=>(match zmv n vs with|some l=>some ((a,b)::l)|none=>none)
 | _+1,_=>none
def ltS(x y:Int×Int):Bool:=decide (x.1<y.1)||(decide (x.1=y.1)&&decide (x.2<y.2))
def zPC(d:List (Int×Int)):List (Int×Int):=d.mergeSort λ x y=>!ltS y x
def zF8(args:List Value)(h:AH):Option (List (Value×AH)):=match args with
 | [.slice (some ⟨b,0,none⟩) n cap,.func (.func 176) ⟨[]⟩ ⟨[]⟩]=>
  (match h.get b with
  | some (.row vs 134 2 false)=>(match zmv n vs with
   | some d=>cond (Nat.beq cap (UNK+2)&&Nat.ble n 1000000) (some [(.tuple #[],h.upd b (some (.row ((zPC d).flatMap (λ x=>[iI x.1,iI x.2])++vs.drop (n*2)) 134 2 false)))]) none
   | none=>none)
  | _=>none)
 | _=>none
def zXb(f:FuncId)(args:List Value)(h:AH):Option (List (Value×AH)):=match Nat.beq f 191 with
 | true=>zXc args h
 | false=>(match Nat.beq f 13 with
  | true=>zWR args h
  | false=>(match Nat.beq f 175 with
   | true=>zF8 args h
   | false=>none))
def E:Env:=zIl Tryz.prog [(172,1),(284,2)] zXb
abbrev mdT:List Nat×List Nat:=([3,29,200,140,207,209,2,5,253,21],[54])
theorem pt(C:Cx)(B:Code)(K:KF)(i:Nat)(vs:List Value)(h:AH){Q:Prop}(_:(gen E mdT C i vs h).den C K E C.s B->Q:=by (intro h;(conv at h=>arg 6;reduce);(conv at h=>arg 4;whnf);dsimp only[PT.den,zs7,zxJ] at h;exact h))(hc:zxM C i vs=true:=by kernel_rfl)(hk:zoR C K i vs h=Q:=by kernel_rfl)(H:Q):PI C K i vs h:=zCC H hc hk
abbrev LenT(B:Code)(p:List Nat)(i t:Nat):Prop:=∀ ⦃a:Option Addr⦄ ⦃n c:Nat⦄ ⦃h:AH⦄,zh E (zAc [(t,.slice a n c)]) (zA4 B p i) h=some (iI (n:Int))
theorem zAb(B:Code)(p:List Nat)(i t:Nat)(h1:∀(n c:Nat) (h:AH),zh E (zAc [(t,.slice none n c)]) (zA4 B p i) h=some (iI (n:Int)):=by intro n c h;kernel_rfl)(h2:∀(a:Addr) (n c:Nat) (h:AH),zh E (zAc [(t,.slice (some a) n c)]) (zA4 B p i) h=some (iI (n:Int)):=by intro a n c h;kernel_rfl):LenT B p i t:=λ a _ _ _=>by
 cases a with
 | none=>exact h1 _ _ _
 | some a=>exact h2 a _ _ _
theorem evW{C:Cx}{s:Bool}{fn:Func}{rs:List ResultVar}{Rp:Value->AH->Prop}{i:Nat}{ws vs:List Value}{h:AH}(H:PI C (KR E rs Rp) i ws h)(hP:C.P=E:=by rfl)(hs:C.s=s:=by rfl)(h1:C.B=zW fn:=by rfl)(h2:C.ro=none:=by rfl)(h3:C.rt=zm0 fn.results.toList:=by kernel_rfl)(h4:C.D=[]:=by rfl)
  (dm:subN (zHo C 30 (AM.rs C.B 60 (.at []))) ((zVd 0 vs).map (·.1))=true:=by kernel_rfl) (bp:zHU ((zVd 0 vs).map (·.1))=true:=by kernel_rfl)
  (hk:zDY C (KR E fn.results.toList Rp) 30 (AM.rs C.B 60 (.at [])) (zAc (zVd 0 vs)) h=PI C (KR E rs Rp) i ws h:=by kernel_rfl):EvC E s fn vs h Rp:=zHp C H hP hs h1 h2 h3 h4 dm bp hk
section
variable (C:Bool->Cx) (f:FuncId) (rs:List ResultVar) (i:Nat) (ws vs:List Value) (fn:Func)
abbrev EvT:Prop:=∀(s:Bool) (Rp:Value->AH->Prop) (h:AH),PI (C s) (KR E rs Rp) i ws h->EvC E s fn vs h Rp
variable (e:EvT C rs i ws vs fn:=by intro s Rp h H;exact evW H) (h1:E.tab.fn.get f=some fn:=by kernel_rfl) (h2:fn.body=some (zW fn):=by kernel_rfl) (h3:∀ h,E.sum f vs h=none:=by intro h;kernel_rfl) (h4:Nat.ble (zBU vs) fn.ntmps=true:=by kernel_rfl)
variable ⦃s:Bool⦄ ⦃h h':AH⦄ ⦃v:Value⦄
include e h1 h2 h3 h4
theorem zz(aa:h.ok)(hv:zFN v=true)(H:PI (C s) (KR E rs λ x k=>x=v/\h.qa<=k.wm) i ws h.qb):(zc E).call f vs h=some [(v,h)]:=zxH fn aa hv (e _ _ _ H) h1 h2 (h3 h) h4
theorem zDv(aa:h.ok)(hv:zm v=true)(H:PI (C true) (KR E rs λ x k=>x=v/\h.qa<=k.wm) i ws h.qb):(zc E).call f vs h=some [(v,h)]:=znN fn aa hv (e _ _ _ H) h1 h2 (h3 h) h4
theorem zCK ⦃Rp:Value->Prop⦄ (aa:h.ok) (H:PI (C true) (KR E rs λ x k=>(zm x=true/\Rp x)/\h.qa<=k.wm) i ws h.qb):∃ v,Rp v/\(zc E).call f vs h=some [(v,h)]:=zsp fn aa (e _ _ _ H) h1 h2 (h3 h) h4
theorem zDR ⦃Rp:Value->AH->Prop⦄ (H:PI (C true) (KR E rs λ x k=>(zm x=false\/k.wm<h.qa)/\Rp x ⟨k.t,k.qa,cond (Nat.ble h.wm k.wm) h.wm k.wm⟩) i ws h.qb):Ev true ((zc E).call f vs h) λ x=>Rp x.1 x.2:=zwG fn (e _ _ _ H) h1 h2 (h3 h) h4
end
end Go.Proofs
namespace Go.Proofs
open Go Go.Proofs Go.AM
theorem zML:und E 22=some (.slice 36):=by kernel_rfl
theorem znR:zC8 E 22=some 36:=by kernel_rfl
theorem zPp{b o len c k:Nat}(h:k<len):zV E 22 (some (.slice (some ⟨b,o,none⟩) len c)) (some (iI (k:Int)))=some (.pointer (some ⟨b,o+k*2,none⟩)):=zAA zML (by kernel_rfl) h
theorem zQi:und E 23=some (.slice 52):=by kernel_rfl
theorem zsz:zC8 E 23=some 52:=by kernel_rfl
theorem zo8{b o len c k:Nat}(h:k<len):zV E 23 (some (.slice (some ⟨b,o,none⟩) len c)) (some (iI (k:Int)))=some (.pointer (some ⟨b,o+k*3,none⟩)):=zAA zQi (by kernel_rfl) h
theorem zJt:und E 26=some (.slice 54):=by kernel_rfl
theorem zXg{b o len c k:Nat}(h:k<len):zV E 26 (some (.slice (some ⟨b,o,none⟩) len c)) (some (iI (k:Int)))=some (.pointer (some ⟨b,o+k*2,none⟩)):=zAA zJt (by kernel_rfl) h
theorem zV1:und E 34=some (.slice 173):=by kernel_rfl
theorem zXf{b o len c k:Nat}(h:k<len):zV E 34 (some (.slice (some ⟨b,o,none⟩) len c)) (some (iI (k:Int)))=some (.pointer (some ⟨b,o+k*3,none⟩)):=zAA zV1 (by kernel_rfl) h
theorem zMK:und E 47=some (.slice 3):=by kernel_rfl
theorem znQ:zC8 E 47=some 3:=by kernel_rfl
theorem zXe{b o len c k:Nat}(h:k<len):zV E 47 (some (.slice (some ⟨b,o,none⟩) len c)) (some (iI (k:Int)))=some (.pointer (some ⟨b,o+k*1,none⟩)):=zAA zMK (by kernel_rfl) h
theorem zV0:und E 54=some (.array 2 3):=by kernel_rfl
theorem zsg{b o k:Nat}(h:k<2):zV E 54 (some (.pointer (some ⟨b,o,none⟩))) (some (iI (k:Int)))=some (.pointer (some ⟨b,o+k*1,none⟩)):=zPn zV0 (by kernel_rfl) h
theorem zrb:und E 82=some (.slice 25):=by kernel_rfl
theorem zhw{b o len c k:Nat}(h:k<len):zV E 82 (some (.slice (some ⟨b,o,none⟩) len c)) (some (iI (k:Int)))=some (.pointer (some ⟨b,o+k*3,none⟩)):=zAA zrb (by kernel_rfl) h
theorem zmn:und E 83=some (.slice 32):=by kernel_rfl
theorem zxB{b o len c k:Nat}(h:k<len):zV E 83 (some (.slice (some ⟨b,o,none⟩) len c)) (some (iI (k:Int)))=some (.pointer (some ⟨b,o+k*2,none⟩)):=zAA zmn (by kernel_rfl) h
theorem zV5:und E 126=some (.slice 128):=by kernel_rfl
theorem zpW:zC8 E 126=some 128:=by kernel_rfl
theorem zRP{b o len c k:Nat}(h:k<len):zV E 126 (some (.slice (some ⟨b,o,none⟩) len c)) (some (iI (k:Int)))=some (.pointer (some ⟨b,o+k*1,none⟩)):=zAA zV5 (by kernel_rfl) h
theorem zV4:und E 129=some (.slice 132):=by kernel_rfl
theorem zpV:zC8 E 129=some 132:=by kernel_rfl
theorem zI0{b o len c k:Nat}(h:k<len):zV E 129 (some (.slice (some ⟨b,o,none⟩) len c)) (some (iI (k:Int)))=some (.pointer (some ⟨b,o+k*1,none⟩)):=zAA zV4 (by kernel_rfl) h
theorem zIO:und E 132=some (.slice 134):=by kernel_rfl
theorem zpU:zC8 E 132=some 134:=by kernel_rfl
theorem zD8{b o len c k:Nat}(h:k<len):zV E 132 (some (.slice (some ⟨b,o,none⟩) len c)) (some (iI (k:Int)))=some (.pointer (some ⟨b,o+k*2,none⟩)):=zAA zIO (by kernel_rfl) h
theorem zg8:zAW E 3=some 1:=by kernel_rfl
theorem zAE:tAS E 3=some (false,1):=by kernel_rfl
theorem z_3:zAh E 3=some (iI 0):=by kernel_rfl
theorem zrH:zAW E 4=some 1:=by kernel_rfl
theorem zrm:tAS E 4=some (false,1):=by kernel_rfl
theorem z_4:zAh E 4=some (.bool false):=by kernel_rfl
theorem zwB:zAW E 22=some 1:=by kernel_rfl
theorem zF4:tAS E 22=some (false,1):=by kernel_rfl
theorem zwA:zAW E 23=some 1:=by kernel_rfl
theorem zEF:tAS E 23=some (false,1):=by kernel_rfl
theorem z_23:zAh E 23=some (.slice none 0 0):=by kernel_rfl
theorem zre:zAW E 25=some 3:=by kernel_rfl
theorem zBT:tAS E 25=some (true,3):=by kernel_rfl
theorem zvI:zAh E 25=some (.agg #[(iI 0),(.slice none 0 0),(.slice none 0 0)]):=by kernel_rfl
theorem zhQ:zAW E 26=some 1:=by kernel_rfl
theorem zEc:tAS E 26=some (false,1):=by kernel_rfl
theorem zoL:zAW E 32=some 2:=by kernel_rfl
theorem zD1:tAS E 32=some (true,2):=by kernel_rfl
theorem zSo:zAh E 32=some (.agg #[(iI 0),(.slice none 0 0)]):=by kernel_rfl
theorem zD0:tAS E 34=some (false,1):=by kernel_rfl
theorem zoK:zAW E 36=some 2:=by kernel_rfl
theorem zC7:tAS E 36=some (true,2):=by kernel_rfl
theorem zrU:zAh E 36=some (.agg #[(iI 0),(.slice none 0 0)]):=by kernel_rfl
theorem zoJ:zAW E 52=some 3:=by kernel_rfl
theorem zMQ:tAS E 52=some (true,3):=by kernel_rfl
theorem zmk:zAh E 52=some (.agg #[(iI 0),(iI 0),(iI 0)]):=by kernel_rfl
theorem zV6:zAW E 54=some 2:=by kernel_rfl
theorem zLL:tAS E 54=some (true,2):=by kernel_rfl
theorem zvH:zAh E 54=some (.agg #[(iI 0),(iI 0)]):=by kernel_rfl
theorem zrr:tAS E 109=some (false,1):=by kernel_rfl
theorem zrk:zAW E 112=some 3:=by kernel_rfl
theorem zmt:tAS E 112=some (true,3):=by kernel_rfl
theorem zrV:zAh E 112=some (.agg #[.nilFunc,.nilFunc,(.string ⟨#[]⟩)]):=by kernel_rfl
theorem zrj:zAW E 113=some 9:=by kernel_rfl
theorem zrp:tAS E 113=some (true,9):=by kernel_rfl
theorem zv3:zAh E 113=some (.agg #[.nilFunc,.nilFunc,(.string ⟨#[]⟩),.nilFunc,.nilFunc,(.string ⟨#[]⟩),.nilFunc,.nilFunc,(.string ⟨#[]⟩)]):=by kernel_rfl
theorem zCU:tAS E 128=some (false,1):=by kernel_rfl
theorem zri:zAW E 129=some 1:=by kernel_rfl
theorem zEh:tAS E 129=some (false,1):=by kernel_rfl
theorem zQk:zAW E 132=some 1:=by kernel_rfl
theorem zC3:tAS E 132=some (false,1):=by kernel_rfl
theorem zn9:zAh E 132=some (.slice none 0 0):=by kernel_rfl
theorem zJu:zAW E 134=some 2:=by kernel_rfl
theorem zEg:tAS E 134=some (true,2):=by kernel_rfl
theorem zO6:zAh E 134=some (.agg #[(iI 0),(iI 0)]):=by kernel_rfl
theorem zMM:zAW E 173=some 3:=by kernel_rfl
theorem zCl:tAS E 173=some (true,3):=by kernel_rfl
theorem zhK:zAh E 173=some (.agg #[(iI 0),(iI 0),(.slice none 0 0)]):=by kernel_rfl
theorem zMS:tAS E 174=some (false,1):=by kernel_rfl
theorem zQj:zAW E 176=some 3:=by kernel_rfl
theorem zMR:tAS E 176=some (true,3):=by kernel_rfl
theorem zn7:zAh E 176=some (.agg #[(.pointer none),(.pointer none),(.map none)]):=by kernel_rfl
theorem zmr:tAS E 178=some (true,3):=by kernel_rfl
theorem zv2:zAh E 197=some (.agg #[(.slice none 0 0)]):=by kernel_rfl
theorem zrf:zAW E 247=some 1:=by kernel_rfl
theorem zmp:tAS E 247=some (false,1):=by kernel_rfl
theorem zvz:zAh E 247=some .nilFunc:=by kernel_rfl
theorem zvy:zAh E 306=some (.agg #[(iI 0),(iI 0)]):=by kernel_rfl
theorem zGU{b o:Nat}:zX E 306 1 (some (.pointer (some ⟨b,o,none⟩)))=some (.pointer (some ⟨b,o+1,none⟩)):=by kernel_rfl
theorem zID{b o:Nat}:zX E 306 0 (some (.pointer (some ⟨b,o,none⟩)))=some (.pointer (some ⟨b,o+0,none⟩)):=by kernel_rfl
theorem zGX{b o:Nat}:zX E 173 1 (some (.pointer (some ⟨b,o,none⟩)))=some (.pointer (some ⟨b,o+1,none⟩)):=by kernel_rfl
theorem zGY{b o:Nat}:zX E 173 0 (some (.pointer (some ⟨b,o,none⟩)))=some (.pointer (some ⟨b,o+0,none⟩)):=by kernel_rfl
theorem zRY{b o:Nat}:zX E 197 0 (some (.pointer (some ⟨b,o,none⟩)))=some (.pointer (some ⟨b,o+0,none⟩)):=by kernel_rfl
theorem zBB{b o:Nat}:zX E 134 1 (some (.pointer (some ⟨b,o,none⟩)))=some (.pointer (some ⟨b,o+1,none⟩)):=by kernel_rfl
theorem zDn{b o:Nat}:zX E 134 0 (some (.pointer (some ⟨b,o,none⟩)))=some (.pointer (some ⟨b,o+0,none⟩)):=by kernel_rfl
theorem zLr{b o:Nat}:zX E 176 1 (some (.pointer (some ⟨b,o,none⟩)))=some (.pointer (some ⟨b,o+1,none⟩)):=by kernel_rfl
theorem zh3{b o:Nat}:zX E 112 0 (some (.pointer (some ⟨b,o,none⟩)))=some (.pointer (some ⟨b,o+0,none⟩)):=by kernel_rfl
theorem zRZ{b o:Nat}:zX E 176 0 (some (.pointer (some ⟨b,o,none⟩)))=some (.pointer (some ⟨b,o+0,none⟩)):=by kernel_rfl
theorem zEN{b o:Nat}:zX E 178 0 (some (.pointer (some ⟨b,o,none⟩)))=some (.pointer (some ⟨b,o+0,none⟩)):=by kernel_rfl
theorem zBo{b o:Nat}:zX E 52 2 (some (.pointer (some ⟨b,o,none⟩)))=some (.pointer (some ⟨b,o+2,none⟩)):=by kernel_rfl
theorem zCe{b o:Nat}:zX E 52 1 (some (.pointer (some ⟨b,o,none⟩)))=some (.pointer (some ⟨b,o+1,none⟩)):=by kernel_rfl
theorem zDU{b o:Nat}:zX E 52 0 (some (.pointer (some ⟨b,o,none⟩)))=some (.pointer (some ⟨b,o+0,none⟩)):=by kernel_rfl
theorem zCj{b o:Nat}:zX E 131 0 (some (.pointer (some ⟨b,o,none⟩)))=some (.pointer (some ⟨b,o+0,none⟩)):=by kernel_rfl
theorem zGW{b o:Nat}:zX E 176 2 (some (.pointer (some ⟨b,o,none⟩)))=some (.pointer (some ⟨b,o+2,none⟩)):=by kernel_rfl
theorem zAZ{b o:Nat}:zX E 32 1 (some (.pointer (some ⟨b,o,none⟩)))=some (.pointer (some ⟨b,o+1,none⟩)):=by kernel_rfl
theorem zDV{b o:Nat}:zX E 32 0 (some (.pointer (some ⟨b,o,none⟩)))=some (.pointer (some ⟨b,o+0,none⟩)):=by kernel_rfl
theorem zAf{b o:Nat}:zX E 173 2 (some (.pointer (some ⟨b,o,none⟩)))=some (.pointer (some ⟨b,o+2,none⟩)):=by kernel_rfl
theorem zBp{b o:Nat}:zX E 36 0 (some (.pointer (some ⟨b,o,none⟩)))=some (.pointer (some ⟨b,o+0,none⟩)):=by kernel_rfl
theorem zCL{b o:Nat}:zX E 36 1 (some (.pointer (some ⟨b,o,none⟩)))=some (.pointer (some ⟨b,o+1,none⟩)):=by kernel_rfl
theorem zA0{b o:Nat}:zX E 25 1 (some (.pointer (some ⟨b,o,none⟩)))=some (.pointer (some ⟨b,o+1,none⟩)):=by kernel_rfl
theorem zA7{b o:Nat}:zX E 25 2 (some (.pointer (some ⟨b,o,none⟩)))=some (.pointer (some ⟨b,o+2,none⟩)):=by kernel_rfl
theorem zAP{b o:Nat}:zX E 25 0 (some (.pointer (some ⟨b,o,none⟩)))=some (.pointer (some ⟨b,o+0,none⟩)):=by kernel_rfl
attribute [local irreducible] EvO Ev gdB gdW PI veq BrK zGG zAz zAJ zw zh zA4 zAc zDg z6 zAT zDP zBl zX zV zAX zb zAy zC4 zAm zAM zg zAG zu zCk zDs zAs zy zc zAh AH.new one E undef cst cs
variable {s:Bool} {K:KF} {h:AH} {a:Option Addr} {n c:Nat} {b d e f g i j k l m o p q r t u w x y z A B C D F G J L M N O Q S U V W X Y Z v v0 v1 v2 v3 v4 v5 v6 v7 v8 v9 v10 v11 v12 v13 v14 v16 v17 v18 v19 v22 v23 v24 v25 v26 v27 v29 v30 v31 v32 v34 v35 v36 v50 v51 v52 v56 v57 v58 v64 v65 v66:Value} {h1:AH} {Rp:Value->AH->Prop}
def B14:Code:=zW Tryz.f14
def C14(s:Bool):Cx:=⟨E,s,none,B14,lvs B14 [[0],[0],[0,3],[3,8,9,10],[3,8,9,10],[3,5,8,9,10],[],[3,5,8,9,10],[3,8,9,10,30,31,32],[3,8,9,10,30,31,32],[3,7,8,9,10,30,31,32],[],[3,8,9,10,30,31,32],[3,8,9,10],[]],[2],[]⟩
abbrev zxp(s:Bool)(K:KF)(d e f b:Value)(h:AH):Prop:=PI (C14 s) K 3 [d,e,f,b] h
abbrev zxo(s:Bool)(K:KF)(h:AH):Prop:=PI (C14 s) K 6 [] h
abbrev zxn(s:Bool)(K:KF)(g i j b d e f:Value)(h:AH):Prop:=PI (C14 s) K 8 [g,i,j,b,d,e,f] h
def zll:=pt (C14 s) B14 K 0 [b] h
def zlk:=pt (C14 s) B14 K 1 [b] h
def zlj:=pt (C14 s) B14 K 2 [b,d] h
def zXL:=zAb B14 [1,1,0,0] 1 8
def zSd:=pt (C14 s) B14 K 3 [d,e,f,b] h
def zli:=pt (C14 s) B14 K 4 [d,e,f,b] h
def zlh:=pt (C14 s) B14 K 5 [d,e,f,g,b] h
def zXK:=zAb B14 [1,1,0,1,0,0,1,1,0,0,1,0,0] 6 19
def zTb:=zAb B14 [1,1,0,1,0,0,1,1,0,0,1,0,0] 12 25
def zlg:=pt (C14 s) B14 K 6 [] h
def zlf:=pt (C14 s) B14 K 7 [d,e,f,g,b] h
def zXJ:=zAb B14 [1,1,0,1,0,0,1,1,0,0,1,1,0] 2 30
def zSc:=pt (C14 s) B14 K 8 [g,i,j,b,d,e,f] h
def zle:=pt (C14 s) B14 K 9 [g,i,j,b,d,e,f] h
def zdr:=pt (C14 s) B14 K 10 [g,i,j,k,b,d,e,f] h
def zdq:=pt (C14 s) B14 K 11 [] h
def zdp:=pt (C14 s) B14 K 12 [g,i,j,b,d,e,f] h
def zdo:=pt (C14 s) B14 K 13 [d,e,f,b] h
def zdn:=pt (C14 s) B14 K 14 [] h
def zgU:=zCK C14 14 [.tmp 2] 0 [b] [b] Tryz.f14
def B15:Code:=zW Tryz.f15
def C15(s:Bool):Cx:=⟨E,s,none,B15,lvs B15 [[0,1,2],[3,4,5],[3,4,5,7],[7],[3,4,5],[3,4,5,8],[8],[3,4,5],[],[]],[6],[]⟩
def zld:=pt (C15 s) B15 K 0 [b,d,e] h
def zlc:=pt (C15 s) B15 K 1 [b,d,e] h
def zlb:=pt (C15 s) B15 K 2 [b,d,e,f] h
def zla:=pt (C15 s) B15 K 3 [b] h
def zlZ:=pt (C15 s) B15 K 4 [b,d,e] h
def zlY:=pt (C15 s) B15 K 5 [b,d,e,f] h
def zlX:=pt (C15 s) B15 K 6 [b] h
def zlW:=pt (C15 s) B15 K 7 [b,d,e] h
def zlV:=pt (C15 s) B15 K 8 [] h
def zlU:=pt (C15 s) B15 K 9 [] h
def zmG:=zz C15 15 [.tmp 6] 0 [b,d,e] [b,d,e] Tryz.f15
def B69:Code:=zW Tryz.f69
def C69(s:Bool):Cx:=⟨E,s,none,B69,lvs B69 [[0,1,2],[0,1,2],[1,2,9,10,11],[1,2,9,10,11],[1,2,8,9,10,11],[1,2,8,9,10,11],[],[1,2,9,10,11],[]],[6],[]⟩
abbrev zxl(s:Bool)(K:KF)(e f g b d:Value)(h:AH):Prop:=PI (C69 s) K 2 [e,f,g,b,d] h
abbrev zxk(s:Bool)(K:KF)(h:AH):Prop:=PI (C69 s) K 6 [] h
def zSH:=pt (C69 s) B69 K 0 [b,d,e] h
def zSG:=pt (C69 s) B69 K 1 [b,d,e] h
def zMw:=zAb B69 [1,0,0] 1 9
def zL9:=pt (C69 s) B69 K 2 [e,f,g,b,d] h
def zkP:=pt (C69 s) B69 K 3 [e,f,g,b,d] h
def zkO:=pt (C69 s) B69 K 4 [e,f,g,i,b,d] h
def zkN:=pt (C69 s) B69 K 5 [e,f,g,i,b,d] h
def zSF:=pt (C69 s) B69 K 6 [] h
def zkM:=pt (C69 s) B69 K 7 [e,f,g,b,d] h
def zSE:=pt (C69 s) B69 K 8 [] h
def zl4:=zz C69 69 [.tmp 6] 0 [b,d,e] [b,d,e] Tryz.f69
def zl3:=zDR C69 69 [.tmp 6] 0 [b,d,e] [b,d,e] Tryz.f69
def B70:Code:=zW Tryz.f70
def C70(s:Bool):Cx:=⟨E,s,none,B70,lvs B70 [[0],[0],[5,6,7],[5,6,7],[4,5,6,7],[],[5,6,7],[]],[2],[]⟩
abbrev zxj(s:Bool)(K:KF)(b d e:Value)(h:AH):Prop:=PI (C70 s) K 2 [b,d,e] h
def zkL:=pt (C70 s) B70 K 0 [b] h
def zkK:=pt (C70 s) B70 K 1 [b] h
def zXG:=zAb B70 [1,0,0] 1 5
def zSD:=pt (C70 s) B70 K 2 [b,d,e] h
def zkJ:=pt (C70 s) B70 K 3 [b,d,e] h
def zkI:=pt (C70 s) B70 K 4 [b,d,e,f] h
def zkH:=pt (C70 s) B70 K 5 [] h
def zkG:=pt (C70 s) B70 K 6 [b,d,e] h
def zkF:=pt (C70 s) B70 K 7 [] h
def zl0:=zz C70 70 [.tmp 2] 0 [b] [b] Tryz.f70
def B71:Code:=zW Tryz.f71
def C71(s:Bool):Cx:=⟨E,s,none,B71,lvs B71 [[0],[0],[7,8,9],[7,8,9],[4,7,8,9],[],[4,7,8,9],[],[4,7,8,9],[4,7,8,9,22,23,24],[4,7,8,9,22,23,24],[4,5,6,7,8,9,22,23,24],[],[4,7,8,9,22,23,24],[7,8,9],[]],[2],[]⟩
abbrev zxi(s:Bool)(K:KF)(b d e:Value)(h:AH):Prop:=PI (C71 s) K 2 [b,d,e] h
abbrev zxh(s:Bool)(K:KF)(f g i j b d e:Value)(h:AH):Prop:=PI (C71 s) K 9 [f,g,i,j,b,d,e] h
abbrev zuC(s:Bool)(K:KF)(h:AH):Prop:=PI (C71 s) K 12 [] h
abbrev zuB(s:Bool)(K:KF)(f g i j b d e:Value)(h:AH):Prop:=PI (C71 s) K 13 [f,g,i,j,b,d,e] h
def zkE:=pt (C71 s) B71 K 0 [b] h
def zkD:=pt (C71 s) B71 K 1 [b] h
def zXF:=zAb B71 [1,0,0] 1 7
def zSC:=pt (C71 s) B71 K 2 [b,d,e] h
def zkC:=pt (C71 s) B71 K 3 [b,d,e] h
def zkB:=pt (C71 s) B71 K 4 [b,d,e,f] h
def zkA:=pt (C71 s) B71 K 5 [] h
def zj9:=pt (C71 s) B71 K 6 [b,d,e,f] h
def zXE:=zAb B71 [1,0,1,0,0,1,1,0,0,1,1,0,0] 2 18
def zj8:=pt (C71 s) B71 K 7 [] h
def zj7:=pt (C71 s) B71 K 8 [b,d,e,f] h
def zXD:=zAb B71 [1,0,1,0,0,1,1,0,0,1,1,1,0] 2 22
def zSB:=pt (C71 s) B71 K 9 [f,g,i,j,b,d,e] h
def zZb:=pt (C71 s) B71 K 10 [f,g,i,j,b,d,e] h
def zZa:=pt (C71 s) B71 K 11 [f,g,i,j,k,l,b,d,e] h
def zZZ:=pt (C71 s) B71 K 12 [] h
def zZY:=pt (C71 s) B71 K 13 [f,g,i,j,b,d,e] h
def zZX:=pt (C71 s) B71 K 14 [b,d,e] h
def zZW:=pt (C71 s) B71 K 15 [] h
def zlz:=zz C71 71 [.tmp 2] 0 [b] [b] Tryz.f71
def B72:Code:=zW Tryz.f72
def C72(s:Bool):Cx:=⟨E,s,none,B72,lvs B72 [[0,1,2],[3,4,5],[3,4,5,7],[3,4,5,8],[3,4,5,8,25,26,27],[3,4,5,8,25,26,27],[3,4,5,8,10,25,26,27],[],[3,4,5,8,10,25,26,27],[3,4,5,8,25,26,27],[5,8],[8,11]],[6],[]⟩
abbrev zxg(s:Bool)(K:KF)(b d e f:Value)(h:AH):Prop:=PI (C72 s) K 3 [b,d,e,f] h
abbrev zxf(s:Bool)(K:KF)(f g i j b d e:Value)(h:AH):Prop:=PI (C72 s) K 4 [f,g,i,j,b,d,e] h
abbrev zxe(s:Bool)(K:KF)(h:AH):Prop:=PI (C72 s) K 7 [] h
abbrev zuA(s:Bool)(K:KF)(b d:Value)(h:AH):Prop:=PI (C72 s) K 10 [b,d] h
abbrev znw(s:Bool)(K:KF)(d b:Value)(h:AH):Prop:=PI (C72 s) K 11 [d,b] h
def zj6:=pt (C72 s) B72 K 0 [b,d,e] h
def zj5:=pt (C72 s) B72 K 1 [b,d,e] h
def zj4:=pt (C72 s) B72 K 2 [b,d,e,f] h
def zj3:=pt (C72 s) B72 K 3 [b,d,e,f] h
def zXC:=zAb B72 [1,1,1,0,0] 2 25
def zSA:=pt (C72 s) B72 K 4 [f,g,i,j,b,d,e] h
def zj2:=pt (C72 s) B72 K 5 [f,g,i,j,b,d,e] h
def zj1:=pt (C72 s) B72 K 6 [g,i,j,k,b,d,e,f] h
def zj0:=pt (C72 s) B72 K 7 [] h
def zjz:=pt (C72 s) B72 K 8 [g,i,j,k,b,d,e,f] h
def zjy:=pt (C72 s) B72 K 9 [f,g,i,j,b,d,e] h
def zZV:=pt (C72 s) B72 K 10 [b,d] h
def zZU:=pt (C72 s) B72 K 11 [d,b] h
def zly:=zz C72 72 [.tmp 6] 0 [b,d,e] [b,d,e] Tryz.f72
def B79:Code:=zW Tryz.f79
def C79(s:Bool):Cx:=⟨E,s,none,B79,lvs B79 [[],[0]],[0],[]⟩
def zjt:=pt (C79 s) B79 K 0 [] h
def zjs(H :
 EvO (zAT E 112 (some [(0,(.func (.func 128) #[] #[])),(1,(.func (.func 129) #[] #[])),(2,(.string ⟨#[115,116,114,111,110,103]⟩))])) λ d=>
 EvO (zAT E 112 (some [(0,(.func (.func 130) #[] #[])),(1,(.func (.func 131) #[] #[])),(2,(.string ⟨#[98,114,97,110,99,104,105,110,103]⟩))])) λ e=>
 EvO (zAT E 113 (some [(1,d),(2,e)])) λ f=>
 Ev s (zAM E 113 h b f) λ g=>
 K .ret [b] g.2):PI (C79 s) K 1 [b] h:=zCC H
def zfs:=zDv C79 79 [.cell 0 113] 0 [] [] Tryz.f79
def B90:Code:=zW Tryz.f90
def C90(s:Bool):Cx:=⟨E,s,none,B90,lvs B90 [[0],[0],[0,3],[0,3,17,18,19],[0,3,17,18,19],[0,3,5,17,18,19],[0,3,17,18,19,24,25,26],[0,3,17,18,19,24,25,26],[0,3,7,17,18,19,24,25,26],[0,3,17,18,19,24,25,26],[0,3,17,18,19],[0,3],[0,3,8],[3,8,34,35,36],[3,8,34,35,36],[3,8,10,34,35,36],[3,8,10,11,34,35,36],[3,8,10,11,12,34,35,36],[3,8,10,11,12,34,35,36,50,51,52],[3,8,10,11,12,34,35,36,50,51,52],[3,8,10,11,12,13,14,34,35,36,50,51,52],[3,8,10,11,12,34,35,36,50,51,52],[3,8,10,11,12,34,35,36],[3,8,11,12,34,35,36,64,65,66],[3,8,11,12,34,35,36,64,65,66],[3,8,11,12,16,34,35,36,64,65,66],[3,8,11,12,34,35,36,64,65,66],[3,8,11,34,35,36],[3,8,34,35,36],[8]],[2],[]⟩
abbrev zxX(s:Bool)(K:KF)(f g b d e:Value)(h:AH):Prop:=PI (C90 s) K 3 [f,g,b,d,e] h
abbrev zxW(s:Bool)(K:KF)(j k b d e f g i:Value)(h:AH):Prop:=PI (C90 s) K 6 [j,k,b,d,e,f,g,i] h
abbrev zt4(s:Bool)(K:KF)(b d:Value)(h:AH):Prop:=PI (C90 s) K 11 [b,d] h
abbrev zt3(s:Bool)(K:KF)(f g b d e:Value)(h:AH):Prop:=PI (C90 s) K 13 [f,g,b,d,e] h
abbrev zt2(s:Bool)(K:KF)(m o b d e f g i j k l:Value)(h:AH):Prop:=PI (C90 s) K 18 [m,o,b,d,e,f,g,i,j,k,l] h
abbrev zt1(s:Bool)(K:KF)(j k b d e f g i:Value)(h:AH):Prop:=PI (C90 s) K 22 [j,k,b,d,e,f,g,i] h
abbrev zt0(s:Bool)(K:KF)(l m b d e f g i j k:Value)(h:AH):Prop:=PI (C90 s) K 23 [l,m,b,d,e,f,g,i,j,k] h
abbrev ztz(s:Bool)(K:KF)(g i b d e f:Value)(h:AH):Prop:=PI (C90 s) K 27 [g,i,b,d,e,f] h
def zjF:=pt (C90 s) B90 K 0 [b] h
def zjE:=pt (C90 s) B90 K 1 [b] h
def zjD:=pt (C90 s) B90 K 2 [b,d] h
def zW5:=zAb B90 [1,1,0,0] 1 17
def zR5:=pt (C90 s) B90 K 3 [f,g,b,d,e] h
def zjC:=pt (C90 s) B90 K 4 [f,g,b,d,e] h
def zjB:=pt (C90 s) B90 K 5 [f,g,i,b,d,e] h
def zW4:=zAb B90 [1,1,0,1,0,0,1,1,0,0,1,0] 2 24
def zR4:=pt (C90 s) B90 K 6 [j,k,b,d,e,f,g,i] h
def zjA:=pt (C90 s) B90 K 7 [j,k,b,d,e,f,g,i] h
def zi9:=pt (C90 s) B90 K 8 [j,k,l,b,d,e,f,g,i] h
def zi8:=pt (C90 s) B90 K 9 [j,k,b,d,e,f,g,i] h
def zZK:=pt (C90 s) B90 K 10 [f,g,b,d,e] h
def zZJ:=pt (C90 s) B90 K 11 [b,d] h
def zZI:=pt (C90 s) B90 K 12 [b,d,e] h
def zTF:=zAb B90 [1,1,1,1,0,0] 1 34
def zNi:=pt (C90 s) B90 K 13 [f,g,b,d,e] h
def zZH:=pt (C90 s) B90 K 14 [f,g,b,d,e] h
def zZG:=pt (C90 s) B90 K 15 [g,i,b,d,e,f] h
def zZF:=pt (C90 s) B90 K 16 [i,j,b,d,e,f,g] h
def zTE:=zAb B90 [1,1,1,1,0,1,0,0,1,1,0,0,1,1,0] 2 46
def zZE:=pt (C90 s) B90 K 17 [j,k,b,d,e,f,g,i] h
def zTD:=zAb B90 [1,1,1,1,0,1,0,0,1,1,0,0,1,1,1,0,0] 2 50
def zNh:=pt (C90 s) B90 K 18 [m,o,b,d,e,f,g,i,j,k,l] h
def zZD:=pt (C90 s) B90 K 19 [m,o,b,d,e,f,g,i,j,k,l] h
def zZC:=pt (C90 s) B90 K 20 [p,q,b,d,e,f,g,i,j,k,l,m,o] h
def zZB:=pt (C90 s) B90 K 21 [m,o,b,d,e,f,g,i,j,k,l] h
def zZA:=pt (C90 s) B90 K 22 [j,k,b,d,e,f,g,i] h
def zTC:=zAb B90 [1,1,1,1,0,1,0,0,1,1,0,0,1,1,1,1,0,0] 2 64
def zNg:=pt (C90 s) B90 K 23 [l,m,b,d,e,f,g,i,j,k] h
def zY9:=pt (C90 s) B90 K 24 [l,m,b,d,e,f,g,i,j,k] h
def zY8:=pt (C90 s) B90 K 25 [m,o,b,d,e,f,g,i,j,k,l] h
def zY7:=pt (C90 s) B90 K 26 [l,m,b,d,e,f,g,i,j,k] h
def zY6:=pt (C90 s) B90 K 27 [g,i,b,d,e,f] h
def zY5:=pt (C90 s) B90 K 28 [f,g,b,d,e] h
def zY4:=pt (C90 s) B90 K 29 [b] h
def zlr:=zDR C90 90 [.tmp 2] 0 [b] [b] Tryz.f90
def B94:Code:=zW Tryz.f94
def C94(s:Bool):Cx:=⟨E,s,none,B94,lvs B94 [[0,1],[0,1],[0,1,5],[0,1,5,6],[6],[],[],[0,1,6],[],[0,1],[],[0,1],[],[]],[4],[]⟩
def ziw:=pt (C94 s) B94 K 0 [b,d] h
def ziv:=pt (C94 s) B94 K 1 [b,d] h
def ziu:=pt (C94 s) B94 K 2 [b,d,e] h
def zit:=pt (C94 s) B94 K 3 [b,d,e,f] h
def zis:=pt (C94 s) B94 K 7 [b,d,e] h
def zir:=pt (C94 s) B94 K 9 [b,d] h
def zY3:=pt (C94 s) B94 K 10 [] h
def zY2:=pt (C94 s) B94 K 11 [b,d] h
def zY1:=pt (C94 s) B94 K 12 [] h
def zY0:=pt (C94 s) B94 K 13 [] h
def zlp:=zz C94 94 [.tmp 4] 0 [b,d] [b,d] Tryz.f94
def zvw:Code:=zW Tryz.f105
def zyH(s:Bool):Cx:=⟨E,s,none,zvw,lvs zvw [[0],[0]],[2],[]⟩
def zfB:=pt (zyH s) zvw K 0 [b] h
def zfA:=pt (zyH s) zvw K 1 [b] h
def zgm:=zz zyH 105 [.tmp 2] 0 [b] [b] Tryz.f105
def zIK:Code:=zW Tryz.f121
def zHj(s:Bool):Cx:=⟨E,s,none,zIK,lvs zIK [[0],[1],[],[1],[1,29,30,31],[1,29,30,31],[1,3,4,29,30,31],[],[1,29,30,31],[1],[1,5],[1,5,56,57,58],[1,5,56,57,58],[1,5,6,7,56,57,58],[],[1,5,56,57,58],[]],[2],[]⟩
abbrev zu2(s:Bool)(K:KF)(h:AH):Prop:=PI (zHj s) K 2 [] h
abbrev zu1(s:Bool)(K:KF)(b:Value)(h:AH):Prop:=PI (zHj s) K 3 [b] h
abbrev zu0(s:Bool)(K:KF)(f b d e:Value)(h:AH):Prop:=PI (zHj s) K 4 [f,b,d,e] h
abbrev zuz(s:Bool)(K:KF)(h:AH):Prop:=PI (zHj s) K 7 [] h
abbrev zuy(s:Bool)(K:KF)(f b d e:Value)(h:AH):Prop:=PI (zHj s) K 8 [f,b,d,e] h
abbrev zqu(s:Bool)(K:KF)(f g b d e:Value)(h:AH):Prop:=PI (zHj s) K 11 [f,g,b,d,e] h
abbrev zqt(s:Bool)(K:KF)(h:AH):Prop:=PI (zHj s) K 14 [] h
abbrev zqs(s:Bool)(K:KF)(f g b d e:Value)(h:AH):Prop:=PI (zHj s) K 15 [f,g,b,d,e] h
def zez:=pt (zHj s) zIK K 0 [b] h
def zey:=pt (zHj s) zIK K 1 [b] h
def zPg:=zAb zIK [1,0,0] 11 18
def zPf:=zAb zIK [1,0,0] 17 24
def zex:=pt (zHj s) zIK K 2 [] h
def zew:=pt (zHj s) zIK K 3 [b] h
def zTg:=zAb zIK [1,1,0,0] 2 29
def zOa:=pt (zHj s) zIK K 4 [f,b,d,e] h
def zev:=pt (zHj s) zIK K 5 [f,b,d,e] h
def zeu:=pt (zHj s) zIK K 6 [f,g,i,b,d,e] h
def zet:=pt (zHj s) zIK K 7 [] h
def zes:=pt (zHj s) zIK K 8 [f,b,d,e] h
def zer:=pt (zHj s) zIK K 9 [b] h
def zUl:=pt (zHj s) zIK K 10 [b,d] h
def zPh:=zAb zIK [1,1,1,1,0,0] 2 56
def zK5:=pt (zHj s) zIK K 11 [f,g,b,d,e] h
def zUk:=pt (zHj s) zIK K 12 [f,g,b,d,e] h
def zUj:=pt (zHj s) zIK K 13 [f,g,i,j,b,d,e] h
def zM0:=zAb zIK [1,1,1,1,0,1,0,0,1,1,0,0,1,0] 22 84
def zUi:=pt (zHj s) zIK K 14 [] h
def zUh:=pt (zHj s) zIK K 15 [f,g,b,d,e] h
def zUg:=pt (zHj s) zIK K 16 [] h
def zgj:=zz zHj 121 [.tmp 2] 0 [b] [b] Tryz.f121
def zvu:Code:=zW Tryz.f122
def zyF(s:Bool):Cx:=⟨E,s,none,zvu,lvs zvu [[0,1],[2,3]],[4],[]⟩
def zeq:=pt (zyF s) zvu K 0 [b,d] h
def zep:=pt (zyF s) zvu K 1 [b,d] h
def zgi:=zz zyF 122 [.tmp 4] 0 [b,d] [b,d] Tryz.f122
def zvt:Code:=zW Tryz.f123
def zyE(s:Bool):Cx:=⟨E,s,none,zvt,lvs zvt [[0,1,2],[1,2,3]],[6],[]⟩
def zeo:=pt (zyE s) zvt K 0 [b,d,e] h
def zen:=pt (zyE s) zvt K 1 [b,d,e] h
def zgh:=zz zyE 123 [.tmp 6] 0 [b,d,e] [b,d,e] Tryz.f123
def zSn:Code:=zW Tryz.f124
def zSi(s:Bool):Cx:=⟨E,s,none,zSn,lvs zSn [[0,1],[2,3],[2,3,11],[2,3,11],[2,3,5,11],[2,3,5,11,25,26,27],[2,3,5,11,25,26,27],[2,3,5,7,11,25,26,27],[],[2,3,5,11,25,26,27],[]],[4],[]⟩
abbrev zux(s:Bool)(K:KF)(d e b:Value)(h:AH):Prop:=PI (zSi s) K 2 [d,e,b] h
abbrev zuw(s:Bool)(K:KF)(g i j b d e f:Value)(h:AH):Prop:=PI (zSi s) K 5 [g,i,j,b,d,e,f] h
def zem:=pt (zSi s) zSn K 0 [b,d] h
def zel:=pt (zSi s) zSn K 1 [b,d] h
def zOZ:=pt (zSi s) zSn K 2 [d,e,b] h
def zek:=pt (zSi s) zSn K 3 [d,e,b] h
def zej:=pt (zSi s) zSn K 4 [d,e,f,b] h
def zPe:=zAb zSn [1,0,1,0,0,1,1,0,1,0] 10 25
def zOY:=pt (zSi s) zSn K 5 [g,i,j,b,d,e,f] h
def zei:=pt (zSi s) zSn K 6 [g,i,j,b,d,e,f] h
def zeh:=pt (zSi s) zSn K 7 [g,i,j,k,b,d,e,f] h
def zeg:=pt (zSi s) zSn K 8 [] h
def zef:=pt (zSi s) zSn K 9 [g,i,j,b,d,e,f] h
def zUf:=pt (zSi s) zSn K 10 [] h
def zgg:=zz zSi 124 [.tmp 4] 0 [b,d] [b,d] Tryz.f124
def zyI:Code:=zW Tryz.f125
def zOr(s:Bool):Cx:=⟨E,s,none,zyI,lvs zyI [[0],[1,2],[1,2,3],[2,3,13],[2,3,13],[2,3,4,13],[2,3]],[2],[]⟩
abbrev zuv(s:Bool)(K:KF)(d e b:Value)(h:AH):Prop:=PI (zOr s) K 3 [d,e,b] h
def znv(s:Bool)(K:KF)(v0:Value)(h:AH):Prop:=
 Ev s (zAm 176 h v0) λ x0=>
 Ev s (zAm 176 x0.2 (zAh E 176)) λ x1=>
 PI (zOr s) K 1 [x0.1,x1.1] x1.2
def zee(H:znv s K b h):PI (zOr s) K 0 [b] h:=zCC H
def znu(s:Bool)(K:KF)(v1 v2:Value)(h:AH):Prop:=
 EvO (zX E 176 1 v1) λ x0=>
 EvO (zb E 128 h x0) λ x1=>
 EvO (zX E 176 0 v1) λ x2=>
 EvO (zb E 128 h x2) λ x3=>
 Ev s (one ((.map (some (h).qa):Value),(h).new (.map [] 0))) λ x4=>
 EvO (zAT E 176 (some [(0,x1),(1,x3),(2,x4.1)])) λ x5=>
 Ev s (zAm 176 x4.2 (zAh E 176)) λ x6=>
 Ev s (zAM E 176 x6.2 x6.1 x5) λ x7=>
 PI (zOr s) K 2 [v1,v2,x6.1] x7.2
def zed(H:znu s K b d h):PI (zOr s) K 1 [b,d] h:=zCC H
def znt(s:Bool)(K:KF)(v1 v2 v3:Value)(h:AH):Prop:=
 EvO (zX E 176 2 v1) λ x0=>
 EvO (zb E 174 h x0) λ x1=>
 Ev s (zCk x1 h) λ x2=>
 PI (zOr s) K 3 [v2,v3,x2.1] x2.2
def zec(H:znt s K b d e h):PI (zOr s) K 2 [b,d,e] h:=zCC H
def zYy(s:Bool)(K:KF)(v2 v3 v13:Value)(h:AH):Prop:=
 Ev s (zDs false v13 h) λ x0=>
 EvO (z6 0 x0.1) λ x1=>
 BrK x1 (PI (zOr s) K 4 [v2,v3,v13] x0.2) (PI (zOr s) K 6 [v2,v3] x0.2)
def zOX(H:zYy s K d e b h):PI (zOr s) K 3 [d,e,b] h:=zCC H
def zns(s:Bool)(K:KF)(v2 v3 v13:Value)(h:AH):Prop:=
 EvO (zC4 v13 h) λ x0=>
 EvO (z6 0 x0) λ x1=>
 Ev s (zAm 54 h (zAh E 54)) λ x2=>
 Ev s (zAM E 54 x2.2 x2.1 x1) λ x3=>
 PI (zOr s) K 5 [v2,v3,x2.1,v13] x3.2
def zeb(H:zns s K d e b h):PI (zOr s) K 4 [d,e,b] h:=zCC H
def znr(s:Bool)(K:KF)(v2 v3 v4 v13:Value)(h:AH):Prop:=
 EvO (zX E 176 2 v3) λ x0=>
 EvO (zb E 174 h x0) λ x1=>
 EvO (zV E 54 v4 (some (iI 1))) λ x2=>
 EvO (zb E 3 h x2) λ x3=>
 EvO (zV E 54 v4 (some (iI 0))) λ x4=>
 EvO (zb E 3 h x4) λ x5=>
 EvO (zAT E 54 (some [(0,x3),(1,x5)])) λ x6=>
 Ev s (zu E 174 x1 x6 (some (.bool true)) h) λ x7=>
 PI (zOr s) K 3 [v2,v3,v13] x7.2
def zea(H:znr s K d e f b h):PI (zOr s) K 5 [d,e,f,b] h:=zCC H
def znq(s:Bool)(K:KF)(v2 v3:Value)(h:AH):Prop:=
 EvO (zb E 176 h v3) λ x0=>
 Ev s (zAM E 176 h v2 x0) λ x1=>
 K .ret [v2] x1.2
def zeZ(H:znq s K b d h):PI (zOr s) K 6 [b,d] h:=zCC H
theorem zq6(H:PI (zOr s) (KR E [.cell 2 176] Rp) 0 [v0] h):EvC E s Tryz.f125 [v0] h Rp:=zHp (zOr s) H
theorem zmY:E.tab.fn.get 125=some Tryz.f125:=by kernel_rfl
theorem zgf:Tryz.f125.body=some zyI:=by kernel_rfl
theorem zmX(l:List Value)(h:AH):E.sum 125 l h=none:=by kernel_rfl
def zvs:Code:=zW Tryz.f128
def zyD(s:Bool):Cx:=⟨E,s,none,zvs,lvs zvs [[0,2,3],[2,4,7]],[8],[]⟩
def zeR:=pt (zyD s) zvs K 0 [b,d,e] h
def zeQ:=pt (zyD s) zvs K 1 [b,d,e] h
def zgd:=zz zyD 128 [.tmp 8] 0 [b,d,e] [b,f,d,e] Tryz.f128
def zn6:Code:=zW Tryz.f130
theorem zmW:E.tab.fn.get 130=some Tryz.f130:=by kernel_rfl
theorem zgb:Tryz.f130.body=some zn6:=by kernel_rfl
theorem zmV(l:List Value)(h:AH):E.sum 130 l h=none:=by kernel_rfl
def zmj:Code:=zW Tryz.f143
def zVQ(s:Bool):Cx:=⟨E,s,none,zmj,lvs zmj [[0,1],[0,3],[],[0,3],[0,3,5,6],[0,3,5],[5]],[4],[]⟩
abbrev znz(s:Bool)(K:KF)(b d:Value)(h:AH):Prop:=PI (zVQ s) K 0 [b,d] h
abbrev zul(s:Bool)(K:KF)(b d:Value)(h:AH):Prop:=PI (zVQ s) K 1 [b,d] h
abbrev zuk(s:Bool)(K:KF)(b d e f:Value)(h:AH):Prop:=PI (zVQ s) K 4 [b,d,e,f] h
abbrev zuj(s:Bool)(K:KF)(b:Value)(h:AH):Prop:=PI (zVQ s) K 6 [b] h
def zdw:=pt (zVQ s) zmj K 0 [b,d] h
def zOO:=pt (zVQ s) zmj K 1 [b,d] h
def zdv:=pt (zVQ s) zmj K 2 [] h
def zdu:=pt (zVQ s) zmj K 3 [b,d] h
def zON:=pt (zVQ s) zmj K 4 [b,d,e,f] h
def zdt:=pt (zVQ s) zmj K 5 [b,d,e] h
def zds:=pt (zVQ s) zmj K 6 [b] h
def zK8:=zDv zVQ 143 [.tmp 4] 0 [b,d] [b,d] Tryz.f143
def zgV:=zDR zVQ 143 [.tmp 4] 0 [b,d] [b,d] Tryz.f143
def zvp:Code:=zW Tryz.f154
def zyA(s:Bool):Cx:=⟨E,s,none,zvp,lvs zvp [[0],[0]],[2],[]⟩
def zdi:=pt (zyA s) zvp K 0 [b] h
def zdh:=pt (zyA s) zvp K 1 [b] h
def zgT:=zz zyA 154 [.tmp 2] 0 [b] [b] Tryz.f154
def zmi:Code:=zW Tryz.f167
def zmf(s:Bool):Cx:=⟨E,s,none,zmi,lvs zmi [[0],[1],[1,3],[],[]],[2],[]⟩
abbrev zui(s:Bool)(K:KF)(b d:Value)(h:AH):Prop:=PI (zmf s) K 2 [b,d] h
abbrev zuh(s:Bool)(K:KF)(h:AH):Prop:=PI (zmf s) K 3 [] h
abbrev zug(s:Bool)(K:KF)(h:AH):Prop:=PI (zmf s) K 4 [] h
def zdK:=pt (zmf s) zmi K 0 [b] h
def zdJ:=pt (zmf s) zmi K 1 [b] h
def zdI:=pt (zmf s) zmi K 2 [b,d] h
def zEK:=zAb zmi [1,1,0,0] 11 22
def zFn:=zAb zmi [1,1,0,0] 19 30
def zdH:=pt (zmf s) zmi K 3 [] h
def zdG:=pt (zmf s) zmi K 4 [] h
def zgN:=zz zmf 167 [.tmp 2] 0 [b] [b] Tryz.f167
def zvn:Code:=zW Tryz.f168
def zx7(s:Bool):Cx:=⟨E,s,none,zvn,lvs zvn [[0,1],[2,3]],[4],[]⟩
def zdF:=pt (zx7 s) zvn K 0 [b,d] h
def zdE:=pt (zx7 s) zvn K 1 [b,d] h
def zgM:=zz zx7 168 [.tmp 4] 0 [b,d] [b,d] Tryz.f168
def zvm:Code:=zW Tryz.f169
def zx6(s:Bool):Cx:=⟨E,s,none,zvm,lvs zvm [[0,1],[0,1]],[4],[]⟩
def zdD:=pt (zx6 s) zvm K 0 [b,d] h
def zdC:=pt (zx6 s) zvm K 1 [b,d] h
def zgL:=zz zx6 169 [.tmp 4] 0 [b,d] [b,d] Tryz.f169
def zvl:Code:=zW Tryz.f170
def zx5(s:Bool):Cx:=⟨E,s,none,zvl,lvs zvl [[0,1],[2,3]],[4],[]⟩
def zdB:=pt (zx5 s) zvl K 0 [b,d] h
def zdA:=pt (zx5 s) zvl K 1 [b,d] h
def zgK:=zz zx5 170 [.tmp 4] 0 [b,d] [b,d] Tryz.f170
def zVp:Code:=zW Tryz.f171
def zgw(s:Bool):Cx:=⟨E,s,none,zVp,lvs zVp [[0],[0],[0,3],[3,6,7,8],[3,6,7,8],[3,5,6,7,8],[5],[3,6,7,8],[3]],[2],[]⟩
abbrev zuf(s:Bool)(K:KF)(b d e f:Value)(h:AH):Prop:=PI (zgw s) K 3 [b,d,e,f] h
def zc9:=pt (zgw s) zVp K 0 [b] h
def zc8:=pt (zgw s) zVp K 1 [b] h
def zc7:=pt (zgw s) zVp K 2 [b,d] h
def zTY:=zAb zVp [1,1,0,0] 1 6
def zOJ:=pt (zgw s) zVp K 3 [b,d,e,f] h
def zc6:=pt (zgw s) zVp K 4 [b,d,e,f] h
def zc5:=pt (zgw s) zVp K 5 [b,d,e,f,g] h
def zc4:=pt (zgw s) zVp K 6 [b] h
def zc3:=pt (zgw s) zVp K 7 [b,d,e,f] h
def zc2:=pt (zgw s) zVp K 8 [b] h
def zgJ:=zz zgw 171 [.tmp 2] 0 [b] [b] Tryz.f171
def zvk:Code:=zW Tryz.f173
def zx4(s:Bool):Cx:=⟨E,s,none,zvk,lvs zvk [[0,1],[0,1]],[4],[]⟩
def zc1:=pt (zx4 s) zvk K 0 [b,d] h
def zc0:=pt (zx4 s) zvk K 1 [b,d] h
def zgI:=zz zx4 173 [.tmp 4] 0 [b,d] [b,d] Tryz.f173
def zvj:Code:=zW Tryz.f174
def zx3(s:Bool):Cx:=⟨E,s,none,zvj,lvs zvj [[0,1,2],[1,2,3]],[4],[]⟩
def zcz:=pt (zx3 s) zvj K 0 [b,d,e] h
def zcy:=pt (zx3 s) zvj K 1 [b,d,e] h
def zgH:=zz zx3 174 [.tmp 4] 0 [b,d,e] [b,d,e] Tryz.f174
def zvh:Code:=zW Tryz.f178
def zx1(s:Bool):Cx:=⟨E,s,none,zvh,lvs zvh [[0,1],[2,3]],[4],[]⟩
def zco:=pt (zx1 s) zvh K 0 [b,d] h
def zcn:=pt (zx1 s) zvh K 1 [b,d] h
def zgD:=zDR zx1 178 [.tmp 4] 0 [b,d] [b,d] Tryz.f178
def zSl:Code:=zW Tryz.f190
def zgv(s:Bool):Cx:=⟨E,s,none,zSl,lvs zSl [[0,1,2],[0,2,4],[0,2,4,8],[0,2,4,8,9,10],[0,2,4,8,9,10],[0,2,4,8,9,10,11],[0,2,4,8,10,11],[0,2,4,8,9,11],[0,2,4,8,9]],[6,7],[]⟩
abbrev zub(s:Bool)(K:KF)(d e f g i b:Value)(h:AH):Prop:=PI (zgv s) K 3 [d,e,f,g,i,b] h
def zcP:=pt (zgv s) zSl K 0 [b,d,e] h
def zcO:=pt (zgv s) zSl K 1 [b,d,e] h
def zTT:=zAb zSl [1,0] 1 12
def zcN:=pt (zgv s) zSl K 2 [b,d,e,f] h
def zN9:=pt (zgv s) zSl K 3 [d,e,f,g,i,b] h
def zcM:=pt (zgv s) zSl K 4 [d,e,f,g,i,b] h
def zcL:=pt (zgv s) zSl K 5 [e,f,g,i,j,b,d] h
def zcK:=pt (zgv s) zSl K 6 [e,f,g,i,b,d] h
def zcJ:=pt (zgv s) zSl K 7 [d,e,f,g,i,b] h
def zYx(s:Bool)(K:KF)(v0 v2 v4 v8 v9:Value)(h:AH):Prop:=
 EvO (zAJ E .lss 3 v9 v8) λ x3=>
 EvO (gdB x3 true v2) λ x5=>
 EvO (gdB x3 true v0) λ x6=>
 EvO (gdB x3 true v9) λ x7=>
 EvO (gdB x3 true (zV E 22 x6 x7)) λ x8=>
 EvO (gdB x3 true (zb E 36 h x8)) λ x9=>
 EvO (gdB x3 true (zb E 36 h v4)) λ x10=>
 Ev s (gdW x3 true (zAs (zc E) x5 [x9,x10] h) h) λ x11=>
 EvO (gdB x3 true (zAJ E .eql 3 x11.1 (iI 0))) λ x12=>
 EvO (zGG x3 x12 (some (.bool false))) λ x13=>
 K .ret [v9,x13] x11.2
def zN8(H:zYx s K b d e f g h):PI (zgv s) K 8 [b,d,e,f,g] h:=zCC H
def zVJ:=zCK zgv 190 [.tmp 6,.tmp 7] 0 [b,d,e] [b,d,e] Tryz.f190
def zVc:Code:=zW Tryz.f191
def zhG(s:Bool):Cx:=⟨E,s,none,zVc,lvs zVc [[0,1,2],[0,1,2],[0,1,2],[0,1,2,7],[0],[0,1,2,7],[0,1,2,7,8],[0,2],[0,1,2,7,8],[0,1,2,7,8],[0,1,2,7,9],[0,1,7,9],[9],[0,1,2,7,8],[0,1,2,7,8],[0,1,2,7],[0,1,2],[0],[0,1,2,7,8],[0,1,7],[0]],[6],[]⟩
abbrev zua(s:Bool)(K:KF)(b d e:Value)(h:AH):Prop:=PI (zhG s) K 0 [b,d,e] h
def zcI:=pt (zhG s) zVc K 0 [b,d,e] h
def zcH:=pt (zhG s) zVc K 1 [b,d,e] h
def zcG:=pt (zhG s) zVc K 2 [b,d,e] h
def zTS:=zAb zVc [1,1,0] 1 13
def zcF:=pt (zhG s) zVc K 3 [b,d,e,f] h
def zcE:=pt (zhG s) zVc K 5 [b,d,e,f] h
def zTR:=zAb zVc [1,1,1,1,0] 1 18
def zcD:=pt (zhG s) zVc K 6 [b,d,e,f,g] h
def zcC:=pt (zhG s) zVc K 7 [b,d] h
theorem zq5(H:PI (zhG s) (KR E [.tmp 6] Rp) 0 [v0,v1,v2] h):EvC E s Tryz.f191 [v0,v1,v2] h Rp:=zHp (zhG s) H
theorem zSg:E.tab.fn.get 191=some Tryz.f191:=by kernel_rfl
theorem zOn:Tryz.f191.body=some zVc:=by kernel_rfl
def zvf:Code:=zW Tryz.f215
def zxy(s:Bool):Cx:=⟨E,s,none,zvf,lvs zvf [[0,1],[0,1]],[4],[]⟩
def zcB:=pt (zxy s) zvf K 0 [b,d] h
def zcA:=pt (zxy s) zvf K 1 [b,d] h
def zf9:=zz zxy 215 [.tmp 4] 0 [b,d] [b,d] Tryz.f215
def zve:Code:=zW Tryz.f216
def zxx(s:Bool):Cx:=⟨E,s,none,zve,lvs zve [[0],[1]],[2],[]⟩
def zb9:=pt (zxx s) zve K 0 [b] h
def zb8:=pt (zxx s) zve K 1 [b] h
def zf8:=zz zxx 216 [.tmp 2] 0 [b] [b] Tryz.f216
def zmh:Code:=zW Tryz.f217
def zn2(s:Bool):Cx:=⟨E,s,none,zmh,lvs zmh [[0],[1],[1,3],[],[1],[1,5],[1,5]],[2],[]⟩
def zb7:=pt (zn2 s) zmh K 0 [b] h
def zb6:=pt (zn2 s) zmh K 1 [b] h
def zb5:=pt (zn2 s) zmh K 2 [b,d] h
def zb4:=pt (zn2 s) zmh K 3 [] h
def zb3:=pt (zn2 s) zmh K 4 [b] h
def zb2:=pt (zn2 s) zmh K 5 [b,d] h
def zb1:=pt (zn2 s) zmh K 6 [b,d] h
def zf7:=zz zn2 217 [.tmp 2] 0 [b] [b] Tryz.f217
def zvd:Code:=zW Tryz.f218
def zxw(s:Bool):Cx:=⟨E,s,none,zvd,lvs zvd [[0,1,2],[0,1,2]],[6],[]⟩
def zb0:=pt (zxw s) zvd K 0 [b,d,e] h
def zbz:=pt (zxw s) zvd K 1 [b,d,e] h
def zf6:=zz zxw 218 [.tmp 6] 0 [b,d,e] [b,d,e] Tryz.f218
def zmg:Code:=zW Tryz.f219
def zn1(s:Bool):Cx:=⟨E,s,none,zmg,lvs zmg [[0,1],[2,3],[2,3,5],[5],[2,3]],[4],[]⟩
abbrev zuZ(s:Bool)(K:KF)(b:Value)(h:AH):Prop:=PI (zn1 s) K 3 [b] h
abbrev zuY(s:Bool)(K:KF)(b d:Value)(h:AH):Prop:=PI (zn1 s) K 4 [b,d] h
def zby:=pt (zn1 s) zmg K 0 [b,d] h
def zbx:=pt (zn1 s) zmg K 1 [b,d] h
def zPb:=zAb zmg [1,0,0] 12 17
def zPa:=zAb zmg [1,0,0] 15 20
def zbw:=pt (zn1 s) zmg K 2 [b,d,e] h
def zbv:=pt (zn1 s) zmg K 3 [b] h
def zbu:=pt (zn1 s) zmg K 4 [b,d] h
def zf5:=zz zn1 219 [.tmp 4] 0 [b,d] [b,d] Tryz.f219
def zg2:Code:=zW Tryz.f220
def zgu(s:Bool):Cx:=⟨E,s,none,zg2,lvs zg2 [[0,1],[0,1],[0,1,7,8],[0,1,7,8],[0,1,5,7,8],[5],[0,1,7,8],[]],[4],[]⟩
abbrev znx(s:Bool)(K:KF)(b d e f:Value)(h:AH):Prop:=PI (zgu s) K 2 [b,d,e,f] h
def zJQ:=pt (zgu s) zg2 K 0 [b,d] h
def zJP:=pt (zgu s) zg2 K 1 [b,d] h
def zFM:=zAb zg2 [1,0,0] 1 6
def zE4:=pt (zgu s) zg2 K 2 [b,d,e,f] h
def zN7:=pt (zgu s) zg2 K 3 [b,d,e,f] h
def zN6:=pt (zgu s) zg2 K 4 [b,d,e,f,g] h
def zN5:=pt (zgu s) zg2 K 5 [b] h
def zN4:=pt (zgu s) zg2 K 6 [b,d,e,f] h
def zJO:=pt (zgu s) zg2 K 7 [] h
def zOm:=zz zgu 220 [.tmp 4] 0 [b,d] [b,d] Tryz.f220
def zVI:=zDv zgu 220 [.tmp 4] 0 [b,d] [b,d] Tryz.f220
def zg1:Code:=zW Tryz.f243
def zhF(s:Bool):Cx:=⟨E,s,none,zg1,lvs zg1 [[0,1],[0,1],[0,1,7,8],[0,1,7,8],[0,1,5,7,8],[5],[0,1,7,8],[]],[4],[]⟩
abbrev zuP(s:Bool)(K:KF)(b d e f:Value)(h:AH):Prop:=PI (zhF s) K 2 [b,d,e,f] h
def zbV:=pt (zhF s) zg1 K 0 [b,d] h
def zbU:=pt (zhF s) zg1 K 1 [b,d] h
def zKG:=zAb zg1 [1,0,0] 1 6
def zNu:=pt (zhF s) zg1 K 2 [b,d,e,f] h
def zbT:=pt (zhF s) zg1 K 3 [b,d,e,f] h
def zbS:=pt (zhF s) zg1 K 4 [b,d,e,f,g] h
def zbR:=pt (zhF s) zg1 K 5 [b] h
def zbQ:=pt (zhF s) zg1 K 6 [b,d,e,f] h
def zbP:=pt (zhF s) zg1 K 7 [] h
def zf2:=zz zhF 243 [.tmp 4] 0 [b,d] [b,d] Tryz.f243
def zn3:Code:=zW Tryz.f244
def zrA(s:Bool):Cx:=⟨E,s,none,zn3,lvs zn3 [[0],[1],[1,4],[4],[],[4]],[2,3],[]⟩
def zbO:=pt (zrA s) zn3 K 0 [b] h
def zbN:=pt (zrA s) zn3 K 1 [b] h
def zbM:=pt (zrA s) zn3 K 2 [b,d] h
def zbL:=pt (zrA s) zn3 K 3 [b] h
def zbK:=pt (zrA s) zn3 K 4 [] h
def zbJ:=pt (zrA s) zn3 K 5 [b] h
def zVE:=zDv zrA 244 [.tmp 2,.tmp 3] 0 [b] [b] Tryz.f244
def zvE:Code:=zW Tryz.f245
def zxv(s:Bool):Cx:=⟨E,s,none,zvE,lvs zvE [[0,1],[1,2]],[3],[]⟩
def zbI:=pt (zxv s) zvE K 0 [b,d] h
def zbH:=pt (zxv s) zvE K 1 [b,d] h
def zIs:=zAb zvE [1,0] 16 19
def zf1:=zz zxv 245 [.tmp 3] 0 [b,d] [b,d] Tryz.f245
def zvc:Code:=zW Tryz.f246
def zxu(s:Bool):Cx:=⟨E,s,none,zvc,lvs zvc [[0,1],[1,2]],[3],[]⟩
def zbG:=pt (zxu s) zvc K 0 [b,d] h
def zbF:=pt (zxu s) zvc K 1 [b,d] h
def zf0:=zz zxu 246 [.tmp 3] 0 [b,d] [b,d] Tryz.f246
def zLB:Code:=zW Tryz.f247
def zOz(s:Bool):Cx:=⟨E,s,none,zLB,lvs zLB [[0,1,2],[0,1,2],[0,1,2,11,12,13],[0,1,2,11,12,13],[0,1,2,7,8,11,12,13],[],[0,1,2,7,8,11,12,13],[0,1,2,8,9,11,12,13],[0,1,2,10,11,12,13],[10],[0,1,2,11,12,13],[0,1],[],[]],[6],[]⟩
abbrev zuO(s:Bool)(K:KF)(f g i b d e:Value)(h:AH):Prop:=PI (zOz s) K 2 [f,g,i,b,d,e] h
def zbE:=pt (zOz s) zLB K 0 [b,d,e] h
def zbD:=pt (zOz s) zLB K 1 [b,d,e] h
def zTQ:=zAb zLB [1,0,0] 1 11
def zNt:=pt (zOz s) zLB K 2 [f,g,i,b,d,e] h
def zbC:=pt (zOz s) zLB K 3 [f,g,i,b,d,e] h
def zbB:=pt (zOz s) zLB K 4 [f,g,i,j,k,b,d,e] h
def zTP:=zAb zLB [1,0,1,0,0,1,1,0,0,1,0,0] 2 19
def zbA:=pt (zOz s) zLB K 5 [] h
def za9:=pt (zOz s) zLB K 6 [f,g,i,j,k,b,d,e] h
def za8:=pt (zOz s) zLB K 7 [f,g,i,j,k,b,d,e] h
def za7:=pt (zOz s) zLB K 8 [g,i,j,b,d,e,f] h
def za6:=pt (zOz s) zLB K 9 [b] h
def zT7:=pt (zOz s) zLB K 10 [f,g,i,b,d,e] h
def zT6:=pt (zOz s) zLB K 11 [b,d] h
def zPY:=zAb zLB [1,1,0,0] 1 34
def zPX:=zAb zLB [1,1,0,0] 3 36
def zT5:=pt (zOz s) zLB K 12 [] h
def zT4:=pt (zOz s) zLB K 13 [] h
def zfz:=zz zOz 247 [.tmp 6] 0 [b,d,e] [b,d,e] Tryz.f247
def zVb:Code:=zW Tryz.f268
def zVn(s:Bool):Cx:=⟨E,s,none,zVb,lvs zVb [[0,1,2],[0,2,4],[0,2,4],[0,2,4],[0,2,25,26,27],[0,2,25,26,27],[0,2,7,25,26,27],[0,2,7,25,26,27],[0,2,25,26,27]],[],[]⟩
abbrev zuN(s:Bool)(K:KF)(f g b d e:Value)(h:AH):Prop:=PI (zVn s) K 4 [f,g,b,d,e] h
abbrev zuM(s:Bool)(K:KF)(f g i b d e:Value)(h:AH):Prop:=PI (zVn s) K 7 [f,g,i,b,d,e] h
def za0:=pt (zVn s) zVb K 0 [b,d,e] h
def zaz:=pt (zVn s) zVb K 1 [b,d,e] h
def zay:=pt (zVn s) zVb K 2 [b,d,e] h
def zax:=pt (zVn s) zVb K 3 [b,d,e] h
def zTO:=zAb zVb [1,1,1,0] 2 25
def zaw:=pt (zVn s) zVb K 4 [f,g,b,d,e] h
def zav:=pt (zVn s) zVb K 5 [f,g,b,d,e] h
def zau:=pt (zVn s) zVb K 6 [f,g,i,b,d,e] h
def zat:=pt (zVn s) zVb K 7 [f,g,i,b,d,e] h
def zas:=pt (zVn s) zVb K 8 [f,g,b,d,e] h
def zfy:=zDR zVn 268 [] 0 [b,d,e] [b,d,e] Tryz.f268
def zva:Code:=zW Tryz.f269
def zxs(s:Bool):Cx:=⟨E,s,none,zva,lvs zva [[0],[0]],[2],[]⟩
def zar:=pt (zxs s) zva K 0 [b] h
def zaq:=pt (zxs s) zva K 1 [b] h
def zfx:=zz zxs 269 [.tmp 2] 0 [b] [b] Tryz.f269
def B3:Code:=zW Tryz.f3
end Go.Proofs
namespace Go.Proofs
open Go Go.Proofs Go.AM
attribute [local irreducible] EvO Ev gdB gdW PI veq BrK zGG zAz zAJ zw zh zA4 zAc zDg z6 zAT zDP zBl zX zV zAX zb zAy zC4 zAm zAM zg zAG zu zCk zDs zAs zy zc zAh AH.new one E undef cst cs
variable {s:Bool} {K:KF} {h:AH} {a:Option Addr} {n c:Nat} {b d e f g i j k l m o p q r t u w x y z A B C D F G J L M N O Q S U V W X Y Z v v0 v1 v2 v3 v4 v5 v6 v7 v8 v9 v15 v36 v37 v38:Value} {h1:AH} {Rp:Value->AH->Prop}
def zOs:Code:=zW Tryz.f222
def zJd(s:Bool):Cx:=⟨E,s,none,zOs,lvs zOs [[0,1,2],[0,1,2,4],[0,2,4,5],[0,2,4,5,6],[0,2,4,5,6],[0,2,4,5,6],[0,2,4,5,6,36,37,38],[0,2,4,5,6,36,37,38],[0,2,4,5,6,8,36,37,38],[0,2,4,5,6,8,36,37,38],[0,2,4,5,6,8,36,37,38],[0,2,4,5,6,36,37,38],[0,2,4,5,6]],[],[]⟩
abbrev zuX(s:Bool)(K:KF)(b d e f g:Value)(h:AH):Prop:=PI (zJd s) K 3 [b,d,e,f,g] h
abbrev zuW(s:Bool)(K:KF)(b d e f g:Value)(h:AH):Prop:=PI (zJd s) K 4 [b,d,e,f,g] h
abbrev zuV(s:Bool)(K:KF)(f g i j k b d e:Value)(h:AH):Prop:=PI (zJd s) K 6 [f,g,i,j,k,b,d,e] h
abbrev zqn(s:Bool)(K:KF)(f g i j k b d e:Value)(h:AH):Prop:=PI (zJd s) K 11 [f,g,i,j,k,b,d,e] h
def zN3:=pt (zJd s) zOs K 0 [b,d,e] h
def zN2:=pt (zJd s) zOs K 1 [b,d,e,f] h
def zN1:=pt (zJd s) zOs K 2 [b,d,e,f] h
def zGi:=pt (zJd s) zOs K 3 [b,d,e,f,g] h
def zDF:=zAb zOs [1,1,1,0,0,0,0] 2 15
def zN0:=pt (zJd s) zOs K 4 [b,d,e,f,g] h
def zNz:=pt (zJd s) zOs K 5 [b,d,e,f,g] h
def zIt:=zAb zOs [1,1,1,0,0,1,0,0,1,0] 10 36
def zGh:=pt (zJd s) zOs K 6 [f,g,i,j,k,b,d,e] h
def zNy:=pt (zJd s) zOs K 7 [f,g,i,j,k,b,d,e] h
def zNx:=pt (zJd s) zOs K 8 [f,g,i,j,k,l,b,d,e] h
def zNw:=pt (zJd s) zOs K 9 [f,g,i,j,k,l,b,d,e] h
def zK0:=pt (zJd s) zOs K 10 [f,g,i,j,k,l,b,d,e] h
def zKz:=pt (zJd s) zOs K 11 [f,g,i,j,k,b,d,e] h
def zKy:=pt (zJd s) zOs K 12 [b,d,e,f,g] h
def zOl:=zDR zJd 222 [] 0 [b,d,e] [b,d,e] Tryz.f222
def zQd:Code:=sub zn6 [0]
def zVY(s:Bool):Cx:=⟨E,s,none,zQd,lvs zQd [[0,1,2,3]],[2,4,5,7,8],[]⟩
def zUe:=pt (zVY s) zQd K 0 [b,d,e,f] h
theorem zmU{s:Bool}{v0 v1 v2 v3:Value}{T:Tm}{h:AH}{K:KF}(hT:∀ x∈[(0,v0),(1,v1),(2,v2),(3,v3)],T.get x.1=x.2)(H:PI (zVY s) K 0 [v0,v1,v2,v3] h) :
 Ev s (evC E (zc E) none zQd ⟨T,h,[]⟩) (zJm (zVY s ) K):=
 zBh (C:=zVY s ) (by kernel_rfl) (by kernel_rfl) hT ((by kernel_rfl:zDY (zVY s ) K 30 (rs zQd 60 (.at [])) (zAc [(0,v0),(1,v1),(2,v2),(3,v3)]) h=(PI (zVY s) K 0 [v0,v1,v2,v3] h)).mpr H)
def zOv:Code:=sub zn6 [1,0,0]
def zVX(s:Bool):Cx:=⟨E,s,none,zOv,lvs zOv [[2,4,5,7,8]],[4,5,7,8,14],[]⟩
def zUd:=pt (zVX s) zOv K 0 [b,d,e,f,g] h
theorem zmT{s:Bool}{v2 v4 v5 v7 v8:Value}{T:Tm}{h:AH}{K:KF}(hT:∀ x∈[(2,v2),(4,v4),(5,v5),(7,v7),(8,v8)],T.get x.1=x.2)(H:PI (zVX s) K 0 [v2,v4,v5,v7,v8] h) :
 Ev s (evC E (zc E) none zOv ⟨T,h,[]⟩) (zJm (zVX s ) K):=
 zBh (C:=zVX s ) (by kernel_rfl) (by kernel_rfl) hT ((by kernel_rfl:zDY (zVX s ) K 30 (rs zOv 60 (.at [])) (zAc [(2,v2),(4,v4),(5,v5),(7,v7),(8,v8)]) h=(PI (zVX s) K 0 [v2,v4,v5,v7,v8] h)).mpr H)
def zFz:Code:=zmz (sub zn6 [1,0,1,0])
def zMA(s:Bool)(ll:Nat):Cx:=⟨E,s,some ll,zFz,lvs zFz [[4,5,7,8,9],[8]],[],[]⟩
abbrev zqr(s:Bool)(ll:Nat)(K:KF)(v8:Value)(h:AH):Prop:=PI (zMA s ll) K 1 [v8] h
def zUc{ll:Nat}:=pt (zMA s ll) zFz K 0 [b,d,e,f,g] h
def zUb{ll:Nat}:=pt (zMA s ll) zFz K 1 [b] h
theorem zmS{s:Bool}{ll:Nat}{v4 v5 v7 v8 v9:Value}{T:Tm}{h:AH}{K:KF}(hT:∀ x∈[(4,v4),(5,v5),(7,v7),(8,v8),(9,v9)],T.get x.1=x.2)(H:PI (zMA s ll) K 0 [v4,v5,v7,v8,v9] h) :
 Ev s (evC E (zc E) (some ll) zFz ⟨T,h,[]⟩) (zJm (zMA s ll ) K):=
 zBh (C:=zMA s ll ) (by kernel_rfl) (by kernel_rfl) hT ((by kernel_rfl:zDY (zMA s ll ) K 30 (rs zFz 60 (.at [])) (zAc [(4,v4),(5,v5),(7,v7),(8,v8),(9,v9)]) h=(PI (zMA s ll) K 0 [v4,v5,v7,v8,v9] h)).mpr H)
def zHL:Code:=zyL (sub zn6 [1,0,1,0])
def zVW(s:Bool)(ll:Nat):Cx:=⟨E,s,some ll,zHL,lvs zHL [[4,5,7,8,15]],[4,5,7,8,9],[]⟩
def zUa{ll:Nat}:=pt (zVW s ll) zHL K 0 [d,e,f,g,b] h
theorem zmR{s:Bool}{ll:Nat}{v4 v5 v7 v8 v15:Value}{T:Tm}{h:AH}{K:KF}(hT:∀ x∈[(4,v4),(5,v5),(7,v7),(8,v8),(15,v15)],T.get x.1=x.2)(H:PI (zVW s ll) K 0 [v4,v5,v7,v8,v15] h) :
 Ev s (evC E (zc E) (some ll) zHL ⟨T,h,[]⟩) (zJm (zVW s ll ) K):=
 zBh (C:=zVW s ll ) (by kernel_rfl) (by kernel_rfl) hT ((by kernel_rfl:zDY (zVW s ll ) K 30 (rs zHL 60 (.at [])) (zAc [(4,v4),(5,v5),(7,v7),(8,v8),(15,v15)]) h=(PI (zVW s ll) K 0 [v4,v5,v7,v8,v15] h)).mpr H)
def zQc:Code:=sub zn6 [1,1,0]
def zQY(s:Bool)(K:KF)(v8:Value)(h:AH):Prop:=
 Ev s (zAM E 4 h v8 (some (.bool false))) λ x0=>
 K .normal [v8] x0.2
end Go.Proofs
namespace Go.Proofs
open Go Go.Proofs Go.AM
theorem zrc:und E 49=some (.slice 23):=by kernel_rfl
theorem zsy:zC8 E 49=some 23:=by kernel_rfl
theorem zsh{b o len c k:Nat}(h:k<len):zV E 49 (some (.slice (some ⟨b,o,none⟩) len c)) (some (iI (k:Int)))=some (.pointer (some ⟨b,o+k*1,none⟩)):=zAA zrc (by kernel_rfl) h
theorem zv9:zAW E 47=some 1:=by kernel_rfl
theorem zhR:tAS E 47=some (false,1):=by kernel_rfl
theorem zyJ:zAh E 47=some (.slice none 0 0):=by kernel_rfl
end Go.Proofs
