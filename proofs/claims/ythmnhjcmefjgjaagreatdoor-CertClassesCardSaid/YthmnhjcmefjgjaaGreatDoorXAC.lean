import Derived.OrdersIn
import Derived.RangeFuncLeaves
import Derived.Test.YthmnhjcmefjgjaaGreatDoorXAB
set_option linter.all false
set_option linter.unusedSectionVars false
set_option autoImplicit true
set_option relaxedAutoImplicit true
set_option maxRecDepth 100000
set_option maxHeartbeats 1000000
noncomputable section
namespace Go.AM
open Go Go.Proofs Go.RowKit
theorem zFx(m i:Nat):zCo m i=m.testBit i:=by
 unfold zCo Nat.testBit;show Nat.beq ((m >>> i) &&& 1) 1=(1 &&& (m >>> i) != 0);rw[Nat.and_comm 1];rw[Nat.and_one_is_mod];rcases Nat.mod_two_eq_zero_or_one (m >>> i) with h|h <;> rw[h] <;> rfl
theorem zKe(a b j:Nat):(Nat.lor a b).testBit j=(a.testBit j||b.testBit j):=Nat.testBit_or a b j
theorem zPf(a b j:Nat):(Nat.land a b).testBit j=(a.testBit j&&b.testBit j):=Nat.testBit_and a b j
theorem zNo(k j:Nat):(2 ^ k).testBit j=decide (k=j):=Nat.testBit_two_pow
theorem zAP(m i j:Nat):(zCK m i).testBit j=(m.testBit j||decide (i=j)):=by
 unfold zCK;rw[zKe,zNo]
theorem zD8:∀(es:List Edge) (j:Nat),(zDI es).testBit j=true ↔ ∃ e∈es,Region.binds .any e=true/\e.on=j
 | [],j=>by simp[zDI]
 | e::es,j=>by
  simp only[zDI];cases hb:Region.binds .any e with
  | true=>
   simp only[xAG];rw[zKe,Bool.or_eq_true,zNo,zD8 es j];simp only[decide_eq_true_eq,xAQ,exists_eq_or_imp,hb,true_and]
  | false=>
   simp only[xAH];rw[zD8 es j];simp only[xAQ,exists_eq_or_imp,hb,Bool.false_eq_true,false_and,false_or]
theorem zPV:∀(l:List Nat) (k:Nat),zQ2 l k=l[k]?.getD 0
 | [],k=>by simp[zQ2]
 | a::l,0=>rfl
 | a::l,k+1=>by simp[zQ2,zPV l k]
theorem zEE(acc:List Nat):∀(es:List Edge) (j:Nat),(zDM acc es).testBit j=true ↔ ∃ e∈es,Region.binds .any e=true/\(e.on=j\/(zQ2 acc e.on).testBit j=true)
 | [],j=>by simp[zDM]
 | e::es,j=>by
  simp only[zDM];cases hb:Region.binds .any e with
  | true=>
   simp only[xAG];rw[zKe,zKe,Bool.or_eq_true,Bool.or_eq_true,zNo,zEE acc es j];simp only[decide_eq_true_eq,xAQ,exists_eq_or_imp,hb,true_and]
  | false=>
   simp only[xAH];rw[zEE acc es j];simp only[xAQ,exists_eq_or_imp,hb,Bool.false_eq_true,false_and,false_or]
theorem zFn(p:PO)(done:Nat):zBk p done=true ↔ ∀ j,p.dep.testBit j=true->done.testBit j=true:=by
 unfold zBk;rw[beq_true];constructor
 ·intro h j hj;have:=congrArg (fun m=>m.testBit j) h;simp only[zPf,hj,Bool.true_and] at this;exact this
 ·intro h;apply Nat.eq_of_testBit_eq;intro j;rw[zPf];cases hj:p.dep.testBit j with
  | true=>rw[h j hj];rfl
  | false=>rfl
structure zQJ(total:List PO)(all:List Oper)(k:Nat)(p:PO):Prop where
 i:p.i=k
 o:all[k]?=some p.o
 dep:p.dep=zDI p.o.after.toList
 db:∀ j,p.dep.testBit j=true->p.bef.testBit j=true
 bef:∀ j,p.bef.testBit j=true->∃ e∈p.o.after.toList,Region.binds .any e=true/\(e.on=j\/∃ q,total[e.on]?=some q/\q.bef.testBit j=true)
theorem zUf:∀(os:List Oper) (pre:List PO) (all:List Oper),all.drop pre.length=os->∀(k:Nat) (p:PO),pre.length<=k->(pre++prep pre.length (pre.map PO.bef) os)[k]?=some p->
  zQJ (pre++prep pre.length (pre.map PO.bef) os) all k p
 | [],pre,all,_,k,p,hk,h=>by simp[prep] at h;rw[List.getElem?_eq_none hk] at h;cases h
 | o::os,pre,all,aB,k,p,hk,h=>by
  have i8:pre++prep pre.length (pre.map PO.bef) (o::os) =
    (pre++[⟨pre.length,o,zDI o.after.toList,zDM (pre.map PO.bef) o.after.toList⟩])++prep (pre++[(⟨pre.length,o,zDI o.after.toList,zDM (pre.map PO.bef) o.after.toList⟩:PO)]).length ((pre++[(⟨pre.length,o,zDI o.after.toList,zDM (pre.map PO.bef) o.after.toList⟩:PO)]).map PO.bef) os:=by
   simp[prep]
  rcases Nat.lt_or_eq_of_le hk with ab|di
  ·rw[i8] at h ⊢;refine zUf os _ all ?_ k p (by simp;omega) h;rw[List.length_append];have:all.drop (pre.length+[(⟨pre.length,o,zDI o.after.toList,zDM (pre.map PO.bef) o.after.toList⟩:PO)].length)=(all.drop pre.length).drop 1:=by rw[List.drop_drop];rfl
   rw[this,aB];rfl
  ·subst di;simp only[prep] at h;rw[List.getElem?_append_right (xAF _)] at h;simp only[Nat.sub_self,List.getElem?_cons_zero,xAN] at h;subst h;refine⟨rfl,?_,rfl,?_,?_⟩
   ·have:=congrArg (·[0]?) aB;simpa[List.getElem?_drop] using this
   ·intro j hj;obtain⟨e,e1,e2,e3⟩:=(zD8 _ _).1 hj;exact (zEE _ _ _).2 ⟨e,e1,e2,.inl e3⟩
   ·intro j hj;rw[zEE] at hj;obtain⟨e,e1,e2,e3⟩:=hj;refine⟨e,e1,e2,e3.imp id fun e4=>?_⟩;rw[zPV,List.getElem?_map] at e4;cases hq:pre[e.on]? with
    | none=>rw[hq] at e4;simp at e4
    | some q=>
     rw[hq] at e4;exact⟨q,by rw[List.getElem?_append_left (List.getElem?_eq_some_iff.1 hq).1];exact hq,by simpa using e4⟩
theorem zFJ:∀(os:List Oper) (i:Nat) (acc:List Nat),(prep i acc os).length=os.length
 | [],_,_=>rfl
 | _::os,i,acc=>by simp[prep,zFJ os]
theorem zUh{all:List Oper}{k:Nat}{p:PO}(h:(prep 0 [] all)[k]?=some p):zQJ (prep 0 [] all) all k p:=by
 have:=zUf all [] all rfl k p (Nat.zero_le _) (by simpa using h);simpa using this
variable {E:Env} (hE:zCg E) {lo n:Nat} {F:Fence} (hF:FW F)
def Ran(L:Array Bool)(k:Nat):Prop:=L.getD k false=true
def zI2(all:List Oper)(p:PO):List Tmp:=zE6 p.o.op.operands.toList++zPo all p.o
theorem mem_tmpsOf:∀ {xs:List Operand} {t:Tmp},t∈zE6 xs ↔ Operand.tmp t∈xs
 | [],t=>by simp[zE6]
 | x::xs,t=>by cases x <;> simp[zE6,mem_tmpsOf (xs:=xs)]
theorem writes_iff{q:PO}{t:Tmp}:zBR q t=true ↔ q.o.dst=some t:=by
 unfold zBR;split
 ·rename_i d hd;rw[beq_true,hd];simp
 ·rename_i hd;rw[hd];simp
structure Reg(all:Array Oper)(ps:List PO)(n:Nat):Prop where
 prep:∀(k:Nat) (p:PO),ps[k]?=some p->zQJ ps all.toList k p
 len:ps.length=all.size
 fit:∀ o∈all.toList,zG3 n o=true
 ok:zEr all.toList ps=true
namespace Reg
variable {all:Array Oper} {ps:List PO} (R:Reg all ps n)
include R
theorem mem{p:PO}(h:p∈ps):ps[p.i]?=some p:=by
 obtain⟨k,hk⟩:=List.mem_iff_getElem?.1 h;have:=(R.prep k p hk).i;rw[this];exact hk
theorem mem_at{p:PO}(h:p∈ps):zQJ ps all.toList p.i p:=R.prep _ _ (R.mem h)
theorem inj{p q:PO}(hp:p∈ps)(hq:q∈ps)(h:p.i=q.i):p=q:=by
 have a:=R.mem hp;have b:=R.mem hq;rw[h,b] at a;cases a;rfl
theorem lt{p:PO}(h:p∈ps):p.i<all.size:=by
 rw[← R.len];exact (List.getElem?_eq_some_iff.1 (R.mem h)).1
theorem op{p:PO}(h:p∈ps):all[p.i]?=some p.o:=by rw[← Array.getElem?_toList];exact (R.mem_at h).o
theorem fits{p:PO}(h:p∈ps):zG3 n p.o=true:=R.fit _ (List.mem_of_getElem? (R.mem_at h).o)
theorem atIdx{k:Nat}(h:k<all.size):∃ p∈ps,p.i=k:=by
 rw[← R.len] at h;exact⟨ps[k],List.getElem_mem h,(R.prep k _ (xAA h)).i⟩
theorem ordered{p q:PO}(hp:p∈ps)(hq:q∈ps){t:Tmp}(ht:t∈zI2 all.toList p)(hw:zBR q t=true):p.i=q.i\/p.bef.testBit q.i=true\/q.bef.testBit p.i=true:=by
 have h:=R.ok;unfold zEr at h;have h1:=List.all_eq_true.1 h p hp;simp only[xAP,List.all_eq_true] at h1;have h2:=h1.1.1.1 t ht q hq;rw[hw] at h2;simp only[xAL,Bool.false_or,AM.ordered,Bool.or_eq_true,beq_true,zFx] at h2;rcases h2 with (h2|h2)|h2
 ·exact .inl h2
 ·exact .inr (.inl h2)
 ·exact .inr (.inr h2)
theorem dep_lt{p:PO}(hp:p∈ps){j:Nat}(hj:p.dep.testBit j=true):j<p.i:=by
 have h:=R.ok;unfold zEr at h;have h1:=List.all_eq_true.1 h p hp;simp only[xAP] at h1;have h2:=ble_true.1 h1.1.2;rcases Nat.lt_or_ge j p.i with h'|h'
 ·exact h'
 ·have:=Nat.testBit_lt_two_pow (x:=p.dep) (i:=j) (xAC (by omega:p.dep<2 ^ p.i) (Nat.pow_le_pow_right (by omega) h'));rw[hj] at this;cases this
theorem dst{p q:PO}(hp:p∈ps)(hq:q∈ps){t:Tmp}(h1:zBR p t=true)(h2:zBR q t=true):p=q:=by
 have h:=R.ok;unfold zEr at h;have h3:=(List.all_eq_true.1 h p hp);simp only[xAP] at h3;have h4:=h3.2;rw[writes_iff.1 h1] at h4;have h5:=List.all_eq_true.1 h4 q hq;rw[h2] at h5;simp only[xAL,Bool.false_or,beq_true] at h5;exact R.inj hp hq h5
theorem dep_iff{p:PO}(hp:p∈ps)(j:Nat):p.dep.testBit j=true ↔ ∃ e∈p.o.after.toList,Region.binds .any e=true/\e.on=j:=by
 rw[(R.mem_at hp).dep];exact zD8 _ _
theorem closed{S:Nat->Prop}(hS:∀ q∈ps,S q.i->∀ j,q.bef.testBit j=true->S j){p:PO}(hp:p∈ps)(hd:∀ j,p.dep.testBit j=true->S j):∀ j,p.bef.testBit j=true->S j:=by
 intro j hj;obtain⟨e,e1,e2,e3⟩:=(R.mem_at hp).bef j hj;have he:=hd e.on ((R.dep_iff hp _).2 ⟨e,e1,e2,rfl⟩);rcases e3 with rfl|⟨q,q1,q2⟩
 ·exact he
 ·have:=(R.prep _ _ q1).i;exact hS q (List.mem_of_getElem? q1) (by rw[this];exact he) j q2
end Reg
structure Pend(E:Env)(all:Array Oper)(ps:List PO)(T0 T:Tm)(rds:List Rd)(h:AH)(p:PO)(Tp:Tm):Prop where
 late:∀ t∈zI2 all.toList p,(∀ q∈ps,zBR q t=true->p.bef.testBit q.i=true->Tp.get t=T.get t)/\((∀ q∈ps,zBR q t=true->¬ p.bef.testBit q.i=true)->Tp.get t=T0.get t)
 val:∃ b v,zC6 p.o all.toList Tp=some b/\(b=false->v=undef)/\(b=true->zDH E Tp p.o h=some v/\(∀ c,cls p.o.op=c->c=.read->(⟨p.i,Tp,p.o,v⟩:Rd)∈rds))/\∀ d,p.o.dst=some d->T.get d=v
structure DI(E:Env)(n lo:Nat)(all:Array Oper)(ps:List PO)(T0:Tm)(defs:List Nat)(σ:Sg)(T:Tm)(done:Nat)(rds:List Rd)(rest:List PO)(h:AH)(L:Array Bool)(a:Act)(w:World):Prop where
 H:HR lo σ h w
 n0:T0.n=n
 nT:T.n=n
 size:a.tmps.size=n
 Lsize:L.size=all.size
 sub:∀ k,Ran L k->done.testBit k=true
 lcl:∀ q∈ps,Ran L q.i->∀ j,q.bef.testBit j=true->Ran L j
 dcl:∀ q∈ps,done.testBit q.i=true->∀ j,q.bef.testBit j=true->done.testBit j=true
 left:∀ p∈rest,p∈ps/\done.testBit p.i=false
 nodup:rest.Nodup
 cover:∀ p∈ps,done.testBit p.i=false->p∈rest
 old:∀ t,(∀ q∈ps,zBR q t=true->done.testBit q.i=false)->T.get t=T0.get t
 ran:∀ t,∀ q∈ps,zBR q t=true->Ran L q.i->VR σ (T.get t) (a.tmps.getD t undef)
 kept:∀ t,(∀ q∈ps,zBR q t=true->¬ Ran L q.i)->VR σ (T0.get t) (a.tmps.getD t undef)
 pend:∀ p∈ps,done.testBit p.i=true->¬ Ran L p.i->∃ Tp,Pend E all ps T0 T rds h p Tp
 D:DefsR σ defs a.defers
section
variable {all:Array Oper} {ps:List PO} (R:Reg all ps n) {T0 T:Tm} {defs:List Nat} {σ:Sg} {done:Nat} {rds:List Rd} {rest:List PO} {h:AH} {L:Array Bool} {a:Act} {w:World}
theorem DI.look(R:Reg all ps n)(I:DI E n lo all ps T0 defs σ T done rds rest h L a w){p:PO}(hp:p∈ps)(cM:¬ Ran L p.i)(hb:∀ j,p.bef.testBit j=true->Ran L j){Tp:Tm}
  (late:∀ t∈zI2 all.toList p,(∀ q∈ps,zBR q t=true->p.bef.testBit q.i=true->Tp.get t=T.get t)/\((∀ q∈ps,zBR q t=true->¬ p.bef.testBit q.i=true)->Tp.get t=T0.get t)) :
  ∀ t∈zI2 all.toList p,VR σ (Tp.get t) (a.tmps.getD t undef):=by
 intro t ht;obtain⟨l1,l2⟩:=late t ht;by_cases hq:∃ q∈ps,zBR q t=true/\p.bef.testBit q.i=true
 ·obtain⟨q,q1,q2,q3⟩:=hq;rw[l1 q q1 q2 q3];exact I.ran t q q1 q2 (hb _ q3)
 ·have bZ:∀ q∈ps,zBR q t=true->¬ p.bef.testBit q.i=true:=fun q q1 q2 q3=>hq ⟨q,q1,q2,q3⟩;rw[l2 bZ];refine I.kept t fun q q1 q2 hr=>?_;rcases R.ordered hp q1 ht q2 with e|e|e
  ·exact cM (e ▸ hr)
  ·exact bZ q q1 q2 e
  ·exact cM (I.lcl q q1 hr _ e)
theorem DI.now(R:Reg all ps n)(I:DI E n lo all ps T0 defs σ T done rds rest h L a w){p:PO}(hp:p∈ps)(aV:done.testBit p.i=false) :
  ∀ t∈zI2 all.toList p,(∀ q∈ps,zBR q t=true->p.bef.testBit q.i=true->T.get t=T.get t)/\((∀ q∈ps,zBR q t=true->¬ p.bef.testBit q.i=true)->T.get t=T0.get t):=by
 intro t ht;refine⟨fun _ _ _ _=>rfl,fun bZ=>I.old t fun q q1 q2=>?_⟩;cases hd:done.testBit q.i with
 | false=>rfl
 | true=>
  rcases R.ordered hp q1 ht q2 with e|e|e
  ·rw[e,hd] at aV;cases aV
  ·exact absurd e (bZ q q1 q2)
  ·have:=I.dcl q q1 hd _ e;rw[aV] at this;cases this
end
theorem zBt{L:Array Bool}{i:Nat}(hi:i<L.size)(k:Nat):Ran (L.setIfInBounds i true) k ↔ k=i\/Ran L k:=by
 unfold Ran;rw[Array.getD_eq_getD_getElem?,Array.getD_eq_getD_getElem?,Array.getElem?_setIfInBounds];by_cases h:i=k
 ·subst h;simp[hi]
 ·rw[if_neg h];constructor
  ·intro x;exact .inr x
  ·rintro (x|x)
   ·exact absurd x.symm h
   ·exact x
theorem zCR(T:Tm)(o:Option Tmp)(v:Value)(t:Tmp):(AM.putDst T o v).get t=if o=some t then v else T.get t:=by
 unfold AM.putDst;split
 ·rename_i d;rw[Tm.get_put];by_cases e:t=d
  ·subst e;simp
  ·rw[if_neg e,if_neg (fun h=>e (by cases h;rfl))]
 ·rw[if_neg (by intro h;cases h)]
theorem zHS{a:Act}(o:Option Tmp)(v:Value)(t:Tmp)(hs:∀ d,o=some d->d<a.tmps.size):(a.put o v).tmps.getD t undef=if o=some t then v else a.tmps.getD t undef:=by
 unfold Act.put;cases ho:o with
 | none=>simp
 | some d=>
  have:=hs d ho;simp only[Array.getD_eq_getD_getElem?,Array.getElem?_setIfInBounds];by_cases e:d=t
  ·subst e;simp[this]
  ·rw[if_neg e,if_neg (fun h=>e (by cases h;rfl))]
theorem zLV(a:Act)(o:Option Tmp)(v:Value):(a.put o v).tmps.size=a.tmps.size:=by
 unfold Act.put;split <;> simp
section
variable {all:Array Oper} {ps:List PO} {T0 T:Tm} {defs:List Nat} {σ:Sg} {done:Nat} {rds:List Rd} {rest:List PO} {h:AH} {L:Array Bool} {a:Act} {w:World}
theorem DI.add(R:Reg all ps n)(I:DI E n lo all ps T0 defs σ T done rds rest h L a w){p:PO}(hp:p∈rest)(hr:zBk p done=true){b:Bool}{v:Value}(hw:zC6 p.o all.toList T=some b)
  (hf:b=false->v=undef) (ht:b=true->zDH E T p.o h=some v) {rds':List Rd} (hs:∀ r∈rds,r∈rds') (hn:b=true->∀ c,cls p.o.op=c->c=.read->(⟨p.i,T,p.o,v⟩:Rd)∈rds')
  {rest':List PO} (r1:∀ q∈rest',q∈rest/\q≠p) (r2:∀ q∈rest,q≠p->q∈rest') (r3:rest'.Nodup) :
  DI E n lo all ps T0 defs σ (AM.putDst T p.o.dst v) (zCK done p.i) rds' rest' h L a w:=by
 obtain⟨cq,aV⟩:=I.left p hp;have cM:¬ Ran L p.i:=fun hr=>by have:=I.sub _ hr;rw[aV] at this;cases this
 have cS:=R.closed (S:=fun j=>done.testBit j=true) I.dcl cq ((zFn p done).1 hr);have aJ:∀ t,∀ q∈ps,zBR q t=true->done.testBit q.i=true->(AM.putDst T p.o.dst v).get t=T.get t:=by
  intro t q q1 q2 q3;rw[zCR,if_neg];intro e;have:=R.dst cq q1 (writes_iff.2 e) q2;subst this;rw[aV] at q3;cases q3
 refine⟨I.H,I.n0,by rw[zHN];exact I.nT,I.size,I.Lsize,?_,I.lcl,?_,?_,r3,?_,?_,?_,I.kept,?_,I.D⟩
 ·intro k hk;rw[zAP,I.sub k hk];rfl
 ·intro q q1 q2 j hj;rw[zAP,Bool.or_eq_true,decide_eq_true_eq] at q2;rw[zAP,Bool.or_eq_true];rcases q2 with q2|q2
  ·exact .inl (I.dcl q q1 q2 j hj)
  ·have:=R.inj cq q1 q2;subst this;exact .inl (cS j hj)
 ·intro q hq;obtain⟨q1,q2⟩:=r1 q hq;obtain⟨q3,q4⟩:=I.left q q1;refine⟨q3,?_⟩;rw[zAP,q4,Bool.false_or,decide_eq_false_iff_not];intro e;exact q2 (R.inj cq q3 e).symm
 ·intro q q1 q2;rw[zAP,Bool.or_eq_false_iff,decide_eq_false_iff_not] at q2;exact r2 q (I.cover q q1 q2.1) (fun e=>q2.2 (by rw[e]))
 ·intro t bZ;have h1:=bZ p cq;rw[zCR,if_neg]
  ·refine I.old t fun q q1 q2=>?_;have:=bZ q q1 q2;rw[zAP,Bool.or_eq_false_iff] at this;exact this.1
  ·intro e;have:=h1 (writes_iff.2 e);rw[zAP] at this;simp at this
 ·intro t q q1 q2 q3;rw[aJ t q q1 q2 (I.sub _ q3)];exact I.ran t q q1 q2 q3
 ·intro q q1 q2 q3;rw[zAP,Bool.or_eq_true,decide_eq_true_eq] at q2;rcases q2 with q2|q2
  ·obtain⟨Tq,k1,b',v',k2,k3,k4,k5⟩:=I.pend q q1 q2 q3;refine⟨Tq,fun t ht'=>⟨fun r e1 e2 e3=>?_,(k1 t ht').2⟩,b',v',k2,k3,fun hb=>⟨(k4 hb).1,fun c hc gE=>hs _ ((k4 hb).2 c hc gE)⟩,fun d hd=>?_⟩
   ·rw[aJ t r e1 e2 (I.dcl q q1 q2 _ e3)];exact (k1 t ht').1 r e1 e2 e3
   ·rw[aJ d q q1 (writes_iff.2 hd) q2];exact k5 d hd
  ·have:=R.inj cq q1 q2;subst this;refine⟨T,fun t ht'=>⟨fun r e1 e2 e3=>?_,(I.now R cq aV t ht').2⟩,b,v,hw,hf,fun hb=>⟨ht hb,hn hb⟩,fun d hd=>?_⟩
   ·exact (aJ t r e1 e2 (cS _ e3)).symm
   ·rw[zCR,if_pos hd]
theorem DI.step(R:Reg all ps n)(I:DI E n lo all ps T0 defs σ T done rds rest h L a w){p:PO}(hp:p∈ps)(hd:done.testBit p.i=true)(cM:¬ Ran L p.i)(hb:∀ j,p.bef.testBit j=true->Ran L j){v':Value}(hv:∀ d,p.o.dst=some d->VR σ (T.get d) v') :
  DI E n lo all ps T0 defs σ T done rds rest h (L.setIfInBounds p.i true) (a.put p.o.dst v') w:=by
 have hi:p.i<L.size:=by rw[I.Lsize];exact R.lt hp
 have ai:∀ d,p.o.dst=some d->d<a.tmps.size:=fun d hd=>by rw[I.size];exact zHw (R.fits hp) hd
 refine⟨I.H,I.n0,I.nT,by rw[zLV];exact I.size,by simp[I.Lsize],?_,?_,I.dcl,I.left,I.nodup,I.cover,I.old,?_,?_,?_,by rw[Act.put_defers'];exact I.D⟩
 ·intro k hk;rcases (zBt hi k).1 hk with rfl|hk
  ·exact hd
  ·exact I.sub k hk
 ·intro q q1 q2 j hj;rw[zBt hi];rcases (zBt hi _).1 q2 with e|q2
  ·have:=R.inj q1 hp e;subst this;exact .inr (hb j hj)
  ·exact .inr (I.lcl q q1 q2 j hj)
 ·intro t q q1 q2 q3;rw[zHS _ _ _ ai];split
  ·rename_i e;exact hv t e
  ·rename_i e;rcases (zBt hi _).1 q3 with e'|q3
   ·have:=R.inj q1 hp e';subst this;exact absurd (writes_iff.1 q2) e
   ·exact I.ran t q q1 q2 q3
 ·intro t bZ;rw[zHS _ _ _ ai,if_neg]
  ·exact I.kept t fun q q1 q2 q3=>bZ q q1 q2 ((zBt hi _).2 (.inr q3))
  ·intro e;exact bZ p hp (writes_iff.2 e) ((zBt hi _).2 (.inl rfl))
 ·intro q q1 q2 q3;exact I.pend q q1 q2 fun hq=>q3 ((zBt hi _).2 (.inr hq))
theorem DI.fire(R:Reg all ps n)(I:DI E n lo all ps T0 defs σ T done rds rest h L a w){p:PO}(hp:p∈rest)(hb:∀ j,p.bef.testBit j=true->Ran L j){τ:Sg}(le:Sg.le σ τ){h':AH}{w':World}(H':HR lo τ h' w')
  {v v':Value} (hv:VR τ v v') {rds':List Rd} (dK:∀ r∈rds,¬ p.bef.testBit r.i=true->r∈rds'/\(zQ E r.T r.o h=some r.v->zQ E r.T r.o h'=some r.v))
  {rest':List PO} (r1:∀ q∈rest',q∈rest/\q≠p) (r2:∀ q∈rest,q≠p->q∈rest') (r3:rest'.Nodup) :
  DI E n lo all ps T0 defs τ (AM.putDst T p.o.dst v) (zCK done p.i) rds' rest' h' (L.setIfInBounds p.i true) (a.put p.o.dst v') w':=by
 obtain⟨cq,aV⟩:=I.left p hp;have cM:¬ Ran L p.i:=fun hr=>by have:=I.sub _ hr;rw[aV] at this;cases this
 have hi:p.i<L.size:=by rw[I.Lsize];exact R.lt cq
 have ai:∀ d,p.o.dst=some d->d<a.tmps.size:=fun d hd=>by rw[I.size];exact zHw (R.fits cq) hd
 have aJ:∀ t,∀ q∈ps,zBR q t=true->done.testBit q.i=true->(AM.putDst T p.o.dst v).get t=T.get t:=by
  intro t q q1 q2 q3;rw[zCR,if_neg];intro e;have:=R.dst cq q1 (writes_iff.2 e) q2;subst this;rw[aV] at q3;cases q3
 refine⟨H',I.n0,by rw[zHN];exact I.nT,by rw[zLV];exact I.size,by simp[I.Lsize],?_,?_,?_,?_,r3,?_,?_,?_,?_,?_,by rw[Act.put_defers'];exact I.D.mono le⟩
 ·intro k hk;rw[zAP,Bool.or_eq_true,decide_eq_true_eq];rcases (zBt hi k).1 hk with rfl|hk
  ·exact .inr rfl
  ·exact .inl (I.sub k hk)
 ·intro q q1 q2 j hj;rw[zBt hi];rcases (zBt hi _).1 q2 with e|q2
  ·have:=R.inj q1 cq e;subst this;exact .inr (hb j hj)
  ·exact .inr (I.lcl q q1 q2 j hj)
 ·intro q q1 q2 j hj;rw[zAP,Bool.or_eq_true,decide_eq_true_eq] at q2;rw[zAP,Bool.or_eq_true];rcases q2 with q2|q2
  ·exact .inl (I.dcl q q1 q2 j hj)
  ·have:=R.inj cq q1 q2;subst this;exact .inl (I.sub _ (hb j hj))
 ·intro q hq;obtain⟨q1,q2⟩:=r1 q hq;obtain⟨q3,q4⟩:=I.left q q1;refine⟨q3,?_⟩;rw[zAP,q4,Bool.false_or,decide_eq_false_iff_not];intro e;exact q2 (R.inj cq q3 e).symm
 ·intro q q1 q2;rw[zAP,Bool.or_eq_false_iff,decide_eq_false_iff_not] at q2;exact r2 q (I.cover q q1 q2.1) (fun e=>q2.2 (by rw[e]))
 ·intro t bZ;have h1:=bZ p cq;rw[zCR,if_neg]
  ·refine I.old t fun q q1 q2=>?_;have:=bZ q q1 q2;rw[zAP,Bool.or_eq_false_iff] at this;exact this.1
  ·intro e;have:=h1 (writes_iff.2 e);rw[zAP] at this;simp at this
 ·intro t q q1 q2 q3;rw[zHS _ _ _ ai];by_cases e:p.o.dst=some t
  ·rw[if_pos e,zCR,if_pos e];exact hv
  ·rw[if_neg e];rcases (zBt hi _).1 q3 with e'|q3
   ·have:=R.inj q1 cq e';subst this;exact absurd (writes_iff.1 q2) e
   ·rw[aJ t q q1 q2 (I.sub _ q3)];exact (I.ran t q q1 q2 q3).mono le
 ·intro t bZ;rw[zHS _ _ _ ai,if_neg]
  ·exact (I.kept t fun q q1 q2 q3=>bZ q q1 q2 ((zBt hi _).2 (.inr q3))).mono le
  ·intro e;exact bZ p cq (writes_iff.2 e) ((zBt hi _).2 (.inl rfl))
 ·intro q q1 q2 q3;have q3':¬ Ran L q.i:=fun hq=>q3 ((zBt hi _).2 (.inr hq));have hqp:q.i≠p.i:=fun e=>q3 ((zBt hi _).2 (.inl e));rw[zAP,Bool.or_eq_true,decide_eq_true_eq] at q2;rcases q2 with q2|q2;rotate_left
  ·exact absurd q2.symm hqp
  obtain⟨Tq,k1,b',u,k2,k3,k4,k5⟩:=I.pend q q1 q2 q3';have bR:¬ p.bef.testBit q.i=true:=fun ao=>q3' (hb _ ao);refine⟨Tq,fun t ht'=>⟨fun r e1 e2 e3=>?_,(k1 t ht').2⟩,b',u,k2,k3,fun ao=>?_,fun d hd=>?_⟩
  ·rw[aJ t r e1 e2 (I.dcl q q1 q2 _ e3)];exact (k1 t ht').1 r e1 e2 e3
  ·obtain⟨g1,g2⟩:=k4 ao;refine⟨?_,fun c hc gE=>(dK _ (g2 c hc gE) bR).1⟩;unfold zDH at g1 ⊢;split at g1
   ·exact g1
   ·rename_i aG;exact (dK _ (g2 _ aG rfl) bR).2 g1
   ·cases g1
  ·rw[aJ d q q1 (writes_iff.2 hd) q2];exact k5 d hd
end
end Go.AM
namespace Go.AM
open Go Go.Proofs Go.RowKit
variable {E:Env} (hE:zCg E) {lo n:Nat} {F:Fence} (hF:FW F)
variable {all:Array Oper} {ps:List PO} {T0 T:Tm} {defs:List Nat} {σ:Sg} {done:Nat} {rds:List Rd} {rest:List PO} {h:AH} {L:Array Bool} {a:Act} {w:World}
theorem mem_addRd{p:PO}{v:Value}:(∀ r∈rds,r∈zRi p T v rds)/\(∀ c,cls p.o.op=c->c=.read->(⟨p.i,T,p.o,v⟩:Rd)∈zRi p T v rds):=by
 unfold zRi;refine⟨fun r hr=>?_,fun c hc gE=>?_⟩
 ·split
  ·simp[hr]
  ·exact hr
 ·subst gE;rw[hc];simp
theorem zEm(R:Reg all ps n):∀(xs pre:List PO) (T:Tm) (done:Nat) (rds:List Rd) (s:Sw),DI E n lo all ps T0 defs σ T done rds (pre++xs) h L a w->zHf E all.toList h xs T done rds=some s->
  DI E n lo all ps T0 defs σ s.T s.done s.rds (pre++s.rest) h L a w
 | [],pre,T,done,rds,s,I,e=>by
  simp only[zHf,xAN] at e;subst e;exact I
 | p::xs,pre,T,done,rds,s,I,e=>by
  simp only[zHf] at e;have hp:p∈pre++p::xs:=by simp
  have aV:=I.nodup;rw[List.nodup_append] at aV;obtain⟨n1,n2,n3⟩:=aV;rw[List.nodup_cons] at n2;have r1:∀ q∈pre++xs,q∈pre++p::xs/\q≠p:=by
   intro q hq;rcases List.mem_append.1 hq with hq|hq
   ·exact⟨by simp[hq],n3 q hq p (by simp)⟩
   ·exact⟨by simp[hq],fun e=>n2.1 (e ▸ hq)⟩
  have r2:∀ q∈pre++p::xs,q≠p->q∈pre++xs:=by
   intro q hq ah;rcases List.mem_append.1 hq with hq|hq
   ·simp[hq]
   ·rcases List.mem_cons.1 hq with hq|hq
    ·exact absurd hq ah
    ·simp[hq]
  have r3:(pre++xs).Nodup:=by
   rw[List.nodup_append];exact⟨n1,n2.2,fun x hx y hy=>n3 x hx y (by simp[hy])⟩
  cases hc:(zBk p done&&!zGZ p.o.op) with
  | true=>
   rw[hc] at e;simp only[xAG] at e;simp only[xAP] at hc;split at e
   ·rename_i hw;split at e
    ·rename_i v hv;exact zEm R xs pre _ _ _ s (I.add R hp hc.1 hw (by simp) (fun _=>hv) mem_addRd.1 (fun _=>mem_addRd.2) r1 r2 r3) e
    ·cases e
   ·rename_i hw;exact zEm R xs pre _ _ _ s (I.add R hp hc.1 hw (fun _=>rfl) (by simp) (fun r hr=>hr) (by simp) r1 r2 r3) e
   ·cases e
  | false=>
   rw[hc] at e;simp only[xAH] at e;unfold znz at e;split at e;rotate_left
   ·cases e
   rename_i s' aQ;cases e;have:=zEm R xs (pre++[p]) T done rds s' (by simpa using I) aQ;simpa using this
theorem zJd{x y:R St}{outs:List St}(h:joinR x y=some outs):∃ xs ys,x=some xs/\y=some ys/\outs=xs++ys:=by
 unfold joinR at h;split at h
 ·cases h;exact⟨_,_,rfl,rfl,rfl⟩
 ·cases h
theorem zHV{rec:Rec}{k:DK}{allL:List Oper}:∀(xs pre:List PO) (outs:List St),fires E rec allL k T done rds h pre xs=some outs->
  (∀ p∈xs,zBk p done=true->∃ l1 l2 os,pre++xs=l1++p::l2/\fire E rec allL k p T done rds (l1++l2) h=some os/\∀ o∈os,o∈outs)/\(outs≠[]->∃ p∈xs,zBk p done=true)
 | [],pre,outs,e=>by
  simp only[fires,xAN] at e;subst e;exact⟨(fun p hp=>by cases hp),fun h=>absurd rfl h⟩
 | p::xs,pre,outs,e=>by
  simp only[fires] at e;cases hr:zBk p done with
  | true=>
   rw[hr] at e;simp only[xAG] at e;obtain⟨aas,bs,e1,e2,rfl⟩:=zJd e;obtain⟨i1,i2⟩:=zHV xs (pre++[p]) bs e2;refine⟨fun q hq hqr=>?_,fun _=>⟨p,by simp,hr⟩⟩;rcases List.mem_cons.1 hq with rfl|hq
   ·exact⟨pre,xs,aas,rfl,e1,fun o ho=>by simp[ho]⟩
   ·obtain⟨l1,l2,os,g1,g2,g3⟩:=i1 q hq hqr;exact⟨l1,l2,os,by rw[← g1];simp,g2,fun o ho=>by simp[g3 o ho]⟩
  | false=>
   rw[hr] at e;simp only[xAH] at e;obtain⟨i1,i2⟩:=zHV xs (pre++[p]) outs e;refine⟨fun q hq hqr=>?_,fun ah=>let ⟨q,q1,q2⟩:=i2 ah;⟨q,by simp[q1],q2⟩⟩;rcases List.mem_cons.1 hq with rfl|hq
   ·rw[hr] at hqr;cases hqr
   ·obtain⟨l1,l2,os,g1,g2,g3⟩:=i1 q hq hqr;exact⟨l1,l2,os,by rw[← g1];simp,g2,g3⟩
def zIz(L:Array Bool):Nat:=L.toList.countP fun b=>!b
theorem zJs:∀(l:List Bool) (i:Nat),l[i]?=some false->(l.set i true).countP (fun b=>!b)+1=l.countP fun b=>!b
 | [],i,h=>by simp at h
 | b::l,0,h=>by simp at h;subst h;simp
 | b::l,i+1,h=>by
  simp only[List.getElem?_cons_succ] at h;have:=zJs l i h;simp only[List.set_cons_succ,List.countP_cons];omega
theorem zT2{L:Array Bool}{i:Nat}(h:L.getD i true=false):zIz (L.setIfInBounds i true)+1=zIz L:=by
 unfold zIz;rw[Array.toList_setIfInBounds];apply zJs;rw[Array.getElem?_toList];rw[Array.getD_eq_getD_getElem?] at h;cases hL:L[i]? with
 | none=>rw[hL] at h;cases h
 | some b=>rw[hL] at h;simp at h;rw[h]
theorem zQi{L:Array Bool}(h:zIz L=0){k:Nat}(hk:k<L.size):Ran L k:=by
 unfold zIz at h;rw[List.countP_eq_zero] at h;unfold Ran;have:=h L[k] (by simp);simp[Array.getD,hk] at this ⊢;exact this
theorem zNy{L:Array Bool}{k:Nat}(hk:k<L.size):L.getD k true=false ↔ ¬ Ran L k:=by
 unfold Ran;simp[Array.getD,hk]
def zor(E:Env)(rec:Rec)(allL:List Oper)(defs:List Nat)(s:Sw)(h:AH)(outs:List St):Prop:=
 (s.rest=[]/\(⟨s.T,h,defs⟩:St)∈outs)\/∃ f o os,fires E rec allL (drawRun E rec allL defs f) s.T s.done s.rds h [] s.rest=some (o::os)/\∀ x∈o::os,x∈outs
theorem zD7{rec:Rec}{allL:List Oper}{f:Nat}{outs:List St}(e:drawRun E rec allL defs f T done rds rest h=some outs):∃ s,zHf E allL h rest T done rds=some s/\zor E rec allL defs s h outs:=by
 cases f with
 | zero=>simp[drawRun] at e
 | succ f=>
  simp only[drawRun] at e;split at e
  ·cases e
  ·rename_i s hs;refine⟨s,hs,?_⟩;split at e
   ·rename_i hr;simp only[one,xAN] at e;subst e;exact .inl ⟨hr,by simp⟩
   ·rename_i hr;unfold zLU at e;split at e
    ·rename_i o os ho;cases e;exact .inr ⟨f,o,os,ho,fun x hx=>hx⟩
    ·cases e
theorem zeb(hE:zCg E)(H:HR lo σ h w){o:Oper}(hT:zIt σ T a o.op.operands.toList){v:Value}(e:zDH E T o h=some v) :
  ∃ v',(execOp a.eval o).run E.prog w=.ok (.value v') w/\VR σ v v'/\∀ c,o.op≠.defer c:=by
 unfold zDH at e;split at e
 ·obtain⟨v',q1,q2⟩:=zL8 hE hT e;exact⟨v',q1 w,q2,fun c hc=>by simp[ze,hc] at e⟩
 ·obtain⟨v',q1,q2⟩:=zL5 hE H hT e;exact⟨v',q1,q2,fun c hc=>by simp[zQ,hc] at e⟩
 ·cases e
include hE hF in
theorem zkr{rec:Rec}(ac:RecOps E rec)(R:Reg all ps n){k:Nat}{Q:Exit->Act->World->Prop}:∀(fuel:Nat) {σ:Sg} {s:Sw} {h:AH} {L:Array Bool} {a:Act} {w:World} {outs:List St},
  DI E n lo all ps T0 defs σ s.T s.done s.rds s.rest h L a w->zor E rec all.toList defs s h outs->zIz L=fuel->
  (∀ st'∈outs,∀ τ a' w',Sg.le σ τ->StR n lo τ st' a' w'->Below lo w w'->Q .normal a' w')->wpAnyIn F k E.prog .any all Q fuel L a w:=by
 intro fuel
 induction fuel with
 | zero=>
  intro σ s h L a w outs I dq cM hQ;have gW:∀ j,j<all.size->Ran L j:=fun j hj=>zQi cM (by rw[I.Lsize];exact hj);refine⟨?_,?_⟩
  ·cases hr:Region.ready .any all L with
   | nil=>rfl
   | cons j js=>
    have:j∈Region.ready .any all L:=by rw[hr];simp
    obtain⟨q1,o,q2,_⟩:=mem_ready.1 this;have hj:j<all.size:=(Array.getElem?_eq_some_iff.1 q2).1;exact absurd (gW j hj) ((zNy (by rw[I.Lsize];exact hj)).1 q1)
  ·have jy:∀ p∈ps,s.done.testBit p.i=true:=fun p hp=>I.sub _ (gW _ (R.lt hp));have bQ:s.rest=[]:=by
    cases hs:s.rest with
    | nil=>rfl
    | cons p l=>
     have:=I.left p (by rw[hs];simp);rw[jy p this.1] at this;cases this.2
   rcases dq with ⟨_,hm⟩|⟨f,o,os,hf,_⟩
   ·refine hQ _ hm σ a w (Sg.le_refl σ) ⟨⟨by rw[I.size,I.nT],fun t=>?_⟩,I.H,I.D,I.nT⟩ (Below.refl _ _);by_cases hq:∃ q∈ps,zBR q t=true
    ·obtain⟨q,q1,q2⟩:=hq;exact I.ran t q q1 q2 (gW _ (R.lt q1))
    ·have bZ:∀ q∈ps,zBR q t=true->False:=fun q q1 q2=>hq ⟨q,q1,q2⟩;show VR σ (s.T.get t) _;rw[I.old t fun q q1 q2=>(bZ q q1 q2).elim];exact I.kept t fun q q1 q2=>(bZ q q1 q2).elim
   ·rw[bQ] at hf;simp[fires] at hf
 | succ fuel ih=>
  intro σ s h L a w outs I dq cM hQ;refine⟨fun gZ=>?_,fun j hj=>?_⟩
  ·
   exfalso
   have dO:∀ p∈ps,¬ Ran L p.i->∃ j,p.dep.testBit j=true/\¬ Ran L j:=by
    intro p hp dG;apply Classical.byContradiction;intro bZ;have:p.i∈Region.ready .any all L:=mem_ready.2 ⟨(zNy (by rw[I.Lsize];exact R.lt hp)).2 dG,p.o,R.op hp,fun e he hb=>Classical.byContradiction fun hn=>
     bZ ⟨e.on,(R.dep_iff hp _).2 ⟨e,by simpa using he,hb,rfl⟩,hn⟩⟩
    rw[gZ] at this;cases this
   have aB:∀(m:Nat) (p:PO),p∈ps->p.i=m->s.done.testBit p.i=true->Ran L p.i:=by
    intro m
    induction m using Nat.strongRecOn with
    | _ m ihm=>
     intro p hp fW hd;apply Classical.byContradiction;intro dG;obtain⟨j,j1,j2⟩:=dO p hp dG;have jn:=R.dep_lt hp j1;obtain⟨e,e1,e2,e3⟩:=(R.dep_iff hp j).1 j1;obtain⟨q,q1,q2⟩:=R.atIdx (k:=j) (Nat.lt_trans jn (R.lt hp));have hdj:s.done.testBit j=true:=I.dcl p hp hd j ((R.mem_at hp).db j j1);exact j2 (q2 ▸ ihm j (by omega) q q1 q2 (q2 ▸ hdj))
   rcases dq with ⟨hr,_⟩|⟨f,o,os,hf,_⟩
   ·
    have:∀ k,k<L.size->Ran L k:=by
     intro k hk;obtain⟨p,p1,p2⟩:=R.atIdx (k:=k) (by rw[← I.Lsize];exact hk);cases hd:s.done.testBit p.i with
     | true=>rw[← p2];exact aB _ p p1 rfl hd
     | false=>have:=I.cover p p1 hd;rw[hr] at this;cases this
    have hz:zIz L=0:=by
     unfold zIz;rw[List.countP_eq_zero];intro b hb;obtain⟨i,hi⟩:=List.mem_iff_getElem?.1 hb;rw[Array.getElem?_toList] at hi;have ab:=(Array.getElem?_eq_some_iff.1 hi).1;have:=this i ab;unfold Ran at this;rw[Array.getD_eq_getD_getElem?,hi] at this;simp at this;simp[this]
    omega
   ·obtain⟨p,p1,p2⟩:=(zHV _ _ _ hf).2 (by simp);obtain⟨g1,g2⟩:=I.left p p1;have dG:¬ Ran L p.i:=fun hr=>by have:=I.sub _ hr;rw[g2] at this;cases this
    obtain⟨j,j1,j2⟩:=dO p g1 dG;have hdj:=(zFn p s.done).1 p2 j j1;obtain⟨q,q1,q2⟩:=R.atIdx (k:=j) (Nat.lt_trans (R.dep_lt g1 j1) (R.lt g1));exact j2 (q2 ▸ aB _ q q1 rfl (q2 ▸ hdj))
  ·obtain⟨ea,o,jo,hj3⟩:=mem_ready.1 hj;have hjs:j<all.size:=(Array.getElem?_eq_some_iff.1 jo).1;obtain⟨p,hp,hpj⟩:=R.atIdx hjs;subst hpj;have hpo:=R.op hp;rw[hpo] at jo;cases jo;have dG:¬ Ran L p.i:=(zNy (by rw[I.Lsize];exact hjs)).1 ea;have gD:∀ j,p.dep.testBit j=true->Ran L j:=by
    intro j fh;obtain⟨e,e1,e2,rfl⟩:=(R.dep_iff hp j).1 fh;exact hj3 e (by simpa using e1) e2
   have cS:=R.closed (S:=Ran L) I.lcl hp gD;have fz:zIz (L.setIfInBounds p.i true)=fuel:=by have:=zT2 ea;omega
   unfold wpOpIn;rw[hpo];simp only;cases hd:s.done.testBit p.i with
   | true=>
    obtain⟨Tp,k1,b,v,k2,k3,k4,k5⟩:=I.pend p hp hd dG;have cI:=I.look R hp dG cS k1;have bk:=zDg (a:=a) (fun d hd=>cI d (by unfold zI2;exact List.mem_append_right _ hd)) k2;cases b with
    | true=>
     rw[if_pos bk];obtain⟨v',q1,q2,q3⟩:=zeb hE I.H (a:=a) (fun t ht=>cI t (by unfold zI2;exact List.mem_append_left _ (mem_tmpsOf.2 ht))) (k4 rfl).1;have iV:Upon E.prog (fun u w'=>u=v'/\w'=w) ((execOp a.eval p.o).run E.prog w):=by rw[q1];exact⟨rfl,rfl⟩
     refine iV.wpIn hF q3 fun u w' hu=>?_;obtain⟨rfl,rfl⟩:=hu;exact ih (I.step R hp hd dG cS (v':=u) (fun d hd=>by rw[k5 d hd];exact q2)) dq fz hQ
    | false=>
     rw[if_neg (by rw[bk];simp)];refine⟨fun f _=>hF.fn f,?_⟩;have:=k3 rfl;subst this;exact ih (I.step R hp hd dG cS (v':=undef) (fun d hd=>by rw[k5 d hd];exact .tuple .nil)) dq fz hQ
   | false=>
    have bX:=I.cover p hp hd;rcases dq with ⟨hr,_⟩|⟨f,o,os,hf,au⟩
    ·rw[hr] at bX;cases bX
    have br:zBk p s.done=true:=(zFn _ _).2 fun j fh=>I.sub _ (gD j fh);obtain⟨l1,l2,fs,g1,g2,g3⟩:=(zHV _ _ _ hf).1 p bX br;simp only[List.nil_append] at g1;have aV:=I.nodup;rw[g1,List.nodup_append] at aV;obtain⟨n1,n2,n3⟩:=aV;rw[List.nodup_cons] at n2;have r1:∀ q∈l1++l2,q∈s.rest/\q≠p:=by
     intro q hq;rw[g1];rcases List.mem_append.1 hq with hq|hq
     ·exact⟨by simp[hq],n3 q hq p (by simp)⟩
     ·exact⟨by simp[hq],fun e=>n2.1 (e ▸ hq)⟩
    have r2:∀ q∈s.rest,q≠p->q∈l1++l2:=by
     intro q hq ah;rw[g1] at hq;rcases List.mem_append.1 hq with hq|hq
     ·simp[hq]
     ·rcases List.mem_cons.1 hq with hq|hq
      ·exact absurd hq ah
      ·simp[hq]
    have r3:(l1++l2).Nodup:=by
     rw[List.nodup_append];exact⟨n1,n2.2,fun x hx y hy=>n3 x hx y (by simp[hy])⟩
    have cI:=I.look R hp dG cS (I.now R hp hd);unfold fire at g2;split at g2
    ·rename_i hw;have bk:=zDg (a:=a) (fun d hd=>cI d (by unfold zI2;exact List.mem_append_right _ hd)) hw;rw[if_pos bk];obtain⟨xs,hx,aw⟩:=zAk g2;obtain⟨iV,aV⟩:=zJm hE ac I.H (a:=a) (fun t ht=>cI t (by unfold zI2;exact List.mem_append_left _ (mem_tmpsOf.2 ht))) hx;refine iV.wpIn hF aV fun v w' hg=>?_;obtain⟨x,cX,τ,le,bG,hv,hb⟩:=hg;obtain⟨cs,hc,jz⟩:=aw x cX;unfold zVa at hc;cases dK:s.rds.all (zmt E p.bef x.2) with
     | false=>rw[dK] at hc;cases hc
     | true=>
     rw[dK] at hc;simp only[xAG] at hc;have I':=I.fire R bX cS le bG hv (rds':=zIT p.bef s.rds) (fun r hr bR=>by
      have h1:=List.all_eq_true.1 dK r hr;unfold zmt at h1;rw[zFx] at h1;have cK:p.bef.testBit r.i=false:=by simpa using bR
      rw[cK,Bool.false_or] at h1;refine⟨by unfold zIT;rw[List.mem_filter,zFx,cK];exact⟨hr,rfl⟩,fun _=>?_⟩;split at h1
      ·rename_i v0 fu;rw[fu,(zGy 100).1 _ _ h1]
      ·cases h1) r1 r2 r3
     obtain⟨s',aQ,gQ⟩:=zD7 hc;have I'':=zEm R (l1++l2) [] _ _ _ s' (by simpa using I') aQ;exact ih (by simpa using I'') gQ fz fun st' hm υ a' w'' le' gS ao=>hQ st' (au _ (g3 _ (jz _ hm))) υ a' w'' (Sg.le_trans le le') gS (hb.trans ao)
    ·rename_i hw;have bk:=zDg (a:=a) (fun d hd=>cI d (by unfold zI2;exact List.mem_append_right _ hd)) hw;rw[if_neg (by rw[bk];simp)];refine⟨fun f _=>hF.fn f,?_⟩;have I':=I.fire R bX cS (Sg.le_refl σ) I.H (v:=undef) (v':=undef) (.tuple .nil) (rds':=s.rds) (fun r hr _=>⟨hr,id⟩) r1 r2 r3;obtain⟨s',aQ,gQ⟩:=zD7 g2;have I'':=zEm R (l1++l2) [] _ _ _ s' (by simpa using I') aQ;exact ih (by simpa using I'') gQ fz fun st' hm=>hQ st' (au _ (g3 _ hm))
    ·cases g2
end Go.AM
namespace Go.AM
open Go Go.Proofs Go.RowKit
variable {E:Env} (hE:zCg E) {lo n:Nat} {F:Fence}
include hE in
theorem zUW{rec:Rec}(ac:RecOps E rec)(hF:FW F){k id:Nat}{ops:Array Oper}{draw:Bool}(ak:fits n (.region id ops draw)=true){Q:Exit->Act->World->Prop}{σ:Sg}{st:St}{a:Act}{w:World}{outs:List St}
  (af:StR n lo σ st a w) (e:evRegion E rec ops.toList draw st=some outs)
  (hQ:∀ st'∈outs,∀ τ a' w',Sg.le σ τ->StR n lo τ st' a' w'->Below lo w w'->Q .normal a' w'):(Code.region id ops draw).wpIn F k E.prog Q a w:=by
 unfold fits at ak;simp only[xAP,List.all_eq_true] at ak;unfold evRegion at e;split at e
 ·refine wpIn_region ?_;have:=zey hE hF ac (k:=k) (all:=ops) ak.1 (Q:=Q) ops.toList 0 rfl af e hQ;rw[List.range_eq_range'];simpa using this
 ·refine wpIn_region_any hE.mixed ?_;have aa:zEr ops.toList (prep 0 [] ops.toList)=true:=by simpa using ak.2
  have R:Reg ops (prep 0 [] ops.toList) n:=⟨fun _ _=>zUh,by rw[zFJ];simp,ak.1,aa⟩;obtain⟨s,hs,dq⟩:=zD7 e;have noran:∀ j,¬ Ran (Array.replicate ops.size false) j:=by
   intro j hj;unfold Ran at hj;rw[Array.getD_eq_getD_getElem?,Array.getElem?_replicate] at hj;split at hj <;> simp at hj
  have nodone:∀ j,(0:Nat).testBit j=true->False:=fun j hj=>by simp at hj
  have I:DI E n lo ops (prep 0 [] ops.toList) st.T st.defs σ st.T 0 [] ([]++prep 0 [] ops.toList) st.h (Array.replicate ops.size false) a { w with drawn:=w.drawn+1 }:=by
   refine⟨af.H.heap rfl,af.n,af.n,by rw[af.T.size,af.n],by simp,?_,?_,?_,?_,?_,?_,fun _ _=>rfl,?_,fun t _=>af.T.get t,?_,af.D⟩
   ·intro j hj;exact absurd hj (noran j)
   ·intro q _ hr;exact absurd hr (noran _)
   ·intro q _ hd;exact (nodone _ hd).elim
   ·intro p hp;exact⟨by simpa using hp,by simp⟩
   ·simp only[List.nil_append];refine List.pairwise_iff_getElem.2 fun i j hi hj bH di=>?_;have h1:=(zUh (xAA hi)).i;have h2:=(zUh (xAA hj)).i;rw[di] at h1;omega
   ·intro p hp _;simpa using hp
   ·intro t q _ _ hr;exact absurd hr (noran _)
   ·intro p _ hd;exact (nodone _ hd).elim
  have I':=zEm R (prep 0 [] ops.toList) [] _ _ _ s I hs;refine zkr hE hF ac R ops.size (s:=s) (by simpa using I') dq ?_ fun st' hm τ a' w' le aQ hb=>hQ st' hm τ a' w' le aQ ((zFV w).trans hb);unfold zIz;simp[List.countP_replicate]
inductive ExR:Ex->Exit->Prop
 | normal:ExR .normal .normal
 | exit (id:Nat):ExR (.exit id) (.exit id)
 | ret:ExR .ret .ret
def QE(n lo:Nat)(σ:Sg)(w:World)(outs:List Out)(e:Exit)(a':Act)(w':World):Prop:=
 ∃ o∈outs,ExR o.ex e/\∃ τ,Sg.le σ τ/\StR n lo τ o.st a' w'/\Below lo w w'
theorem QE.sub{σ τ:Sg}{w w₁:World}{os outs:List Out}{e:Exit}{a':Act}{w':World}(h:QE n lo τ w₁ os e a' w')(hs:∀ o∈os,o∈outs)(le:Sg.le σ τ)(hb:Below lo w w₁):QE n lo σ w outs e a' w':=by
 obtain⟨o,h1,h2,υ,h3,h4,h5⟩:=h;exact⟨o,hs o h1,h2,υ,Sg.le_trans le h3,h4,hb.trans h5⟩
def LoopIn(F:Fence)(k:Nat)(P:Program)(c:Code)(Q:Exit->Act->World->Prop)(a:Act)(w:World):Prop:=
 ∀(b:Frame) (i:List Item) (cs:List Frame),b.roundOf=F.round->F.fn b.fn->F.room (cs.length+1+k)->
  ∃ e a' w',Q e a' w'/\ArrivesIn (Machine.fenced P F) P (lone (b.atR a (.inLoop c::i)) cs w) b i cs e a' w'
theorem LoopIn.turn{k:Nat}{P:Program}{c:Code}{Q:Exit->Act->World->Prop}{a:Act}{w:World}(h:c.wpIn F k P (Exit.then (LoopIn F k P c Q) Q) a w) :
  ∀(b:Frame) (i:List Item) (cs:List Frame),b.roundOf=F.round->F.fn b.fn->F.room (cs.length+1+k)->
  ∃ e a' w',Q e a' w'/\ArrivesIn (Machine.fenced P F) P (lone (b.atR a (.code c::.inLoop c::i)) cs w) b i cs e a' w':=by
 intro b i cs c6 hb hr;obtain⟨e,a₁,w₁,hq,av⟩:=h b (.inLoop c::i) cs c6 hb hr;cases e with
 | normal=>
  obtain⟨e₂,a₂,w₂,hq₂,harr₂⟩:=hq b i cs c6 hb hr;exact⟨e₂,a₂,w₂,hq₂,.of_steps av harr₂⟩
 | exit id=>exact⟨_,a₁,w₁,hq,.pass (x:=.inLoop c) rfl (fun _ _=>.inl (by simp)) av⟩
 | goto l=>exact⟨_,a₁,w₁,hq,.pass (x:=.inLoop c) rfl (fun _ _=>.inl (by simp)) av⟩
 | ret=>exact⟨_,a₁,w₁,hq,.pass (x:=.inLoop c) rfl (fun _ _=>.inl (by simp)) av⟩
 | panic ch=>exact⟨_,a₁,w₁,hq,.pass (x:=.inLoop c) rfl (fun _ _=>.inl (by simp)) av⟩
 | outgrown=>exact⟨_,a₁,w₁,hq,.pass (x:=.inLoop c) rfl (fun _ _=>.inl (by simp)) av⟩
theorem LoopIn.again{k:Nat}{P:Program}{c:Code}{Q:Exit->Act->World->Prop}{a:Act}{w:World}(h:c.wpIn F k P (Exit.then (LoopIn F k P c Q) Q) a w):LoopIn F k P c Q a w:=by
 intro b i cs c6 hb hr;obtain⟨e,a',w',hq,av⟩:=LoopIn.turn h b i cs c6 hb hr;exact⟨e,a',w',hq,.of_steps (.one (fenced_calm hb hr rfl) stepR_inLoop) av⟩
theorem LoopIn.wpIn{k:Nat}{P:Program}{c:Code}{Q:Exit->Act->World->Prop}{a:Act}{w:World}(h:c.wpIn F k P (Exit.then (LoopIn F k P c Q) Q) a w):(Code.loop c).wpIn F k P Q a w:=by
 intro b i cs c6 hb hr;obtain⟨e,a',w',hq,av⟩:=LoopIn.turn h b i cs c6 hb hr;exact⟨e,a',w',hq,.of_steps (.one (fenced_calm hb hr rfl) stepR_loop) av⟩
theorem LoopIn.mono{k:Nat}{P:Program}{c:Code}{Q Q':Exit->Act->World->Prop}{a:Act}{w:World}(h:LoopIn F k P c Q a w)(hq:∀ e a w,Q e a w->Q' e a w):LoopIn F k P c Q' a w:=
 fun b i cs h1 h2 h3=>let ⟨e,a',w',q,r⟩:=h b i cs h1 h2 h3;⟨e,a',w',hq _ _ _ q,r⟩
def FR(σ:Sg)(F:Fence):Option Nat->Prop
 | none=>F=Fence.wide
 | some b=>∃ l,σ b=some l/\F=Fence.wide.inRound l.blk
theorem FR.fw{σ:Sg}{ro:Option Nat}(h:FR σ F ro):FW F:=by
 cases ro with
 | none=>exact .inl h
 | some b=>obtain⟨l,_,h⟩:=h;exact .inr ⟨_,h⟩
theorem FR.mono{σ τ:Sg}(le:Sg.le σ τ){ro:Option Nat}(h:FR σ F ro):FR τ F ro:=by
 cases ro with
 | none=>exact h
 | some b=>obtain⟨l,h1,h2⟩:=h;exact⟨l,le _ _ h1,h2⟩
structure zRj(E:Env)(rec:Rec):Prop extends RecOps E rec where
 loop:∀ {n lo:Nat} {σ:Sg} {F:Fence} {ro:Option Nat} {c:Code} {st:St} {a:Act} {w:World} {outs:List Out},FR σ F ro->fits n c=true->StR n lo σ st a w->rec.loop ro c st=some outs->
  LoopIn F 0 E.prog c (QE n lo σ w outs) a w
section
include hE
theorem zGe{f:FuncId}(h:zDF E f=true)(args:Array Value)(w:World):(callFunc f args).run E.prog w=.ok (.enter f args) w:=by
 unfold zDF at h;split at h;rotate_left
 ·cases h
 rename_i g hg;cases hb:g.body with
 | none=>rw[hb] at h;cases h
 | some c=>
 have h1:=(hE.fn f g hg).1;have h2:=hE.name f g c hg hb;unfold callFunc;have h3:¬ g.name="runtime.NumGoroutine":=by simpa using h2
 simp[h1,h3,hb]
theorem zIJ{rec:Rec}(ac:RecOps E rec){f:FuncId}(hb:zDF E f=true){σ:Sg}{h:AH}{w:World}{args args':List Value}{outs:List (Value×AH)}(H:HR lo σ h w)(ha:VRs σ args args')(e:rec.call f args h=some outs) :
  CallsIn Fence.wide 0 E.prog f args'.toArray w (Ret (zFb lo σ w outs)):=by
 have:=ac.call H ha e;rw[zGe hE hb] at this;exact this
end
theorem zC9{P:Program}{w:World}{k:Nat}{r:Loop}(h:w.heap[k]?=some (.loop r)):(Instr.getLoop k).run P w=.ok r w:=by
 unfold Instr.getLoop;simp[zBA h (by intros;intro h;cases h)]
theorem zGO{P:Program}{σ:Sg}{h h':AH}{w:World}{l:Nat}{loc:Loc}{f:LoopState->Option Code->LoopState×Option Code}(H:HR lo σ h w)(hs:σ l=some loc)(e:zCO l h f=some h') :
  ∃ r:Loop,w.heap[loc.blk]?=some (.loop r)/\(∀ r':Loop,r'={ r with state:=(f r.state r.pending).1,pending:=(f r.state r.pending).2 }->(setObj loc.blk (.loop r')).run P w=.ok () (World.put w loc.blk (.loop r'))/\HR lo σ h' (World.put w loc.blk (.loop r'))/\Below lo w (World.put w loc.blk (.loop r'))):=by
 unfold zCO at e;split at e;rotate_left
 ·cases e
 rename_i st pend T ps aas body d hl;cases e;obtain⟨l',a1,eG,a3⟩:=H.live l _ hl;rw[hs] at a1;cases a1;obtain⟨r,r1,r2,r3,r4,r5,r6,r7,r8,r9,r10⟩:=eG;have ab:=zAr r1;refine⟨r,r1,fun r' bG=>⟨zEo _ r1 (by intros;intro h;cases h),H.upd _ hl hs rfl (fun _ _ h=>by cases h) ?_,zEd _ (a3 rfl)⟩⟩;subst bG;refine⟨{ r with state:=(f r.state r.pending).1,pending:=(f r.state r.pending).2 },by rw[World.put_get ab,if_pos rfl],?_,?_,r4,r5,r6,r7,r8,r9,r10⟩
 ·simp only[r2,r3]
 ·simp only[r2,r3]
end Go.AM
namespace Go.AM
open Go Go.Proofs Go.RowKit
variable {E:Env} (hE:zCg E) {lo n:Nat} {F:Fence}
theorem zQ0{σ:Sg}{h:AH}{w:World}{T:Tm}{ps:List Tmp}{aas body:Code}{d:Nat}{r:Loop}(H:HR lo σ h w)(hT:TmR σ T r.tmps)(h1:fits T.n aas=true)(h2:fits T.n body=true)(h3:ps.all (fun d=>Nat.ble (d+1) T.n)=true)
  (r1:r.state=.ready) (r2:r.pending=none) (r3:r.params.toList=ps) (r4:r.assign=aas) (r5:r.body=body) :
  HR lo (σ.ext h.qa ⟨w.heap.size,0,0,0⟩) (h.new (.loop .ready none T ps aas body d)) (w.alloc (.loop r))/\Sg.le σ (σ.ext h.qa ⟨w.heap.size,0,0,0⟩)/\Below lo w (w.alloc (.loop r)):=by
 have le:Sg.le σ (σ.ext h.qa ⟨w.heap.size,0,0,0⟩):=Sg.le_ext H.free;exact⟨H.new _ _ _ rfl ⟨r,by rw[zBC,if_pos rfl],r1,r2,r3,r4,r5,hT.mono le,h1,h2,h3⟩,le,zDL w _ H.lo⟩
theorem zQ1{σ:Sg}{h:AH}{w:World}(H:HR lo σ h w) :
  HR lo (σ.ext h.qa ⟨w.heap.size,0,0,0⟩) (h.new .defd) (w.alloc (.deferred (some [])))/\Sg.le σ (σ.ext h.qa ⟨w.heap.size,0,0,0⟩)/\Below lo w (w.alloc (.deferred (some []))):=by
 have le:Sg.le σ (σ.ext h.qa ⟨w.heap.size,0,0,0⟩):=Sg.le_ext H.free;refine⟨H.new _ _ _ rfl ?_,le,zDL w _ H.lo⟩;show (w.alloc _).heap[_]?=_;rw[zBC,if_pos rfl]
theorem zkO{P:Program}{Q:Exit->Act->World->Prop}{jump:Option Code}{ex:Ex}{a':Act}{w₄:World}:zPh jump=some ex->(∀ e,ExR ex e->Q e a' w₄)->
  (match jump with|none=>Q .normal a' w₄|some c=>c.wpIn F 0 P Q a' w₄):=by
 intro hex hN;unfold zPh at hex;split at hex
 ·cases hex;exact hN _ .normal
 ·cases hex;exact wpIn_ret (hN _ .ret)
 ·cases hex;exact wpIn_exit (hN _ (.exit _))
 ·cases hex
theorem zOY{P:Program}{σ:Sg}{h:AH}{w:World}{l:Nat}{loc:Loc}{T:Tm}{defs:List Nat}{outs:List Out}{a':Act}(H:HR lo σ h w)(hs:σ l=some loc)(hT:TmR σ T a'.tmps)(hn:T.n=n)(hD:DefsR σ defs a'.defers)
  (e:zBa l T defs h=some outs) {Q:Exit->Act->World->Prop} (hQ:∀ e w',QE n lo σ w outs e a' w'->Q e a' w') :
  ∃ jump w₄,(Instr.endLoop loc.blk).run P w=.ok jump w₄/\(match jump with|none=>Q .normal a' w₄|some c=>c.wpIn F 0 P Q a' w₄):=by
 unfold zBa at e;split at e;rotate_left
 ·cases e
 rename_i st pend T' ps aas body d hl;cases hb:zio st with
 | true=>rw[hb] at e;cases e
 | false=>
 rw[hb] at e;simp only[xAH] at e;unfold zGl at e;split at e;rotate_left
 ·cases e
 rename_i ex hex;simp only[one,xAN] at e;subst e;obtain⟨r,r1,r2⟩:=zGO (P:=P) (h':=h.upd l (some (.loop .exhausted pend T' ps aas body d))) (f:=fun _ p=>(.exhausted,p)) H hs (by unfold zCO;rw[hl]);obtain⟨l',a1,eG,_⟩:=H.live l _ hl;rw[hs] at a1;cases a1;obtain⟨r',q1,q2,q3,_⟩:=eG;rw[r1] at q1;cases q1;obtain⟨k1,k2,k3⟩:=r2 _ rfl;have k1':(setObj loc.blk (.loop { r with state:=.exhausted })).run P w=.ok () (World.put w loc.blk (.loop { r with state:=.exhausted,pending:=r.pending })):=k1;refine⟨r.pending,World.put w loc.blk (.loop { r with state:=.exhausted,pending:=r.pending }),?_,?_⟩
 ·unfold Instr.endLoop;have bR:(r.state==LoopState.busy)=false:=by rw[q2];cases st <;> first|rfl|cases hb
  have fF:¬ r.state=LoopState.busy:=by rw[q2];intro hh;subst hh;cases hb
  simp[Sem.run_bind,zC9 r1,Result.andThen_ok,bR,fF,k1']
 ·have af:StR n lo σ ⟨T,h.upd l (some (.loop .exhausted pend T' ps aas body d)),defs⟩ a' (World.put w loc.blk (.loop { r with state:=.exhausted,pending:=r.pending })):=⟨hT,k2,hD,hn⟩;have hexr:zPh r.pending=some ex:=by rw[q3];exact hex
  exact zkO hexr fun e he=>hQ _ _ ⟨_,List.mem_singleton.2 rfl,he,σ,Sg.le_refl σ,af,k3⟩
include hE in
theorem zLg{rec:Rec}(ac:RecOps E rec){σ:Sg}{ro:Option Nat}(bh:FR σ F ro){g:Operand}{ps:Array Tmp}{aas body:Code}{st:St}{a:Act}{w:World}{outs:List Out}
  (ak:fits n (.rangeFunc g ps aas body)=true) (af:StR n lo σ st a w) (e:evRange E rec ro (zAl st.T g) ps.toList aas body st=some outs):(Code.rangeFunc g ps aas body).wpIn F 0 E.prog (QE n lo σ w outs) a w:=by
 unfold fits at ak;simp only[xAP] at ak;obtain⟨⟨f1,f2⟩,f3⟩:=ak;unfold evRange at e;split at e;rotate_left
 ·cases e
 rename_i f fs cs hg;cases cJ:zDF E f with
 | false=>rw[cJ] at e;cases e
 | true=>
 rw[cJ] at e;simp only[xAG] at e;have hv:=zAM (af.T.ops [g]) (by simp) hg;generalize hgq:a.eval g=gv at hv;cases hv with
 | func _ hfs aM=>
 rename_i fs' cs';have main:∀ {σ₁:Sg} {h₁:AH} {w₁:World} {T:Tm} {defs:List Nat} {d:Nat} {mark:List Deferred} {r:Loop},HR lo σ₁ h₁ w₁->Sg.le σ σ₁->Below lo w w₁->T=st.T->r.tmps=a.tmps->r.state=.ready->r.pending=none->r.params=ps->r.assign=aas->r.body=body->
   DefsR σ₁ defs (mark++a.defers)->zBx rec f fs.toList cs.toList ps.toList aas body d defs T h₁=some outs->
   ∃(dd:Deferred) (w₁':World) (f':FuncId) (args:Array Value) (w₂:World),(resolve a.eval (rangeCall g w₁.heap.size) 0).run E.prog (w₁.alloc (.loop r))=.ok dd w₁'/\(∀ f',Target.leads E.prog w₁' dd.target dd.args=some f'->F.fn f') ∧
    (invoke dd.target dd.args).run E.prog w₁'=.ok (.enter f' args) w₂/\CallsIn F 0 E.prog f' args w₂ (rangePost F 0 E.prog w₁.heap.size (QE n lo σ w outs) { a with defers:=mark++a.defers }):=by
  intro σ₁ h₁ w₁ T defs d mark r H₁ le₁ hb₁ hT iE gX hr3 hr4 hr5 hr6 hD e;subst hT;obtain⟨k1,k2,k3⟩:=zQ0 (d:=d) (r:=r) H₁ (T:=st.T) (by rw[iE];exact af.T.mono le₁) (by rw[af.n];exact f2) (by rw[af.n];exact f3) (by rw[af.n];exact f1) gX hr3 (by rw[hr4]) hr5 hr6;unfold zBx at e;obtain⟨xs,hx,aw⟩:=zAk e;have hyl:VRs (σ₁.ext h₁.qa ⟨w₁.heap.size,0,0,0⟩) [.func (.yield h₁.qa) #[] #[]] [.func (.yield w₁.heap.size) #[] #[]]:=
   .cons (.yield (l:=⟨w₁.heap.size,0,0,0⟩) (Sg.ext_self ..) .nil .nil) .nil
  have am:=((VRs.mono (Sg.le_trans le₁ k2) hfs).append hyl).append (VRs.mono (Sg.le_trans le₁ k2) aM);have bJ:=zIJ hE ac cJ k1 am hx;refine⟨{ target:=.fn (.func f) cs',args:=fs'++#[.func (.yield w₁.heap.size) #[] #[]] },w₁.alloc (.loop r),f,_,w₁.alloc (.loop r),?_,fun _ _=>bh.fw.fn _,?_,bh.fw.calls (n:=0) (CallsIn.mono bJ fun en w₃ hen=>?_)⟩
  ·simp only[resolve];rw[hgq];simp[Deferred.ofValue,Act.eval]
  ·simp only[invoke];rw[zGe hE cJ]
   congr 2
   apply Array.ext';simp
  ·cases en with
   | panicked ch=>exact hen.elim
   | outgrown=>exact hen.elim
   | returned v=>
    obtain⟨x,cX,τ,le,hr,_,hb⟩:=hen;obtain⟨os,ho,au⟩:=aw x cX;exact zOY (F:=F) (P:=E.prog) (a':={ a with defers:=mark++a.defers }) hr (le _ _ (Sg.ext_self ..)) (af.T.mono (Sg.le_trans le₁ (Sg.le_trans k2 le))) af.n (hD.mono (Sg.le_trans k2 le)) ho
     fun e' w' hq=>hq.sub au (Sg.le_trans le₁ (Sg.le_trans k2 le)) (hb₁.trans (k3.trans hb))
 refine wpIn_rangeFunc fun fn _=>?_;cases ro with
 | none=>
  have hF:F=Fence.wide:=bh;obtain⟨q1,q2,q3⟩:=zQ1 af.H;obtain⟨dd,w₁',f',args,w₂,m1,m2,m3,m4⟩:=main (mark:=[{ target:=.collected w.heap.size,args:=#[] }]) (r:={ state:=.ready,pending:=none,fn,tmps:=a.tmps,params:=ps,assign:=aas,body,defers:=w.heap.size }) q1 q2 q3 rfl rfl rfl rfl rfl rfl rfl
   (.cons (l:=⟨w.heap.size,0,0,0⟩) (Sg.ext_self ..) (af.D.mono q2)) e
  refine⟨_,[{ target:=.collected w.heap.size,args:=#[] }],_,dd,w₁',f',args,w₂,?_,m1,m2,m3,fun h=>absurd h bh.fw.depth,m4⟩;subst hF;simp[Instr.enterLoop,Fence.wide]
 | some b=>
  cases ib:zVI b st.h with
  | false=>simp only[ib] at e;cases e
  | true=>
  simp only[ib,xAG] at e;obtain⟨l,hσ,hF⟩:=bh;have je:∃ r0:Loop,w.heap[l.blk]?=some (.loop r0):=by
   unfold zVI at ib;split at ib
   ·rename_i hl;obtain⟨l',a1,eG,_⟩:=af.H.live b _ hl;rw[hσ] at a1;cases a1;obtain⟨r0,r1,_⟩:=eG;exact⟨r0,r1⟩
   ·cases ib
  obtain⟨r0,hr0⟩:=je;obtain⟨dd,w₁',f',args,w₂,m1,m2,m3,m4⟩:=main (mark:=[]) (r:={ state:=.ready,pending:=none,fn,tmps:=a.tmps,params:=ps,assign:=aas,body,defers:=r0.defers }) af.H (Sg.le_refl σ) (Below.refl _ _) rfl rfl rfl rfl rfl rfl rfl (by simpa using af.D) e;refine⟨_,[],_,dd,w₁',f',args,w₂,?_,m1,m2,m3,fun h=>absurd h (FR.fw (σ:=σ) (ro:=some b) ⟨l,hσ,hF⟩).depth,m4⟩;subst hF;simp[Instr.enterLoop,Fence.inRound,zC9 hr0]
include hE in
theorem zFE{rec:Rec}(ac:zRj E rec){ro:Option Nat}:∀(c:Code) {σ:Sg} {st:St} {a:Act} {w:World} {outs:List Out},FR σ F ro->fits n c=true->StR n lo σ st a w->evC E rec ro c st=some outs->
  c.wpIn F 0 E.prog (QE n lo σ w outs) a w
 | .skip,σ,st,a,w,outs,bh,ak,af,e=>by
  simp only[evC,outOf,one,xAN] at e;subst e;exact wpIn_skip ⟨_,List.mem_singleton.2 rfl,.normal,σ,Sg.le_refl σ,af,Below.refl _ _⟩
 | .label l,σ,st,a,w,outs,bh,ak,af,e=>by
  simp only[evC,outOf,one,xAN] at e;subst e;exact wpIn_label ⟨_,List.mem_singleton.2 rfl,.normal,σ,Sg.le_refl σ,af,Below.refl _ _⟩
 | .exit id,σ,st,a,w,outs,bh,ak,af,e=>by
  simp only[evC,one,xAN] at e;subst e;exact wpIn_exit ⟨_,List.mem_singleton.2 rfl,.exit id,σ,Sg.le_refl σ,af,Below.refl _ _⟩
 | .ret,σ,st,a,w,outs,bh,ak,af,e=>by
  simp only[evC,one,xAN] at e;subst e;exact wpIn_ret ⟨_,List.mem_singleton.2 rfl,.ret,σ,Sg.le_refl σ,af,Below.refl _ _⟩
 | .region id ops d,σ,st,a,w,outs,bh,ak,af,e=>by
  simp only[evC] at e;obtain⟨xs,hx,aw⟩:=zAk e;refine zUW hE ac.toRecOps bh.fw ak af hx fun st' hm τ a' w' le hs hb=>?_;obtain⟨os,ho,au⟩:=aw st' hm;simp only[outOf,one,xAN] at ho;subst ho;exact⟨⟨.normal,st'⟩,au _ (List.mem_singleton.2 rfl),.normal,τ,le,hs,hb⟩
 | .seq x y,σ,st,a,w,outs,bh,ak,af,e=>by
  simp only[evC] at e;unfold fits at ak;simp only[xAP] at ak;obtain⟨xs,hx,aw⟩:=zAk e;refine wpIn_seq (wpIn_mono (zFE ac x bh ak.1 af hx) fun e' a' w' hq=>?_);obtain⟨o,hm,hex,τ,le,hs,hb⟩:=hq;obtain⟨os,ho,au⟩:=aw o hm;obtain⟨ex,st'⟩:=o;simp only at hex;unfold thenC at ho;cases hex with
  | normal=>exact wpIn_mono (zFE ac y (bh.mono le) ak.2 hs ho) fun e₂ a₂ w₂ hq₂=>hq₂.sub au le hb
  | exit id=>simp only[one,xAN] at ho;subst ho;exact⟨_,au _ (List.mem_singleton.2 rfl),.exit id,τ,le,hs,hb⟩
  | ret=>simp only[one,xAN] at ho;subst ho;exact⟨_,au _ (List.mem_singleton.2 rfl),.ret,τ,le,hs,hb⟩
 | .cond c x y,σ,st,a,w,outs,bh,ak,af,e=>by
  simp only[evC] at e;unfold fits at ak;simp only[xAP] at ak;unfold zVp at e;split at e;rotate_left
  ·cases e
  rename_i b hc;have hv:=zAM (af.T.ops [c]) (by simp) hc;generalize hq:a.eval c=cv at hv;cases hv;cases b with
  | true=>exact wpIn_cond_true hq (zFE ac x bh ak.1 af e)
  | false=>exact wpIn_cond_false hq (zFE ac y bh ak.2 af e)
 | .block id c,σ,st,a,w,outs,bh,ak,af,e=>by
  simp only[evC] at e;unfold fits at ak;obtain⟨xs,hx,aw⟩:=zAk e;refine wpIn_block (wpIn_mono (zFE ac c bh ak af hx) fun e' a' w' hq=>?_);obtain⟨o,hm,hex,τ,le,hs,hb⟩:=hq;obtain⟨os,ho,au⟩:=aw o hm;obtain⟨ex,st'⟩:=o;simp only at hex;unfold zDY at ho;cases hex with
  | normal=>simp only[one,xAN] at ho;subst ho;exact⟨_,au _ (List.mem_singleton.2 rfl),.normal,τ,le,hs,hb⟩
  | exit id'=>
   simp only[Exit.inBlock];by_cases hid:id'=id
   ·rw[if_pos hid];subst hid;simp only[Nat.beq_refl,xAG,one,xAN] at ho;subst ho;exact⟨_,au _ (List.mem_singleton.2 rfl),.normal,τ,le,hs,hb⟩
   ·rw[if_neg hid];simp only[zBn hid,xAH,one,xAN] at ho;subst ho;exact⟨_,au _ (List.mem_singleton.2 rfl),.exit id',τ,le,hs,hb⟩
  | ret=>simp only[one,xAN] at ho;subst ho;exact⟨_,au _ (List.mem_singleton.2 rfl),.ret,τ,le,hs,hb⟩
 | .loop c,σ,st,a,w,outs,bh,ak,af,e=>by
  simp only[evC] at e;unfold fits at ak;obtain⟨xs,hx,aw⟩:=zAk e;refine LoopIn.wpIn (wpIn_mono (zFE ac c bh ak af hx) fun e' a' w' hq=>?_);obtain⟨o,hm,hex,τ,le,hs,hb⟩:=hq;obtain⟨os,ho,au⟩:=aw o hm;obtain⟨ex,st'⟩:=o;simp only at hex;unfold thenC at ho;cases hex with
  | normal=>exact LoopIn.mono (ac.loop (bh.mono le) ak hs ho) fun e₂ a₂ w₂ hq₂=>hq₂.sub au le hb
  | exit id=>simp only[one,xAN] at ho;subst ho;exact⟨_,au _ (List.mem_singleton.2 rfl),.exit id,τ,le,hs,hb⟩
  | ret=>simp only[one,xAN] at ho;subst ho;exact⟨_,au _ (List.mem_singleton.2 rfl),.ret,τ,le,hs,hb⟩
 | .rangeFunc g ps aas body,σ,st,a,w,outs,bh,ak,af,e=>by
  simp only[evC] at e;exact zLg hE ac.toRecOps bh ak af e
 | .scope c,σ,st,a,w,outs,bh,ak,af,e=>by simp[evC] at e
 | .goto l,σ,st,a,w,outs,bh,ak,af,e=>by simp[evC] at e
 | .refuse s,σ,st,a,w,outs,bh,ak,af,e=>by simp[evC] at e
include hE in
theorem zN1{rec:Rec}(ac:zRj E rec){ro:Option Nat}{c:Code}{σ:Sg}{st:St}{a:Act}{w:World}{outs:List Out}(bh:FR σ F ro)(ak:fits n c=true)(af:StR n lo σ st a w)(e:loopCall E rec ro c st=some outs) :
  LoopIn F 0 E.prog c (QE n lo σ w outs) a w:=by
 unfold loopCall at e;obtain⟨xs,hx,aw⟩:=zAk e;refine LoopIn.again (wpIn_mono (zFE hE ac c bh ak af hx) fun e' a' w' hq=>?_);obtain⟨o,hm,hex,τ,le,hs,hb⟩:=hq;obtain⟨os,ho,au⟩:=aw o hm;obtain⟨ex,st'⟩:=o;simp only at hex;unfold thenC at ho;cases hex with
 | normal=>exact LoopIn.mono (ac.loop (bh.mono le) ak hs ho) fun e₂ a₂ w₂ hq₂=>hq₂.sub au le hb
 | exit id=>simp only[one,xAN] at ho;subst ho;exact⟨_,au _ (List.mem_singleton.2 rfl),.exit id,τ,le,hs,hb⟩
 | ret=>simp only[one,xAN] at ho;subst ho;exact⟨_,au _ (List.mem_singleton.2 rfl),.ret,τ,le,hs,hb⟩
end Go.AM
namespace Go.AM
open Go Go.Proofs Go.RowKit
variable {E:Env}
structure Fr(h h':AH):Prop where
 qa:h.qa<=h'.qa
 wm:h'.wm<=h.wm
 get:∀ b,b<h.qa->b<h'.wm->h'.get b=h.get b
theorem Fr.refl(h:AH):Fr h h:=⟨xAF _,xAF _,fun _ _ _=>rfl⟩
theorem Fr.trans{h h' h'':AH}(a:Fr h h')(b:Fr h' h''):Fr h h'':=
 ⟨Nat.le_trans a.qa b.qa,Nat.le_trans b.wm a.wm,fun c hc hw=>(b.get c (xAC hc a.qa) hw).trans (a.get c hc (xAC hw b.wm))⟩
theorem Fr.new(h:AH)(o:AObj):Fr h (h.new o):=⟨by simp,xAF _,fun b hb _=>by rw[AH.get_new,if_neg (by omega)]⟩
theorem zCm(h:AH)(b:Nat)(o:Option AObj):(h.upd b o).wm<=h.wm/\(h.upd b o).wm<=b:=by
 unfold AH.upd;cases hb:Nat.ble h.wm b with
 | true=>simp only[xAG];exact⟨xAF _,ble_true.1 hb⟩
 | false=>simp only[xAH];rw[ble_false] at hb;omega
theorem Fr.upd(h:AH)(b:Nat)(o:Option AObj):Fr h (h.upd b o):=
 ⟨xAF _,(zCm h b o).1,fun c _ hw=>by rw[AH.get_upd,if_neg];have:=(zCm h b o).2;omega⟩
theorem zAc{α:Type}{b:Bool}{x:Option α}{z:α}(h:cond b x none=some z):x=some z:=by
 cases b with
 | true=>exact h
 | false=>cases h
theorem zUD{t:TypeId}{v x:Value}{h h':AH}(e:zJF E t v x h=some h'):Fr h h':=by
 unfold zJF at e;split at e
 ·split at e
  ·simp only at e;split at e
   ·split at e
    ·cases e;exact Fr.upd ..
    ·cases e
   ·cases e
  ·cases e
 ·cases e
theorem zFt{t:TypeId}{m k v:Value}{h h':AH}(e:zA4 E t m k v h=some h'):Fr h h':=by
 unfold zA4 at e;split at e
 ·split at e
  ·have e:=zAc e;split at e
   ·cases e;exact Fr.upd ..
   ·cases e
  ·cases e
 ·cases e
theorem zEg{el:TypeId}{size n:Nat}{cs:List Value}{h:AH}{x:Value×AH}(e:zAx el size n cs h=some x):Fr h x.2:=by
 unfold zAx at e;have e:=zAc e;cases e;exact Fr.new ..
theorem zIR{b o len n cap at_:Nat}{cs vs:List Value}{ty:TypeId}{es:Nat}{h:AH}{x:Value×AH}(e:zEy b o len n cap at_ cs vs ty es h=some x):Fr h x.2:=by
 unfold zEy at e;have e:=zAc e;cases e;exact Fr.upd ..
theorem zAv{α:Type}{b:Bool}{x y z:α}(h:cond b x y=z):(b=true/\x=z)\/(b=false/\y=z):=by
 cases b with
 | true=>exact .inl ⟨rfl,h⟩
 | false=>exact .inr ⟨rfl,h⟩
theorem zMO{b o len cap:Nat}{el:TypeId}{size n:Nat}{cs vs:List Value}{ty:TypeId}{es:Nat}{h:AH}{x:Value×AH}(e:zDr b o len cap el size n cs vs ty es h=some x):Fr h x.2:=by
 unfold zDr at e;rcases zAv e with ⟨_,e⟩|⟨_,e⟩
 ·exact zIR e
 ·have e:=zAc e;unfold zDs at e;have e:=zAc e;exact (Fr.upd _ _ _).trans (zEg e)
theorem zMP{b o len cap:Nat}{el:TypeId}{size n:Nat}{cs vs:List Value}{ty:TypeId}{es:Nat}{ro:Bool}{h:AH}{x:Value×AH}(e:zCf b o len cap el size n cs vs ty es ro h=some x):Fr h x.2:=by
 unfold zCf at e;split at e
 ·exact zMO (zAc e)
 ·rcases zAv e with ⟨_,e⟩|⟨_,e⟩
  ·rcases zAv e with ⟨_,e⟩|⟨_,e⟩
   ·cases e
   ·exact zIR e
  ·exact zEg (zAc e)
theorem zOx{el:TypeId}{size n:Nat}{s:Value}{cs:List Value}{h:AH}{x:Value×AH}(e:zBb el size s n cs h=some x):Fr h x.2:=by
 unfold zBb at e;split at e
 ·rcases zAv e with ⟨_,e⟩|⟨_,e⟩
  ·cases e;exact Fr.refl _
  ·exact zEg e
 ·rcases zAv e with ⟨_,e⟩|⟨_,e⟩
  ·have e:=zAc e;cases e;exact Fr.refl _
  ·split at e
   ·exact zMP e
   ·cases e
 ·cases e
theorem zRh{ts:List TypeId}{s y:Value}{h:AH}{x:Value×AH}(e:zA8 E ts s y h=some x):Fr h x.2:=by
 unfold zA8 at e;split at e
 ·split at e
  ·rcases zAv e with ⟨_,e⟩|⟨_,e⟩
   ·cases e
   ·split at e
    ·unfold zCG at e;split at e
     ·exact zOx (zAc e)
     ·cases e
    ·cases e
  ·cases e
 ·cases e
def zCI(h:AH)(outs:List (Value×AH)):Prop:=∀ x∈outs,Fr h x.2
theorem zDO{h h':AH}{v:Value}(H:Fr h h'):zCI h [(v,h')]:=fun x hx=>by simp at hx;subst hx;exact H
theorem zAn{α:Type}{a:α}{l:List α}(h:one a=some l):l=[a]:=by unfold one at h;cases h;rfl
theorem zJB{t:TypeId}{z:Option Value}{h:AH}{outs:List (Value×AH)}(e:zW t h z=some outs):zCI h outs:=by
 unfold zW at e;split at e
 ·rw[zAn e];exact zDO (Fr.new ..)
 ·cases e
theorem zje{x:Option AH}{h:AH}{outs:List (Value×AH)}(e:u1 x=some outs)(H:∀ h',x=some h'->Fr h h'):zCI h outs:=by
 unfold u1 at e;split at e
 ·rw[zAn e];exact zDO (H _ rfl)
 ·cases e
theorem zNn{b:Builtin}{c:Call}{vs:List Value}{h:AH}{outs:List (Value×AH)}(e:zEl E b c vs h=some outs):zCI h outs:=by
 unfold zEl at e;split at e
 ·unfold v2 at e;split at e
  ·rename_i r hr;rw[zAn e];intro x hx;simp at hx;subst hx;exact zRh hr
  ·cases e
 ·unfold zHZ at e;split at e
  ·rw[zAn e];exact zDO (Fr.refl _)
  ·rcases zAv e with ⟨_,e⟩|⟨_,e⟩
   ·rw[zAn e];exact zDO (Fr.refl _)
   ·unfold zHX at e;split at e
    ·rw[zAn (zAc e)];exact zDO (Fr.upd ..)
    ·cases e
  ·cases e
 ·unfold zTz at e;split at e
  ·split at e
   ·split at e
    ·unfold zOd at e;split at e
     ·rw[zAn (zAc e)];exact zDO (Fr.upd ..)
     ·cases e
    ·cases e
   ·cases e
  ·cases e
 ·unfold zB1 at e;split at e
  ·unfold zjd at e;split at e
   ·split at e
    ·rw[zAn (zAc e)];exact zDO (Fr.upd ..)
    ·cases e
   ·cases e
  ·cases e
 ·cases e
theorem zeM{s:Bool}{x:Option Value}{h:AH}{outs:List (Value×AH)}(e:zHB s x h=some outs):zCI h outs:=by
 unfold zHB at e;split at e
 ·unfold zUp at e;split at e
  ·split at e
   ·rw[zAn e];exact zDO (Fr.refl _)
   ·split at e
    ·split at e
     ·cases e
     ·split at e
      ·rw[zAn e];exact zDO (Fr.refl _)
      ·cases e;intro x hx;obtain⟨⟨p,q⟩,_,rfl⟩:=List.mem_map.1 hx;exact Fr.upd ..
    ·cases e
   ·cases e
  ·cases e
 ·cases e
structure zE4(rec:Rec):Prop where
 call:∀ {f:FuncId} {args:List Value} {h:AH} {outs:List (Value×AH)},rec.call f args h=some outs->zCI h outs
 round:∀ {l:Nat} {args:List Value} {h:AH} {outs:List (Value×AH)},rec.round l args h=some outs->zCI h outs
 loop:∀ {ro:Option Nat} {c:Code} {st:St} {outs:List Out},rec.loop ro c st=some outs->∀ o∈outs,Fr st.h o.st.h
theorem zJn{rec:Rec}(ac:zE4 rec){T:Tm}{o:Oper}{h:AH}{outs:List (Value×AH)}(e:evWrite E rec T o h=some outs):zCI h outs:=by
 unfold evWrite at e;split at e
 ·exact zJB e
 ·exact zJB e
 ·unfold zb at e;split at e
  ·exact zje e fun _=>zUD
  ·cases e
 ·unfold zh at e;split at e
  ·split at e
   ·split at e
    ·rw[zAn (zAc e)];exact zDO (Fr.new ..)
    ·cases e
   ·cases e
  ·cases e
 ·rw[zAn e];exact zDO (Fr.new ..)
 ·unfold zBL at e;split at e
  ·split at e
   ·split at e
    ·rw[zAn (zAc e)];exact zDO (Fr.new ..)
    ·cases e
   ·cases e
  ·cases e
 ·unfold zAI at e;split at e
  ·exact zje e fun _=>zFt
  ·cases e
 ·unfold zAI at e;split at e
  ·exact zje e fun _=>zFt
  ·cases e
 ·split at e
  ·unfold zGx at e;split at e
   ·rw[zAn e];exact zDO (Fr.new ..)
   ·split at e
    ·rw[zAn e];exact zDO (Fr.new ..)
    ·cases e
   ·cases e
  ·cases e
 ·exact zeM e
 ·unfold wCall at e;split at e
  ·split at e
   ·exact zNn e
   ·cases e
  ·unfold zT at e;split at e
   ·unfold callFn at e;split at e
    ·exact ac.call e
    ·exact ac.round e
    ·cases e
   ·cases e
  ·cases e
 ·cases e
theorem zkj{rec:Rec}(ac:zE4 rec){T:Tm}{o:Oper}{h:AH}{outs:List (Value×AH)}(e:evOp E rec T o h=some outs):zCI h outs:=by
 unfold evOp at e;split at e
 ·obtain⟨v,_,rfl⟩:=zGK e;exact zDO (Fr.refl _)
 ·obtain⟨v,_,rfl⟩:=zGK e;exact zDO (Fr.refl _)
 ·exact zJn ac e
theorem zMJ{α β:Type}{f:α->R β}{p:α->Prop}{q:β->Prop}(hf:∀ a bs,p a->f a=some bs->∀ b∈bs,q b):∀ {l:List α} {bs:List β},(∀ a∈l,p a)->bindL f l=some bs->∀ b∈bs,q b
 | [],bs,_,h,b,hb=>by simp only[bindL,xAN] at h;subst h;cases hb
 | a::aas,bs,hp,h,b,hb=>by
  simp only[bindL] at h;split at h
  ·cases h
  ·rename_i xs h1;split at h
   ·cases h
   ·rename_i ys h2;cases h;rcases List.mem_append.1 hb with hb|hb
    ·exact hf a xs (hp a (by simp)) h1 b hb
    ·exact zMJ hf (fun c hc=>hp c (by simp[hc])) h2 b hb
theorem zAy{α β:Type}{x:R α}{f:α->R β}{p:α->Prop}{q:β->Prop}{bs:List β}(h:R.andThen x f=some bs)(hx:∀ l,x=some l->∀ a∈l,p a)(hf:∀ a bs,p a->f a=some bs->∀ b∈bs,q b):∀ b∈bs,q b:=by
 unfold R.andThen at h;split at h
 ·cases h
 ·rename_i a;exact hf a bs (hx _ rfl a (by simp)) h
 ·rename_i l _;exact zMJ hf (hx _ rfl) h
theorem zKw{rec:Rec}(ac:zE4 rec){all:List Oper}:∀(rest:List Oper) (st:St) (outs:List St),evOps E rec all rest st=some outs->∀ o∈outs,Fr st.h o.h
 | [],st,outs,e=>by
  simp only[evOps] at e;rw[zAn e];intro o ho;simp at ho;subst ho;exact Fr.refl _
 | o::rest,st,outs,e=>by
  simp only[evOps] at e;split at e
  ·exact zAy e (fun l hl=>zkj ac hl) fun x bs hx hb b aS=>hx.trans (zKw ac rest _ _ hb b aS)
  ·exact zKw ac rest ⟨putDst st.T o.dst undef,st.h,st.defs⟩ _ e
  ·cases e
theorem zKq{rec:Rec}(ac:zE4 rec){all:List Oper}{k:DK}{T:Tm}{done:Nat}{rds:List Rd}{h:AH}(hk:∀ T done rds rest h outs,k T done rds rest h=some outs->∀ o∈outs,Fr h o.h):∀(xs pre:List PO) (outs:List St),
  fires E rec all k T done rds h pre xs=some outs->∀ o∈outs,Fr h o.h
 | [],pre,outs,e=>by simp only[fires,xAN] at e;subst e;intro o ho;cases ho
 | p::xs,pre,outs,e=>by
  simp only[fires] at e;rcases zAv e with ⟨_,e⟩|⟨_,e⟩
  ·obtain⟨aas,bs,e1,e2,rfl⟩:=zJd e;intro o ho;rcases List.mem_append.1 ho with ho|ho
   ·unfold fire at e1;split at e1
    ·refine zAy (q:=fun o=>Fr h o.h) e1 (fun l hl=>zJn ac hl) (fun x bs hx hb b aS=>?_) o ho;unfold zVa at hb;exact hx.trans (hk _ _ _ _ _ _ (zAc hb) b aS)
    ·exact hk _ _ _ _ _ _ e1 o ho
    ·cases e1
   ·exact zKq ac hk xs _ bs e2 o ho
  ·exact zKq ac hk xs _ outs e
theorem zJr{rec:Rec}(ac:zE4 rec){all:List Oper}{defs:List Nat}:∀(f:Nat) (T:Tm) (done:Nat) (rds:List Rd) (rest:List PO) (h:AH) (outs:List St),drawRun E rec all defs f T done rds rest h=some outs->∀ o∈outs,Fr h o.h
 | 0,T,done,rds,rest,h,outs,e=>by simp[drawRun] at e
 | f+1,T,done,rds,rest,h,outs,e=>by
  simp only[drawRun] at e;split at e
  ·cases e
  ·split at e
   ·rw[zAn e];intro o ho;simp at ho;subst ho;exact Fr.refl _
   ·unfold zLU at e;split at e
    ·rename_i o os ho;cases e;exact zKq ac (zJr ac f) _ _ _ ho
    ·cases e
theorem zOU{rec:Rec}(ac:zE4 rec){ops:List Oper}{draw:Bool}{st:St}{outs:List St}(e:evRegion E rec ops draw st=some outs):∀ o∈outs,Fr st.h o.h:=by
 unfold evRegion at e;split at e
 ·exact zKw ac _ _ _ e
 ·exact zJr ac _ _ _ _ _ _ _ e
theorem zOZ{l:Nat}{T:Tm}{defs:List Nat}{h:AH}{outs:List Out}(e:zBa l T defs h=some outs):∀ o∈outs,Fr h o.st.h:=by
 unfold zBa at e;split at e
 ·rcases zAv e with ⟨_,e⟩|⟨_,e⟩
  ·cases e
  ·unfold zGl at e;split at e
   ·rw[zAn e];intro o ho;simp at ho;subst ho;exact Fr.upd ..
   ·cases e
 ·cases e
theorem zFg{rec:Rec}(ac:zE4 rec){f:FuncId}{fs cs:List Value}{ps:List Tmp}{aas body:Code}{d:Nat}{defs:List Nat}{T:Tm}{h:AH}{outs:List Out}(e:zBx rec f fs cs ps aas body d defs T h=some outs):∀ o∈outs,Fr h o.st.h:=by
 unfold zBx at e;exact zAy e (fun l hl=>ac.call hl) fun x bs hx hb b aS=>(Fr.new h _).trans (hx.trans (zOZ hb b aS))
theorem zFF{rec:Rec}(ac:zE4 rec){ro:Option Nat}:∀(c:Code) {st:St} {outs:List Out},evC E rec ro c st=some outs->∀ o∈outs,Fr st.h o.st.h
 | .skip,st,outs,e=>by simp only[evC,outOf] at e;rw[zAn e];intro o ho;simp at ho;subst ho;exact Fr.refl _
 | .label l,st,outs,e=>by simp only[evC,outOf] at e;rw[zAn e];intro o ho;simp at ho;subst ho;exact Fr.refl _
 | .exit id,st,outs,e=>by simp only[evC] at e;rw[zAn e];intro o ho;simp at ho;subst ho;exact Fr.refl _
 | .ret,st,outs,e=>by simp only[evC] at e;rw[zAn e];intro o ho;simp at ho;subst ho;exact Fr.refl _
 | .region id ops d,st,outs,e=>by
  simp only[evC] at e;refine zAy (p:=fun s=>Fr st.h s.h) e (fun l hl=>zOU ac hl) fun x bs hx hb b aS=>?_;unfold outOf at hb;rw[zAn hb] at aS;simp at aS;subst aS;exact hx
 | .seq x y,st,outs,e=>by
  simp only[evC] at e;refine zAy (p:=fun s=>Fr st.h s.st.h) e (fun l hl=>zFF ac x hl) fun o bs hx hb b aS=>?_;unfold thenC at hb;split at hb
  ·exact hx.trans (zFF ac y hb b aS)
  ·rw[zAn hb] at aS;simp at aS;subst aS;exact hx
 | .cond c x y,st,outs,e=>by
  simp only[evC] at e;unfold zVp at e;split at e
  ·rcases zAv e with ⟨_,e⟩|⟨_,e⟩
   ·exact zFF ac x e
   ·exact zFF ac y e
  ·cases e
 | .block id c,st,outs,e=>by
  simp only[evC] at e;refine zAy (p:=fun s=>Fr st.h s.st.h) e (fun l hl=>zFF ac c hl) fun o bs hx hb b aS=>?_;unfold zDY at hb;split at hb
  ·rcases zAv hb with ⟨_,hb⟩|⟨_,hb⟩ <;> (rw[zAn hb] at aS;simp at aS;subst aS;exact hx)
  ·rw[zAn hb] at aS;simp at aS;subst aS;exact hx
 | .loop c,st,outs,e=>by
  simp only[evC] at e;refine zAy (p:=fun s=>Fr st.h s.st.h) e (fun l hl=>zFF ac c hl) fun o bs hx hb b aS=>?_;unfold thenC at hb;split at hb
  ·exact hx.trans (ac.loop hb b aS)
  ·rw[zAn hb] at aS;simp at aS;subst aS;exact hx
 | .rangeFunc g ps aas body,st,outs,e=>by
  simp only[evC] at e;unfold evRange at e;split at e
  ·have e:=zAc e;split at e
   ·exact fun o ho=>(Fr.new _ _).trans (zFg ac e o ho)
   ·exact zFg ac (zAc e)
  ·cases e
 | .scope c,st,outs,e=>by simp[evC] at e
 | .goto l,st,outs,e=>by simp[evC] at e
 | .refuse s,st,outs,e=>by simp[evC] at e
end Go.AM
namespace Go.AM
open Go Go.Proofs Go.RowKit
variable {E:Env} {lo:Nat}
mutual
theorem VR.back{σ τ:Sg}(le:Sg.le σ τ):∀ {v x y:Value},VR σ v x->VR τ v y->VR σ v y
 | _,_,_,.bool b,h=>by cases h;exact .bool b
 | _,_,_,.int k n,h=>by cases h;exact .int k n
 | _,_,_,.float k n,h=>by cases h;exact .float k n
 | _,_,_,.complex k m n,h=>by cases h;exact .complex k m n
 | _,_,_,.string s,h=>by cases h;exact .string s
 | _,_,_,.ptrN,h=>by cases h;exact .ptrN
 | _,_,_,.ptr o hs,h=>by
  cases h with
  | ptr _ ht=>rw[le _ _ hs] at ht;cases ht;exact .ptr o hs
 | _,_,_,.sliceN n c,h=>by cases h;exact .sliceN n c
 | _,_,_,.slice o n c hs hc,h=>by
  cases h with
  | slice _ _ _ ht _=>rw[le _ _ hs] at ht;cases ht;exact .slice o n c hs hc
  | sliceU _ _ _ ht aH hn=>rw[le _ _ hs] at ht;cases ht;omega
 | _,_,_,.sliceU o n c hs hc hn,h=>by
  generalize hq:UNK+_=cap at h;cases h with
  | slice _ _ _ ht aH=>omega
  | sliceU _ _ c' ht aH iG=>
   rw[le _ _ hs] at ht;cases ht;rw[← hq];exact .sliceU o n c' hs aH iG
 | _,_,_,.sliceS _,h=>by cases h;exact .sliceS _
 | _,_,_,.mapN,h=>by cases h;exact .mapN
 | _,_,_,.map hs,h=>by
  cases h with
  | map ht=>rw[le _ _ hs] at ht;cases ht;exact .map hs
 | _,_,_,.chanN,h=>by cases h;exact .chanN
 | _,_,_,.func f ha hb,h=>by
  cases h with
  | func _ cT ao=>exact .func f (VRs.back le ha cT) (VRs.back le hb ao)
 | _,_,_,.yield hs ha hb,h=>by
  cases h with
  | yield ht cT ao=>rw[le _ _ hs] at ht;cases ht;exact .yield hs (VRs.back le ha cT) (VRs.back le hb ao)
 | _,_,_,.nilFunc,h=>by cases h;exact .nilFunc
 | _,_,_,.nilIface,h=>by cases h;exact .nilIface
 | _,_,_,.iface t hv,h=>by
  cases h with
  | iface _ ay=>exact .iface t (VR.back le hv ay)
 | _,_,_,.agg ha,h=>by
  cases h with
  | agg cT=>exact .agg (VRs.back le ha cT)
 | _,_,_,.tuple ha,h=>by
  cases h with
  | tuple cT=>exact .tuple (VRs.back le ha cT)
theorem VRs.back{σ τ:Sg}(le:Sg.le σ τ):∀ {v x y:List Value},VRs σ v x->VRs τ v y->VRs σ v y
 | _,_,_,.nil,h=>by cases h;exact .nil
 | _,_,_,.cons h hs,h'=>by
  cases h' with
  | cons k ks=>exact .cons (VR.back le h k) (VRs.back le hs ks)
end
theorem EntsR.back{σ τ:Sg}(le:Sg.le σ τ):∀ {es:List (Value×Value)} {p q:List MapEntry},EntsR σ es p->EntsR τ es q->EntsR σ es q
 | _,_,_,.nil,h=>by cases h;exact .nil
 | _,_,_,.cons hk hv hs,h=>by
  cases h with
  | cons dQ ay aQ=>exact .cons (hk.back le dQ) (hv.back le ay) (EntsR.back le hs aQ)
theorem OR.back{σ τ:Sg}(le:Sg.le σ τ){h h':AH}{o:AObj}{l:Loc}{w w':World}(A:OR σ h o l w)(B:OR τ h' o l w')(hm:∀ m lm,σ m=some lm->h'.get m=h.get m):OR σ h o l w':=by
 cases o with
 | row vs ty es ro=>
  obtain⟨cs,el,frz,a1,a2⟩:=A;obtain⟨ds,el',frz',b1,b2⟩:=B;refine⟨ds,el',frz',b1,b2.size,fun i v hv=>?_,b2.free,b2.elt,b2.fixed,b2.grown⟩;obtain⟨u,_,u2⟩:=a2.cell i v hv;obtain⟨u',u1',u2'⟩:=b2.cell i v hv;exact⟨u',u1',u2.back le u2'⟩
 | map es v=>
  obtain⟨ents,clock,a1,a2⟩:=A;obtain⟨ents',clock',b1,b2⟩:=B;obtain⟨p,_,p2⟩:=a2.perm;obtain⟨q,q1,q2⟩:=b2.perm;exact⟨ents',clock',b1,b2.born,b2.nodup,q,q1,p2.back le q2⟩
 | iter m ver left cur=>
  cases m with
  | none=>exact B
  | some m=>
   obtain⟨lm,since,seen,last,a1,a2,a3⟩:=A;obtain⟨lm',since',seen',last',b1,b2,b3⟩:=B;rw[le _ _ a1] at b1;cases b1;refine⟨lm,since',seen',last',a1,b2,fun es v' hg=>?_⟩;obtain⟨c1,c2⟩:=a3 es v' hg;obtain⟨d1,d2⟩:=b3 es v' ((hm m lm a1).trans hg);refine⟨c1,fun ev=>?_⟩;obtain⟨_,_,_,⟨⟨p,_,p2⟩,pc⟩⟩:=c2 ev;obtain⟨ents',e1,e2,⟨⟨q,q1,q2⟩,qc⟩⟩:=d2 ev;refine⟨ents',e1,e2,⟨q,q1,p2.back le q2⟩,fun c hc=>?_⟩;obtain⟨x,_,_,x3,x4⟩:=pc c hc;obtain⟨y,y1,y2,y3,y4⟩:=qc c hc;exact⟨y,y1,y2,x3.back le y3,x4.back le y4⟩
 | loop st pend T ps aas body d=>
  obtain⟨r,a1,a2,a3,a4,a5,a6,a7,a8⟩:=A;obtain⟨r',b1,b2,b3,b4,b5,b6,b7,b8⟩:=B;exact⟨r',b1,b2,b3,b4,b5,b6,⟨b7.size,fun k=>(a7.get k).back le (b7.get k)⟩,b8⟩
 | defd=>exact B
theorem HR.back{σ τ:Sg}{h h':AH}{w w':World}(H:HR lo σ h w)(H':HR lo τ h' w')(le:Sg.le σ τ)(hg:∀ b,b<h.qa->h'.get b=h.get b):HR lo σ h w':=by
 have get:∀ {b o},h.get b=some o->h'.get b=some o:=by
  intro b o hb;rcases Nat.lt_or_ge b h.qa with ab|cW
  ·rw[hg b ab];exact hb
  ·rw[H.qb b cW] at hb;cases hb
 refine⟨H.dom,H.qb,fun b o hb=>?_,fun b b' o o' l l' h1 h2 s1 s2=>H'.inj b b' o o' l l' (get h1) (get h2) (le _ _ s1) (le _ _ s2),H'.lo⟩;obtain⟨l,a1,a2,a3⟩:=H.live b o hb;obtain⟨l',b1,b2,b3⟩:=H'.live b o (get hb);rw[le _ _ a1] at b1;cases b1;exact⟨l,a1,a2.back le b2 fun m lm hm=>hg m (H.dom _ _ hm),b3⟩
theorem HR.sub{σ:Sg}{h h':AH}{w:World}(H:HR lo σ h w)(hn:h'.qa=h.qa)(hs:∀ b,h'.get b=none\/h'.get b=h.get b):HR lo σ h' w:=by
 have sub:∀ c x,h'.get c=some x->h.get c=some x:=fun c x e=>by
  rcases hs c with h0|h0
  ·rw[h0] at e;cases e
  ·rw[← h0];exact e
 refine⟨fun b l e=>hn ▸ H.dom b l e,fun c hc=>?_,fun c x e=>?_,fun c c' o1 o2 l1 l2 e1 e2=>H.inj c c' o1 o2 l1 l2 (sub _ _ e1) (sub _ _ e2),H.lo⟩
 ·rcases hs c with h0|h0
  ·exact h0
  ·rw[h0];exact H.qb c (hn ▸ hc)
 ·obtain⟨l,a,k,d⟩:=H.live c x (sub c x e);exact⟨l,a,OR.mono k (Sg.le_refl σ) rfl (fun m es v lm hm _=>⟨sub _ _ hm,rfl⟩),d⟩
theorem zL2{h:AH}{t0:Tr AObj}:∀(ids:List Nat) (c:Nat),(ids.foldr (fun b t=>t.set (b+1) b (h.get b)) t0).get c=if c∈ids then h.get c else t0.get c
 | [],c=>by simp
 | b::ids,c=>by
  simp only[List.foldr_cons];rw[Tr.get_set _ _ _ _ _ (Nat.lt_succ_self b),zL2 ids c];by_cases e:c=b
  ·subst e;simp
  ·rw[if_neg e];by_cases m:c∈ids
   ·rw[if_pos m,if_pos (by simp[m])]
   ·rw[if_neg m,if_neg (by simp[e,m])]
theorem zCd(h0 h:AH)(ids:List Nat)(c:Nat):(zDV h0 h ids).get c=if c∈ids then h.get c else h0.get c:=zL2 ids c
theorem zii{a b:Option AObj}(h:oeq a b=true):a=b:=by
 unfold oeq at h;split at h
 ·rfl
 ·simp only[xAP,beq_true] at h;obtain⟨⟨⟨h1,h2⟩,h3⟩,h4⟩:=h;rw[(zGy 1000).2 _ _ h1,h2,h3,eq_of_beq h4]
 ·rename_i a v b w;simp only[xAP,beq_true] at h;obtain⟨⟨h1,h2⟩,h3⟩:=h;have e2:=(zGy 1000).2 _ _ h2;have e3:=(zGy 1000).2 _ _ h3;have:a=b:=by
   apply List.ext_getElem?;intro i;have g2:=congrArg (·[i]?) e2;have g3:=congrArg (·[i]?) e3;simp only[List.getElem?_map] at g2 g3;cases ha:a[i]? with
   | none=>cases hb:b[i]? with
    | none=>rfl
    | some y=>rw[ha,hb] at g2;simp at g2
   | some x=>cases hb:b[i]? with
    | none=>rw[ha,hb] at g2;simp at g2
    | some y=>rw[ha,hb] at g2 g3;simp at g2 g3;rw[Prod.ext g2 g3]
  rw[h1,this]
 ·cases h
structure KOK(h0:AH)(k:zKI):Prop where
 at0:∀ b,b ∉ k.2.1->k.2.2.get b=h0.get b
 old:∀ b,b<h0.qa->k.2.2.get b=h0.get b
 qa:h0.qa<=k.2.2.qa
theorem zVH{h0:AH}{x:Value×AH}(hf:Fr h0 x.2)(hc:zD9 h0 x=true):KOK h0 (kept h0 x):=by
 unfold zD9 at hc;rw[ble_true] at hc;refine⟨fun b hb=>?_,fun b hb=>?_,hf.qa⟩
 ·show (zDV _ _ _).get b=_;rw[zCd];exact if_neg hb
 ·show (zDV _ _ _).get b=_;rw[zCd];split
  ·exact hf.get b hb (xAC hb hc)
  ·rfl
theorem zfH{h0:AH}(e9:∀ b,h0.qa<=b->h0.get b=none){a b:zKI}(ha:KOK h0 a)(hb:KOK h0 b)(h:zK6 a b=true):b.1=a.1/\b.2.2.qa=a.2.2.qa/\∀ c,b.2.2.get c=none\/b.2.2.get c=a.2.2.get c:=by
 unfold zK6 at h;simp only[xAP,beq_true,List.all_eq_true] at h;obtain⟨⟨h1,h2⟩,h3⟩:=h;refine⟨((zGy 1000).1 _ _ h1).symm,h2.symm,fun c=>?_⟩;by_cases hc:c∈b.2.1
 ·have:=h3 c hc;unfold ziY at this;simp only[xAP] at this;exact .inr (zii this.2).symm
 ·rcases Nat.lt_or_ge c h0.qa with ab|cW
  ·exact .inr ((hb.old c ab).trans (ha.old c ab).symm)
  ·exact .inl ((hb.at0 c hc).trans (e9 c cW))
theorem zKa{h0:AH}(e9:∀ b,h0.qa<=b->h0.get b=none):∀(l acc:List zKI),(∀ k∈l,KOK h0 k)->(∀ k∈acc,KOK h0 k)->
  (∀ k∈zEK l acc,KOK h0 k)/\(∀ k∈acc,k∈zEK l acc)/\∀ k∈l,∃ k'∈zEK l acc,k'.1=k.1/\k'.2.2.qa=k.2.2.qa/\∀ c,k'.2.2.get c=none\/k'.2.2.get c=k.2.2.get c
 | [],acc,_,ha=>⟨ha,fun k hk=>hk,fun k hk=>by cases hk⟩
 | x::l,acc,hl,ha=>by
  simp only[zEK];cases hx:acc.any (zK6 x) with
  | true=>
   simp only[xAG];obtain⟨i1,i2,i3⟩:=zKa e9 l acc (fun k hk=>hl k (by simp[hk])) ha;refine⟨i1,i2,fun k hk=>?_⟩;rcases List.mem_cons.1 hk with rfl|hk
   ·obtain⟨b,b1,b2⟩:=List.any_eq_true.1 hx;exact⟨b,i2 b b1,zfH e9 (hl k (by simp)) (ha b b1) b2⟩
   ·exact i3 k hk
  | false=>
   simp only[xAH];obtain⟨i1,i2,i3⟩:=zKa e9 l (acc++[x]) (fun k hk=>hl k (by simp[hk])) (fun k hk=>by
    rcases List.mem_append.1 hk with hk|hk
    ·exact ha k hk
    ·simp at hk;subst hk;exact hl _ (by simp))
   refine⟨i1,fun k hk=>i2 k (by simp[hk]),fun k hk=>?_⟩;rcases List.mem_cons.1 hk with rfl|hk
   ·exact⟨k,i2 k (by simp),rfl,rfl,fun _=>.inr rfl⟩
   ·exact i3 k hk
theorem zH4{p:zKI->Prop}:∀(l acc:List zKI),(∀ k∈l,p k)->(∀ k∈acc,p k)->∀ k∈zEK l acc,p k
 | [],acc,_,ha,k,hk=>ha k hk
 | x::l,acc,hl,ha,k,hk=>by
  simp only[zEK] at hk;rcases Bool.eq_false_or_eq_true (acc.any (zK6 x)) with hb|hb
  ·rw[hb] at hk;exact zH4 l acc (fun k hk=>hl k (by simp[hk])) ha k hk
  ·rw[hb] at hk;refine zH4 l (acc++[x]) (fun k hk=>hl k (by simp[hk])) (fun k hk=>?_) k hk;rcases List.mem_append.1 hk with hk|hk
   ·exact ha k hk
   ·simp at hk;subst hk;exact hl _ (by simp)
theorem zPM{h0:AH}{x:Value×AH}(hf:Fr h0 x.2):Fr h0 (zBQ h0 x).2:=by
 unfold zBQ;cases hc:(zD9 h0 x&&zg x.1) with
 | true=>exact Fr.refl h0
 | false=>exact hf
theorem zLX{h0:AH}{outs:List (Value×AH)}(hf:zCI h0 outs):zCI h0 (zB4 h0 outs):=by
 unfold zB4;cases hc:outs.all (zD9 h0) with
 | false=>exact hf
 | true=>
  simp only[xAG];rw[List.all_eq_true] at hc;have hk:∀ k∈outs.map (kept h0),KOK h0 k/\k.2.2.wm<=h0.wm:=by
   intro k hk;obtain⟨x,x1,rfl⟩:=List.mem_map.1 hk;exact⟨zVH (hf x x1) (hc x x1),(hf x x1).wm⟩
  intro x hx;obtain⟨k,k1,rfl⟩:=List.mem_map.1 hx;have h1:=zH4 _ [] hk (by simp) k k1;exact⟨h1.1.qa,h1.2,fun b hb _=>h1.1.old b hb⟩
theorem zCa(h0:AH)(outs:List (Value×AH)):(∃ x,outs=[x]/\zEF h0 outs=[zBQ h0 x])\/zEF h0 outs=zB4 h0 (outs.map (zBQ h0)):=by
 unfold zEF;split
 ·exact .inl ⟨_,rfl,rfl⟩
 ·exact .inr rfl
theorem zLd{h0:AH}{outs:List (Value×AH)}(hf:zCI h0 outs):zCI h0 (outs.map (zBQ h0)):=by
 intro x hx;obtain⟨y,y1,rfl⟩:=List.mem_map.1 hx;exact zPM (hf y y1)
theorem zUR{h0:AH}{outs:List (Value×AH)}(hf:zCI h0 outs):zCI h0 (zEF h0 outs):=by
 rcases zCa h0 outs with ⟨x,rfl,hse⟩|hse
 ·rw[hse];intro y hy;simp at hy;subst hy;exact zPM (hf x (by simp))
 ·rw[hse];exact zLX (zLd hf)
theorem zeZ{σ:Sg}{h0:AH}{w:World}(H:HR lo σ h0 w){x:Value×AH}(hf:Fr h0 x.2){τ:Sg}{v:Value}{w':World}(le:Sg.le σ τ)(H':HR lo τ x.2 w')(hv:VR τ x.1 v) :
  ∃ υ,Sg.le σ υ/\HR lo υ (zBQ h0 x).2 w'/\VR υ (zBQ h0 x).1 v:=by
 unfold zBQ;cases hc:(zD9 h0 x&&zg x.1) with
 | false=>exact⟨τ,le,H',hv⟩
 | true=>
  simp only[xAP] at hc;have aG:=ble_true.1 hc.1;refine⟨σ,Sg.le_refl σ,?_,?_⟩
  ·have:=H.back H' le fun b hb=>hf.get b hb (xAC hb aG);exact this.same rfl fun _=>rfl
  ·show VR σ x.1 v;rw[VR.eq_of_isFlat hc.2 hv];exact VR.of_isFlat hc.2
theorem zLW{σ:Sg}{h0:AH}{w:World}(H:HR lo σ h0 w){outs:List (Value×AH)}(hf:zCI h0 outs){v:Value}{w':World}(g:zFb lo σ w outs v w'):zFb lo σ w (zB4 h0 outs) v w':=by
 obtain⟨x,hx,τ,le,H',hv,hb⟩:=g;unfold zB4;cases hc:outs.all (zD9 h0) with
 | false=>exact⟨x,hx,τ,le,H',hv,hb⟩
 | true=>
  simp only[xAG];rw[List.all_eq_true] at hc;have hk:∀ k∈outs.map (kept h0),KOK h0 k:=by
   intro k hk;obtain⟨x,x1,rfl⟩:=List.mem_map.1 hk;exact zVH (hf x x1) (hc x x1)
  obtain⟨_,_,i3⟩:=zKa H.qb _ [] hk (by simp);obtain⟨k',k1,k2,k3,k4⟩:=i3 (kept h0 x) (List.mem_map.2 ⟨x,hx,rfl⟩);refine⟨(k'.1,k'.2.2),List.mem_map.2 ⟨k',k1,rfl⟩,τ,le,?_,by rw[k2];exact hv,hb⟩;have jl:HR lo τ (zDV h0 x.2 (zEJ x.2 h0.qa 1000 (zDm 4 x.1) [])) w':=H'.sub rfl fun b=>by
   rw[zCd];split
   ·exact .inr rfl
   ·rcases Nat.lt_or_ge b h0.qa with ab|cW
    ·exact .inr ((hf x hx).get b ab (xAC ab (ble_true.1 (hc x hx)))).symm
    ·exact .inl (H.qb b cW)
  exact jl.sub k3 k4
theorem zUP{σ:Sg}{h0:AH}{w:World}(H:HR lo σ h0 w){outs:List (Value×AH)}(hf:zCI h0 outs){v:Value}{w':World}(g:zFb lo σ w outs v w'):zFb lo σ w (zEF h0 outs) v w':=by
 obtain⟨x,hx,τ,le,H',hv,hb⟩:=g;obtain⟨υ,l1,l2,l3⟩:=zeZ H (hf x hx) le H' hv;rcases zCa h0 outs with ⟨y,rfl,hse⟩|hse
 ·rw[hse];simp at hx;subst hx;exact⟨_,List.mem_singleton.2 rfl,υ,l1,l2,l3,hb⟩
 ·rw[hse];exact zLW H (zLd hf) ⟨zBQ h0 x,List.mem_map.2 ⟨x,hx,rfl⟩,υ,l1,l2,l3,hb⟩
end Go.AM
namespace Go.AM
open Go Go.Proofs Go.RowKit
variable {E:Env} (hE:zCg E) {lo:Nat} {σ:Sg} {T:Tm} {h:AH} {w:World}
def zmr(tmps:Array Value):ResultVar->Sem Value
 | .tmp t=>pure (tmps.getD t undef)
 | .cell a t=>do loadVar t (← asAddr (tmps.getD a undef))
theorem zQv(fn:Func)(tmps:Array Value):results fn tmps=(do let vs ← fn.results.mapM (zmr tmps);pure (if h:vs.size=1 then vs[0] else .tuple vs)):=by
 unfold results
 congr 1
 try (congr 1;funext x;cases x <;> rfl)
include hE in
theorem zEq{tmps:Array Value}(H:HR lo σ h w)(hT:TmR σ T tmps):∀ {rs:List ResultVar} {vs:List Value},zCj E T h rs=some vs->∃ vs',(rs.mapM (zmr tmps)).run E.prog w=.ok vs' w/\VRs σ vs vs'
 | [],vs,e=>by
  simp only[zCj,xAN] at e;subst e;exact⟨[],by simp,.nil⟩
 | .tmp t::rs,vs,e=>by
  simp only[zCj] at e;split at e
  ·rename_i us hus;cases e;obtain⟨vs',q1,q2⟩:=zEq H hT hus;exact⟨tmps.getD t undef::vs',by rw[List.mapM_cons];simp[zmr,q1],.cons (hT.get t) q2⟩
  ·cases e
 | .cell a t::rs,vs,e=>by
  simp only[zCj] at e;split at e
  ·rename_i v us hv hus;cases e;obtain⟨vs',q1,q2⟩:=zEq H hT hus;obtain⟨v',p1,p2⟩:=zPa hE H (hT.get a) hv;have hp:∃ ad,tmps.getD a undef=.pointer (some ad):=by
    have hr:=hT.get a;unfold zE2 at hv;split at hv
    ·rename_i di;rw[di] at hr;generalize hq:tmps.getD a undef=q at hr;cases hr;exact⟨_,rfl⟩
    ·cases hv
   obtain⟨ad,had⟩:=hp;rw[had] at p1;have p1':(loadVar t ad).run E.prog w=.ok v' w:=p1;refine⟨v'::vs',?_,.cons p2 q2⟩;rw[List.mapM_cons];simp only[zmr,had,asAddr,Sem.run_bind,Sem.run_pure,Result.andThen_ok,p1',q1]
  ·cases e
include hE in
theorem zQu{fn:Func}{tmps:Array Value}(H:HR lo σ h w)(hT:TmR σ T tmps){v:Value}(e:zEp E fn T h=some v):∃ v',(results fn tmps).run E.prog w=.ok v' w/\VR σ v v':=by
 unfold zEp at e;rw[zQv];have hm:∀ vs',(fn.results.toList.mapM (zmr tmps)).run E.prog w=.ok vs' w->(fn.results.mapM (zmr tmps)).run E.prog w=.ok vs'.toArray w:=by
  intro vs' hv;rw[Array.mapM_eq_mapM_toList,← bind_pure_comp];simp only[Sem.run_bind,hv,Result.andThen_ok,Sem.run_pure]
 split at e
 ·rename_i v0 hv;cases e;obtain⟨vs',q1,q2⟩:=zEq hE H hT hv;obtain⟨x,rfl,hx⟩:=q2.one1;refine⟨x,?_,hx⟩;simp[Sem.run_bind,hm _ q1]
 ·rename_i vs ah hv;cases e;obtain⟨vs',q1,q2⟩:=zEq hE H hT hv;refine⟨.tuple vs'.toArray,?_,.tuple (by simpa using q2)⟩;have hl:¬ vs'.length=1:=by
   intro hl;have:=q2.length;rw[hl] at this
   match vs,this with
   | [v],_=>exact ah v rfl
  simp[Sem.run_bind,hm _ q1,hl]
 ·cases e
theorem HR.setDead(H:HR lo σ h w)(k:Nat)(ob:Obj)(hk:k<w.heap.size)(hd:∀ c x m,h.get c=some x->σ c=some m->m.blk≠k):HR lo σ h (World.put w k ob):=by
 have old:∀ j,j≠k->(World.put w k ob).heap[j]?=w.heap[j]?:=fun j hj=>by rw[World.put_get hk,if_neg hj]
 refine⟨H.dom,H.qb,fun c x hx=>?_,H.inj,by rw[zPI];exact H.lo⟩;obtain⟨l,a1,a2,a3⟩:=H.live c x hx;exact⟨l,a1,a2.mono (Sg.le_refl σ) (old _ (hd c x l hx a1)) (fun m es v lm hm hs=>⟨hm,old _ (hd m _ lm hm hs)⟩),a3⟩
theorem zLu{F:Fence}{P:Program}{fn:Func}{tmps:Array Value}{R:Ending->World->Prop}:∀ {defs:List Nat} {ds:List Deferred} {h h':AH} {w:World},DefsR σ defs ds->HR lo σ h w->zB9 defs h=some h'->
  (∀ w',HR lo σ h' w'->Below lo w w'->LeavesIn F 0 P fn tmps R [] .returning w')->LeavesInM F 0 P fn tmps R ds .returning w
 | [],_,h,h',w,.nil,H,e,hK=>by
  simp only[zB9,xAN] at e;subst e;exact hK w H (Below.refl _ _)
 | b::bs,_,h,h',w,.cons (l:=l) (ds:=ds) hσ hs,H,e,hK=>by
  simp only[zB9] at e;split at e;rotate_left
  ·cases e
  rename_i hb;obtain⟨l',a1,eG,a3⟩:=H.live b _ hb;rw[hσ] at a1;cases a1;have hw:w.heap[l.blk]?=some (.deferred (some [])):=eG;have ab:=zAr hw;have H':HR lo σ (h.upd b none) (World.put w l.blk (.deferred none)):=by
   refine (H.kill b).setDead _ _ ab fun c x m hc hm di=>?_;rw[AH.get_upd] at hc;split at hc
   ·cases hc
   ·rename_i eb;have:=(H.inj c b x .defd m l hc hb hm hσ di eb).2;cases this
  have cR:Below lo w (World.put w l.blk (.deferred none)):=zEd _ (a3 rfl);refine⟨by simp,.inl ⟨l.blk,World.put w l.blk (.deferred none),rfl,?_,zLu hs H' e fun w' cY ao=>hK w' cY (cR.trans ao)⟩⟩;unfold Instr.takeDeferred;simp[Sem.run_bind,zBA hw (by intros;intro h;cases h),zEo (.deferred none) hw (by intros;intro h;cases h)]
theorem zIB:∀(vs:List Value) (k:Nat) (t:Tr Value) (j:Nat),(zCB vs k t).get j=if k<=j/\j<k+vs.length then vs[j-k]? else t.get j
 | [],k,t,j=>by simp[zCB];intro h1 h2;omega
 | v::vs,k,t,j=>by
  simp only[zCB];rw[zIB vs (k+1),Tr.get_set _ _ _ _ _ (Nat.lt_succ_self k)];by_cases h1:k+1<=j/\j<k+1+vs.length
  ·rw[if_pos h1,if_pos (by simp;omega)];rw[show j-k=(j-(k+1))+1 by omega,List.getElem?_cons_succ]
  ·rw[if_neg h1];by_cases h2:j=k
   ·subst h2;rw[if_pos rfl,if_pos (by simp)];simp
   ·rw[if_neg h2,if_neg (by simp;omega)]
theorem zkS{args args':List Value}(ha:VRs σ args args'){n:Nat}(hn:args.length<=n):TmR σ ⟨n,zCB args 0 .e⟩ (args'.toArray++Array.replicate (n-args'.toArray.size) undef):=by
 have hl:=ha.length;refine⟨by simp;omega,fun k=>?_⟩;show VR σ ((zCB args 0 .e).get k |>.getD undef) _;rw[zIB,Array.getD_eq_getD_getElem?,Array.getElem?_append];by_cases hk:k<args.length
 ·rw[if_pos ⟨Nat.zero_le _,by omega⟩,if_pos (by simp;omega)];simp only[Nat.sub_zero,List.getElem?_toArray];obtain⟨b,b1,b2⟩:=ha.get (xAA hk);rw[b1,xAA hk];exact b2
 ·rw[if_neg (by omega),if_neg (by simp;omega),Array.getElem?_replicate];simp only[Tr.get_e,Option.getD_none];split <;> exact .tuple .nil
theorem zJc:∀ {defs:List Nat} {h h':AH},zB9 defs h=some h'->Fr h h'
 | [],h,h',e=>by simp only[zB9,xAN] at e;subst e;exact Fr.refl _
 | b::bs,h,h',e=>by
  simp only[zB9] at e;split at e
  ·exact (Fr.upd _ _ _).trans (zJc e)
  ·cases e
theorem zWO{rec:Rec}(cF:zE4 rec){fn:Func}{c:Code}{st:St}{os:List (Value×AH)}(iF:R.andThen (evC E rec none c st) (zAW E fn)=some os):zCI st.h os:=
 zAy (p:=fun o=>Fr st.h o.st.h) iF (fun l hl=>zFF cF c hl) fun o bs ho aI b aS=>by
  unfold zAW at aI;split at aI
  ·cases aI
  ·unfold zCC at aI;split at aI
   ·rename_i hk;obtain⟨v,_,rfl⟩:=zGK aI;simp at aS;subst aS;exact ho.trans (zJc hk)
   ·cases aI
theorem zOt{rec:Rec}(cF:zE4 rec){fn:Func}{c:Code}{args:List Value}{h:AH}{outs:List (Value×AH)}(e:zEC E rec fn c args h ⟨h.t,h.qa,Nat.add h.qa UNK⟩=some outs):zCI h outs:=by
 unfold zEC at e;have e:=zAc e;unfold zER at e;split at e
 ·cases e
 rename_i os iF;cases e;have bO:=zUR (zWO cF iF);intro x hx;obtain⟨y,y1,rfl⟩:=List.mem_map.1 hx;have hy:=bO y y1;refine⟨hy.qa,?_,fun b hb hw=>?_⟩
 ·show cond _ _ _<=_;cases hc:Nat.ble h.wm y.2.wm with
  | true=>exact xAF _
  | false=>rw[ble_false] at hc;simp only[xAH];omega
 ·refine hy.get b hb ?_;have cY:b<cond (Nat.ble h.wm y.2.wm) h.wm y.2.wm:=hw;cases hc:Nat.ble h.wm y.2.wm with
  | true=>rw[hc] at cY;rw[ble_true] at hc;simp only[xAG] at cY;omega
  | false=>rw[hc] at cY;exact cY
include hE in
theorem zOs{rec:Rec}(ac:zRj E rec)(cF:zE4 rec)(H:HR lo σ h w){f:FuncId}{fn:Func}{c:Code}(hf:E.prog.funcs[f]?=some fn)(hb:fn.body=some c)(ak:fits fn.ntmps c=true){args args':List Value}(ha:VRs σ args args')
  {outs:List (Value×AH)} (e:zEC E rec fn c args h ⟨h.t,h.qa,Nat.add h.qa UNK⟩=some outs):CallsIn Fence.wide 0 E.prog f args'.toArray w (Ret (zFb lo σ w outs)):=by
 unfold zEC at e;have hc:=zAv e;rcases hc with ⟨hn,e⟩|⟨_,e⟩;rotate_left
 ·cases e
 rw[ble_true,zAR] at hn;unfold zER at e;split at e
 ·cases e
 rename_i os iF;cases e;have H0:HR lo σ ⟨h.t,h.qa,Nat.add h.qa UNK⟩ w:=H.same rfl fun _=>rfl;have hfos:zCI ⟨h.t,h.qa,Nat.add h.qa UNK⟩ os:=zWO cF iF;show CallsIn _ _ _ _ _ _ _
 ·skip
  have key:CallsIn Fence.wide 0 E.prog f args'.toArray w (Ret (zFb lo σ w os)):=by
   obtain⟨xs,hx,aw⟩:=zAk iF;refine callsIn_of_wp_marks hf hb trivial (wpIn_mono (zFE hE ac (n:=fn.ntmps) (ro:=none) c (σ:=σ) (F:=Fence.wide) rfl ak ⟨zkS ha hn,H0,.nil,rfl⟩ hx) fun en a' w' hq=>?_);obtain⟨⟨ox,ost⟩,hom,hex,τ,le,hs,cR⟩:=hq;obtain⟨bs,aI,au⟩:=aw _ hom;unfold zAW at aI;simp only at hex hs;have fin:∀ {hk:Option AH},zB9 ost.defs ost.h=hk->zCC E fn ost.T hk=some bs->LeavesInM Fence.wide 0 E.prog fn a'.tmps (Ret (zFb lo σ w os)) a'.defers .returning w':=by
    intro hk ge aI;unfold zCC at aI;split at aI;rotate_left
    ·cases aI
    rename_i h';obtain⟨v,hv,rfl⟩:=zGK aI;refine zLu hs.D hs.H ge fun w'' H'' hb''=>?_;obtain⟨v',q1,q2⟩:=zQu hE H'' hs.T hv;exact⟨v',q1,(v,h'),au _ (by simp),τ,le,H'',q2,cR.trans hb''⟩
   cases hex with
   | normal=>exact fin rfl aI
   | ret=>exact fin rfl aI
   | exit id=>simp at aI
  refine CallsIn.mono key fun en w' hr=>?_;cases en with
  | panicked _=>exact hr.elim
  | outgrown=>exact hr.elim
  | returned v=>
   obtain⟨x,x1,τ,le,Hx,hv,cR⟩:=zUP H0 hfos hr;exact⟨zUU h.wm x,List.mem_map.2 ⟨x,x1,rfl⟩,τ,le,Hx.same rfl fun _=>rfl,hv,cR⟩
structure zNd(E:Env):Prop where
 sum:∀ f args h outs,E.sum f args h=some outs->(∀ lo σ w args',HR lo σ h w->VRs σ args args'->CallsIn Fence.wide 0 E.prog f args'.toArray w (Ret (zFb lo σ w outs)))/\zCI h outs
 nobody:∀ f c,E.tab.ext.get f=some c->c=1\/c=2
 one:∀ f,E.tab.ext.get f=some 1->∀ x w,(callFunc f #[x]).run E.prog w=.ok (.value x) w
 two:∀ f,E.tab.ext.get f=some 2->∀(s:ByteArray) (c:Int) w,(callFunc f #[.string s,.int .u8 c]).run E.prog w=.ok (.value (.int .i64 (zFN s.data.toList (UInt8.ofNat c.toNat) 0))) w
include hE in
theorem zVW{rec:Rec}(hX:zNd E)(ac:zRj E rec)(cF:zE4 rec)(H:HR lo σ h w){f:FuncId}{args args':List Value}(ha:VRs σ args args'){outs:List (Value×AH)}(e:fnCall E rec f args h=some outs) :
  Upon E.prog (zFb lo σ w outs) ((callFunc f args'.toArray).run E.prog w):=by
 unfold fnCall at e;split at e
 ·cases e
 rename_i fn gz;obtain⟨h1,h2⟩:=hE.fn f fn gz;split at e
 ·rename_i hb;unfold zOT at e;split at e
  ·rename_i hc;split at e
   ·rename_i x;rw[zAn e];obtain⟨x',rfl,hx⟩:=ha.one1;rw[hX.one f hc];exact⟨(x,h),by simp,σ,Sg.le_refl σ,H,hx,Below.refl _ _⟩
   ·cases e
  ·rename_i hc;split at e
   ·rename_i s c;rw[zAn e];obtain⟨x',y',rfl,hx,hy⟩:=ha.two;cases hx;cases hy;rw[hX.two f hc];exact⟨_,List.mem_singleton.2 rfl,σ,Sg.le_refl σ,H,.int _ _,Below.refl _ _⟩
   ·cases e
  ·cases e
 ·rename_i c hb;have cJ:zDF E f=true:=by unfold zDF;rw[gz];simp[hb]
  rw[zGe hE cJ];split at e
  ·rename_i outs' hs;cases e;exact (hX.sum f args h outs hs).1 _ _ _ _ H ha
  ·exact zOs hE ac cF H h1 hb (h2 c hb) ha e
theorem zVX{rec:Rec}(hX:zNd E)(cF:zE4 rec){f:FuncId}{args:List Value}{h:AH}{outs:List (Value×AH)}(e:fnCall E rec f args h=some outs):zCI h outs:=by
 unfold fnCall at e;split at e
 ·cases e
 split at e
 ·unfold zOT at e;split at e
  ·split at e
   ·rw[zAn e];exact zDO (Fr.refl _)
   ·cases e
  ·split at e
   ·rw[zAn e];exact zDO (Fr.refl _)
   ·cases e
  ·cases e
 ·split at e
  ·rename_i outs' hs;cases e;exact (hX.sum f args h outs hs).2
  ·exact zOt cF e
end Go.AM
namespace Go.AM
open Go Go.Proofs Go.RowKit
variable {E:Env} (hE:zCg E) {lo:Nat} {σ:Sg} {T:Tm} {h:AH} {w:World}
theorem zG1:∀ {ps:List Tmp} {args args':List Value} {T T':Tm} {tmps:Array Value},zBj T ps args=some T'->VRs σ args args'->TmR σ T tmps->ps.all (fun d=>Nat.ble (d+1) T.n)=true->
  ps.length=args'.length/\T'.n=T.n/\TmR σ T' ((ps.zip args').foldl (fun tmps (x:Tmp×Value)=>tmps.setIfInBounds x.1 x.2) tmps)
 | [],[],args',T,T',tmps,e,ha,hT,_=>by
  simp only[zBj,xAN] at e;subst e;cases ha;exact⟨rfl,rfl,hT⟩
 | [],_::_,args',T,T',tmps,e,ha,hT,_=>by simp[zBj] at e
 | _::_,[],args',T,T',tmps,e,ha,hT,_=>by simp[zBj] at e
 | t::ts,v::vs,args',T,T',tmps,e,ha,hT,hp=>by
  simp only[zBj] at e;cases ha with
  | cons hv hs=>
  rename_i b bs;simp only[List.all_cons,xAP] at hp;have ab:t<T.n:=ble_true.1 hp.1;obtain⟨q1,q2,q3⟩:=zG1 e hs (hT.put ab hv) (by rw[Tm.n_put];exact hp.2);exact⟨by simp[q1],q2,by simpa using q3⟩
theorem zOX{P:Program}{τ:Sg}{w w0:World}{l:Nat}{loc:Loc}{o:Out}{outs os:List (Value×AH)}(H:HR lo τ o.st.h w)(hs:τ l=some loc)(e:endRound l o=some os)(au:∀ x∈os,x∈outs){σ:Sg}(le:Sg.le σ τ)(hb:Below lo w0 w) :
  ∃ v w',(Instr.endRound loc.blk (zEU o.ex)).run P w=.ok v w'/\Ret (zFb lo σ w0 outs) (.returned v) w':=by
 unfold endRound at e;unfold zC2 at e;split at e;rotate_left
 ·cases e
 rename_i h' hh;rw[zAn e] at au;obtain⟨r,r1,r2⟩:=zGO (P:=P) H hs hh;obtain⟨k1,k2,k3⟩:=r2 _ rfl;refine⟨.bool (zEU o.ex).isNone,_,?_,⟨_,au _ (List.mem_singleton.2 rfl),τ,le,k2,.bool _,hb.trans k3⟩⟩;unfold Instr.endRound;have af:(if (zEU o.ex).isNone=true then LoopState.ready else LoopState.done)=cond (zEU o.ex).isNone .ready .done:=by cases (zEU o.ex).isNone <;> rfl
 simp only[Sem.run_bind,zC9 r1,Result.andThen_ok,af,k1,Sem.run_pure]
include hE in
theorem zLb{rec:Rec}(ac:zRj E rec)(H:HR lo σ h w){l:Nat}{loc:Loc}(hσ:σ l=some loc){args args':List Value}(ha:VRs σ args args'){outs:List (Value×AH)}(e:roundCall E rec l args h=some outs) :
  Upon E.prog (zFb lo σ w outs) ((Instr.yield loc.blk args'.toArray).run E.prog w):=by
 unfold roundCall at e;split at e;rotate_left
 ·cases e
 rename_i st pend T ps aas body d hl;obtain⟨l',a1,eG,_⟩:=H.live l _ hl;rw[hσ] at a1;cases a1;obtain⟨r,r1,r2,r3,r4,r5,r6,r7,r8,r9,r10⟩:=eG;unfold zCx at e;split at e
 ·cases e
 rename_i T' j6;obtain⟨p1,p2,p3⟩:=zG1 j6 ha r7 r10;obtain⟨xs,hx,aw⟩:=zAk e;have hzip:(r.params.zip args'.toArray).foldl (fun tmps (x:Tmp×Value)=>tmps.setIfInBounds x.1 x.2) r.tmps=(ps.zip args').foldl (fun tmps (x:Tmp×Value)=>tmps.setIfInBounds x.1 x.2) r.tmps:=by
  rw[← Array.foldl_toList,Array.toList_zip,r4]
 have hy:(Instr.yield loc.blk args'.toArray).run E.prog w=.ok (.round loc.blk r.fn ((ps.zip args').foldl (fun tmps (x:Tmp×Value)=>tmps.setIfInBounds x.1 x.2) r.tmps) aas body) w:=by
  unfold Instr.yield;have hsz:args'.toArray.size=r.params.size:=by
   have:r.params.size=ps.length:=by rw[← r4];simp
   simp[this,p1]
  simp only[Sem.run_bind,zC9 r1,Result.andThen_ok,hsz,ne_eq,not_true_eq_false,if_false,Sem.run_pure,r5,r6];rw[← hzip]
 rw[hy];show RoundIn Fence.wide 0 E.prog loc.blk r.fn _ aas body w _;have bh:FR σ (Fence.wide.inRound loc.blk) (some l):=⟨loc,hσ,rfl⟩;refine roundIn_of_wpIn trivial (wpIn_mono (zFE hE ac (n:=T.n) aas bh r8 ⟨p3,H,.nil,p2⟩ hx) fun en a₁ w₁ hq=>?_);obtain⟨⟨ox,ost⟩,hom,hex,τ,le,hs,cR⟩:=hq;obtain⟨bs,aI,au⟩:=aw _ hom;unfold zDU at aI;simp only at hex hs;cases hex with
 | exit id=>simp at aI
 | ret=>simp at aI
 | normal=>
  simp only at aI;rcases zAv aI with ⟨br,aI⟩|⟨_,aI⟩;rotate_left
  ·cases aI
  unfold beginRound at aI;split at aI;rotate_left
  ·cases aI
  rename_i h₂ hh₂;have hσ':=le _ _ hσ;obtain⟨r',s1,s2⟩:=zGO (P:=E.prog) hs.H hσ' hh₂;obtain⟨k1,k2,k3⟩:=s2 _ rfl;have gS:r'.state=.ready:=by
   unfold zKj at br;split at br
   ·rename_i ct;obtain⟨l',a1,eG,_⟩:=hs.H.live l _ ct;rw[hσ'] at a1;cases a1;obtain⟨r0,q1,q2,_⟩:=eG;rw[s1] at q1;cases q1;exact q2
   ·cases br
  refine⟨World.put w₁ loc.blk (.loop { r' with state:=.busy,pending:=r'.pending }),?_,?_⟩
  ·unfold Instr.beginRound;have k1':(setObj loc.blk (.loop { r' with state:=.busy })).run E.prog w₁=.ok () (World.put w₁ loc.blk (.loop { r' with state:=.busy,pending:=r'.pending })):=k1;simp only[Sem.run_bind,zC9 s1,Result.andThen_ok,k1',gS];rfl
  ·obtain⟨ys,iP,g7⟩:=zAk aI;refine wpIn_mono (zFE hE ac (n:=T.n) body (st:=⟨ost.T,h₂,ost.defs⟩) (bh.mono le) r9 ⟨hs.T,k2,hs.D,hs.n⟩ iP) fun en a₂ w₂ hq₂=>?_;obtain⟨⟨ox₂,ost₂⟩,hom₂,hex₂,υ,le₂,hs₂,hbel₂⟩:=hq₂;obtain⟨cs,aM,hsub₂⟩:=g7 _ hom₂;simp only at hex₂ hs₂;have fin:=zOX (P:=E.prog) (w0:=w) hs₂.H (le₂ _ _ hσ') aM (fun x hx=>au _ (hsub₂ x hx)) (Sg.le_trans le le₂) (cR.trans (k3.trans hbel₂));cases hex₂ with
   | normal=>exact fin
   | ret=>exact fin
   | exit id=>exact fin
theorem zJI{l:Nat}{h h':AH}{f:LoopState->Option Code->LoopState×Option Code}(e:zCO l h f=some h'):Fr h h':=by
 unfold zCO at e;split at e
 ·cases e;exact Fr.upd ..
 ·cases e
theorem zLc{rec:Rec}(cF:zE4 rec){l:Nat}{args:List Value}{h:AH}{outs:List (Value×AH)}(e:roundCall E rec l args h=some outs):zCI h outs:=by
 unfold roundCall at e;split at e;rotate_left
 ·cases e
 unfold zCx at e;split at e
 ·cases e
 refine zAy (p:=fun o=>Fr h o.st.h) e (fun l hl=>zFF cF _ hl) fun o bs ho aI b aS=>?_;unfold zDU at aI;split at aI
 ·have aI:=zAc aI;unfold beginRound at aI;split at aI
  ·rename_i hh;refine zAy (p:=fun o=>Fr h o.st.h) (q:=fun b=>Fr h b.2) aI (fun l hl o' ho'=>(ho.trans (zJI hh)).trans (zFF cF _ hl o' ho')) (fun o' cs ho' aM c dD=>?_) b aS;unfold endRound at aM;unfold zC2 at aM;split at aM
   ·rename_i hh';rw[zAn aM] at dD;simp at dD;subst dD;exact ho'.trans (zJI hh')
   ·cases aM
  ·cases aI
 ·cases aI
theorem zN2{rec:Rec}(cF:zE4 rec){ro:Option Nat}{c:Code}{st:St}{outs:List Out}(e:loopCall E rec ro c st=some outs):∀ o∈outs,Fr st.h o.st.h:=by
 unfold loopCall at e;refine zAy (p:=fun s=>Fr st.h s.st.h) e (fun l hl=>zFF cF c hl) fun o bs hx hb b aS=>?_;unfold thenC at hb;split at hb
 ·exact hx.trans (cF.loop hb b aS)
 ·rw[zAn hb] at aS;simp at aS;subst aS;exact hx
include hE in
theorem zUX(hX:zNd E):∀ m,zRj E (zDj E m)/\zE4 (zDj E m)
 | 0=>⟨⟨⟨fun _ _ e=>by simp[zDj] at e,fun _ _ _ e=>by simp[zDj] at e⟩,fun _ _ _ e=>by simp[zDj] at e⟩,⟨fun e=>by simp[zDj] at e,fun e=>by simp[zDj] at e,fun e=>by simp[zDj] at e⟩⟩
 | m+1=>by
  obtain⟨i1,i2⟩:=zUX hX m;exact⟨⟨⟨fun H ha e=>zVW hE hX i1 i2 H ha e,fun H hσ ha e=>zLb hE i1 H hσ ha e⟩,fun bh ak af e=>zN1 hE i1 bh ak af e⟩,
   ⟨fun e=>zVX hX i2 e,fun e=>zLc i2 e,fun e=>zN2 i2 e⟩⟩
include hE in
theorem zKz(hX:zNd E){m:Nat}{f:FuncId}(hb:zDF E f=true){args args':List Value}(H:HR lo σ h w)(ha:VRs σ args args'){outs:List (Value×AH)}(e:(zDj E m).call f args h=some outs) :
  Calls E.prog f args'.toArray w (Ret (zFb lo σ w outs)):=
 callsIn_wide.1 (zIJ hE (zUX hE hX m).1.toRecOps hb H ha e)
end Go.AM
namespace Go.AM
open Go Go.Proofs
inductive Qy where
 | call (f:FuncId) (a:List Value) (h:AH)
 | loop (ro:Option Nat) (c:Code) (st:St)
 | round (l:Nat) (a:List Value) (h:AH)
def Agr(r s:Rec):Qy->Prop
 | .call f a h=>∀ x,r.call f a h=some x->s.call f a h=some x
 | .loop ro c st=>∀ x,r.loop ro c st=some x->s.loop ro c st=some x
 | .round l a h=>∀ x,r.round l a h=some x->s.round l a h=some x
structure Sup{α:Type}(F:Rec->Option α):Prop where
 out:∀ r y,F r=some y->∃ S:List Qy,∀ s,(∀ q∈S,Agr r s q)->F s=some y
theorem Sup.const{α:Type}(x:Option α):Sup fun _=>x:=⟨fun _ _ e=>⟨[],fun _ _=>e⟩⟩
theorem Sup.call(f:FuncId)(a:List Value)(h:AH):Sup fun r=>r.call f a h:=⟨fun _ _ e=>⟨[.call f a h],fun _ H=>H (.call f a h) (by simp) _ e⟩⟩
theorem Sup.loop(ro:Option Nat)(c:Code)(st:St):Sup fun r=>r.loop ro c st:=⟨fun _ _ e=>⟨[.loop ro c st],fun _ H=>H (.loop ro c st) (by simp) _ e⟩⟩
theorem Sup.round(l:Nat)(a:List Value)(h:AH):Sup fun r=>r.round l a h:=⟨fun _ _ e=>⟨[.round l a h],fun _ H=>H (.round l a h) (by simp) _ e⟩⟩
theorem Sup.bindL{α β:Type}{G:α->Rec->R β}(hG:∀ a,Sup (G a)):∀ l:List α,Sup fun r=>AM.bindL (fun a=>G a r) l
 | []=>Sup.const _
 | a::aas=>by
  refine⟨fun r y e=>?_⟩;simp only[AM.bindL] at e;cases e1:G a r with
  | none=>rw[e1] at e;cases e
  | some b=>
   rw[e1] at e;cases e2:AM.bindL (fun a=>G a r) aas with
   | none=>simp only[e2] at e;cases e
   | some cs=>
    simp only[e2] at e;obtain⟨S1,h1⟩:=(hG a).out r _ e1;obtain⟨S2,h2⟩:=(Sup.bindL hG aas).out r _ e2;refine⟨S1++S2,fun s H=>?_⟩;have k1:=h1 s fun q hq=>H q (by simp[hq]);have k2:=h2 s fun q hq=>H q (by simp[hq]);simp only[AM.bindL];rw[k1]
    try simp only at k2
    rw[k2];exact e
theorem zJ0{α β:Type}(x:R α)(f:α->R β):R.andThen x f=x.bind (AM.bindL f):=by
 unfold R.andThen;split
 ·rfl
 ·rename_i a;simp only[Option.bind_some,AM.bindL];cases f a <;> simp
 ·rfl
theorem Sup.andThen{α β:Type}{F:Rec->R α}{G:α->Rec->R β}(hF:Sup F)(hG:∀ a,Sup (G a)):Sup fun r=>R.andThen (F r) fun a=>G a r:=by
 refine⟨fun r y e=>?_⟩;simp only[zJ0] at e ⊢;cases e1:F r with
 | none=>rw[e1] at e;cases e
 | some l=>
  rw[e1] at e;obtain⟨S1,h1⟩:=hF.out r _ e1;obtain⟨S2,h2⟩:=(Sup.bindL hG l).out r _ e;refine⟨S1++S2,fun s H=>?_⟩;rw[h1 s fun q hq=>H q (by simp[hq])];exact h2 s fun q hq=>H q (by simp[hq])
theorem Sup.cond{α:Type}{F G:Rec->Option α}(b:Bool)(hF:Sup F)(hG:Sup G):Sup fun r=>bif b then F r else G r:=by
 cases b
 ·exact hG
 ·exact hF
theorem Sup.map{α β:Type}{F:Rec->Option α}(hF:Sup F)(g:α->Option β):Sup fun r=>(F r).bind g:=by
 refine⟨fun r y e=>?_⟩
 try simp only at e
 cases e1:F r with
 | none=>rw[e1] at e;cases e
 | some x=>
  rw[e1] at e;obtain⟨S,h⟩:=hF.out r _ e1;exact⟨S,fun s H=>by rw[h s H];exact e⟩
variable (P:Env)
theorem Sup.callFn(fn:Fn)(fs args cs:List Value)(h:AH):Sup fun r=>AM.callFn r fn fs args cs h:=by
 unfold AM.callFn;cases fn with
 | func f=>exact Sup.call f (fs++args++cs) h
 | yield l=>exact Sup.round l (fs++args) h
 | _=>exact .const _
theorem Sup.wCall(c:Call)(T:Tm)(h:AH):Sup fun r=>AM.wCall P r c T h:=by
 unfold AM.wCall;cases c.callee with
 | builtin b=>exact .const _
 | value f=>
  simp only[zT];generalize zAl T f=x;generalize zBl T c.args.toList=y;cases x with
  | none=>exact .const _
  | some v=>
   cases v with
   | func fn fs cs=>
    cases y with
    | none=>exact .const _
    | some l=>exact .callFn ..
   | _=>exact .const _
 | _=>exact .const _
theorem Sup.evWrite(T:Tm)(o:Oper)(h:AH):Sup fun r=>AM.evWrite P r T o h:=by
 unfold AM.evWrite;split <;> first|exact .const _|exact .wCall ..
theorem Sup.evOp(T:Tm)(o:Oper)(h:AH):Sup fun r=>AM.evOp P r T o h:=by
 unfold AM.evOp;split <;> first|exact .const _|exact .evWrite ..
theorem Sup.evOps(all:List Oper):∀(l:List Oper) (st:St),Sup fun r=>AM.evOps P r all l st
 | [],st=>.const _
 | o::rest,st=>by
  simp only[AM.evOps];split
  ·exact Sup.andThen (.evOp ..) fun x=>Sup.evOps all rest _
  ·exact Sup.evOps all rest _
  ·exact .const _
theorem Sup.joinR{F G:Rec->R St}(hF:Sup F)(hG:Sup G):Sup fun r=>AM.joinR (F r) (G r):=by
 refine⟨fun r y e=>?_⟩
 try simp only at e
 cases e1:F r with
 | none=>rw[e1] at e;cases e
 | some a=>
  cases e2:G r with
  | none=>rw[e1,e2] at e;cases e
  | some b=>
   rw[e1,e2] at e;obtain⟨S1,h1⟩:=hF.out r _ e1;obtain⟨S2,h2⟩:=hG.out r _ e2;refine⟨S1++S2,fun s H=>?_⟩
   try simp only
   rw[h1 s fun q hq=>H q (by simp[hq]),h2 s fun q hq=>H q (by simp[hq])];exact e
theorem Sup.fire(all:List Oper){k:Rec->DK}(hk:∀ a b c d e,Sup fun r=>k r a b c d e)(p:PO)(T:Tm)(done:Nat)(rds:List Rd)(rest:List PO)(h:AH):Sup fun r=>AM.fire P r all (k r) p T done rds rest h:=by
 unfold AM.fire;split
 ·refine Sup.andThen (.evWrite ..) fun x=>?_;unfold zVa;exact Sup.cond _ (hk ..) (.const _)
 ·exact hk ..
 ·exact .const _
theorem Sup.fires(all:List Oper){k:Rec->DK}(hk:∀ a b c d e,Sup fun r=>k r a b c d e)(T:Tm)(done:Nat)(rds:List Rd)(h:AH):∀(l pre:List PO),Sup fun r=>AM.fires P r all (k r) T done rds h pre l
 | [],_=>.const _
 | p::ps,pre=>by
  simp only[AM.fires];exact Sup.cond _ (Sup.joinR (Sup.fire P all hk ..) (Sup.fires all hk T done rds h ps _)) (Sup.fires all hk T done rds h ps _)
theorem Sup.drawRun(all:List Oper)(defs:List Nat):∀(f:Nat) (T:Tm) (done:Nat) (rds:List Rd) (rest:List PO) (h:AH),Sup fun r=>AM.drawRun P r all defs f T done rds rest h
 | 0,_,_,_,_,_=>.const _
 | f+1,T,done,rds,rest,h=>by
  simp only[AM.drawRun];split
  ·exact .const _
  ·rename_i s _;split
   ·exact .const _
   ·refine⟨fun r y e=>?_⟩;have hk:=Sup.fires P all (k:=fun r=>AM.drawRun P r all defs f) (fun a b c d e=>Sup.drawRun all defs f a b c d e) s.T s.done s.rds h s.rest [];have hm:=Sup.map hk fun l=>(match l with|a::aas=>some (a::aas)|_=>none:R St);have key:∀ x:R St,zLU x=x.bind fun l=>(match l with|a::aas=>some (a::aas)|_=>none:R St):=by
     intro x;cases x with|none=>rfl|some l=>cases l <;> rfl
    simp only[key] at e ⊢;exact hm.out r y e
theorem Sup.evRegion(ops:List Oper)(draw:Bool)(st:St):Sup fun r=>AM.evRegion P r ops draw st:=by
 unfold AM.evRegion;cases draw
 ·exact .evOps ..
 ·exact .drawRun ..
theorem Sup.thenC{G:St->Rec->R Out}(hG:∀ s,Sup (G s))(o:Out):Sup fun r=>AM.thenC (fun s=>G s r) o:=by
 unfold AM.thenC;cases o.ex with
 | normal=>exact hG _
 | _=>exact .const _
theorem Sup.evRange(ro:Option Nat)(f:Option Value)(ps:List Tmp)(aas body:Code)(st:St):Sup fun r=>AM.evRange P r ro f ps aas body st:=by
 have hs:∀ f fs cs d defs T h1,Sup fun r=>zBx r f fs cs ps aas body d defs T h1:=fun f fs cs d defs T h1=>by
  unfold zBx;exact Sup.andThen (.call ..) fun x=>.const _
 unfold AM.evRange;split
 ·refine Sup.cond _ ?_ (.const _);split
  ·exact hs ..
  ·exact Sup.cond _ (hs ..) (.const _)
 ·exact .const _
theorem Sup.evC(ro:Option Nat):∀(c:Code) (st:St),Sup fun r=>AM.evC P r ro c st
 | .region _ ops d,st=>by simp only[AM.evC];exact Sup.andThen (.evRegion ..) fun _=>.const _
 | .seq a b,st=>by
  simp only[AM.evC];exact Sup.andThen (Sup.evC ro a st) fun o=>Sup.thenC (G:=fun s r=>AM.evC P r ro b s) (fun s=>Sup.evC ro b s) o
 | .cond c t e,st=>by
  simp only[AM.evC,zVp];split
  ·exact Sup.cond _ (Sup.evC ro t st) (Sup.evC ro e st)
  ·exact .const _
 | .block id c,st=>by
  simp only[AM.evC];refine Sup.andThen (Sup.evC ro c st) fun o=>.const _
 | .loop c,st=>by
  simp only[AM.evC];exact Sup.andThen (Sup.evC ro c st) fun o=>Sup.thenC (G:=fun s r=>r.loop ro c s) (fun s=>.loop ..) o
 | .rangeFunc f ps aas body,st=>by simp only[AM.evC];exact .evRange ..
 | .skip,st=>.const _
 | .exit id,st=>.const _
 | .label _,st=>.const _
 | .ret,st=>.const _
 | .goto _,st=>.const _
 | .scope _,st=>.const _
 | .refuse _,st=>.const _
theorem Sup.fnCall(f:FuncId)(a:List Value)(h:AH):Sup fun r=>AM.fnCall P r f a h:=by
 unfold AM.fnCall;split
 ·exact .const _
 ·split
  ·exact .const _
  ·rename_i fn _ _ c _;split
   ·exact .const _
   unfold zEC;refine Sup.cond _ ?_ (.const _);have hm:=Sup.map (Sup.andThen (Sup.evC P none c ⟨⟨fn.ntmps,zCB a 0 .e⟩,⟨h.t,h.qa,Nat.add h.qa UNK⟩,[]⟩) fun o=>Sup.const (zAW P fn o)) fun outs=>some ((zEF ⟨h.t,h.qa,Nat.add h.qa UNK⟩ outs).map (zUU h.wm));refine⟨fun r y e=>?_⟩;have key:∀ x:R (Value×AH),zER ⟨h.t,h.qa,Nat.add h.qa UNK⟩ h.wm x=x.bind fun outs=>some ((zEF ⟨h.t,h.qa,Nat.add h.qa UNK⟩ outs).map (zUU h.wm)):=by
    intro x;cases x <;> rfl
   simp only[key] at e ⊢;exact hm.out r y e
theorem Sup.loopCall(ro:Option Nat)(c:Code)(st:St):Sup fun r=>AM.loopCall P r ro c st:=by
 unfold AM.loopCall;exact Sup.andThen (Sup.evC P ro c st) fun o=>Sup.thenC (G:=fun s r=>r.loop ro c s) (fun s=>.loop ..) o
theorem Sup.roundCall(l:Nat)(a:List Value)(h:AH):Sup fun r=>AM.roundCall P r l a h:=by
 unfold AM.roundCall;split
 ·rename_i T ps aas body _ _;generalize zBj T ps a=x;cases x with
  | none=>exact .const _
  | some T=>
   simp only[zCx];refine Sup.andThen (Sup.evC P _ aas _) fun o=>?_;unfold zDU;split
   ·refine Sup.cond _ ?_ (.const _);generalize zCO l o.st.h _=z;cases z with
    | none=>exact .const _
    | some h=>
     simp only[beginRound];exact Sup.andThen (Sup.evC P _ body _) fun _=>.const _
   ·exact .const _
 ·exact .const _
theorem zLe:∀(m:Nat) (q:Qy),Agr (zDj P m) (zDj P (m+1)) q
 | 0,q=>by cases q <;> (intro x e;simp[zDj] at e)
 | m+1,q=>by
  have ih:=zLe m;cases q with
  | call f a h=>
   intro x e;obtain⟨S,hS⟩:=(Sup.fnCall P f a h).out (zDj P m) x e;exact hS (zDj P (m+1)) fun q _=>ih q
  | loop ro c st=>
   intro x e;obtain⟨S,hS⟩:=(Sup.loopCall P ro c st).out (zDj P m) x e;exact hS (zDj P (m+1)) fun q _=>ih q
  | round l a h=>
   intro x e;obtain⟨S,hS⟩:=(Sup.roundCall P l a h).out (zDj P m) x e;exact hS (zDj P (m+1)) fun q _=>ih q
theorem Agr.trans{r s t:Rec}:∀ {q:Qy},Agr r s q->Agr s t q->Agr r t q
 | .call ..,h,k=>fun x e=>k x (h x e)
 | .loop ..,h,k=>fun x e=>k x (h x e)
 | .round ..,h,k=>fun x e=>k x (h x e)
theorem Agr.refl(r:Rec):∀ q:Qy,Agr r r q
 | .call ..=>fun _ e=>e
 | .loop ..=>fun _ e=>e
 | .round ..=>fun _ e=>e
theorem zHp{m n:Nat}(h:m<=n)(q:Qy):Agr (zDj P m) (zDj P n) q:=by
 induction h with
 | refl=>exact Agr.refl _ q
 | step _ ih=>exact ih.trans (zLe P _ q)
open Classical in
def lim{α:Type}(g:Nat->Option α):Option α:=if h:∃ m,(g m).isSome then g h.choose else none
theorem zKg{α:Type}{g:Nat->Option α}(mono:∀ m n x,m<=n->g m=some x->g n=some x){x:α}:lim g=some x ↔ ∃ m,g m=some x:=by
 unfold lim;constructor
 ·intro e;split at e
  ·exact⟨_,e⟩
  ·cases e
 ·rintro⟨m,e⟩;have h:∃ m,(g m).isSome:=⟨m,by rw[e];rfl⟩;rw[dif_pos h];obtain⟨y,hy⟩:=Option.isSome_iff_exists.1 h.choose_spec;have a1:=mono _ (max m h.choose) _ (Nat.le_max_left ..) e;have a2:=mono _ (max m h.choose) _ (Nat.le_max_right ..) hy;rw[hy,← a2,a1]
def zV:Rec:=
 { call:=(fun f a h=>lim fun m=>(zDj P m).call f a h),loop:=(fun ro c st=>lim fun m=>(zDj P m).loop ro c st),round:=(fun l a h=>lim fun m=>(zDj P m).round l a h) }
theorem zB6{f:FuncId}{a:List Value}{h:AH}{x:List (Value×AH)}:(zV P).call f a h=some x ↔ ∃ m,(zDj P m).call f a h=some x:=
 zKg fun _ _ x hm e=>zHp P hm (.call f a h) x e
theorem zFm{ro:Option Nat}{c:Code}{st:St}{x:List Out}:(zV P).loop ro c st=some x ↔ ∃ m,(zDj P m).loop ro c st=some x:=
 zKg fun _ _ x hm e=>zHp P hm (.loop ro c st) x e
theorem zEs{l:Nat}{a:List Value}{h:AH}{x:List (Value×AH)}:(zV P).round l a h=some x ↔ ∃ m,(zDj P m).round l a h=some x:=
 zKg fun _ _ x hm e=>zHp P hm (.round l a h) x e
theorem znd(m:Nat):∀ q:Qy,Agr (zDj P m) (zV P) q
 | .call ..=>fun _ e=>(zB6 P).2 ⟨m,e⟩
 | .loop ..=>fun _ e=>(zFm P).2 ⟨m,e⟩
 | .round ..=>fun _ e=>(zEs P).2 ⟨m,e⟩
theorem zic:∀ S:List Qy,∃ m,∀ q∈S,Agr (zV P) (zDj P m) q
 | []=>⟨0,fun _ h=>by cases h⟩
 | q::S=>by
  obtain⟨m,hm⟩:=zic S;have hq:∃ n,Agr (zV P) (zDj P n) q:=by
   cases q with
   | call f a h=>
    cases e:(zV P).call f a h with
    | none=>exact⟨0,fun x e'=>by rw[e] at e';cases e'⟩
    | some x=>obtain⟨n,hn⟩:=(zB6 P).1 e;exact⟨n,fun y e'=>by rw[e] at e';cases e';exact hn⟩
   | loop ro c st=>
    cases e:(zV P).loop ro c st with
    | none=>exact⟨0,fun x e'=>by rw[e] at e';cases e'⟩
    | some x=>obtain⟨n,hn⟩:=(zFm P).1 e;exact⟨n,fun y e'=>by rw[e] at e';cases e';exact hn⟩
   | round l a h=>
    cases e:(zV P).round l a h with
    | none=>exact⟨0,fun x e'=>by rw[e] at e';cases e'⟩
    | some x=>obtain⟨n,hn⟩:=(zEs P).1 e;exact⟨n,fun y e'=>by rw[e] at e';cases e';exact hn⟩
  obtain⟨n,hn⟩:=hq;refine⟨max m n,fun q' fD=>?_⟩;rcases List.mem_cons.1 fD with rfl|fD
  ·exact hn.trans (zHp P (Nat.le_max_right ..) _)
  ·exact (hm _ fD).trans (zHp P (Nat.le_max_left ..) _)
theorem zVZ{α:Type}{F:Rec->Option α}(hF:Sup F){x:α}:F (zV P)=some x ↔ ∃ m,F (zDj P m)=some x:=by
 constructor
 ·intro e;obtain⟨S,hS⟩:=hF.out _ _ e;obtain⟨m,hm⟩:=zic P S;exact⟨m,hS _ hm⟩
 ·rintro⟨m,e⟩;obtain⟨S,hS⟩:=hF.out _ _ e;exact hS _ fun q _=>znd P m q
theorem zNw{α:Type}{a b:Option α}(h:∀ x,a=some x ↔ b=some x):a=b:=by
 cases a with
 | none=>cases b with
  | none=>rfl
  | some y=>exact ((h y).2 rfl)
 | some x=>exact ((h x).1 rfl).symm
theorem zVx(f:FuncId)(a:List Value)(h:AH):(zV P).call f a h=AM.fnCall P (zV P) f a h:=by
 refine zNw fun x=>?_;rw[zVZ P (Sup.fnCall P f a h),zB6];constructor
 ·rintro⟨m,e⟩;cases m with
  | zero=>simp[zDj] at e
  | succ m=>exact⟨m,e⟩
 ·rintro⟨m,e⟩;exact⟨m+1,e⟩
theorem zUt(ro:Option Nat)(c:Code)(st:St):(zV P).loop ro c st=AM.loopCall P (zV P) ro c st:=by
 refine zNw fun x=>?_;rw[zVZ P (Sup.loopCall P ro c st),zFm];constructor
 ·rintro⟨m,e⟩;cases m with
  | zero=>simp[zDj] at e
  | succ m=>exact⟨m,e⟩
 ·rintro⟨m,e⟩;exact⟨m+1,e⟩
theorem round_eq(l:Nat)(a:List Value)(h:AH):(zV P).round l a h=AM.roundCall P (zV P) l a h:=by
 refine zNw fun x=>?_;rw[zVZ P (Sup.roundCall P l a h),zEs];constructor
 ·rintro⟨m,e⟩;cases m with
  | zero=>simp[zDj] at e
  | succ m=>exact⟨m,e⟩
 ·rintro⟨m,e⟩;exact⟨m+1,e⟩
theorem zFG{E:Env}(hE:zCg E)(hX:zNd E){f:FuncId}(hb:zDF E f=true){lo:Nat}{σ:Sg}{h:AH}{w:World}{args args':List Value}(H:HR lo σ h w)(ha:VRs σ args args'){outs:List (Value×AH)}(e:(zV E).call f args h=some outs) :
  Calls E.prog f args'.toArray w (Ret (zFb lo σ w outs)):=by
 obtain⟨m,e⟩:=(zB6 E).1 e;exact zKz hE hX hb H ha e
end Go.AM
namespace Go.AM
open Go Go.Proofs Go.RowKit
def zEj(A:List Tmp)(T T':Tm):Prop:=∀ t∈A,T.get t=T'.get t
section
variable {T T':Tm} {xs:List Operand}
def zMQ(xs:List Operand)(T T':Tm):Prop:=∀ t,Operand.tmp t∈xs->T.get t=T'.get t
theorem zCb(H:zMQ xs T T'){x:Operand}(hx:x∈xs):zAl T x=zAl T' x:=by
 cases x with
 | tmp t=>simp only[zAl];rw[H t hx]
 | _=>rfl
theorem zHK(H:zMQ xs T T'){x:Operand}(hx:x∈xs):rho T x=rho T' x:=by
 cases x with
 | tmp t=>simp only[rho];rw[H t hx]
 | _=>rfl
theorem zAq(H:zMQ xs T T'){x:Operand}(hx:x∈xs):zl T x=zl T' x:=by
 cases x with
 | tmp t=>simp only[zl];rw[H t hx]
 | _=>rfl
theorem zCQ(H:zMQ xs T T'):∀ {ys:List Operand},(∀ y∈ys,y∈xs)->zBl T ys=zBl T' ys
 | [],_=>rfl
 | y::ys,h=>by
  simp only[zBl];rw[zCb H (h y (by simp)),zCQ H fun z hz=>h z (by simp[hz])]
theorem zGR(H:zMQ xs T T'):∀ {ys:List (Nat×Operand)},(∀ y∈ys,y.2∈xs)->zHE T ys=zHE T' ys
 | [],_=>rfl
 | (i,y)::ys,h=>by
  simp only[zHE];rw[zCb H (h (i,y) (by simp)),zGR H fun z hz=>h z (by simp[hz])]
theorem all_same{ys:List Operand}(H:zMQ xs T T')(h:∀ y∈ys,y∈xs):ys.all (zl T)=ys.all (zl T'):=by
 induction ys with
 | nil=>rfl
 | cons y ys ih=>simp only[List.all_cons];rw[zAq H (h y (by simp)),ih fun z hz=>h z (by simp[hz])]
theorem zBX{P:Env}{o:Oper}(H:zMQ o.op.operands.toList T T'):zBY P T o=zBY P T' o:=by
 unfold zBY;rw[all_same H fun _ h=>h];cases hs:zDD o.op with
 | false=>simp
 | true=>
  have eT:execOp (rho T) o=execOp (rho T') o:=by
   refine execOp_congr o (fun cs b aQ=>?_) (fun x hx=>zHK H (Array.mem_toList_iff.2 hx));rw[aQ] at hs;simp[zDD] at hs
  rw[eT]
variable {P:Env}
theorem zUm{op:BinOp}{t:TypeId}{x y:Operand}{o:Oper}(H:zMQ o.op.operands.toList T T')(hx:x∈o.op.operands.toList)(hy:y∈o.op.operands.toList):zig P op t x y T o=zig P op t x y T' o:=by
 unfold zig zFo;rw[zHK H hx,zHK H hy,zAq H hx,zAq H hy,zBX H,zCb H hx,zCb H hy]
theorem zFQ{o:Oper}(H:zMQ o.op.operands.toList T T'):ze P T o=ze P T' o:=by
 have hop:∀ x,x∈o.op.operands.toList->zAl T x=zAl T' x:=fun x hx=>zCb H hx;unfold ze;split
 case _ x e=>exact hop x (by rw[e];simp[Op.operands])
 case _ x e=>exact hop x (by rw[e];simp[Op.operands])
 case _ c a b e=>
  unfold pPick;rw[hop c (by rw[e];simp[Op.operands])];split
  ·rename_i t _;cases t
   ·exact hop b (by rw[e];simp[Op.operands])
   ·exact hop a (by rw[e];simp[Op.operands])
  ·rfl
 case _ x e=>rw[hop x (by rw[e];simp[Op.operands])]
 case _ op t x y c e=>exact zUm H (by rw[e];simp[Op.operands]) (by rw[e];simp[Op.operands])
 case _ op x e=>
  unfold pUn zQy;rw[zHK H (by rw[e];simp[Op.operands]),zAq H (x:=x) (by rw[e];simp[Op.operands]),zBX H]
 case _ x e=>
  unfold zQy;rw[zAq H (x:=x) (by rw[e];simp[Op.operands]),zBX H]
 case _ x i e=>rw[hop x (by rw[e];simp[Op.operands])]
 case _ t ps e=>rw[zGR H (fun y hy=>by rw[e];simp only[Op.operands];simp;exact⟨y.1,by simpa using hy⟩)]
 case _ t x f e=>rw[hop x (by rw[e];simp[Op.operands])]
 case _ t x i e=>rw[hop x (by rw[e];simp[Op.operands]),hop i (by rw[e];simp[Op.operands])]
 case _ t x f e=>rw[hop x (by rw[e];simp[Op.operands])]
 case _ t x i e=>rw[hop x (by rw[e];simp[Op.operands]),hop i (by rw[e];simp[Op.operands])]
 case _ t x lo hi mx e=>
  have hm:∀ y:Option Operand,(∀ z∈y.toList,z∈o.op.operands.toList)->zBl T y.toList=zBl T' y.toList:=fun y hy=>zCQ H hy;unfold zHv;rw[zAq H (x:=x) (by rw[e];simp[Op.operands]),zBX H,hop x (by rw[e];simp[Op.operands]),
   hm lo (by rw[e];simp[Op.operands];intro z hz;simp[hz]),hm hi (by rw[e];simp[Op.operands];intro z hz;simp[hz]),hm mx (by rw[e];simp[Op.operands];intro z hz;simp[hz])]
 case _ fn fs cs e=>
  rw[zCQ H (ys:=fs.toList) (by rw[e];simp[Op.operands];intro z hz;simp[hz]),zCQ H (ys:=cs.toList) (by rw[e];simp[Op.operands];intro z hz;simp[hz])]
 all_goals rfl
theorem zCt{o:Oper}{c:Call}(e:o.op=.call c):(∀ y∈c.args.toList,y∈o.op.operands.toList)/\∀ f,c.callee=.value f->f∈o.op.operands.toList:=by
 rw[e];constructor
 ·intro y hy;simp[Op.operands,Call.operands];exact .inr (by simpa using hy)
 ·intro f hf;simp[Op.operands,Call.operands,hf]
theorem zD5{o:Oper}(H:zMQ o.op.operands.toList T T')(h:AH):zQ P T o h=zQ P T' o h:=by
 have hop:∀ x,x∈o.op.operands.toList->zAl T x=zAl T' x:=fun x hx=>zCb H hx;unfold zQ;split
 case _ t a e=>rw[hop a (by rw[e];simp[Op.operands])]
 case _ src dst x e=>
  unfold zj1;rw[zAq H (x:=x) (by rw[e];simp[Op.operands]),zBX H,hop x (by rw[e];simp[Op.operands])]
 case _ t x k ok e=>rw[hop x (by rw[e];simp[Op.operands]),hop k (by rw[e];simp[Op.operands])]
 case _ x e=>rw[hop x (by rw[e];simp[Op.operands])]
 case _ c e=>
  split
  ·rename_i b hb;rw[zCQ H (zCt e).1];split
   ·unfold zHM;rw[zBX H]
   ·rfl
  ·rfl
 all_goals rfl
theorem zG7{o:Oper}(H:zMQ o.op.operands.toList T T')(r:Rec)(h:AH):evWrite P r T o h=evWrite P r T' o h:=by
 have hop:∀ x,x∈o.op.operands.toList->zAl T x=zAl T' x:=fun x hx=>zCb H hx;unfold evWrite;split
 case _ t e=>rfl
 case _ t x e=>rw[hop x (by rw[e];simp[Op.operands])]
 case _ t a x e=>rw[hop a (by rw[e];simp[Op.operands]),hop x (by rw[e];simp[Op.operands])]
 case _ t len ps e=>rw[zGR H (fun y hy=>by rw[e];simp only[Op.operands];simp;exact⟨y.1,by simpa using hy⟩)]
 case _ e=>rfl
 case _ t l c e=>rw[hop l (by rw[e];simp[Op.operands]),hop c (by rw[e];simp[Op.operands])]
 case _ t m k v e=>rw[hop m (by rw[e];simp[Op.operands]),hop k (by rw[e];simp[Op.operands]),hop v (by rw[e];simp[Op.operands])]
 case _ t m k v e=>rw[hop m (by rw[e];simp[Op.operands]),hop k (by rw[e];simp[Op.operands]),hop v (by rw[e];simp[Op.operands])]
 case _ t x e=>rw[hop x (by rw[e];simp[Op.operands])]
 case _ x s e=>rw[hop x (by rw[e];simp[Op.operands])]
 case _ c e=>
  unfold wCall;split
  ·rw[zCQ H (zCt e).1]
  ·rename_i f hf;rw[zCQ H (zCt e).1,hop f ((zCt e).2 f hf)]
  ·rfl
 all_goals rfl
end
end Go.AM
