import Derived.ChangeArms
import Derived.DataReads
import Derived.Test.YthmnhjcmefjgjaaGreatDoorXAJ
import Derived.Test.YthmnhjcmefjgjaaGreatDoorXAG
import Derived.Test.YthmnhjcmefjgjaaGreatDoorXAF
import Derived.Test.YthmnhjcmefjgjaaGreatDoorXAD
set_option linter.all false
set_option linter.unusedSectionVars false
set_option autoImplicit true
set_option relaxedAutoImplicit true
namespace Go.Proofs
open Go Go.AM
set_option maxRecDepth 100000
set_option maxHeartbeats 1000000
theorem zkL (t:TypeId) (a b:Int):zC E .sub t (iI a) (iI b)=some (iI (zB4 .i64 (a-b))):=rfl
abbrev KB (k:AH) (rs:List ResultVar) (Rp:Value->Prop):KF:=KR E rs (fun x m=>(zi x=true/\Rp x)/\k.next<=m.wm)
def zAm (Q:Prop) (x:Value):Prop:=∃ b:Bool,x=.bool b/\(b=true->Q)
def zd4 (f:FuncId) (h0:AH) (kk nn:Int) (v:Value) (Q:Prop):Prop:=∀ k,Ext h0 k->∃ b:Bool,(b=true->Q)/\(zY E).call f [.agg #[iI kk,iI nn,v]] k=some [(.bool b,k)]
mutual
theorem zSx {h0:AH}:∀ {v:Value} {l:List GT},RT h0 v l->∀ (kk nn:Int),zd4 230 h0 kk nn v (okT (.mk kk nn l)=true)
 | v,l,.mk (els:=els) ha hn hc,kk,nn=>by
  intro k hk
  have be:RT h0 v l:=.mk ha hn hc
  have dN:=zOH hc
  have hlen:=RC.length hc
  obtain ⟨sa,sc,rfl⟩:=be.slice
  have key:∃ x,zAm (okT (.mk kk nn l)=true) x/\(zY E).call 230 [.agg #[iI kk,iI nn,.slice sa l.length sc]] k=some [(x,k)]:=by
   refine zR9 hk.ok (zXh ?_)
   obtain ⟨k1,e1,n1,t1,o1,f1⟩:=nwF k (rO [iI kk,iI nn,.slice sa l.length sc] 173)
   simp only [zg,zK,zT,zA,e1,zb]
   have l0:=zF (P:=E) zAb (o:=0) t1
   have l1:=zF (P:=E) zAb (o:=1) t1
   have l2:=zF (P:=E) zDd (o:=2) t1
   simp only [lnth] at l0 l1 l2
   have ex:=hk.trans o1.ext
   have no:zni true (KB k [.tmp 2] (zAm (okT (.mk kk nn l)=true))) k1:=zXf (by simp only [zA,zAS,zX,true_and];exact ⟨⟨rfl,_,rfl,fun h=>by cases h⟩,o1.wm⟩)
   have no':znf true (KB k [.tmp 2] (zAm (okT (.mk kk nn l)=true))) k1:=zXb (by simp only [zA,zAS,zX,true_and];exact ⟨⟨rfl,_,rfl,fun h=>by cases h⟩,o1.wm⟩)
   have yes':okT (.mk kk nn l)=true->zne true (KB k [.tmp 2] (zAm (okT (.mk kk nn l)=true))) k1:=fun h=>zXZ (by simp only [zA,zAS,zX,true_and];exact ⟨⟨rfl,_,rfl,fun _=>h⟩,o1.wm⟩)
   have loop:(kk=2/\¬ nn<0/\¬ 255<nn/\¬ (8:Int)<(l.length:Int))->∀ (m i:Nat),i+m=l.length->(∀ (j:Nat) (t:GT),j<i->l[j]?=some t->okT t=true)->zng true (KB k [.tmp 2] (zAm (okT (.mk kk nn l)=true))) (.pointer (some ⟨k.next,0,none⟩)) (iI (i:Int)) k1:=by
    intro bS m
    induction m with
    | zero=>
     intro i hi hp
     refine zLw ?_
     simp only [zAf,Nat.zero_add,l2,zA,zIe,zZ,show decide ((i:Int)<(l.length:Int))=false from decide_eq_false (by omega),zj]
     refine yes' ?_
     simp only [okT,Bool.and_eq_true,decide_eq_true_eq]
     exact ⟨⟨⟨⟨bS.1,by omega⟩,by omega⟩,by omega⟩,okL_iff.2 fun j t hj=>hp j t (by have:=(List.getElem?_eq_some_iff.1 hj).1;omega) hj⟩
    | succ m ih=>
     intro i hi hp
     refine zLw ?_
     simp only [zAf,Nat.zero_add,l2,zA,zIe,zZ,show decide ((i:Int)<(l.length:Int))=true from decide_eq_true (by omega),zz]
     refine zXd ?_
     obtain ⟨x,hx⟩:∃ x,els[i]?=some x:=⟨_,List.getElem?_eq_getElem (by omega)⟩
     obtain ⟨p1,q1,w1⟩:=zLI ha ex hx
     obtain ⟨ck,cn,cv,cl,rfl,aN,hs⟩:=dN i x hx
     obtain ⟨b,bC,hb⟩:=hs k1 ex
     simp only [zAf,Nat.zero_add,l2,zA,q1,w1,zQ,hb,zP]
     refine zXc ?_
     simp only [zA,z6]
     cases b with
     | false=>simp only [Bool.not_false,zz];exact no'
     | true=>
      simp only [Bool.not_true,zj]
      refine zXa ?_
      simp only [zA,zAD _ (zEA (show i<l.length by omega) (by omega))]
      refine ih (i+1) (by omega) fun j t hj ht=>?_
      rcases Nat.lt_succ_iff_lt_or_eq.1 hj with h|h
      ·exact hp j t h ht
      ·subst h;rw [aN] at ht;cases ht;exact bC rfl
   have yes:(kk=2/\¬ nn<0/\¬ 255<nn/\¬ (8:Int)<(l.length:Int))->znh true (KB k [.tmp 2] (zAm (okT (.mk kk nn l)=true))) (.pointer (some ⟨k.next,0,none⟩)) k1:=fun h=>zXe (by exact loop h l.length 0 (by omega) fun j t hj=>by omega)
   refine zXg ?_
   cases h1:decide (kk=2) <;> cases h2:decide (nn<0) <;> cases h3:decide (255<nn) <;> cases h4:decide ((8:Int)<(l.length:Int)) <;>
    simp only [zFm,zFl,zAf,Nat.zero_add,Nat.add_zero,l0,l1,l2,zA,zM8,zAp,zZ,zAK,h1,h2,h3,h4,decide_true,decide_false,Bool.not_true,Bool.not_false,zM,beq_self_eq_true,show (true==false)=false from rfl,show (false==true)=false from rfl,cond_true,cond_false,zJ,zz,zj] <;> first|exact no|exact yes ⟨of_decide_eq_true h1,of_decide_eq_false h2,of_decide_eq_false h3,of_decide_eq_false h4⟩
  obtain ⟨x,⟨b,rfl,bC⟩,hx⟩:=key
  exact ⟨b,bC,hx⟩
theorem zOH {h0:AH}:∀ {els:List (List Value)} {ts:List GT},RC h0 els ts->∀ (i:Nat) (e:List Value),els[i]?=some e->
  ∃ (k n:Int) (v:Value) (l:List GT),e=[iI k,iI n,v]/\ts[i]?=some (.mk k n l)/\zd4 230 h0 k n v (okT (.mk k n l)=true)
 | _,_,.nil,i,e,h=>by simp at h
 | _,_,.cons hv hs,0,e,h=>by simp at h;exact ⟨_,_,_,_,h.symm,rfl,zSx hv _ _⟩
 | _,_,.cons hv hs,i+1,e,h=>by
  simp only [List.getElem?_cons_succ] at h
  obtain ⟨k,n,v,l,a,b,c⟩:=zOH hs i e h
  exact ⟨k,n,v,l,a,by simpa using b,c⟩
end
mutual
theorem zSu {h0:AH}:∀ {v:Value} {l:List GT},RT h0 v l->∀ (kk nn:Int),zd4 281 h0 kk nn v True
 | v,l,.mk (els:=els) ha hn hc,kk,nn=>by
  intro k hk
  have be:RT h0 v l:=.mk ha hn hc
  have dN:=zOE hc
  have hlen:=RC.length hc
  obtain ⟨sa,sc,rfl⟩:=be.slice
  have key:∃ x,zAm True x/\(zY E).call 281 [.agg #[iI kk,iI nn,.slice sa l.length sc]] k=some [(x,k)]:=by
   refine zR3 hk.ok (zWY ?_)
   obtain ⟨k1,e1,n1,t1,o1,f1⟩:=nwF k (rO [iI kk,iI nn,.slice sa l.length sc] 173)
   simp only [zg,zK,zT,zA,e1,zb]
   have l0:=zF (P:=E) zAb (o:=0) t1
   have l1:=zF (P:=E) zAb (o:=1) t1
   have l2:=zF (P:=E) zDd (o:=2) t1
   simp only [lnth] at l0 l1 l2
   have ex:=hk.trans o1.ext
   have no:znV true (KB k [.tmp 2] (zAm True)) k1:=zWW (by simp only [zA,zAS,zX,true_and];exact ⟨⟨rfl,_,rfl,fun _=>trivial⟩,o1.wm⟩)
   have no':znS true (KB k [.tmp 2] (zAm True)) k1:=zWT (by simp only [zA,zAS,zX,true_and];exact ⟨⟨rfl,_,rfl,fun _=>trivial⟩,o1.wm⟩)
   have yes':znR true (KB k [.tmp 2] (zAm True)) k1:=zWR (by simp only [zA,zAS,zX,true_and];exact ⟨⟨rfl,_,rfl,fun _=>trivial⟩,o1.wm⟩)
   have loop:∀ (m i:Nat),i+m=l.length->znT true (KB k [.tmp 2] (zAm True)) (.pointer (some ⟨k.next,0,none⟩)) (iI (i:Int)) k1:=by
    intro m
    induction m with
    | zero=>
     intro i hi
     refine zLq ?_
     simp only [zAf,Nat.zero_add,l2,zA,zIb,zZ,show decide ((i:Int)<(l.length:Int))=false from decide_eq_false (by omega),zj]
     exact yes'
    | succ m ih=>
     intro i hi
     refine zLq ?_
     simp only [zAf,Nat.zero_add,l2,zA,zIb,zZ,show decide ((i:Int)<(l.length:Int))=true from decide_eq_true (by omega),zz]
     refine zWU ?_
     obtain ⟨x,hx⟩:∃ x,els[i]?=some x:=⟨_,List.getElem?_eq_getElem (by omega)⟩
     obtain ⟨p1,q1,w1⟩:=zLI ha ex hx
     obtain ⟨ck,cn,cv,rfl,hs⟩:=dN i x hx
     obtain ⟨b,_,hb⟩:=hs k1 ex
     simp only [zAf,Nat.zero_add,l2,zA,q1,w1,zQ,hb,zP,z6]
     cases b with
     | false=>simp only [Bool.not_false,zz];exact no'
     | true=>
      simp only [Bool.not_true,zj]
      refine zWS ?_
      simp only [zA,zAD _ (zEA (show i<l.length by omega) (by omega))]
      exact ih (i+1) (by omega)
   have yes:znU true (KB k [.tmp 2] (zAm True)) (.pointer (some ⟨k.next,0,none⟩)) k1:=zWV (by exact loop l.length 0 (by omega))
   refine zWX ?_
   cases h1:decide (nn<0) <;> cases h2:decide (kk=1) <;> cases h3:decide (kk=2) <;> cases h4:decide ((0:Int)<(l.length:Int)) <;> cases h5:decide ((8:Int)<(l.length:Int)) <;>
    simp only [zFm,zFl,zAf,Nat.zero_add,Nat.add_zero,l0,l1,l2,zA,zM5,zM4,zAp,zAg,zZ,zAK,h1,h2,h3,h4,h5,decide_true,decide_false,Bool.not_true,Bool.not_false,zM,zw,beq_self_eq_true,show (true==false)=false from rfl,show (false==true)=false from rfl,cond_true,cond_false,zJ,zz,zj] <;> first|exact no|exact yes
  obtain ⟨x,⟨b,rfl,bC⟩,hx⟩:=key
  exact ⟨b,bC,hx⟩
theorem zOE {h0:AH}:∀ {els:List (List Value)} {ts:List GT},RC h0 els ts->∀ (i:Nat) (e:List Value),els[i]?=some e->
  ∃ (k n:Int) (v:Value),e=[iI k,iI n,v]/\zd4 281 h0 k n v True
 | _,_,.nil,i,e,h=>by simp at h
 | _,_,.cons hv hs,0,e,h=>by simp at h;exact ⟨_,_,_,h.symm,zSu hv _ _⟩
 | _,_,.cons hv hs,i+1,e,h=>by
  simp only [List.getElem?_cons_succ] at h
  exact zOE hs i e h
end
mutual
def szT:GT->Int
 | .mk _ _ l=>1+szL l
def szL:List GT->Int
 | []=>0
 | t::ts=>szT t+szL ts
end
mutual
def dpT:GT->Int->Bool
 | .mk _ _ l,d=>decide (d<=200)&&dpL l (d+1)
def dpL:List GT->Int->Bool
 | [],_=>true
 | t::ts,d=>dpT t d&&dpL ts d
end
mutual
theorem zSn:∀ t:GT,1<=szT t
 | .mk _ _ l=>by have:=zG8 l;simp only [szT];omega
theorem zG8:∀ l:List GT,0<=szL l
 | []=>Int.le_refl _
 | t::ts=>by have:=zSn t;have:=zG8 ts;simp only [szL];omega
end
theorem zSo:∀ l m:List GT,szL (l++m)=szL l+szL m
 | [],m=>by simp [szL]
 | t::l,m=>by simp only [List.cons_append,szL,zSo l m];omega
theorem dpL_iff:∀ {l:List GT} {d:Int},dpL l d=true ↔ ∀ (i:Nat) (t:GT),l[i]?=some t->dpT t d=true
 | [],_=>by simp [dpL]
 | t::ts,d=>by
  simp only [dpL,Bool.and_eq_true,dpL_iff (l:=ts)]
  constructor
  ·rintro ⟨a,b⟩ i u hu
   cases i with
   | zero=>simp at hu;rw [← hu];exact a
   | succ i=>exact b i u (by simpa using hu)
  ·intro h
   exact ⟨h 0 t rfl,fun i u hu=>h (i+1) u (by simpa using hu)⟩
def zqn (t:GT) (a d n:Int) (b:Bool):Prop:=b=true->0<=a->a<=2000->0<=d->n=a-szT t/\0<=n/\dpT t d=true
def zJV (t:GT) (a d:Int) (x:Value):Prop:=∃ (n:Int) (b:Bool),x=.tuple #[iI n,.bool b]/\zqn t a d n b
def zm7 (h0:AH) (kk nn:Int) (v:Value) (l:List GT):Prop:=∀ k (a d:Int),Ext h0 k->∃ (n:Int) (b:Bool),zqn (.mk kk nn l) a d n b/\(zY E).call 280 [.agg #[iI kk,iI nn,v],iI a,iI d] k=some [(.tuple #[iI n,.bool b],k)]
mutual
theorem zSv {h0:AH}:∀ {v:Value} {l:List GT},RT h0 v l->∀ (kk nn:Int),zm7 h0 kk nn v l
 | v,l,.mk (els:=els) ha hn hc,kk,nn=>by
  intro k a d hk
  have be:RT h0 v l:=.mk ha hn hc
  have dN:=zOF hc
  have hlen:=RC.length hc
  obtain ⟨sa,sc,rfl⟩:=be.slice
  have key:∃ x,zJV (.mk kk nn l) a d x/\(zY E).call 280 [.agg #[iI kk,iI nn,.slice sa l.length sc],iI a,iI d] k=some [(x,k)]:=by
   refine zR4 hk.ok (zWh ?_)
   obtain ⟨k1,e1,n1,t1,o1,f1⟩:=nwF k (rO [iI kk,iI nn,.slice sa l.length sc] 173)
   simp only [zg,zK,zT,zA,e1,zb]
   have l2:=zF (P:=E) zDd (o:=2) t1
   simp only [lnth] at l2
   have ex:=hk.trans o1.ext
   have no:∀ n,znZ true (KB k [.tmp 4,.tmp 5] (zJV (.mk kk nn l) a d)) (iI n) k1:=fun n=>zWe (by simp only [zA,zQX,zX,true_and];exact ⟨⟨rfl,_,_,rfl,fun h=>by cases h⟩,o1.wm⟩)
   have no':∀ n,znW true (KB k [.tmp 4,.tmp 5] (zJV (.mk kk nn l) a d)) (iI n) k1:=fun n=>zWZ (by simp only [zA,zQX,zX,true_and];exact ⟨⟨rfl,_,_,rfl,fun h=>by cases h⟩,o1.wm⟩)
   have yes':∀ n,zqn (.mk kk nn l) a d n true->zkP true (KB k [.tmp 4,.tmp 5] (zJV (.mk kk nn l) a d)) (iI n) k1:=fun n hn=>zQr (by simp only [zA,zQX,zX,true_and];exact ⟨⟨rfl,_,_,rfl,hn⟩,o1.wm⟩)
   have loop:¬ 200<d->∀ (m i:Nat),i+m=l.length->∀ n:Int,(0<=a->a<=2000->0<=d->n=a-1-szL (l.take i)/\0<=n/\∀ (j:Nat) (t:GT),j<i->l[j]?=some t->dpT t (d+1)=true)->znX true (KB k [.tmp 4,.tmp 5] (zJV (.mk kk nn l) a d)) (iI n) (iI d) (.pointer (some ⟨k.next,0,none⟩)) (iI (i:Int)) k1:=by
    intro hd m
    induction m with
    | zero=>
     intro i hi n hp
     refine zLr ?_
     simp only [zAf,Nat.zero_add,l2,zA,zIc,zZ,show decide ((i:Int)<(l.length:Int))=false from decide_eq_false (by omega),zj]
     refine yes' n fun _ h1 h2 h3=>?_
     obtain ⟨p1,p2,p3⟩:=hp h1 h2 h3
     rw [List.take_of_length_le (by omega)] at p1
     refine ⟨by simp only [szT];omega,p2,?_⟩
     simp only [dpT,Bool.and_eq_true,decide_eq_true_eq]
     exact ⟨by omega,dpL_iff.2 fun j t hj=>p3 j t (by have:=(List.getElem?_eq_some_iff.1 hj).1;omega) hj⟩
    | succ m ih=>
     intro i hi n hp
     refine zLr ?_
     simp only [zAf,Nat.zero_add,l2,zA,zIc,zZ,show decide ((i:Int)<(l.length:Int))=true from decide_eq_true (by omega),zz]
     refine zWc ?_
     obtain ⟨x,hx⟩:∃ x,els[i]?=some x:=⟨_,List.getElem?_eq_getElem (by omega)⟩
     obtain ⟨p1,q1,w1⟩:=zLI ha ex hx
     obtain ⟨ck,cn,cv,cl,rfl,aN,hs⟩:=dN i x hx
     obtain ⟨n2,b,bC,hb⟩:=hs k1 n (zB4 .i64 (d+1)) ex
     simp only [zAf,Nat.zero_add,l2,zA,q1,w1,zKO,zQ,hb,zP,ze,lnth]
     refine zWb ?_
     refine zWa ?_
     simp only [zA,z6]
     cases b with
     | false=>simp only [Bool.not_false,zz];exact no' n2
     | true=>
      simp only [Bool.not_true,zj]
      refine zQs ?_
      simp only [zA,zAD _ (zEA (show i<l.length by omega) (by omega))]
      refine ih (i+1) (by omega) n2 fun h1 h2 h3=>?_
      obtain ⟨p1,p2,p3⟩:=hp h1 h2 h3
      have hz:=zG8 (l.take i)
      rw [zDC (show zC3 (d+1) by unfold zC3;omega)] at bC
      obtain ⟨q1,q2,q3⟩:=bC rfl p2 (by omega) (by omega)
      refine ⟨?_,q2,fun j t hj ht=>?_⟩
      ·rw [List.take_succ,aN,zSo];simp only [Option.toList,szL];omega
      ·rcases Nat.lt_succ_iff_lt_or_eq.1 hj with h|h
       ·exact p3 j t h ht
       ·subst h;rw [aN] at ht;cases ht;exact q3
   refine zWg ?_
   simp only [zA,zkL]
   refine zWf ?_
   have yes:¬ zB4 .i64 (a-1)<0->¬ 200<d->znY true (KB k [.tmp 4,.tmp 5] (zJV (.mk kk nn l) a d)) (iI (zB4 .i64 (a-1))) (iI d) (.pointer (some ⟨k.next,0,none⟩)) k1:=fun h1 h2=>zWd (by exact loop h2 l.length 0 (by omega) _ fun h3 h4 h5=>by rw [zDC (show zC3 (a-1) by unfold zC3;omega)] at h1 ⊢;exact ⟨by simp [szL],by omega,fun j t hj=>by omega⟩)
   by_cases h1:zB4 .i64 (a-1)<0 <;> by_cases h2:200<d <;>
    simp only [zA,zZ,zAK,h1,h2,decide_true,decide_false,zM,beq_self_eq_true,show (true==false)=false from rfl,show (false==true)=false from rfl,cond_true,cond_false,zJ,zz,zj] <;> first|exact no _|exact yes h1 h2
  obtain ⟨x,⟨n,b,rfl,bC⟩,hx⟩:=key
  exact ⟨n,b,bC,hx⟩
theorem zOF {h0:AH}:∀ {els:List (List Value)} {ts:List GT},RC h0 els ts->∀ (i:Nat) (e:List Value),els[i]?=some e->
  ∃ (k n:Int) (v:Value) (l:List GT),e=[iI k,iI n,v]/\ts[i]?=some (.mk k n l)/\zm7 h0 k n v l
 | _,_,.nil,i,e,h=>by simp at h
 | _,_,.cons hv hs,0,e,h=>by simp at h;exact ⟨_,_,_,_,h.symm,rfl,zSv hv _ _⟩
 | _,_,.cons hv hs,i+1,e,h=>by
  simp only [List.getElem?_cons_succ] at h
  obtain ⟨k,n,v,l,a,b,c⟩:=zOF hs i e h
  exact ⟨k,n,v,l,a,by simpa using b,c⟩
end
theorem zjg {h0 k:AH} {v:Value} {l:List GT} (hr:RT h0 v l) (hk:Ext h0 k) (kk nn:Int):∃ x,zAm (szT (.mk kk nn l)<=2000/\dpT (.mk kk nn l) 1=true) x/\(zY E).call 264 [.agg ⟨[iI kk,iI nn,v]⟩] k=some [(x,k)]:=by
 refine zR5 hk.ok (zWv ?_)
 obtain ⟨k1,e1,n1,t1,o1,f1⟩:=nwF k (rO [iI kk,iI nn,v] 173)
 simp only [zg,zK,zT,zA,e1,zb]
 have a1:=zV (P:=E) zCK (o:=0) t1 (by simp)
 simp only [List.drop_zero,List.take] at a1
 have ex:=hk.trans o1.ext
 obtain ⟨n,b,bC,hb⟩:=zSv hr kk nn k1 2000 1 ex
 obtain ⟨c,_,hc⟩:=zSu hr kk nn k1 ex
 refine zWu ?_
 simp only [a1,zA,zQ,hb,zP,ze,lnth]
 refine zWt ?_
 cases b with
 | true=>simp only [a1,zA,zM,zU,beq_self_eq_true,cond_true,zQ,hc,zP,zJ,zAS,zX,true_and];exact ⟨⟨rfl,_,rfl,fun _=>by have:=bC rfl (by omega) (by omega) (by omega);exact ⟨by omega,this.2.2⟩⟩,o1.wm⟩
 | false=>simp only [a1,zA,zM,zU,show (false==true)=false from rfl,cond_false,zK,zJ,zAS,zX,true_and];exact ⟨⟨rfl,_,rfl,fun h=>by cases h⟩,o1.wm⟩
theorem zjk {h0 k:AH} {v:Value} {l:List GT} (hr:RT h0 v l) (hk:Ext h0 k) (kk nn:Int):∃ x,(∃ n:Int,x=iI n/\(n=0->szT (.mk kk nn l)<=2000/\dpT (.mk kk nn l) 1=true))/\(zY E).call 231 [.agg ⟨[iI kk,iI nn,v]⟩] k=some [(x,k)]:=by
 refine zR8 hk.ok (zXY ?_)
 obtain ⟨k1,e1,n1,t1,o1,f1⟩:=nwF k (rO [iI kk,iI nn,v] 173)
 simp only [zg,zK,zT,zA,e1,zb]
 have a1:=zV (P:=E) zCK (o:=0) t1 (by simp)
 simp only [List.drop_zero,List.take] at a1
 obtain ⟨x,⟨b,rfl,bC⟩,hb⟩:=zjg hr (hk.trans o1.ext) kk nn
 refine zXX ?_
 simp only [a1,zA,zQ,hb,zP,z6]
 cases b with
 | true=>simp only [Bool.not_true,zj];refine zXV ?_;simp only [zA,zAS,zX,true_and];exact ⟨⟨rfl,_,rfl,fun _=>bC rfl⟩,o1.wm⟩
 | false=>simp only [Bool.not_false,zz];refine zXW ?_;simp only [zA,zAS,zX,true_and];exact ⟨⟨rfl,_,rfl,fun h=>by omega⟩,o1.wm⟩
mutual
theorem zO2:∀ (t:GT) (d:Int) (s:Int×Int),dpT t d=true->0<=d->0<=s.1->s.1+szT t<=2000->s.2<=200->(zUU t d s).1=s.1+szT t/\(zUU t d s).2<=200
 | .mk k n l,d,s,h1,h2,h3,h4,h5=>by
  simp only [dpT,Bool.and_eq_true,decide_eq_true_eq] at h1
  have hz:=zG8 l
  simp only [szT] at h4 ⊢
  simp only [zUU]
  rw [zDC (show zC3 (s.1+1) by unfold zC3;omega)]
  have:=zO3 l d (s.1+1,if d > s.2 then d else s.2) h1.2 h1.1 h2 (by simp only;omega) (by simp only;omega) (by simp only;split <;> omega)
  simp only at this
  exact ⟨by omega,this.2⟩
theorem zO3:∀ (l:List GT) (d:Int) (s:Int×Int),dpL l (d+1)=true->d<=200->0<=d->0<=s.1->s.1+szL l<=2000->s.2<=200->(zUV l d s).1=s.1+szL l/\(zUV l d s).2<=200
 | [],d,s,_,_,_,_,_,h=>by simp [zUV,szL,h]
 | t::ts,d,s,h1,h2,h3,h4,h5,h6=>by
  simp only [dpL,Bool.and_eq_true] at h1
  have hz:=zG8 ts
  have d9:=zSn t
  simp only [szL] at h5 ⊢
  simp only [zUV]
  rw [if_neg (by omega),zDC (show zC3 (d+1) by unfold zC3;omega)]
  obtain ⟨a,b⟩:=zO2 t (d+1) s h1.1 (by omega) h4 (by omega) h6
  obtain ⟨a',b'⟩:=zO3 ts d (zUU t (d+1) s) h1.2 h2 h3 (by omega) (by omega) b
  exact ⟨by omega,b'⟩
end
theorem ziL {t:GT} (h1:szT t<=2000) (h2:dpT t 1=true) (h3:okT t=true):zGB t=true:=by
 obtain ⟨a,b⟩:=zO2 t 1 (0,0) h2 (by omega) (by simp) (by simpa using h1) (by simp)
 simp only [Int.zero_add] at a
 unfold zGB zPn
 rw [h3,if_neg (by omega)]
 simp only [Bool.and_true,decide_eq_true_eq]
 omega
theorem zjt {h0 k:AH} {v:Value} {l:List GT} (hr:RT h0 v l) (hk:Ext h0 k) (kk nn:Int):∃ x,zAm (zGB (.mk kk nn l)=true) x/\(zY E).call 187 [.agg ⟨[iI kk,iI nn,v]⟩] k=some [(x,k)]:=by
 refine zSC hk.ok (zYv ?_)
 obtain ⟨k1,e1,n1,t1,o1,f1⟩:=nwF k (rO [iI kk,iI nn,v] 173)
 simp only [zg,zK,zT,zA,e1,zb]
 have a1:=zV (P:=E) zCK (o:=0) t1 (by simp)
 simp only [List.drop_zero,List.take] at a1
 have ex:=hk.trans o1.ext
 obtain ⟨b,bC,hb⟩:=zSx hr kk nn k1 ex
 obtain ⟨x,⟨n,rfl,hn⟩,hc⟩:=zjk hr ex kk nn
 refine zYu ?_
 simp only [a1,zA,zQ,hb,zP]
 cases b with
 | true=>simp only [a1,zA,zM,zU,beq_self_eq_true,cond_true,zQ,hc,zP,zAg,zJ,zAS,zX,true_and];exact ⟨⟨rfl,_,rfl,fun h=>by have:=hn (of_decide_eq_true h);exact ziL this.1 this.2 (bC rfl)⟩,o1.wm⟩
 | false=>simp only [a1,zA,zM,zU,show (false==true)=false from rfl,cond_false,zK,zJ,zAS,zX,true_and];exact ⟨⟨rfl,_,rfl,fun h=>by cases h⟩,o1.wm⟩
end Go.Proofs
namespace Go.Proofs
open Go Go.AM
set_option maxRecDepth 100000
set_option maxHeartbeats 2000000
theorem zq2 {k l:AH} (o:Own k l) (x y:AObj):∃ m,(l.new x).upd l.next (some y)=m/\m.next=l.next+1/\m.get l.next=some y/\Own k m/\∀ b,b<l.next->m.get b=l.get b:=
 ⟨_,rfl,rfl,zO _ _ _,(o.new x).upd o.ext.next _,fun b hb=>by rw [zW (by omega),zL (by omega)]⟩
theorem zU4 {g:Int} {l:List GT} (c1:¬ g < -3) (c2:¬ 31<g) (c3:¬ (8:Int)<(l.length:Int)) (c4:(zSV g&&decide ((0:Int)<(l.length:Int)))=false) (c5:∀ (j:Nat) (t:GT),l[j]?=some t->zGB t=true):zA6 g l=false:=by
 have h5:zAQ (zOP l zGB) l.length 0<0:=(zCt _ _).1 fun j _ _=>by
  unfold zOP
  cases ht:l[j]? with
  | none=>rfl
  | some t=>simp [c5 j t ht]
 simp only [zA6,Bool.or_eq_false_iff,decide_eq_false_iff_not]
 refine ⟨⟨⟨⟨c1,by omega⟩,by omega⟩,?_⟩,by omega⟩
 cases hb:zSV g with
 | false=>rfl
 | true=>
  rw [hb] at c4
  simp only [Bool.true_and,decide_eq_false_iff_not] at c4 ⊢
  omega
theorem zUs (a b:Int):(a<b/\c3 a b=-1)\/(a=b/\c3 a b=0)\/(b<a/\c3 a b=1):=by
 unfold c3
 split
 ·exact .inl ⟨by assumption,rfl⟩
 ·split
  ·exact .inr (.inr ⟨by assumption,rfl⟩)
  ·exact .inr (.inl ⟨by omega,rfl⟩)
theorem zNh (e f:Int×Int×Int):zUX e f<0 ↔ e.1<f.1\/(e.1=f.1/\(e.2.1<f.2.1\/(e.2.1=f.2.1/\e.2.2<f.2.2))):=by
 simp only [zUX,orI]
 rcases zUs e.1 f.1 with ⟨a,a'⟩|⟨a,a'⟩|⟨a,a'⟩ <;> rcases zUs e.2.1 f.2.1 with ⟨b,b'⟩|⟨b,b'⟩|⟨b,b'⟩ <;> rcases zUs e.2.2 f.2.2 with ⟨c,c'⟩|⟨c,c'⟩|⟨c,c'⟩ <;> rw [a',b',c'] <;> simp <;> omega
theorem zEh {p:Nat->Bool}:∀ {m i:Nat},(∀ j,i<=j->j<i+m->p j=false)->zAI p m i=false
 | 0,_,_=>rfl
 | m+1,i,h=>by
  simp only [zAI,Bool.or_eq_false_iff]
  exact ⟨h i (by omega) (by omega),zEh fun j h1 h2=>h j (by omega) (by omega)⟩
theorem zU3 {L:GL} (h1:zBC L=false) (h2:∀ j,j<L.labs.length->zBE L.labs j=false) (h3:∀ j,j<L.eds.length->zBS L.n L.labs.length L.eds j=false):zy L=false:=by
 unfold zy
 rw [h1,zEh fun j _ h=>h2 j (by omega),zEh fun j _ h=>h3 j (by omega)]
 rfl
theorem zdv {n m:Int} {es:List (Int×Int×Int)} {i:Nat} {e:Int×Int×Int} (he:es[i]?=some e) (r:0<=e.1/\e.1<n/\0<=e.2.2/\e.2.2<n/\0<=e.2.1/\e.2.1<m) (hp:0<i->∀ f,es[i-1]?=some f->zUX f e<0):zBS n m es i=false:=by
 unfold zBS
 obtain ⟨a1,a2,a3,a4,a5,a6⟩:=r
 simp only [he,a1,a2,a3,a4,a5,a6,decide_true,Bool.and_self,Bool.not_true,Bool.false_or]
 by_cases hi:0<i
 ·rw [decide_eq_true hi]
  cases hf:es[i-1]? with
  | none=>rfl
  | some f=>exact (Bool.true_and _).trans (decide_eq_false (by have:=hp hi f hf;omega))
 ·rw [decide_eq_false hi];rfl
theorem zTu {ls:List (Int×List GT)} {i:Nat} {x:Int×List GT} (he:ls[i]?=some x) (h1:zA6 x.1 x.2=false) (hp:0<i->∀ y,ls[i-1]?=some y->zCY y.1 y.2 x.1 x.2<0):zBE ls i=false:=by
 unfold zBE
 simp only [he,h1,Bool.false_or]
 by_cases hi:0<i
 ·rw [decide_eq_true hi]
  cases hf:ls[i-1]? with
  | none=>rfl
  | some f=>exact (Bool.true_and _).trans (decide_eq_false (by have:=hp hi f hf;omega))
 ·rw [decide_eq_false hi];rfl
theorem zj9 {h0 k:AH} {g:Int} {v:Value} {l:List GT} (hr:RT h0 v l) (hk:Ext h0 k):∃ x,zAm (zA6 g l=false) x/\(zY E).call 138 [.agg ⟨[iI g,v]⟩] k=some [(x,k)]:=by
 have hs:=hr.slice
 cases hr with
 | @mk _ els _ ha hn hc=>
 have hlen:=RC.length hc
 obtain ⟨sa,sc,rfl⟩:=hs
 refine zSE hk.ok (zay ?_)
 obtain ⟨k1,e1,n1,t1,o1,f1⟩:=nwF k (rO [iI g,.slice sa l.length sc] 36)
 simp only [zg,zK,zT,zA,e1,zb]
 have l0:=zF (P:=E) zAb (o:=0) t1
 have l1:=zF (P:=E) zDd (o:=1) t1
 simp only [lnth] at l0 l1
 have ex:=hk.trans o1.ext
 have no:zoN true (KB k [.tmp 2] (zAm (zA6 g l=false))) k1:=zaw (by simp only [zA,zAS,zX,true_and];exact ⟨⟨rfl,_,rfl,fun h=>by cases h⟩,o1.wm⟩)
 have no4:zoL true (KB k [.tmp 2] (zAm (zA6 g l=false))) k1:=zau (by simp only [zA,zAS,zX,true_and];exact ⟨⟨rfl,_,rfl,fun h=>by cases h⟩,o1.wm⟩)
 have no9:zoI true (KB k [.tmp 2] (zAm (zA6 g l=false))) k1:=zaq (by simp only [zA,zAS,zX,true_and];exact ⟨⟨rfl,_,rfl,fun h=>by cases h⟩,o1.wm⟩)
 have yes:zA6 g l=false->zkY true (KB k [.tmp 2] (zAm (zA6 g l=false))) k1:=fun h=>zRZ (by simp only [zA,zAS,zX,true_and];exact ⟨⟨rfl,_,rfl,fun _=>h⟩,o1.wm⟩)
 have loop:¬ g < -3->¬ 31<g->¬ (8:Int)<(l.length:Int)->(zSV g&&decide ((0:Int)<(l.length:Int)))=false->∀ (m i:Nat),i+m=l.length->(∀ (j:Nat) (t:GT),j<i->l[j]?=some t->zGB t=true)->zoJ true (KB k [.tmp 2] (zAm (zA6 g l=false))) (.pointer (some ⟨k.next,0,none⟩)) (iI (i:Int)) k1:=by
  intro c1 c2 c3 c4 m
  induction m with
  | zero=>
   intro i hi hp
   refine zMM ?_
   simp only [zCB,Nat.zero_add,l1,zA,zIh,zZ,show decide ((i:Int)<(l.length:Int))=false from decide_eq_false (by omega),zj]
   exact yes (zU4 c1 c2 c3 c4 fun j t hj=>hp j t (by have:=(List.getElem?_eq_some_iff.1 hj).1;omega) hj)
  | succ m ih=>
   intro i hi hp
   refine zMM ?_
   simp only [zCB,Nat.zero_add,l1,zA,zIh,zZ,show decide ((i:Int)<(l.length:Int))=true from decide_eq_true (by omega),zz]
   refine zas ?_
   obtain ⟨x,hx⟩:∃ x,els[i]?=some x:=⟨_,List.getElem?_eq_getElem (by omega)⟩
   obtain ⟨p1,q1,w1⟩:=zLI ha ex hx
   obtain ⟨ck,cn,cv,cl,rfl,fQ,aN⟩:=RC.at hc i x hx
   obtain ⟨y,⟨b,rfl,bC⟩,hb⟩:=zjt fQ ex ck cn
   simp only [zCB,Nat.zero_add,l1,zA,q1,w1,zQ,hb,zP]
   refine zar ?_
   simp only [zA,z6]
   cases b with
   | false=>simp only [Bool.not_false,zz];exact no9
   | true=>
    simp only [Bool.not_true,zj]
    refine zRa ?_
    simp only [zA,zAD _ (zEA (show i<l.length by omega) (by omega))]
    refine ih (i+1) (by omega) fun j t hj ht=>?_
    rcases Nat.lt_succ_iff_lt_or_eq.1 hj with h|h
    ·exact hp j t h ht
    ·subst h;rw [aN] at ht;cases ht;exact bC rfl
 have go:¬ g < -3->¬ 31<g->¬ (8:Int)<(l.length:Int)->(zSV g&&decide ((0:Int)<(l.length:Int)))=false->zoK true (KB k [.tmp 2] (zAm (zA6 g l=false))) (.pointer (some ⟨k.next,0,none⟩)) k1:=fun c1 c2 c3 c4=>zat (by exact loop c1 c2 c3 c4 l.length 0 (by omega) fun j t hj=>by omega)
 have mid:¬ g < -3->¬ 31<g->¬ (8:Int)<(l.length:Int)->zoM true (KB k [.tmp 2] (zAm (zA6 g l=false))) (.pointer (some ⟨k.next,0,none⟩)) k1:=by
  intro c1 c2 c3
  refine zav ?_
  cases h1:decide (g=-3) <;> cases h2:decide (g=-1) <;> cases h3:decide ((0:Int)<(l.length:Int)) <;>
   simp only [zBg,zCB,Nat.zero_add,Nat.add_zero,l0,l1,zA,zNC,zAg,zAK,h1,h2,h3,zM,beq_self_eq_true,show (true==false)=false from rfl,show (false==true)=false from rfl,cond_true,cond_false,zJ,zz,zj] <;> first|exact no4|exact go c1 c2 c3 (by simp only [zSV,h1,h2,h3];rfl)
 refine zax ?_
 cases h1:decide (g < -3) <;> cases h2:decide (31<g) <;> cases h3:decide ((8:Int)<(l.length:Int)) <;>
  simp only [zBg,zCB,Nat.zero_add,Nat.add_zero,l0,l1,zA,zND,zZ,zAK,h1,h2,h3,zM,beq_self_eq_true,show (true==false)=false from rfl,show (false==true)=false from rfl,cond_true,cond_false,zJ,zz,zj] <;> first|exact no|exact mid (of_decide_eq_false h1) (of_decide_eq_false h2) (of_decide_eq_false h3)
theorem zj8 {k:AH} {e f:Int×Int×Int} (aa:k.ok):(zY E).call 139 [.agg ⟨zm e⟩,.agg ⟨zm f⟩] k=some [(.bool (decide (zUX e f<0)),k)]:=by
 refine zcv (s:=true) aa rfl (zap ?_)
 obtain ⟨k1,e1,n1,t1,o1,f1⟩:=nwF k (rO (zm e) 52)
 obtain ⟨k2,e2,n2,t2,o2,f2⟩:=nw o1 (rO (zm f) 52)
 simp only [zg,zK,zT,zA,e1,e2,zb]
 have g1:=(f2 k.next (by omega)).trans t1
 have l0:=zF (P:=E) zAb (o:=0) g1
 have l1:=zF (P:=E) zAb (o:=1) g1
 have l2:=zF (P:=E) zAb (o:=2) g1
 have m0:=zF (P:=E) zAb (o:=0) t2
 have m1:=zF (P:=E) zAb (o:=1) t2
 have m2:=zF (P:=E) zAb (o:=2) t2
 simp only [lnth,zm] at l0 l1 l2 m0 m1 m2
 refine zao ?_
 simp only [zEJ,Nat.add_zero,l0,m0,zA,zAp,zKK]
 refine ⟨fun h1=>zan ?_,fun h1=>zam ?_⟩
 ·simp only [zEJ,Nat.add_zero,l0,m0,zA,zZ,zAS,zX,true_and];exact ⟨congrArg Value.bool (decide_eq_decide.2 (by rw [zNh];omega)),o2.wm⟩
 simp only [zEI,Nat.zero_add,l1,m1,zA,zAp,zKK]
 refine ⟨fun h2=>zal ?_,fun h2=>zak ?_⟩
 ·simp only [zEI,Nat.zero_add,l1,m1,zA,zZ,zAS,zX,true_and];exact ⟨congrArg Value.bool (decide_eq_decide.2 (by rw [zNh];omega)),o2.wm⟩
 ·simp only [zE7,Nat.zero_add,l2,m2,zA,zZ,zAS,zX,true_and];exact ⟨congrArg Value.bool (decide_eq_decide.2 (by rw [zNh];omega)),o2.wm⟩
theorem ziV {i:Nat} (hi:0<i) (hn:i<=9223372036854775807):zC E .sub 3 (iI (i:Int)) (iI 1)=some (iI ((i-1:Nat):Int)):=by
 rw [zGf _ (show zC3 ((i:Int)-1) by unfold zC3;omega)]
 congr 2;omega
theorem zmO {k:AH} {x:Value} {L:GL} (aa:k.ok) (hx:RL k x L):∃ y,zAm (zy L=false) y/\(zY E).call 85 [x] k=some [(y,k)]:=by
 obtain ⟨vl,ve,els,rfl,x2,x3,x4⟩:=hx.ex
 refine zcF aa (zed ?_)
 obtain ⟨k1,e1,n1,t1,o1,f1⟩:=nwF k (rO [iI L.n,vl,ve] 25)
 simp only [zg,zK,zT,zA,e1,zb]
 have l0:=zF (P:=E) zAb (o:=0) t1
 have l1:=zF (P:=E) zG7 (o:=1) t1
 have l2:=zF (P:=E) zJc (o:=2) t1
 simp only [lnth] at l0 l1 l2
 have hL:=RLab.length x3
 obtain ⟨sa,sc,bc⟩:=x2.slice
 obtain ⟨sb,sd,cI⟩:=x4.slice
 rw [List.length_map] at cI
 have no:zqY true (KB k [.tmp 2] (zAm (zy L=false))) k1:=zeb (by simp only [zA,zAS,zX,true_and];exact ⟨⟨rfl,_,rfl,fun h=>by cases h⟩,o1.wm⟩)
 have no7:zqV true (KB k [.tmp 2] (zAm (zy L=false))) k1:=zeX (by simp only [zA,zAS,zX,true_and];exact ⟨⟨rfl,_,rfl,fun h=>by cases h⟩,o1.wm⟩)
 have no9:zqU true (KB k [.tmp 2] (zAm (zy L=false))) k1:=zeV (by simp only [zA,zAS,zX,true_and];exact ⟨⟨rfl,_,rfl,fun h=>by cases h⟩,o1.wm⟩)
 have eloop:L.eds.length<=100000->zBC L=false->(∀ j,j<L.labs.length->zBE L.labs j=false)->∀ (m i:Nat),i+m=L.eds.length->(∀ j,j<i->zBS L.n L.labs.length L.eds j=false)->∀ l,Own k l->l.get k.next=some (rO [iI L.n,vl,ve] 25)->k.next<l.next->
   znM true (KB k [.tmp 2] (zAm (zy L=false))) (.pointer (some ⟨k.next,0,none⟩)) (iI (i:Int)) l:=by
  intro hb hz hlb m
  induction m with
  | zero=>
   intro i hi hp l ol tl hn
   have l2:=zF (P:=E) zJc (o:=2) tl
   simp only [lnth] at l2
   refine zLj ?_
   rw [cI] at l2
   simp only [zCC,Nat.zero_add,l2,zA,zIa,zZ,show decide ((i:Int)<(L.eds.length:Int))=false from decide_eq_false (by omega),zj]
   exact zVy (by simp only [zA,zAS,zX,true_and];exact ⟨⟨rfl,_,rfl,fun _=>zU3 hz hlb fun j hj=>hp j (by omega)⟩,ol.wm⟩)
  | succ m ih=>
   intro i hi hp l ol tl hn
   have l2:=zF (P:=E) zJc (o:=2) tl
   simp only [lnth] at l2
   have cM:i<L.eds.length:=by omega
   obtain ⟨e,he⟩:∃ e,L.eds[i]?=some e:=⟨_,List.getElem?_eq_getElem cM⟩
   have dw:(L.eds.map zm)[i]?=some (zm e):=by rw [List.getElem?_map,he];rfl
   obtain ⟨p1,q1,w1⟩:=zl5 x4 ol.ext dw
   refine zLj ?_
   have l2':=l2
   rw [cI] at l2'
   simp only [zCC,Nat.zero_add,l2',zA,zIa,zZ,show decide ((i:Int)<(L.eds.length:Int))=true from decide_eq_true (by omega),zz]
   refine zV4 ?_
   obtain ⟨l1',e3,n3,t3,o3,f3⟩:=zq2 ol (rO [iI 0,iI 0,iI 0] 52) (rO (zm e) 52)
   simp only [zCC,Nat.zero_add,l2,zA,q1,w1,zo6,zg,zK,zT,zmi,e3]
   have tl':=(f3 k.next hn).trans tl
   have a0:=zF (P:=E) zAb (o:=0) tl'
   have a1:=zF (P:=E) zG7 (o:=1) tl'
   have a2:=zF (P:=E) zJc (o:=2) tl'
   have b0:=zF (P:=E) zAb (o:=0) t3
   have b1:=zF (P:=E) zAb (o:=1) t3
   have b2:=zF (P:=E) zAb (o:=2) t3
   simp only [lnth,zm] at a0 a1 a2 b0 b1 b2
   have next:(0<=e.1/\e.1<L.n/\0<=e.2.2/\e.2.2<L.n/\0<=e.2.1/\e.2.1<(L.labs.length:Int))->znK true (KB k [.tmp 2] (zAm (zy L=false))) (.pointer (some ⟨k.next,0,none⟩)) (iI (i:Int)) (.pointer (some ⟨l.next,0,none⟩)) l1':=by
    intro hrg
    have on:(0<i->∀ f,L.eds[i-1]?=some f->zUX f e<0)->znJ true (KB k [.tmp 2] (zAm (zy L=false))) (.pointer (some ⟨k.next,0,none⟩)) (iI (i:Int)) l1':=by
     intro hpv
     refine zVz ?_
     simp only [zA,zAD _ (zEA cM (by omega))]
     refine ih (i+1) (by omega) (fun j hj=>?_) l1' o3 tl' (by omega)
     rcases Nat.lt_succ_iff_lt_or_eq.1 hj with h|h
     ·exact hp j h
     ·subst h;exact zdv he hrg hpv
    refine zV1 ?_
    simp only [zA,zAK]
    by_cases h0:(0:Int)<(i:Int)
    ·obtain ⟨f,hf⟩:∃ f,L.eds[i-1]?=some f:=⟨_,List.getElem?_eq_getElem (by omega)⟩
     have iw:(L.eds.map zm)[i-1]?=some (zm f):=by rw [List.getElem?_map,hf];rfl
     obtain ⟨p2,q2,w2⟩:=zl5 x4 o3.ext iw
     have ag:=zV (P:=E) zPl (o:=0) t3 (by simp [zm])
     rw [show ((zm e).drop 0).take 3=zm e from rfl] at ag
     have hc:=zj8 (e:=f) (f:=e) o3.ext.ok
     cases dU:decide (zUX f e<0) <;> rw [dU] at hc
     ·simp only [h0,decide_true,zM,zU,beq_self_eq_true,cond_true,zCC,Nat.zero_add,a2,zA,ziV (show 0<i by omega) (by omega),q2,w2,ag,zQ,hc,zP,z6,zJ]
      simp only [Bool.not_false,zz];exact zV0 (by simp only [zA,zAS,zX,true_and];exact ⟨⟨rfl,_,rfl,fun h=>by cases h⟩,o3.wm⟩)
     ·simp only [h0,decide_true,zM,zU,beq_self_eq_true,cond_true,zCC,Nat.zero_add,a2,zA,ziV (show 0<i by omega) (by omega),q2,w2,ag,zQ,hc,zP,z6,zJ]
      simp only [Bool.not_true,zj];exact on fun _ g hg=>by rw [hf] at hg;cases hg;exact of_decide_eq_true dU
    ·simp only [h0,decide_false,zM,zU,show (false==true)=false from rfl,cond_false,zA,zK,zJ,zj]
     exact on fun h=>absurd (by omega) h0
   have no15:znL true (KB k [.tmp 2] (zAm (zy L=false))) l1':=zV2 (by simp only [zA,zAS,zX,true_and];exact ⟨⟨rfl,_,rfl,fun h=>by cases h⟩,o3.wm⟩)
   refine zV3 ?_
   rw [bc] at a1
   cases h1:decide (e.1<0) <;> cases h2:decide (L.n<=e.1) <;> cases h3:decide (e.2.2<0) <;> cases h4:decide (L.n<=e.2.2) <;> cases h5:decide (e.2.1<0) <;> cases h6:decide ((els.length:Int)<=e.2.1) <;>
    simp only [zCD,zBR,zEJ,zEI,zE7,Nat.zero_add,Nat.add_zero,a0,a1,b0,b1,b2,zA,zM3,zZ,zAa,h1,h2,h3,h4,h5,h6,zM,beq_self_eq_true,show (true==false)=false from rfl,show (false==true)=false from rfl,cond_true,cond_false,zJ,zz,zj] <;> first|exact no15|exact next (by have:=of_decide_eq_false h1;have:=of_decide_eq_false h2;have:=of_decide_eq_false h3;have:=of_decide_eq_false h4;have:=of_decide_eq_false h5;have:=of_decide_eq_false h6;omega)
 have lloop:els.length<=4000->L.eds.length<=100000->zBC L=false->∀ (m i:Nat),i+m=els.length->(∀ j,j<i->zBE L.labs j=false)->zqW true (KB k [.tmp 2] (zAm (zy L=false))) (.pointer (some ⟨k.next,0,none⟩)) (iI (i:Int)) k1:=by
  intro hb aW hz m
  induction m with
  | zero=>
   intro i hi hp
   refine zPN ?_
   have l1':=l1
   rw [bc] at l1'
   simp only [zBR,Nat.zero_add,l1',zA,zK8,zZ,show decide ((i:Int)<(els.length:Int))=false from decide_eq_false (by omega),zj]
   refine zV5 ?_
   exact eloop aW hz (fun j hj=>hp j (by omega)) L.eds.length 0 (by omega) (fun j hj=>by omega) k1 o1 t1 (by omega)
  | succ m ih=>
   intro i hi hp
   have cM:i<els.length:=by omega
   obtain ⟨x,hx⟩:∃ x,els[i]?=some x:=⟨_,List.getElem?_eq_getElem cM⟩
   obtain ⟨p1,q1,w1⟩:=zl6 x2 o1.ext hx
   obtain ⟨g,v,l,rfl,hr,ew⟩:=RLab.at x3 i x hx
   obtain ⟨y,⟨b,rfl,bC⟩,aN⟩:=zj9 (g:=g) hr o1.ext
   refine zPN ?_
   have l1':=l1
   rw [bc] at l1'
   simp only [zBR,Nat.zero_add,l1',zA,zK8,zZ,show decide ((i:Int)<(els.length:Int))=true from decide_eq_true (by omega),zz]
   refine zeZ ?_
   simp only [zBR,Nat.zero_add,l1,zA,q1,w1,zQ,aN,zP]
   refine zeY ?_
   simp only [zA,z6]
   have on:zA6 g l=false->(0<i->∀ y,L.labs[i-1]?=some y->zCY y.1 y.2 g l<0)->znN true (KB k [.tmp 2] (zAm (zy L=false))) (.pointer (some ⟨k.next,0,none⟩)) (iI (i:Int)) k1:=by
    intro bp aW
    refine zV6 ?_
    simp only [zA,zAD _ (zEA cM (by omega))]
    refine ih (i+1) (by omega) fun j hj=>?_
    rcases Nat.lt_succ_iff_lt_or_eq.1 hj with h|h
    ·exact hp j h
    ·subst h;exact zTu ew bp aW
   cases b with
   | false=>simp only [Bool.not_false,zz];exact no7
   | true=>
    simp only [Bool.not_true,zj]
    refine zeW ?_
    simp only [zA,zAK]
    by_cases h0:(0:Int)<(i:Int)
    ·obtain ⟨z,bI⟩:∃ z,els[i-1]?=some z:=⟨_,List.getElem?_eq_getElem (by omega)⟩
     obtain ⟨p2,q2,w2⟩:=zl6 x2 o1.ext bI
     obtain ⟨g2,v2,l2',rfl,iO,iU⟩:=RLab.at x3 (i-1) z bI
     have hc:=zmN (g:=g2) (g':=g) iO hr o1.ext
     simp only [h0,decide_true,zM,zU,beq_self_eq_true,cond_true,zBR,Nat.zero_add,l1,zA,ziV (show 0<i by omega) (by omega),q1,w1,q2,w2,zQ,hc,zP,zAa,zJ,zAM]
     exact ⟨fun _=>no9,fun ab=>on (bC rfl) fun _ y hy=>by rw [iU] at hy;cases hy;simp only;omega⟩
    ·simp only [h0,decide_false,zM,zU,show (false==true)=false from rfl,cond_false,zA,zK,zJ,zj]
     exact on (bC rfl) fun h=>absurd (by omega) h0
 refine zec ?_
 have go:els.length<=4000->L.eds.length<=100000->zBC L=false->zqX true (KB k [.tmp 2] (zAm (zy L=false))) (.pointer (some ⟨k.next,0,none⟩)) k1:=fun h1 h2 h3=>zea (by exact lloop h1 h2 h3 els.length 0 (by omega) fun j hj=>by omega)
 rw [bc] at l1
 rw [cI] at l2
 cases h1:decide (L.n<1) <;> cases h2:decide (20000<L.n) <;> cases h3:decide ((4000:Int)<(els.length:Int)) <;> cases h4:decide ((100000:Int)<(L.eds.length:Int)) <;>
  simp only [zCD,zBR,zCC,Nat.zero_add,Nat.add_zero,l0,l1,l2,zA,zP9,zP8,zZ,zAK,h1,h2,h3,h4,zM,beq_self_eq_true,show (true==false)=false from rfl,show (false==true)=false from rfl,cond_true,cond_false,zJ,zz,zj] <;>
  first|exact no|exact go (by have:=of_decide_eq_false h3;omega) (by have:=of_decide_eq_false h4;omega) (by have:=of_decide_eq_false h1;have:=of_decide_eq_false h2;have:=of_decide_eq_false h3;have:=of_decide_eq_false h4;simp only [zBC,Bool.or_eq_false_iff,decide_eq_false_iff_not];omega)
theorem zmZ {k:AH} {x:Value} {L:GL} (aa:k.ok) (hx:RL k x L):∃ n:Int,(n=0->zy L=false)/\(zY E).call 23 [x] k=some [(iI n,k)]:=by
 obtain ⟨vl,ve,els,rfl,x2,x3,x4⟩:=id hx.ex
 have key:∃ y,(∃ n:Int,y=iI n/\(n=0->zy L=false))/\(zY E).call 23 [.agg #[iI L.n,vl,ve]] k=some [(y,k)]:=by
  refine zcN aa (zfu ?_)
  obtain ⟨k1,e1,n1,t1,o1,f1⟩:=nwF k (rO [iI L.n,vl,ve] 25)
  simp only [zg,zK,zT,zA,e1,zb]
  have a1:=zV (P:=E) zDe (o:=0) t1 (by simp)
  simp only [List.drop_zero,List.take] at a1
  obtain ⟨y,⟨b,rfl,bC⟩,hb⟩:=zmO o1.ext.ok (hx.ext o1.ext)
  refine zft ?_
  simp only [a1,zA,zQ,hb,zP]
  refine zfs ?_
  simp only [zA,z6]
  cases b with
  | true=>simp only [Bool.not_true,zj];refine zfq ?_;simp only [zA,zAS,zX,true_and];exact ⟨⟨rfl,_,rfl,fun _=>bC rfl⟩,o1.wm⟩
  | false=>simp only [Bool.not_false,zz];refine zfr ?_;simp only [zA,zAS,zX,true_and];exact ⟨⟨rfl,_,rfl,fun h=>by omega⟩,o1.wm⟩
 obtain ⟨y,⟨n,rfl,hn⟩,h⟩:=key
 exact ⟨n,hn,h⟩
end Go.Proofs
namespace Go.Proofs
open Go Go.AM
structure More (w:World) (σ:Sg) (h:AH) (σ':Sg) (h':AH):Prop where
 le:Sg.le σ σ'
 ext:Ext h h'
 hr:HR w.heap.size σ' h' w
theorem More.refl {w:World} {σ:Sg} {h:AH} (H:HR w.heap.size σ h w) (ok:h.ok):More w σ h σ h:=⟨Sg.le_refl σ,Ext.refl ok,H⟩
theorem More.trans {w:World} {σ σ1 σ2:Sg} {h h1 h2:AH} (a:More w σ h σ1 h1) (b:More w σ1 h1 σ2 h2):More w σ h σ2 h2:=⟨Sg.le_trans a.le b.le,a.ext.trans b.ext,b.hr⟩
theorem More.ok {w:World} {σ σ':Sg} {h h':AH} (a:More w σ h σ' h'):h'.ok:=a.ext.ok
theorem HR.addRO {σ:Sg} {h:AH} {w:World} (H:HR w.heap.size σ h w) (aa:h.ok) {vs:List Value} {el:TypeId} {cs:Array Value} {frz:Nat×Nat} {l:AM.Loc} (hb:w.heap[l.blk]?=some (.cells cs el frz))
  (hsz:l.base+vs.length<=cs.size) (hc:∀ i v,vs[i]?=some v->∃ v',cs[l.base+i]?=some v'/\VR σ v v') :
  More w σ h (σ.ext h.next l) (h.new (.row vs el 0 true)):=by
 have ab:l.blk<w.heap.size:=zAl hb
 have le:Sg.le σ (σ.ext h.next l):=Sg.le_ext H.free
 refine ⟨le,(Ext.refl aa).new _,?_,?_,?_,?_,Nat.le_refl _⟩
 ·intro b m e
  unfold Sg.ext at e
  split at e
  ·rename_i hb;subst hb;simp
  ·have:=H.dom _ _ e;simp;omega
 ·intro b hb
  rw [AH.get_new]
  simp at hb
  rw [if_neg (by omega)];exact H.fresh b (by omega)
 ·intro b x e
  rw [AH.get_new] at e
  by_cases ao:b=h.next
  ·subst ao
   rw [if_pos rfl] at e
   cases e
   exact ⟨l,Sg.ext_self ..,⟨cs,el,frz,hb,hsz,fun i v hi=>(let ⟨v',a,b⟩:=hc i v hi;⟨v',a,b.mono le⟩),fun e=>(by cases e),rfl,fun _ e=>(by cases e),fun e=>absurd rfl e⟩,fun e=>(by cases e)⟩
  ·rw [if_neg ao] at e
   obtain ⟨m,a,c,d⟩:=H.live b x e
   refine ⟨m,le _ _ a,c.mono le rfl (fun i es v lm hi hs=>?_),d⟩
   rw [AH.get_new] at hi
   have ai:i≠h.next:=by intro e;subst e;rw [H.free] at hs;cases hs
   rw [if_neg ai] at hi
   exact ⟨hi,rfl⟩
 ·have other:∀ b' o2 l2,(h.new (.row vs el 0 true)).get b'=some o2->(σ.ext h.next l) b'=some l2->l.blk=l2.blk->b'≠h.next->zhe o2=true:=by
   intro b' o2 l2 e2 s2 bh ah
   rw [AH.get_new,if_neg ah] at e2
   unfold Sg.ext at s2
   rw [if_neg ah] at s2
   obtain ⟨m,a,c,d⟩:=H.live b' _ e2
   rw [s2] at a;cases a
   cases cW:zhe o2 with
   | true=>rfl
   | false=>have:=d cW;omega
  intro b b' o1 o2 l1 l2 e1 e2 s1 s2 bh ah
  by_cases bp:b=h.next
  ·subst bp
   have e1':=e1
   rw [AH.get_new,if_pos rfl] at e1';cases e1'
   have s1':=s1
   rw [Sg.ext_self] at s1';cases s1'
   exact ⟨rfl,other _ _ _ e2 s2 bh (fun e=>ah e.symm)⟩
  ·by_cases aW:b'=h.next
   ·subst aW
    have e1':=e2
    rw [AH.get_new,if_pos rfl] at e1';cases e1'
    have s1':=s2
    rw [Sg.ext_self] at s1';cases s1'
    exact ⟨other _ _ _ e1 s1 bh.symm bp,rfl⟩
   ·rw [AH.get_new,if_neg bp] at e1
    rw [AH.get_new,if_neg aW] at e2
    unfold Sg.ext at s1 s2
    rw [if_neg bp] at s1
    rw [if_neg aW] at s2
    exact H.inj b b' o1 o2 l1 l2 e1 e2 s1 s2 bh ah
inductive Els {α:Type} (R:List Value->α->Prop):List (List Value)->List α->Prop
 | nil:Els R [] []
 | cons {e:List Value} {a:α} {es:List (List Value)} {aas:List α} (h:R e a) (hs:Els R es aas):Els R (e::es) (a::aas)
theorem Els.mono {α:Type} {R S:List Value->α->Prop} (H:∀ e a,R e a->S e a):∀ {es:List (List Value)} {aas:List α},Els R es aas->Els S es aas
 | _,_,.nil=>.nil
 | _,_,.cons h hs=>.cons (H _ _ h) (Els.mono H hs)
theorem zOs {z:Nat}:∀ (els:List (List Value)),(∀ e∈els,e.length=z)->els.flatten.length=els.length*z
 | [],_=>by simp
 | e::es,H=>by
  rw [List.flatten_cons,List.length_append,H e (by simp),zOs es fun x hx=>H x (by simp [hx]),List.length_cons,Nat.add_mul];omega
theorem zOt {z:Nat}:∀ (els:List (List Value)),(∀ e∈els,e.length=z)->∀ k e,els[k]?=some e->(els.flatten.drop (k*z)).take z=e
 | [],_,k,e,h=>by simp at h
 | x::es,H,0,e,h=>by
  simp at h;subst h
  rw [List.flatten_cons,Nat.zero_mul,List.drop_zero]
  have:=H x (by simp)
  rw [← this,List.take_left'];rfl
 | x::es,H,k+1,e,h=>by
  rw [List.flatten_cons]
  have hx:=H x (by simp)
  rw [show (k+1)*z=x.length+k*z by rw [hx,Nat.add_mul];omega,← List.drop_drop,List.drop_left']
  ·exact zOt es (fun y hy=>H y (by simp [hy])) k e (by simpa using h)
  ·rfl
theorem zNT {z:Nat}:∀ (els:List (List Value)),(∀ e∈els,e.length=z)->∀ i v,els.flatten[i]?=some v->∃ k e j,els[k]?=some e/\e[j]?=some v/\i=k*z+j
 | [],_,i,v,h=>by simp at h
 | x::es,H,i,v,h=>by
  have hx:=H x (by simp)
  rw [List.flatten_cons] at h
  by_cases hi:i<x.length
  ·rw [List.getElem?_append_left hi] at h
   exact ⟨0,x,i,rfl,h,by omega⟩
  ·rw [List.getElem?_append_right (by omega)] at h
   obtain ⟨k,e,j,a,b,c⟩:=zNT es (fun y hy=>H y (by simp [hy])) _ _ h
   exact ⟨k+1,e,j,by simpa using a,b,by rw [Nat.add_mul];omega⟩
theorem zO8 {w:World} {a:Addr} {v:Value} (h:w.cell? a=some v):∃ C el frz,w.heap[a.block]?=some (.cells C el frz)/\a.spot=none/\C[a.off]?=some v:=by
 unfold World.cell? at h
 split at h
 ·rename_i C el frz hb
  cases hs:a.spot with
  | some s=>rw [hs] at h;simp at h
  | none=>rw [hs] at h;exact ⟨C,el,frz,hb,rfl,by simpa using h⟩
 ·cases h
theorem zVC (a:Addr) (n:Nat):(a.add n).off=a.off+n:=by unfold Addr.add;split <;> simp_all
theorem zKS (a:Addr) (n:Nat):(a.add n).block=a.block:=by unfold Addr.add;split <;> rfl
theorem zS9 {w:World} {base z i:Nat} {a:Addr} {cs:List Value} (hz:0<z) (h:w.cells? base (a.add (i*z)) z=some cs) :
  ∃ C el frz,w.heap[a.block]?=some (.cells C el frz)/\cs.length=z/\(i=0->a.spot=none)/\∀ j,j<z->C[a.off+i*z+j]?=cs[j]?:=by
 obtain ⟨_,hl,hg⟩:=World.cells?_some h
 have h0:=hg 0 hz
 have hv:∃ v,cs[0]?=some v:=⟨_,List.getElem?_eq_getElem (by omega)⟩
 obtain ⟨v,hv⟩:=hv
 rw [hv] at h0
 obtain ⟨C,el,frz,hb,hs,_⟩:=zO8 h0
 rw [zKS,zKS] at hb
 refine ⟨C,el,frz,hb,hl,fun hi=>?_,fun j hj=>?_⟩
 ·subst hi
  simp only [Nat.zero_mul] at hs
  have e:∀ b:Addr,b.add 0=b:=fun b=>by simp [Addr.add]
  rw [e,e] at hs;exact hs
 ·have fH:=hg j hj
  obtain ⟨u,hu⟩:∃ u,cs[j]?=some u:=⟨_,List.getElem?_eq_getElem (by omega)⟩
  rw [hu] at fH ⊢
  obtain ⟨C',el',frz',ao,_,aF⟩:=zO8 fH
  rw [zKS,zKS,hb] at ao
  cases ao
  rw [zVC,zVC] at aF
  exact aF
section
variable {H:Type} {enc:TypeId×Value->H} {P:Program} {w:World} {base:Nat} {held:Bool}
def Step (enc:TypeId×Value->H) (P:Program) (w:World) (base:Nat) (held:Bool) {α:Type} (R:AH->List Value->α->Prop) (n:Nat) (t:TypeId):Prop:=
 ∀ (cs:List Value) (x:DataW H×List MemPlace) (σ:Sg) (h:AH),h.ok->HR w.heap.size σ h w->DataW.trod enc P w base (fun _=>true) held n t cs=some x->
  ∃ σ' h' vs a,More w σ h σ' h'/\VRs σ' vs cs/\R h' vs a
theorem zUv {α:Type} {R:AH->List Value->α->Prop} (hR:∀ h k es a,Ext h k->R h es a->R k es a) {e:TypeId} {z n:Nat} (hz:0<z) (jb:P.cellsOf e=z) {a:Addr} {C:Array Value} {el:TypeId} {frz:Nat×Nat} (hC:w.heap[a.block]?=some (.cells C el frz))
  (step:Step enc P w base held R n e):∀ (m i:Nat) (σ:Sg) (h:AH),h.ok->HR w.heap.size σ h w->
   (∀ k,k<m->∃ x,(w.cells? base (a.add ((i+k)*z)) z).bind (DataW.trod enc P w base (fun _=>true) held n e)=some x)->
   ∃ σ' h' els aas,More w σ h σ' h'/\Els (R h') els aas/\els.length=m/\∀ k u,els[k]?=some u->u.length=z/\∀ j v,u[j]?=some v->∃ v',C[a.off+(i+k)*z+j]?=some v'/\VR σ' v v':=by
 intro m
 induction m with
 | zero=>intro i σ h aa hH _;exact ⟨σ,h,[],[],.refl hH aa,.nil,rfl,fun k u hk=>by simp at hk⟩
 | succ m ih=>
  intro i σ h aa hH hr
  obtain ⟨x,hx⟩:=hr 0 (by omega)
  obtain ⟨cs,aR,bW⟩:=Option.bind_eq_some_iff.1 hx
  obtain ⟨C',el',frz',hb,hl,_,hg⟩:=zS9 hz aR
  rw [hC] at hb
  cases hb
  obtain ⟨σ1,h1,vs,b,m1,v1,r1⟩:=step cs x σ h aa hH bW
  obtain ⟨σ2,h2,els,aas,m2,e2,l2,g2⟩:=ih (i+1) σ1 h1 m1.ok m1.hr (fun k hk=>by
   have:=hr (k+1) (by omega)
   rw [show i+1+k=i+(k+1) by omega];exact this)
  refine ⟨σ2,h2,vs::els,b::aas,m1.trans m2,.cons (hR _ _ _ _ m2.ext r1) e2,by simp [l2],fun k u hk=>?_⟩
  cases k with
  | zero=>
   simp at hk;subst hk
   refine ⟨by rw [v1.length,hl],fun j v hj=>?_⟩
   obtain ⟨v',q1,q2⟩:=v1.get hj
   have hjz:j<z:=by have:=(List.getElem?_eq_some_iff.1 q1).1;omega
   exact ⟨v',by rw [hg j hjz];exact q1,q2.mono m2.le⟩
  | succ k=>
   simp only [List.getElem?_cons_succ] at hk
   rw [show i+(k+1)=i+1+k by omega]
   exact g2 k u hk
theorem zDs {α:Type} {R:AH->List Value->α->Prop} (hR:∀ h k es a,Ext h k->R h es a->R k es a) {t e:TypeId} {z n:Nat} (ht:P.underlying t=some (.slice e)) (hz:0<z) (jb:P.cellsOf e=z)
  (step:∀ m,n=m+1->Step enc P w base held R m e) :
  ∀ (cs:List Value) (x:DataW H×List MemPlace) (σ:Sg) (h:AH),h.ok->HR w.heap.size σ h w->DataW.trod enc P w base (fun _=>true) held n t cs=some x->
   ∃ σ' h' v v' els aas,cs=[v']/\More w σ h σ' h'/\VR σ' v v'/\Arr h' z v els/\Els (R h') els aas/\els.length<=9223372036854775807:=by
 intro cs x σ h aa hH bW
 rcases DataW.trod_slice ht bW with ⟨rfl,_⟩|⟨a,len,cap,elems,rest,m,hm,rfl,_,_,hlc,d6,bz,hE,hS,_⟩
 ·exact ⟨σ,h,.slice none 0 0,_,[],[],rfl,.refl hH aa,.sliceN 0 0,.nil _ _,.nil,by simp⟩
 have e9:len<=9223372036854775807:=by unfold maxLen at d6;omega
 by_cases aS:cap=0
 ·subst aS
  obtain rfl:len=0:=by omega
  exact ⟨σ,h,.slice (some ⟨0,0,some 0⟩) 0 0,_,[],[],rfl,.refl hH aa,.sliceS a,.nil _ _,.nil,by simp⟩
 have first:∃ cs0,w.cells? base (a.add (0*z)) z=some cs0:=by
  by_cases hl:len=0
  ·obtain ⟨s1,s2⟩:=hS rfl
   have:=s2 0 (by omega)
   rw [hl,Nat.add_zero,jb,List.getElem?_eq_getElem (by omega)] at this
   obtain ⟨c0,q,_⟩:=Option.bind_eq_some_iff.1 this
   exact ⟨c0,q⟩
  ·have:=hE 0 (by omega)
   rw [jb,List.getElem?_eq_getElem (by omega)] at this
   obtain ⟨c0,q,_⟩:=Option.bind_eq_some_iff.1 this
   exact ⟨c0,q⟩
 obtain ⟨cs0,jd⟩:=first
 obtain ⟨C,el,frz,hC,_,dj,_⟩:=zS9 hz jd
 have dj:=dj rfl
 obtain ⟨ablk,aoff,asp⟩:=a
 simp only at dj hC
 subst dj
 obtain ⟨σ1,h1,els,aas,m1,e1,l1,g1⟩:=zUv (a:=⟨ablk,aoff,none⟩) hR hz jb hC (step m hm) len 0 σ h aa hH (fun k hk=>by
  have:=hE k hk
  rw [jb,List.getElem?_eq_getElem (by omega)] at this
  rw [Nat.zero_add]
  exact ⟨_,this⟩)
 have hlen:∀ u∈els,u.length=z:=fun u hu=>by
  obtain ⟨k,hk⟩:=List.getElem?_of_mem hu
  exact (g1 k u hk).1
 have dg:=zOs els hlen
 have m2:=HR.addRO m1.hr m1.ok (vs:=els.flatten) (l:=⟨ablk,aoff,0,0⟩) hC (by
  by_cases h0:els.flatten.length=0
  ·rw [h0]
   simp only [Nat.add_zero]
   obtain ⟨C',_,_,ao,cK,_,iZ⟩:=zS9 hz jd
   simp only at ao
   rw [hC] at ao
   cases ao
   have:=iZ 0 hz
   simp only [Nat.zero_mul,Nat.add_zero] at this
   have h2:aoff<C.size:=by
    rcases Nat.lt_or_ge aoff C.size with h|h
    ·exact h
    ·rw [Array.getElem?_eq_none h,List.getElem?_eq_getElem (by omega)] at this;cases this
   omega
  ·have ab:els.flatten.length-1<els.flatten.length:=by omega
   obtain ⟨k,u,j,a1,a2,a3⟩:=zNT els hlen _ _ (List.getElem?_eq_getElem ab)
   obtain ⟨v',q1,_⟩:=(g1 k u a1).2 j _ a2
   have:=(Array.getElem?_eq_some_iff.1 q1).1
   simp only [Nat.zero_add] at this
   simp only
   omega) (fun i v hi=>by
  obtain ⟨k,u,j,a1,a2,a3⟩:=zNT els hlen _ _ hi
  obtain ⟨v',q1,q2⟩:=(g1 k u a1).2 j _ a2
  refine ⟨v',?_,q2⟩
  simp only [Nat.zero_add] at q1
  simp only
  rw [a3,← Nat.add_assoc];exact q1)
 refine ⟨_,_,.slice (some ⟨h1.next,0,none⟩) els.length cap,.slice (some ⟨ablk,aoff,none⟩) len cap,els,aas,rfl,m1.trans m2,?_,?_,e1.mono fun u a r=>hR _ _ _ _ m2.ext r,by omega⟩
 ·have:=VR.slice (σ:=σ1.ext h1.next ⟨ablk,aoff,0,0⟩) (b:=h1.next) (l:=⟨ablk,aoff,0,0⟩) 0 len cap (Sg.ext_self ..) (by unfold maxLen at d6;unfold UNK;omega)
  rw [l1]
  exact this
 ·refine .row (vs:=els.flatten) (ty:=el) (es:=0) (ro:=true) (by rw [AH.get_new,if_pos rfl]) (by simp) (by rw [dg];omega) fun i u hu=>⟨(g1 i u hu).1,by rw [Nat.zero_add];exact zOt els hlen i u hu⟩
end
end Go.Proofs
namespace Go.Proofs
open Go Go.AM
set_option maxRecDepth 100000
set_option maxHeartbeats 2000000
abbrev Ed:=Int×Int×Int
def zlo:List (List Ed)->List Ed->List (List Ed)
 | EE,[]=>EE
 | EE,e::l=>zlo (EE.set e.1.toNat ((EE[e.1.toNat]?.getD [])++[e])) l
def outOf (L:GL):List (List Ed):=zlo (List.replicate L.n.toNat []) L.eds
abbrev i1 (n:Int):List Value:=[iI n]
theorem zqB {h k:AH} {v:Value} {l:List Int} (ha:Arr h 1 v (l.map i1)) (e:Ext h k) {i:Nat} {n:Int} (hi:l[i]?=some n) :
  ∃ p,zE E 47 (some v) (some (iI (i:Int)))=some p/\zG E 3 k (some p)=some (iI n):=by
 have hx:(l.map i1)[i]?=some (i1 n):=by rw [List.getElem?_map,hi];rfl
 obtain ⟨b,o,c,vs,ty,es,ro,rfl,hb,ab,aU,hz,hl⟩:=ha.load hx
 have cM:i<(l.map i1).length:=(List.getElem?_eq_some_iff.1 hx).1
 refine ⟨_,zNR cM,?_⟩
 rw [zF (P:=E) zAb ((e.get b ab).trans hb),zA7]
 have:((vs.drop (o+i*1)).take 1)[0]?=some (iI n):=by rw [hz];rfl
 rw [List.getElem?_take_of_lt (by omega),List.getElem?_drop] at this
 simpa using this
theorem LS.arr {lo:Nat} {k:AH} {v:Value} {L:List Int} (h:LS lo k v L):Arr k 1 v (L.map i1):=by
 obtain ⟨b,c,rfl,h1,h2,h3⟩:=h
 have key:∀ es,k.get b=some (.row (ints L) 3 es false)->Arr k 1 (.slice (some ⟨b,0,none⟩) L.length c) (L.map i1):=by
  intro es hb
  have:=Arr.row (z:=1) (c:=c) (o:=0) (els:=L.map i1) hb h2 (by simp [ints]) (fun i e he=>by
   rw [List.getElem?_map] at he
   obtain ⟨n,hn,rfl⟩:=Option.map_eq_some_iff.1 he
   refine ⟨rfl,?_⟩
   have cM:i<L.length:=(List.getElem?_eq_some_iff.1 hn).1
   rw [show 0+i*1=i by omega,List.drop_eq_getElem_cons (by simpa [ints] using cM)]
   simp [ints,(List.getElem?_eq_some_iff.1 hn).2])
  rw [List.length_map] at this
  exact this
 rcases h3 with ⟨_,_,hb⟩|⟨_,hb⟩
 ·exact key _ hb
 ·exact key _ hb
theorem zhj (a b c d:Int):zHj E 54 [iI a,iI b] [iI c,iI d]=zAv [iI a,iI b] [iI c,iI d]:=by kernel_rfl
theorem zmo (p q:Int×Int):zC E .eql 54 (.agg ⟨zH p⟩) (.agg ⟨zH q⟩)=some (.bool (decide (p=q))):=by
 obtain ⟨a,b⟩:=p
 obtain ⟨c,d⟩:=q
 have h:zHj E 54 (zH (a,b)) (zH (c,d))=some (decide ((a,b)=(c,d))):=by
  simp only [zH,zhj,zAv]
  by_cases h1:a=c <;> by_cases h2:b=d <;> simp [h1,h2,zDH,show keq IntKind.i64 IntKind.i64=true from rfl]
 unfold zC
 simp only [h]
theorem zdk {h k:AH} {v:Value} {els:List (List Value)} (ha:Arr h 2 v els) (e:Ext h k) {i:Nat} {x:List Value} (hi:els[i]?=some x) :
  ∃ p,zE E 26 (some v) (some (iI (i:Int)))=some p/\zG E 54 k (some p)=some (.agg ⟨x⟩):=zHd zIN zID zKj ha e hi
theorem zqA {h k:AH} {v:Value} {els:List (List Value)} (ha:Arr h 2 v els) (e:Ext h k) {i:Nat} {x:List Value} (hi:els[i]?=some x) :
  ∃ p,zE E 83 (some v) (some (iI (i:Int)))=some p/\zG E 32 k (some p)=some (.agg ⟨x⟩):=zHd zhL ziS zB0 ha e hi
theorem zkB {h0:AH} {v f:Value} {els:List (List Value)} {p:Nat->Bool} (ha:Arr h0 2 v els) (hn:els.length<=9223372036854775807)
  (hf:∀ k,Ext h0 k->∀ i e,els[i]?=some e->zR (zY E) (some f) (some [.agg ⟨e⟩]) k=some [(.bool (p i),k)]) {k:AH} (hk:Ext h0 k) :
  (zY E).call 126 [v,f] k=some [(iI (zAQ p els.length 0),k)]:=by
 obtain ⟨ad,c,hv⟩:=ha.slice
 refine zcy (s:=true) hk.ok rfl (za7 ?_)
 refine za6 ?_
 have loop:∀ (m i:Nat),i+m=els.length->zoO true (KR E [.tmp 2] (fun x l=>x=iI (zAQ p m i)/\k.next<=l.wm)) v f (iI (els.length:Int)) (iI (i:Int)) k.fresh:=by
  intro m
  induction m with
  | zero=>
   intro i hi
   refine zMN ?_
   simp only [zZ,zA,zAM]
   refine ⟨fun h=>by omega,fun _=>za1 ?_⟩
   simp [zA,zAS,zX,zAQ]
  | succ m ih=>
   intro i hi
   have ai:i<els.length:=by omega
   refine zMN ?_
   simp only [zZ,zA,zAM]
   refine ⟨fun _=>za5 ?_,fun h=>by omega⟩
   refine za4 ?_
   obtain ⟨q,q1,q2⟩:=zqA ha hk.fresh (List.getElem?_eq_getElem ai)
   simp only [zA,q1,q2,hf _ hk.fresh i _ (List.getElem?_eq_getElem ai),zP,zBa]
   refine ⟨fun h=>za3 ?_,fun h=>za2 ?_⟩
   ·simp only [zA,zAS,zX,true_and,zAQ,h,if_true];rw [zCZ];omega
   ·simp only [zA,zAD _ (zEA ai hn),zAQ,h,Bool.false_eq_true,if_false]
    exact ih (i+1) (by omega)
 rw [hv]
 simp only [zA,zQR]
 rw [← hv]
 exact loop els.length 0 (by omega)
theorem zmP {h0 k:AH} {e:List Value} {B:GB} (hr:RB h0 e B) (hk:Ext h0 k):(zY E).call 75 [.agg ⟨e⟩] k=some [(.bool (decide ((4000:Int)<(B.prs.length:Int))),k)]:=by
 obtain ⟨vp,rfl,e2⟩:=hr.ex
 obtain ⟨ad,c,hv⟩:=e2.slice
 rw [List.length_map] at hv
 refine zgP (s:=true) hk.ok rfl (zeh ?_)
 obtain ⟨k1,e1,n1,t1,o1,f1⟩:=nwF k (rO [iI B.kind,vp] 32)
 simp only [zg,zK,zT,zA,e1,zb]
 have l1:=zF (P:=E) zFw (o:=1) t1
 simp only [lnth] at l1
 rw [hv] at l1
 refine zeg ?_
 simp only [zCU,Nat.zero_add,l1,zA,zTe,zAK,zAS,zX,true_and]
 exact o1.wm
def zK6 (Bs:List GB) (i:Nat):Bool:=match Bs[i]? with
 | some B=>decide ((4000:Int)<(B.prs.length:Int))
 | none=>false
theorem zma {h0 k:AH} {v:Value} {els:List (List Value)} {Bs:List GB} (ha:Arr h0 2 v els) (hn:els.length=Bs.length) (aU:els.length<=9223372036854775807) (hr:∀ (i:Nat) (e:List Value) (B:GB),els[i]?=some e->Bs[i]?=some B->RB h0 e B) (hk:Ext h0 k) :
  (zY E).call 19 [v] k=some [(.bool (!decide (0<=zAQ (zK6 Bs) els.length 0)),k)]:=by
 refine zge (s:=true) hk.ok rfl (zfw ?_)
 refine zfv ?_
 have h126:∀ k',Ext h0 k'->(zY E).call 126 [v,.func (.func 75) #[] #[]] k'=some [(iI (zAQ (zK6 Bs) els.length 0),k')]:=fun k' dm=>zkB ha aU (fun k2 hk2 i e he=>by
  have cM:=(List.getElem?_eq_some_iff.1 he).1
  have hB:Bs[i]?=some Bs[i]:=List.getElem?_eq_getElem (by omega)
  rw [zQ,zmP (hr i e _ he hB) hk2]
  simp only [zK6,hB]) dm
 have h74:(zY E).call 74 [v,.func (.func 75) #[] #[]] k.fresh=some [(.bool (decide (0<=zAQ (zK6 Bs) els.length 0)),k.fresh)]:=by
  refine zgQ (s:=true) hk.fresh.ok rfl (zej ?_)
  refine zei ?_
  simp only [zA,zQ,h126 _ hk.fresh.fresh,zP,zAa,zAS,zX,true_and]
  rw [zCZ];omega
 simp only [zA,zQ,h74,zP,z6,zAS,zX,true_and]
 rw [zCZ];omega
end Go.Proofs
namespace Go.Proofs
open Go Go.AM Go.Sort
set_option maxRecDepth 100000
set_option maxHeartbeats 1000000
theorem SR.ldo {b ty es:Nat} {k0 k:AH} {d0 d:Dt} (R:SR b ty es k0 d0 k d) {i o:Nat} (hi:i<d.size) (ho:o=i*2):zG E 54 k (some (.pointer (some ⟨b,o,none⟩)))=some (.agg ⟨zH d[i]!⟩):=by
 have:=R.ld hi
 rw [Nat.zero_add] at this
 rw [ho];exact this
theorem zPt (d:Dt) (i:Nat):zB1 d=(d.toList.take i).flatMap zH++(d.toList.drop i).flatMap zH:=by
 unfold zB1
 rw [← List.flatMap_append,List.take_append_drop]
theorem zSm {α:Type} (l:List α) (i:Nat) (v:α) (hi:i<l.length):(l.set i v).take (i+1)=l.take i++[v]:=by
 rw [List.take_add_one,List.take_set,List.set_eq_of_length_le (by simp;omega),List.getElem?_set_self hi]
 rfl
theorem zJz {d:Dt} {j:Nat} (h:j<d.size):d.toList[j]?=some d[j]!:=by
 rw [getElem!_pos d j h];simp [h]
theorem zdO {d:Dt} {j:Nat} (h:j<d.size):d.toList.take (j+1)=d.toList.take j++[d[j]!]:=by
 rw [List.take_add_one,zJz h];rfl
theorem zTB:∀ n,(rep n [iI 0,iI 0]).flatMap (zDl 4)=[]
 | 0=>rfl
 | n+1=>by simp only [rep,List.flatMap_append,zTB n];rfl
structure Cut (b ty es:Nat) (k:AH) (v:Value) (m:AH) (l:List (Int×Int)):Prop where
 v:v=sl b l.length (UNK+2)
 row:∃ rest,m.get b=some (.row (l.flatMap zH++rest) ty es false)/\rest.flatMap (zDl 4)=[]
 fx:Fx (fun c=>c=b) k m
section
variable {b ty es:Nat} {k h0:AH} {d:Dt} {cf:Value} {f:Int×Int->Bool}
end
theorem zkM (p q:Int×Int):zC E .neq 54 (.agg ⟨zH p⟩) (.agg ⟨zH q⟩)=some (.bool (!decide (p=q))):=by
 obtain ⟨a,b⟩:=p
 obtain ⟨c,d⟩:=q
 have h:zHj E 54 (zH (a,b)) (zH (c,d))=some (decide ((a,b)=(c,d))):=by
  simp only [zH,zhj,zAv]
  by_cases h1:a=c <;> by_cases h2:b=d <;> simp [h1,h2,zDH,show keq IntKind.i64 IntKind.i64=true from rfl]
 unfold zC
 simp only [h]
def dd (d:Dt):Nat->List (Int×Int)
 | 0=>[]
 | j+1=>if 0<j/\d[j]! = d[j-1]! then dd d j else dd d j++[d[j]!]
theorem zUQ (d:Dt):∀ (j q:Nat),q<j->d[q]!∈dd d j
 | 0,q,h=>by omega
 | j+1,q,h=>by
  simp only [dd]
  by_cases e:q=j
  ·subst e
   split
   ·rename_i h2
    rw [h2.2]
    exact zUQ d q (q-1) (by omega)
   ·simp
  ·have:=zUQ d j q (by omega)
   split
   ·exact this
   ·simp [this]
theorem zO1 (d:Dt):∀ (j:Nat) (p:Int×Int),p∈dd d j->∃ q,q<j/\d[q]! = p
 | 0,p,h=>by simp [dd] at h
 | j+1,p,h=>by
  simp only [dd] at h
  split at h
  ·obtain ⟨q,a,b⟩:=zO1 d j p h
   exact ⟨q,by omega,b⟩
  ·rcases List.mem_append.1 h with h|h
   ·obtain ⟨q,a,b⟩:=zO1 d j p h
    exact ⟨q,by omega,b⟩
   ·exact ⟨j,by omega,(List.mem_singleton.1 h).symm⟩
theorem zpc:(zo B36 [1,1,0,1,0,0,1,0,0,1,0,0] 2).op=.slice 26 (.tmp 26) (some (.tmp 27)) none none:=by kernel_rfl
theorem zpb:(zo B36 [1,1,0,1,0,0,1,0,0,1,0,1,1,0] 2).op=.slice 26 (.tmp 54) (some (.tmp 55)) none none:=by kernel_rfl
theorem zpa:(zo B36 [1,1,0,1,0,0,1,0,0,1,0,1,1,1,0] 2).op=.slice 26 (.tmp 57) none (some (.tmp 58)) none:=by kernel_rfl
theorem zmH {b n i:Nat} (hi:i<n):zp E (zk [(26,sl b n (UNK+2)),(27,iI (i:Int))]) (zo B36 [1,1,0,1,0,0,1,0,0,1,0,0] 2)=some (.slice (some ⟨b,i*2,none⟩) (n-i) (UNK+2)):=zmE zpc (by kernel_rfl) (by kernel_rfl) hi
theorem zmG {b n i:Nat} (hi:i<n):zp E (zk [(54,sl b n (UNK+2)),(55,iI (i:Int))]) (zo B36 [1,1,0,1,0,0,1,0,0,1,0,1,1,0] 2)=some (.slice (some ⟨b,i*2,none⟩) (n-i) (UNK+2)):=zmE zpb (by kernel_rfl) (by kernel_rfl) hi
theorem zmF {b n i:Nat} (hi:i<=n):zp E (zk [(57,sl b n (UNK+2)),(58,iI (i:Int))]) (zo B36 [1,1,0,1,0,0,1,0,0,1,0,1,1,1,0] 2)=some (.slice (some ⟨b,0,none⟩) i (UNK+2)):=zqD zpa (by kernel_rfl) (by kernel_rfl) hi
section
variable {b ty es:Nat} {k:AH} {d:Dt}
theorem zmW (hg:k.get b=some (.row (zB1 d) ty es false)) (aB:b<k.next) {n:Nat} (hs:d.size=n) (hn:d.size<=1000000) :
  Ev true ((zY E).call 36 [sl b n (UNK+2)] k) fun x=>Cut b ty es k x.1 x.2 (dd d d.size):=by
 subst hs
 have whole:dd d d.size=d.toList->∀ h,SR b ty es k.fresh d h d->KR E [.tmp 2] (fun x l=>(zi x=false\/l.wm<k.next)/\Cut b ty es k x ⟨l.t,l.next,cond (Nat.ble k.wm l.wm) k.wm l.wm⟩ (dd d d.size)) .ret [sl b d.size (UNK+2)] h:=by
  intro e h R
  rw [zAS]
  refine ⟨zX ▸ trivial,.inl rfl,by rw [e];simp [sl],⟨[],?_,rfl⟩,R.fx.back⟩
  rw [List.append_nil,e]
  exact zEy R.g
 refine zgb (Rp:=fun v m=>Cut b ty es k v m (dd d d.size)) (zfk ?_)
 try simp only [zA]
 refine zfj ?_
 simp only [zA,zTo,zZ,zAM]
 have R0:SR b ty es k.fresh d k.fresh d:=SR.fresh hg aB
 have dd1:∀ j,(∀ q,1<=q->q<j->d[q]!≠d[q-1]!)->j<=d.size->dd d j=d.toList.take j:=by
  intro j
  induction j with
  | zero=>intro _ _;simp [dd]
  | succ j ih=>
   intro H hj
   simp only [dd]
   rw [if_neg (fun h=>H j (by omega) (by omega) h.2),ih (fun q a b=>H q a (by omega)) (by omega),zdO (by omega)]
 refine ⟨fun h2=>zfi ?_,fun h2=>zfh ?_⟩
 ·try simp only [zA]
  refine whole ?_ _ R0
  rw [dd1 _ (fun q a b=>by omega) (Nat.le_refl _)]
  exact List.take_of_length_le (by simp)
 try simp only [zA]
 have inner:∀ (k0:Nat),1<=k0->k0<d.size->∀ (m t w:Nat) (d':Dt) (h:AH),t+m=d.size->k0<t->w<t->SR b ty es k.fresh d h d'->d'.toList.take w=dd d t->(∀ x,t-1<=x->x<d.size->d'[x]! = d[x]!)->
   zqh true (KR E [.tmp 2] (fun x l=>(zi x=false\/l.wm<k.next)/\Cut b ty es k x ⟨l.t,l.next,cond (Nat.ble k.wm l.wm) k.wm l.wm⟩ (dd d d.size))) (sl b d.size (UNK+2)) (iI (w:Int)) (.slice (some ⟨b,k0*2,none⟩) (d.size-k0) (UNK+2)) (iI ((t-k0:Nat):Int)) h:=by
  intro k0 hk0 dM m
  induction m with
  | zero=>
   intro t w d' h hm hkt hwt R ht hx
   have hsz:=R.sz
   refine zPY ?_
   simp only [zA,zLA,zZ,show decide (((t-k0:Nat):Int)<((d.size-k0:Nat):Int))=false from decide_eq_false (by omega),zj]
   refine zWO ?_
   have aN:=zjd (i:=w) (m:=d.size-w) (cp:=UNK+2) (x:=(d'.toList.take w).flatMap zH) (y:=(d'.toList.drop w).flatMap zH) (by rw [← zPt];exact R.g) (by rw [zCF];simp;omega) (by rw [zCF];simp;omega) (by omega)
   simp only [zA,zmG (show w<d.size by omega),aN,zK]
   refine zWN ?_
   simp only [zA,zmF (show w<=d.size by omega)]
   have e:t=d.size:=by omega
   subst e
   have hlen:(dd d d.size).length=w:=by rw [← ht];simp;omega
   rw [zAS]
   have f1:=R.fx.upd (b:=b) (.inl rfl) (some (.row ((d'.toList.take w).flatMap zH++rep (d.size-w) [iI 0,iI 0]) ty es false))
   have g1:=zO h b (some (.row ((d'.toList.take w).flatMap zH++rep (d.size-w) [iI 0,iI 0]) ty es false))
   rw [ht] at f1 g1
   rw [ht]
   generalize h.upd b (some (.row ((dd d d.size).flatMap zH++rep (d.size-w) [iI 0,iI 0]) ty es false))=hh at f1 g1
   exact ⟨zX ▸ trivial,.inl rfl,by rw [hlen],⟨_,zEy g1,zTB _⟩,f1.back⟩
  | succ m ih=>
   intro t w d' h hm hkt hwt R ht hx
   have hsz:=R.sz
   refine zPY ?_
   simp only [zA,zLA,zZ,show decide (((t-k0:Nat):Int)<((d.size-k0:Nat):Int))=true from decide_eq_true (by omega),zz]
   refine zfd ?_
   have l1:=R.ldo (i:=t) (o:=k0*2+(t-k0)*2) (by omega) (by omega)
   have l2:=R.ldo (i:=t-1) (o:=k0*2+(t-k0-1)*2) (by omega) (by omega)
   simp only [zA,zAR (show t-k0<d.size-k0 by omega),l1,zBo (show 1<=t-k0 by omega) (show t-k0<=9223372036854775807 by omega),zAR (show t-k0-1<d.size-k0 by omega),l2,zkM,hx t (by omega) (by omega),hx (t-1) (by omega) (by omega)]
   have dC:dd d (t+1)=if d[t]! = d[t-1]! then dd d t else dd d t++[d[t]!]:=by
    simp only [dd]
    by_cases e:d[t]! = d[t-1]!
    ·rw [if_pos ⟨by omega,e⟩,if_pos e]
    ·rw [if_neg (fun h=>e h.2),if_neg e]
   have aq:t-k0+1=t+1-k0:=by omega
   by_cases e:d[t]! = d[t-1]!
   ·simp only [e,decide_true,Bool.not_true,zj]
    refine zLp ?_
    simp only [zA,zBy (show t-k0+1<=9223372036854775807 by omega),aq]
    exact ih (t+1) w d' h (by omega) (by omega) (by omega) R (by rw [dC,if_pos e];exact ht) fun x a b=>hx x (by omega) b
   ·simp only [e,decide_false,Bool.not_false,zz]
    refine zWQ ?_
    obtain ⟨h3,q1,R3⟩:=R.st (i:=w) (by omega) d[t]!
    simp only [zA,zAR (show t-k0<d.size-k0 by omega),l1,hx t (by omega) (by omega),zAR (show w<d.size by omega),q1,zK]
    refine zWP ?_
    simp only [zA,zBy (show w+1<=9223372036854775807 by omega)]
    refine zLp ?_
    simp only [zA,zBy (show t-k0+1<=9223372036854775807 by omega),aq]
    refine ih (t+1) (w+1) _ h3 (by omega) (by omega) (by omega) R3 ?_ fun x a b=>?_
    ·rw [Array.toList_setIfInBounds,zSm _ _ _ (by simp;omega),ht,dC,if_neg e]
    ·rw [← hx x (by omega) b,getElem!_pos _ x (by simp;omega),getElem!_pos d' x (by omega),Array.getElem_setIfInBounds_ne (by omega) (by omega)]
 have outer:∀ (m q:Nat),q+m=d.size->1<=q->(∀ x,1<=x->x<q->d[x]!≠d[x-1]!)->
   zqi true (KR E [.tmp 2] (fun x l=>(zi x=false\/l.wm<k.next)/\Cut b ty es k x ⟨l.t,l.next,cond (Nat.ble k.wm l.wm) k.wm l.wm⟩ (dd d d.size))) (sl b d.size (UNK+2)) (iI (q:Int)) k.fresh:=by
  intro m
  induction m with
  | zero=>
   intro q hm hq H
   refine zPZ ?_
   simp only [zA,zLB,zZ,show decide ((q:Int)<(d.size:Int))=false from decide_eq_false (by omega),zj]
   refine zWL ?_
   try simp only [zA]
   refine whole ?_ _ R0
   rw [dd1 _ (fun x a b=>H x a (by omega)) (Nat.le_refl _)]
   exact List.take_of_length_le (by simp)
  | succ m ih=>
   intro q hm hq H
   refine zPZ ?_
   simp only [zA,zLB,zZ,show decide ((q:Int)<(d.size:Int))=true from decide_eq_true (by omega),zz]
   refine zfg ?_
   simp only [zA,zAR (show q<d.size by omega),R0.ld (i:=q) (by omega),zBo hq (show q<=9223372036854775807 by omega),zAR (show q-1<d.size by omega),R0.ld (i:=q-1) (by omega),zmo]
   by_cases e:d[q]! = d[q-1]!
   ·simp only [e,decide_true,zz]
    refine zff ?_
    simp only [zA,zmH (show q<d.size by omega)]
    refine zfe ?_
    try simp only [zA]
    have:=inner q hq (by omega) m (q+1) q d k.fresh (by omega) (by omega) (by omega) R0 (by
     simp only [dd]
     rw [if_pos ⟨by omega,e⟩,dd1 q H (by omega)]) fun x _ _=>rfl
    rw [show q+1-q=1 by omega] at this
    exact this
   ·simp only [e,decide_false,zj]
    refine zWM ?_
    simp only [zA,zBy (show q+1<=9223372036854775807 by omega)]
    refine ih (q+1) (by omega) (by omega) fun x a b=>?_
    by_cases hxq:x=q
    ·rw [hxq];exact e
    ·exact H x a (by omega)
 exact outer (d.size-1) 1 (by omega) (Nat.le_refl _) fun x a b=>by omega
end
end Go.Proofs
namespace Go.Proofs
open Go Go.AM
set_option maxRecDepth 100000
set_option maxHeartbeats 1000000
theorem pbI {a b:Int}:zAo E 54 (some [(0,iI a),(1,iI b)])=some (.agg ⟨zH (a,b)⟩):=by kernel_rfl
end Go.Proofs
namespace Go.Proofs
open Go Go.AM
set_option maxRecDepth 100000
set_option maxHeartbeats 2000000
def IS (lo:Nat) (h:AH) (v:Value) (l:List Int):Prop:=(v=.slice none 0 0/\l=[])\/LS lo h v l
theorem IS.arr {lo:Nat} {h:AH} {v:Value} {l:List Int} (x:IS lo h v l):Arr h 1 v (l.map i1):=by
 rcases x with ⟨rfl,rfl⟩|x
 ·exact .nil _ _
 ·exact x.arr
theorem LS.blk {lo:Nat} {h:AH} {v:Value} {l:List Int} (x:LS lo h v l) {b:Nat} (hb:zAE v b):lo<=b/\b<h.next:=by
 obtain ⟨c,cp,rfl,h1,h2,_⟩:=x
 obtain ⟨n,cap,e⟩:=hb
 simp only [Value.slice.injEq,Option.some.injEq,Addr.mk.injEq] at e
 rw [← e.1.1];exact ⟨h1,h2⟩
theorem IS.blk {lo:Nat} {h:AH} {v:Value} {l:List Int} (x:IS lo h v l) {b:Nat} (hb:zAE v b):lo<=b/\b<h.next:=by
 rcases x with ⟨rfl,_⟩|x
 ·obtain ⟨n,cap,e⟩:=hb;cases e
 ·exact x.blk hb
theorem IS.mono {lo:Nat} {k k':AH} {v:Value} {L:List Int} (h:IS lo k v L) (hn:k.next<=k'.next) (hg:∀ b,b<k.next->zAE v b->k'.get b=k.get b):IS lo k' v L:=by
 rcases h with h|h
 ·exact .inl h
 ·exact .inr (h.mono hn fun b _ h2 h3=>hg b h2 h3)
theorem IS.slice {lo:Nat} {h:AH} {v:Value} {l:List Int} (x:IS lo h v l):∃ a c,v=.slice a l.length c:=by
 rcases x with ⟨rfl,rfl⟩|⟨b,c,rfl,_⟩
 ·exact ⟨_,_,rfl⟩
 ·exact ⟨_,_,rfl⟩
theorem zmg {u:Int} {h:AH}:zd E 47 1 (some [(0,iI u)]) h=one (.slice (some ⟨h.next,0,none⟩) 1 1,h.new (rO [iI u] 3)):=by kernel_rfl
theorem IS.app {lo:Nat} {h:AH} {v:Value} {l:List Int} (x:IS lo h v l) (gG:lo<=h.next) (hl:l.length<=999998) (u:Int) :
  ∃ m,zAH E .append [47,47] (some [v,.slice (some ⟨h.next,0,none⟩) 1 1]) (h.new (rO [iI u] 3))=one (.slice (some ⟨h.next+1,0,none⟩) (l.length+1) (UNK+1),m) ∧
   LS lo m (.slice (some ⟨h.next+1,0,none⟩) (l.length+1) (UNK+1)) (l++[u])/\m.next=h.next+2/\(h.ok->Fx (fun c=>zAE v c) h m):=by
 have aG:=zI h (rO [iI u] 3)
 rcases x with ⟨rfl,rfl⟩|x
 ·refine ⟨_,append_nil zjT aG rfl,⟨h.next+1,UNK+1,by simp,by omega,by show h.next+1<h.next+1+1;omega,.inr ⟨rfl,zI (h.new _) _⟩⟩,rfl,fun aa=>((Fx.refl aa).new _).new _⟩
 ·obtain ⟨b0,c0,e0,dr,hlt0,fS⟩:=x.ex
  have xb:LS b0 h v l:=⟨b0,c0,e0,Nat.le_refl _,hlt0,fS⟩
  have x1:LS b0 (h.new (rO [iI u] 3)) v l:=xb.mono (by simp) fun b _ hb _=>zL (by omega)
  obtain ⟨v',k1,a1,rfl,a3,a4,a5,a6,a7,a8⟩:=x1.app (by omega) aG
  have e1:(h.new (rO [iI u] 3)).next=h.next+1:=rfl
  rw [e1] at a1 a3 a4 a5
  exact ⟨k1,a1,⟨h.next+1,UNK+1,by simp,by omega,by omega,.inr ⟨rfl,a4⟩⟩,by omega,fun aa=>⟨a6 (zCW aa _),by omega,fun c hc hn=>(a5 c (by omega) hn).trans (zL (by omega)),fun m h1 h2 h3=>a8 m h1 (h2 b0 ⟨_,_,e0⟩)⟩⟩
end Go.Proofs
namespace Go.Proofs
open Go Go.AM
set_option maxRecDepth 100000
set_option maxHeartbeats 8000000
theorem zGd {L M:GL} {B:GB} (h:zD4 L M B=0):zy L=false/\zy M=false/\zAd B=0/\zMq L M B=true:=by
 unfold zD4 at h
 split at h
 ·cases h
 ·rename_i h1
  rw [Bool.or_eq_true,not_or] at h1
  split at h
  ·rename_i h2;exact absurd h h2
  ·rename_i h2
   split at h
   ·rename_i h3;exact ⟨by simpa using h1.1,by simpa using h1.2,by simpa using h2,h3⟩
   ·cases h
end Go.Proofs
namespace Go.Proofs
open Go Go.AM
set_option maxHeartbeats 1000000
def zEu:List Int->List Int->Int
 | [],[]=>0
 | [],_::_=>-1
 | _::_,[]=>1
 | a::aas,b::bs=>if c3 a b=0 then zEu aas bs else c3 a b
mutual
def zk6:GT->List Int
 | .mk k n l=>k::n::(l.length:Int)::zSS l
def zSS:List GT->List Int
 | []=>[]
 | t::ts=>zk6 t++zSS ts
end
theorem c3_zero {a b:Int}:c3 a b=0 ↔ a=b:=by
 unfold c3
 split
 ·constructor
  ·intro h;cases h
  ·intro h;omega
 ·split
  ·constructor
   ·intro h;cases h
   ·intro h;omega
  ·constructor
   ·intro;omega
   ·intro;rfl
theorem c3_neg {a b:Int}:c3 a b<0 ↔ a<b:=by
 unfold c3
 split
 ·constructor <;> intro <;> omega
 ·split <;> constructor <;> intro h <;> first|omega|(exfalso;revert h;decide)
mutual
theorem zO4:∀ (t u:GT) (r r':List Int),zEu (zk6 t++r) (zk6 u++r')=if zKB t u=0 then zEu r r' else zKB t u
 | .mk k n l,.mk k' n' l',r,r'=>by
  simp only [zk6,List.cons_append,zEu,zKB,orI]
  by_cases h1:c3 k k'=0
  ·by_cases h2:c3 n n'=0
   ·by_cases h3:c3 (l.length:Int) (l'.length:Int)=0
    ·have hlen:l.length=l'.length:=by have:=c3_zero.1 h3;omega
     simp only [h1,h2,h3,ne_eq,not_true_eq_false,if_true,if_false]
     exact zO6 l l' hlen r r'
    ·simp only [h1,h2,h3,ne_eq,not_true_eq_false,not_false_eq_true,if_true,if_false]
   ·simp only [h1,h2,ne_eq,not_true_eq_false,not_false_eq_true,if_true,if_false]
  ·simp only [h1,ne_eq,not_true_eq_false,not_false_eq_true,if_true,if_false]
theorem zO6:∀ (l l':List GT),l.length=l'.length->∀ (r r':List Int),zEu (zSS l++r) (zSS l'++r')=if zD9 l l'=0 then zEu r r' else zD9 l l'
 | [],[],_,r,r'=>by simp [zSS,zD9]
 | t::ts,u::us,h,r,r'=>by
  simp only [zSS,List.append_assoc,zD9]
  rw [zO4 t u,zO6 ts us (by simpa using h) r r']
  by_cases h1:zKB t u=0 <;> simp [h1]
 | [],_::_,h,_,_=>by simp at h
 | _::_,[],h,_,_=>by simp at h
end
theorem zLZ:∀ (l l':List GT),zEu (zSS l) (zSS l')=zD9 l l'
 | [],[]=>rfl
 | [],.mk k n l::us=>by simp [zSS,zk6,zEu,zD9]
 | .mk k n l::ts,[]=>by simp [zSS,zk6,zEu,zD9]
 | t::ts,u::us=>by
  simp only [zSS,zD9]
  rw [zO4 t u,zLZ ts us]
  by_cases h1:zKB t u=0 <;> simp [h1]
def kc (c:CL):List Int:=c.1::zSS c.2
theorem zI3 (c d:CL):zCY c.1 c.2 d.1 d.2=zEu (kc c) (kc d):=by
 simp only [zCY,orI,kc,zEu,zLZ]
 by_cases h:c3 c.1 d.1=0
 ·simp only [h,ne_eq,not_true_eq_false,if_false,if_true]
  by_cases h2:zD9 c.2 d.2=0
  ·rw [h2];simp
  ·simp [h2]
 ·simp [h]
theorem zOb:∀ a:List Int,zEu a a=0
 | []=>rfl
 | a::aas=>by simp [zEu,c3_zero.2 rfl,zOb aas]
theorem zOc:∀ a b:List Int,(zEu a b<0 ↔ 0<zEu b a)
 | [],[]=>by simp [zEu]
 | [],_::_=>by simp [zEu]
 | _::_,[]=>by simp [zEu]
 | a::aas,b::bs=>by
  simp only [zEu]
  rcases Int.lt_trichotomy a b with h|h|h
  ·have h1:c3 a b=-1:=by unfold c3;rw [if_pos h]
   have h2:c3 b a=1:=by unfold c3;rw [if_neg (by omega),if_pos h]
   simp [h1,h2]
  ·subst h
   simp only [c3_zero.2 rfl,if_true]
   exact zOc aas bs
  ·have h1:c3 a b=1:=by unfold c3;rw [if_neg (by omega),if_pos h]
   have h2:c3 b a=-1:=by unfold c3;rw [if_pos h]
   simp [h1,h2]
theorem zHX:∀ a b c:List Int,zEu a b<0->zEu b c<0->zEu a c<0
 | a,[],c,h1,h2=>by cases a <;> simp [zEu] at h1
 | [],b::bs,c,h1,h2=>by
  cases c with
  | nil=>simp [zEu] at h2
  | cons x xs=>simp [zEu]
 | a::aas,b::bs,c,h1,h2=>by
  cases c with
  | nil=>simp [zEu] at h2
  | cons x xs=>
   simp only [zEu] at h1 h2 ⊢
   by_cases e1:c3 a b=0
   ·rw [if_pos e1] at h1
    have:=c3_zero.1 e1
    subst this
    by_cases e2:c3 a x=0
    ·rw [if_pos e2] at h2 ⊢
     exact zHX aas bs xs h1 h2
    ·rw [if_neg e2] at h2 ⊢;exact h2
   ·rw [if_neg e1] at h1
    have hab:=c3_neg.1 h1
    by_cases e2:c3 b x=0
    ·have:=c3_zero.1 e2
     subst this
     rw [if_neg e1];exact h1
    ·rw [if_neg e2] at h2
     have hbx:=c3_neg.1 h2
     have:c3 a x<0:=c3_neg.2 (by omega)
     rw [if_neg (by omega)];exact this
mutual
theorem zjb:∀ t u:GT,zKB t u=0->t=u
 | .mk k n l,.mk k' n' l',h=>by
  simp only [zKB,orI] at h
  by_cases h1:c3 k k'=0
  ·by_cases h2:c3 n n'=0
   ·by_cases h3:c3 (l.length:Int) (l'.length:Int)=0
    ·simp only [h1,h2,h3,ne_eq,not_true_eq_false,if_false] at h
     rw [c3_zero.1 h1,c3_zero.1 h2,zNg l l' h]
    ·simp only [h1,h2,h3,ne_eq,not_true_eq_false,not_false_eq_true,if_true,if_false] at h
   ·simp only [h1,h2,ne_eq,not_true_eq_false,not_false_eq_true,if_true,if_false] at h
  ·simp only [h1,ne_eq,not_true_eq_false,not_false_eq_true,if_true,if_false] at h
theorem zNg:∀ l m:List GT,zD9 l m=0->l=m
 | [],[],_=>rfl
 | [],_::_,h=>by simp [zD9] at h
 | _::_,[],h=>by simp [zD9] at h
 | t::ts,u::us,h=>by
  simp only [zD9] at h
  by_cases h1:zKB t u=0
  ·simp only [h1,ne_eq,not_true_eq_false,if_false] at h
   rw [zjb t u h1,zNg ts us h]
  ·simp only [h1,ne_eq,not_false_eq_true,if_true] at h
end
def clt (c d:CL):Prop:=zEu (kc c) (kc d)<0
theorem zlz {c d:CL} (h:zEu (kc c) (kc d)=0):c=d:=by
 rw [← zI3] at h
 obtain ⟨g,l⟩:=c
 obtain ⟨g',l'⟩:=d
 simp only [zCY,orI] at h
 by_cases h1:c3 g g'=0
 ·simp only [h1,ne_eq,not_true_eq_false,if_false] at h
  have h2:zD9 l l'=0:=by
   by_cases h3:zD9 l l'=0
   ·exact h3
   ·simp [h3] at h
  rw [c3_zero.1 h1,zNg l l' h2]
 ·simp [h1] at h
abbrev zDa (cs:List CL):Prop:=cs.Pairwise clt
theorem zBv {ls:List CL} {c x:CL} {q:Nat} (h:ls[q]?=some x):zEm ls c q=zEu (kc x) (kc c):=by
 unfold zEm;rw [h];exact zI3 x c
theorem zFy {cs:List CL} (hs:zDa cs) {i j:Nat} {x y:CL} (hx:cs[i]?=some x) (hy:cs[j]?=some y) (bP:i<j):clt x y:=by
 obtain ⟨h1,rfl⟩:=List.getElem?_eq_some_iff.1 hx
 obtain ⟨h2,rfl⟩:=List.getElem?_eq_some_iff.1 hy
 exact List.pairwise_iff_getElem.1 hs i j h1 h2 bP
theorem zNt {ls:List CL} (hs:zDa ls) (c:CL):∀ (m i j:Nat),j<=i+m->i<=j->j<=ls.length->(∀ q,q<i->zEm ls c q<0)->(∀ q,j<=q->q<ls.length->0<=zEm ls c q)->
  zSU ls c m i j<=ls.length/\(∀ q,q<zSU ls c m i j->zEm ls c q<0)/\∀ q,zSU ls c m i j<=q->q<ls.length->0<=zEm ls c q
 | 0,i,j,h1,h2,h3,ha,hb=>by
  have:i=j:=by omega
  subst this
  exact ⟨h3,ha,hb⟩
 | m+1,i,j,h1,h2,h3,ha,hb=>by
  simp only [zSU]
  by_cases bP:i<j
  ·rw [if_pos bP]
   have hq:(i+j) / 2<ls.length:=by omega
   obtain ⟨x,hx⟩:∃ x,ls[(i+j) / 2]?=some x:=⟨_,List.getElem?_eq_getElem hq⟩
   by_cases hc:zEm ls c ((i+j) / 2)<0
   ·rw [if_pos hc]
    refine zNt hs c m _ j (by omega) (by omega) h3 (fun q eY=>?_) hb
    by_cases e:q=(i+j) / 2
    ·rw [e];exact hc
    ·obtain ⟨y,hy⟩:∃ y,ls[q]?=some y:=⟨_,List.getElem?_eq_getElem (by omega)⟩
     rw [zBv hx] at hc
     rw [zBv hy]
     exact zHX _ _ _ (zFy hs hy hx (by omega)) hc
   ·rw [if_neg hc]
    refine zNt hs c m i _ (by omega) (by omega) (by omega) ha fun q eX dJ=>?_
    by_cases e:q=(i+j) / 2
    ·rw [e];omega
    ·obtain ⟨y,hy⟩:∃ y,ls[q]?=some y:=⟨_,List.getElem?_eq_getElem dJ⟩
     rw [zBv hx] at hc
     rw [zBv hy]
     have du:=zFy hs hx hy (by omega)
     rcases Int.lt_or_le (zEu (kc y) (kc c)) 0 with h|h
     ·exact absurd (zHX _ _ _ du h) hc
     ·exact h
  ·rw [if_neg bP]
   have:i=j:=by omega
   subst this
   exact ⟨h3,ha,hb⟩
theorem zhu {ls:List CL} (hs:zDa ls) (c:CL):bsI ls c<=ls.length/\(∀ q,q<bsI ls c->zEm ls c q<0)/\∀ q,bsI ls c<=q->q<ls.length->0<=zEm ls c q:=
 zNt hs c ls.length 0 ls.length (by omega) (Nat.zero_le _) (Nat.le_refl _) (fun q h=>absurd h (Nat.not_lt_zero _)) (fun q h1 h2=>by omega)
theorem zG5 {ls:List CL} (hs:zDa ls) {c:CL} (hc:c∈ls):bsB ls c=true/\ls[bsI ls c]?=some c:=by
 obtain ⟨q,hq⟩:=List.getElem?_of_mem hc
 obtain ⟨h1,h2,h3⟩:=zhu hs c
 have gj:=(List.getElem?_eq_some_iff.1 hq).1
 have hz:zEm ls c q=0:=by rw [zBv hq];exact zOb _
 have aU:bsI ls c<=q:=by
  rcases Nat.lt_or_ge q (bsI ls c) with h|h
  ·have:=h2 q h;omega
  ·exact h
 have he:bsI ls c=q:=by
  rcases Nat.lt_or_ge (bsI ls c) q with h|h
  ·obtain ⟨x,hx⟩:∃ x,ls[bsI ls c]?=some x:=⟨_,List.getElem?_eq_getElem (by omega)⟩
   have h4:=h3 (bsI ls c) (Nat.le_refl _) (by omega)
   rw [zBv hx] at h4
   have h5:=zFy hs hx hq h
   unfold clt at h5
   omega
  ·omega
 refine ⟨?_,by rw [he];exact hq⟩
 unfold bsB
 rw [he]
 simp [gj,hz]
theorem zmd {ls:List CL} {c:CL} (h:bsB ls c=true):ls[bsI ls c]?=some c:=by
 unfold bsB at h
 simp only [Bool.and_eq_true,decide_eq_true_eq] at h
 obtain ⟨x,hx⟩:∃ x,ls[bsI ls c]?=some x:=⟨_,List.getElem?_eq_getElem h.1⟩
 have h2:=h.2
 rw [zBv hx] at h2
 rw [hx,zlz h2]
theorem ziu {cs:List CL} (hs:zDa cs) (c:CL):zDa (zMe cs c).2/\(∀ d∈cs,d∈(zMe cs c).2)/\(c.1≠-1->c∈(zMe cs c).2):=by
 unfold zMe
 by_cases h:c.1=-1
 ·rw [if_pos h];exact ⟨hs,fun d hd=>hd,fun h2=>absurd h h2⟩
 ·rw [if_neg h]
  simp only
  by_cases hb:bsB cs c=true
  ·rw [if_pos hb]
   exact ⟨hs,fun d hd=>hd,fun _=>List.mem_of_getElem? (zmd hb)⟩
  ·rw [if_neg hb]
   obtain ⟨h1,h2,h3⟩:=zhu hs c
   have dj:cs=cs.take (bsI cs c)++cs.drop (bsI cs c):=(List.take_append_drop _ _).symm
   refine ⟨?_,fun d hd=>?_,fun _=>by simp⟩
   ·rw [dj] at hs
    obtain ⟨p1,p2,p3⟩:=List.pairwise_append.1 hs
    refine List.pairwise_append.2 ⟨p1,List.pairwise_cons.2 ⟨fun d hd=>?_,p2⟩,fun a ha d hd=>?_⟩
    ·obtain ⟨q,hq⟩:=List.getElem?_of_mem hd
     rw [List.getElem?_drop] at hq
     have h4:=h3 (bsI cs c+q) (by omega) (List.getElem?_eq_some_iff.1 hq).1
     rw [zBv hq] at h4
     have ah:zEu (kc d) (kc c)≠0:=by
      intro e
      have:=zlz e
      subst this
      exact hb (zG5 (by rw [dj];exact hs) (List.mem_of_getElem? hq)).1
     exact (zOc _ _).2 (by omega)
    ·rcases List.mem_cons.1 hd with rfl|hd
     ·obtain ⟨q,hq⟩:=List.getElem?_of_mem ha
      have gj:=(List.getElem?_eq_some_iff.1 hq).1
      rw [List.length_take] at gj
      rw [List.getElem?_take_of_lt (by omega)] at hq
      have h4:=h2 q (by omega)
      rw [zBv hq] at h4
      exact h4
     ·exact p3 a ha d hd
   ·rw [dj,List.mem_append] at hd
    simp only [List.mem_append,List.mem_cons]
    rcases hd with hd|hd
    ·exact .inl hd
    ·exact .inr (.inr hd)
theorem zHO:∀ (l:List CL) {cs:List CL},zDa cs->zDa (zBi cs l).2/\(∀ d∈cs,d∈(zBi cs l).2)/\∀ c∈l,c.1≠-1->c∈(zBi cs l).2
 | [],cs,hs=>⟨hs,fun d hd=>hd,fun c hc=>by cases hc⟩
 | c::l,cs,hs=>by
  obtain ⟨a1,a2,a3⟩:=ziu hs c
  obtain ⟨b1,b2,b3⟩:=zHO l a1
  simp only [zBi]
  refine ⟨b1,fun d hd=>b2 d (a2 d hd),fun d hd h=>?_⟩
  rcases List.mem_cons.1 hd with rfl|hd
  ·exact b2 _ (a3 h)
  ·exact b3 d hd h
def zBN (cs:List CL) (c:CL):Int:=if c.1=-1 then 0 else ((bsI cs c:Nat):Int)+1
theorem zF3:∀ (l:List CL) {cs:List CL},zDa cs->(∀ c∈l,c.1≠-1->c∈cs)->zBi cs l=(l.map (zBN cs),cs)
 | [],cs,_,_=>rfl
 | c::l,cs,hs,h=>by
  have h1:zMe cs c=(zBN cs c,cs):=by
   unfold zMe zBN
   by_cases hc:c.1=-1
   ·rw [if_pos hc,if_pos hc]
   ·rw [if_neg hc,if_neg hc,if_pos (zG5 hs (h c (by simp) hc)).1]
  simp only [zBi,h1,zF3 l hs fun d hd=>h d (by simp [hd]),List.map_cons]
theorem zTU {cs:List CL} (hs:zDa cs) {c d:CL} (hc:c.1≠-1->c∈cs) (hd:d.1≠-1->d∈cs) (h:zBN cs c=zBN cs d):(c.1=-1/\d.1=-1)\/c=d:=by
 unfold zBN at h
 by_cases h1:c.1=-1
 ·by_cases h2:d.1=-1
  ·exact .inl ⟨h1,h2⟩
  ·rw [if_pos h1,if_neg h2] at h;omega
 ·by_cases h2:d.1=-1
  ·rw [if_neg h1,if_pos h2] at h;omega
  ·rw [if_neg h1,if_neg h2] at h
   have e:bsI cs c=bsI cs d:=by omega
   have a:=(zG5 hs (hc h1)).2
   have b:=(zG5 hs (hd h2)).2
   rw [e,b] at a
   exact .inr (Option.some.inj a).symm
abbrev zSt (nums:List Int) (e:Ed):Int×Int:=((nums[e.2.1.toNat]?).getD 0,e.2.2)
theorem zHC (nums:List Int):∀ (l:List Ed) (SS:List zAF) (i:Nat) (S:zAF),(zDD nums SS l)[i]?=some S->∃ S0,SS[i]?=some S0/\∀ y,y∈S ↔ y∈S0\/∃ e∈l,e.1.toNat=i/\y=zSt nums e
 | [],SS,i,S,h=>⟨S,h,fun y=>by simp⟩
 | e::l,SS,i,S,h=>by
  simp only [zDD] at h
  obtain ⟨S0,h0,hS⟩:=zHC nums l _ i S h
  by_cases hi:e.1.toNat=i
  ·subst hi
   rw [List.getElem?_set] at h0
   simp only [if_true] at h0
   split at h0
   ·rename_i ab
    cases h0
    refine ⟨SS[e.1.toNat],List.getElem?_eq_getElem ab,fun y=>?_⟩
    rw [hS y,List.getElem?_eq_getElem ab]
    simp only [Option.getD_some,List.mem_append,List.mem_cons,List.not_mem_nil,or_false]
    constructor
    ·rintro ((h|h)|⟨f,h1,h2⟩)
     ·exact .inl h
     ·exact .inr ⟨e,.inl rfl,rfl,h⟩
     ·exact .inr ⟨f,.inr h1,h2⟩
    ·rintro (h|⟨f,rfl|h1,h2,h3⟩)
     ·exact .inl (.inl h)
     ·exact .inl (.inr h3)
     ·exact .inr ⟨f,h1,h2,h3⟩
   ·cases h0
  ·rw [List.getElem?_set_ne hi] at h0
   refine ⟨S0,h0,fun y=>?_⟩
   rw [hS y]
   simp only [List.mem_cons]
   constructor
   ·rintro (h|⟨f,h1,h2⟩)
    ·exact .inl h
    ·exact .inr ⟨f,.inr h1,h2⟩
   ·rintro (h|⟨f,rfl|h1,h2,h3⟩)
    ·exact .inl h
    ·exact absurd h2 hi
    ·exact .inr ⟨f,h1,h2,h3⟩
theorem zMl {nums:List Int} {L:GL} {i:Nat} {S:zAF} (h:(zAr nums L)[i]?=some S) (y:Int×Int):y∈S ↔ ∃ e∈L.eds,e.1.toNat=i/\y=zSt nums e:=by
 obtain ⟨S0,h0,hS⟩:=zHC nums _ _ i S h
 rw [List.getElem?_replicate] at h0
 split at h0
 ·cases h0;rw [hS y];simp
 ·cases h0
theorem zLE {L:GL} (h:zy L=false) {i:Nat} {c:CL} (hc:L.labs[i]?=some c) (h1:c.1=-1):c.2=[]:=by
 simp only [zy,Bool.or_eq_false_iff] at h
 have ab:=(List.getElem?_eq_some_iff.1 hc).1
 have:=zBO h.1.2 i (Nat.zero_le _) (by omega)
 simp only [zBE,hc,Bool.or_eq_false_iff,zA6,zSV,h1,decide_true,Bool.or_true,Bool.true_and,decide_eq_false_iff_not] at this
 exact List.length_eq_zero_iff.1 (by omega)
def zk8 (L M:GL):List CL:=(zBi (zBi [] L.labs).2 M.labs).2
theorem zUR (L M:GL):zDa (zk8 L M)/\(∀ c∈L.labs,c.1≠-1->c∈zk8 L M)/\∀ c∈M.labs,c.1≠-1->c∈zk8 L M:=by
 obtain ⟨a1,a2,a3⟩:=zHO L.labs (cs:=[]) List.Pairwise.nil
 obtain ⟨b1,b2,b3⟩:=zHO M.labs a1
 exact ⟨b1,fun c h1 h2=>b2 c (a3 c h1 h2),b3⟩
theorem zLL (L M:GL):zFf [L,M]=[zAr (L.labs.map (zBN (zk8 L M))) L,zAr (M.labs.map (zBN (zk8 L M))) M]:=by
 obtain ⟨h1,h2,h3⟩:=zUR L M
 show zDt (zk8 L M) [L,M]=_
 simp only [zDt,zF3 L.labs h1 h2,zF3 M.labs h1 h3]
theorem zPz {cs:List CL} {c:CL} (h:zBN cs c=0):c.1=-1:=by
 unfold zBN at h
 split at h
 ·assumption
 ·omega
theorem zhZ {B:GB} (h:zAd B=0):(B.kind=1\/B.kind=2)/\∀ p∈B.prs,0<=p.1/\0<=p.2:=by
 unfold zAd at h
 split at h
 ·cases h
 ·rename_i h1
  split at h
  ·cases h
  ·split at h
   ·cases h
   ·rename_i h3
    refine ⟨?_,fun p hp=>?_⟩
    ·simp [zDG] at h1;omega
    ·obtain ⟨i,hi⟩:=List.getElem?_of_mem hp
     have ab:=(List.getElem?_eq_some_iff.1 hi).1
     have:=zBO (Bool.eq_false_iff.2 h3) i (Nat.zero_le _) (by omega)
     simp only [zB8,hi,Bool.or_eq_false_iff,decide_eq_false_iff_not] at this
     omega
theorem zIq:∀ (S:zAF) (l:List Int) (v:Int),v∈S.foldl zEn l->v∈l\/∃ y∈S,y.1=0/\y.2=v
 | [],l,v,h=>.inl h
 | y::S,l,v,h=>by
  rcases zIq S _ v h with h1|⟨z,h1,h2⟩
  ·unfold zEn at h1
   split at h1
   ·rename_i hc
    rcases List.mem_append.1 h1 with h2|h2
    ·exact .inl h2
    ·exact .inr ⟨y,by simp,hc.1,(List.mem_singleton.1 h2).symm⟩
   ·exact .inl h1
  ·exact .inr ⟨z,by simp [h1],h2⟩
theorem zNj {L M:GL} {B:GB} (h:zD4 L M B=0):(∀ p∈B.prs,(0<=p.1/\p.1<L.n)/\(0<=p.2/\p.2<M.n))/\((0:Int),(0:Int))∈B.prs:=by
 obtain ⟨hL,hM,ic,dR⟩:=zGd h
 obtain ⟨aQ,cX⟩:=zhZ ic
 unfold zMq at dR
 rw [zLL] at dR
 simp only [zij,Bool.and_eq_true,List.all_eq_true,decide_eq_true_eq,inB] at dR
 obtain ⟨ai,⟨hz,aA⟩,_⟩:=dR
 exact ⟨fun p hp=>⟨⟨(cX p hp).1,(ai p hp).1⟩,(cX p hp).2,(ai p hp).2⟩,hz⟩
end Go.Proofs
namespace Go.Proofs
open Go Go.AM Go.Sort
set_option maxRecDepth 100000
set_option maxHeartbeats 1000000
def InR (L M:GL) (R:List (Int×Int)):Prop:=∀ p∈R,(0<=p.1/\p.1<L.n)/\(0<=p.2/\p.2<M.n)
theorem zQh {p q r:Int×Int} (h1:zKC p q<0) (h2:zKC q r<0):zKC p r<0:=by
 rw [zCy] at *;omega
def zAV (l:List (Int×Int)):Prop:=l.Pairwise fun p q=>zKC p q<0
theorem zlu {F:List (Int×Int)} (hn:F.length<=200000) (h0:∀ p∈F,0<=p.1/\0<=p.2) (hs:zAV F):zAd ⟨1,F⟩=0:=by
 unfold zAd
 rw [if_neg (by simp [zDG]),if_neg (by simp only;omega),if_neg]
 rw [Bool.not_eq_true]
 refine zEh fun j _ hj=>?_
 simp only at hj
 obtain ⟨p,hp⟩:∃ p,F[j]?=some p:=⟨_,List.getElem?_eq_getElem (by omega)⟩
 have hpm:=h0 p (List.mem_of_getElem? hp)
 simp only [zB8,hp,Bool.or_eq_false_iff,decide_eq_false_iff_not]
 refine ⟨by omega,?_⟩
 by_cases hj0:0<j
 ·rw [decide_eq_true hj0]
  obtain ⟨q,hq⟩:∃ q,F[j-1]?=some q:=⟨_,List.getElem?_eq_getElem (by omega)⟩
  simp only [hq,Bool.true_and,decide_eq_false_iff_not]
  have:=List.pairwise_iff_getElem.1 hs (j-1) j (by omega) (by omega) (by omega)
  rw [(List.getElem?_eq_some_iff.1 hp).2,(List.getElem?_eq_some_iff.1 hq).2] at this
  omega
 ·rw [decide_eq_false hj0];rfl
theorem zSp {l:List (Int×Int)} (h:∀ (j:Nat) (p q:Int×Int),l[j]?=some p->l[j+1]?=some q->zKC p q<0):zAV l:=by
 have:∀ (m i:Nat) (p q:Int×Int),l[i]?=some p->l[i+1+m]?=some q->zKC p q<0:=by
  intro m
  induction m with
  | zero=>intro i p q hp hq;exact h i p q hp hq
  | succ m ih=>
   intro i p q hp hq
   have ab:=(List.getElem?_eq_some_iff.1 hq).1
   obtain ⟨r,hr⟩:∃ r,l[i+1+m]?=some r:=⟨_,List.getElem?_eq_getElem (by omega)⟩
   exact zQh (ih i p r hp hr) (h _ r q hr hq)
 refine List.pairwise_iff_getElem.2 fun i j hi hj bP=>?_
 exact this (j-i-1) i _ _ (List.getElem?_eq_getElem hi) (by rw [show i+1+(j-i-1)=j by omega];exact List.getElem?_eq_getElem hj)
end Go.Proofs
namespace Go.Proofs
open Go Go.AM
set_option maxRecDepth 100000
set_option maxHeartbeats 1000000
def stp (L:GL) (s:Int) (c:CL) (s':Int):Prop:=∃ e∈L.eds,e.1=s/\L.labs[e.2.1.toNat]?=some c/\e.2.2=s'
inductive Sil (L:GL) (s:Int):Int->Prop
 | refl:Sil L s s
 | step {t u:Int} {c:CL} (h:Sil L s t) (e:stp L t c u) (hc:c.1=-1):Sil L s u
def Fol (kind:Int) (L M:GL) (R:List (Int×Int)):Prop:=∀ s t c s',(s,t)∈R->stp L s c s'->
 if kind=1 then ∃ t',stp M t c t'/\(s',t')∈R else ∃ u,Sil M t u/\(s,u)∈R/\((c.1=-1/\(s',u)∈R)\/∃ t',stp M u c t'/\(s',t')∈R)
theorem zE2 {L:GL} (hL:zy L=false) {s s':Int} {c:CL} (h:stp L s c s'):(0<=s/\s<L.n)/\(0<=s'/\s'<L.n)/\c∈L.labs:=by
 obtain ⟨e,he,rfl,hc,rfl⟩:=h
 obtain ⟨j,hj⟩:=List.getElem?_of_mem he
 obtain ⟨d1,d2,_⟩:=zHq hL hj
 exact ⟨d1,d2,List.mem_of_getElem? hc⟩
theorem zCo {L:GL} (hL:zy L=false) {cs:List CL} {s:Int} (hs:0<=s) {S:zAF} (hS:(zAr (L.labs.map (zBN cs)) L)[s.toNat]?=some S) (n s':Int):(n,s')∈S ↔ ∃ c,stp L s c s'/\n=zBN cs c:=by
 rw [zMl hS]
 constructor
 ·rintro ⟨e,he,h1,h2⟩
  obtain ⟨j,hj⟩:=List.getElem?_of_mem he
  obtain ⟨d1,_,d3,d4⟩:=zHq hL hj
  obtain ⟨c,hc⟩:∃ c,L.labs[e.2.1.toNat]?=some c:=⟨_,List.getElem?_eq_getElem (by omega)⟩
  have hv:zSt (L.labs.map (zBN cs)) e=(zBN cs c,e.2.2):=by simp [zSt,hc]
  rw [hv] at h2
  exact ⟨c,⟨e,he,by omega,hc,(Prod.mk.inj h2).2.symm⟩,(Prod.mk.inj h2).1⟩
 ·rintro ⟨c,⟨e,he,h1,hc,h2⟩,rfl⟩
  exact ⟨e,he,by rw [h1],by simp [zSt,hc,h2]⟩
theorem zFx {L M:GL} {cs:List CL} {R:List (Int×Int)} (c1:zDa cs) (c2:∀ c∈L.labs,c.1≠-1->c∈cs) (c3':∀ c∈M.labs,c.1≠-1->c∈cs) (hL:zy L=false) (hM:zy M=false) {c:CL} (hc:c∈L.labs) {u s':Int} (hu:0<=u/\u<M.n) :
  zCE R (zAr (M.labs.map (zBN cs)) M) u (zBN cs c,s')=true ↔ ∃ t',stp M u c t'/\(s',t')∈R:=by
 obtain ⟨S,hS⟩:∃ S,(zAr (M.labs.map (zBN cs)) M)[u.toNat]?=some S:=⟨_,List.getElem?_eq_getElem (by rw [zDg];omega)⟩
 unfold zCE
 simp only [hS,zEB,List.any_eq_true,zFN,Bool.and_eq_true,decide_eq_true_eq]
 constructor
 ·rintro ⟨⟨n,t'⟩,hy,h1,h2⟩
  simp only at h1 h2
  obtain ⟨d,hd,e⟩:=(zCo hM hu.1 hS n t').1 hy
  have hdm:=(zE2 hM hd).2.2
  have:d=c:=by
   rcases zTU c1 (c3' d hdm) (c2 c hc) (e.symm.trans h1) with ⟨e1,e2⟩|e
   ·obtain ⟨i,hi⟩:=List.getElem?_of_mem hdm
    obtain ⟨j,hj⟩:=List.getElem?_of_mem hc
    have a1:=zLE hM hi e1
    have a2:=zLE hL hj e2
    obtain ⟨g1,l1⟩:=d
    obtain ⟨g2,l2⟩:=c
    simp only at e1 e2 a1 a2
    rw [e1,e2,a1,a2]
   ·exact e
  exact ⟨t',this ▸ hd,h2⟩
 ·rintro ⟨t',h1,h2⟩
  exact ⟨(zBN cs c,t'),(zCo hM hu.1 hS _ _).2 ⟨c,h1,rfl⟩,rfl,h2⟩
theorem num_zero {cs:List CL} {c:CL}:zBN cs c=0 ↔ c.1=-1:=⟨zPz,fun h=>by unfold zBN;rw [if_pos h]⟩
theorem zJ0:∀ (S:zAF) (l:List Int),∃ t,S.foldl zEn l=l++t
 | [],l=>⟨[],by simp⟩
 | y::S,l=>by
  obtain ⟨t,ht⟩:=zJ0 S (zEn l y)
  obtain ⟨t1,h1⟩:∃ t1,zEn l y=l++t1:=by
   unfold zEn
   split
   ·exact ⟨_,rfl⟩
   ·exact ⟨[],by simp⟩
  exact ⟨t1++t,by rw [List.foldl_cons,ht,h1,List.append_assoc]⟩
theorem zOq:∀ (S:zAF) (l:List Int) (y:Int×Int),y∈S->y.1=0->y.2∈S.foldl zEn l
 | x::S,l,y,hy,h0=>by
  rw [List.foldl_cons]
  rcases List.mem_cons.1 hy with rfl|hy
  ·obtain ⟨t,ht⟩:=zJ0 S (zEn l y)
   rw [ht]
   refine List.mem_append_left _ ?_
   unfold zEn
   split
   ·simp
   ·rename_i hn
    simp only [not_and,Classical.not_not] at hn
    exact hn h0
  ·exact zOq S _ y hy h0
theorem zkJ {TT:List zAF} {body:Int->Bool} (hv:∀ (i:Nat) (S:zAF),TT[i]?=some S->∀ y∈S,0<=y.2/\y.2<(TT.length:Int)) :
  ∀ (f i:Nat) (l:List Int),l.Nodup->(∀ u∈l,0<=u/\u<(TT.length:Int))->TT.length<=f+i->(∀ (j:Nat) (u:Int),j<i->l[j]?=some u->body u=false/\∀ S,TT[u.toNat]?=some S->∀ y∈S,y.1=0->y.2∈l)->bfs TT body f i l=false->
   ∃ l':List Int,(∀ u∈l,u∈l')/\∀ u∈l',body u=false/\∀ S,TT[u.toNat]?=some S->∀ y∈S,y.1=0->y.2∈l':=by
 intro f
 induction f with
 | zero=>
  intro i l hn hr hf hp _
  have:=zBK TT.length l hn hr
  refine ⟨l,fun _ h=>h,fun u hu=>?_⟩
  obtain ⟨j,hj⟩:=List.getElem?_of_mem hu
  exact hp j u (by have:=(List.getElem?_eq_some_iff.1 hj).1;omega) hj
 | succ f ih=>
  intro i l hn hr hf hp hb
  simp only [bfs] at hb
  split at hb
  ·rename_i hi
   refine ⟨l,fun _ h=>h,fun u hu=>?_⟩
   obtain ⟨j,hj⟩:=List.getElem?_of_mem hu
   refine hp j u ?_ hj
   have h1:=(List.getElem?_eq_some_iff.1 hj).1
   have h2:=List.getElem?_eq_none_iff.1 hi
   omega
  ·rename_i u hu
   simp only [Bool.or_eq_false_iff] at hb
   obtain ⟨S,hS⟩:∃ S,TT[u.toNat]?=some S:=⟨_,List.getElem?_eq_getElem (by have:=hr u (List.mem_of_getElem? hu);omega)⟩
   have eO:zMv TT l u=S.foldl zEn l:=by unfold zMv;rw [hS]
   rw [eO] at hb
   obtain ⟨t,ht⟩:=zJ0 S l
   have sub:∀ x∈l,x∈S.foldl zEn l:=fun x hx=>by rw [ht];exact List.mem_append_left _ hx
   obtain ⟨l',h1,h2⟩:=ih (i+1) (S.foldl zEn l) (zIr hn) (fun x hx=>by
    rcases zOp hx with h|⟨y,hy,rfl⟩
    ·exact hr x h
    ·exact hv _ S hS y hy) (by omega) (fun j v hj hjv=>by
    have cM:=(List.getElem?_eq_some_iff.1 hu).1
    rw [ht,List.getElem?_append_left (by omega)] at hjv
    rcases Nat.lt_succ_iff_lt_or_eq.1 hj with h|h
    ·obtain ⟨a,b⟩:=hp j v h hjv
     exact ⟨a,fun S' hS' y hy h0=>sub _ (b S' hS' y hy h0)⟩
    ·subst h
     rw [hu] at hjv
     cases hjv
     refine ⟨hb.1,fun S' hS' y hy h0=>?_⟩
     rw [hS] at hS'
     cases hS'
     exact zOq S l y hy h0) hb.2
   exact ⟨l',fun x hx=>h1 x (sub x hx),h2⟩
theorem zmn {TT:List zAF} {body:Int->Bool} {P:Int->Prop} (hc:∀ u,P u->∀ S,TT[u.toNat]?=some S->∀ y∈S,y.1=0->P y.2) :
  ∀ (f i:Nat) (l:List Int),(∀ u∈l,P u)->bfs TT body f i l=true->∃ u,P u/\body u=true
 | 0,i,l,_,h=>by simp [bfs] at h
 | f+1,i,l,hl,h=>by
  simp only [bfs] at h
  split at h
  ·cases h
  ·rename_i u hu
   have hm:=hl u (List.mem_of_getElem? hu)
   rcases Bool.or_eq_true_iff.1 h with h|h
   ·exact ⟨u,hm,h⟩
   ·refine zmn hc f (i+1) _ (fun v hv=>?_) h
    unfold zMv at hv
    split at hv
    ·rename_i S hS
     rcases zIq S l v hv with h1|⟨y,h1,h2,h3⟩
     ·exact hl v h1
     ·rw [← h3];exact hc u hm S hS y h1 h2
    ·exact hl v hv
theorem zkK {M:GL} {cs:List CL} (hM:zy M=false) {body:Int->Bool} {t:Int} (ht:0<=t/\t<M.n) :
  bfs (zAr (M.labs.map (zBN cs)) M) body (zAr (M.labs.map (zBN cs)) M).length 0 [t]=true ↔ ∃ u,Sil M t u/\body u=true:=by
 have hlen:=zDg (M.labs.map (zBN cs)) M
 obtain ⟨m1,m2,_,_⟩:=zBX hM
 have vld:∀ (i:Nat) (S:zAF),(zAr (M.labs.map (zBN cs)) M)[i]?=some S->∀ y∈S,0<=y.2/\y.2<((zAr (M.labs.map (zBN cs)) M).length:Int):=fun i S hS y hy=>by
  have:i=((i:Nat):Int).toNat:=by omega
  rw [this] at hS
  obtain ⟨c,hc,_⟩:=(zCo hM (Int.natCast_nonneg i) hS y.1 y.2).1 hy
  have:=(zE2 hM hc).2.1
  omega
 constructor
 ·intro h
  obtain ⟨u,hu,hb⟩:=zmn (P:=fun u=>Sil M t u/\0<=u) (fun u hu S hS y hy h0=>by
   obtain ⟨c,hc,e⟩:=(zCo hM hu.2 hS y.1 y.2).1 hy
   exact ⟨.step hu.1 hc (num_zero.1 (e.symm.trans h0)),(zE2 hM hc).2.1.1⟩) _ _ _ (fun u hu=>by rw [List.mem_singleton.1 hu];exact ⟨.refl,ht.1⟩) h
  exact ⟨u,hu.1,hb⟩
 ·rintro ⟨u,hu,hb⟩
  rcases Bool.eq_false_or_eq_true (bfs (zAr (M.labs.map (zBN cs)) M) body (zAr (M.labs.map (zBN cs)) M).length 0 [t]) with h|h
  ·exact h
  ·obtain ⟨l',h1,h2⟩:=zkJ vld _ 0 [t] (by simp) (fun u hu=>by rw [List.mem_singleton.1 hu];omega) (by omega) (fun j u hj=>by omega) h
   have:∀ u,Sil M t u->u∈l'/\(0<=u/\u<M.n):=by
    intro u hu
    induction hu with
    | refl=>exact ⟨h1 t (by simp),ht⟩
    | @step v w c hv e hc ih=>
     obtain ⟨S,hS⟩:∃ S,(zAr (M.labs.map (zBN cs)) M)[v.toNat]?=some S:=⟨_,List.getElem?_eq_getElem (by omega)⟩
     exact ⟨(h2 v ih.1).2 S hS _ ((zCo hM ih.2.1 hS _ _).2 ⟨c,e,rfl⟩) (num_zero.2 hc),(zE2 hM e).2.1⟩
   have:=(h2 u (this u hu).1).1
   rw [this] at hb
   cases hb
theorem Sil.rng {M:GL} (hM:zy M=false) {t u:Int} (h:Sil M t u) (ht:0<=t/\t<M.n):0<=u/\u<M.n:=by
 cases h with
 | refl=>exact ht
 | step _ e _=>exact (zE2 hM e).2.1
theorem zU7 {L M:GL} {cs:List CL} {R:List (Int×Int)} {kind:Int} (c1:zDa cs) (c2:∀ c∈L.labs,c.1≠-1->c∈cs) (c3':∀ c∈M.labs,c.1≠-1->c∈cs) (hL:zy L=false) (hM:zy M=false) (hr:InR L M R) :
  zPD kind R (zAr (L.labs.map (zBN cs)) L) (zAr (M.labs.map (zBN cs)) M)=true ↔ Fol kind L M R:=by
 have key:∀ s t c s',(s,t)∈R->stp L s c s'->(zCu kind R (zAr (M.labs.map (zBN cs)) M) (s,t) (zBN cs c,s')=true ↔ if kind=1 then ∃ t',stp M t c t'/\(s',t')∈R else ∃ u,Sil M t u/\(s,u)∈R/\((c.1=-1/\(s',u)∈R)\/∃ t',stp M u c t'/\(s',t')∈R)):=by
  intro s t c s' af hc
  have ht:=(hr _ af).2
  have d6:=(zE2 hL hc).2.2
  unfold zCu
  by_cases hk:kind=1
  ·rw [if_pos hk,if_pos hk]
   exact zFx c1 c2 c3' hL hM d6 ht
  ·rw [if_neg hk,if_neg hk]
   unfold zDu
   rw [zkK hM ht]
   constructor
   ·rintro ⟨u,hu,hb⟩
    simp only [zDW,Bool.and_eq_true,Bool.or_eq_true,decide_eq_true_eq] at hb
    refine ⟨u,hu,hb.1,hb.2.imp (fun h=>⟨num_zero.1 h.1,h.2⟩) fun h=>(zFx c1 c2 c3' hL hM d6 (hu.rng hM ht)).1 h⟩
   ·rintro ⟨u,hu,h1,h2⟩
    refine ⟨u,hu,?_⟩
    simp only [zDW,Bool.and_eq_true,Bool.or_eq_true,decide_eq_true_eq]
    exact ⟨h1,h2.imp (fun h=>⟨num_zero.2 h.1,h.2⟩) fun h=>(zFx c1 c2 c3' hL hM d6 (hu.rng hM ht)).2 h⟩
 simp only [zPD,zU9,List.all_eq_true]
 constructor
 ·intro h s t c s' af hc
  obtain ⟨S,hS⟩:∃ S,(zAr (L.labs.map (zBN cs)) L)[s.toNat]?=some S:=⟨_,List.getElem?_eq_getElem (by rw [zDg];have:=(hr _ af).1;simp only at this;omega)⟩
  have:=h _ af
  rw [show ((s,t):Int×Int).1=s from rfl,hS] at this
  exact (key s t c s' af hc).1 (List.all_eq_true.1 this _ ((zCo hL (hr _ af).1.1 hS _ _).2 ⟨c,hc,rfl⟩))
 ·rintro h ⟨s,t⟩ af
  obtain ⟨S,hS⟩:∃ S,(zAr (L.labs.map (zBN cs)) L)[s.toNat]?=some S:=⟨_,List.getElem?_eq_getElem (by rw [zDg];have:=(hr _ af).1;simp only at this;omega)⟩
  simp only [hS]
  refine List.all_eq_true.2 fun y hy=>?_
  obtain ⟨n,s'⟩:=y
  obtain ⟨c,hc,rfl⟩:=(zCo hL (hr _ af).1.1 hS n s').1 hy
  exact (key s t c s' af hc).2 (h s t c s' af hc)
theorem InR.swap {L M:GL} {R:List (Int×Int)} (h:InR L M R):InR M L (R.map zBP):=fun p hp=>by
 obtain ⟨q,hq,rfl⟩:=List.mem_map.1 hp
 exact ⟨(h q hq).2,(h q hq).1⟩
theorem zTD {L M:GL} {R:List (Int×Int)} {kind:Int} (hL:zy L=false) (hM:zy M=false) (hr:InR L M R):zMq L M ⟨kind,R⟩=true ↔ (0,0)∈R/\Fol kind L M R/\Fol kind M L (R.map zBP):=by
 obtain ⟨c1,c2,c3'⟩:=zUR L M
 unfold zMq
 rw [zLL]
 simp only [zij,Bool.and_eq_true,List.all_eq_true,decide_eq_true_eq,inB]
 rw [zU7 c1 c2 c3' hL hM hr,zU7 c1 c3' c2 hM hL hr.swap]
 constructor
 ·rintro ⟨_,⟨a,b⟩,c⟩;exact ⟨a,b,c⟩
 ·rintro ⟨a,b,c⟩;exact ⟨fun x hx=>⟨(hr x hx).1.2,(hr x hx).2.2⟩,⟨a,b⟩,c⟩
def FolP (kind:Int) (L M:GL) (P:Int->Int->Prop):Prop:=∀ s t c s',P s t->stp L s c s'->
 if kind=1 then ∃ t',stp M t c t'/\P s' t' else ∃ u,Sil M t u/\P s u/\((c.1=-1/\P s' u)\/∃ t',stp M u c t'/\P s' t')
structure Bis (kind:Int) (L M:GL) (P:Int->Int->Prop):Prop where
 z:P 0 0
 rg:∀ s t,P s t->(0<=s/\s<L.n)/\(0<=t/\t<M.n)
 f:FolP kind L M P
 b:FolP kind M L fun t s=>P s t
theorem Sil.trans {L:GL} {s t u:Int} (a:Sil L s t) (b:Sil L t u):Sil L s u:=by
 induction b with
 | refl=>exact a
 | step _ e hc ih=>exact .step ih e hc
theorem FolP.weak {L M:GL} {P:Int->Int->Prop} (h:FolP 1 L M P):FolP 2 L M P:=fun s t c s' af hc=>by
 have:=h s t c s' af hc
 rw [if_pos rfl] at this
 rw [if_neg (by decide)]
 exact ⟨t,.refl,af,.inr this⟩
theorem FolP.stut {M N:GL} {Q:Int->Int->Prop} (h:FolP 2 M N Q) {t u w:Int} (hs:Sil M t u) (hq:Q t w):∃ v,Sil N w v/\Q u v:=by
 induction hs with
 | refl=>exact ⟨w,.refl,hq⟩
 | @step x y c hx e hc ih=>
  obtain ⟨v,h1,h2⟩:=ih
  have:=h x v c y h2 e
  rw [if_neg (by decide)] at this
  obtain ⟨v1,a1,a2,a3⟩:=this
  rcases a3 with ⟨_,h3⟩|⟨v2,h3,h4⟩
  ·exact ⟨v1,h1.trans a1,h3⟩
  ·exact ⟨v2,.step (h1.trans a1) h3 hc,h4⟩
theorem FolP.comp1 {L M N:GL} {P Q:Int->Int->Prop} (h:FolP 1 L M P) (k:FolP 1 M N Q):FolP 1 L N fun s w=>∃ t,P s t/\Q t w:=fun s w c s' ⟨t,hp,hq⟩ hc=>by
 have a:=h s t c s' hp hc
 rw [if_pos rfl] at a ⊢
 obtain ⟨t',a1,a2⟩:=a
 have b:=k t w c t' hq a1
 rw [if_pos rfl] at b
 obtain ⟨w',b1,b2⟩:=b
 exact ⟨w',b1,t',a2,b2⟩
theorem FolP.comp2 {L M N:GL} {P Q:Int->Int->Prop} (h:FolP 2 L M P) (k:FolP 2 M N Q):FolP 2 L N fun s w=>∃ t,P s t/\Q t w:=fun s w c s' ⟨t,hp,hq⟩ hc=>by
 have a:=h s t c s' hp hc
 rw [if_neg (by decide)] at a ⊢
 obtain ⟨u,a1,a2,a3⟩:=a
 obtain ⟨v,b1,b2⟩:=k.stut a1 hq
 rcases a3 with ⟨a3,a4⟩|⟨u',a3,a4⟩
 ·exact ⟨v,b1,⟨u,a2,b2⟩,.inl ⟨a3,u,a4,b2⟩⟩
 ·have d:=k u v c u' b2 a3
  rw [if_neg (by decide)] at d
  obtain ⟨v1,d1,d2,d3⟩:=d
  rcases d3 with ⟨d3,d4⟩|⟨v2,d3,d4⟩
  ·exact ⟨v1,b1.trans d1,⟨u,a2,d2⟩,.inl ⟨d3,u',a4,d4⟩⟩
  ·exact ⟨v1,b1.trans d1,⟨u,a2,d2⟩,.inr ⟨v2,d3,u',a4,d4⟩⟩
theorem Bis.weak {L M:GL} {P:Int->Int->Prop} {kind:Int} (hk:kind=1\/kind=2) (h:Bis kind L M P):Bis 2 L M P:=by
 rcases hk with rfl|rfl
 ·exact ⟨h.z,h.rg,h.f.weak,h.b.weak⟩
 ·exact h
theorem Bis.inv {L M:GL} {P:Int->Int->Prop} {kind:Int} (h:Bis kind L M P):Bis kind M L fun t s=>P s t:=⟨h.z,fun t s hp=>⟨(h.rg s t hp).2,(h.rg s t hp).1⟩,h.b,h.f⟩
def zDc (a b:Int):Int:=if b > a then b else a
theorem zHZ {a b:Int} (ha:a=1\/a=2) (hb:b=1\/b=2):(zDc a b=1/\a=1/\b=1)\/zDc a b=2:=by
 rcases ha with rfl|rfl <;> rcases hb with rfl|rfl <;> simp [zDc]
theorem Bis.comp {L M N:GL} {P Q:Int->Int->Prop} {a b:Int} (ha:a=1\/a=2) (hb:b=1\/b=2) (h:Bis a L M P) (k:Bis b M N Q):Bis (zDc a b) L N fun s w=>∃ t,P s t/\Q t w:=by
 have sw:∀ {A:GL} {B:GL} {c:Int} {F G:Int->Int->Prop},FolP c A B F->(∀ s t,F s t ↔ G s t)->FolP c A B G:=fun hf e=>by
  rename_i F G
  have:F=G:=funext fun s=>funext fun t=>propext (e s t)
  rwa [← this]
 refine ⟨⟨0,h.z,k.z⟩,fun s w ⟨t,hp,hq⟩=>⟨(h.rg s t hp).1,(k.rg t w hq).2⟩,?_,?_⟩
 ·rcases zHZ ha hb with ⟨e,e1,e2⟩|e
  ·rw [e];subst e1 e2;exact h.f.comp1 k.f
  ·rw [e];exact (h.weak ha).f.comp2 (k.weak hb).f
 ·rcases zHZ ha hb with ⟨e,e1,e2⟩|e
  ·rw [e];subst e1 e2;exact sw (k.b.comp1 h.b) fun w s=>⟨fun ⟨t,x,y⟩=>⟨t,y,x⟩,fun ⟨t,x,y⟩=>⟨t,y,x⟩⟩
  ·rw [e];exact sw ((k.weak hb).b.comp2 (h.weak ha).b) fun w s=>⟨fun ⟨t,x,y⟩=>⟨t,y,x⟩,fun ⟨t,x,y⟩=>⟨t,y,x⟩⟩
theorem FolP.or {L M:GL} {P Q:Int->Int->Prop} {kind:Int} (h:FolP kind L M P) (k:FolP kind L M Q):FolP kind L M fun s t=>P s t\/Q s t:=fun s t c s' af hc=>by
 rcases af with hp|hp
 ·have a:=h s t c s' hp hc
  split at a
  ·rename_i e;rw [if_pos e]
   obtain ⟨t',x,y⟩:=a;exact ⟨t',x,.inl y⟩
  ·rename_i e;rw [if_neg e]
   obtain ⟨u,x,y,z⟩:=a
   exact ⟨u,x,.inl y,z.imp (fun z=>⟨z.1,.inl z.2⟩) fun ⟨t',z1,z2⟩=>⟨t',z1,.inl z2⟩⟩
 ·have a:=k s t c s' hp hc
  split at a
  ·rename_i e;rw [if_pos e]
   obtain ⟨t',x,y⟩:=a;exact ⟨t',x,.inr y⟩
  ·rename_i e;rw [if_neg e]
   obtain ⟨u,x,y,z⟩:=a
   exact ⟨u,x,.inr y,z.imp (fun z=>⟨z.1,.inr z.2⟩) fun ⟨t',z1,z2⟩=>⟨t',z1,.inr z2⟩⟩
theorem Bis.or {L M:GL} {P Q:Int->Int->Prop} {a b:Int} (ha:a=1\/a=2) (hb:b=1\/b=2) (h:Bis a L M P) (k:Bis b L M Q):Bis (zDc a b) L M fun s t=>P s t\/Q s t:=by
 refine ⟨.inl h.z,fun s t af=>af.elim (h.rg s t) (k.rg s t),?_,?_⟩
 ·rcases zHZ ha hb with ⟨e,e1,e2⟩|e
  ·rw [e];subst e1 e2;exact h.f.or k.f
  ·rw [e];exact (h.weak ha).f.or (k.weak hb).f
 ·rcases zHZ ha hb with ⟨e,e1,e2⟩|e
  ·rw [e];subst e1 e2;exact h.b.or k.b
  ·rw [e];exact (h.weak ha).b.or (k.weak hb).b
theorem zmm {L:GL} (hL:zy L=false) (kind:Int):Bis kind L L fun s t=>s=t/\0<=s/\s<L.n:=by
 obtain ⟨l1,l2,_,_⟩:=zBX hL
 have f:FolP kind L L fun s t=>s=t/\0<=s/\s<L.n:=fun s t c s' af hc=>by
  obtain ⟨rfl,h1,h2⟩:=af
  have hr:=(zE2 hL hc).2.1
  split
  ·exact ⟨s',hc,rfl,hr⟩
  ·exact ⟨s,.refl,⟨rfl,h1,h2⟩,.inr ⟨s',hc,rfl,hr⟩⟩
 refine ⟨⟨rfl,by omega,by omega⟩,fun s t ⟨e,h1,h2⟩=>by omega,f,fun s t c s' af hc=>?_⟩
 have:=f s t c s' ⟨af.1.symm,by omega,by omega⟩ hc
 split at this
 ·rename_i e;rw [if_pos e]
  obtain ⟨t',x,y,z⟩:=this
  exact ⟨t',x,y.symm,by omega,by omega⟩
 ·rename_i e;rw [if_neg e]
  obtain ⟨u,x,y,z⟩:=this
  refine ⟨u,x,⟨y.1.symm,by omega,by omega⟩,z.imp (fun z=>⟨z.1,z.2.1.symm,by omega,by omega⟩) fun ⟨t',z1,z2⟩=>⟨t',z1,z2.1.symm,by omega,by omega⟩⟩
theorem ziz {kind:Int} (hk:kind=1\/kind=2) {F:List (Int×Int)} (hn:F.length<=200000) (h0:∀ p∈F,0<=p.1/\0<=p.2) (hs:zAV F):zAd ⟨kind,F⟩=0:=by
 have:=zlu hn h0 hs
 unfold zAd at this ⊢
 rw [if_neg (by simp [zDG])] at this
 rw [if_neg (by rcases hk with rfl|rfl <;> simp [zDG])]
 exact this
theorem zPm:∀ {N M:Nat} {F:List (Int×Int)},zAV F->(∀ p∈F,(0<=p.1/\p.1<(N:Int))/\(0<=p.2/\p.2<(M:Int)))->F.length<=N*M:=by
 intro N M F hs hr
 have aZ:(F.map fun p=>p.1*(M:Int)+p.2).Nodup:=by
  rw [List.nodup_iff_pairwise_ne,List.pairwise_map]
  refine List.Pairwise.imp_of_mem (fun {p q} hp hq h=>?_) hs
  have h1:=hr p hp
  have h2:=hr q hq
  rw [zCy] at h
  intro e
  rcases h with h|⟨h,h'⟩
  ·have:(p.1+1)*(M:Int)<=q.1*(M:Int):=Int.mul_le_mul_of_nonneg_right (by omega) (by omega)
   rw [Int.add_mul] at this
   omega
  ·rw [h] at e;omega
 have:=zBK (N*M) _ aZ fun x hx=>by
  obtain ⟨p,hp,rfl⟩:=List.mem_map.1 hx
  have h1:=hr p hp
  have a:0<=p.1*(M:Int):=Int.mul_nonneg h1.1.1 (by omega)
  have b:(p.1+1)*(M:Int)<=(N:Int)*(M:Int):=Int.mul_le_mul_of_nonneg_right (by omega) (by omega)
  rw [Int.add_mul] at b
  rw [Int.natCast_mul]
  omega
 simpa using this
theorem zFp {kind:Int} (hk:kind=1\/kind=2) {L M:GL} {F:List (Int×Int)} {P:Int->Int->Prop} (hL:zy L=false) (hM:zy M=false) (hn:F.length<=200000) (hs:zAV F) (hF:∀ s t,(s,t)∈F ↔ P s t) (h:Bis kind L M P):zD4 L M ⟨kind,F⟩=0:=by
 have hr:InR L M F:=fun p hp=>h.rg p.1 p.2 ((hF _ _).1 hp)
 have e:(fun s t=>(s,t)∈F)=P:=funext fun s=>funext fun t=>propext (hF s t)
 unfold zD4
 rw [hL,hM,if_neg (by decide),ziz hk hn (fun p hp=>⟨(hr p hp).1.1,(hr p hp).2.1⟩) hs,if_neg (by decide),if_pos]
 refine (zTD hL hM hr).2 ⟨(hF 0 0).2 h.z,?_,?_⟩
 ·show FolP kind L M fun s t=>(s,t)∈F
  rw [e];exact h.f
 ·show FolP kind M L fun t s=>(t,s)∈F.map zBP
  have e2:(fun t s=>(t,s)∈F.map zBP)=fun t s=>P s t:=funext fun t=>funext fun s=>propext (by
   rw [← hF s t]
   simp only [List.mem_map]
   constructor
   ·rintro ⟨q,hq,e⟩
    obtain ⟨q1,q2⟩:=q
    simp only [zBP,Prod.mk.injEq] at e
    rw [← e.1,← e.2];exact hq
   ·exact fun h=>⟨_,h,rfl⟩)
  rw [e2];exact h.b
theorem zPA {L M:GL} {B:GB} (h:zD4 L M B=0):(B.kind=1\/B.kind=2)/\zy L=false/\zy M=false/\Bis B.kind L M fun s t=>(s,t)∈B.prs:=by
 obtain ⟨hL,hM,ic,dR⟩:=zGd h
 obtain ⟨ai,hz⟩:=zNj h
 have hr:InR L M B.prs:=ai
 obtain ⟨a,b,c⟩:=(zTD (kind:=B.kind) hL hM hr).1 dR
 refine ⟨(zhZ ic).1,hL,hM,⟨hz,fun s t af=>hr _ af,b,?_⟩⟩
 have e2:(fun t s=>(t,s)∈B.prs.map zBP)=fun t s=>(s,t)∈B.prs:=funext fun t=>funext fun s=>propext (by
  simp only [List.mem_map]
  constructor
  ·rintro ⟨q,hq,e⟩
   obtain ⟨q1,q2⟩:=q
   simp only [zBP,Prod.mk.injEq] at e
   rw [← e.1,← e.2];exact hq
  ·exact fun h=>⟨_,h,rfl⟩)
 have c':FolP B.kind M L fun t s=>(t,s)∈B.prs.map zBP:=c
 rw [e2] at c'
 exact c'
end Go.Proofs
namespace Go.Proofs
open Go Go.AM Go.Sort
set_option maxRecDepth 100000
set_option maxHeartbeats 1000000
theorem zi0 {t a u:Nat} {Rp:Value->AH->Prop} {ex:Ex} {v w:Value} {h:AH}:KR E [.cell a t,.tmp u] Rp ex [v,w] h=(zBt ex=true/\EvO (zDF E t v h) fun x=>Rp (.tuple #[x,w]) h):=by
 simp only [KR,zGj]
 cases zDF E t v h with
 | none=>simp only [zJ8]
 | some x=>simp only [zA,zdV]
def Ac (lo:Nat) (m:AH) (v:Value) (l:List (Int×Int)):Prop:=(l=[]/\v=.slice none 0 0)\/∃ b:Nat,v=sl b l.length (UNK+2)/\lo<=b/\b<m.next/\m.get b=some (.row (l.flatMap zH) 54 2 false)
theorem Ac.app {lo:Nat} {m:AH} {v:Value} {l:List (Int×Int)} (aa:m.ok) (A:Ac lo m v l) (gG:lo<=m.next) (hn:l.length+1<=1000000) (p:Int×Int) :
  ∃ m' v',zAH E .append [26,26] (some [v,.slice (some ⟨m.next,0,none⟩) 1 1]) (m.new (rO (zH p) 54))=one (v',m')/\Ac lo m' v' (l++[p])/\Fx (zAE v) m m'/\∀ c,zAE v' c->m.next<=c/\c<m'.next:=by
 have aG:=zI m (rO (zH p) 54)
 have blk:∀ {b n cp c:Nat},zAE (.slice (some ⟨b,0,none⟩) n cp) c->c=b:=fun h=>by
  obtain ⟨n,cap,e⟩:=h
  simp only [Value.slice.injEq,Option.some.injEq,Addr.mk.injEq] at e
  exact e.1.1.symm
 rcases A with ⟨rfl,rfl⟩|⟨b,rfl,h1,h2,h3⟩
 ·refine ⟨_,_,append_nil elt26 aG rfl,.inr ⟨(m.new (rO (zH p) 54)).next,rfl,?_,?_,?_⟩,((Fx.refl aa).new _).new _,fun c hc=>?_⟩
  ·show lo<=m.next+1;omega
  ·exact Nat.lt_succ_self _
  ·exact zI (m.new _) _
  ·have:=blk hc
   show m.next<=c/\c<m.next+1+1
   have e:(m.new (rO (zH p) 54)).next=m.next+1:=rfl
   omega
 ·have iZ:(m.new (rO (zH p) 54)).get b=some (.row (l.flatMap zH) 54 2 false):=by rw [zL (by omega)];exact h3
  have f1:Fx (zAE (sl b l.length (UNK+2))) m (m.new (rO (zH p) 54)):=(Fx.refl aa).new _
  refine ⟨_,_,zDX elt26 (by omega) iZ (zCF l) hn aG rfl (by simp [zH,zq]),.inr ⟨(m.new (rO (zH p) 54)).next,by simp,?_,?_,?_⟩,(f1.upd (.inl ⟨_,_,rfl⟩) none).new _,fun c hc=>?_⟩
  ·show lo<=m.next+1;omega
  ·exact Nat.lt_succ_self _
  ·rw [List.flatMap_append,List.flatMap_cons,List.flatMap_nil,List.append_nil]
   exact zI ((m.new _).upd b none) _
  ·have:=blk hc
   show m.next<=c/\c<m.next+1+1
   have e:(m.new (rO (zH p) 54)).next=m.next+1:=rfl
   omega
theorem Ac.fx {P:Nat->Prop} {lo:Nat} {m m':AH} {v:Value} {l:List (Int×Int)} (A:Ac lo m v l) (f:Fx P m m') (hP:∀ c,zAE v c->¬ P c):Ac lo m' v l:=by
 rcases A with h|⟨b,rfl,h1,h2,h3⟩
 ·exact .inl h
 ·exact .inr ⟨b,rfl,h1,Nat.lt_of_lt_of_le h2 f.next,(f.get b h2 (hP b ⟨_,_,rfl⟩)).trans h3⟩
theorem Ac.wm {lo:Nat} {m:AH} {v:Value} {l:List (Int×Int)} (A:Ac lo m v l) (w:Nat):Ac lo ⟨m.t,m.next,w⟩ v l:=by
 rcases A with h|⟨b,rfl,h1,h2,h3⟩
 ·exact .inl h
 ·exact .inr ⟨b,rfl,h1,h2,zEy h3⟩
theorem Ac.leaf {lo:Nat} {m:AH} {v:Value} {l:List (Int×Int)} (A:Ac lo m v l):zq v=true/\zl v=[v]/\∃ a c,v=.slice a l.length c:=by
 rcases A with ⟨rfl,rfl⟩|⟨b,rfl,_⟩
 ·exact ⟨rfl,rfl,_,_,rfl⟩
 ·exact ⟨rfl,rfl,_,_,rfl⟩
theorem Ac.arr {lo:Nat} {m:AH} {v:Value} {l:List (Int×Int)} (A:Ac lo m v l):Arr m 2 v (l.map zH):=by
 rcases A with ⟨rfl,rfl⟩|⟨b,rfl,_,h2,h3⟩
 ·exact .nil _ _
 ·exact zU5 (rest:=[]) h3 h2 (by simp)
theorem zpX {a:Int}:zAo E 32 (some [(0,iI a)])=some (.agg ⟨[iI a,.slice none 0 0]⟩):=by kernel_rfl
theorem zKL {m:AH} {b:Nat} {vs:List Value} {a:Int} {v:Value} (hg:m.get b=some (rO vs 32)) (hl:vs.length=2) (hv:zq v=true) :
  zf E 32 m (sP b 0) (some (.agg ⟨[iI a,v]⟩))=one (undef,m.upd b (some (rO [iI a,v] 32))):=by
 have:=z7 (P:=E) ziS (o:=0) (x:=.agg ⟨[iI a,v]⟩) (cs:=[iI a,v]) hg rfl rfl (by omega) (by simpa [zq] using hv)
 rw [this]
 match vs,hl with
 | [x,y],_=>rfl
def idl (n:Nat):List (Int×Int):=(List.range n).map fun (i:Nat)=>(((i:Nat):Int),((i:Nat):Int))
theorem zdm (n:Nat):idl (n+1)=idl n++[((n:Int),(n:Int))]:=by simp [idl,List.range_succ]
theorem zJx (n:Nat):(idl n).length=n:=by simp [idl]
theorem zUq {k:AH} {kind:Int} {n:Nat} (aa:k.ok) (h0:0<n) (hn:n<=200000) :
  Ev true ((zY E).call 106 [iI kind,iI (n:Int)] k) fun x=>∃ vs,x.1=.tuple #[.agg ⟨[iI kind,vs]⟩,iI 0]/\Ac k.next x.2 vs (idl n)/\Fx NoB k x.2:=by
 refine zc7 (Rp:=fun x m=>∃ vs,x=.tuple #[.agg ⟨[iI kind,vs]⟩,iI 0]/\Ac k.next m vs (idl n)/\Fx NoB k m) (zb9 ?_)
 obtain ⟨k1,e1,n1,t1,o1,f1⟩:=nwF k (rO [iI 0,.slice none 0 0] 32)
 simp only [zKb,zg,zK,zT,e1,zb]
 refine zb8 ?_
 simp only [zAK,zA,show decide ((200000:Int)<(n:Int))=false from decide_eq_false (by omega),zj]
 refine zb7 ?_
 obtain ⟨k2,e2,n2,t2,o2,f2⟩:=zq2 o1 (rO [iI 0,.slice none 0 0] 32) (rO [iI kind,.slice none 0 0] 32)
 have s2:=zKL (a:=kind) (v:=.slice none 0 0) (zI k1 (rO [iI 0,.slice none 0 0] 32)) rfl rfl
 rw [e2] at s2
 simp only [zpX,zKb,zg,zK,zT,zA,s2]
 refine zb6 ?_
 have x1:Fx NoB k.fresh k1:=by rw [← e1];exact (Fx.refl (zAT k)).new _
 have x2:Fx NoB k.fresh k2:=by rw [← e2];exact (x1.new _).upd (.inr (by show k.next<=k1.next;omega)) _
 have loop:∀ (m i:Nat),i+m=n->∀ h vs,Fx NoB k.fresh h->k1.next<h.next->h.get k.next=some (rO [iI 0,.slice none 0 0] 32)->h.get k1.next=some (rO [iI kind,vs] 32)->Ac k.next h vs (idl i)->(∀ c,zAE vs c->k1.next<c)->
   PI (zIA true) (KR E [.cell 4 32,.tmp 5] fun x m=>(zi x=false\/m.wm<k.next)/\(fun x m=>∃ vs,x=.tuple #[.agg ⟨[iI kind,vs]⟩,iI 0]/\Ac k.next m vs (idl n)/\Fx NoB k m) x ⟨m.t,m.next,cond (Nat.ble k.wm m.wm) k.wm m.wm⟩) 5 [ptr k.next,ptr k1.next,iI (n:Int),iI (i:Int)] h:=by
  intro m
  induction m with
  | zero=>
   intro i hi h vs hf hl g4 g6 A hb
   have hi:i=n:=by omega
   subst hi
   refine zMa ?_
   simp only [zZ,zA,show decide ((i:Int)<(i:Int))=false from decide_eq_false (by omega),zj]
   refine zb2 ?_
   have l6:zG E 32 h (sP k1.next 0)=some (.agg ⟨[iI kind,vs]⟩):=zV (P:=E) zB0 (o:=0) g6 (by simp)
   have st:=zKL (a:=kind) (v:=vs) g4 rfl A.leaf.1
   have dM:k.next<k1.next:=by omega
   have fu:Fx (fun c=>c=k.next) h (h.upd k.next (some (rO [iI kind,vs] 32))):=(Fx.refl (P:=fun c=>c=k.next) hf.ok).upd (.inl rfl) _
   have fo:Fx NoB k.fresh (h.upd k.next (some (rO [iI kind,vs] 32))):=hf.upd (.inr (Nat.le_refl _)) _
   have ge:=zO h k.next (some (rO [iI kind,vs] 32))
   have A':=A.fx fu fun c hc e=>by have:=hb c hc;have:c=k.next:=e;omega
   have ah:vs≠.slice none 0 0:=fun e=>by
    rcases A with ⟨e',_⟩|⟨b,e',_⟩
    ·have:=congrArg List.length e';rw [zJx] at this;simp at this;omega
    ·rw [e] at e';cases e'
   simp only [l6,st,zA,zK]
   generalize h.upd k.next (some (rO [iI kind,vs] 32))=hh at fo ge A'
   rw [zi0]
   have la:zDF E 32 (ptr k.next) hh=some (.agg ⟨[iI kind,vs]⟩):=zV (P:=E) zB0 (o:=0) ge (by simp)
   rw [la,zA]
   have i7:zi (.tuple #[.agg ⟨[iI kind,vs]⟩,iI 0])=false:=by
    rcases A with ⟨_,e'⟩|⟨b,e',_⟩
    ·exact absurd e' ah
    ·rw [e'];rfl
   exact ⟨zX ▸ trivial,.inl i7,vs,rfl,A'.wm _,fo.back⟩
  | succ m ih=>
   intro i hi h vs hf hl g4 g6 A hb
   refine zMa ?_
   simp only [zZ,zA,show decide ((i:Int)<(n:Int))=true from decide_eq_true (by omega),zz]
   refine zb5 (zb4 ?_)
   have l6:zG E 26 h (sP k1.next (0+1))=some vs:=zF (P:=E) zFw (o:=0+1) g6
   have dz:k.next<=h.next:=hf.next
   obtain ⟨h1,v',q1,A1,fx1,bp⟩:=A.app hf.ok dz (by rw [zJx];omega) ((i:Int),(i:Int))
   simp only [zCU,l6,pbI,zUz,zA,zK,q1]
   have fo1:Fx NoB k.fresh h1:=hf.trans fx1 fun c hc=>.inr (by have:=hb c hc;show k.next<=c;omega)
   have g6':h1.get k1.next=some (rO [iI kind,vs] 32):=(fx1.get _ hl fun hc=>by have:=hb _ hc;omega).trans g6
   have g4':h1.get k.next=some (rO [iI 0,.slice none 0 0] 32):=(fx1.get _ (by omega) fun hc=>by have:=hb _ hc;omega).trans g4
   have st:=z7 (P:=E) zpK (o:=0+1) (x:=v') g6' A1.leaf.2.1 rfl (by simp) (by simp [A1.leaf.1])
   rw [show lput [iI kind,vs] (0+1) [v']=[iI kind,v'] from rfl] at st
   obtain ⟨h2,e2',n2',t2',g2',fu⟩:∃ mm,h1.upd k1.next (some (rO [iI kind,v'] 32))=mm/\mm.next=h1.next/\mm.get k1.next=some (rO [iI kind,v'] 32)/\(∀ c,c≠k1.next->mm.get c=h1.get c)/\Fx (fun c=>c=k1.next) h1 mm:=
    ⟨_,rfl,rfl,zO _ _ _,fun c hc=>zW hc,(Fx.refl (P:=fun c=>c=k1.next) fo1.ok).upd (.inl rfl) _⟩
   rw [e2'] at st
   simp only [st,zK]
   refine zb3 ?_
   simp only [zA,zAD _ (zEA (show i<n by omega) (by omega))]
   have gz:=fx1.next
   refine ih (i+1) (by omega) h2 v' (fo1.trans fu fun c hc=>.inr (by have:c=k1.next:=hc;show k.next<=c;omega)) (by omega) ((g2' _ (by omega)).trans g4') t2' ?_ fun c hc=>by have:=bp c hc;omega
   rw [zdm]
   exact A1.fx fu fun c hc e=>by have:=bp c hc;have:c=k1.next:=e;omega
 exact loop n 0 (by omega) k2 (.slice none 0 0) x2 (by omega) ((f2 _ (by omega)).trans t1) t2 (.inl ⟨(rfl:idl 0=[]),rfl⟩) fun c hc=>by obtain ⟨a,b,e⟩:=hc;cases e
end Go.Proofs
