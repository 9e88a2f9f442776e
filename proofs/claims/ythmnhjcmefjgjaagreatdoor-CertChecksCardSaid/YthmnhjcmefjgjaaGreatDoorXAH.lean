import Derived.ChangeArms
import Derived.DataReads
import Derived.Lib.ItoaNum
import Derived.Laws.StructEq
import Derived.Sort.LotA
import Derived.Test.YthmnhjcmefjgjaaGreatDoorXAG
import Derived.Test.YthmnhjcmefjgjaaGreatDoorXAE
import Derived.Test.YthmnhjcmefjgjaaGreatDoorXAD
import Derived.Test.YthmnhjcmefjgjaaGreatDoorXAF
set_option linter.all false
set_option linter.unusedSectionVars false
set_option autoImplicit true
set_option relaxedAutoImplicit true
set_option maxRecDepth 100000
set_option maxHeartbeats 1000000
namespace Go.Proofs
open Go Go.AM
def zqa(t:TypeId)(a b:Int):zAJ E .sub t (iI a) (iI b)=some (iI (zCv .i64 (a-b))):=rfl
abbrev KB(k:AH)(rs:List ResultVar)(Rp:Value->Prop):KF:=KR E rs (λ x m=>(zm x=true/\Rp x)/\k.qa<=m.wm)
def BoolIff(Q:Prop)(x:Value):Prop:=∃ b:Bool,x=.bool b/\(b=true ↔ Q)
def BoolIff.no{Q:Prop}(h:¬ Q):BoolIff Q (.bool false):=⟨false,rfl,(λ h=>by cases h),λ q=>absurd q h⟩
def BoolIff.yes{Q:Prop}(h:Q):BoolIff Q (.bool true):=⟨true,rfl,λ _=>h,λ _=>rfl⟩
def ztv(f:FuncId)(h0:AH)(kk nn:Int)(v:Value)(Q:Prop):Prop:=∀ k,Ext h0 k->∃ b:Bool,(Q->b=true)/\(zc E).call f [.agg #[iI kk,iI nn,v]] k=some [(.bool b,k)]
def zVa(Q:Prop)(x:Value):Prop:=∃ b:Bool,x=.bool b/\(Q->b=true)
def ztx(f:FuncId)(h0:AH)(kk nn:Int)(v:Value)(Q:Prop):Prop:=∀ k,Ext h0 k->∃ b:Bool,(b=true ↔ Q)/\(zc E).call f [.agg #[iI kk,iI nn,v]] k=some [(.bool b,k)]
mutual
def zWH{h0:AH}:∀ {v:Value} {l:List GT},RT h0 v l->∀(kk nn:Int),ztx 230 h0 kk nn v (okT (.mk kk nn l)=true)
 | v,l,.mk (els:=els) ha hn hc,kk,nn=>by
  intro k hk;have bS:RT h0 v l:=.mk ha hn hc;have fH:=zQs hc;have hlen:=RC.length hc;obtain⟨sa,sc,rfl⟩:=bS.slice;have key:∃ x,BoolIff (okT (.mk kk nn l)=true) x/\(zc E).call 230 [.agg #[iI kk,iI nn,.slice sa l.length sc]] k=some [(x,k)]:=by
   refine zVG hk.ok (zbo ?_);obtain⟨k1,e1,n1,t1,o1,f1⟩:=nwF k (rO [iI kk,iI nn,.slice sa l.length sc] 173);simp only[zU,zF,zK,zA,e1,zR];have l0:=zB (P:=E) zAE (o:=0) t1;have l1:=zB (P:=E) zAE (o:=1) t1;have l2:=zB (P:=E) zD0 (o:=2) t1;simp only[lnth] at l0 l1 l2;have ex:=hk.trans o1.ext;have no:¬ okT (.mk kk nn l)=true->zuU true (KB k [.tmp 2] (BoolIff (okT (.mk kk nn l)=true))) k1:=λ h=>zbm (by simp only[zA,zAC,zO,xDJ];exact⟨⟨rfl,.no h⟩,o1.wm⟩);have no':¬ okT (.mk kk nn l)=true->zuR true (KB k [.tmp 2] (BoolIff (okT (.mk kk nn l)=true))) k1:=λ h=>zbi (by simp only[zA,zAC,zO,xDJ];exact⟨⟨rfl,.no h⟩,o1.wm⟩);have yes':okT (.mk kk nn l)=true->zuQ true (KB k [.tmp 2] (BoolIff (okT (.mk kk nn l)=true))) k1:=λ h=>zbg (by simp only[zA,zAC,zO,xDJ];exact⟨⟨rfl,.yes h⟩,o1.wm⟩);have loop:(kk=2/\¬ nn<0/\¬ 255<nn/\¬ (8:Int)<(l.length:Int))->∀(m i:Nat),i+m=l.length->(∀(j:Nat) (t:GT),j<i->l[j]?=some t->okT t=true)->zuS true (KB k [.tmp 2] (BoolIff (okT (.mk kk nn l)=true))) (.pointer (some ⟨k.qa,0,none⟩)) (iI (i:Int)) k1:=by
    intro bu m
    induction m with
    | zero=>
     intro i hi hp;refine zNv ?_;simp only[zAf,xAK,l2,zA,zKH,zP,show decide ((i:Int)<(l.length:Int))=false from xAI (by omega),zZ];refine yes' ?_;simp only[okT,xAP,xBl];exact⟨⟨⟨⟨bu.1,by omega⟩,by omega⟩,by omega⟩,okL_iff.2 λ j t hj=>hp j t (by have:=(xAc.1 hj).1;omega) hj⟩
    | succ m ih=>
     intro i hi hp;refine zNv ?_;simp only[zAf,xAK,l2,zA,zKH,zP,show decide ((i:Int)<(l.length:Int))=true from xAJ (by omega),ze];refine zbk ?_;obtain⟨x,hx⟩:∃ x,els[i]?=some x:=⟨_,xAA (by omega)⟩;obtain⟨p1,q1,w1⟩:=zM5 ha ex hx;obtain⟨ck,cn,cv,cl,rfl,an,hs⟩:=fH i x hx;obtain⟨b,bF,hb⟩:=hs k1 ex;simp only[zAf,xAK,l2,zA,q1,w1,zM,hb,zJ];refine zbj ?_;simp only[zA,zq];cases b with
     | false=>simp only[xAM,ze];exact no' (λ h=>by simp only[okT,xAP,xBl] at h;exact xBd (bF.2 (okL_iff.1 h.2 i _ an)))
     | true=>
      simp only[xAL,zZ];refine zbh ?_;simp only[zA,zk _ (zCS (show i<l.length by omega) (by omega))];refine ih (i+1) (by omega) λ j t hj ht=>?_;rcases xAi.1 hj with h|h
      ·exact hp j t h ht
      ·subst h;rw[an] at ht;cases ht;exact bF.1 rfl
   have yes:(kk=2/\¬ nn<0/\¬ 255<nn/\¬ (8:Int)<(l.length:Int))->zuT true (KB k [.tmp 2] (BoolIff (okT (.mk kk nn l)=true))) (.pointer (some ⟨k.qa,0,none⟩)) k1:=λ h=>zbl (by exact loop h l.length 0 (by omega) λ j t hj=>by omega);refine zbn ?_;cases h1:decide (kk=2) <;> cases h2:decide (nn<0) <;> cases h3:decide (255<nn) <;> cases h4:decide ((8:Int)<(l.length:Int)) <;>
    simp only[zGY,zGX,zAf,xAK,xCu,l0,l1,l2,zA,zPZ,zAS,zP,zAK,h1,h2,h3,h4,xDG,xCz,xAL,xAM,zI,xAO,show (true==false)=false from rfl,show (false==true)=false from rfl,xAG,xAH,zE,ze,zZ] <;> first|exact no (λ h=>by simp only[okT,xAP,xBl] at h;simp only[xBl,xAk] at h1 h2 h3 h4;omega)|exact yes ⟨xBm h1,xBe h2,xBe h3,xBe h4⟩
  obtain⟨x,⟨b,rfl,bF⟩,hx⟩:=key;exact⟨b,bF,hx⟩
def zQs{h0:AH}:∀ {els:List (List Value)} {ts:List GT},RC h0 els ts->∀(i:Nat) (e:List Value),els[i]?=some e->
  ∃(k n:Int) (v:Value) (l:List GT),e=[iI k,iI n,v]/\ts[i]?=some (.mk k n l)/\ztx 230 h0 k n v (okT (.mk k n l)=true)
 | _,_,.nil,i,e,h=>by simp at h
 | _,_,.cons hv hs,0,e,h=>by simp at h;exact⟨_,_,_,_,h.symm,rfl,zWH hv _ _⟩
 | _,_,.cons hv hs,i+1,e,h=>by
  simp only[xAj] at h;obtain⟨k,n,v,l,a,b,c⟩:=zQs hs i e h;exact⟨k,n,v,l,a,by simpa using b,c⟩
end
mutual
def zWE{h0:AH}:∀ {v:Value} {l:List GT},RT h0 v l->∀(kk nn:Int),ztv 281 h0 kk nn v (okT (.mk kk nn l)=true)
 | v,l,.mk (els:=els) ha hn hc,kk,nn=>by
  intro k hk;have bS:RT h0 v l:=.mk ha hn hc;have fH:=zQp hc;have hlen:=RC.length hc;obtain⟨sa,sc,rfl⟩:=bS.slice;have key:∃ x,zVa (okT (.mk kk nn l)=true) x/\(zc E).call 281 [.agg #[iI kk,iI nn,.slice sa l.length sc]] k=some [(x,k)]:=by
   refine zVA hk.ok (zag ?_);obtain⟨k1,e1,n1,t1,o1,f1⟩:=nwF k (rO [iI kk,iI nn,.slice sa l.length sc] 173);simp only[zU,zF,zK,zA,e1,zR];have l0:=zB (P:=E) zAE (o:=0) t1;have l1:=zB (P:=E) zAE (o:=1) t1;have l2:=zB (P:=E) zD0 (o:=2) t1;simp only[lnth] at l0 l1 l2;have ex:=hk.trans o1.ext;have no:¬ okT (.mk kk nn l)=true->zuH true (KB k [.tmp 2] (zVa (okT (.mk kk nn l)=true))) k1:=λ h=>zae (by simp only[zA,zAC,zO,xDJ];exact⟨⟨rfl,_,rfl,λ q=>absurd q h⟩,o1.wm⟩);have no':¬ okT (.mk kk nn l)=true->zuE true (KB k [.tmp 2] (zVa (okT (.mk kk nn l)=true))) k1:=λ h=>zab (by simp only[zA,zAC,zO,xDJ];exact⟨⟨rfl,_,rfl,λ q=>absurd q h⟩,o1.wm⟩);have yes':zuD true (KB k [.tmp 2] (zVa (okT (.mk kk nn l)=true))) k1:=zaZ (by simp only[zA,zAC,zO,xDJ];exact⟨⟨rfl,_,rfl,λ _=>rfl⟩,o1.wm⟩);have loop:∀(m i:Nat),i+m=l.length->zuF true (KB k [.tmp 2] (zVa (okT (.mk kk nn l)=true))) (.pointer (some ⟨k.qa,0,none⟩)) (iI (i:Int)) k1:=by
    intro m
    induction m with
    | zero=>
     intro i hi;refine zNr ?_;simp only[zAf,xAK,l2,zA,zKE,zP,show decide ((i:Int)<(l.length:Int))=false from xAI (by omega),zZ];exact yes'
    | succ m ih=>
     intro i hi;refine zNr ?_;simp only[zAf,xAK,l2,zA,zKE,zP,show decide ((i:Int)<(l.length:Int))=true from xAJ (by omega),ze];refine zac ?_;obtain⟨x,hx⟩:∃ x,els[i]?=some x:=⟨_,xAA (by omega)⟩;obtain⟨p1,q1,w1⟩:=zM5 ha ex hx;obtain⟨ck,cn,cv,cl,rfl,an,hs⟩:=fH i x hx;obtain⟨b,bF,hb⟩:=hs k1 ex;simp only[zAf,xAK,l2,zA,q1,w1,zM,hb,zJ,zq];cases b with
     | false=>simp only[xAM,ze];exact no' (λ h=>by simp only[okT,xAP,xBl] at h;exact xBd (bF (okL_iff.1 h.2 i _ an)))
     | true=>
      simp only[xAL,zZ];refine zaa ?_;simp only[zA,zk _ (zCS (show i<l.length by omega) (by omega))];exact ih (i+1) (by omega)
   have yes:zuG true (KB k [.tmp 2] (zVa (okT (.mk kk nn l)=true))) (.pointer (some ⟨k.qa,0,none⟩)) k1:=zad (by exact loop l.length 0 (by omega));refine zaf ?_;cases h1:decide (nn<0) <;> cases h2:decide (kk=1) <;> cases h3:decide (kk=2) <;> cases h4:decide ((0:Int)<(l.length:Int)) <;> cases h5:decide ((8:Int)<(l.length:Int)) <;>
    simp only[zGY,zGX,zAf,xAK,xCu,l0,l1,l2,zA,zPW,zPV,zAS,zAD,zP,zAK,h1,h2,h3,h4,h5,xDG,xCz,xAL,xAM,zI,zt,xAO,show (true==false)=false from rfl,show (false==true)=false from rfl,xAG,xAH,zE,ze,zZ] <;> first|exact yes|exact no (λ h=>by simp only[okT,xAP,xBl] at h;simp only[xBl,xAk] at h1 h2 h3 h4 h5;omega)
  obtain⟨x,⟨b,rfl,bF⟩,hx⟩:=key;exact⟨b,bF,hx⟩
def zQp{h0:AH}:∀ {els:List (List Value)} {ts:List GT},RC h0 els ts->∀(i:Nat) (e:List Value),els[i]?=some e->
  ∃(k n:Int) (v:Value) (l:List GT),e=[iI k,iI n,v]/\ts[i]?=some (.mk k n l)/\ztv 281 h0 k n v (okT (.mk k n l)=true)
 | _,_,.nil,i,e,h=>by simp at h
 | _,_,.cons hv hs,0,e,h=>by simp at h;exact⟨_,_,_,_,h.symm,rfl,zWE hv _ _⟩
 | _,_,.cons hv hs,i+1,e,h=>by
  simp only[xAj] at h;obtain⟨k,n,v,l,a,b,c⟩:=zQp hs i e h;exact⟨k,n,v,l,a,by simpa using b,c⟩
end
mutual
def szT:GT->Int
 | .mk _ _ l=>1+szL l
def szL:List GT->Int
 | []=>0
 | t::ts=>szT t+szL ts
end
mutual
def dpT:GT->Int->Bool
 | .mk _ _ l,d=>decide (d<=200)&&dpL l (d+1)
def dpL:List GT->Int->Bool
 | [],_=>true
 | t::ts,d=>dpT t d&&dpL ts d
end
mutual
def zLM:∀ t:GT,1<=szT t
 | .mk _ _ l=>by have:=zFh l;simp only[szT];omega
def zFh:∀ l:List GT,0<=szL l
 | []=>Int.le_refl _
 | t::ts=>by have:=zLM t;have:=zFh ts;simp only[szL];omega
end
def zmu:∀(l:List GT) (i:Nat) (t:GT),l[i]?=some t->szL (l.take i)+szT t<=szL l
 | t::l,0,u,h=>by simp at h;subst h;have:=zFh l;simp[szL];omega
 | t::l,i+1,u,h=>by
  simp only[xAj] at h;have:=zmu l i u h;simp only[xBP,szL];omega
def zV8:∀ l m:List GT,szL (l++m)=szL l+szL m
 | [],m=>by simp[szL]
 | t::l,m=>by simp only[xCL,szL,zV8 l m];omega
def dpL_iff:∀ {l:List GT} {d:Int},dpL l d=true ↔ ∀(i:Nat) (t:GT),l[i]?=some t->dpT t d=true
 | [],_=>by simp[dpL]
 | t::ts,d=>by
  simp only[dpL,xAP,dpL_iff (l:=ts)];constructor
  ·rintro⟨a,b⟩ i u hu;cases i with
   | zero=>simp at hu;rw[← hu];exact a
   | succ i=>exact b i u (by simpa using hu)
  ·intro h;exact⟨h 0 t rfl,λ i u hu=>h (i+1) u (by simpa using hu)⟩
def CntP(t:GT)(a d n:Int)(b:Bool):Prop:=(b=true->0<=a->a<=2000->0<=d->n=a-szT t/\0<=n/\dpT t d=true)/\(0<=a->a<=2000->0<=d->szT t<=a->dpT t d=true->b=true)
def CntP.no{t:GT}{a d n:Int}(h:0<=a->a<=2000->0<=d->szT t<=a->¬ dpT t d=true):CntP t a d n false:=⟨(λ h=>by cases h),λ h1 h2 h3 h4 h5=>absurd h5 (h h1 h2 h3 h4)⟩
def zK9(t:GT)(a d:Int)(x:Value):Prop:=∃(n:Int) (b:Bool),x=.tuple #[iI n,.bool b]/\CntP t a d n b
def ztw(h0:AH)(kk nn:Int)(v:Value)(l:List GT):Prop:=∀ k (a d:Int),Ext h0 k->∃(n:Int) (b:Bool),CntP (.mk kk nn l) a d n b/\(zc E).call 280 [.agg #[iI kk,iI nn,v],iI a,iI d] k=some [(.tuple #[iI n,.bool b],k)]
mutual
def zWF{h0:AH}:∀ {v:Value} {l:List GT},RT h0 v l->∀(kk nn:Int),ztw h0 kk nn v l
 | v,l,.mk (els:=els) ha hn hc,kk,nn=>by
  intro k a d hk;have bS:RT h0 v l:=.mk ha hn hc;have fH:=zQq hc;have hlen:=RC.length hc;obtain⟨sa,sc,rfl⟩:=bS.slice;have key:∃ x,zK9 (.mk kk nn l) a d x/\(zc E).call 280 [.agg #[iI kk,iI nn,.slice sa l.length sc],iI a,iI d] k=some [(x,k)]:=by
   refine zVB hk.ok (zap ?_);obtain⟨k1,e1,n1,t1,o1,f1⟩:=nwF k (rO [iI kk,iI nn,.slice sa l.length sc] 173);simp only[zU,zF,zK,zA,e1,zR];have l2:=zB (P:=E) zD0 (o:=2) t1;simp only[lnth] at l2;have ex:=hk.trans o1.ext;have no:∀ n,(0<=a->a<=2000->0<=d->szT (.mk kk nn l)<=a->¬ dpT (.mk kk nn l) d=true)->zuL true (KB k [.tmp 4,.tmp 5] (zK9 (.mk kk nn l) a d)) (iI n) k1:=λ n h=>zam (by simp only[zA,zo1,zO,xDJ];exact⟨⟨rfl,_,_,rfl,.no h⟩,o1.wm⟩);have no':∀ n,(0<=a->a<=2000->0<=d->szT (.mk kk nn l)<=a->¬ dpT (.mk kk nn l) d=true)->zuI true (KB k [.tmp 4,.tmp 5] (zK9 (.mk kk nn l) a d)) (iI n) k1:=λ n h=>zah (by simp only[zA,zo1,zO,xDJ];exact⟨⟨rfl,_,_,rfl,.no h⟩,o1.wm⟩);have yes':∀ n,CntP (.mk kk nn l) a d n true->zqm true (KB k [.tmp 4,.tmp 5] (zK9 (.mk kk nn l) a d)) (iI n) k1:=λ n hn=>zT2 (by simp only[zA,zo1,zO,xDJ];exact⟨⟨rfl,_,_,rfl,hn⟩,o1.wm⟩);have loop:¬ 200<d->∀(m i:Nat),i+m=l.length->∀ n:Int,(0<=a->a<=2000->0<=d->n=a-1-szL (l.take i)/\0<=n/\∀(j:Nat) (t:GT),j<i->l[j]?=some t->dpT t (d+1)=true)->zuJ true (KB k [.tmp 4,.tmp 5] (zK9 (.mk kk nn l) a d)) (iI n) (iI d) (.pointer (some ⟨k.qa,0,none⟩)) (iI (i:Int)) k1:=by
    intro hd m
    induction m with
    | zero=>
     intro i hi n hp;refine zNs ?_;simp only[zAf,xAK,l2,zA,zKF,zP,show decide ((i:Int)<(l.length:Int))=false from xAI (by omega),zZ];refine yes' n ⟨λ _ h1 h2 h3=>?_,λ _ _ _ _ _=>rfl⟩;obtain⟨p1,p2,p3⟩:=hp h1 h2 h3;rw[xAD (by omega)] at p1;refine⟨by simp only[szT];omega,p2,?_⟩;simp only[dpT,xAP,xBl];exact⟨by omega,dpL_iff.2 λ j t hj=>p3 j t (by have:=(xAc.1 hj).1;omega) hj⟩
    | succ m ih=>
     intro i hi n hp;refine zNs ?_;simp only[zAf,xAK,l2,zA,zKF,zP,show decide ((i:Int)<(l.length:Int))=true from xAJ (by omega),ze];refine zak ?_;obtain⟨x,hx⟩:∃ x,els[i]?=some x:=⟨_,xAA (by omega)⟩;obtain⟨p1,q1,w1⟩:=zM5 ha ex hx;obtain⟨ck,cn,cv,cl,rfl,an,hs⟩:=fH i x hx;obtain⟨n2,b,bF,hb⟩:=hs k1 n (zCv .i64 (d+1)) ex;simp only[zAf,xAK,l2,zA,q1,w1,zQQ,zM,hb,zJ,z6,lnth];refine zaj ?_;refine zai ?_;simp only[zA,zq];cases b with
     | false=>
      simp only[xAM,ze];refine no' n2 λ h1 h2 h3 h4 h5=>?_;obtain⟨p1,p2,p3⟩:=hp h1 h2 h3;simp only[dpT,xAP,xBl] at h5;have hz:=zmu l i _ an;simp only[szT] at h4;rw[zCu (show zC2 (d+1) by unfold zC2;omega)] at bF;have:=bF.2 p2 (by have:=zFh (l.take i);omega) (by omega) (by omega) (dpL_iff.1 h5.2 i _ an);exact xBd this
     | true=>
      simp only[xAL,zZ];refine zT3 ?_;simp only[zA,zk _ (zCS (show i<l.length by omega) (by omega))];refine ih (i+1) (by omega) n2 λ h1 h2 h3=>?_;obtain⟨p1,p2,p3⟩:=hp h1 h2 h3;have hz:=zFh (l.take i);rw[zCu (show zC2 (d+1) by unfold zC2;omega)] at bF;obtain⟨q1,q2,q3⟩:=bF.1 rfl p2 (by omega) (by omega);refine⟨?_,q2,λ j t hj ht=>?_⟩
      ·rw[List.take_succ,an,zV8];simp only[Option.toList,szL];omega
      ·rcases xAi.1 hj with h|h
       ·exact p3 j t h ht
       ·subst h;rw[an] at ht;cases ht;exact q3
   refine zao ?_;simp only[zA,zqa];refine zan ?_;have yes:¬ zCv .i64 (a-1)<0->¬ 200<d->zuK true (KB k [.tmp 4,.tmp 5] (zK9 (.mk kk nn l) a d)) (iI (zCv .i64 (a-1))) (iI d) (.pointer (some ⟨k.qa,0,none⟩)) k1:=λ h1 h2=>zal (by exact loop h2 l.length 0 (by omega) _ λ h3 h4 h5=>by rw[zCu (show zC2 (a-1) by unfold zC2;omega)] at h1 ⊢;exact⟨by simp[szL],by omega,λ j t hj=>by omega⟩);by_cases h1:zCv .i64 (a-1)<0 <;> by_cases h2:200<d <;>
    simp only[zA,zP,zAK,h1,h2,xDG,xCz,zI,xAO,show (true==false)=false from rfl,show (false==true)=false from rfl,xAG,xAH,zE,ze,zZ] <;> first|exact yes h1 h2|exact no _ (λ h3 h4 h5 h6 h7=>by have:=zLM (.mk kk nn l);simp only[dpT,xAP,xBl] at h7;rw[zCu (show zC2 (a-1) by unfold zC2;omega)] at h1;omega)
  obtain⟨x,⟨n,b,rfl,bF⟩,hx⟩:=key;exact⟨n,b,bF,hx⟩
def zQq{h0:AH}:∀ {els:List (List Value)} {ts:List GT},RC h0 els ts->∀(i:Nat) (e:List Value),els[i]?=some e->
  ∃(k n:Int) (v:Value) (l:List GT),e=[iI k,iI n,v]/\ts[i]?=some (.mk k n l)/\ztw h0 k n v l
 | _,_,.nil,i,e,h=>by simp at h
 | _,_,.cons hv hs,0,e,h=>by simp at h;exact⟨_,_,_,_,h.symm,rfl,zWF hv _ _⟩
 | _,_,.cons hv hs,i+1,e,h=>by
  simp only[xAj] at h;obtain⟨k,n,v,l,a,b,c⟩:=zQq hs i e h;exact⟨k,n,v,l,a,by simpa using b,c⟩
end
def zpr{h0 k:AH}{v:Value}{l:List GT}(hr:RT h0 v l)(hk:Ext h0 k)(kk nn:Int):∃ x,(∃ b:Bool,x=.bool b/\(b=true->szT (.mk kk nn l)<=2000/\dpT (.mk kk nn l) 1=true)/\(szT (.mk kk nn l)<=2000->dpT (.mk kk nn l) 1=true->okT (.mk kk nn l)=true->b=true))/\(zc E).call 264 [.agg ⟨[iI kk,iI nn,v]⟩] k=some [(x,k)]:=by
 refine zVC hk.ok (za3 ?_);obtain⟨k1,e1,n1,t1,o1,f1⟩:=nwF k (rO [iI kk,iI nn,v] 173);simp only[zU,zF,zK,zA,e1,zR];have a1:=zN (P:=E) zCl (o:=0) t1 (by simp);simp only[xCe,List.take] at a1;have ex:=hk.trans o1.ext;obtain⟨n,b,bF,hb⟩:=zWF hr kk nn k1 2000 1 ex;obtain⟨c,hct,hc⟩:=zWE hr kk nn k1 ex;refine za2 ?_;simp only[a1,zA,zM,hb,zJ,z6,lnth];refine za1 ?_;cases b with
 | true=>simp only[a1,zA,zI,zS,xAO,xAG,zM,hc,zJ,zE,zAC,zO,xDJ];exact⟨⟨rfl,_,rfl,λ _=>by have:=bF.1 rfl (by omega) (by omega) (by omega);exact⟨by omega,this.2.2⟩,λ _ _ h=>hct h⟩,o1.wm⟩
 | false=>simp only[a1,zA,zI,zS,show (false==true)=false from rfl,xAH,zF,zE,zAC,zO,xDJ];exact⟨⟨rfl,_,rfl,(λ h=>by cases h),λ h1 h2 _=>bF.2 (by omega) (by omega) (by omega) h1 h2⟩,o1.wm⟩
def zpv{h0 k:AH}{v:Value}{l:List GT}(hr:RT h0 v l)(hk:Ext h0 k)(kk nn:Int):∃ x,(∃ n:Int,x=iI n/\(n=0->szT (.mk kk nn l)<=2000/\dpT (.mk kk nn l) 1=true)/\(szT (.mk kk nn l)<=2000->dpT (.mk kk nn l) 1=true->okT (.mk kk nn l)=true->n=0))/\(zc E).call 231 [.agg ⟨[iI kk,iI nn,v]⟩] k=some [(x,k)]:=by
 refine zVF hk.ok (zbf ?_);obtain⟨k1,e1,n1,t1,o1,f1⟩:=nwF k (rO [iI kk,iI nn,v] 173);simp only[zU,zF,zK,zA,e1,zR];have a1:=zN (P:=E) zCl (o:=0) t1 (by simp);simp only[xCe,List.take] at a1;obtain⟨x,⟨b,rfl,bF,gO⟩,hb⟩:=zpr hr (hk.trans o1.ext) kk nn;refine zbe ?_;simp only[a1,zA,zM,hb,zJ,zq];cases b with
 | true=>simp only[xAL,zZ];refine zbc ?_;simp only[zA,zAC,zO,xDJ];exact⟨⟨rfl,_,rfl,λ _=>bF rfl,λ _ _ _=>rfl⟩,o1.wm⟩
 | false=>simp only[xAM,ze];refine zbd ?_;simp only[zA,zAC,zO,xDJ];exact⟨⟨rfl,_,rfl,(λ h=>by omega),λ h1 h2 h3=>absurd (gO h1 h2 h3) (by simp)⟩,o1.wm⟩
mutual
def zRh:∀(t:GT) (d:Int) (s:Int×Int),dpT t d=true->0<=d->0<=s.1->s.1+szT t<=2000->s.2<=200->(zP9 t d s).1=s.1+szT t/\(zP9 t d s).2<=200
 | .mk k n l,d,s,h1,h2,h3,h4,h5=>by
  simp only[dpT,xAP,xBl] at h1;have hz:=zFh l;simp only[szT] at h4 ⊢;simp only[zP9];rw[zCu (show zC2 (s.1+1) by unfold zC2;omega)];have:=zRi l d (s.1+1,if d > s.2 then d else s.2) h1.2 h1.1 h2 (by simp only;omega) (by simp only;omega) (by simp only;split <;> omega);simp only at this;exact⟨by omega,this.2⟩
def zRi:∀(l:List GT) (d:Int) (s:Int×Int),dpL l (d+1)=true->d<=200->0<=d->0<=s.1->s.1+szL l<=2000->s.2<=200->(zLv l d s).1=s.1+szL l/\(zLv l d s).2<=200
 | [],d,s,_,_,_,_,_,h=>by simp[zLv,szL,h]
 | t::ts,d,s,h1,h2,h3,h4,h5,h6=>by
  simp only[dpL,xAP] at h1;have hz:=zFh ts;have kb:=zLM t;simp only[szL] at h5 ⊢;simp only[zLv];rw[xDN (by omega),zCu (show zC2 (d+1) by unfold zC2;omega)];obtain⟨a,b⟩:=zRh t (d+1) s h1.1 (by omega) h4 (by omega) h6;obtain⟨a',b'⟩:=zRi ts d (zP9 t (d+1) s) h1.2 h2 h3 (by omega) (by omega) b;exact⟨by omega,b'⟩
end
def zoD{t:GT}(h1:szT t<=2000)(h2:dpT t 1=true)(h3:okT t=true):zEq t=true:=by
 obtain⟨a,b⟩:=zRh t 1 (0,0) h2 (by omega) (by simp) (by simpa using h1) (by simp);simp only[xDA] at a;unfold zEq zPD;rw[h3,xDN (by omega)];simp only[Bool.and_true,xBl];omega
def zQA{l:List GT}{d:Int}{s:Int×Int}(h1:(zLv l d s).1<=2000)(h2:(zLv l d s).2<=200):s.1<=2000/\s.2<=200:=by
 cases l with
 | nil=>exact⟨h1,h2⟩
 | cons t ts=>
  simp only[zLv] at h1 h2;split at h1
  ·rw[xDO (by assumption)] at h2;exact⟨h1,h2⟩
  ·omega
mutual
def zNO:∀(t:GT) (d:Int) (s:Int×Int),0<=d->0<=s.1->s.1<=2000->(zP9 t d s).1<=2000->(zP9 t d s).2<=200->dpT t d=true/\(zP9 t d s).1=s.1+szT t
 | .mk k n l,d,s,h1,h2,h3,h4,h5=>by
  simp only[zP9] at h4 h5 ⊢;rw[zCu (show zC2 (s.1+1) by unfold zC2;omega)] at h4 h5 ⊢;obtain⟨_,b⟩:=zQA h4 h5;simp only at b;have hd:d<=200:=by split at b <;> omega
  obtain⟨c,e⟩:=zNP l d (s.1+1,if d > s.2 then d else s.2) h1 hd (by simp only;omega) h4 h5;simp only at e;simp only[dpT,szT,xAP,xBl];exact⟨⟨hd,c⟩,by omega⟩
def zNP:∀(l:List GT) (d:Int) (s:Int×Int),0<=d->d<=200->0<=s.1->(zLv l d s).1<=2000->(zLv l d s).2<=200->dpL l (d+1)=true/\(zLv l d s).1=s.1+szL l
 | [],d,s,_,_,_,h4,h5=>by simp[zLv,szL,dpL]
 | t::ts,d,s,h1,h0,h2,h4,h5=>by
  have ai:=zQA h4 h5;simp only[zLv] at h4 h5 ⊢;rw[xDN (by omega),zCu (show zC2 (d+1) by unfold zC2;omega)] at h4 h5 ⊢;have eR:=zQA h4 h5;obtain⟨a,b⟩:=zNO t (d+1) s (by omega) h2 ai.1 eR.1 eR.2;have hz:=zLM t;obtain⟨a',b'⟩:=zNP ts d _ h1 h0 (by omega) h4 h5;simp only[dpL,szL,xAP];exact⟨⟨a,a'⟩,by omega⟩
end
def zQg{t:GT}(h:zEq t=true):szT t<=2000/\dpT t 1=true/\okT t=true:=by
 simp only[zEq,xAP,xBl] at h;obtain⟨h1,h2⟩:=h;unfold zPD at h1;split at h1
 ·simp at h1
 ·rename_i hc;rw[not_or] at hc;obtain⟨a,b⟩:=zNO t 1 (0,0) (by omega) (by simp) (by simp) (by omega) (by omega);exact⟨by simp only at b;omega,a,h2⟩
def zp3{h0 k:AH}{v:Value}{l:List GT}(hr:RT h0 v l)(hk:Ext h0 k)(kk nn:Int):∃ x,BoolIff (zEq (.mk kk nn l)=true) x/\(zc E).call 187 [.agg ⟨[iI kk,iI nn,v]⟩] k=some [(x,k)]:=by
 refine zVK hk.ok (zcf ?_);obtain⟨k1,e1,n1,t1,o1,f1⟩:=nwF k (rO [iI kk,iI nn,v] 173);simp only[zU,zF,zK,zA,e1,zR];have a1:=zN (P:=E) zCl (o:=0) t1 (by simp);simp only[xCe,List.take] at a1;have ex:=hk.trans o1.ext;obtain⟨b,bF,hb⟩:=zWH hr kk nn k1 ex;obtain⟨x,⟨n,rfl,hn,kW⟩,hc⟩:=zpv hr ex kk nn;refine zce ?_;simp only[a1,zA,zM,hb,zJ];cases b with
 | true=>simp only[a1,zA,zI,zS,xAO,xAG,zM,hc,zJ,zAD,zE,zAC,zO,xDJ];exact⟨⟨rfl,_,rfl,λ h=>by have:=hn (xBm h);exact zoD this.1 this.2 (bF.1 rfl),λ h=>by obtain⟨v1,v2,v3⟩:=zQg h;exact xAJ (kW v1 v2 v3)⟩,o1.wm⟩
 | false=>simp only[a1,zA,zI,zS,show (false==true)=false from rfl,xAH,zF,zE,zAC,zO,xDJ];exact⟨⟨rfl,.no λ h=>xBd (bF.2 (zQg h).2.2)⟩,o1.wm⟩
end Go.Proofs
namespace Go.Proofs
open Go Go.AM
def zho{k l:AH}(o:Own k l)(x y:AObj):∃ m,(l.new x).upd l.qa (some y)=m/\m.qa=l.qa+1/\m.get l.qa=some y/\Own k m/\∀ b,b<l.qa->m.get b=l.get b:=
 ⟨_,rfl,rfl,zH _ _ _,(o.new x).upd o.ext.qa _,λ b hb=>by rw[zL (by omega),zG (by omega)]⟩
def zYd{g:Int}{l:List GT}(c1:¬ g < -3)(c2:¬ 31<g)(c3:¬ (8:Int)<(l.length:Int))(c4:(zQR g&&decide ((0:Int)<(l.length:Int)))=false)(c5:∀(j:Nat) (t:GT),l[j]?=some t->zEq t=true):zAu g l=false:=by
 have h5:zj (zOx l zEq) l.length 0<0:=(zCb _ _).1 λ j _ _=>by
  unfold zOx;cases ht:l[j]? with
  | none=>rfl
  | some t=>simp[c5 j t ht]
 simp only[zAu,xBJ,xAk];refine⟨⟨⟨⟨c1,by omega⟩,by omega⟩,?_⟩,by omega⟩;cases hb:zQR g with
 | false=>rfl
 | true=>
  rw[hb] at c4;simp only[xCk,xAk] at c4 ⊢;omega
def zYO(a b:Int):(a<b/\c3 a b=-1)\/(a=b/\c3 a b=0)\/(b<a/\c3 a b=1):=by
 unfold c3;split
 ·exact .inl ⟨by assumption,rfl⟩
 ·split
  ·exact .inr (.inr ⟨by assumption,rfl⟩)
  ·exact .inr (.inl ⟨by omega,rfl⟩)
def zQC(e f:Int×Int×Int):zVj e f<0 ↔ e.1<f.1\/(e.1=f.1/\(e.2.1<f.2.1\/(e.2.1=f.2.1/\e.2.2<f.2.2))):=by
 simp only[zVj,orI];rcases zYO e.1 f.1 with ⟨a,a'⟩|⟨a,a'⟩|⟨a,a'⟩ <;> rcases zYO e.2.1 f.2.1 with ⟨b,b'⟩|⟨b,b'⟩|⟨b,b'⟩ <;> rcases zYO e.2.2 f.2.2 with ⟨c,c'⟩|⟨c,c'⟩|⟨c,c'⟩ <;> rw[a',b',c'] <;> simp <;> omega
def zFS{p:Nat->Bool}:∀ {m i:Nat},(∀ j,i<=j->j<i+m->p j=false)->zn p m i=false
 | 0,_,_=>rfl
 | m+1,i,h=>by
  simp only[zn,xBJ];exact⟨h i (by omega) (by omega),zFS λ j h1 h2=>h j (by omega) (by omega)⟩
def zYc{L:GL}(h1:zBJ L=false)(h2:∀ j,j<L.labs.length->zBA L.labs j=false)(h3:∀ j,j<L.eds.length->zBO L.n L.labs.length L.eds j=false):zT L=false:=by
 unfold zT;rw[h1,zFS λ j _ h=>h2 j (by omega),zFS λ j _ h=>h3 j (by omega)];rfl
def ziA{n m:Int}{es:List (Int×Int×Int)}{i:Nat}{e:Int×Int×Int}(he:es[i]?=some e)(r:0<=e.1/\e.1<n/\0<=e.2.2/\e.2.2<n/\0<=e.2.1/\e.2.1<m)(hp:0<i->∀ f,es[i-1]?=some f->zVj f e<0):zBO n m es i=false:=by
 unfold zBO;obtain⟨a1,a2,a3,a4,a5,a6⟩:=r;simp only[he,a1,a2,a3,a4,a5,a6,xDG,xCm,xAL,xCn];by_cases hi:0<i
 ·rw[xAJ hi];cases hf:es[i-1]? with
  | none=>rfl
  | some f=>exact (xCk _).trans (xAI (by have:=hp hi f hf;omega))
 ·rw[xAI hi];rfl
def zXM{ls:List (Int×List GT)}{i:Nat}{x:Int×List GT}(he:ls[i]?=some x)(h1:zAu x.1 x.2=false)(hp:0<i->∀ y,ls[i-1]?=some y->zBd y.1 y.2 x.1 x.2<0):zBA ls i=false:=by
 unfold zBA;simp only[he,h1,xCn];by_cases hi:0<i
 ·rw[xAJ hi];cases hf:ls[i-1]? with
  | none=>rfl
  | some f=>exact (xCk _).trans (xAI (by have:=hp hi f hf;omega))
 ·rw[xAI hi];rfl
def zEz{g:Int}{l:List GT}(h:zAu g l=false):¬ g < -3/\¬ 31<g/\¬ (8:Int)<(l.length:Int)/\(zQR g&&decide ((0:Int)<(l.length:Int)))=false/\∀(j:Nat) (t:GT),l[j]?=some t->zEq t=true:=by
 simp only[zAu,xBJ,xAk] at h;obtain⟨⟨⟨⟨h1,h2⟩,h3⟩,h4⟩,h5⟩:=h;refine⟨h1,by omega,by omega,?_,λ j t hj=>?_⟩
 ·cases hb:zQR g with
  | false=>rfl
  | true=>
   rw[hb] at h4;simp only[xCk,xAk] at h4 ⊢;omega
 ·have:=(zCb (p:=zOx l zEq) l.length 0).2 (by omega) j (xDF _) (by have:=(xAc.1 hj).1;omega);simpa[zOx,hj] using this
def zCr{L:GL}(h:zT L=false):zBJ L=false/\(∀ j,j<L.labs.length->zBA L.labs j=false)/\∀ j,j<L.eds.length->zBO L.n L.labs.length L.eds j=false:=by
 simp only[zT,xBJ] at h;exact⟨h.1.1,λ j hj=>zAr h.1.2 j (xDF _) (by omega),λ j hj=>zAr h.2 j (xDF _) (by omega)⟩
def zHW{ls:List (Int×List GT)}{i:Nat}{x:Int×List GT}(he:ls[i]?=some x)(h:zBA ls i=false):zAu x.1 x.2=false/\(0<i->∀ y,ls[i-1]?=some y->zBd y.1 y.2 x.1 x.2<0):=by
 simp only[zBA,he,xBJ] at h;refine⟨h.1,λ hi y hy=>?_⟩;have h2:=h.2;simp only[hi,xDG,hy,xCk,xAk] at h2;omega
def zI9{n m:Int}{es:List (Int×Int×Int)}{i:Nat}{e:Int×Int×Int}(he:es[i]?=some e)(h:zBO n m es i=false):(0<=e.1/\e.1<n/\0<=e.2.2/\e.2.2<n/\0<=e.2.1/\e.2.1<m)/\(0<i->∀ f,es[i-1]?=some f->zVj f e<0):=by
 simp only[zBO,he,xBJ,Bool.not_eq_false',xAP,xBl] at h;obtain⟨⟨⟨⟨a1,a2⟩,a3,a4⟩,a5,a6⟩,h2⟩:=h;refine⟨⟨a1,a2,a3,a4,a5,a6⟩,λ hi f hf=>?_⟩;simp only[hi,xDG,hf,xCk,xAk] at h2;omega
def zqI{h0 k:AH}{g:Int}{v:Value}{l:List GT}(hr:RT h0 v l)(hk:Ext h0 k):∃ x,BoolIff (zAu g l=false) x/\(zc E).call 138 [.agg ⟨[iI g,v]⟩] k=some [(x,k)]:=by
 have hs:=hr.slice;cases hr with
 | @mk _ els _ ha hn hc=>
 have hlen:=RC.length hc;obtain⟨sa,sc,rfl⟩:=hs;refine zVO hk.ok (zeM ?_);obtain⟨k1,e1,n1,t1,o1,f1⟩:=nwF k (rO [iI g,.slice sa l.length sc] 36);simp only[zU,zF,zK,zA,e1,zR];have l0:=zB (P:=E) zAE (o:=0) t1;have l1:=zB (P:=E) zD0 (o:=1) t1;simp only[lnth] at l0 l1;have ex:=hk.trans o1.ext;have no:¬ zAu g l=false->zut true (KB k [.tmp 2] (BoolIff (zAu g l=false))) k1:=λ h=>zeK (by simp only[zA,zAC,zO,xDJ];exact⟨⟨rfl,.no h⟩,o1.wm⟩);have no4:¬ zAu g l=false->zur true (KB k [.tmp 2] (BoolIff (zAu g l=false))) k1:=λ h=>zeI (by simp only[zA,zAC,zO,xDJ];exact⟨⟨rfl,.no h⟩,o1.wm⟩);have no9:¬ zAu g l=false->zuo true (KB k [.tmp 2] (BoolIff (zAu g l=false))) k1:=λ h=>zeE (by simp only[zA,zAC,zO,xDJ];exact⟨⟨rfl,.no h⟩,o1.wm⟩);have yes:zAu g l=false->zqq true (KB k [.tmp 2] (BoolIff (zAu g l=false))) k1:=λ h=>zUQ (by simp only[zA,zAC,zO,xDJ];exact⟨⟨rfl,.yes h⟩,o1.wm⟩);have loop:¬ g < -3->¬ 31<g->¬ (8:Int)<(l.length:Int)->(zQR g&&decide ((0:Int)<(l.length:Int)))=false->∀(m i:Nat),i+m=l.length->(∀(j:Nat) (t:GT),j<i->l[j]?=some t->zEq t=true)->zup true (KB k [.tmp 2] (BoolIff (zAu g l=false))) (.pointer (some ⟨k.qa,0,none⟩)) (iI (i:Int)) k1:=by
  intro c1 c2 c3 c4 m
  induction m with
  | zero=>
   intro i hi hp;refine zOQ ?_;simp only[zCL,xAK,l1,zA,zKP,zP,show decide ((i:Int)<(l.length:Int))=false from xAI (by omega),zZ];exact yes (zYd c1 c2 c3 c4 λ j t hj=>hp j t (by have:=(xAc.1 hj).1;omega) hj)
  | succ m ih=>
   intro i hi hp;refine zOQ ?_;simp only[zCL,xAK,l1,zA,zKP,zP,show decide ((i:Int)<(l.length:Int))=true from xAJ (by omega),ze];refine zeG ?_;obtain⟨x,hx⟩:∃ x,els[i]?=some x:=⟨_,xAA (by omega)⟩;obtain⟨p1,q1,w1⟩:=zM5 ha ex hx;obtain⟨ck,cn,cv,cl,rfl,iZ,an⟩:=RC.at hc i x hx;obtain⟨y,⟨b,rfl,bF⟩,hb⟩:=zp3 iZ ex ck cn;simp only[zCL,xAK,l1,zA,q1,w1,zM,hb,zJ];refine zeF ?_;simp only[zA,zq];cases b with
   | false=>simp only[xAM,ze];exact no9 (λ h=>xBd (bF.2 ((zEz h).2.2.2.2 i _ an)))
   | true=>
    simp only[xAL,zZ];refine zUR ?_;simp only[zA,zk _ (zCS (show i<l.length by omega) (by omega))];refine ih (i+1) (by omega) λ j t hj ht=>?_;rcases xAi.1 hj with h|h
    ·exact hp j t h ht
    ·subst h;rw[an] at ht;cases ht;exact bF.1 rfl
 have go:¬ g < -3->¬ 31<g->¬ (8:Int)<(l.length:Int)->(zQR g&&decide ((0:Int)<(l.length:Int)))=false->zuq true (KB k [.tmp 2] (BoolIff (zAu g l=false))) (.pointer (some ⟨k.qa,0,none⟩)) k1:=λ c1 c2 c3 c4=>zeH (by exact loop c1 c2 c3 c4 l.length 0 (by omega) λ j t hj=>by omega);have mid:¬ g < -3->¬ 31<g->¬ (8:Int)<(l.length:Int)->zus true (KB k [.tmp 2] (BoolIff (zAu g l=false))) (.pointer (some ⟨k.qa,0,none⟩)) k1:=by
  intro c1 c2 c3;refine zeJ ?_;cases h1:decide (g=-3) <;> cases h2:decide (g=-1) <;> cases h3:decide ((0:Int)<(l.length:Int)) <;>
   simp only[zBp,zCL,xAK,xCu,l0,l1,zA,zPc,zAD,zAK,h1,h2,h3,zI,xAO,show (true==false)=false from rfl,show (false==true)=false from rfl,xAG,xAH,zE,ze,zZ] <;> first|exact go c1 c2 c3 (by simp only[zQR,h1,h2,h3];rfl)|exact no4 (λ h=>by have:=(zEz h).2.2.2.1;simp only[zQR,h1,h2,h3] at this;exact absurd this (by decide))
 refine zeL ?_;cases h1:decide (g < -3) <;> cases h2:decide (31<g) <;> cases h3:decide ((8:Int)<(l.length:Int)) <;>
  simp only[zBp,zCL,xAK,xCu,l0,l1,zA,zPd,zP,zAK,h1,h2,h3,zI,xAO,show (true==false)=false from rfl,show (false==true)=false from rfl,xAG,xAH,zE,ze,zZ] <;> first|exact mid (xBe h1) (xBe h2) (xBe h3)|exact no (λ h=>by have:=zEz h;simp only[xBl,xAk] at h1 h2 h3;omega)
def zqH{k:AH}{e f:Int×Int×Int}(aa:k.ok):(zc E).call 139 [.agg ⟨zQ e⟩,.agg ⟨zQ f⟩] k=some [(.bool (decide (zVj e f<0)),k)]:=by
 refine zgZ (s:=true) aa rfl (zeD ?_);obtain⟨k1,e1,n1,t1,o1,f1⟩:=nwF k (rO (zQ e) 52);obtain⟨k2,e2,n2,t2,o2,f2⟩:=nw o1 (rO (zQ f) 52);simp only[zU,zF,zK,zA,e1,e2,zR];have g1:=(f2 k.qa (by omega)).trans t1;have l0:=zB (P:=E) zAE (o:=0) g1;have l1:=zB (P:=E) zAE (o:=1) g1;have l2:=zB (P:=E) zAE (o:=2) g1;have m0:=zB (P:=E) zAE (o:=0) t2;have m1:=zB (P:=E) zAE (o:=1) t2;have m2:=zB (P:=E) zAE (o:=2) t2;simp only[lnth,zQ] at l0 l1 l2 m0 m1 m2;refine zeC ?_;simp only[zDU,xCu,l0,m0,zA,zAS,zJn];refine⟨λ h1=>zeB ?_,λ h1=>zeA ?_⟩
 ·simp only[zDU,xCu,l0,m0,zA,zP,zAC,zO,xDJ];exact⟨congrArg Value.bool (xCO.2 (by rw[zQC];omega)),o2.wm⟩
 simp only[zCe,xAK,l1,m1,zA,zAS,zJn];refine⟨λ h2=>zd9 ?_,λ h2=>zd8 ?_⟩
 ·simp only[zCe,xAK,l1,m1,zA,zP,zAC,zO,xDJ];exact⟨congrArg Value.bool (xCO.2 (by rw[zQC];omega)),o2.wm⟩
 ·simp only[zBo,xAK,l2,m2,zA,zP,zAC,zO,xDJ];exact⟨congrArg Value.bool (xCO.2 (by rw[zQC];omega)),o2.wm⟩
def zhS{i:Nat}(hi:0<i)(hn:i<=9223372036854775807):zAJ E .sub 3 (iI (i:Int)) (iI 1)=some (iI ((i-1:Nat):Int)):=by
 rw[zKt _ (show zC2 ((i:Int)-1) by unfold zC2;omega)]
 congr 2;omega
def ztG{k:AH}{x:Value}{L:GL}(aa:k.ok)(hx:RL k x L):∃ y,BoolIff (zT L=false) y/\(zc E).call 85 [x] k=some [(y,k)]:=by
 obtain⟨vl,ve,els,rfl,x2,x3,x4⟩:=hx.ex;refine zfr aa (zji ?_);obtain⟨k1,e1,n1,t1,o1,f1⟩:=nwF k (rO [iI L.n,vl,ve] 25);simp only[zU,zF,zK,zA,e1,zR];have l0:=zB (P:=E) zAE (o:=0) t1;have l1:=zB (P:=E) zF4 (o:=1) t1;have l2:=zB (P:=E) zEF (o:=2) t1;simp only[lnth] at l0 l1 l2;have hL:=RLab.length x3;obtain⟨sa,sc,aP⟩:=x2.slice;obtain⟨sb,sd,bJ⟩:=x4.slice;rw[xCY] at bJ;have no:¬ zT L=false->zxd true (KB k [.tmp 2] (BoolIff (zT L=false))) k1:=λ h=>zjg (by simp only[zA,zAC,zO,xDJ];exact⟨⟨rfl,.no h⟩,o1.wm⟩);have no7:¬ zT L=false->zxa true (KB k [.tmp 2] (BoolIff (zT L=false))) k1:=λ h=>zjc (by simp only[zA,zAC,zO,xDJ];exact⟨⟨rfl,.no h⟩,o1.wm⟩);have no9:¬ zT L=false->zxZ true (KB k [.tmp 2] (BoolIff (zT L=false))) k1:=λ h=>zja (by simp only[zA,zAC,zO,xDJ];exact⟨⟨rfl,.no h⟩,o1.wm⟩);have eloop:L.eds.length<=100000->zBJ L=false->(∀ j,j<L.labs.length->zBA L.labs j=false)->∀(m i:Nat),i+m=L.eds.length->(∀ j,j<i->zBO L.n L.labs.length L.eds j=false)->∀ l,Own k l->l.get k.qa=some (rO [iI L.n,vl,ve] 25)->k.qa<l.qa->
   zt8 true (KB k [.tmp 2] (BoolIff (zT L=false))) (.pointer (some ⟨k.qa,0,none⟩)) (iI (i:Int)) l:=by
  intro hb hz hlb m
  induction m with
  | zero=>
   intro i hi hp l ol tl hn;have l2:=zB (P:=E) zEF (o:=2) tl;simp only[lnth] at l2;refine zNj ?_;rw[bJ] at l2;simp only[zA7,xAK,l2,zA,zKA,zP,show decide ((i:Int)<(L.eds.length:Int))=false from xAI (by omega),zZ];exact zZL (by simp only[zA,zAC,zO,xDJ];exact⟨⟨rfl,.yes (zYc hz hlb λ j hj=>hp j (by omega))⟩,ol.wm⟩)
  | succ m ih=>
   intro i hi hp l ol tl hn;have l2:=zB (P:=E) zEF (o:=2) tl;simp only[lnth] at l2;have ax:i<L.eds.length:=by omega
   obtain⟨e,he⟩:∃ e,L.eds[i]?=some e:=⟨_,xAA ax⟩;have bM:(L.eds.map zQ)[i]?=some (zQ e):=by rw[xBi,he];rfl
   obtain⟨p1,q1,w1⟩:=zJk x4 ol.ext bM;refine zNj ?_;have l2':=l2;rw[bJ] at l2';simp only[zA7,xAK,l2',zA,zKA,zP,show decide ((i:Int)<(L.eds.length:Int))=true from xAJ (by omega),ze];refine zZR ?_;obtain⟨l1',e3,n3,t3,o3,f3⟩:=zho ol (rO [iI 0,iI 0,iI 0] 52) (rO (zQ e) 52);simp only[zA7,xAK,l2,zA,q1,w1,zmk,zU,zF,zK,zQN,e3];have tl':=(f3 k.qa hn).trans tl;have a0:=zB (P:=E) zAE (o:=0) tl';have a1:=zB (P:=E) zF4 (o:=1) tl';have a2:=zB (P:=E) zEF (o:=2) tl';have b0:=zB (P:=E) zAE (o:=0) t3;have b1:=zB (P:=E) zAE (o:=1) t3;have b2:=zB (P:=E) zAE (o:=2) t3;simp only[lnth,zQ] at a0 a1 a2 b0 b1 b2;have next:(0<=e.1/\e.1<L.n/\0<=e.2.2/\e.2.2<L.n/\0<=e.2.1/\e.2.1<(L.labs.length:Int))->zt6 true (KB k [.tmp 2] (BoolIff (zT L=false))) (.pointer (some ⟨k.qa,0,none⟩)) (iI (i:Int)) (.pointer (some ⟨l.qa,0,none⟩)) l1':=by
    intro ij;have on:(0<i->∀ f,L.eds[i-1]?=some f->zVj f e<0)->zt5 true (KB k [.tmp 2] (BoolIff (zT L=false))) (.pointer (some ⟨k.qa,0,none⟩)) (iI (i:Int)) l1':=by
     intro hpv;refine zZM ?_;simp only[zA,zk _ (zCS ax (by omega))];refine ih (i+1) (by omega) (λ j hj=>?_) l1' o3 tl' (by omega);rcases xAi.1 hj with h|h
     ·exact hp j h
     ·subst h;exact ziA he ij hpv
    refine zZO ?_;simp only[zA,zAK];by_cases h0:(0:Int)<(i:Int)
    ·obtain⟨f,hf⟩:∃ f,L.eds[i-1]?=some f:=⟨_,xAA (by omega)⟩;have kv:(L.eds.map zQ)[i-1]?=some (zQ f):=by rw[xBi,hf];rfl
     obtain⟨p2,q2,w2⟩:=zJk x4 o3.ext kv;have ag:=zN (P:=E) zMQ (o:=0) t3 (by simp[zQ]);rw[show ((zQ e).drop 0).take 3=zQ e from rfl] at ag;have hc:=zqH (e:=f) (f:=e) o3.ext.ok;cases du:decide (zVj f e<0) <;> rw[du] at hc
     ·simp only[h0,xDG,zI,zS,xAO,xAG,zA7,xAK,a2,zA,zhS (show 0<i by omega) (by omega),q2,w2,ag,zM,hc,zJ,zq,zE];simp only[xAM,ze];exact zZN (by simp only[zA,zAC,zO,xDJ];exact⟨⟨rfl,.no (λ h=>xBe du ((zI9 he ((zCr h).2.2 i ax)).2 (by omega) f hf))⟩,o3.wm⟩)
     ·simp only[h0,xDG,zI,zS,xAO,xAG,zA7,xAK,a2,zA,zhS (show 0<i by omega) (by omega),q2,w2,ag,zM,hc,zJ,zq,zE];simp only[xAL,zZ];exact on λ _ g hg=>by rw[hf] at hg;cases hg;exact xBm du
    ·simp only[h0,xCz,zI,zS,show (false==true)=false from rfl,xAH,zA,zF,zE,zZ];exact on λ h=>absurd (by omega) h0
   have no15:¬ zT L=false->zt7 true (KB k [.tmp 2] (BoolIff (zT L=false))) l1':=λ h=>zZP (by simp only[zA,zAC,zO,xDJ];exact⟨⟨rfl,.no h⟩,o3.wm⟩);refine zZQ ?_;rw[aP] at a1;cases h1:decide (e.1<0) <;> cases h2:decide (L.n<=e.1) <;> cases h3:decide (e.2.2<0) <;> cases h4:decide (L.n<=e.2.2) <;> cases h5:decide (e.2.1<0) <;> cases h6:decide ((els.length:Int)<=e.2.1) <;>
    simp only[zAP,zA0,zDU,zCe,zBo,xAK,xCu,a0,a1,b0,b1,b2,zA,zPU,zP,zBY,h1,h2,h3,h4,h5,h6,zI,xAO,show (true==false)=false from rfl,show (false==true)=false from rfl,xAG,xAH,zE,ze,zZ] <;> first|exact no15 (λ h=>by have:=(zI9 he ((zCr h).2.2 i ax)).1;simp only[xBl,xAk] at h1 h2 h3 h4 h5 h6;omega)|exact next (by have:=xBe h1;have:=xBe h2;have:=xBe h3;have:=xBe h4;have:=xBe h5;have:=xBe h6;omega)
 have lloop:els.length<=4000->L.eds.length<=100000->zBJ L=false->∀(m i:Nat),i+m=els.length->(∀ j,j<i->zBA L.labs j=false)->zxb true (KB k [.tmp 2] (BoolIff (zT L=false))) (.pointer (some ⟨k.qa,0,none⟩)) (iI (i:Int)) k1:=by
  intro hb aN hz m
  induction m with
  | zero=>
   intro i hi hp;refine zR8 ?_;have l1':=l1;rw[aP] at l1';simp only[zA0,xAK,l1',zA,zMv,zP,show decide ((i:Int)<(els.length:Int))=false from xAI (by omega),zZ];refine zZS ?_;exact eloop aN hz (λ j hj=>hp j (by omega)) L.eds.length 0 (by omega) (λ j hj=>by omega) k1 o1 t1 (by omega)
  | succ m ih=>
   intro i hi hp;have ax:i<els.length:=by omega
   obtain⟨x,hx⟩:∃ x,els[i]?=some x:=⟨_,xAA ax⟩;obtain⟨p1,q1,w1⟩:=zM6 x2 o1.ext hx;obtain⟨g,v,l,rfl,hr,aY⟩:=RLab.at x3 i x hx;obtain⟨y,⟨b,rfl,bF⟩,an⟩:=zqI (g:=g) hr o1.ext;refine zR8 ?_;have l1':=l1;rw[aP] at l1';simp only[zA0,xAK,l1',zA,zMv,zP,show decide ((i:Int)<(els.length:Int))=true from xAJ (by omega),ze];refine zje ?_;simp only[zA0,xAK,l1,zA,q1,w1,zM,an,zJ];refine zjd ?_;simp only[zA,zq];have on:zAu g l=false->(0<i->∀ y,L.labs[i-1]?=some y->zBd y.1 y.2 g l<0)->zt9 true (KB k [.tmp 2] (BoolIff (zT L=false))) (.pointer (some ⟨k.qa,0,none⟩)) (iI (i:Int)) k1:=by
    intro cj aN;refine zZT ?_;simp only[zA,zk _ (zCS ax (by omega))];refine ih (i+1) (by omega) λ j hj=>?_;rcases xAi.1 hj with h|h
    ·exact hp j h
    ·subst h;exact zXM aY cj aN
   cases b with
   | false=>simp only[xAM,ze];exact no7 (λ h=>xBd (bF.2 (zHW aY ((zCr h).2.1 i (by omega))).1))
   | true=>
    simp only[xAL,zZ];refine zjb ?_;simp only[zA,zAK];by_cases h0:(0:Int)<(i:Int)
    ·obtain⟨z,cK⟩:∃ z,els[i-1]?=some z:=⟨_,xAA (by omega)⟩;obtain⟨p2,q2,w2⟩:=zM6 x2 o1.ext cK;obtain⟨g2,v2,l2',rfl,fv,iN⟩:=RLab.at x3 (i-1) z cK;have hc:=znb (g:=g2) (g':=g) fv hr o1.ext;simp only[h0,xDG,zI,zS,xAO,xAG,zA0,xAK,l1,zA,zhS (show 0<i by omega) (by omega),q1,w1,q2,w2,zM,hc,zJ,zBY,zE,zAV];exact⟨λ eA=>no9 (λ h=>by have:=(zHW aY ((zCr h).2.1 i (by omega))).2 (by omega) _ iN;simp only at this;omega),λ ab=>on (bF.1 rfl) λ _ y hy=>by rw[iN] at hy;cases hy;simp only;omega⟩
    ·simp only[h0,xCz,zI,zS,show (false==true)=false from rfl,xAH,zA,zF,zE,zZ];exact on (bF.1 rfl) λ h=>absurd (by omega) h0
 refine zjh ?_;have go:els.length<=4000->L.eds.length<=100000->zBJ L=false->zxc true (KB k [.tmp 2] (BoolIff (zT L=false))) (.pointer (some ⟨k.qa,0,none⟩)) k1:=λ h1 h2 h3=>zjf (by exact lloop h1 h2 h3 els.length 0 (by omega) λ j hj=>by omega);rw[aP] at l1;rw[bJ] at l2;cases h1:decide (L.n<1) <;> cases h2:decide (20000<L.n) <;> cases h3:decide ((4000:Int)<(els.length:Int)) <;> cases h4:decide ((100000:Int)<(L.eds.length:Int)) <;>
  simp only[zAP,zA0,zA7,xAK,xCu,l0,l1,l2,zA,zTH,zTG,zP,zAK,h1,h2,h3,h4,zI,xAO,show (true==false)=false from rfl,show (false==true)=false from rfl,xAG,xAH,zE,ze,zZ] <;>
  first|exact no (λ h=>by have:=(zCr h).1;simp only[zBJ,xBJ,xAk] at this;simp only[xBl,xAk] at h1 h2 h3 h4;omega)|exact go (by have:=xBe h3;omega) (by have:=xBe h4;omega) (by have:=xBe h1;have:=xBe h2;have:=xBe h3;have:=xBe h4;simp only[zBJ,xBJ,xAk];omega)
def zNV{k:AH}{x:Value}{L:GL}(aa:k.ok)(hx:RL k x L):∃ n:Int,(n=0 ↔ zT L=false)/\(zc E).call 23 [x] k=some [(iI n,k)]:=by
 obtain⟨vl,ve,els,rfl,x2,x3,x4⟩:=id hx.ex;have key:∃ y,(∃ n:Int,y=iI n/\(n=0 ↔ zT L=false))/\(zc E).call 23 [.agg #[iI L.n,vl,ve]] k=some [(y,k)]:=by
  refine zf3 aa (zlP ?_);obtain⟨k1,e1,n1,t1,o1,f1⟩:=nwF k (rO [iI L.n,vl,ve] 25);simp only[zU,zF,zK,zA,e1,zR];have a1:=zN (P:=E) zBT (o:=0) t1 (by simp);simp only[xCe,List.take] at a1;obtain⟨y,⟨b,rfl,bF⟩,hb⟩:=ztG o1.ext.ok (hx.ext o1.ext);refine zlO ?_;simp only[a1,zA,zM,hb,zJ];refine zlN ?_;simp only[zA,zq];cases b with
  | true=>simp only[xAL,zZ];refine zlL ?_;simp only[zA,zAC,zO,xDJ];exact⟨⟨rfl,_,rfl,λ _=>bF.1 rfl,λ _=>rfl⟩,o1.wm⟩
  | false=>simp only[xAM,ze];refine zlM ?_;simp only[zA,zAC,zO,xDJ];exact⟨⟨rfl,_,rfl,(λ h=>by omega),λ h=>absurd (bF.2 h) (by simp)⟩,o1.wm⟩
 obtain⟨y,⟨n,rfl,hn⟩,h⟩:=key;exact⟨n,hn,h⟩
end Go.Proofs
namespace Go.Proofs
open Go Go.AM
structure More(w:World)(σ:Sg)(h:AH)(σ':Sg)(h':AH):Prop where
 le:Sg.le σ σ'
 ext:Ext h h'
 hr:HR w.heap.size σ' h' w
def More.refl{w:World}{σ:Sg}{h:AH}(H:HR w.heap.size σ h w)(ok:h.ok):More w σ h σ h:=⟨Sg.le_refl σ,Ext.refl ok,H⟩
def More.trans{w:World}{σ σ1 σ2:Sg}{h h1 h2:AH}(a:More w σ h σ1 h1)(b:More w σ1 h1 σ2 h2):More w σ h σ2 h2:=⟨Sg.le_trans a.le b.le,a.ext.trans b.ext,b.hr⟩
def More.ok{w:World}{σ σ':Sg}{h h':AH}(a:More w σ h σ' h'):h'.ok:=a.ext.ok
def HR.addRO{σ:Sg}{h:AH}{w:World}(H:HR w.heap.size σ h w)(aa:h.ok){vs:List Value}{el:TypeId}{cs:Array Value}{frz:Nat×Nat}{l:AM.Loc}(hb:w.heap[l.blk]?=some (.cells cs el frz))
  (hsz:l.base+vs.length<=cs.size) (hc:∀ i v,vs[i]?=some v->∃ v',cs[l.base+i]?=some v'/\VR σ v v') :
  More w σ h (σ.ext h.qa l) (h.new (.row vs el 0 true)):=by
 have ab:l.blk<w.heap.size:=zAd hb;have le:Sg.le σ (σ.ext h.qa l):=Sg.le_ext H.free;refine⟨le,(Ext.refl aa).new _,?_,?_,?_,?_,xAF _⟩
 ·intro b m e;unfold Sg.ext at e;split at e
  ·rename_i hb;subst hb;simp
  ·have:=H.dom _ _ e;simp;omega
 ·intro b hb;rw[AH.get_new];simp at hb;rw[xDN (by omega)];exact H.qb b (by omega)
 ·intro b x e;rw[AH.get_new] at e;by_cases ar:b=h.qa
  ·subst ar;rw[xDO rfl] at e;cases e;exact⟨l,Sg.ext_self ..,⟨cs,el,frz,hb,hsz,λ i v hi=>(let ⟨v',a,b⟩:=hc i v hi;⟨v',a,b.mono le⟩),λ e=>(by cases e),rfl,λ _ e=>(by cases e),λ e=>absurd rfl e⟩,λ e=>(by cases e)⟩
  ·rw[xDN ar] at e;obtain⟨m,a,c,d⟩:=H.live b x e;refine⟨m,le _ _ a,c.mono le rfl (λ i es v lm hi hs=>?_),d⟩;rw[AH.get_new] at hi;have ai:i≠h.qa:=by intro e;subst e;rw[H.free] at hs;cases hs
   rw[xDN ai] at hi;exact⟨hi,rfl⟩
 ·have other:∀ b' o2 l2,(h.new (.row vs el 0 true)).get b'=some o2->(σ.ext h.qa l) b'=some l2->l.blk=l2.blk->b'≠h.qa->znG o2=true:=by
   intro b' o2 l2 e2 s2 bU aj;rw[AH.get_new,xDN aj] at e2;unfold Sg.ext at s2;rw[xDN aj] at s2;obtain⟨m,a,c,d⟩:=H.live b' _ e2;rw[s2] at a;cases a;cases eb:znG o2 with
   | true=>rfl
   | false=>have:=d eb;omega
  intro b b' o1 o2 l1 l2 e1 e2 s1 s2 bU aj;by_cases cj:b=h.qa
  ·subst cj;have e1':=e1;rw[AH.get_new,xDO rfl] at e1';cases e1';have s1':=s1;rw[Sg.ext_self] at s1';cases s1';exact⟨rfl,other _ _ _ e2 s2 bU (λ e=>aj e.symm)⟩
  ·by_cases aN:b'=h.qa
   ·subst aN;have e1':=e2;rw[AH.get_new,xDO rfl] at e1';cases e1';have s1':=s2;rw[Sg.ext_self] at s1';cases s1';exact⟨other _ _ _ e1 s1 bU.symm cj,rfl⟩
   ·rw[AH.get_new,xDN cj] at e1;rw[AH.get_new,xDN aN] at e2;unfold Sg.ext at s1 s2;rw[xDN cj] at s1;rw[xDN aN] at s2;exact H.inj b b' o1 o2 l1 l2 e1 e2 s1 s2 bU aj
inductive Els{α:Type}(R:List Value->α->Prop):List (List Value)->List α->Prop
 | nil:Els R [] []
 | cons {e:List Value} {a:α} {es:List (List Value)} {aas:List α} (h:R e a) (hs:Els R es aas):Els R (e::es) (a::aas)
def Els.mono{α:Type}{R S:List Value->α->Prop}(H:∀ e a,R e a->S e a):∀ {es:List (List Value)} {aas:List α},Els R es aas->Els S es aas
 | _,_,.nil=>.nil
 | _,_,.cons h hs=>.cons (H _ _ h) (Els.mono H hs)
def zGS{z:Nat}:∀(els:List (List Value)),(∀ e∈els,e.length=z)->els.flatten.length=els.length*z
 | [],_=>by simp
 | e::es,H=>by
  rw[xBy,xBY,H e (by simp),zGS es λ x hx=>H x (by simp[hx]),xCG,xDE];omega
def zIB{z:Nat}:∀(els:List (List Value)),(∀ e∈els,e.length=z)->∀ k e,els[k]?=some e->(els.flatten.drop (k*z)).take z=e
 | [],_,k,e,h=>by simp at h
 | x::es,H,0,e,h=>by
  simp at h;subst h;rw[xBy,Nat.zero_mul,xCe];have:=H x (by simp);rw[← this,List.take_left'];rfl
 | x::es,H,k+1,e,h=>by
  rw[xBy];have hx:=H x (by simp);rw[show (k+1)*z=x.length+k*z by rw[hx,xDE];omega,← List.drop_drop,List.drop_left']
  ·exact zIB es (λ y hy=>H y (by simp[hy])) k e (by simpa using h)
  ·rfl
def zPr{z:Nat}:∀(els:List (List Value)),(∀ e∈els,e.length=z)->∀ i v,els.flatten[i]?=some v->∃ k e j,els[k]?=some e/\e[j]?=some v/\i=k*z+j
 | [],_,i,v,h=>by simp at h
 | x::es,H,i,v,h=>by
  have hx:=H x (by simp);rw[xBy] at h;by_cases hi:i<x.length
  ·rw[xAb hi] at h;exact⟨0,x,i,rfl,h,by omega⟩
  ·rw[xAX (by omega)] at h;obtain⟨k,e,j,a,b,c⟩:=zPr es (λ y hy=>H y (by simp[hy])) _ _ h;exact⟨k+1,e,j,by simpa using a,b,by rw[xDE];omega⟩
def zRo{w:World}{a:Addr}{v:Value}(h:w.cell? a=some v):∃ C el frz,w.heap[a.block]?=some (.cells C el frz)/\a.spot=none/\C[a.off]?=some v:=by
 unfold World.cell? at h;split at h
 ·rename_i C el frz hb;cases hs:a.spot with
  | some s=>rw[hs] at h;simp at h
  | none=>rw[hs] at h;exact⟨C,el,frz,hb,rfl,by simpa using h⟩
 ·cases h
def zYr(a:Addr)(n:Nat):(a.add n).off=a.off+n:=by unfold Addr.add;split <;> simp_all
def zL7(a:Addr)(n:Nat):(a.add n).block=a.block:=by unfold Addr.add;split <;> rfl
def zWT{w:World}{base z i:Nat}{a:Addr}{cs:List Value}(hz:0<z)(h:w.cells? base (a.add (i*z)) z=some cs) :
  ∃ C el frz,w.heap[a.block]?=some (.cells C el frz)/\cs.length=z/\(i=0->a.spot=none)/\∀ j,j<z->C[a.off+i*z+j]?=cs[j]?:=by
 obtain⟨_,hl,hg⟩:=World.cells?_some h;have h0:=hg 0 hz;have hv:∃ v,cs[0]?=some v:=⟨_,xAA (by omega)⟩;obtain⟨v,hv⟩:=hv;rw[hv] at h0;obtain⟨C,el,frz,hb,hs,_⟩:=zRo h0;rw[zL7,zL7] at hb;refine⟨C,el,frz,hb,hl,λ hi=>?_,λ j hj=>?_⟩
 ·subst hi;simp only[Nat.zero_mul] at hs;have e:∀ b:Addr,b.add 0=b:=λ b=>by simp[Addr.add]
  rw[e,e] at hs;exact hs
 ·have dC:=hg j hj;obtain⟨u,hu⟩:∃ u,cs[j]?=some u:=⟨_,xAA (by omega)⟩;rw[hu] at dC ⊢;obtain⟨C',el',frz',ar,_,am⟩:=zRo dC;rw[zL7,zL7,hb] at ar;cases ar;rw[zYr,zYr] at am;exact am
section
variable {H:Type} {enc:TypeId×Value->H} {P:Program} {w:World} {base:Nat} {held:Bool}
def Step(enc:TypeId×Value->H)(P:Program)(w:World)(base:Nat)(held:Bool){α:Type}(R:AH->List Value->α->Prop)(n:Nat)(t:TypeId):Prop:=
 ∀(cs:List Value) (x:DataW H×List MemPlace) (σ:Sg) (h:AH),h.ok->HR w.heap.size σ h w->DataW.trod enc P w base (λ _=>true) held n t cs=some x->
  ∃ σ' h' vs a,More w σ h σ' h'/\VRs σ' vs cs/\R h' vs a
def zYR{α:Type}{R:AH->List Value->α->Prop}(hR:∀ h k es a,Ext h k->R h es a->R k es a){e:TypeId}{z n:Nat}(hz:0<z)(jK:P.cellsOf e=z){a:Addr}{C:Array Value}{el:TypeId}{frz:Nat×Nat}(hC:w.heap[a.block]?=some (.cells C el frz))
  (step:Step enc P w base held R n e):∀(m i:Nat) (σ:Sg) (h:AH),h.ok->HR w.heap.size σ h w->
   (∀ k,k<m->∃ x,(w.cells? base (a.add ((i+k)*z)) z).bind (DataW.trod enc P w base (λ _=>true) held n e)=some x)->
   ∃ σ' h' els aas,More w σ h σ' h'/\Els (R h') els aas/\els.length=m/\∀ k u,els[k]?=some u->u.length=z/\∀ j v,u[j]?=some v->∃ v',C[a.off+(i+k)*z+j]?=some v'/\VR σ' v v':=by
 intro m
 induction m with
 | zero=>intro i σ h aa hH _;exact⟨σ,h,[],[],.refl hH aa,.nil,rfl,λ k u hk=>by simp at hk⟩
 | succ m ih=>
  intro i σ h aa hH hr;obtain⟨x,hx⟩:=hr 0 (by omega);obtain⟨cs,aT,cG⟩:=xAr.1 hx;obtain⟨C',el',frz',hb,hl,_,hg⟩:=zWT hz aT;rw[hC] at hb;cases hb;obtain⟨σ1,h1,vs,b,m1,v1,r1⟩:=step cs x σ h aa hH cG;obtain⟨σ2,h2,els,aas,m2,e2,l2,g2⟩:=ih (i+1) σ1 h1 m1.ok m1.hr (λ k hk=>by
   have:=hr (k+1) (by omega);rw[show i+1+k=i+(k+1) by omega];exact this)
  refine⟨σ2,h2,vs::els,b::aas,m1.trans m2,.cons (hR _ _ _ _ m2.ext r1) e2,by simp[l2],λ k u hk=>?_⟩;cases k with
  | zero=>
   simp at hk;subst hk;refine⟨by rw[v1.length,hl],λ j v hj=>?_⟩;obtain⟨v',q1,q2⟩:=v1.get hj;have hjz:j<z:=by have:=(xAc.1 q1).1;omega
   exact⟨v',by rw[hg j hjz];exact q1,q2.mono m2.le⟩
  | succ k=>
   simp only[xAj] at hk;rw[show i+(k+1)=i+1+k by omega];exact g2 k u hk
def zHh{α:Type}{R:AH->List Value->α->Prop}(hR:∀ h k es a,Ext h k->R h es a->R k es a){t e:TypeId}{z n:Nat}(ht:P.underlying t=some (.slice e))(hz:0<z)(jK:P.cellsOf e=z)
  (step:∀ m,n=m+1->Step enc P w base held R m e) :
  ∀(cs:List Value) (x:DataW H×List MemPlace) (σ:Sg) (h:AH),h.ok->HR w.heap.size σ h w->DataW.trod enc P w base (λ _=>true) held n t cs=some x->
   ∃ σ' h' v v' els aas,cs=[v']/\More w σ h σ' h'/\VR σ' v v'/\Arr h' z v els/\Els (R h') els aas/\els.length<=9223372036854775807/\∃ ad n c,v=.slice ad n c/\n<=c/\c<UNK:=by
 intro cs x σ h aa hH cG;rcases DataW.trod_slice ht cG with ⟨rfl,_⟩|⟨a,len,cap,elems,rest,m,hm,rfl,_,_,hlc,fG,aS,hE,hS,_⟩
 ·exact⟨σ,h,.slice none 0 0,_,[],[],rfl,.refl hH aa,.sliceN 0 0,.nil _ _,.nil,by simp,_,_,_,rfl,xAF _,by decide⟩
 have io:len<=9223372036854775807:=by unfold maxLen at fG;omega
 by_cases aB:cap=0
 ·subst aB;obtain rfl:len=0:=by omega
  exact⟨σ,h,.slice (some ⟨0,0,some 0⟩) 0 0,_,[],[],rfl,.refl hH aa,.sliceS a,.nil _ _,.nil,by simp,_,_,_,rfl,xAF _,by decide⟩
 have first:∃ cs0,w.cells? base (a.add (0*z)) z=some cs0:=by
  by_cases hl:len=0
  ·obtain⟨s1,s2⟩:=hS rfl;have:=s2 0 (by omega);rw[hl,xCu,jK,xAA (by omega)] at this;obtain⟨c0,q,_⟩:=xAr.1 this;exact⟨c0,q⟩
  ·have:=hE 0 (by omega);rw[jK,xAA (by omega)] at this;obtain⟨c0,q,_⟩:=xAr.1 this;exact⟨c0,q⟩
 obtain⟨cs0,lQ⟩:=first
 obtain⟨C,el,frz,hC,_,eG,_⟩:=zWT hz lQ;have eG:=eG rfl;obtain⟨ablk,aoff,asp⟩:=a;simp only at eG hC;subst eG;obtain⟨σ1,h1,els,aas,m1,e1,l1,g1⟩:=zYR (a:=⟨ablk,aoff,none⟩) hR hz jK hC (step m hm) len 0 σ h aa hH (λ k hk=>by
  have:=hE k hk;rw[jK,xAA (by omega)] at this;rw[xAK];exact⟨_,this⟩)
 have hlen:∀ u∈els,u.length=z:=λ u hu=>by
  obtain⟨k,hk⟩:=xBN hu;exact (g1 k u hk).1
 have cM:=zGS els hlen;have m2:=HR.addRO m1.hr m1.ok (vs:=els.flatten) (l:=⟨ablk,aoff,0,0⟩) hC (by
  by_cases h0:els.flatten.length=0
  ·rw[h0];simp only[xCu];obtain⟨C',_,_,ar,dH,_,dy⟩:=zWT hz lQ;simp only at ar;rw[hC] at ar;cases ar;have:=dy 0 hz;simp only[Nat.zero_mul,xCu] at this;have h2:aoff<C.size:=by
    rcases xCq aoff C.size with h|h
    ·exact h
    ·rw[Array.getElem?_eq_none h,xAA (by omega)] at this;cases this
   omega
  ·have ab:els.flatten.length-1<els.flatten.length:=by omega
   obtain⟨k,u,j,a1,a2,a3⟩:=zPr els hlen _ _ (xAA ab);obtain⟨v',q1,_⟩:=(g1 k u a1).2 j _ a2;have:=(xAV.1 q1).1;simp only[xAK] at this;simp only;omega) (λ i v hi=>by
  obtain⟨k,u,j,a1,a2,a3⟩:=zPr els hlen _ _ hi;obtain⟨v',q1,q2⟩:=(g1 k u a1).2 j _ a2;refine⟨v',?_,q2⟩;simp only[xAK] at q1;simp only;rw[a3,← Nat.add_assoc];exact q1)
 refine⟨_,_,.slice (some ⟨h1.qa,0,none⟩) els.length cap,.slice (some ⟨ablk,aoff,none⟩) len cap,els,aas,rfl,m1.trans m2,?_,?_,e1.mono λ u a r=>hR _ _ _ _ m2.ext r,by omega,_,_,_,rfl,by omega,by unfold maxLen at fG;unfold UNK;omega⟩
 ·have:=VR.slice (σ:=σ1.ext h1.qa ⟨ablk,aoff,0,0⟩) (b:=h1.qa) (l:=⟨ablk,aoff,0,0⟩) 0 len cap (Sg.ext_self ..) (by unfold maxLen at fG;unfold UNK;omega);rw[l1];exact this
 ·refine .row (vs:=els.flatten) (ty:=el) (es:=0) (ro:=true) (by rw[AH.get_new,xDO rfl]) (by simp) (by rw[cM];omega) λ i u hu=>⟨(g1 i u hu).1,by rw[xAK];exact zIB els hlen i u hu⟩
def zES{α:Type}{R:AH->List Value->α->Prop}(hR:∀ h k es a,Ext h k->R h es a->R k es a){t e:TypeId}{z n:Nat}(ht:P.underlying t=some (.slice e))(hz:0<z)(jK:P.cellsOf e=z)
  (step:∀ m,n=m+1->Step enc P w base held R m e) :
  ∀(cs:List Value) (x:DataW H×List MemPlace) (σ:Sg) (h:AH),h.ok->HR w.heap.size σ h w->DataW.trod enc P w base (λ _=>true) held n t cs=some x->
   ∃ σ' h' v v' els aas,cs=[v']/\More w σ h σ' h'/\VR σ' v v'/\Arr h' z v els/\Els (R h') els aas/\els.length<=9223372036854775807:=by
 intro cs x σ h aa hH cG;obtain⟨σ',h',v,v',els,aas,a,b,c,d,e,f,_⟩:=zHh hR ht hz jK step cs x σ h aa hH cG;exact⟨σ',h',v,v',els,aas,a,b,c,d,e,f⟩
end
end Go.Proofs
namespace Go.Proofs
open Go Go.AM
abbrev Ed:=Int×Int×Int
def etc(S:List Ed):List Value:=(S.map zQ).flatten
def zP4(S:List Ed):∀ u∈S.map zQ,u.length=3:=by
 intro u hu;obtain⟨e,_,rfl⟩:=xCv.1 hu;rfl
def zXr(S:List Ed):(etc S).length=S.length*3:=by
 have:=zGS (S.map zQ) (zP4 S);rw[xCY] at this;exact this
def CellE(h:AH)(c:Value)(S:List Ed):Prop:=(c=.slice none 0 0/\S=[])\/∃ b,c=.slice (some ⟨b,0,none⟩) S.length (UNK+3)/\h.get b=some (.row (etc S) 52 3 false)/\b<h.qa
structure LoL(loc:Nat)(h:AH)(bs:Nat)(cells:List Value)(EE:List (List Ed)):Prop where
 s:h.get bs=some (rO cells 23)
 len:cells.length=EE.length
 lts:bs<h.qa
 locs:loc<=bs
 cell:∀(i:Nat) (c:Value) (S:List Ed),cells[i]?=some c->EE[i]?=some S->CellE h c S
 blk:∀(i:Nat) (c:Value) (b:Nat),cells[i]?=some c->zY c b->b≠bs/\loc<=b
 dis:∀(i j:Nat) (c d:Value) (b:Nat),cells[i]?=some c->cells[j]?=some d->zY c b->zY d b->i=j
def CellE.lt{h:AH}{c:Value}{S:List Ed}(k:CellE h c S){b:Nat}(hb:zY c b):b<h.qa:=by
 obtain⟨n,cap,rfl⟩:=hb;rcases k with ⟨e,_⟩|⟨b',e,_,ab⟩
 ·cases e
 ·simp only[xBu,xAN,xCo] at e;rw[e.1.1];exact ab
def CellE.fx{P:Nat->Prop}{h h':AH}{c:Value}{S:List Ed}(k:CellE h c S)(f:Fx P h h')(hn:∀ b,zY c b->¬ P b):CellE h' c S:=by
 rcases k with e|⟨b,e,hg,ab⟩
 ·exact .inl e
 ·exact .inr ⟨b,e,(f.get b ab (hn b ⟨_,_,e⟩)).trans hg,xAC ab f.qa⟩
def CellE.leaf{h:AH}{c:Value}{S:List Ed}(k:CellE h c S):zl c=true/\zd c=[c]/\veq 100 c c=true:=by
 rcases k with ⟨rfl,_⟩|⟨b,rfl,_⟩ <;> exact⟨rfl,rfl,zAw _ _ _ _⟩
def CellE.arr{h:AH}{c:Value}{S:List Ed}(k:CellE h c S):Arr h 3 c (S.map zQ):=by
 rcases k with ⟨rfl,rfl⟩|⟨b,rfl,hg,ab⟩
 ·exact .nil _ _
 ·have:=Arr.row (z:=3) (c:=UNK+3) (o:=0) (els:=S.map zQ) hg ab (by rw[zXr,xCY];omega) (λ i e he=>⟨zP4 S e (xBI he),by rw[xAK];exact zIB _ (zP4 S) i e he⟩);rw[xCY] at this;exact this
def LoL.fx{P:Nat->Prop}{loc bs:Nat}{h h':AH}{cells:List Value}{EE:List (List Ed)}(G:LoL loc h bs cells EE)(f:Fx P h h')(h2:¬ P bs)(h3:∀(i:Nat) (c:Value) (b:Nat),cells[i]?=some c->zY c b->¬ P b):LoL loc h' bs cells EE:=
 ⟨(f.get bs G.lts h2).trans G.s,G.len,xAC G.lts f.qa,G.locs,λ i c S hc hS=>(G.cell i c S hc hS).fx f (λ b hb=>h3 i c b hc hb),G.blk,G.dis⟩
def LoL.same{loc bs:Nat}{h:AH}{cells:List Value}{EE:List (List Ed)}(G:LoL loc h bs cells EE)(w:Nat):LoL loc ⟨h.t,h.qa,w⟩ bs cells EE:=
 ⟨G.s,G.len,G.lts,G.locs,λ i c S hc hS=>G.cell i c S hc hS,G.blk,G.dis⟩
def zs1:Elt 23 52 3:=zGd zsz zQi zMQ (by kernel_rfl)
def mk49{n:Nat}(hn:n<=1000000){h:AH}:zAG E 49 (some (iI (n:Int))) (some (iI (n:Int))) h=one (.slice (some ⟨h.qa,0,none⟩) n n,h.new (.row (List.replicate n (.slice none 0 0)) 23 0 false)):=
 zGz (by obtain⟨i,a⟩:=zSr zEF z_23 (by kernel_rfl);exact⟨i,zsy,a⟩) rfl hn
def bs23{a b c:Value}{h:AH}:zg E 23 1 (some [(0,.agg #[a,b,c])]) h=one (.slice (some ⟨h.qa,0,none⟩) 1 1,h.new (rO [a,b,c] 52)):=by kernel_rfl
def zYi{h:AH}(aa:h.ok){c:Value}{S:List Ed}(hc:CellE h c S)(hS:S.length+1<=1000000)(e:Ed) :
  ∃ h3,zy E .append [23,23] (some [c,.slice (some ⟨h.qa,0,none⟩) 1 1]) (h.new (rO (zQ e) 52))=one (.slice (some ⟨h.qa+1,0,none⟩) (S.length+1) (UNK+3),h3) ∧
   h3.get (h.qa+1)=some (.row (etc (S++[e])) 52 3 false)/\h3.qa=h.qa+2/\Fx (λ x=>zY c x) h h3:=by
 have aw:=zD h (rO (zQ e) 52);have af:etc (S++[e])=etc S++zQ e:=by simp[etc]
 rcases hc with ⟨rfl,rfl⟩|⟨bl,rfl,hg,ab⟩
 ·refine⟨_,append_nil zs1 aw rfl,?_,rfl,((Fx.refl aa).new _).new _⟩;rw[af];exact zD (h.new _) _
 ·have dy:(h.new (rO (zQ e) 52)).get bl=some (.row (etc S) 52 3 false):=by rw[zG (by omega)];exact hg
  refine⟨_,zB8 zs1 (by omega) dy (zXr S) hS aw rfl (by simp[zQ,zl]),?_,rfl,?_⟩
  ·rw[af];exact zD ((h.new _).upd bl none) _
  ·have f1:Fx (λ x=>zY (.slice (some ⟨bl,0,none⟩) S.length (UNK+3)) x) h (h.new (rO (zQ e) 52)):=(Fx.refl aa).new _;exact (f1.upd (.inl ⟨_,_,rfl⟩) none).new _
def zIh:List (List Ed)->List Ed->List (List Ed)
 | EE,[]=>EE
 | EE,e::l=>zIh (EE.set e.1.toNat ((EE[e.1.toNat]?.getD [])++[e])) l
def outOf(L:GL):List (List Ed):=zIh (List.replicate L.n.toNat []) L.eds
def znc{k:AH}{x:Value}{L:GL}(aa:k.ok)(hx:RL k x L)(hL:zT L=false){N:Nat}(hN:L.n=(N:Int)) :
  Ev true ((zc E).call 24 [x] k) λ y=>∃ bs cells,y.1=.slice (some ⟨bs,0,none⟩) N N/\LoL k.qa y.2 bs cells (outOf L)/\cells.length=N/\(∀ S∈outOf L,S.length<=100000)/\Fx NoB k y.2:=by
 obtain⟨z1,z2,z3,z4⟩:=zf hL;obtain⟨vl,ve,els,rfl,x2,x3,x4⟩:=hx.ex;obtain⟨sb,sd,bJ⟩:=x4.slice;rw[xCY] at bJ;refine zmC (Rp:=λ v m=>∃ bs cells,v=.slice (some ⟨bs,0,none⟩) N N/\LoL k.qa m bs cells (outOf L)/\cells.length=N/\(∀ S∈outOf L,S.length<=100000)/\Fx NoB k m) (zlK ?_);obtain⟨k1,e1,n1,t1,o1,f1⟩:=nwF k (rO [iI L.n,vl,ve] 25);simp only[zU,zF,zK,zA,e1,zR];have l0:=zB (P:=E) zAE (o:=0) t1;simp only[lnth] at l0;refine zlJ ?_;obtain⟨k2,e2,n2,t2,o2,f2⟩:=nw o1 (.row (List.replicate N (.slice none 0 0)) 23 0 false);simp only[zAP,xCu,l0,zA,hN,mk49 (show N<=1000000 by omega),e2,zF];refine zlI ?_;have dM:∀(i:Nat) (c:Value),(List.replicate N (Value.slice none 0 0))[i]?=some c->c=.slice none 0 0:=λ i c h=>by
  rw[xAq] at h;split at h
  ·exact (xCc h).symm
  ·cases h
 have bZ:∀ c,¬ zY (.slice none 0 0) c:=by rintro c ⟨n,cap,h⟩;cases h
 have G0:LoL k.qa k2 k1.qa (List.replicate N (.slice none 0 0)) (List.replicate N []):=
  ⟨t2,by simp,by omega,by omega,λ i c S hc hS=>.inl ⟨dM i c hc,by rw[xAq] at hS;split at hS <;> simp_all⟩,λ i c b hc hb=>absurd (by rw[dM i c hc] at hb;exact hb) (bZ b),λ i j c d b hc hd hb _=>absurd (by rw[dM i c hc] at hb;exact hb) (bZ b)⟩
 have loop:∀(m j:Nat),j+m=L.eds.length->∀ kk cells EE,Own k kk->kk.get k.qa=some (rO [iI L.n,vl,ve] 25)->k.qa<k1.qa->LoL k.qa kk k1.qa cells EE->(∀(i:Nat) (c:Value) (b:Nat),cells[i]?=some c->zY c b->b≠k.qa)->cells.length=N->(∀ S∈EE,S.length<=j)->zIh EE (L.eds.drop j)=outOf L->
   zxm true (KR E [.tmp 2] λ v m=>(zm v=false\/m.wm<k.qa)/\(λ v m=>∃ bs cells,v=.slice (some ⟨bs,0,none⟩) N N/\LoL k.qa m bs cells (outOf L)/\cells.length=N/\(∀ S∈outOf L,S.length<=100000)/\Fx NoB k m) v ⟨m.t,m.qa,cond (Nat.ble k.wm m.wm) k.wm m.wm⟩) (.pointer (some ⟨k.qa,0,none⟩)) (.slice (some ⟨k1.qa,0,none⟩) N N) (iI (j:Int)) kk:=by
  intro m
  induction m with
  | zero=>
   intro j hj kk cells EE ho tb cj hG hnk hNc hlen hout;have l2:=zB (P:=E) zEF (o:=2) tb;simp only[lnth] at l2;rw[bJ] at l2;refine zSb ?_;simp only[zA7,xAK,l2,zA,zMz,zP,show decide ((j:Int)<(L.eds.length:Int))=false from xAI (by omega),zZ];refine zlE ?_;simp only[zA,zAC,zO,xDJ];have hO:EE=outOf L:=by rw[← hout,xAs (show L.eds.length<=j by omega)];rfl
   subst hO;refine⟨.inl rfl,k1.qa,cells,rfl,hG.same _,hNc,λ S hS=>by have:=hlen S hS;omega,?_⟩;refine⟨?_,ho.ext.qa,λ c hc _=>ho.ext.get c hc,λ m h1 _ h3=>?_⟩
   ·show cond (Nat.ble k.wm kk.wm) k.wm kk.wm<=kk.qa+UNK;have:=ho.ext.ok;unfold AH.ok at this;cases bv:Nat.ble k.wm kk.wm with
    | true=>rw[ble_true] at bv;simp only[xAG];omega
    | false=>exact this
   ·show m<=cond (Nat.ble k.wm kk.wm) k.wm kk.wm;have:=ho.wm;cases bv:Nat.ble k.wm kk.wm with
    | true=>exact h1
    | false=>simp only[xAH];omega
  | succ m ih=>
   intro j hj kk cells EE ho tb cj hG hnk hNc hlen hout;have aJ:j<L.eds.length:=by omega
   have l2:=zB (P:=E) zEF (o:=2) tb;simp only[lnth] at l2;refine zSb ?_;have l2':=l2;rw[bJ] at l2';simp only[zA7,xAK,l2',zA,zMz,zP,show decide ((j:Int)<(L.eds.length:Int))=true from xAJ (by omega),ze];refine zlH ?_;have fK:L.eds[j]?=some L.eds[j]:=xAA aJ;obtain⟨⟨f1',f2'⟩,_,_⟩:=zA1 hL fK;rw[zEu fK] at hout;generalize aC:L.eds[j]=e at hout f1' f2';have bM:(L.eds.map zQ)[j]?=some (zQ e):=by rw[xBi,fK,aC];rfl
   obtain⟨p1,q1,w1⟩:=zJk x4 ho.ext bM;obtain⟨k3,e3,n3,t3,o3,f3⟩:=zho ho (rO [iI 0,iI 0,iI 0] 52) (rO (zQ e) 52);simp only[zA7,xAK,l2,zA,q1,w1,zmk,zU,zF,zK,zQN,e3];refine zlG ?_;have fb:Fx NoB kk k3:=⟨o3.ext.ok,by omega,λ c hc _=>f3 c hc,λ m h1 _ h3=>by
    rw[← e3];exact zp (show m<=(kk.new _).wm from h1) h3⟩
   have be:=hG.fx fb (λ h=>h) (λ _ _ _ _ _ h=>h);have dr:=ho.ext.qa;have hk1k:=hG.lts;obtain⟨fr,iw⟩:=xAp f1';have bI:fr<cells.length:=by omega
   have dS:fr<EE.length:=by rw[← hG.len];exact bI
   have ac:cells[fr]?=some cells[fr]:=xAA bI;have bY:EE[fr]?=some EE[fr]:=xAA dS;have c0:=zB (P:=E) zAE (o:=0) t3;have ag:=zN (P:=E) zMQ (o:=0) t3 (by simp[zQ]);rw[show ((zQ e).drop 0).take 3=zQ e from rfl] at ag;simp only[lnth,zQ] at c0;rw[iw] at c0;have ls:=zB (P:=E) zEF (o:=0+fr*1) be.s;rw[zAI,show 0+fr*1=fr by omega,ac] at ls;have ia1:=zsh (b:=k1.qa) (o:=0) (c:=N) (len:=N) (k:=fr) (by omega);rw[show 0+fr*1=fr by omega] at ia1;have hC:=be.cell fr _ _ ac bY;obtain⟨clf,cc1,cveq⟩:=hC.leaf;have gZ:=hlen _ (xCF dS);obtain⟨h3,r1,r2,r3,r4⟩:=zYi o3.ext.ok hC (by omega) e;have f2x:Fx NoB k3 (k3.new (rO (zQ e) 52)):=(Fx.refl o3.ext.ok).new _;have hG2:=be.fx f2x (λ h=>h) (λ _ _ _ _ _ h=>h);have tb2:(k3.new (rO (zQ e) 52)).get kk.qa=_:=(zG (by omega)).trans t3;have d0:zb E 3 (k3.new (rO (zQ e) 52)) (sP kk.qa 0)=some (iI (fr:Int)):=by
    rw[zB (P:=E) zAE (o:=0) tb2];simp only[lnth,zQ,iw]
   have ls2:=zB (P:=E) zEF (o:=0+fr*1) hG2.s;rw[zAI,show 0+fr*1=fr by omega,ac] at ls2;have an:∀ x,zY cells[fr] x->x≠k1.qa/\k.qa<=x:=λ x hx=>be.blk fr _ x ac hx;have tb3:h3.get kk.qa=some (rO (zQ e) 52):=(r4.get kk.qa (by omega) (λ hx=>by have:=(hG.cell fr _ _ ac bY).lt hx;omega)).trans t3;have e0:=zB (P:=E) zAE (o:=0) tb3;simp only[lnth,zQ] at e0;rw[iw] at e0;have kR:h3.get k1.qa=_:=(r4.get k1.qa be.lts (λ hx=>(an _ hx).1 rfl)).trans be.s;have dh:=zi (P:=E) zwA (o:=fr) kR (zFr (some ⟨k3.qa+1,0,none⟩) (EE[fr].length+1) (UNK+3)) rfl (by omega) rfl;rw[zFL _ _ _ bI] at dh;have bs:zg E 23 1 (some [(0,.agg ⟨zQ e⟩)]) k3=one (.slice (some ⟨k3.qa,0,none⟩) 1 1,k3.new (rO (zQ e) 52)):=bs23;simp only[zA,zDU,xCu,c0,ia1,ls,ag,bs,zF,ls2,d0,cveq,zBF,xDJ,r1,e0,dh];refine zlF ?_;simp only[zA,zk _ (zCS aJ (by omega))];have f5:Fx (λ c=>c=k1.qa\/zY cells[fr] c) k3 (h3.upd k1.qa (some (.row (cells.set fr (.slice (some ⟨k3.qa+1,0,none⟩) (EE[fr].length+1) (UNK+3))) 23 0 false))):=
    (r4.mono (P':=λ c=>c=k1.qa\/zY cells[fr] c) (λ c hc=>.inl (.inr hc))).upd (.inl (.inl rfl)) _
   have o5:=f5.own o3 (λ c hc=>hc.elim (λ h=>by rw[h];exact hG.locs) λ h=>(an c h).2);have aQ:∀(i:Nat) (c:Value),(cells.set fr (.slice (some ⟨k3.qa+1,0,none⟩) (EE[fr].length+1) (UNK+3)))[i]?=some c->(i=fr/\c=.slice (some ⟨k3.qa+1,0,none⟩) (EE[fr].length+1) (UNK+3))\/(i≠fr/\cells[i]?=some c):=by
    intro i c hc;by_cases hi:i=fr
    ·subst hi;rw[xAt bI] at hc;exact .inl ⟨rfl,(xCc hc).symm⟩
    ·rw[xBM (λ h=>hi h.symm)] at hc;exact .inr ⟨hi,hc⟩
   have bi:∀ b,zY (.slice (some ⟨k3.qa+1,0,none⟩) (EE[fr].length+1) (UNK+3)) b->b=k3.qa+1:=by
    rintro b ⟨n,cap,h⟩;simp only[xBu,xAN,xCo] at h;exact h.1.1.symm
   have dB:∀(i:Nat) (c:Value) (b:Nat),cells[i]?=some c->zY c b->b<k3.qa:=λ i c b hc hb=>by
    have hi:i<EE.length:=by rw[← hG.len];exact (xAc.1 hc).1
    exact (be.cell i c _ hc (xAA hi)).lt hb
   refine ih (j+1) (by omega) _ (cells.set fr (.slice (some ⟨k3.qa+1,0,none⟩) (EE[fr].length+1) (UNK+3))) (EE.set fr (EE[fr]++[e])) o5 ?_ cj ?_ ?_ (by simp[hNc]) ?_ ?_
   ·rw[zL (by omega)];refine (r4.get k.qa (by omega) (λ hx=>hnk fr _ _ ac hx rfl)).trans ((f3 k.qa (by omega)).trans tb)
   ·refine⟨zH _ _ _,by simp[hG.len],?_,hG.locs,?_,?_,?_⟩
    ·show k1.qa<h3.qa;have:=be.lts;omega
    ·intro i c S hc hS;rcases aQ i c hc with ⟨rfl,rfl⟩|⟨hi,am⟩
     ·rw[xAt dS] at hS;cases hS;refine .inr ⟨k3.qa+1,by simp,?_,by show _<h3.qa;omega⟩;rw[zL (by have:=be.lts;omega)];exact r2
     ·rw[xBM (λ h=>hi h.symm)] at hS;refine (be.cell i c S am hS).fx f5 (λ b hb=>?_);rintro (rfl|aN)
      ·exact (be.blk i c _ am hb).1 rfl
      ·exact hi (be.dis i fr _ _ b am ac hb aN)
    ·intro i c b hc hb;rcases aQ i c hc with ⟨rfl,rfl⟩|⟨hi,am⟩
     ·rw[bi b hb];have:=be.lts;exact⟨by omega,by omega⟩
     ·exact be.blk i c b am hb
    ·intro i j' c d b hc hd hb aN;rcases aQ i c hc with ⟨hi,am⟩|⟨hi,am⟩ <;> rcases aQ j' d hd with ⟨dC,fF⟩|⟨dC,fF⟩
     ·rw[hi,dC]
     ·subst am;have:=dB j' d b fF aN;rw[bi b hb] at this;omega
     ·subst fF;have:=dB i c b am hb;rw[bi b aN] at this;omega
     ·exact be.dis i j' c d b am fF hb aN
   ·intro i c b hc hb;rcases aQ i c hc with ⟨rfl,rfl⟩|⟨hi,am⟩
    ·rw[bi b hb];omega
    ·exact hnk i c b am hb
   ·intro S hS;rcases List.mem_or_eq_of_mem_set hS with h|h
    ·have:=hlen S h;omega
    ·rw[h];simp;exact gZ
   ·rw[← hout];simp only[zIh,iw];rw[show ((fr:Int)).toNat=fr from rfl,bY];rfl
 refine loop L.eds.length 0 (by omega) k2 _ _ o2 ((f2 k.qa (by omega)).trans t1) (by omega) G0 (λ i c b hc hb=>absurd (by rw[dM i c hc] at hb;exact hb) (bZ b)) (by simp) (λ S hS=>by rw[List.eq_of_mem_replicate hS];simp) ?_;rw[xCe];show _=zIh (List.replicate L.n.toNat []) L.eds;rw[hN];rfl
abbrev i1(n:Int):List Value:=[iI n]
def zCc{h k:AH}{v:Value}{l:List Int}(ha:Arr h 1 v (l.map i1))(e:Ext h k){i:Nat}{n:Int}(hi:l[i]?=some n) :
  ∃ p,zV E 47 (some v) (some (iI (i:Int)))=some p/\zb E 3 k (some p)=some (iI n):=by
 have hx:(l.map i1)[i]?=some (i1 n):=by rw[xBi,hi];rfl
 obtain⟨b,o,c,vs,ty,es,ro,rfl,hb,ab,bK,hz,hl⟩:=ha.load hx;have ax:i<(l.map i1).length:=(xAc.1 hx).1;refine⟨_,zXe ax,?_⟩;rw[zB (P:=E) zAE ((e.get b ab).trans hb),zAI];have:((vs.drop (o+i*1)).take 1)[0]?=some (iI n):=by rw[hz];rfl
 rw[xAg (by omega),xBW] at this;simpa using this
def LS.arr{lo:Nat}{k:AH}{v:Value}{L:List Int}(h:LS lo k v L):Arr k 1 v (L.map i1):=by
 obtain⟨b,c,rfl,h1,h2,h3⟩:=h;have key:∀ es,k.get b=some (.row (ints L) 3 es false)->Arr k 1 (.slice (some ⟨b,0,none⟩) L.length c) (L.map i1):=by
  intro es hb;have:=Arr.row (z:=1) (c:=c) (o:=0) (els:=L.map i1) hb h2 (by simp[ints]) (λ i e he=>by
   rw[xBi] at he;obtain⟨n,hn,rfl⟩:=xAu.1 he;refine⟨rfl,?_⟩;have ax:i<L.length:=(xAc.1 hn).1;rw[show 0+i*1=i by omega,xAZ (by simpa[ints] using ax)];simp[ints,(xAc.1 hn).2])
  rw[xCY] at this;exact this
 rcases h3 with ⟨_,_,hb⟩|⟨_,hb⟩
 ·exact key _ hb
 ·exact key _ hb
def ztF{h0 k:AH}{v:Value}{l:List Int}{x:Int}(ha:Arr h0 1 v (l.map i1))(hn:l.length<=9223372036854775807)(hk:Ext h0 k) :
  (zc E).call 87 [v,iI x] k=some [(iI (zj (λ i=>decide (l[i]?=some x)) l.length 0),k)]:=by
 obtain⟨ad,c,hv⟩:=ha.slice;rw[xCY] at hv;refine zlu (s:=true) hk.ok rfl (zjZ ?_);refine zjY ?_;have loop:∀(m i:Nat),i+m=l.length->zxY true (KR E [.tmp 2] (λ y l'=>y=iI (zj (λ i=>decide (l[i]?=some x)) m i)/\k.qa<=l'.wm)) v (iI x) (iI (l.length:Int)) (iI (i:Int)) k.qb:=by
  intro m
  induction m with
  | zero=>
   intro i hi;refine zR7 ?_;simp only[zP,zA,zAV];refine⟨λ h=>by omega,λ _=>zjT ?_⟩;simp[zA,zAC,zO,zj]
  | succ m ih=>
   intro i hi;have ai:i<l.length:=by omega
   refine zR7 ?_;simp only[zP,zA,zAV];refine⟨λ _=>zjX ?_,λ h=>by omega⟩;refine zjW ?_;obtain⟨p,q1,q2⟩:=zCc ha hk.qb (xAA ai);simp only[zA,q1,q2,zAD,zAV];refine⟨λ h=>zjV ?_,λ h=>zjU ?_⟩
   ·simp only[zA,zAC,zO,xDJ,zj,xAA ai,← h,xDG,xDM];rw[zAN];omega
   ·simp only[zA,zk _ (zCS ai hn)];have:=ih (i+1) (by omega);have aj:decide (l[i]?=some x)=false:=xAI (by rw[xAA ai];intro e;exact h (xCc e).symm);simp only[zj,aj,xBX,xDI];exact this
 rw[hv];simp only[zA,zW7];rw[← hv];exact loop l.length 0 (by omega)
def zsq(a b c d:Int):zHf E 54 [iI a,iI b] [iI c,iI d]=zBE [iI a,iI b] [iI c,iI d]:=by kernel_rfl
def zo7{h k:AH}{v:Value}{els:List (List Value)}(ha:Arr h 2 v els)(e:Ext h k){i:Nat}{x:List Value}(hi:els[i]?=some x) :
  ∃ p,zV E 26 (some v) (some (iI (i:Int)))=some p/\zb E 54 k (some p)=some (.agg ⟨x⟩):=zEs zJt zV6 zLL ha e hi
def zxA{h k:AH}{v:Value}{els:List (List Value)}(ha:Arr h 2 v els)(e:Ext h k){i:Nat}{x:List Value}(hi:els[i]?=some x) :
  ∃ p,zV E 83 (some v) (some (iI (i:Int)))=some p/\zb E 32 k (some p)=some (.agg ⟨x⟩):=zEs zmn zoL zD1 ha e hi
def zqL{h0:AH}{v f:Value}{els:List (List Value)}{p:Nat->Bool}(ha:Arr h0 2 v els)(hn:els.length<=9223372036854775807)
  (hf:∀ k,Ext h0 k->∀ i e,els[i]?=some e->zAs (zc E) (some f) (some [.agg ⟨e⟩]) k=some [(.bool (p i),k)]) {k:AH} (hk:Ext h0 k) :
  (zc E).call 126 [v,f] k=some [(iI (zj p els.length 0),k)]:=by
 obtain⟨ad,c,hv⟩:=ha.slice;refine zge (s:=true) hk.ok rfl (zeY ?_);refine zeX ?_;have loop:∀(m i:Nat),i+m=els.length->zuu true (KR E [.tmp 2] (λ x l=>x=iI (zj p m i)/\k.qa<=l.wm)) v f (iI (els.length:Int)) (iI (i:Int)) k.qb:=by
  intro m
  induction m with
  | zero=>
   intro i hi;refine zOW ?_;simp only[zP,zA,zAV];refine⟨λ h=>by omega,λ _=>zeS ?_⟩;simp[zA,zAC,zO,zj]
  | succ m ih=>
   intro i hi;have ai:i<els.length:=by omega
   refine zOW ?_;simp only[zP,zA,zAV];refine⟨λ _=>zeW ?_,λ h=>by omega⟩;refine zeV ?_;obtain⟨q,q1,q2⟩:=zxA ha hk.qb (xAA ai);simp only[zA,q1,q2,hf _ hk.qb i _ (xAA ai),zJ,zAq];refine⟨λ h=>zeU ?_,λ h=>zeT ?_⟩
   ·simp only[zA,zAC,zO,xDJ,zj,h,xDM];rw[zAN];omega
   ·simp only[zA,zk _ (zCS ai hn),zj,h,xBX,xDI];exact ih (i+1) (by omega)
 rw[hv];simp only[zA,zTf];rw[← hv];exact loop els.length 0 (by omega)
def ztI{h0 k:AH}{e:List Value}{B:GB}(hr:RB h0 e B)(hk:Ext h0 k):(zc E).call 75 [.agg ⟨e⟩] k=some [(.bool (decide ((4000:Int)<(B.prs.length:Int))),k)]:=by
 obtain⟨vp,rfl,e2⟩:=hr.ex;obtain⟨ad,c,hv⟩:=e2.slice;rw[xCY] at hv;refine zlw (s:=true) hk.ok rfl (zjv ?_);obtain⟨k1,e1,n1,t1,o1,f1⟩:=nwF k (rO [iI B.kind,vp] 32);simp only[zU,zF,zK,zA,e1,zR];have l1:=zB (P:=E) zEc (o:=1) t1;simp only[lnth] at l1;rw[hv] at l1;refine zju ?_;simp only[zAZ,xAK,l1,zA,zXB,zAK,zAC,zO,xDJ];exact o1.wm
def zJ9(Bs:List GB)(i:Nat):Bool:=match Bs[i]? with
 | some B=>decide ((4000:Int)<(B.prs.length:Int))
 | none=>false
def ztS{h0 k:AH}{v:Value}{els:List (List Value)}{Bs:List GB}(ha:Arr h0 2 v els)(hn:els.length=Bs.length)(bK:els.length<=9223372036854775807)(hr:∀(i:Nat) (e:List Value) (B:GB),els[i]?=some e->Bs[i]?=some B->RB h0 e B)(hk:Ext h0 k) :
  (zc E).call 19 [v] k=some [(.bool (!decide (0<=zj (zJ9 Bs) els.length 0)),k)]:=by
 refine zmE (s:=true) hk.ok rfl (zlT ?_);refine zlS ?_;have h126:∀ k',Ext h0 k'->(zc E).call 126 [v,.func (.func 75) #[] #[]] k'=some [(iI (zj (zJ9 Bs) els.length 0),k')]:=λ k' eH=>zqL ha bK (λ k2 hk2 i e he=>by
  have ax:=(xAc.1 he).1;have hB:Bs[i]?=some Bs[i]:=xAA (by omega);rw[zM,ztI (hr i e _ he hB) hk2];simp only[zJ9,hB]) eH
 have h74:(zc E).call 74 [v,.func (.func 75) #[] #[]] k.qb=some [(.bool (decide (0<=zj (zJ9 Bs) els.length 0)),k.qb)]:=by
  refine zlx (s:=true) hk.qb.ok rfl (zjx ?_);refine zjw ?_;simp only[zA,zM,h126 _ hk.qb.qb,zJ,zBY,zAC,zO,xDJ];rw[zAN];omega
 simp only[zA,zM,h74,zJ,zq,zAC,zO,xDJ];rw[zAN];omega
end Go.Proofs
namespace Go.Proofs
open Go Go.AM Go.Sort
def zDm(p:Nat->Bool):∀(n i:Nat),(zj p n i=-1/\∀ j,i<=j->j<i+n->p j=false)\/∃ j,(i<=j/\j<i+n)/\zj p n i=(j:Int)/\p j=true/\∀ q,i<=q->q<j->p q=false
 | 0,i=>.inl ⟨rfl,λ j h1 h2=>by omega⟩
 | n+1,i=>by
  cases h:p i with
  | true=>exact .inr ⟨i,⟨xAF _,by omega⟩,by simp[zj,h],h,λ q h1 h2=>by omega⟩
  | false=>
   rcases zDm p n (i+1) with ⟨h1,h2⟩|⟨j,h1,h2,h3,h4⟩
   ·refine .inl ⟨by simp[zj,h,h1],λ j a b=>?_⟩;by_cases e:j=i
    ·rw[e];exact h
    ·exact h2 j (by omega) (by omega)
   ·refine .inr ⟨j,by omega,by simp[zj,h,h2],h3,λ q a b=>?_⟩;by_cases e:q=i
    ·rw[e];exact h
    ·exact h4 q (by omega) b
def zJ4(d:Dt)(i:Nat):zFT d=(d.toList.take i).flatMap zC++(d.toList.drop i).flatMap zC:=by
 unfold zFT;rw[← List.flatMap_append,xBD]
def zMO{α:Type}(l:List α)(i:Nat)(v:α)(hi:i<l.length):(l.set i v).take (i+1)=l.take i++[v]:=by
 rw[xBw,List.take_set,List.set_eq_of_length_le (by simp;omega),xAt hi];rfl
def zGR{d:Dt}{j:Nat}(h:j<d.size):d.toList[j]?=some d[j]!:=by
 rw[xCw d j h];simp[h]
def zLK{d:Dt}{j:Nat}(h:j<d.size):d.toList.take (j+1)=d.toList.take j++[d[j]!]:=by
 rw[xBw,zGR h];rfl
def zPI:∀ n,(rep n [iI 0,iI 0]).flatMap (zBR 4)=[]
 | 0=>rfl
 | n+1=>by simp only[rep,xBU,zPI n];rfl
structure Cut(b ty es:Nat)(k:AH)(v:Value)(m:AH)(l:List (Int×Int)):Prop where
 v:v=sl b l.length (UNK+2)
 row:∃ rest,m.get b=some (.row (l.flatMap zC++rest) ty es false)/\rest.flatMap (zBR 4)=[]
 fx:Fx (λ c=>c=b) k m
section
variable {b ty es:Nat} {k h0:AH} {d:Dt} {cf:Value} {f:Int×Int->Bool}
end
def zqb(p q:Int×Int):zAJ E .neq 54 (.agg ⟨zC p⟩) (.agg ⟨zC q⟩)=some (.bool (!decide (p=q))):=by
 obtain⟨a,b⟩:=p;obtain⟨c,d⟩:=q;have h:zHf E 54 (zC (a,b)) (zC (c,d))=some (decide ((a,b)=(c,d))):=by
  simp only[zC,zsq,zBE];by_cases h1:a=c <;> by_cases h2:b=d <;> simp[h1,h2,zEL,show keq IntKind.i64 IntKind.i64=true from rfl]
 unfold zAJ;simp only[h]
def dd(d:Dt):Nat->List (Int×Int)
 | 0=>[]
 | j+1=>if 0<j/\d[j]! = d[j-1]! then dd d j else dd d j++[d[j]!]
def zXw(d:Dt):∀(j q:Nat),q<j->d[q]!∈dd d j
 | 0,q,h=>by omega
 | j+1,q,h=>by
  simp only[dd];by_cases e:q=j
  ·subst e;split
   ·rename_i h2;rw[h2.2];exact zXw d q (q-1) (by omega)
   ·simp
  ·have:=zXw d j q (by omega);split
   ·exact this
   ·simp[this]
def zRg(d:Dt):∀(j:Nat) (p:Int×Int),p∈dd d j->∃ q,q<j/\d[q]! = p
 | 0,p,h=>by simp[dd] at h
 | j+1,p,h=>by
  simp only[dd] at h;split at h
  ·obtain⟨q,a,b⟩:=zRg d j p h;exact⟨q,by omega,b⟩
  ·rcases xCU.1 h with h|h
   ·obtain⟨q,a,b⟩:=zRg d j p h;exact⟨q,by omega,b⟩
   ·exact⟨j,by omega,(xBV.1 h).symm⟩
section
variable {b ty es:Nat} {k:AH} {d:Dt}
end
end Go.Proofs
namespace Go.Proofs
open Go Go.AM
def pbI{a b:Int}:zAT E 54 (some [(0,iI a),(1,iI b)])=some (.agg ⟨zC (a,b)⟩):=by kernel_rfl
def zoA{f a:Nat}{args:List Value}{h:AH}:zAs (zc E) (some (.func (.func f) #[] #[ptr a])) (some args) h=(zc E).call f (args++[ptr a]) h:=by
 rw[zE7];rfl
end Go.Proofs
namespace Go.Proofs
open Go Go.AM
def IS(lo:Nat)(h:AH)(v:Value)(l:List Int):Prop:=(v=.slice none 0 0/\l=[])\/LS lo h v l
def IS.arr{lo:Nat}{h:AH}{v:Value}{l:List Int}(x:IS lo h v l):Arr h 1 v (l.map i1):=by
 rcases x with ⟨rfl,rfl⟩|x
 ·exact .nil _ _
 ·exact x.arr
def LS.blk{lo:Nat}{h:AH}{v:Value}{l:List Int}(x:LS lo h v l){b:Nat}(hb:zY v b):lo<=b/\b<h.qa:=by
 obtain⟨c,cp,rfl,h1,h2,_⟩:=x;obtain⟨n,cap,e⟩:=hb;simp only[xBu,xAN,xCo] at e;rw[← e.1.1];exact⟨h1,h2⟩
def IS.blk{lo:Nat}{h:AH}{v:Value}{l:List Int}(x:IS lo h v l){b:Nat}(hb:zY v b):lo<=b/\b<h.qa:=by
 rcases x with ⟨rfl,_⟩|x
 ·obtain⟨n,cap,e⟩:=hb;cases e
 ·exact x.blk hb
def IS.mono{lo:Nat}{k k':AH}{v:Value}{L:List Int}(h:IS lo k v L)(hn:k.qa<=k'.qa)(hg:∀ b,b<k.qa->zY v b->k'.get b=k.get b):IS lo k' v L:=by
 rcases h with h|h
 ·exact .inl h
 ·exact .inr (h.mono hn λ b _ h2 h3=>hg b h2 h3)
def IS.slice{lo:Nat}{h:AH}{v:Value}{l:List Int}(x:IS lo h v l):∃ a c,v=.slice a l.length c:=by
 rcases x with ⟨rfl,rfl⟩|⟨b,c,rfl,_⟩
 ·exact⟨_,_,rfl⟩
 ·exact⟨_,_,rfl⟩
def IS.app{lo:Nat}{h:AH}{v:Value}{l:List Int}(x:IS lo h v l)(fA:lo<=h.qa)(hl:l.length<=999998)(u:Int) :
  ∃ m,zy E .append [47,47] (some [v,.slice (some ⟨h.qa,0,none⟩) 1 1]) (h.new (rO [iI u] 3))=one (.slice (some ⟨h.qa+1,0,none⟩) (l.length+1) (UNK+1),m) ∧
   LS lo m (.slice (some ⟨h.qa+1,0,none⟩) (l.length+1) (UNK+1)) (l++[u])/\m.qa=h.qa+2/\(h.ok->Fx (λ c=>zY v c) h m):=by
 have aw:=zD h (rO [iI u] 3);rcases x with ⟨rfl,rfl⟩|x
 ·refine⟨_,append_nil zh9 aw rfl,⟨h.qa+1,UNK+1,by simp,by omega,by show h.qa+1<h.qa+1+1;omega,.inr ⟨rfl,zD (h.new _) _⟩⟩,rfl,λ aa=>((Fx.refl aa).new _).new _⟩
 ·obtain⟨b0,c0,e0,df,jw,eB⟩:=x.ex;have xb:LS b0 h v l:=⟨b0,c0,e0,xAF _,jw,eB⟩;have x1:LS b0 (h.new (rO [iI u] 3)) v l:=xb.mono (by simp) λ b _ hb _=>zG (by omega);obtain⟨v',k1,a1,rfl,a3,a4,a5,a6,a7,a8⟩:=x1.app (by omega) aw;have e1:(h.new (rO [iI u] 3)).qa=h.qa+1:=rfl;rw[e1] at a1 a3 a4 a5;exact⟨k1,a1,⟨h.qa+1,UNK+1,by simp,by omega,by omega,.inr ⟨rfl,a4⟩⟩,by omega,λ aa=>⟨a6 (zBb aa _),by omega,λ c hc hn=>(a5 c (by omega) hn).trans (zG (by omega)),λ m h1 h2 h3=>a8 m h1 (h2 b0 ⟨_,_,e0⟩)⟩⟩
end Go.Proofs
namespace Go.Proofs
open Go Go.AM
def zMm:∀(l:List Ed) (EE:List (List Ed)) (i:Nat) (S:List Ed),(zIh EE l)[i]?=some S->∃ S0,EE[i]?=some S0/\∀ y,y∈S ↔ y∈S0\/(y∈l/\y.1.toNat=i)
 | [],EE,i,S,h=>⟨S,h,λ y=>by simp⟩
 | e::l,EE,i,S,h=>by
  simp only[zIh] at h;obtain⟨S0,h0,hS⟩:=zMm l _ i S h;by_cases hi:e.1.toNat=i
  ·subst hi;rw[xBp] at h0;simp only[xDM] at h0;split at h0
   ·rename_i ab;cases h0;refine⟨EE[e.1.toNat],xAA ab,λ y=>?_⟩;rw[hS y,xAA ab];simp only[xCH,xCU,xAQ,xCN,xDK];constructor
    ·rintro ((h|rfl)|⟨h1,h2⟩)
     ·exact .inl h
     ·exact .inr ⟨.inl rfl,rfl⟩
     ·exact .inr ⟨.inr h1,h2⟩
    ·rintro (h|⟨rfl|h1,h2⟩)
     ·exact .inl (.inl h)
     ·exact .inl (.inr rfl)
     ·exact .inr ⟨h1,h2⟩
   ·cases h0
  ·rw[xBM hi] at h0;refine⟨S0,h0,λ y=>?_⟩;rw[hS y];simp only[xAQ];constructor
   ·rintro (h|⟨h1,h2⟩)
    ·exact .inl h
    ·exact .inr ⟨.inr h1,h2⟩
   ·rintro (h|⟨rfl|h1,h2⟩)
    ·exact .inl h
    ·exact absurd h2 hi
    ·exact .inr ⟨h1,h2⟩
def zMk{L:GL}{i:Nat}{S:List Ed}(h:(outOf L)[i]?=some S)(y:Ed):y∈S ↔ y∈L.eds/\y.1.toNat=i:=by
 obtain⟨S0,h0,hS⟩:=zMm _ _ i S h;rw[xAq] at h0;split at h0
 ·cases h0;rw[hS y];simp
 ·cases h0
def zMl:∀(l:List Ed) (EE:List (List Ed)),(zIh EE l).length=EE.length
 | [],EE=>rfl
 | e::l,EE=>by simp only[zIh];rw[zMl l];simp
def zIf(L:GL):(outOf L).length=L.n.toNat:=by unfold outOf;rw[zMl];simp
def LoL.ext{lo bs:Nat}{g h:AH}{cells:List Value}{EE:List (List Ed)}(G:LoL lo g bs cells EE)(e:Ext g h):LoL lo h bs cells EE:=
 ⟨(e.get _ G.lts).trans G.s,G.len,xAC G.lts e.qa,G.locs,λ i c S hc hS=>by
  rcases G.cell i c S hc hS with h1|⟨b,h1,h2,h3⟩
  ·exact .inl h1
  ·exact .inr ⟨b,h1,(e.get b h3).trans h2,xAC h3 e.qa⟩,G.blk,G.dis⟩
end Go.Proofs
namespace Go.Proofs
open Go Go.AM
def zrY(e:Ed):veq 100 (.agg ⟨zQ e⟩) (.agg ⟨zQ e⟩)=true:=by
 show zHl 99 (zQ e) (zQ e)=true;simp only[zQ,zHl,zBF,xCm]
section
variable {k g0:AH} {lo1 lo2 a4 a5 a6 bs1 bs2:Nat} {L M:GL} {kind:Int} {prs:List (Int×Int)} {cells1 cells2:List Value} {vlL veL vlM veM vp:Value} {elsL elsM:List (List Value)}
def zs4{M:GL}(hM:zT M=false){i:Nat}{S:List Ed}(h:(outOf M)[i]?=some S):∀ y∈S,(0<=y.2.1/\y.2.1<M.labs.length)/\0<=y.2.2/\y.2.2<M.n:=by
 intro y hy;obtain⟨h1,_⟩:=(zMk h y).1 hy;obtain⟨j,hj⟩:=xBN h1;obtain⟨_,b,c⟩:=zA1 hM hj;exact⟨c,b⟩
end
end Go.Proofs
namespace Go.Proofs
open Go Go.AM
def zFa:List Int->List Int->Int
 | [],[]=>0
 | [],_::_=>-1
 | _::_,[]=>1
 | a::aas,b::bs=>if c3 a b=0 then zFa aas bs else c3 a b
mutual
def zrO:GT->List Int
 | .mk k n l=>k::n::(l.length:Int)::zVi l
def zVi:List GT->List Int
 | []=>[]
 | t::ts=>zrO t++zVi ts
end
def c3_zero{a b:Int}:c3 a b=0 ↔ a=b:=by
 unfold c3;split
 ·constructor
  ·intro h;cases h
  ·intro h;omega
 ·split
  ·constructor
   ·intro h;cases h
   ·intro h;omega
  ·constructor
   ·intro;omega
   ·intro;rfl
def c3_neg{a b:Int}:c3 a b<0 ↔ a<b:=by
 unfold c3;split
 ·constructor <;> intro <;> omega
 ·split <;> constructor <;> intro h <;> first|omega|(exfalso;revert h;decide)
mutual
def zRj:∀(t u:GT) (r r':List Int),zFa (zrO t++r) (zrO u++r')=if zLw t u=0 then zFa r r' else zLw t u
 | .mk k n l,.mk k' n' l',r,r'=>by
  simp only[zrO,xCL,zFa,zLw,orI];by_cases h1:c3 k k'=0
  ·by_cases h2:c3 n n'=0
   ·by_cases h3:c3 (l.length:Int) (l'.length:Int)=0
    ·have hlen:l.length=l'.length:=by have:=c3_zero.1 h3;omega
     simp only[h1,h2,h3,ne_eq,xBk,xDM,xDI];exact zRl l l' hlen r r'
    ·simp only[h1,h2,h3,ne_eq,xBk,xBx,xDM,xDI]
   ·simp only[h1,h2,ne_eq,xBk,xBx,xDM,xDI]
  ·simp only[h1,ne_eq,xBk,xBx,xDM,xDI]
def zRl:∀(l l':List GT),l.length=l'.length->∀(r r':List Int),zFa (zVi l++r) (zVi l'++r')=if zEf l l'=0 then zFa r r' else zEf l l'
 | [],[],_,r,r'=>by simp[zVi,zEf]
 | t::ts,u::us,h,r,r'=>by
  simp only[zVi,xBs,zEf];rw[zRj t u,zRl ts us (by simpa using h) r r'];by_cases h1:zLw t u=0 <;> simp[h1]
 | [],_::_,h,_,_=>by simp at h
 | _::_,[],h,_,_=>by simp at h
end
def zNQ:∀(l l':List GT),zFa (zVi l) (zVi l')=zEf l l'
 | [],[]=>rfl
 | [],.mk k n l::us=>by simp[zVi,zrO,zFa,zEf]
 | .mk k n l::ts,[]=>by simp[zVi,zrO,zFa,zEf]
 | t::ts,u::us=>by
  simp only[zVi,zEf];rw[zRj t u,zNQ ts us];by_cases h1:zLw t u=0 <;> simp[h1]
def kc(c:CL):List Int:=c.1::zVi c.2
def zFQ(c d:CL):zBd c.1 c.2 d.1 d.2=zFa (kc c) (kc d):=by
 simp only[zBd,orI,kc,zFa,zNQ];by_cases h:c3 c.1 d.1=0
 ·simp only[h,ne_eq,xBk,xDI,xDM];by_cases h2:zEf c.2 d.2=0
  ·rw[h2];simp
  ·simp[h2]
 ·simp[h]
def zH4:∀ a:List Int,zFa a a=0
 | []=>rfl
 | a::aas=>by simp[zFa,c3_zero.2 rfl,zH4 aas]
def zRE:∀ a b:List Int,(zFa a b<0 ↔ 0<zFa b a)
 | [],[]=>by simp[zFa]
 | [],_::_=>by simp[zFa]
 | _::_,[]=>by simp[zFa]
 | a::aas,b::bs=>by
  simp only[zFa];rcases Int.lt_trichotomy a b with h|h|h
  ·have h1:c3 a b=-1:=by unfold c3;rw[xDO h]
   have h2:c3 b a=1:=by unfold c3;rw[xDN (by omega),xDO h]
   simp[h1,h2]
  ·subst h;simp only[c3_zero.2 rfl,xDM];exact zRE aas bs
  ·have h1:c3 a b=1:=by unfold c3;rw[xDN (by omega),xDO h]
   have h2:c3 b a=-1:=by unfold c3;rw[xDO h]
   simp[h1,h2]
def zIr:∀ a b c:List Int,zFa a b<0->zFa b c<0->zFa a c<0
 | a,[],c,h1,h2=>by cases a <;> simp[zFa] at h1
 | [],b::bs,c,h1,h2=>by
  cases c with
  | nil=>simp[zFa] at h2
  | cons x xs=>simp[zFa]
 | a::aas,b::bs,c,h1,h2=>by
  cases c with
  | nil=>simp[zFa] at h2
  | cons x xs=>
   simp only[zFa] at h1 h2 ⊢;by_cases e1:c3 a b=0
   ·rw[xDO e1] at h1;have:=c3_zero.1 e1;subst this;by_cases e2:c3 a x=0
    ·rw[xDO e2] at h2 ⊢;exact zIr aas bs xs h1 h2
    ·rw[xDN e2] at h2 ⊢;exact h2
   ·rw[xDN e1] at h1;have hab:=c3_neg.1 h1;by_cases e2:c3 b x=0
    ·have:=c3_zero.1 e2;subst this;rw[xDN e1];exact h1
    ·rw[xDN e2] at h2;have eV:=c3_neg.1 h2;have:c3 a x<0:=c3_neg.2 (by omega);rw[xDN (by omega)];exact this
mutual
def zpi:∀ t u:GT,zLw t u=0->t=u
 | .mk k n l,.mk k' n' l',h=>by
  simp only[zLw,orI] at h;by_cases h1:c3 k k'=0
  ·by_cases h2:c3 n n'=0
   ·by_cases h3:c3 (l.length:Int) (l'.length:Int)=0
    ·simp only[h1,h2,h3,ne_eq,xBk,xDI] at h;rw[c3_zero.1 h1,c3_zero.1 h2,zQB l l' h]
    ·simp only[h1,h2,h3,ne_eq,xBk,xBx,xDM,xDI] at h
   ·simp only[h1,h2,ne_eq,xBk,xBx,xDM,xDI] at h
  ·simp only[h1,ne_eq,xBk,xBx,xDM,xDI] at h
def zQB:∀ l m:List GT,zEf l m=0->l=m
 | [],[],_=>rfl
 | [],_::_,h=>by simp[zEf] at h
 | _::_,[],h=>by simp[zEf] at h
 | t::ts,u::us,h=>by
  simp only[zEf] at h;by_cases h1:zLw t u=0
  ·simp only[h1,ne_eq,xBk,xDI] at h;rw[zpi t u h1,zQB ts us h]
  ·simp only[h1,ne_eq,xBx,xDM] at h
end
def clt(c d:CL):Prop:=zFa (kc c) (kc d)<0
def zhs{c d:CL}(h:zFa (kc c) (kc d)=0):c=d:=by
 rw[← zFQ] at h;obtain⟨g,l⟩:=c;obtain⟨g',l'⟩:=d;simp only[zBd,orI] at h;by_cases h1:c3 g g'=0
 ·simp only[h1,ne_eq,xBk,xDI] at h;have h2:zEf l l'=0:=by
   by_cases h3:zEf l l'=0
   ·exact h3
   ·simp[h3] at h
  rw[c3_zero.1 h1,zQB l l' h2]
 ·simp[h1] at h
abbrev zDr(cs:List CL):Prop:=cs.Pairwise clt
def zCN{ls:List CL}{c x:CL}{q:Nat}(h:ls[q]?=some x):zFV ls c q=zFa (kc x) (kc c):=by
 unfold zFV;rw[h];exact zFQ x c
def zGs{cs:List CL}(hs:zDr cs){i j:Nat}{x y:CL}(hx:cs[i]?=some x)(hy:cs[j]?=some y)(eQ:i<j):clt x y:=by
 obtain⟨h1,rfl⟩:=xAc.1 hx;obtain⟨h2,rfl⟩:=xAc.1 hy;exact xAe.1 hs i j h1 h2 eQ
def zQM{ls:List CL}(hs:zDr ls)(c:CL):∀(m i j:Nat),j<=i+m->i<=j->j<=ls.length->(∀ q,q<i->zFV ls c q<0)->(∀ q,j<=q->q<ls.length->0<=zFV ls c q)->
  zVl ls c m i j<=ls.length/\(∀ q,q<zVl ls c m i j->zFV ls c q<0)/\∀ q,zVl ls c m i j<=q->q<ls.length->0<=zFV ls c q
 | 0,i,j,h1,h2,h3,ha,hb=>by
  have:i=j:=by omega
  subst this;exact⟨h3,ha,hb⟩
 | m+1,i,j,h1,h2,h3,ha,hb=>by
  simp only[zVl];by_cases eQ:i<j
  ·rw[xDO eQ];have hq:(i+j) / 2<ls.length:=by omega
   obtain⟨x,hx⟩:∃ x,ls[(i+j) / 2]?=some x:=⟨_,xAA hq⟩;by_cases hc:zFV ls c ((i+j) / 2)<0
   ·rw[xDO hc];refine zQM hs c m _ j (by omega) (by omega) h3 (λ q eL=>?_) hb;by_cases e:q=(i+j) / 2
    ·rw[e];exact hc
    ·obtain⟨y,hy⟩:∃ y,ls[q]?=some y:=⟨_,xAA (by omega)⟩;rw[zCN hx] at hc;rw[zCN hy];exact zIr _ _ _ (zGs hs hy hx (by omega)) hc
   ·rw[xDN hc];refine zQM hs c m i _ (by omega) (by omega) (by omega) ha λ q hq1 hq2=>?_;by_cases e:q=(i+j) / 2
    ·rw[e];omega
    ·obtain⟨y,hy⟩:∃ y,ls[q]?=some y:=⟨_,xAA hq2⟩;rw[zCN hx] at hc;rw[zCN hy];have eJ:=zGs hs hx hy (by omega);rcases Int.lt_or_le (zFa (kc y) (kc c)) 0 with h|h
     ·exact absurd (zIr _ _ _ eJ h) hc
     ·exact h
  ·rw[xDN eQ];have:i=j:=by omega
   subst this;exact⟨h3,ha,hb⟩
def znf{ls:List CL}(hs:zDr ls)(c:CL):bsI ls c<=ls.length/\(∀ q,q<bsI ls c->zFV ls c q<0)/\∀ q,bsI ls c<=q->q<ls.length->0<=zFV ls c q:=
 zQM hs c ls.length 0 ls.length (by omega) (xDF _) (xAF _) (λ q h=>absurd h (Nat.not_lt_zero _)) (λ q h1 h2=>by omega)
def zIF{ls:List CL}(hs:zDr ls){c:CL}(hc:c∈ls):bsB ls c=true/\ls[bsI ls c]?=some c:=by
 obtain⟨q,hq⟩:=xBN hc;obtain⟨h1,h2,h3⟩:=znf hs c;have ik:=(xAc.1 hq).1;have hz:zFV ls c q=0:=by rw[zCN hq];exact zH4 _
 have bK:bsI ls c<=q:=by
  rcases xCq q (bsI ls c) with h|h
  ·have:=h2 q h;omega
  ·exact h
 have he:bsI ls c=q:=by
  rcases xCq (bsI ls c) q with h|h
  ·obtain⟨x,hx⟩:∃ x,ls[bsI ls c]?=some x:=⟨_,xAA (by omega)⟩;have h4:=h3 (bsI ls c) (xAF _) (by omega);rw[zCN hx] at h4;have h5:=zGs hs hx hq h;unfold clt at h5;omega
  ·omega
 refine⟨?_,by rw[he];exact hq⟩;unfold bsB;rw[he];simp[ik,hz]
def ztV{ls:List CL}{c:CL}(h:bsB ls c=true):ls[bsI ls c]?=some c:=by
 unfold bsB at h;simp only[xAP,xBl] at h;obtain⟨x,hx⟩:∃ x,ls[bsI ls c]?=some x:=⟨_,xAA h.1⟩;have h2:=h.2;rw[zCN hx] at h2;rw[hx,zhs h2]
def zor{cs:List CL}(hs:zDr cs)(c:CL):zDr (zOy cs c).2/\(∀ d∈cs,d∈(zOy cs c).2)/\(c.1≠-1->c∈(zOy cs c).2):=by
 unfold zOy;by_cases h:c.1=-1
 ·rw[xDO h];exact⟨hs,λ d hd=>hd,λ h2=>absurd h h2⟩
 ·rw[xDN h];simp only;by_cases hb:bsB cs c=true
  ·rw[xDO hb];exact⟨hs,λ d hd=>hd,λ _=>xBI (ztV hb)⟩
  ·rw[xDN hb];obtain⟨h1,h2,h3⟩:=znf hs c;have eG:cs=cs.take (bsI cs c)++cs.drop (bsI cs c):=(xBD _ _).symm;refine⟨?_,λ d hd=>?_,λ _=>by simp⟩
   ·rw[eG] at hs;obtain⟨p1,p2,p3⟩:=xBO.1 hs;refine xBO.2 ⟨p1,xBf.2 ⟨λ d hd=>?_,p2⟩,λ a ha d hd=>?_⟩
    ·obtain⟨q,hq⟩:=xBN hd;rw[xBW] at hq;have h4:=h3 (bsI cs c+q) (by omega) (xAc.1 hq).1;rw[zCN hq] at h4;have aj:zFa (kc d) (kc c)≠0:=by
      intro e;have:=zhs e;subst this;exact hb (zIF (by rw[eG];exact hs) (xBI hq)).1
     exact (zRE _ _).2 (by omega)
    ·rcases xCg.1 hd with rfl|hd
     ·obtain⟨q,hq⟩:=xBN ha;have ik:=(xAc.1 hq).1;rw[xCD] at ik;rw[xAg (by omega)] at hq;have h4:=h2 q (by omega);rw[zCN hq] at h4;exact h4
     ·exact p3 a ha d hd
   ·rw[eG,xCU] at hd;simp only[xCU,xAQ];rcases hd with hd|hd
    ·exact .inl hd
    ·exact .inr (.inr hd)
def zIk:∀(l:List CL) {cs:List CL},zDr cs->zDr (zB6 cs l).2/\(∀ d∈cs,d∈(zB6 cs l).2)/\∀ c∈l,c.1≠-1->c∈(zB6 cs l).2
 | [],cs,hs=>⟨hs,λ d hd=>hd,λ c hc=>by cases hc⟩
 | c::l,cs,hs=>by
  obtain⟨a1,a2,a3⟩:=zor hs c;obtain⟨b1,b2,b3⟩:=zIk l a1;simp only[zB6];refine⟨b1,λ d hd=>b2 d (a2 d hd),λ d hd h=>?_⟩;rcases xCg.1 hd with rfl|hd
  ·exact b2 _ (a3 h)
  ·exact b3 d hd h
def zAY(cs:List CL)(c:CL):Int:=if c.1=-1 then 0 else ((bsI cs c:Nat):Int)+1
def zGy:∀(l:List CL) {cs:List CL},zDr cs->(∀ c∈l,c.1≠-1->c∈cs)->zB6 cs l=(l.map (zAY cs),cs)
 | [],cs,_,_=>rfl
 | c::l,cs,hs,h=>by
  have h1:zOy cs c=(zAY cs c,cs):=by
   unfold zOy zAY;by_cases hc:c.1=-1
   ·rw[xDO hc,xDO hc]
   ·rw[xDN hc,xDN hc,xDO (zIF hs (h c (by simp) hc)).1]
  simp only[zB6,h1,zGy l hs λ d hd=>h d (by simp[hd]),xCi]
def zMn{cs:List CL}(hs:zDr cs){c d:CL}(hc:c.1≠-1->c∈cs)(hd:d.1≠-1->d∈cs)(h:zAY cs c=zAY cs d):(c.1=-1/\d.1=-1)\/c=d:=by
 unfold zAY at h;by_cases h1:c.1=-1
 ·by_cases h2:d.1=-1
  ·exact .inl ⟨h1,h2⟩
  ·rw[xDO h1,xDN h2] at h;omega
 ·by_cases h2:d.1=-1
  ·rw[xDN h1,xDO h2] at h;omega
  ·rw[xDN h1,xDN h2] at h;have e:bsI cs c=bsI cs d:=by omega
   have a:=(zIF hs (hc h1)).2;have b:=(zIF hs (hd h2)).2;rw[e,b] at a;exact .inr (xCc a).symm
abbrev zSt(nums:List Int)(e:Ed):Int×Int:=((nums[e.2.1.toNat]?).getD 0,e.2.2)
def zIT(nums:List Int):∀(l:List Ed) (SS:List za) (i:Nat) (S:za),(zDN nums SS l)[i]?=some S->∃ S0,SS[i]?=some S0/\∀ y,y∈S ↔ y∈S0\/∃ e∈l,e.1.toNat=i/\y=zSt nums e
 | [],SS,i,S,h=>⟨S,h,λ y=>by simp⟩
 | e::l,SS,i,S,h=>by
  simp only[zDN] at h;obtain⟨S0,h0,hS⟩:=zIT nums l _ i S h;by_cases hi:e.1.toNat=i
  ·subst hi;rw[xBp] at h0;simp only[xDM] at h0;split at h0
   ·rename_i ab;cases h0;refine⟨SS[e.1.toNat],xAA ab,λ y=>?_⟩;rw[hS y,xAA ab];simp only[xCH,xCU,xAQ,xCN,xDK];constructor
    ·rintro ((h|h)|⟨f,h1,h2⟩)
     ·exact .inl h
     ·exact .inr ⟨e,.inl rfl,rfl,h⟩
     ·exact .inr ⟨f,.inr h1,h2⟩
    ·rintro (h|⟨f,rfl|h1,h2,h3⟩)
     ·exact .inl (.inl h)
     ·exact .inl (.inr h3)
     ·exact .inr ⟨f,h1,h2,h3⟩
   ·cases h0
  ·rw[xBM hi] at h0;refine⟨S0,h0,λ y=>?_⟩;rw[hS y];simp only[xAQ];constructor
   ·rintro (h|⟨f,h1,h2⟩)
    ·exact .inl h
    ·exact .inr ⟨f,.inr h1,h2⟩
   ·rintro (h|⟨f,rfl|h1,h2,h3⟩)
    ·exact .inl h
    ·exact absurd h2 hi
    ·exact .inr ⟨f,h1,h2,h3⟩
def zIR{nums:List Int}{L:GL}{i:Nat}{S:za}(h:(zAO nums L)[i]?=some S)(y:Int×Int):y∈S ↔ ∃ e∈L.eds,e.1.toNat=i/\y=zSt nums e:=by
 obtain⟨S0,h0,hS⟩:=zIT nums _ _ i S h;rw[xAq] at h0;split at h0
 ·cases h0;rw[hS y];simp
 ·cases h0
def zCo{L:GL}(h:zT L=false){i:Nat}{c:CL}(hc:L.labs[i]?=some c)(h1:c.1=-1):c.2=[]:=by
 simp only[zT,xBJ] at h;have ab:=(xAc.1 hc).1;have:=zAr h.1.2 i (xDF _) (by omega);simp only[zBA,hc,xBJ,zAu,zQR,h1,xDG,Bool.or_true,xCk,xAk] at this;exact xAm.1 (by omega)
def zHg(L M:GL):List CL:=(zB6 (zB6 [] L.labs).2 M.labs).2
def zP7(L M:GL):zDr (zHg L M)/\(∀ c∈L.labs,c.1≠-1->c∈zHg L M)/\∀ c∈M.labs,c.1≠-1->c∈zHg L M:=by
 obtain⟨a1,a2,a3⟩:=zIk L.labs (cs:=[]) List.Pairwise.nil;obtain⟨b1,b2,b3⟩:=zIk M.labs a1;exact⟨b1,λ c h1 h2=>b2 c (a3 c h1 h2),b3⟩
def zI1(L M:GL):zGP [L,M]=[zAO (L.labs.map (zAY (zHg L M))) L,zAO (M.labs.map (zAY (zHg L M))) M]:=by
 obtain⟨h1,h2,h3⟩:=zP7 L M;show zET (zHg L M) [L,M]=_;simp only[zET,zGy L.labs h1 h2,zGy M.labs h1 h3]
def zS5{cs:List CL}{c:CL}(h:zAY cs c=0):c.1=-1:=by
 unfold zAY at h;split at h
 ·assumption
 ·omega
def zsE{B:GB}(h:zAt B=0):(B.kind=1\/B.kind=2)/\∀ p∈B.prs,0<=p.1/\0<=p.2:=by
 unfold zAt at h;split at h
 ·cases h
 ·rename_i h1;split at h
  ·cases h
  ·split at h
   ·cases h
   ·rename_i h3;refine⟨?_,λ p hp=>?_⟩
    ·simp[zBV] at h1;omega
    ·obtain⟨i,hi⟩:=xBN hp;have ab:=(xAc.1 hi).1;have:=zAr (Bool.eq_false_iff.2 h3) i (xDF _) (by omega);simp only[zA6,hi,xBJ,xAk] at this;omega
def zKd:∀(S:za) (l:List Int) (v:Int),v∈S.foldl zDq l->v∈l\/∃ y∈S,y.1=0/\y.2=v
 | [],l,v,h=>.inl h
 | y::S,l,v,h=>by
  rcases zKd S _ v h with h1|⟨z,h1,h2⟩
  ·unfold zDq at h1;split at h1
   ·rename_i hc;rcases xCU.1 h1 with h2|h2
    ·exact .inl h2
    ·exact .inr ⟨y,by simp,hc.1,(xBV.1 h2).symm⟩
   ·exact .inl h1
  ·exact .inr ⟨z,by simp[h1],h2⟩
end Go.Proofs
namespace Go.Proofs
open Go Go.AM Go.Sort
def zXx(d:Dt):∀ j,(dd d j).length<=j
 | 0=>xAF _
 | j+1=>by
  have:=zXx d j;simp only[dd];split
  ·omega
  ·simp;omega
def InR(L M:GL)(R:List (Int×Int)):Prop:=∀ p∈R,(0<=p.1/\p.1<L.n)/\(0<=p.2/\p.2<M.n)
def zHF{p q r:Int×Int}(h1:zDH p q<0)(h2:zDH q r<0):zDH p r<0:=by
 rw[zAp] at *;omega
def zBM(l:List (Int×Int)):Prop:=l.Pairwise λ p q=>zDH p q<0
def zV9{l:List (Int×Int)}(h:∀(j:Nat) (p q:Int×Int),l[j]?=some p->l[j+1]?=some q->zDH p q<0):zBM l:=by
 have:∀(m i:Nat) (p q:Int×Int),l[i]?=some p->l[i+1+m]?=some q->zDH p q<0:=by
  intro m
  induction m with
  | zero=>intro i p q hp hq;exact h i p q hp hq
  | succ m ih=>
   intro i p q hp hq;have ab:=(xAc.1 hq).1;obtain⟨r,hr⟩:∃ r,l[i+1+m]?=some r:=⟨_,xAA (by omega)⟩;exact zHF (ih i p r hp hr) (h _ r q hr hq)
 refine xAe.2 λ i j hi hj eQ=>?_;exact this (j-i-1) i _ _ (xAA hi) (by rw[show i+1+(j-i-1)=j by omega];exact xAA hj)
end Go.Proofs
namespace Go.Proofs
open Go Go.AM
abbrev Bs:=List UInt8
def digB(b:UInt8):Bool:=decide (48<=b.toNat)&&decide (b.toNat<=57)
def zv7:Nat->Bs->Nat
 | a,[]=>a
 | a,b::l=>zv7 (a*10+(b.toNat-48)) l
def zyn(w:Bs):Option Nat:=
 if w=[]\/7<w.length\/(w.head?=some 48/\1<w.length) then none else if w.all digB=true/\zv7 0 w<=1000000 then some (zv7 0 w) else none
def ziD(c:UInt8):Bs->Bs×Bs×Bool
 | []=>([],[],false)
 | b::l=>if b=c then ([],l,true) else (b::(ziD c l).1,(ziD c l).2)
def zwF(c:UInt8):Bs->List Bs
 | []=>[[]]
 | b::l=>if b=c then []::zwF c l else match zwF c l with
  | w::ws=>(b::w)::ws
  | []=>[[b]]
def zyt:List Bs->Option (List Nat)
 | []=>some []
 | w::ws=>match zyn w,zyt ws with
  | some n,some ns=>some (n::ns)
  | _,_=>none
def rowF(line:Bs):Option (Nat×List Nat):=match ziD 58 line with
 | (head,32::r,true)=>match zyn head,zyt (zwF 32 r) with
  | some s,some ts=>some (s,ts)
  | _,_=>none
 | _=>none
abbrev sV(l:Bs):Value:=.string ⟨l.toArray⟩
def sz(l:Bs):(⟨l.toArray⟩:ByteArray).size=l.length:=by show l.toArray.size=_;simp
def tl(l:Bs):(⟨l.toArray⟩:ByteArray).toList=l:=by rw[Lib.toList_data]
def ex(l:Bs)(i j:Nat):(⟨l.toArray⟩:ByteArray).extract i j=⟨((l.drop i).take (j-i)).toArray⟩:=by
 apply ByteArray.ext;apply xDH;rw[Lib.extract_data]
end Go.Proofs
namespace Go.Proofs
open Go Go.AM Go.RowKit
def zGw{P:Program}{α β:Type}{x:Sem α}{f:α->Sem β}:zAQ P (x >>= f)=(zAQ P x).bind λ a=>zAQ P (f a):=by
 show zAQ P (Sem.bind x f)=_
 induction x with
 | pure a=>rfl
 | program k ih=>exact ih P
 | mark m k ih=>exact ih
 | _=>rfl
def zFl{P:Program}{α:Type}(a:α):zAQ P (pure a:Sem α)=some a:=rfl
def zm7{P:Program}{α:Type}(c:Prop)[Decidable c](x y:Sem α):zAQ P (if c then x else y)=if c then zAQ P x else zAQ P y:=by split <;> rfl
def zhg{P:Program}{t:TypeId}{d:TypeDesc}(h:P.underlying t=some d):zAQ P (underlying t)=some d:=by
 unfold underlying;rw[zGw];show ((some P).bind λ a=>zAQ P (match a.underlying t with|some d=>pure d|none=>stuck "no such type"))=_;simp only[xCI,h];rfl
def zoh{P:Program}:zAQ P program=some P:=rfl
def zWk{P:Program}(d:Nat)(t:TypeId)(xs ys:Array Value)(ht:P.underlying t=some (.struct (P.fieldsOf t)))(hp:P.stoodInHeld t=false) :
  zAQ P (Op.equalIn (d+1) t (.agg xs) (.agg ys))=zAQ P (Op.eqFields d xs ys (P.fieldsOf t).toList):=by
 simp only[Op.equalIn,zGw,zhg ht,xCI,zoh,hp,xBX,xDI];rw[← Array.forIn_toList];generalize (P.fieldsOf t).toList=fs;clear ht
 induction fs with
 | nil=>simp[Op.eqFields,zFl]
 | cons f fs ih=>
  simp only[List.forIn_cons,Op.eqFields,zGw,zm7];split
  ·cases zAQ P (part f.type xs f.offset) with
   | none=>rfl
   | some a=>
    simp only[xCI];cases zAQ P (part f.type ys f.offset) with
    | none=>rfl
    | some b=>
     simp only[xCI];cases zAQ P (Op.equalIn d f.type a b) with
     | none=>rfl
     | some r=>
      cases r
      ·simp only[xCI,xAM,xDM,zFl]
      ·simp only[xCI,xAL,xBX,xDI,zFl];exact ih
  ·simp only[zFl,xCI];exact ih
def zrd:Tryz.prog.underlying 134=some (.struct (Tryz.prog.fieldsOf 134)):=by kernel_rfl
def zwb(d:Nat)(a b c e:Int):zAQ Tryz.prog (Op.equalIn (d+2) 134 (.agg #[iI a,iI b]) (.agg #[iI c,iI e]))=some (decide (a=c)&&decide (b=e)):=by
 have h3:∀(a b:Int),zAQ Tryz.prog (Op.equalIn (d+1) 3 (iI a) (iI b))=some (decide (a=b)):=λ a b=>by
  have:zAQ Tryz.prog (Op.equalIn (d+1) 3 (iI a) (iI b))=some (a==b):=by kernel_rfl
  rw[this];rfl
 obtain⟨f,g,hfs,eT,lJ,ix,iU,fV,lF⟩:∃ f g:Field,(Tryz.prog.fieldsOf 134).toList=[f,g]/\f.type=3/\f.offset=0/\(f.name=="_")=false/\g.type=3/\g.offset=1/\(g.name=="_")=false:=by
  refine⟨(Tryz.prog.fieldsOf 134).toList[0]!,(Tryz.prog.fieldsOf 134).toList[1]!,?_,?_,?_,?_,?_,?_,?_⟩ <;> kernel_rfl
 have p0:∀(x y:Int),zAQ Tryz.prog (part 3 #[iI x,iI y] 0)=some (iI x):=λ x y=>by kernel_rfl
 have p1:∀(x y:Int),zAQ Tryz.prog (part 3 #[iI x,iI y] 1)=some (iI y):=λ x y=>by kernel_rfl
 have nf:f.name≠"_":=by intro h;rw[h] at ix;simp at ix
 have ng:g.name≠"_":=by intro h;rw[h] at lF;simp at lF
 rw[zWk (d+1) 134 _ _ zrd (by kernel_rfl),hfs];simp only[Op.eqFields,zm7,zGw,eT,lJ,iU,fV,p0,p1,h3,xCI,zFl,ne_eq,nf,ng,xBx,xDM];by_cases h1:a=c <;> by_cases h2:b=e <;> simp[h1,h2]
def zhn{op:BinOp}{neg:Bool}{i j yt:Nat}{T:Tm}{o:Oper}{p q:Int×Int}(ho:o.op=.binOp op 134 (.tmp i) (.tmp j) yt)(hop:(op=.eql/\neg=false)\/(op=.neq/\neg=true))(hi:T.get i=.agg ⟨zC p⟩)(hj:T.get j=.agg ⟨zC q⟩) :
  zw E T o=some (.bool (xor neg (decide (p=q)))):=by
 obtain⟨a,b⟩:=p;obtain⟨c,d⟩:=q;have hn:∀ l l',zHf E 134 l l'=none:=λ l l'=>by
  unfold zHf;rw[show zo3 E 134=none by kernel_rfl]
 have hd:decide ((a,b)=(c,d))=(decide (a=c)&&decide (b=d)):=by by_cases h1:a=c <;> by_cases h2:b=d <;> simp[h1,h2]
 have he:zAQ Tryz.prog (Op.equal 134 (.agg #[iI a,iI b]) (.agg #[iI c,iI d]))=some (decide (a=c)&&decide (b=d)):=zwb 9998 a b c d;have hg:∀ u v,zAQ Tryz.prog (eqGuard .eql 134 (.tmp i) (.tmp j) (.agg u) (.agg v))=some ():=λ u v=>by kernel_rfl
 have dy:∀ u v,zAQ Tryz.prog (eqGuard .neq 134 (.tmp i) (.tmp j) (.agg u) (.agg v))=some ():=λ u v=>by kernel_rfl
 have hp:E.prog=Tryz.prog:=rfl;have f1:zr T (.tmp i)=true:=by show zm (T.get i)=true;rw[hi];rfl
 have f2:zr T (.tmp j)=true:=by show zm (T.get j)=true;rw[hj];rfl
 have r1:rho T (.tmp i)=.agg #[iI a,iI b]:=hi;have r2:rho T (.tmp j)=.agg #[iI c,iI d]:=hj;have ops:o.op.operands.toList.all (zr T)=true:=by rw[ho];simp[Op.operands,f1,f2]
 have ns:zD6 o.op=true:=by rw[ho];rfl
 have main:zAQ Tryz.prog (execOp (rho T) o)=some (.value (.bool (xor neg (decide (a=c)&&decide (b=d))))):=by
  rcases hop with ⟨rfl,rfl⟩|⟨rfl,rfl⟩
  ·simp only[execOp,ho,r1,r2,zGw,hg,xCI,binOp,he,zFl];rw[Bool.false_xor]
  ·simp only[execOp,ho,r1,r2,zGw,dy,xCI,binOp,he,zFl];rw[Bool.true_xor]
 rw[hd];have hb:zAJ E op 134 (rho T (.tmp i)) (rho T (.tmp j))=none:=by
  rw[r1,r2];unfold zAJ;simp only[hn]
 unfold zw;rw[ho];simp only[zom,hb,zH1,f1,f2,xCm,xAG,zCG,ops,ns,hp,main];rfl
def zWt(p q:Int×Int):zw E (zAc [(19,.agg ⟨zC p⟩),(24,.agg ⟨zC q⟩)]) (zA4 zF2 [1,1,0,1,0,0,1,0,0,0] 9)=some (.bool (decide (p=q))):=
 (zhn (op:=.eql) (neg:=false) (i:=19) (j:=24) (yt:=134) (p:=p) (q:=q) (by kernel_rfl) (.inl ⟨rfl,rfl⟩) (by kernel_rfl) (by kernel_rfl)).trans (by rw[Bool.false_xor])
def zos(p q:Int×Int):zw E (zAc [(38,.agg ⟨zC p⟩),(43,.agg ⟨zC q⟩)]) (zA4 zF2 [1,1,0,1,0,0,1,0,0,1,0,1,0,1,0,0,1,0,0,0] 9)=some (.bool (!decide (p=q))):=
 (zhn (op:=.neq) (neg:=true) (i:=38) (j:=43) (yt:=134) (p:=p) (q:=q) (by kernel_rfl) (.inr ⟨rfl,rfl⟩) (by kernel_rfl) (by kernel_rfl)).trans (by rw[Bool.true_xor])
def zwh(p q:Int×Int):zw E (zAc [(19,.agg ⟨zC p⟩),(23,.agg ⟨zC q⟩)]) (zA4 B91 [1,1,0,1,0,0,1,1,0,0,1,0] 8)=some (.bool (!decide (p=q))):=
 (zhn (op:=.neq) (neg:=true) (i:=19) (j:=23) (yt:=134) (p:=p) (q:=q) (by kernel_rfl) (.inr ⟨rfl,rfl⟩) (by kernel_rfl) (by kernel_rfl)).trans (by rw[Bool.true_xor])
def zss(p q:Int×Int):zw E (zAc [(4,.agg ⟨zC p⟩),(6,.agg ⟨zC q⟩)]) (zA4 zvF [1,0] 3)=some (.bool (decide (p=q))):=
 (zhn (op:=.eql) (neg:=false) (i:=4) (j:=6) (yt:=134) (p:=p) (q:=q) (by kernel_rfl) (.inl ⟨rfl,rfl⟩) (by kernel_rfl) (by kernel_rfl)).trans (by rw[Bool.false_xor])
end Go.Proofs
namespace Go.Proofs
open Go Go.AM
def RowB(k:AH)(b ty es:Nat)(d:Dt):Prop:=∃ rs,k.get b=some (.row (zFT d++rs) ty es false)/\rs.flatMap (zBR 4)=[]
def RowB.eq{k m:AH}{b ty es:Nat}{d:Dt}(e:m.get b=k.get b)(h:RowB k b ty es d):RowB m b ty es d:=let ⟨rs,a,c⟩:=h;⟨rs,e.trans a,c⟩
def RowB.of{k:AH}{b ty es:Nat}{d:Dt}(h:k.get b=some (.row (zFT d) ty es false)):RowB k b ty es d:=⟨[],by rw[xCb];exact h,rfl⟩
def zha(d:Dt)(rs:List Value){i:Nat}(hi:i<d.size):((zFT d++rs).drop (i*2)).take 2=zC d[i]!:=by
 rw[List.drop_append_of_le_length (by rw[zD3];omega),xAR (by rw[xCE,zD3];omega)];exact zHw d.toList i d[i]! (by simp[hi])
def zGN:∀(x y:List Value) (o:Nat) (z:List Value),o+z.length<=x.length->lput (x++y) o z=lput x o z++y
 | x,y,o,[],_=>by
  have e:∀(l:List Value) (o:Nat),lput l o []=l:=λ l o=>by cases l <;> cases o <;> rfl
  rw[e,e]
 | [],y,o,b::z,h=>by simp at h
 | a::x,y,0,b::z,h=>by
  have:=zGN x y 0 z (by simp at h;omega);show b::lput (x++y) 0 z=_;rw[this];rfl
 | a::x,y,o+1,b::z,h=>by
  have:=zGN x y o (b::z) (by simp at h ⊢;omega);show a::lput (x++y) o (b::z)=_;rw[this];rfl
def zhZ(d:Dt)(rs:List Value){i:Nat}(hi:i<d.size)(x:Int×Int):lput (zFT d++rs) (i*2) (zC x)=zFT (d.setIfInBounds i x)++rs:=by
 rw[zGN _ _ _ _ (by rw[zD3];simp[zC];omega)];unfold zFT;rw[zQv _ _ _ (by simpa using hi)];simp
structure SRt(b ty es:Nat)(k0:AH)(d0:Dt)(k:AH)(d:Dt):Prop where
 fx:Fx (λ c=>c=b) k0 k
 g:RowB k b ty es d
 wm:k.wm<=b\/d=d0
 wle:k.wm<=k0.wm
 sz:d.size=d0.size
 lt:b<k0.qa
section
variable {b ty es:Nat} {k0 k:AH} {d0 d:Dt}
def SRt.refl(hg:RowB k b ty es d)(hl:b<k.qa)(aa:k.ok):SRt b ty es k d k d:=⟨Fx.refl aa,hg,.inr rfl,xAF _,rfl,hl⟩
def SRt.qb(hg:RowB k b ty es d)(hl:b<k.qa):SRt b ty es k.qb d k.qb d:=SRt.refl hg hl (zAR k)
def SRt.l(R:SRt b ty es k0 d0 k d):b<k.qa:=xAC R.lt R.fx.qa
def SRt.ld(R:SRt b ty es k0 d0 k d){i:Nat}(hi:i<d.size):zb E 134 k (sP b (0+i*2))=some (.agg ⟨zC d[i]!⟩):=by
 obtain⟨rs,hg,_⟩:=R.g;rw[xAK,zN (P:=E) zEg hg (by rw[xBY,zD3];omega)];rw[zha d rs hi]
def SRt.stx(R:SRt b ty es k0 d0 k d){i:Nat}(hi:i<d.size)(x:Int×Int) :
  ∃ m,zAM E 134 k (sP b (0+i*2)) (some (.agg ⟨zC x⟩))=one (undef,m)/\SRt b ty es k0 d0 m (d.setIfInBounds i x)/\m.qa=k.qa/\∀ c,c≠b->m.get c=k.get c:=by
 obtain⟨rs,hg,eR⟩:=R.g;refine⟨_,by rw[xAK];exact zi (P:=E) zJu (cs:=zC x) hg rfl rfl (by rw[xBY,zD3];omega) (zm8 x),⟨R.fx.upd (.inl rfl) _,⟨rs,?_,eR⟩,.inl (zVr _ _ _).1,xCx (zVr _ _ _).2 R.wle,by simpa using R.sz,R.lt⟩,rfl,λ c hc=>zL hc⟩;rw[zH,zhZ d rs hi]
def SRt.st(R:SRt b ty es k0 d0 k d){i:Nat}(hi:i<d.size)(x:Int×Int) :
  ∃ m,zAM E 134 k (sP b (0+i*2)) (some (.agg ⟨zC x⟩))=one (undef,m)/\SRt b ty es k0 d0 m (d.setIfInBounds i x):=let ⟨m,e,h,_⟩:=R.stx hi x;⟨m,e,h⟩
end
section
variable {b ty es c:Nat} {k:AH} {d:Dt}
end
end Go.Proofs
namespace Go.Proofs
open Go Go.AM Go.Sort
def zQo:∀(d:List (Int×Int)) (rs:List Value),zmv d.length (d.flatMap zC++rs)=some d
 | [],rs=>rfl
 | x::d,rs=>by
  show (match zmv d.length (d.flatMap zC++rs) with|some l=>some ((x.1,x.2)::l)|none=>none)=_;rw[zQo d rs]
def zYC{b ty es c n:Nat}{k:AH}{d:Dt}{cm:Int×Int->Int×Int->Int}(hg:RowB k b ty es d)(ba:b<k.qa)(aa:k.ok)(hs:d.size=n)(hn:d.size<=1000000)(_:zu9 (.func (.func 176) #[] #[]) cm)(_:SWO (ltQ cm))(e1:ty=134:=by rfl)(e2:es=2:=by rfl)(e3:c=UNK+2:=by rfl)(e4:cm=zDH:=by rfl) :
  Ev true ((zc E).call 175 [sl b n c,.func (.func 176) #[] #[]] k) λ x=>∃ d',QP cm 0 n d x.1 d'/\SRt b ty es k d x.2 d':=by
 subst e1 e2 e3 e4 hs;obtain⟨rs,aw,dR⟩:=hg;have af:=zQo d.toList rs;rw[show d.toList.length=d.size from by simp] at af;have bh:E.sum 175 [sl b d.size (UNK+2),.func (.func 176) #[] #[]] k=some [(.tuple #[],k.upd b (some (.row ((zPC d.toList).flatMap zC++(zFT d++rs).drop (d.size*2)) 134 2 false)))]:=by
  show zF8 [.slice (some ⟨b,0,none⟩) d.size (UNK+2),.func (.func 176) ⟨[]⟩ ⟨[]⟩] k=_;unfold zF8;simp only[aw,show zmv d.size (zFT d++rs)=some d.toList from af,ble_true.2 hn,xCp,xCm,xAG];rfl
 rw[zLy zmF zgG bh,zJ];have hp:=pdq_sorts (ltQ zDH) zrs d 0 d.size d.size true true (xDF _) (xAF _) (Or.inl rfl);have hu:=sorted_unique_holds zrs (λ x y h1 h2=>by
  simp only[xAk,zAp] at h1 h2;exact Prod.ext (by omega) (by omega)) d _ hp.1 hp.2
 have ab:(λ x y=>!ltQ zDH y x)=λ x y=>!ltS y x:=by
  funext x y
  congr 1
  show decide (zDH y x<0)=(decide (y.1<x.1)||(decide (y.1=x.1)&&decide (y.2<x.2)));rw[xCT];simp[zAp]
 rw[ab] at hu;have dF:pdq (ltQ zDH) d 0 d.size d.size true true=(zPC d.toList).toArray:=xDH (by rw[hu];rfl);rw[dF] at hp;have hd:(zFT d++rs).drop (d.size*2)=rs:=by rw[← zD3 d,List.drop_left]
 rw[hd];refine⟨(zPC d.toList).toArray,⟨rfl,hp.1,hp.2⟩,Fx.upd (P:=λ c=>c=b) (Fx.refl aa) (.inl rfl) _,⟨rs,?_,dR⟩,.inl (zBr _ _ _).2,(zBr _ _ _).1,?_,ba⟩
 ·rw[zH];simp[zFT]
 ·unfold zPC;simp
section
variable {b ty es c:Nat} {k h0:AH} {d:Dt} {cf:Value} {f:Int×Int->Bool}
def zRq(hg:RowB k b ty es d)(ba:b<k.qa){n:Nat}(hs:d.size=n)(hn:d.size<=1000000)(he:Ext h0 k)(hf:zYs h0 cf f) :
  (zc E).call 220 [sl b n c,cf] k=some [(iI (zj (λ i=>f d[i]!) d.size 0),k)]:=by
 subst hs;refine zOm (s:=true) he.ok rfl (zJQ ?_)
 try simp only[zA]
 refine zJP ?_;simp only[zA,zFM];have R:=SRt.qb (ty:=ty) (es:=es) hg ba;have loop:∀(m i:Nat),i+m=d.size->znx true (KR E [.tmp 4] λ x l=>x=iI (zj (λ i=>f d[i]!) m i)/\k.qa<=l.wm) (sl b d.size c) cf (iI (d.size:Int)) (iI (i:Int)) k.qb:=by
  intro m
  induction m with
  | zero=>
   intro i hm;refine zE4 ?_;simp only[zP,zA,show decide ((i:Int)<(d.size:Int))=false from xAI (by omega),zZ];refine zJO ?_
   try simp only[zA]
   rw[zAC];exact⟨zO ▸ trivial,rfl,xCP _ _⟩
  | succ m ih=>
   intro i hm;refine zE4 ?_;simp only[zP,zA,show decide ((i:Int)<(d.size:Int))=true from xAJ (by omega),ze];refine zN7 ?_
   try simp only[zA]
   refine zN6 ?_;simp only[zA,zD8 (show i<d.size by omega),R.ld (i:=i) (by omega),hf _ _ he.qb,zJ];cases hfi:f d[i]! with
   | true=>
    simp only[ze];refine zN5 ?_
    try simp only[zA]
    rw[zAC];exact⟨zO ▸ trivial,by simp[zj,hfi],xCP _ _⟩
   | false=>
    simp only[zZ];refine zN4 ?_;simp only[zA,zL8 (show i+1<=9223372036854775807 by omega)];have:=ih (i+1) (by omega);simp only[zj,hfi,xBX,xDI];exact this
 exact loop d.size 0 (by omega)
end
def zXy{T:Tm}{o:Oper}{u v:Nat}{b n i:Nat}(ho:o.op=.slice 132 (.tmp u) (some (.tmp v)) none none)(h1:T.get u=.slice (some ⟨b,0,none⟩) n (UNK+2))(h2:T.get v=iI (i:Int))(hi:i<n) :
  zw E T o=some (.slice (some ⟨b,i*2,none⟩) (n-i) (UNK+2)):=by
 have f1:zr T (.tmp u)=false:=by show zm (T.get u)=false;rw[h1];rfl
 have o1:zAj T (.tmp u)=some (.slice (some ⟨b,0,none⟩) n (UNK+2)):=by show some (T.get u)=_;rw[h1]
 have o2:zBu T [.tmp v]=some [iI (i:Int)]:=by show some [T.get v]=_;rw[h2]
 have e:zw E T o=zEk E 132 (.slice (some ⟨b,0,none⟩) n (UNK+2)) (some (iI (i:Int))) none none:=by
  simp only[zw,ho,zIe,f1,xAH,xBg,xCf,o1,xBc,xBb,o2];rfl
 rw[e];simp only[zEk,zIO,sliceS,zJu,zGK,zE0];show zhC 2 (some ⟨b,0,none⟩) n (UNK+2) i n=_;have hu:Nat.ble UNK (UNK+2)=true:=ble_true.2 (by omega);have hc:Nat.beq (UNK+2) (UNK+2)=true:=xCp _;simp only[zhC,ble_true.2 (show i<=n by omega),xAG,hu,xBa,ble_true.2 (xAF n),hc,xCm,ble_false.2 hi,xAH];cases hz:Nat.beq i 0 with
 | true=>
  have:i=0:=xAw hz;subst this;rfl
 | false=>
  simp only[xAH,zGe,xAK]
def znW{T:Tm}{o:Oper}{u v:Nat}{b n i:Nat}(ho:o.op=.slice 132 (.tmp u) none (some (.tmp v)) none)(h1:T.get u=.slice (some ⟨b,0,none⟩) n (UNK+2))(h2:T.get v=iI (i:Int))(hi:i<=n) :
  zw E T o=some (.slice (some ⟨b,0,none⟩) i (UNK+2)):=by
 have f1:zr T (.tmp u)=false:=by show zm (T.get u)=false;rw[h1];rfl
 have o1:zAj T (.tmp u)=some (.slice (some ⟨b,0,none⟩) n (UNK+2)):=by show some (T.get u)=_;rw[h1]
 have o2:zBu T [.tmp v]=some [iI (i:Int)]:=by show some [T.get v]=_;rw[h2]
 have e:zw E T o=zEk E 132 (.slice (some ⟨b,0,none⟩) n (UNK+2)) none (some (iI (i:Int))) none:=by
  simp only[zw,ho,zIe,f1,xAH,xBg,xCf,o1,xBc,xBb,o2];rfl
 rw[e];simp only[zEk,zIO,sliceS,zJu,zGK,zE0];show zhC 2 (some ⟨b,0,none⟩) n (UNK+2) 0 i=_;have hu:Nat.ble UNK (UNK+2)=true:=ble_true.2 (by omega);have hc:Nat.beq (UNK+2) (UNK+2)=true:=xCp _;simp only[zhC,ble_true.2 (xDF i),xAG,hu,xBa,ble_true.2 hi,hc,xCm,show Nat.beq 0 0=true from rfl]
def zRn{h:AH}{b i m cp:Nat}{x y w:List Value}{ty es:Nat}(hb:h.get b=some (.row (x++y++w) ty es false))(hx:x.length=i*2)(hy:y.length=m*2)(hm:m≠0) :
  zy E .clear [132] (some [.slice (some ⟨b,i*2,none⟩) m cp]) h=one (.tuple #[],h.upd b (some (.row (x++(rep m [iI 0,iI 0]++w)) ty es false))):=by
 show zIM E 132 (.slice (some ⟨b,i*2,none⟩) m cp) h=_;have iq:Nat.beq m 0=false:=by cases m with|zero=>exact absurd rfl hm|succ m=>rfl
 simp only[zIM,elt132.el,iq,xAH,zIE,zO6,zJu,hb,zAL,xBY,hx,hy,zK];have h1:Nat.ble (i*2+m*2) (i*2+m*2+w.length)=true:=ble_true.2 (by omega);have h2:lput (x++y++w) (i*2) (rep m [iI 0,iI 0])=x++(rep m [iI 0,iI 0]++w):=by
  rw[zGN _ _ _ _ (by rw[zPH,xBY,hx,hy];simp),← hx,zLY _ _ _ (by rw[zPH,hy];rfl),xBs]
 simp only[h1,h2];rfl
def SRt.ldo{b ty es:Nat}{k0 k:AH}{d0 d:Dt}(R:SRt b ty es k0 d0 k d){i o:Nat}(hi:i<d.size)(ho:o=i*2):zb E 134 k (some (.pointer (some ⟨b,o,none⟩)))=some (.agg ⟨zC d[i]!⟩):=by
 have:=R.ld hi;rw[xAK] at this;rw[ho];exact this
def zsO:(zA4 zLC [1,1,1,1,0] 2).op=.slice 132 (.tmp 36) (some (.tmp 37)) none none:=by kernel_rfl
def zsN:(zA4 zLC [1,1,1,1,1,0] 2).op=.slice 132 (.tmp 39) none (some (.tmp 40)) none:=by kernel_rfl
def zpc{b n i:Nat}(hi:i<n):zw E (zAc [(36,sl b n (UNK+2)),(37,iI (i:Int))]) (zA4 zLC [1,1,1,1,0] 2)=some (.slice (some ⟨b,i*2,none⟩) (n-i) (UNK+2)):=zXy zsO (by kernel_rfl) (by kernel_rfl) hi
def zpb{b n i:Nat}(hi:i<=n):zw E (zAc [(39,sl b n (UNK+2)),(40,iI (i:Int))]) (zA4 zLC [1,1,1,1,1,0] 2)=some (.slice (some ⟨b,0,none⟩) i (UNK+2)):=znW zsN (by kernel_rfl) (by kernel_rfl) hi
section
variable {b ty es:Nat} {k h0:AH} {d:Dt} {cf:Value} {f:Int×Int->Bool}
def zp5(hg:RowB k b ty es d)(ba:b<k.qa){n:Nat}(hs:d.size=n)(hn:d.size<=1000000)(he:Ext h0 k)(df:h0.qa<=b)(hf:zYs h0 cf f) :
  Ev true ((zc E).call 179 [sl b n (UNK+2),cf] k) λ x=>Cut b ty es k x.1 x.2 (d.toList.filter λ p=>!f p):=by
 subst hs;by_cases d9:zj (λ i=>f d[i]!) d.size 0=-1
 ·have aD:d.toList.filter (λ p=>!f p)=d.toList:=by
   rcases zDm (λ i=>f d[i]!) d.size 0 with ⟨_,h2⟩|⟨j,_,h2,_,_⟩
   ·rw[xBS];intro p hp;obtain⟨j,hj⟩:=xBN hp;have kl:=(xAc.1 hj).1;have lq:j<d.size:=by simpa using kl
    rw[zGR lq] at hj;cases hj;have:f d[j]! = false:=h2 j (xDF _) (by omega);simp[this]
   ·rw[h2] at d9;omega
  refine zOo (Rp:=λ v m=>Cut b ty es k v m (d.toList.filter λ p=>!f p)) (zJV ?_)
  try simp only[zA]
  refine zJU ?_;simp only[zA,zM,zRq (k:=k.qb) hg ba rfl hn he.qb hf,zJ,d9];refine zJT ?_;simp only[zA,zAD,xDG,ze];refine zOD ?_
  try simp only[zA]
  rw[zAC,aD];obtain⟨rs,eS,hid⟩:=hg;exact⟨zO ▸ trivial,.inl rfl,by simp[sl],⟨rs,zHZ eS,hid⟩,(Fx.refl (zAR k)).back⟩
 ·obtain⟨i0,iv,hix,hfi,fA⟩:∃ j,j<d.size/\zj (λ i=>f d[i]!) d.size 0=(j:Int)/\f d[j]! = true/\∀ q,q<j->f d[q]! = false:=by
   rcases zDm (λ i=>f d[i]!) d.size 0 with ⟨h1,_⟩|⟨j,h1,h2,h3,h4⟩
   ·exact absurd h1 d9
   ·exact⟨j,by omega,h2,h3,λ q hq=>h4 q (xDF _) hq⟩
  refine zOo (Rp:=λ v m=>Cut b ty es k v m (d.toList.filter λ p=>!f p)) (zJV ?_)
  try simp only[zA]
  refine zJU ?_;simp only[zA,zM,zRq (k:=k.qb) hg ba rfl hn he.qb hf,zJ,hix];refine zJT ?_;simp only[zA,zAD,show decide ((i0:Int)=-1)=false from xAI (by omega),zZ];refine zcm ?_;simp only[zA,zL8 (show i0+1<=9223372036854775807 by omega)];have loop:∀(m j i:Nat) (d':Dt) (h:AH),j+m=d.size->i<j->SRt b ty es k.qb d h d'->d'.toList.take i=(d.toList.take j).filter (λ p=>!f p)->(∀ x,j<=x->x<d.size->d'[x]! = d[x]!)->
    zuc true (KR E [.tmp 4] (λ x l=>(zm x=false\/l.wm<k.qa)/\Cut b ty es k x ⟨l.t,l.qa,cond (Nat.ble k.wm l.wm) k.wm l.wm⟩ (d.toList.filter λ p=>!f p))) (sl b d.size (UNK+2)) cf (iI (i:Int)) (iI (j:Int)) h:=by
   intro m
   induction m with
   | zero=>
    intro j i d' h hm eQ R ht hx;have hsz:=R.sz;refine zOC ?_;simp only[zA,zKI,zP,show decide ((j:Int)<(d.size:Int))=false from xAI (by omega),zZ];refine zUA ?_;obtain⟨rs,eS,hid⟩:=R.g;have an:=zRn (i:=i) (m:=d.size-i) (cp:=UNK+2) (x:=(d'.toList.take i).flatMap zC) (y:=(d'.toList.drop i).flatMap zC) (w:=rs) (by rw[← zJ4];exact eS) (by rw[zBW];simp;omega) (by rw[zBW];simp;omega) (by omega);simp only[zA,zpc (show i<d.size by omega),an,zF];refine zT9 ?_;simp only[zA,zpb (show i<=d.size by omega)];have cM:d.toList.take j=d.toList:=xAD (by simp;omega);rw[cM] at ht;have hlen:(d.toList.filter λ p=>!f p).length=i:=by rw[← ht];simp;omega
    rw[zAC];have f1:=R.fx.upd (b:=b) (.inl rfl) (some (.row ((d'.toList.take i).flatMap zC++(rep (d.size-i) [iI 0,iI 0]++rs)) ty es false));have g1:=zH h b (some (.row ((d'.toList.take i).flatMap zC++(rep (d.size-i) [iI 0,iI 0]++rs)) ty es false));rw[ht] at f1 g1;rw[ht];generalize h.upd b (some (.row ((d.toList.filter λ p=>!f p).flatMap zC++(rep (d.size-i) [iI 0,iI 0]++rs)) ty es false))=hh at f1 g1;exact⟨zO ▸ trivial,.inl rfl,by rw[hlen],⟨_,zHZ g1,by rw[xBU,zPI,hid];rfl⟩,f1.back⟩
   | succ m ih=>
    intro j i d' h hm eQ R ht hx;have hsz:=R.sz;refine zOC ?_;simp only[zA,zKI,zP,show decide ((j:Int)<(d.size:Int))=true from xAJ (by omega),ze];refine zcl ?_;have hk:=R.fx.qa;obtain⟨h1,e1⟩:∃ h1,h.new (rO [iI 0,iI 0] 134)=h1:=⟨_,rfl⟩;obtain⟨h2,e2⟩:∃ h2,h1.upd h.qa (some (rO (zC d'[j]!) 134))=h2:=⟨_,rfl⟩;have bz:=zNX (k:=h) (p:=d'[j]!);rw[e1,e2] at bz;have R2:SRt b ty es k.qb d h2 d':=by
     have hl:=R.l;have dr:k.qb.qa<=h.qa:=hk;have g2:h2.get b=h.get b:=by rw[← e2,zL (by omega),← e1,zG (by omega)]
     have w1:h2.wm<=h.wm:=by rw[← e2];refine xCx (zVr _ _ _).2 ?_;rw[← e1];exact xAF _
     refine⟨?_,R.g.eq g2,?_,xCx w1 R.wle,R.sz,R.lt⟩
     ·rw[← e2,← e1];exact (R.fx.new _).upd (.inr dr) _
     ·rcases R.wm with w|w
      ·exact .inl (by omega)
      ·exact .inr w
    have t2:h2.get h.qa=some (rO (zC d'[j]!) 134):=by rw[← e2];exact zH _ _ _
    simp only[zA,zD8 (show j<d.size by omega),R.ld (i:=j) (by omega),zO6,zU,zF,zK,e1,bz];have hv:d'[j]! = d[j]!:=hx j (xAF _) (by omega);have lv:zb E 134 h2 (sP h.qa 0)=some (.agg ⟨zC d'[j]!⟩):=by
     have:=zN (P:=E) zEg (o:=0) t2 (by simp[zC]);exact this
    refine zck ?_;have ex2:Ext h0 h2:=R2.fx.ext1 he.qb df;simp only[zA,lv,hf _ _ ex2,zJ,zq];have kK:=zLK (d:=d) (j:=j) (by omega);cases hfj:f d'[j]! with
    | true=>
     simp only[xAL,zZ];refine zK1 ?_;simp only[zA,zL8 (show j+1<=9223372036854775807 by omega)];refine ih (j+1) i d' h2 (by omega) (by omega) R2 ?_ λ x a b=>hx x (by omega) b;rw[kK,xBh,← ht,← hv];simp[hfj]
    | false=>
     simp only[xAM,ze];refine zcj ?_;obtain⟨h3,q1,R3⟩:=R2.st (i:=i) (by omega) d'[j]!;simp only[zA,lv,zD8 (show i<d.size by omega),q1,zF];refine zci ?_;simp only[zA,zL8 (show i+1<=9223372036854775807 by omega)];refine zK1 ?_;simp only[zA,zL8 (show j+1<=9223372036854775807 by omega)];refine ih (j+1) (i+1) _ h3 (by omega) (by omega) R3 ?_ λ x a b=>?_
     ·rw[xAW,zMO _ _ _ (by simp;omega),ht,kK,xBh,← hv];simp[hfj]
     ·rw[← hx x (by omega) b];rw[xCw _ x (by simp;omega),xCw d' x (by omega),Array.getElem_setIfInBounds_ne (by omega) (by omega)]
  refine loop (d.size-(i0+1)) (i0+1) i0 d _ (by omega) (by omega) (SRt.qb hg ba) ?_ λ x _ _=>rfl;rw[zLK iv,xBh];have:(d.toList.take i0).filter (λ p=>!f p)=d.toList.take i0:=by
   rw[xBS];intro p hp;obtain⟨q,hq⟩:=xBN hp;have ik:=(xAc.1 hq).1;simp only[xCD,xBQ] at ik;rw[xAg (by omega),zGR (by omega)] at hq;cases hq;simp[fA q (by omega)]
  rw[this];simp[hfi]
end
def zsR:(zA4 zF2 [1,1,0,1,0,0,1,0,0,1,0,0] 2).op=.slice 132 (.tmp 26) (some (.tmp 27)) none none:=by kernel_rfl
def zsQ:(zA4 zF2 [1,1,0,1,0,0,1,0,0,1,0,1,1,0] 2).op=.slice 132 (.tmp 54) (some (.tmp 55)) none none:=by kernel_rfl
def zsP:(zA4 zF2 [1,1,0,1,0,0,1,0,0,1,0,1,1,1,0] 2).op=.slice 132 (.tmp 57) none (some (.tmp 58)) none:=by kernel_rfl
def zpf{b n i:Nat}(hi:i<n):zw E (zAc [(26,sl b n (UNK+2)),(27,iI (i:Int))]) (zA4 zF2 [1,1,0,1,0,0,1,0,0,1,0,0] 2)=some (.slice (some ⟨b,i*2,none⟩) (n-i) (UNK+2)):=zXy zsR (by kernel_rfl) (by kernel_rfl) hi
def zpe{b n i:Nat}(hi:i<n):zw E (zAc [(54,sl b n (UNK+2)),(55,iI (i:Int))]) (zA4 zF2 [1,1,0,1,0,0,1,0,0,1,0,1,1,0] 2)=some (.slice (some ⟨b,i*2,none⟩) (n-i) (UNK+2)):=zXy zsQ (by kernel_rfl) (by kernel_rfl) hi
def zpd{b n i:Nat}(hi:i<=n):zw E (zAc [(57,sl b n (UNK+2)),(58,iI (i:Int))]) (zA4 zF2 [1,1,0,1,0,0,1,0,0,1,0,1,1,1,0] 2)=some (.slice (some ⟨b,0,none⟩) i (UNK+2)):=znW zsP (by kernel_rfl) (by kernel_rfl) hi
section
variable {b ty es:Nat} {k:AH} {d:Dt}
def zYB(hg:RowB k b ty es d)(ba:b<k.qa){n:Nat}(hs:d.size=n)(hn:d.size<=1000000) :
  Ev true ((zc E).call 177 [sl b n (UNK+2)] k) λ x=>Cut b ty es k x.1 x.2 (dd d d.size):=by
 subst hs;have whole:dd d d.size=d.toList->∀ h,SRt b ty es k.qb d h d->KR E [.tmp 2] (λ x l=>(zm x=false\/l.wm<k.qa)/\Cut b ty es k x ⟨l.t,l.qa,cond (Nat.ble k.wm l.wm) k.wm l.wm⟩ (dd d d.size)) .ret [sl b d.size (UNK+2)] h:=by
  intro e h R;rw[zAC];obtain⟨rs,eS,hid⟩:=R.g;exact⟨zO ▸ trivial,.inl rfl,by rw[e];simp[sl],⟨rs,by rw[e];exact zHZ eS,hid⟩,R.fx.back⟩
 refine zgE (Rp:=λ v m=>Cut b ty es k v m (dd d d.size)) (zOI ?_)
 try simp only[zA]
 refine zOH ?_;simp only[zA,zKL,zP,zAV];have R0:SRt b ty es k.qb d k.qb d:=SRt.qb hg ba;have dd1:∀ j,(∀ q,1<=q->q<j->d[q]!≠d[q-1]!)->j<=d.size->dd d j=d.toList.take j:=by
  intro j
  induction j with
  | zero=>intro _ _;simp[dd]
  | succ j ih=>
   intro H hj;simp only[dd];rw[xDN (λ h=>H j (by omega) (by omega) h.2),ih (λ q a b=>H q a (by omega)) (by omega),zLK (by omega)]
 refine⟨λ h2=>zOG ?_,λ h2=>zct ?_⟩
 ·try simp only[zA]
  refine whole ?_ _ R0;rw[dd1 _ (λ q a b=>by omega) (xAF _)];exact xAD (by simp)
 try simp only[zA]
 have inner:∀(k0:Nat),1<=k0->k0<d.size->∀(m t w:Nat) (d':Dt) (h:AH),t+m=d.size->k0<t->w<t->SRt b ty es k.qb d h d'->d'.toList.take w=dd d t->(∀ x,t-1<=x->x<d.size->d'[x]! = d[x]!)->
   zud true (KR E [.tmp 2] (λ x l=>(zm x=false\/l.wm<k.qa)/\Cut b ty es k x ⟨l.t,l.qa,cond (Nat.ble k.wm l.wm) k.wm l.wm⟩ (dd d d.size))) (sl b d.size (UNK+2)) (iI (w:Int)) (.slice (some ⟨b,k0*2,none⟩) (d.size-k0) (UNK+2)) (iI ((t-k0:Nat):Int)) h:=by
  intro k0 hk0 dI m
  induction m with
  | zero=>
   intro t w d' h hm hkt hwt R ht hx;have hsz:=R.sz;refine zOE ?_;simp only[zA,zKJ,zP,show decide (((t-k0:Nat):Int)<((d.size-k0:Nat):Int))=false from xAI (by omega),zZ];refine zUE ?_;obtain⟨rs,eS,hid⟩:=R.g;have an:=zRn (i:=w) (m:=d.size-w) (cp:=UNK+2) (x:=(d'.toList.take w).flatMap zC) (y:=(d'.toList.drop w).flatMap zC) (w:=rs) (by rw[← zJ4];exact eS) (by rw[zBW];simp;omega) (by rw[zBW];simp;omega) (by omega);simp only[zA,zpe (show w<d.size by omega),an,zF];refine zUD ?_;simp only[zA,zpd (show w<=d.size by omega)];have e:t=d.size:=by omega
   subst e;have hlen:(dd d d.size).length=w:=by rw[← ht];simp;omega
   rw[zAC];have f1:=R.fx.upd (b:=b) (.inl rfl) (some (.row ((d'.toList.take w).flatMap zC++(rep (d.size-w) [iI 0,iI 0]++rs)) ty es false));have g1:=zH h b (some (.row ((d'.toList.take w).flatMap zC++(rep (d.size-w) [iI 0,iI 0]++rs)) ty es false));rw[ht] at f1 g1;rw[ht];generalize h.upd b (some (.row ((dd d d.size).flatMap zC++(rep (d.size-w) [iI 0,iI 0]++rs)) ty es false))=hh at f1 g1;exact⟨zO ▸ trivial,.inl rfl,by rw[hlen],⟨_,zHZ g1,by rw[xBU,zPI,hid];rfl⟩,f1.back⟩
  | succ m ih=>
   intro t w d' h hm hkt hwt R ht hx;have hsz:=R.sz;refine zOE ?_;simp only[zA,zKJ,zP,show decide (((t-k0:Nat):Int)<((d.size-k0:Nat):Int))=true from xAJ (by omega),ze];refine zcp ?_;have l1:=R.ldo (i:=t) (o:=k0*2+(t-k0)*2) (by omega) (by omega);have l2:=R.ldo (i:=t-1) (o:=k0*2+(t-k0-1)*2) (by omega) (by omega);simp only[zA,zD8 (show t-k0<d.size-k0 by omega),l1,zrt (show 1<=t-k0 by omega) (show t-k0<=9223372036854775807 by omega),zD8 (show t-k0-1<d.size-k0 by omega),l2,zWt,zos,hx t (by omega) (by omega),hx (t-1) (by omega) (by omega)];have eU:dd d (t+1)=if d[t]! = d[t-1]! then dd d t else dd d t++[d[t]!]:=by
    simp only[dd];by_cases e:d[t]! = d[t-1]!
    ·rw[xDO ⟨by omega,e⟩,xDO e]
    ·rw[xDN (λ h=>e h.2),xDN e]
   have az:t-k0+1=t+1-k0:=by omega
   by_cases e:d[t]! = d[t-1]!
   ·simp only[e,xDG,xAL,zZ];refine zK2 ?_;simp only[zA,zL8 (show t-k0+1<=9223372036854775807 by omega),az];exact ih (t+1) w d' h (by omega) (by omega) (by omega) R (by rw[eU,xDO e];exact ht) λ x a b=>hx x (by omega) b
   ·simp only[e,xCz,xAM,ze];refine zUG ?_;obtain⟨h3,q1,R3⟩:=R.st (i:=w) (by omega) d[t]!;simp only[zA,zD8 (show t-k0<d.size-k0 by omega),l1,hx t (by omega) (by omega),zD8 (show w<d.size by omega),q1,zF];refine zUF ?_;simp only[zA,zL8 (show w+1<=9223372036854775807 by omega)];refine zK2 ?_;simp only[zA,zL8 (show t-k0+1<=9223372036854775807 by omega),az];refine ih (t+1) (w+1) _ h3 (by omega) (by omega) (by omega) R3 ?_ λ x a b=>?_
    ·rw[xAW,zMO _ _ _ (by simp;omega),ht,eU,xDN e]
    ·rw[← hx x (by omega) b,xCw _ x (by simp;omega),xCw d' x (by omega),Array.getElem_setIfInBounds_ne (by omega) (by omega)]
 have outer:∀(m q:Nat),q+m=d.size->1<=q->(∀ x,1<=x->x<q->d[x]!≠d[x-1]!)->
   zue true (KR E [.tmp 2] (λ x l=>(zm x=false\/l.wm<k.qa)/\Cut b ty es k x ⟨l.t,l.qa,cond (Nat.ble k.wm l.wm) k.wm l.wm⟩ (dd d d.size))) (sl b d.size (UNK+2)) (iI (q:Int)) k.qb:=by
  intro m
  induction m with
  | zero=>
   intro q hm hq H;refine zOF ?_;simp only[zA,zKK,zP,show decide ((q:Int)<(d.size:Int))=false from xAI (by omega),zZ];refine zUB ?_
   try simp only[zA]
   refine whole ?_ _ R0;rw[dd1 _ (λ x a b=>H x a (by omega)) (xAF _)];exact xAD (by simp)
  | succ m ih=>
   intro q hm hq H;refine zOF ?_;simp only[zA,zKK,zP,show decide ((q:Int)<(d.size:Int))=true from xAJ (by omega),ze];refine zcs ?_;simp only[zA,zD8 (show q<d.size by omega),R0.ld (i:=q) (by omega),zrt hq (show q<=9223372036854775807 by omega),zD8 (show q-1<d.size by omega),R0.ld (i:=q-1) (by omega),zWt];by_cases e:d[q]! = d[q-1]!
   ·simp only[e,xDG,ze];refine zcr ?_;simp only[zA,zpf (show q<d.size by omega)];refine zcq ?_
    try simp only[zA]
    have:=inner q hq (by omega) m (q+1) q d k.qb (by omega) (by omega) (by omega) R0 (by
     simp only[dd];rw[xDO ⟨by omega,e⟩,dd1 q H (by omega)]) λ x _ _=>rfl
    rw[show q+1-q=1 by omega] at this;exact this
   ·simp only[e,xCz,zZ];refine zUC ?_;simp only[zA,zL8 (show q+1<=9223372036854775807 by omega)];refine ih (q+1) (by omega) (by omega) λ x a b=>?_;by_cases hxq:x=q
    ·rw[hxq];exact e
    ·exact H x a (by omega)
 exact outer (d.size-1) 1 (by omega) (xAF _) λ x a b=>by omega
end
end Go.Proofs
