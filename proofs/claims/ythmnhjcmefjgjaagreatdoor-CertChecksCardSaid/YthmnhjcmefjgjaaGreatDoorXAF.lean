import Derived.Test.YthmnhjcmefjgjaaGreatDoorXAE
import Derived.Test.YthmnhjcmefjgjaaGreatDoorXAD
set_option linter.all false
set_option linter.unusedSectionVars false
set_option autoImplicit true
set_option relaxedAutoImplicit true
set_option maxRecDepth 100000
set_option maxHeartbeats 1000000
namespace Go.Proofs
open Go Go.AM
def zHt(Ls:List GL)(i:Nat):Bool:=match Ls[i]? with
 | some L=>zT L
 | none=>false
def zsD:∀(e:List Value),e.length=3->lput [iI 0,.slice none 0 0,.slice none 0 0] 0 e=e:=by
 intro e he
 match e,he with
 | [x,y,z],_=>rfl
def RL.leafs{h:AH}{e:List Value}{L:GL}(r:RL h (.agg ⟨e⟩) L):e.all zl=true/\e.length=3:=by
 obtain⟨vl,ve,els,a,b,c,d⟩:=r.ex;obtain⟨x1,x2,rfl⟩:=b.slice;obtain⟨y1,y2,rfl⟩:=d.slice;simp only[Value.agg.injEq] at a;have:e=[iI L.n,.slice x1 els.length x2,.slice y1 (L.eds.map zQ).length y2]:=by
  have:=congrArg Array.toList a;simpa using this
 rw[this];simp[zl]
def zRp{h0 k:AH}{v:Value}{els:List (List Value)}{Ls:List GL}(ha:Arr h0 3 v els)(hn:els.length=Ls.length)(bK:els.length<=1000)(hr:∀(i:Nat) (e:List Value) (L:GL),els[i]?=some e->Ls[i]?=some L->RL h0 (.agg ⟨e⟩) L)(hk:Ext h0 k) :
  (zc E).call 70 [v] k=some [(iI (if zn (zHt Ls) els.length 0 then 8 else 0),k)]:=by
 obtain⟨ad,c,hv⟩:=ha.slice;subst hv;refine zl0 (s:=true) hk.ok rfl (zkL ?_);refine zkK ?_;simp only[zA,zXG];have loop:∀(m i:Nat),i+m=els.length->∀ l,Own k l->zxj true (KR E [.tmp 2] (λ x l=>x=iI (if zn (zHt Ls) m i then 8 else 0)/\k.qa<=l.wm)) (.slice ad els.length c) (iI (els.length:Int)) (iI (i:Int)) l:=by
  intro m
  induction m with
  | zero=>
   intro i hi l hl;refine zSD ?_;simp only[zP,zA,zAV];refine⟨λ h=>by omega,λ _=>zkF ?_⟩;simp[zA,zAC,zO,zn,hl.wm]
  | succ m ih=>
   intro i hi l hl;have ai:i<els.length:=by omega
   have aZ:i<Ls.length:=by omega
   refine zSD ?_;simp only[zP,zA,zAV];refine⟨λ _=>zkJ ?_,λ h=>by omega⟩;obtain⟨b,o,c',vs,ty,es,ro,hv,hb,ab,cQ,hz,bN⟩:=ha.load (xAA ai);simp only[xBu] at hv;obtain⟨bP,_,cq⟩:=hv;subst bP;have j6:=hr i _ _ (xAA ai) (xAA aZ);have fD:Ext h0 l:=hk.trans hl.ext;have gb:l.get b=some (.row vs ty es ro):=(fD.get b ab).trans hb;simp only[zA,zhw ai,zN zBT gb cQ,hz,zvI,zU,zF,zK];rw[zi (P:=E) zre (x:=.agg ⟨els[i]⟩) (cs:=els[i]) (zD l _) rfl bN (by simp) j6.leafs.1];simp only[zF];rw[zsD _ bN];have gz:=hl.ext.qa;have o2:=(hl.new (rO [iI 0,.slice none 0 0,.slice none 0 0] 25)).upd (b:=l.qa) gz (some (.row els[i] 25 0 false));have t2:((l.new (rO [iI 0,.slice none 0 0,.slice none 0 0] 25)).upd l.qa (some (.row els[i] 25 0 false))).get l.qa=some (.row els[i] 25 0 false):=zH _ _ _;generalize ((l.new (rO [iI 0,.slice none 0 0,.slice none 0 0] 25)).upd l.qa (some (.row els[i] 25 0 false)))=l2 at o2 t2;refine zkI ?_;have ca:=zN (P:=E) zBT (o:=0) t2 (by omega);rw[xCe,xAD (by omega)] at ca;simp only[ca,zA,zM,zqO j6 (hk.trans o2.ext),zJ,zAS];have aU:zHt Ls i=zT Ls[i]:=by unfold zHt;rw[xAA aZ]
   cases hb:zT Ls[i] with
   | true=>
    simp only[xDM,show (!decide ((8:Int)=0))=true from rfl,ze];refine zkH ?_;simp[zA,zAC,zO,zn,aU,hb,o2.wm]
   | false=>
    simp only[xBX,xDI,xDG,xAL,zZ];refine zkG ?_;simp only[zk _ (zCS ai (by omega)),zA];have:=ih (i+1) (by omega) l2 o2;simp only[zn,aU,hb,xCn];simpa using this
 exact loop els.length 0 (by omega) _ (Own.qb k)
def zBV(k:Int):Bool:=decide (k=1)||decide (k=2)
def zL1{k:AH}{a:Int}(aa:k.ok):(zc E).call 105 [iI a] k=some [(.bool (zBV a),k)]:=by
 refine zgm (s:=true) aa rfl (zfB ?_);refine zfA ?_;simp only[zA,zAD];by_cases c:a=1
 ·simp[c,zBV,zA,zI,zE,zAC,zO]
 ·simp[c,zBV,zA,zI,zE,zAC,zO,zAD]
def zC(p:Int×Int):List Value:=[iI p.1,iI p.2]
def zDH(p q:Int×Int):Int:=orI [c3 p.1 q.1,c3 p.2 q.2]
def zD9{b o:Nat}:zV E 54 (some (.pointer (some ⟨b,o,none⟩))) (some (iI 0))=some (.pointer (some ⟨b,o+0,none⟩)):=zsg (k:=0) (by omega)
def zEb{b o:Nat}:zV E 54 (some (.pointer (some ⟨b,o,none⟩))) (some (iI 1))=some (.pointer (some ⟨b,o+1,none⟩)):=zsg (k:=1) (by omega)
def zqN{k:AH}{e f:Int×Int}(aa:k.ok):(zc E).call 122 [.agg ⟨zC e⟩,.agg ⟨zC f⟩] k=some [(iI (zDH e f),k)]:=by
 refine zgi (s:=true) aa rfl (zeq ?_);simp only[zU,zF,zK,zA];refine zep ?_;have o1:=((Own.qb k).new (rO (zC e) 54)).new (rO (zC f) 54);have t1:((k.qb.new (rO (zC e) 54)).new (rO (zC f) 54)).get k.qa=some (rO (zC e) 54):=by
  rw[zG (by simp)];exact zD k.qb _
 have t2:((k.qb.new (rO (zC e) 54)).new (rO (zC f) 54)).get (k.qa+1)=some (rO (zC f) 54):=zD (k.qb.new _) _;simp only[zR,AH.next_new];generalize ((k.qb.new (rO (zC e) 54)).new (rO (zC f) 54))=k1 at o1 t1 t2;have l0:=zB (P:=E) zAE (o:=0) t1;have l1:=zB (P:=E) zAE (o:=1) t1;have m0:=zB (P:=E) zAE (o:=0) t2;have m1:=zB (P:=E) zAE (o:=1) t2;simp only[lnth,zC] at l0 l1 m0 m1;simp only[zD9,zEb,xCu,xAK,l0,l1,m0,m1,zA,zM,zJF o1.ext.ok,zJ,zBF,xDJ,zYV,zF];rw[or2 o1.ext.ok];simp only[zJ,zA,zAC,zO,xDJ];exact⟨rfl,o1.wm⟩
structure GB where
 kind:Int
 prs:List (Int×Int)
structure RB(h:AH)(e:List Value)(B:GB):Prop where
 ex:∃ vp,e=[iI B.kind,vp]/\Arr h 2 vp (B.prs.map zC)
def RB.ext{h k:AH}{e:List Value}{B:GB}(r:RB h e B)(x:Ext h k):RB k e B:=let ⟨v,a,b⟩:=r.ex;⟨v,a,b.ext x⟩
def zA6(ps:List (Int×Int))(i:Nat):Bool:=match ps[i]? with
 | some p=>decide (p.1<0)||decide (p.2<0)||(decide (0<i)&&match ps[i-1]? with
  | some q=>decide (0<=zDH q p)
  | none=>false)
 | none=>false
def zAt(B:GB):Int:=if zBV B.kind=false then 361 else if 200000<B.prs.length then 360 else if zn (zA6 B.prs) B.prs.length 0 then 360 else 0
def zPy(Bs:List GB)(i:Nat):Int:=match Bs[i]? with
 | some B=>zAt B
 | none=>0
def zBq(Bs:List GB):Nat->Nat->Int
 | 0,_=>0
 | m+1,i=>if zPy Bs i≠0 then zPy Bs i else zBq Bs m (i+1)
abbrev kfe(k:AH)(n:Int):KF:=KR E [.tmp 2] (λ x m=>x=iI n/\k.qa<=m.wm)
def zwa:∀(e:List Value),e.length=2->lput [iI 0,iI 0] 0 e=e:=by
 intro e he
 match e,he with
 | [x,y],_=>rfl
def ztK{h0 k:AH}{v:Value}{els:List (List Value)}{Bs:List GB}(ha:Arr h0 2 v els)(hn:els.length=Bs.length)(bK:els.length<=1000)(hr:∀(i:Nat) (e:List Value) (B:GB),els[i]?=some e->Bs[i]?=some B->RB h0 e B)(hk:Ext h0 k) :
  (zc E).call 71 [v] k=some [(iI (zBq Bs els.length 0),k)]:=by
 obtain⟨ad,c,hv⟩:=ha.slice;subst hv;refine zlz (s:=true) hk.ok rfl (zkE ?_);refine zkD ?_;simp only[zA,zXF];have loop:∀(m i:Nat),i+m=els.length->∀ l,Own k l->zxi true (kfe k (zBq Bs m i)) (.slice ad els.length c) (iI (els.length:Int)) (iI (i:Int)) l:=by
  intro m
  induction m with
  | zero=>
   intro i hi l hl;refine zSC ?_;simp only[zP,zA,zAV];refine⟨λ h=>by omega,λ _=>zZW ?_⟩;simp[zA,zAC,zO,zBq,hl.wm]
  | succ m ih=>
   intro i hi l hl;have ai:i<els.length:=by omega
   have aZ:i<Bs.length:=by omega
   refine zSC ?_;simp only[zP,zA,zAV];refine⟨λ _=>zkC ?_,λ h=>by omega⟩;obtain⟨b,o,c',vs,ty,es,ro,hv,hb,ab,cQ,hz,bN⟩:=ha.load (xAA ai);simp only[xBu] at hv;obtain⟨bP,_,cq⟩:=hv;subst bP;obtain⟨vp,aS,iA⟩:=(hr i _ _ (xAA ai) (xAA aZ)).ex;have aU:zPy Bs i=zAt Bs[i]:=by unfold zPy;rw[xAA aZ]
   generalize hB:Bs[i]=B at aS iA aU;obtain⟨ap,cp,c9⟩:=iA.slice;rw[xCY] at c9;subst c9;rw[aS] at hz bN;have fD:Ext h0 l:=hk.trans hl.ext;have gb:l.get b=some (.row vs ty es ro):=(fD.get b ab).trans hb;simp only[zA,zxB ai,zN zD1 gb cQ,hz,zSo,zU,zF,zK];rw[zi (P:=E) zoL (x:=.agg ⟨[iI B.kind,.slice ap B.prs.length cp]⟩) (cs:=[iI B.kind,.slice ap B.prs.length cp]) (zD l _) rfl bN (by simp) (by simp[zl])];simp only[zF];rw[zyl _ bN];have gz:=hl.ext.qa;have o2:=(hl.new (rO [iI 0,.slice none 0 0] 32)).upd (b:=l.qa) gz (some (rO [iI B.kind,.slice ap B.prs.length cp] 32));have t2:((l.new (rO [iI 0,.slice none 0 0] 32)).upd l.qa (some (rO [iI B.kind,.slice ap B.prs.length cp] 32))).get l.qa=some (rO [iI B.kind,.slice ap B.prs.length cp] 32):=zH _ _ _;have n2:((l.new (rO [iI 0,.slice none 0 0] 32)).upd l.qa (some (rO [iI B.kind,.slice ap B.prs.length cp] 32))).qa=l.qa+1:=rfl;generalize ((l.new (rO [iI 0,.slice none 0 0] 32)).upd l.qa (some (rO [iI B.kind,.slice ap B.prs.length cp] 32)))=l2 at o2 t2 n2;refine zkB ?_;have c0:=zB (P:=E) zAE (o:=0) t2;have c1:=zB (P:=E) zEc (o:=1) t2;simp only[lnth] at c0 c1;simp only[zDV,xCu,c0,zA,zM,zL1 o2.ext.ok,zJ,zq];cases hm:zBV B.kind with
   | false=>
    have aC:zPy Bs i=361:=by rw[aU];unfold zAt;rw[xDO hm]
    simp only[xAM,ze];refine zkA ?_;simp[zA,zAC,zO,zBq,aC,o2.wm]
   | true=>
    simp only[xAL,zZ];refine zj9 ?_;simp only[zAZ,xAK,c1,zA,zXE,zAK,zAV];refine⟨λ jT=>zj8 ?_,λ jT=>zj7 ?_⟩
    ·have aC:zPy Bs i=360:=by rw[aU];unfold zAt;rw[xDN (by rw[hm];simp),xDO (by omega)]
     simp[zA,zAC,zO,zBq,aC,o2.wm]
    ·simp only[zAZ,xAK,c1,zA,zXD];have hbig':B.prs.length<=200000:=by omega
     have ir:zAt B=if zn (zA6 B.prs) B.prs.length 0 then 360 else 0:=by unfold zAt;rw[xDN (by rw[hm];simp),xDN (by omega)]
     have pairs:∀(m2 j:Nat),j+m2=B.prs.length->∀ l3,Ext l2 l3->k.qa<=l3.wm->
       (zn (zA6 B.prs) m2 j=true->zBq Bs (m+1) i=360)->(zn (zA6 B.prs) m2 j=false->zBq Bs (m+1) i=zBq Bs m (i+1))->
       zxh true (kfe k (zBq Bs (m+1) i)) (.pointer (some ⟨l.qa,0,none⟩)) (.slice (some ⟨b,o,none⟩) els.length c) (iI (els.length:Int)) (iI (i:Int)) (.slice ap B.prs.length cp) (iI (B.prs.length:Int)) (iI (j:Int)) l3:=by
      intro m2
      induction m2 with
      | zero=>
       intro j hj l3 hl3 ke h1 h2;refine zSB ?_;simp only[zP,zA,zAV];refine⟨λ h=>by omega,λ _=>zZX ?_⟩;simp only[zk _ (zCS ai (by omega)),zA];have:=ih (i+1) (by omega) l3 ⟨o2.ext.trans hl3,ke⟩;rw[h2 rfl];simpa using this
      | succ m2 ih2=>
       intro j hj l3 hl3 ke h1 h2;have aJ:j<B.prs.length:=by omega
       refine zSB ?_;simp only[zP,zA,zAV];refine⟨λ _=>zZb ?_,λ h=>by omega⟩;have hatp:(B.prs.map zC)[j]?=some (zC B.prs[j]):=by simp[aJ]
       obtain⟨b',o',c2',vs',ty',es',ro',aH,ar,aI,ep,cK,cF⟩:=iA.load hatp;simp only[xBu] at aH;obtain⟨eK,_,_⟩:=aH;subst eK;have he3:Ext h0 l3:=(hk.trans o2.ext).trans hl3;have gb':l3.get b'=some (.row vs' ty' es' ro'):=(he3.get b' aI).trans ar;simp only[zA,zXg aJ,zN zLL gb' ep,cK,zvH,zU,zF,zK];rw[zi (P:=E) zV6 (x:=.agg ⟨zC B.prs[j]⟩) (cs:=zC B.prs[j]) (zD l3 _) rfl cF (by simp) (by simp[zC,zl])];simp only[zF];rw[zwa _ cF];have hkl3:=hl3.qa;have e4:=(hl3.new (rO [iI 0,iI 0] 54)).upd (b:=l3.qa) hkl3 (some (rO (zC B.prs[j]) 54));have w4:k.qa<=((l3.new (rO [iI 0,iI 0] 54)).upd l3.qa (some (rO (zC B.prs[j]) 54))).wm:=zp (by rw[zDK];exact ke) (by omega);have t4:((l3.new (rO [iI 0,iI 0] 54)).upd l3.qa (some (rO (zC B.prs[j]) 54))).get l3.qa=some (rO (zC B.prs[j]) 54):=zH _ _ _;have g4:((l3.new (rO [iI 0,iI 0] 54)).upd l3.qa (some (rO (zC B.prs[j]) 54))).get b'=some (.row vs' ty' es' ro'):=by
        have q1:=hk.qa;rw[zL (by omega),zG (by omega)];exact gb'
       generalize ((l3.new (rO [iI 0,iI 0] 54)).upd l3.qa (some (rO (zC B.prs[j]) 54)))=l4 at e4 w4 t4 g4;refine zZa ?_;have ok4:=e4.ok;have bx:l4.get l.qa=some (rO [iI B.kind,.slice (some ⟨b',o',none⟩) B.prs.length cp] 32):=(e4.get _ (by omega)).trans t2;have d0:=zB (P:=E) zAE (o:=0) t4;have d1:=zB (P:=E) zAE (o:=1) t4;have da:=zN (P:=E) zLL (o:=0) t4 (by simp[zC]);have dp:=zB (P:=E) zEc (o:=1) bx;rw[xCe,xAD (by simp[zC])] at da;simp only[lnth,zC] at d0 d1 dp;have hatj:B.prs[j]?=some B.prs[j]:=xAA aJ;have fT:zA6 B.prs j=(decide (B.prs[j].1<0)||decide (B.prs[j].2<0)||(decide (0<j)&&match B.prs[j-1]? with
        | some q=>decide (0<=zDH q B.prs[j])
        | none=>false)):=by simp only[zA6,hatj]
       have aR:∀ bad:Bool,zA6 B.prs j=bad->(BrK (some (.bool bad)) (zuC true (kfe k (zBq Bs (m+1) i)) l4) (zuB true (kfe k (zBq Bs (m+1) i)) (.pointer (some ⟨l.qa,0,none⟩)) (.slice (some ⟨b,o,none⟩) els.length c) (iI (els.length:Int)) (iI (i:Int)) (.slice (some ⟨b',o',none⟩) B.prs.length cp) (iI (B.prs.length:Int)) (iI (j:Int)) l4)):=by
        intro bad bD;cases bad with
        | true=>
         rw[ze,h1 (by simp[zn,bD])];refine zZZ ?_;simp[zA,zAC,zO,w4]
        | false=>
         rw[zZ];refine zZY ?_;simp only[zk _ (zCS aJ (by omega)),zA];have:=ih2 (j+1) (by omega) l4 e4 w4 (λ h=>h1 (by simp[zn,h])) (λ h=>h2 (by simp[zn,bD,h]));simpa using this
       simp only[zD9,xCu,d0,zA,zP];by_cases p1:B.prs[j].1<0
       ·have:=aR true (by rw[fT];simp[p1]);simpa only[p1,xDG,xAM,xAL,xAO,show (true==false)=false from rfl,show (false==true)=false from rfl,xAG,xAH,zA,zJ,zq,zI,zS,zt,zv,zE,zF] using this
       ·simp only[p1,xCz,xAM,xAL,xAO,show (true==false)=false from rfl,show (false==true)=false from rfl,xAG,xAH,zA,zJ,zq,zI,zS,zt,zv,zE,zF,zEb,d1,zP];by_cases p2:B.prs[j].2<0
        ·have:=aR true (by rw[fT];simp[p2]);simpa only[p2,xDG,xAM,xAL,xAO,show (true==false)=false from rfl,show (false==true)=false from rfl,xAG,xAH,zA,zJ,zq,zI,zS,zt,zv,zE,zF] using this
        ·simp only[p2,xCz,xAM,xAL,xAO,show (true==false)=false from rfl,show (false==true)=false from rfl,xAG,xAH,zA,zJ,zq,zI,zS,zt,zv,zE,zF,zAK];by_cases p3:0<j
         ·have p3':(0:Int)<j:=by omega
          have jB:j-1<B.prs.length:=by omega
          have mh:(B.prs.map zC)[j-1]?=some (zC B.prs[j-1]):=by simp[jB]
          obtain⟨b5,o5,c5,vs5,ty5,es5,ro5,kI,hb5,hlt5,hle5,hz5,hzl5⟩:=iA.load mh;simp only[xBu] at kI;obtain⟨hv15,_,_⟩:=kI;cases hv15;rw[ar] at hb5;cases hb5;have aC:zA6 B.prs j=decide (0<=zDH B.prs[j-1] B.prs[j]):=by rw[fT,xAA jB];simp[p1,p2,p3]
          have:=aR (decide (0<=zDH B.prs[j-1] B.prs[j])) aC;simpa only[p3',zAK,xDG,xAM,xAL,xAO,show (true==false)=false from rfl,show (false==true)=false from rfl,xAG,xAH,zA,zJ,zq,zI,zS,zt,zv,zE,zF,zAZ,xAK,dp,zwE p3 (by omega:j<=9223372036854775807),zXg jB,zN zLL g4 hle5,hz5,da,zM,zqN ok4,zBY] using this
         ·have p3':¬ (0:Int)<j:=by omega
          have:=aR false (by rw[fT];simp[p1,p2,p3]);simpa only[p3',zAK,xCz,xAM,xAL,xAO,show (true==false)=false from rfl,show (false==true)=false from rfl,xAG,xAH,zA,zJ,zq,zI,zS,zt,zv,zE,zF] using this
     refine pairs B.prs.length 0 (by omega) l2 (Ext.refl o2.ext.ok) o2.wm ?_ ?_
     ·intro h;simp[zBq,aU,ir,h]
     ·intro h;simp[zBq,aU,ir,h]
 exact loop els.length 0 (by omega) _ (Own.qb k)
def mid3(s:Int)(h:AH):zh E (zAc [(20,iI s)]) (zA4 zSl [1,1,1,0,0,0,1,0,0] 3) h=some (.int .u64 (IntKind.u64.wrap s)):=by kernel_rfl
def mid4(s:Int):zw E (zAc [(21,.int .u64 s)]) (zA4 zSl [1,1,1,0,0,0,1,0,0] 4)=some (.int .u64 (s.fdiv (2 ^ (1:Nat)))):=by kernel_rfl
def mid5(s:Int)(h:AH):zh E (zAc [(22,.int .u64 s)]) (zA4 zSl [1,1,1,0,0,0,1,0,0] 5) h=some (iI (IntKind.i64.wrap s)):=by kernel_rfl
def zsW{a b n:Nat}(h1:a<=n)(h2:b<=n)(hn:n<=1000000):IntKind.i64.wrap ((IntKind.u64.wrap ((a:Int)+(b:Int))).fdiv (2 ^ (1:Nat)))=(((a+b) / 2:Nat):Int):=by
 have e1:IntKind.u64.wrap ((a:Int)+(b:Int))=(a:Int)+(b:Int):=by
  show ((a:Int)+(b:Int)) % (2 ^ 64:Int)=_;omega
 rw[e1,xAY _ (by decide)];have e2:((2:Int) ^ (1:Nat))=2:=rfl;rw[e2,← zLF,zCu (by unfold zC2;omega)];omega
abbrev CL:=Int×List GT
def zFV(ls:List CL)(c:CL)(q:Nat):Int:=match ls[q]? with
 | some x=>zBd x.1 x.2 c.1 c.2
 | none=>0
def zVl(ls:List CL)(c:CL):Nat->Nat->Nat->Nat
 | 0,i,_=>i
 | m+1,i,j=>if i<j then (if zFV ls c ((i+j) / 2)<0 then zVl ls c m ((i+j) / 2+1) j else zVl ls c m i ((i+j) / 2)) else i
def bsI(ls:List CL)(c:CL):Nat:=zVl ls c ls.length 0 ls.length
def bsB(ls:List CL)(c:CL):Bool:=decide (bsI ls c<ls.length)&&decide (zFV ls c (bsI ls c)=0)
def zp1{h0 k:AH}{v:Value}{els:List (List Value)}{ls:List (Int×List GT)}{g:Int}{vt:Value}{lt:List GT}(ha:Arr k 2 v els)(hL:RLab h0 els ls)(hn:els.length<=1000000)(hr:RT h0 vt lt)(hk:Ext h0 k) :
  bsI ls (g,lt)<=els.length/\(zc E).call 190 [v,.agg #[iI g,vt],.func (.func 168) #[] #[]] k=some [(.tuple #[iI ((bsI ls (g,lt):Nat):Int),.bool (bsB ls (g,lt))],k)]:=by
 obtain⟨ad,c,hv⟩:=ha.slice;subst hv;have:∃ w,(bsI ls (g,lt)<=els.length/\w=.tuple #[iI ((bsI ls (g,lt):Nat):Int),.bool (bsB ls (g,lt))])/\(zc E).call 190 [.slice ad els.length c,.agg #[iI g,vt],.func (.func 168) #[] #[]] k=some [(w,k)]:=by
  refine zVJ hk.ok (zcP ?_);simp only[zU,zF,zK,zA];refine zcO ?_;have o1:=(Own.qb k).new (rO [iI g,vt] 36);have t1:=zD k.qb (rO [iI g,vt] 36);simp only[zR] at t1 ⊢;generalize k.qb.new (rO [iI g,vt] 36)=k1 at o1 t1;have e1:=hk.trans o1.ext;simp only[zA,zTT];refine zcN ?_;have ca:=zN (P:=E) zC7 (o:=0) t1 (by simp);simp only[xCe,List.take] at ca;have lh:els.length=ls.length:=RLab.length hL;have fin:∀(i:Nat),i<=els.length->i=bsI ls (g,lt)->zYx true (KR E [.tmp 6,.tmp 7] (λ x l=>(zm x=true/\bsI ls (g,lt)<=els.length/\x=.tuple #[iI ((bsI ls (g,lt):Nat):Int),.bool (bsB ls (g,lt))])/\k.qa<=l.wm)) (.slice ad els.length c) (.func (.func 168) #[] #[]) (.pointer (some ⟨k.qa,0,none⟩)) (iI (els.length:Int)) (iI (i:Int)) k1:=by
   intro i hi hI;simp only[zYx,zA,zP];by_cases ab:i<els.length
   ·have aI:(i:Int)<els.length:=by omega
    obtain⟨b,o,c',vs,ty,es,ro,hv,hb,hlt2,cQ,hz,bN⟩:=ha.load (xAA ab);simp only[xBu] at hv;obtain⟨bP,_,cq⟩:=hv;subst bP;obtain⟨g',v',lt',aS,bS,aU⟩:=RLab.at hL i _ (xAA ab);rw[aS] at hz;have gb:k1.get b=some (.row vs ty es ro):=(o1.ext.get b hlt2).trans hb;simp only[aI,xDG,zI,zS,xAO,xAG,zA,zPp ab,zN zC7 gb cQ,hz,ca,zM,zQJ bS hr e1,zJ,zAD,zE,zo1,zO,xDJ];have hB:bsB ls (g,lt)=decide (zBd g' lt' g lt=0):=by
     unfold bsB zFV;rw[← hI,aU];have:i<ls.length:=by omega
     simp[this]
    refine⟨⟨rfl,by rw[← hI];exact hi,?_⟩,o1.wm⟩;rw[hB,← hI]
   ·have aI:¬ (i:Int)<els.length:=by omega
    simp only[aI,xCz,zI,zS,zt,zv,show (false==true)=false from rfl,xAH,zA,zF,zE,zo1,zO,xDJ];have hB:bsB ls (g,lt)=false:=by
     unfold bsB;rw[← hI];have:¬ i<ls.length:=by omega
     simp[this]
    refine⟨⟨rfl,by rw[← hI];exact hi,?_⟩,o1.wm⟩;rw[hB,← hI]
  have loop:∀(m i j:Nat),i<=j->j<=els.length->j-i<=m->zVl ls (g,lt) m i j=bsI ls (g,lt)->zub true (KR E [.tmp 6,.tmp 7] (λ x l=>(zm x=true/\bsI ls (g,lt)<=els.length/\x=.tuple #[iI ((bsI ls (g,lt):Nat):Int),.bool (bsB ls (g,lt))])/\k.qa<=l.wm)) (.slice ad els.length c) (.func (.func 168) #[] #[]) (.pointer (some ⟨k.qa,0,none⟩)) (iI (els.length:Int)) (iI (i:Int)) (iI (j:Int)) k1:=by
   intro m
   induction m with
   | zero=>
    intro i j eQ hj hm gY;refine zN9 ?_;simp only[zA,zP,zAV];refine⟨λ h=>by omega,λ _=>zN8 ?_⟩;exact fin i (by omega) gY
   | succ m ih=>
    intro i j eQ hj hm gY;refine zN9 ?_;simp only[zA,zP,zAV];refine⟨λ h=>zcM ?_,λ _=>zN8 ?_⟩
    ·have ab:i<j:=by omega
     rw[zk _ (by unfold zC2;omega)];simp only[zA,mid3,mid4,mid5];rw[zsW (n:=els.length) (by omega) hj hn];generalize hq:(i+j) / 2=q;have hq1:i<=q:=by omega
     have hq2:q<j:=by omega
     refine zcL ?_;have hqn:q<els.length:=by omega
     obtain⟨b,o,c',vs,ty,es,ro,hv,hb,aI,cQ,hz,bN⟩:=ha.load (xAA hqn);simp only[xBu] at hv;obtain⟨bP,_,cq⟩:=hv;subst bP;obtain⟨g',v',lt',aS,bS,aU⟩:=RLab.at hL q _ (xAA hqn);rw[aS] at hz;have gb:k1.get b=some (.row vs ty es ro):=(o1.ext.get b aI).trans hb;simp only[zA,zPp hqn,zN zC7 gb cQ,hz,ca,zM,zQJ bS hr e1,zJ,zP,zAV];have gY:(if zFV ls (g,lt) q<0 then zVl ls (g,lt) m (q+1) j else zVl ls (g,lt) m i q)=bsI ls (g,lt):=by
      rw[← gY];simp only[zVl,ab,xDM,hq]
     have fG:zFV ls (g,lt) q=zBd g' lt' g lt:=by unfold zFV;rw[aU]
     rw[fG] at gY;refine⟨λ hc=>zcK ?_,λ hc=>zcJ ?_⟩
     ·simp only[zA,zk _ (zCS hqn (by omega))];have:=ih (q+1) j (by omega) hj (by omega) (by rw[xDO hc] at gY;exact gY);simpa using this
     ·skip
      exact ih i q (by omega) (by omega) (by omega) (by rw[xDN hc] at gY;exact gY)
    ·rename_i hnl;have hnl':¬ i<j:=by omega
     exact fin i (by omega) (by simpa[zVl,hnl'] using gY)
  exact loop els.length 0 els.length (xDF _) (xAF _) (by omega) (by rw[lh];rfl)
 obtain⟨w,⟨hi,rfl⟩,hc⟩:=this;exact⟨hi,hc⟩
abbrev LB:=Int×Value×List GT
def lc(x:LB):List Value:=[iI x.1,x.2.1]
def zCq(l:List LB):List Value:=l.flatMap lc
def zI2:∀ l:List LB,(zCq l).length=l.length*2
 | []=>rfl
 | x::l=>by simp only[zCq,xBv,xBY,xCG];have:=zI2 l;simp only[zCq] at this;rw[this];simp[lc];omega
def zKe:∀(l:List LB) (i:Nat),(zCq l).take (i*2)=zCq (l.take i)
 | [],i=>by simp[zCq]
 | x::l,0=>by simp[zCq]
 | x::l,i+1=>by
  have:=zKe l i;simp only[zCq,xBv,xBP] at this ⊢;rw[← this];rw[show (i+1)*2=i*2+2 by omega];rfl
def zHA:∀(l:List LB) (i:Nat),(zCq l).drop (i*2)=zCq (l.drop i)
 | [],i=>by simp[zCq]
 | x::l,0=>by simp[zCq]
 | x::l,i+1=>by
  have:=zHA l i;simp only[zCq,xBv,List.drop_succ_cons] at this ⊢;rw[← this];rw[show (i+1)*2=i*2+2 by omega];rfl
def zhy{l:List LB}{i:Nat}{x:LB}(h:l[i]?=some x):((zCq l).drop (i*2)).take 2=lc x:=by
 rw[zHA];have ab:=(xAc.1 h).1;rw[xAZ ab];have:l[i]=x:=by rw[xAA ab] at h;exact xCc h
 rw[this];rfl
def zTo{h0:AH}{l:List LB}(h:∀ x∈l,RT h0 x.2.1 x.2.2):(zCq l).all zl=true:=by
 rw[xCB];intro v hv;obtain⟨x,hx,hv⟩:=xCM.1 hv;simp only[lc,xAQ,xCN,xDK] at hv;rcases hv with rfl|rfl
 ·rfl
 ·exact zDt (h x hx)
def zKf{h0:AH}:∀ {l:List LB},(∀ x∈l,RT h0 x.2.1 x.2.2)->RLab h0 (l.map lc) (l.map λ x=>(x.1,x.2.2))
 | [],_=>.nil
 | x::l,h=>.cons (h x (by simp)) (zKf λ y hy=>h y (by simp[hy]))
def zXm(l:List LB)(i:Nat)(x:LB):zFU (i*2) (zCq l)++lc x++zG3 (i*2) (zCq l)=zCq (l.take i++x::l.drop i):=by
 rw[zAl,zAo,zKe,zHA];simp[zCq,xBU,xBv]
def zY(v:Value)(c:Nat):Prop:=∃ n cap,v=.slice (some ⟨c,0,none⟩) n cap
def con(x:LB):CL:=(x.1,x.2.2)
structure NM(h0 k:AH)(bn:Nat)(v:Value)(n:List CL):Prop where
 row:k.get bn=some (rO [v] 197)
 lt:bn<k.qa
 lst:(v=.slice none 0 0/\n=[])\/∃ b l,v=.slice (some ⟨b,0,none⟩) n.length (UNK+2)/\k.get b=some (.row (zCq l) 36 2 false)/\b<k.qa/\b≠bn/\l.map con=n/\∀ x∈l,RT h0 x.2.1 x.2.2
structure NS(h0 k:AH)(bn:Nat)(v:Value)(n:List CL)(k':AH)(v':Value)(n':List CL):Prop where
 nm:NM h0 k' bn v' n'
 ok:k'.ok
 qa:k.qa<=k'.qa
 n:n'.length<=n.length+1
 get:∀ c,c<k.qa->c≠bn->¬ zY v c->k'.get c=k.get c
 blk:∀ c,zY v' c->zY v c\/k.qa<=c
 wm:∀ m,m<=k.wm->m<=bn->(∀ c,zY v c->m<=c)->m<=k.qa->m<=k'.wm
def NM.arr{h0 k:AH}{bn:Nat}{v:Value}{n:List CL}(h:NM h0 k bn v n):∃ l:List LB,l.map con=n/\Arr k 2 v (l.map lc)/\(∀ x∈l,RT h0 x.2.1 x.2.2):=by
 rcases h.lst with ⟨rfl,rfl⟩|⟨b,l,rfl,hb,ab,aj,hl,hr⟩
 ·exact⟨[],rfl,.nil _ _,by simp⟩
 ·refine⟨l,hl,?_,hr⟩;rw[← hl,xCY];have:=Arr.row (h:=k) (z:=2) (b:=b) (o:=0) (c:=UNK+2) (els:=l.map lc) hb ab (by simp[zI2]) (λ i e he=>by
   simp only[xBi] at he;cases hx:l[i]? with
   | none=>rw[hx] at he;cases he
   | some x=>
    rw[hx] at he;simp only[xCS,xAN] at he;subst he;exact⟨rfl,by rw[xAK];exact zhy hx⟩)
  simpa using this
def zLy{P:Env}{f:FuncId}{fn:Func}{c:Code}{args:List Value}{h:AH}{outs:List (Value×AH)}(hf:P.tab.fn.get f=some fn)(hb:fn.body=some c)(hs:P.sum f args h=some outs):(zc P).call f args h=some outs:=by
 rw[zX3];unfold fnCall;rw[hf];simp only[hb,hs]
def bs22{g:Int}{v:Value}{h:AH}:zg E 22 1 (some [(0,.agg #[iI g,v])]) h=one (.slice (some ⟨h.qa,0,none⟩) 1 1,h.new (rO [iI g,v] 36)):=by kernel_rfl
def zQG{h:AH}{b c:Nat}{l:List LB}{i:Nat}{x:LB}{h0:AH}(hb:h.get b=some (.row (zCq l) 36 2 false))(hc:h.get c=some (rO (lc x) 36))(aj:b≠c)(hi:i<=l.length)(hn:l.length<=100000)(hl:∀ x∈l,RT h0 x.2.1 x.2.2)(hx:zl x.2.1=true) :
  (zc E).call 191 [.slice (some ⟨b,0,none⟩) l.length (UNK+2),iI (i:Int),.slice (some ⟨c,0,none⟩) 1 1] h=some [(.slice (some ⟨h.qa,0,none⟩) (l.length+1) (UNK+2),(h.upd b none).new (.row (zCq (l.take i++x::l.drop i)) 36 2 false))]:=by
 refine zLy zSg zOn ?_;show zXc [.slice (some ⟨b,0,none⟩) l.length (UNK+2),iI (.ofNat i),.slice (some ⟨c,0,none⟩) 1 1] h=_;unfold zXc;simp only[hb,hc];have h1:(Nat.beq (UNK+2) (UNK+2)&&Nat.ble i l.length&&Nat.beq (zBU (zCq l)) (l.length*2)&&Nat.beq (zBU (lc x)) 2&&!Nat.beq b c&&(zCq l).all zl&&(lc x).all zl&&Nat.ble l.length 100000)=true:=by
  rw[xCp,ble_true.2 hi,zAL,zI2,xCp,zBw aj,zTo hl,ble_true.2 hn];simp[lc,zBU,zl];exact hx
 rw[h1];simp only[xAG,zXm]
def zxT{h:AH}{c:Nat}{us:List Value}(hc:h.get c=some (rO us 36))(hl:us.length=2):zy E .append [22,22] (some [.slice none 0 0,.slice (some ⟨c,0,none⟩) 1 1]) h=one (.slice (some ⟨h.qa,0,none⟩) 1 (UNK+2),h.new (.row us 36 2 false)):=by
 have aS:zC8 E 22=some 36:=znR;have dL:und E 22=some (.slice 36):=zML
 match us,hl with
 | [x,y],_=>
  show v2 (zBD E [22,22] (.slice none 0 0) (.slice (some ⟨c,0,none⟩) 1 1) h)=_;simp only[zBD,aS,dL,zFb,xAH];have dY:∃ i,zC6 E 36=some i/\i.size=2/\zF9 i=true:=by
   cases ht:zC6 E 36 with
   | none=>have:=zC7;unfold tAS at this;rw[ht] at this;cases this
   | some i=>
    refine⟨i,rfl,?_,?_⟩
    ·have:=zC7;unfold tAS at this;rw[ht] at this;simp at this;exact this.2
    ·have:(match zC6 E 36 with|some i=>zF9 i|none=>false)=true:=by kernel_rfl
     rw[ht] at this;exact this
  obtain⟨ti,e1,e2,e3⟩:=dY;simp only[e1,zCQ,zBG,hc,e2];simp[zFU,zG3,zBU,e3,zBj,zA2,v2,xCp];rfl
def zQH{h:AH}(aa:h.ok){c:Nat}{us:List Value}(hc:h.get c=some (rO us 36))(hl:us.length=2) :
  (zc E).call 191 [.slice none 0 0,iI 0,.slice (some ⟨c,0,none⟩) 1 1] h=some [(.slice (some ⟨h.qa,0,none⟩) 1 (UNK+2),h.new (.row us 36 2 false))]:=by
 have bh:E.sum 191 [.slice none 0 0,iI 0,.slice (some ⟨c,0,none⟩) 1 1] h=none:=by kernel_rfl
 have key:zua true (KR E [.tmp 6] (λ x k=>x=.slice (some ⟨h.qa,0,none⟩) 1 (UNK+2)/\k=h.qb.new (.row us 36 2 false))) (.slice none 0 0) (iI 0) (.slice (some ⟨c,0,none⟩) 1 1) h.qb:=by
  refine zcI ?_;refine zcH ?_;have hcut:zw E (zAc [(10,.slice none 0 0),(11,iI 0)]) (zA4 zVc [1,0] 2)=some (.slice none 0 0):=by kernel_rfl
  simp only[zA,hcut];refine zcG ?_;simp only[zA,zTS];refine zcF ?_;simp only[zA,zAD];rw[zAV];refine⟨λ h=>by omega,λ _=>zcE ?_⟩;simp only[zA,zTR];refine zcD ?_;simp only[zA,zAD,zAV];refine⟨λ _=>zcC ?_,λ h=>absurd rfl h⟩;have am:h.qb.get c=some (rO us 36):=hc;simp only[zA,zxT am hl,zF,zAC,zO,xDJ,zR]
 have:=ziH (P:=E) (v0:=.slice (some ⟨h.qa,0,none⟩) 1 (UNK+2)) (h1:=h.qb.new (.row us 36 2 false)) zSg zOn bh (by kernel_rfl) ((zq5 (Rp:=λ x k=>x=.slice (some ⟨h.qa,0,none⟩) 1 (UNK+2)/\k=h.qb.new (.row us 36 2 false)) key).mono λ x hx=>Prod.ext hx.1 hx.2);rw[this];have hr:zBf h.qb (.slice (some ⟨h.qa,0,none⟩) 1 (UNK+2),h.qb.new (.row us 36 2 false))=(.slice (some ⟨h.qa,0,none⟩) 1 (UNK+2),h.qb.new (.row us 36 2 false)):=by
  unfold zBf;have:zm (.slice (some ⟨h.qa,0,none⟩) 1 (UNK+2))=false:=rfl;rw[this];simp
 rw[hr];have hb:=zQS aa;unfold AH.back at hb;show some [(_,(⟨(h.new (.row us 36 2 false)).t,h.qa+1,cond (Nat.ble h.wm (h.qa+UNK)) h.wm (h.qa+UNK)⟩:AH))]=_;have hw:cond (Nat.ble h.wm (h.qa+UNK)) h.wm (h.qa+UNK)=h.wm:=congrArg AH.wm hb;rw[hw];rfl
def st22{h:AH}{b:Nat}{v w:Value}(hb:h.get b=some (rO [v] 197))(hw:zd w=[w])(hl:zl w=true):zAM E 22 h (sP b 0) (some w)=one (undef,h.upd b (some (rO [w] 197))):=by
 rw[zi (P:=E) zwB hb hw rfl (by simp) (by simp[hl])];rfl
def zOy(cs:List CL)(c:CL):Int×List CL:=if c.1=-1 then (0,cs) else (((bsI cs c:Nat):Int)+1,if bsB cs c then cs else cs.take (bsI cs c)++c::cs.drop (bsI cs c))
def zYI{h0 k:AH}{bn:Nat}{n:List CL}{v:Value}{g:Int}{vt:Value}{lt:List GT}(hk:Ext h0 k)(df:h0.qa<=bn)(bU:∀ c,zY v c->h0.qa<=c)(hm:NM h0 k bn v n)(hn:n.length<=100000)(hr:RT h0 vt lt) :
  Ev true ((zc E).call 143 [.pointer (some ⟨bn,0,none⟩),.agg #[iI g,vt]] k) λ x=>∃ r v' n',x.1=iI r/\(r,n')=zOy n (g,lt)/\(if g=-1 then r=0 else 1<=r/\r<=n.length+1)/\NS h0 k bn v n x.2 v' n':=by
 have same:NS h0 k bn v n k v n:=⟨hm,hk.ok,xAF _,by omega,λ _ _ _ _=>rfl,λ c h=>.inl h,λ m h1 _ _ _=>h1⟩;obtain⟨l,hl,ay,bS⟩:=hm.arr;have o1:=(Own.qb k).new (rO [iI g,vt] 36);have t1:=zD k.qb (rO [iI g,vt] 36);have n1:(k.qb.new (rO [iI g,vt] 36)).qa=k.qa+1:=rfl;have w1:(k.qb.new (rO [iI g,vt] 36)).wm=k.qa+UNK:=rfl;simp only[zR] at t1;have hq:∃ k1,k1=k.qb.new (rO [iI g,vt] 36):=⟨_,rfl⟩;obtain⟨k1,dI⟩:=hq;rw[← dI] at o1 t1 n1 w1;have e1:=hk.trans o1.ext;have l0:=zB (P:=E) zAE (o:=0) t1;have ca:=zN (P:=E) zC7 (o:=0) t1 (by simp);simp only[lnth,xCe,List.take] at l0 ca;have start:∀ {K:KF},zul true K (.pointer (some ⟨bn,0,none⟩)) (.pointer (some ⟨k.qa,0,none⟩)) k1->znz true K (.pointer (some ⟨bn,0,none⟩)) (.agg #[iI g,vt]) k.qb:=by
  intro K h;refine zdw ?_;simp only[zU,zF,zK,zA,zR];rw[← dI];exact h
 by_cases hg:g=-1
 ·have:(zc E).call 143 [.pointer (some ⟨bn,0,none⟩),.agg #[iI g,vt]] k=some [(iI 0,k)]:=by
   refine zK8 hk.ok rfl (start (zOO ?_));simp only[zBp,xCu,l0,zA,zAD,zAV];refine⟨λ _=>zdv ?_,λ h=>absurd hg h⟩;simp[zA,zAC,zO,o1.wm]
  rw[this,zJ];exact⟨0,v,n,rfl,by simp[zOy,hg],by rw[xDO hg],same⟩
 ·have gn:k1.get bn=some (rO [v] 197):=(o1.ext.get bn hm.lt).trans hm.row;have ln:=zB (P:=E) zF4 (o:=0) gn;simp only[lnth] at ln;have mn:=ay.ext o1.ext;have lh:l.length=n.length:=by rw[← hl,xCY]
  obtain⟨hi,aK⟩:=zp1 (k:=k1) (g:=g) mn (zKf bS) (by simp;omega) hr e1;have hcon:(l.map λ x=>(x.1,x.2.2))=n:=hl;rw[hcon] at hi aK;rw[xCY,lh] at hi;have cI:zOy n (g,lt)=(((bsI n (g,lt):Nat):Int)+1,if bsB n (g,lt) then n else n.take (bsI n (g,lt))++(g,lt)::n.drop (bsI n (g,lt))):=by simp[zOy,hg]
  generalize bsI n (g,lt)=i at hi aK cI;generalize bsB n (g,lt)=b at aK cI;have front:∀ {K:KF},zuk true K (.pointer (some ⟨bn,0,none⟩)) (.pointer (some ⟨k.qa,0,none⟩)) (iI (i:Int)) (.bool b) k1->znz true K (.pointer (some ⟨bn,0,none⟩)) (.agg #[iI g,vt]) k.qb:=by
   intro K h;refine start (zOO ?_);simp only[zBp,xCu,l0,zA,zAD,zAV];refine⟨λ h=>absurd h hg,λ _=>zdu ?_⟩;simp only[zA,zx,zRY,xCu,ln,ca,zM,aK,zJ,z6,lnth];exact h
  have fin:∀ {K:KF} {k2:AH},K .ret [iI ((i:Int)+1)] k2->zuj true K (iI (i:Int)) k2:=by
   intro K k2 h;refine zds ?_;simp only[zA,zk _ (show zC2 ((i:Int)+1) by unfold zC2;omega)];exact h
  cases b with
  | true=>
   have:(zc E).call 143 [.pointer (some ⟨bn,0,none⟩),.agg #[iI g,vt]] k=some [(iI ((i:Int)+1),k)]:=by
    refine zK8 hk.ok rfl (front (zON ?_));simp only[zA,zq,xAL,zZ];refine fin ?_;simp[zAC,zO,o1.wm]
   rw[this,zJ];exact⟨_,v,n,rfl,by rw[cI];rfl,by rw[xDN hg];omega,same⟩
  | false=>
   have hxl:=zDt hr;have t2:=zD k1 (rO [iI g,vt] 36);have ins:∃ v' k3,(zc E).call 191 [v,iI (i:Int),.slice (some ⟨k1.qa,0,none⟩) 1 1] (k1.new (rO [iI g,vt] 36))=some [(v',k3)]/\zd v'=[v']/\zl v'=true ∧
     k3.get bn=some (rO [v] 197)/\NS h0 k bn v n (k3.upd bn (some (rO [v'] 197))) v' (n.take i++(g,lt)::n.drop i)/\k3.qa=k.qa+3:=by
    have dr:=hm.lt;rcases hm.lst with ⟨rfl,rfl⟩|⟨bl,l',rfl,ba,ab,aj,dH,cu⟩
    ·have iv:i=0:=by simpa using hi
     subst iv;have:=zQH (h:=k1.new (rO [iI g,vt] 36)) (zBb o1.ext.ok _) t2 rfl;refine⟨_,_,this,rfl,rfl,?_,?_,by simp[n1]⟩
     ·rw[zG (by simp;omega),zG (by omega)];exact gn
     ·refine⟨⟨zH _ _ _,by simp;omega,.inr ⟨k1.qa+1,[(g,vt,lt)],rfl,?_,by simp,by omega,rfl,by simpa using hr⟩⟩,zCH (zBb (zBb o1.ext.ok _) _) _ _,by simp;omega,by simp,?_,?_,?_⟩
      ·rw[zL (by omega)];exact zD (k1.new _) _
      ·intro c hc fW _;rw[zL fW,zG (by simp;omega),zG (by omega)];exact o1.ext.get c hc
      ·rintro c ⟨m,cap,bv⟩;simp only[xBu,xAN,xCo] at bv;exact .inr (by have:=bv.1.1;simp at this;omega)
      ·intro m h1 h2 h3 h4;exact zp (by simp only[zDK];omega) h2
    ·have hbl1:k1.get bl=some (.row (zCq l') 36 2 false):=(o1.ext.get bl ab).trans ba;have aN:(k1.new (rO [iI g,vt] 36)).get bl=some (.row (zCq l') 36 2 false):=by rw[zG (by omega)];exact hbl1
     have fh:l'.length=n.length:=by rw[← dH,xCY]
     have:=zQG (h0:=h0) (x:=(g,vt,lt)) (i:=i) aN t2 (by omega) (by omega) (by omega) cu hxl;have hins:(l'.take i++(g,vt,lt)::l'.drop i).map con=n.take i++(g,lt)::n.drop i:=by
      rw[← dH];simp[con,List.map_take,List.map_drop]
     have k9:(n.take i++(g,lt)::n.drop i).length=n.length+1:=by simp;omega
     rw[fh,← k9] at this;refine⟨_,_,this,rfl,rfl,?_,?_,by simp[n1]⟩
     ·rw[zG (by simp;omega),zL (λ h=>aj h.symm),zG (by omega)];exact gn
     ·refine⟨⟨zH _ _ _,by simp;omega,.inr ⟨k1.qa+1,l'.take i++(g,vt,lt)::l'.drop i,rfl,?_,by simp,by omega,hins,?_⟩⟩,zCH (zBb (zCH (zBb o1.ext.ok _) _ _) _) _ _,by simp;omega,by omega,?_,?_,?_⟩
      ·rw[zL (by omega)];exact zD ((k1.new _).upd _ _) _
      ·intro x hx;rcases xCU.1 hx with hx|hx
       ·exact cu x (List.mem_of_mem_take hx)
       ·rcases xCg.1 hx with rfl|hx
        ·exact hr
        ·exact cu x (xBL hx)
      ·intro c hc fW dw;have hcbl:c≠bl:=λ h=>dw ⟨_,_,by rw[h]⟩;rw[zL fW,zG (by simp;omega),zL hcbl,zG (by omega)];exact o1.ext.get c hc
      ·rintro c ⟨m,cap,bv⟩;simp only[xBu,xAN,xCo] at bv;exact .inr (by have:=bv.1.1;simp at this;omega)
      ·intro m h1 h2 h3 h4;refine zp ?_ h2;rw[zDK];exact zp (by rw[zDK];omega) (h3 bl ⟨_,_,rfl⟩)
   obtain⟨v',k3,hc,dw,hlv,g3,hns,hn3⟩:=ins;refine zgV (Rp:=λ x k'=>∃ r v' n',x=iI r/\(r,n')=zOy n (g,lt)/\(if g=-1 then r=0 else 1<=r/\r<=n.length+1)/\NS h0 k bn v n k' v' n') (front (zON ?_));simp only[zA,zq,xAM,ze];refine zdt ?_;have gn2:(k1.new (rO [iI g,vt] 36)).get bn=some (rO [v] 197):=by rw[zG (by have:=hm.lt;omega)];exact gn
   have ln2:=zB (P:=E) zF4 (o:=0) gn2;simp only[lnth] at ln2;have hvv:veq 100 v v=true:=by
    rcases hm.lst with ⟨rfl,_⟩|⟨_,_,rfl,_⟩ <;> exact zAw _ _ _ _
   simp only[zA,zx,zRY,xCu,ln,ca,bs22,zF,ln2,hvv,xDJ,zM,hc,zJ,st22 g3 dw hlv];refine fin ?_;simp only[zAC,zO,xDJ];have hw:(k3.upd bn (some (rO [v'] 197))).wm<=bn:=(zBr _ _ _).2;refine⟨.inr (by have:=hm.lt;omega),(i:Int)+1,v',n.take i++(g,lt)::n.drop i,rfl,by rw[cI];rfl,by rw[xDN hg];omega,?_⟩;obtain⟨a1,a2,a3,a4,a5,a6,a7⟩:=hns;refine⟨⟨a1.row,a1.lt,a1.lst⟩,?_,a3,a4,a5,a6,?_⟩
   ·show cond (Nat.ble k.wm _) k.wm _<=_+UNK;unfold AH.ok at a2;cases bv:Nat.ble k.wm (k3.upd bn (some (rO [v'] 197))).wm with
    | true=>rw[ble_true] at bv;simp only[xAG];omega
    | false=>exact a2
   ·intro m h1 h2 h3 h4;show m<=cond (Nat.ble k.wm _) k.wm _;cases bv:Nat.ble k.wm (k3.upd bn (some (rO [v'] 197))).wm with
    | true=>exact h1
    | false=>exact a7 m h1 h2 h3 h4
structure Fx(P:Nat->Prop)(k k':AH):Prop where
 ok:k'.ok
 qa:k.qa<=k'.qa
 get:∀ c,c<k.qa->¬ P c->k'.get c=k.get c
 wm:∀ m,m<=k.wm->(∀ c,P c->m<=c)->m<=k.qa->m<=k'.wm
def Fx.refl{P:Nat->Prop}{k:AH}(h:k.ok):Fx P k k:=⟨h,xAF _,λ _ _ _=>rfl,λ _ h _ _=>h⟩
def Fx.trans{P P':Nat->Prop}{k l m:AH}(e:Fx P k l)(f:Fx P' l m)(hP:∀ c,P' c->P c\/k.qa<=c):Fx P k m:=
 ⟨f.ok,xCx e.qa f.qa,λ c hc hn=>(f.get c (xAC hc e.qa) λ h=>(hP c h).elim hn λ h=>by omega).trans (e.get c hc hn),
  λ n h1 h2 h3=>f.wm n (e.wm n h1 h2 h3) (λ c hc=>(hP c hc).elim (h2 c) λ h=>xCx h3 h) (xCx h3 e.qa)⟩
def Fx.new{P:Nat->Prop}{k l:AH}(e:Fx P k l)(o:AObj):Fx P k (l.new o):=
 ⟨zBb e.ok o,xCx e.qa (by simp),λ c hc hn=>by
  have:=e.qa;rw[zG (by omega)];exact e.get c hc hn,λ n h1 h2 h3=>e.wm n h1 h2 h3⟩
def Fx.upd{P:Nat->Prop}{k l:AH}(e:Fx P k l){b:Nat}(hb:P b\/k.qa<=b)(o:Option AObj):Fx P k (l.upd b o):=
 ⟨zCH e.ok b o,e.qa,λ c hc hn=>by
  rw[zL (λ h=>by subst h;exact hb.elim hn λ h=>by omega)];exact e.get c hc hn,
  λ n h1 h2 h3=>zp (e.wm n h1 h2 h3) (hb.elim (h2 b) λ h=>xCx h3 h)⟩
def Fx.mono{P P':Nat->Prop}{k l:AH}(e:Fx P k l)(h:∀ c,P c->P' c\/k.qa<=c):Fx P' k l:=
 ⟨e.ok,e.qa,λ c hc hn=>e.get c hc λ hp=>(h c hp).elim hn λ h=>by omega,λ n h1 h2 h3=>e.wm n h1 (λ c hc=>(h c hc).elim (h2 c) λ h=>xCx h3 h) h3⟩
def Fx.ext{P:Nat->Prop}{h k l:AH}(e:Ext h k)(f:Fx P k l)(hP:∀ c,P c->h.qa<=c):Ext h l:=
 ⟨f.ok,xCx e.qa f.qa,λ c hc=>(f.get c (xAC hc e.qa) λ hp=>by have:=hP c hp;omega).trans (e.get c hc)⟩
def Fx.own{P:Nat->Prop}{h k l:AH}(e:Own h k)(f:Fx P k l)(hP:∀ c,P c->h.qa<=c):Own h l:=
 ⟨f.ext e.ext hP,f.wm _ e.wm hP e.ext.qa⟩
def NS.fx{h0 k k':AH}{bn:Nat}{n n':List CL}{v v':Value}(s:NS h0 k bn v n k' v' n'):Fx (λ c=>c=bn\/zY v c) k k':=
 ⟨s.ok,s.qa,λ c hc hn=>s.get c hc (λ h=>hn (.inl h)) λ h=>hn (.inr h),λ m h1 h2 h3=>s.wm m h1 (h2 bn (.inl rfl)) (λ c hc=>h2 c (.inr hc)) h3⟩
def zL3{h0 k:AH}{bn:Nat}{n:List CL}{v:Value}(h:NM h0 k bn v n){c:Nat}(hc:zY v c):c<k.qa:=by
 obtain⟨m,cap,rfl⟩:=hc;rcases h.lst with ⟨h,_⟩|⟨b,l,h,_,ab,_⟩
 ·cases h
 ·simp only[xBu,xAN,xCo] at h;rw[h.1.1];exact ab
def NM.fx{P:Nat->Prop}{h0 k k':AH}{bn:Nat}{n:List CL}{v:Value}(h:NM h0 k bn v n)(f:Fx P k k')(h1:¬ P bn)(h2:∀ c,zY v c->¬ P c):NM h0 k' bn v n:=by
 refine⟨(f.get bn h.lt h1).trans h.row,xAC h.lt f.qa,?_⟩;rcases h.lst with ⟨a,b⟩|⟨b,l,a1,a2,a3,a4,a5,a6⟩
 ·exact .inl ⟨a,b⟩
 ·refine .inr ⟨b,l,a1,(f.get b a3 (h2 b ⟨_,_,a1⟩)).trans a2,xAC a3 f.qa,a4,a5,a6⟩
abbrev NoB:Nat->Prop:=λ _=>False
def ziQ{k:AH}{g:Int}{v:Value}(hl:zl v=true) :
  zAM E 36 (k.new (rO [iI 0,.slice none 0 0] 36)) (sP k.qa 0) (some (.agg ⟨[iI g,v]⟩))=one (undef,(k.new (rO [iI 0,.slice none 0 0] 36)).upd k.qa (some (rO [iI g,v] 36))):=by
 rw[zi (P:=E) zoK (x:=.agg ⟨[iI g,v]⟩) (cs:=[iI g,v]) (zD k _) rfl rfl (by simp) (by simp[zl];exact hl)];rfl
def zqV{k:AH}{e:List Value}(hl:e.all zl=true)(h3:e.length=3) :
  zAM E 25 (k.new (rO [iI 0,.slice none 0 0,.slice none 0 0] 25)) (sP k.qa 0) (some (.agg ⟨e⟩))=one (undef,(k.new (rO [iI 0,.slice none 0 0,.slice none 0 0] 25)).upd k.qa (some (rO e 25))):=by
 rw[zi (P:=E) zre (x:=.agg ⟨e⟩) (cs:=e) (zD k _) rfl h3 (by simp) hl,zsD _ h3]
structure Args(k:AH)(v:Value)(els:List (List Value))(Ls:List GL):Prop where
 arr:Arr k 3 v els
 len:els.length=Ls.length
 few:els.length<=10
 rl:∀(i:Nat) (e:List Value) (L:GL),els[i]?=some e->Ls[i]?=some L->RL k (.agg ⟨e⟩) L
 ok:∀(i:Nat) (L:GL),Ls[i]?=some L->zT L=false
def Args.at{k:AH}{v:Value}{els:List (List Value)}{Ls:List GL}(a:Args k v els Ls){i:Nat}(hi:i<els.length) :
  ∃ L b o c vs ty es ro vl ve elsL,Ls[i]?=some L/\v=.slice (some ⟨b,o,none⟩) els.length c/\k.get b=some (.row vs ty es ro)/\b<k.qa/\o+i*3+3<=vs.length/\(vs.drop (o+i*3)).take 3=[iI L.n,vl,ve] ∧
   zl vl=true/\zl ve=true/\Arr k 2 vl elsL/\RLab k elsL L.labs/\Arr k 3 ve (L.eds.map zQ)/\zT L=false:=by
 have cV:i<Ls.length:=by rw[← a.len];exact hi
 obtain⟨b,o,c,vs,ty,es,ro,hv,hb,ab,bK,hz,bN⟩:=a.arr.load (xAA hi);have j6:=a.rl i _ _ (xAA hi) (xAA cV);obtain⟨vl,ve,elsL,q1,q2,q3,q4⟩:=j6.ex;have he:els[i]=[iI Ls[i].n,vl,ve]:=by
  simp only[Value.agg.injEq] at q1;have:=congrArg Array.toList q1;simpa using this
 obtain⟨x1,x2,hx⟩:=q2.slice;obtain⟨y1,y2,hy⟩:=q4.slice;exact⟨Ls[i],b,o,c,vs,ty,es,ro,vl,ve,elsL,xAA cV,hv,hb,ab,bK,by rw[hz,he],by rw[hx];rfl,by rw[hy];rfl,q2,q3,q4,a.ok i _ (xAA cV)⟩
def zf{L:GL}(h:zT L=false):1<=L.n/\L.n<=20000/\L.labs.length<=4000/\L.eds.length<=100000:=by
 simp only[zT,zBJ,xBJ,xAk] at h;omega
def zA1{L:GL}(h:zT L=false){i:Nat}{e:Int×Int×Int}(he:L.eds[i]?=some e):(0<=e.1/\e.1<L.n)/\(0<=e.2.2/\e.2.2<L.n)/\(0<=e.2.1/\e.2.1<L.labs.length):=by
 simp only[zT,xBJ] at h;have ab:=(xAc.1 he).1;have:=zAr h.2 i (xDF _) (by omega);simp only[zBO,he,xBJ,Bool.not_eq_false',xAP,xBl] at this;exact⟨this.1.1.1,this.1.1.2,this.1.2⟩
def zB6(cs:List CL):List CL->List Int×List CL
 | []=>([],cs)
 | c::l=>((zOy cs c).1::(zB6 (zOy cs c).2 l).1,(zB6 (zOy cs c).2 l).2)
def zId:List GL->List CL->List CL
 | [],cs=>cs
 | L::Ls,cs=>zId Ls (zB6 cs L.labs).2
def zEu{α:Type}{l:List α}{i:Nat}{x:α}(h:l[i]?=some x):l.drop i=x::l.drop (i+1):=by
 obtain⟨ab,e⟩:=xAc.1 h;rw[xAZ ab,e]
def zpD{k:AH}{v0:Value}{els:List (List Value)}{Ls:List GL}(a:Args k v0 els Ls){bn:Nat}(i9:k.qa<=bn){K:KF}{ad:Option Addr}{cp:Nat}(ie:v0=.slice ad els.length cp){fin:List CL}
  (hK:∀ kk v n,Own k kk->NM k kk bn v n->(∀ c,zY v c->k.qa<=c)->n.length<=4000*els.length->n=fin->zt4 true K v0 (.pointer (some ⟨bn,0,none⟩)) kk) :
  ∀(m i:Nat),i+m=els.length->∀ kk v n,Own k kk->NM k kk bn v n->(∀ c,zY v c->k.qa<=c)->n.length<=4000*i->zId (Ls.drop i) n=fin->
   zxX true K v0 (.pointer (some ⟨bn,0,none⟩)) v0 (iI (els.length:Int)) (iI (i:Int)) kk:=by
 intro m
 induction m with
 | zero=>
  intro i hi kk v n ho hm hb hn cZ;refine zR5 ?_;simp only[zP,zA,zAV];have:i=els.length:=by omega
  subst this;exact⟨λ h=>by omega,λ _=>hK kk v n ho hm hb hn (by rw[xAs (by have:=a.len;omega)] at cZ;exact cZ)⟩
 | succ m ih=>
  intro i hi kk v n ho hm hb hn cZ;have ai:i<els.length:=by omega
  refine zR5 ?_;simp only[zP,zA,zAV];refine⟨λ _=>zjC ?_,λ h=>by omega⟩;obtain⟨L,b,o,c,vs,ty,es,ro,vl,ve,elsL,q0,q1,q2,q3,q4,q5,q6,q7,q8,q9,q10,q11⟩:=a.at ai;have gb:kk.get b=some (.row vs ty es ro):=(ho.ext.get b q3).trans q2;rw[ie] at q1;simp only[xBu] at q1;obtain⟨q11',_,_⟩:=q1;subst q11';have bz:=zqV (k:=kk) (e:=[iI L.n,vl,ve]) (by simp[zl];exact⟨q6,q7⟩) rfl;simp only[ie,zhw ai,zA,zN zBT gb q4,q5,zvI,zU,zF,zK,bz];refine zjB ?_;have dr:=ho.ext.qa;have f1:Fx NoB kk ((kk.new (rO [iI 0,.slice none 0 0,.slice none 0 0] 25)).upd kk.qa (some (rO [iI L.n,vl,ve] 25))):=((Fx.refl ho.ext.ok).new _).upd (.inr (xAF _)) _;have t1:((kk.new (rO [iI 0,.slice none 0 0,.slice none 0 0] 25)).upd kk.qa (some (rO [iI L.n,vl,ve] 25))).get kk.qa=some (rO [iI L.n,vl,ve] 25):=zH _ _ _;generalize ((kk.new (rO [iI 0,.slice none 0 0,.slice none 0 0] 25)).upd kk.qa (some (rO [iI L.n,vl,ve] 25)))=k1 at f1 t1;have l1:=zB (P:=E) zF4 (o:=1) t1;simp only[lnth] at l1;obtain⟨al,cl,aP⟩:=q8.slice;rw[RLab.length q9] at aP;subst aP;simp only[zA0,xAK,l1,zA,zW4];obtain⟨s1,s2,s3,s4⟩:=zf q11;have inner:∀(m2 j:Nat),j+m2=L.labs.length->∀ kk v n,Own k kk->NM k kk bn v n->(∀ c,zY v c->k.qa<=c)->n.length<=4000*i+j->zId (Ls.drop (i+1)) (zB6 n (L.labs.drop j)).2=fin->
    zxW true K (.slice (some ⟨b,o,none⟩) els.length cp) (.pointer (some ⟨bn,0,none⟩)) (.slice (some ⟨b,o,none⟩) els.length cp) (iI (els.length:Int)) (iI (i:Int)) (.slice al L.labs.length cl) (iI (L.labs.length:Int)) (iI (j:Int)) kk:=by
   intro m2
   induction m2 with
   | zero=>
    intro j hj kk v n ho hm hb hn hfin2;refine zR4 ?_;simp only[zP,zA,zAV];refine⟨λ h=>by omega,λ _=>zZK ?_⟩;simp only[zk _ (zCS ai (by have:=a.few;omega)),zA];have:=ih (i+1) (by omega) kk v n ho hm hb (by omega) (by rw[xAs (show L.labs.length<=j by omega)] at hfin2;exact hfin2);rw[ie] at this;simpa using this
   | succ m2 ih2=>
    intro j hj kk v n ho hm hb hn hfin2;have aJ:j<L.labs.length:=by omega
    have er:j<elsL.length:=by rw[RLab.length q9];exact aJ
    refine zR4 ?_;simp only[zP,zA,zAV];refine⟨λ _=>zjA ?_,λ h=>by omega⟩;obtain⟨g,vt,lt,aS,bS,aU⟩:=RLab.at q9 j _ (xAA er);obtain⟨b',o',c',vs',ty',es',ro',aH,ar,aI,cy,cK,cF⟩:=q8.load (xAA er);rw[aS] at cK;simp only[xBu] at aH;obtain⟨bP,_,_⟩:=aH;subst bP;have gb':kk.get b'=some (.row vs' ty' es' ro'):=(ho.ext.get b' aI).trans ar;simp only[zPp aJ,zA,zN zC7 gb' cy,cK,zrU,zU,zF,zK];have eV:=ziQ (k:=kk) (g:=g) (zDt bS);simp only[eV,zF];refine zi9 ?_;have dr:=ho.ext.qa;have f2:Fx NoB kk ((kk.new (rO [iI 0,.slice none 0 0] 36)).upd kk.qa (some (rO [iI g,vt] 36))):=((Fx.refl ho.ext.ok).new _).upd (.inr (xAF _)) _;have t2:((kk.new (rO [iI 0,.slice none 0 0] 36)).upd kk.qa (some (rO [iI g,vt] 36))).get kk.qa=some (rO [iI g,vt] 36):=zH _ _ _;generalize ((kk.new (rO [iI 0,.slice none 0 0] 36)).upd kk.qa (some (rO [iI g,vt] 36)))=k2 at f2 t2;have ca:=zN (P:=E) zC7 (o:=0) t2 (by simp);simp only[xCe,List.take] at ca;have o2:=f2.own ho (λ _ h=>h.elim);have ed:=hm.fx f2 (λ h=>h) (λ _ _ h=>h);simp only[ca,zA,zM];refine (zYI (h0:=k) (k:=k2) (g:=g) o2.ext i9 hb ed (by have:=a.few;omega) bS).mono λ x hx=>?_;obtain⟨r,v',n',_,cI,_,hs⟩:=hx;refine zi8 ?_;simp only[zk _ (zCS aJ (by omega)),zA];have:=ih2 (j+1) (by omega) x.2 v' n' (hs.fx.own o2 (λ c hc=>hc.elim (λ h=>by rw[h];exact i9) (hb c))) hs.nm (λ c hc=>(hs.blk c hc).elim (hb c) λ h=>by have:=o2.ext.qa;omega) (by have:=hs.n;omega) (by rw[zEu aU] at hfin2;have h2:=congrArg Prod.snd cI;simp only at h2;rw[h2];exact hfin2);simpa using this
  exact inner L.labs.length 0 (by omega) k1 v n (f1.own ho (λ _ h=>h.elim)) (hm.fx f1 (λ h=>h) (λ _ _ h=>h)) hb (by omega) (by rw[zEu q0] at cZ;exact cZ)
structure Elt(t e:TypeId)(z:Nat):Prop where
 el:zC8 E t=some e
 un:und E t=some (.slice e)
 ti:∃ i,zC6 E e=some i/\i.size=z/\zF9 i=true
def zGd{t e:TypeId}{z:Nat}{b:Bool}(h1:zC8 E t=some e)(h2:und E t=some (.slice e))(h3:tAS E e=some (b,z))(h4:(match zC6 E e with|some i=>zF9 i|none=>false)=true):Elt t e z:=by
 refine⟨h1,h2,?_⟩;cases ht:zC6 E e with
 | none=>unfold tAS at h3;rw[ht] at h3;cases h3
 | some i=>
  refine⟨i,rfl,?_,?_⟩
  ·unfold tAS at h3;rw[ht] at h3;simp at h3;exact h3.2
  ·rw[ht] at h4;exact h4
def elt132:Elt 132 134 2:=zGd zpU zIO zEg (by kernel_rfl)
def znT:Elt 126 128 1:=zGd zpW zV5 zCU (by kernel_rfl)
def append_nil{t e z:Nat}(H:Elt t e z){h:AH}{c:Nat}{us:List Value}{ty es:Nat}{ro:Bool}(hc:h.get c=some (.row us ty es ro))(hl:us.length=z) :
  zy E .append [t,t] (some [.slice none 0 0,.slice (some ⟨c,0,none⟩) 1 1]) h=one (.slice (some ⟨h.qa,0,none⟩) 1 (UNK+z),h.new (.row us e z false)):=by
 obtain⟨ti,e1,e2,e3⟩:=H.ti;show v2 (zBD E [t,t] (.slice none 0 0) (.slice (some ⟨c,0,none⟩) 1 1) h)=_;simp only[zBD,H.el,H.un,zFb,xAH,e1,zCQ,zBG,hc,e2,Nat.one_mul,zAl,zAo,zAL,xCe];rw[xAD (by omega),hl,xCp];simp only[xDM,e3,xAG,zBj,show Nat.beq 1 0=false from rfl,xAH,zA2,v2];rfl
def zB8{t e z:Nat}(H:Elt t e z)(hz:0<z){h:AH}{b c n:Nat}{vs us:List Value}{ty es:Nat}{ro:Bool}(hb:h.get b=some (.row vs e z false))(cO:vs.length=n*z)(hn:n+1<=1000000)
  (hc:h.get c=some (.row us ty es ro)) (hl:us.length=z) (hlf:us.all zl=true) :
  zy E .append [t,t] (some [.slice (some ⟨b,0,none⟩) n (UNK+z),.slice (some ⟨c,0,none⟩) 1 1]) h=one (.slice (some ⟨h.qa,0,none⟩) (n+1) (UNK+z),(h.upd b none).new (.row (vs++us) e z false)):=by
 obtain⟨ti,e1,e2,e3⟩:=H.ti;show v2 (zBD E [t,t] (.slice (some ⟨b,0,none⟩) n (UNK+z)) (.slice (some ⟨c,0,none⟩) 1 1) h)=_;simp only[zBD,H.el,H.un,zFb,xAH,e1,zCQ,zBG,hc,e2,Nat.one_mul,zAl,zAo,zAL,xCe];rw[xAD (by omega),hl,xCp];simp only[xDM,e3,xAG,zBj,show Nat.beq 1 0=false from rfl,xAH,hb];have h1:Nat.ble UNK (UNK+z)=true:=ble_true.2 (by omega);simp only[zCs,h1,xCp,xCm,xAM,xAG,zED,xAK,zAL];have h2:Nat.ble ((n+1)*z) vs.length=false:=ble_false.2 (by rw[cO,xDE];omega);have h3:Nat.beq (n*z) vs.length=true:=by rw[cO];exact xCp _
 simp only[h2,xAH,h3,xAG,zEE,hlf,zAl,zAo,xCe];rw[xAD (by omega)];simp only[zA2,ble_true.2 hn,xAG,v2];rfl
def zFL(l:List Value)(j:Nat)(v:Value)(h:j<l.length):lput l j [v]=l.set j v:=by
 induction l generalizing j with
 | nil=>simp at h
 | cons a l ih=>
  cases j with
  | zero=>simp[lput]
  | succ j=>simp only[lput,List.set_cons_succ];rw[ih j (by simpa using h)]
def zoq(labs:List (Int×List GT))(nums:List Int)(j:Nat):Prop:=∀ g l,labs[j]?=some (g,l)->∃ r,nums[j]?=some r/\0<=r/\(g=-1->r=0)/\(g≠-1->1<=r)
abbrev ints(l:List Int):List Value:=l.map (Value.int .i64)
def zht(l:List Int)(j:Nat)(r:Int):(ints l).set j (iI r)=ints (l.set j r):=by
 simp[ints,List.map_set]
def take_set{α:Type}:∀ {l:List α} {j:Nat} {r:α},j<l.length->(l.set j r).take (j+1)=l.take j++[r]
 | [],_,_,h=>by simp at h
 | a::l,0,r,_=>by simp
 | a::l,j+1,r,h=>by
  simp only[List.set_cons_succ,xBP,xCL];rw[take_set (by simpa using h)]
def zpC{k:AH}{bn:Nat}(i9:k.qa<=bn){K:KF}{vl:Value}{labs:List (Int×List GT)}{elsL:List (List Value)}{al:Option Addr}{cl:Nat}(aP:vl=.slice al labs.length cl)(ha:Arr k 2 vl elsL)(hL:RLab k elsL labs)
  (hsmall:labs.length<=4000) {v8 v10 v11 v34 v35 v36:Value} {bm base:Nat} (bj:k.qa<=bm) (hbase:base<=90000)
  {k0:AH} {w0:Value} (hk0:k.qa<=k0.qa) {N1:List Int} {cs1:List CL}
  (hK:∀ kk v n nums,Own k kk->NM k kk bn v n->(∀ c,zY v c->k.qa<=c)->n.length<=base+labs.length->n=cs1->nums=N1->Fx (λ c=>(c=bn\/zY w0 c)\/c=bm) k0 kk->(∀ c,zY v c->zY w0 c\/k0.qa<=c)->bm≠bn->¬ zY v bm->
   kk.get bm=some (rO (ints nums) 3)->nums.length=labs.length->(∀ j,j<labs.length->zoq labs nums j)->zt1 true K (.pointer (some ⟨bn,0,none⟩)) v8 v10 v11 (.slice (some ⟨bm,0,none⟩) labs.length labs.length) v34 v35 v36 kk) :
  ∀(m j:Nat),j+m=labs.length->∀ kk v n nums,Own k kk->NM k kk bn v n->(∀ c,zY v c->k.qa<=c)->n.length<=base+j->(zB6 n (labs.drop j)).2=cs1->nums.take j++(zB6 n (labs.drop j)).1=N1->Fx (λ c=>(c=bn\/zY w0 c)\/c=bm) k0 kk->(∀ c,zY v c->zY w0 c\/k0.qa<=c)->bm≠bn->¬ zY v bm->bm<kk.qa->
   kk.get bm=some (rO (ints nums) 3)->nums.length=labs.length->(∀ i,i<j->zoq labs nums i)->
   zt2 true K (.pointer (some ⟨bn,0,none⟩)) v8 v10 v11 (.slice (some ⟨bm,0,none⟩) labs.length labs.length) v34 v35 v36 vl (iI (labs.length:Int)) (iI (j:Int)) kk:=by
 intro m
 induction m with
 | zero=>
  intro j hj kk v n nums ho hm hb hn aT fY hf ba aj bZ ab aw hlen aa;refine zNh ?_;simp only[zP,zA,zAV];have:j=labs.length:=by omega
  subst this;exact⟨λ h=>by omega,λ _=>hK kk v n nums ho hm hb hn (by rw[List.drop_length] at aT;exact aT) (by rw[List.drop_length,xAD (by omega)] at fY;simpa[zB6] using fY) hf ba aj bZ aw hlen aa⟩
 | succ m ih=>
  intro j hj kk v n nums ho hm hb hn aT fY hf ba aj bZ ab aw hlen aa;have aJ:j<labs.length:=by omega
  have er:j<elsL.length:=by rw[RLab.length hL];exact aJ
  refine zNh ?_;simp only[zP,zA,zAV];refine⟨λ _=>zZD ?_,λ h=>by omega⟩;obtain⟨g,vt,lt,aS,bS,aU⟩:=RLab.at hL j _ (xAA er);obtain⟨b',o',c',vs',ty',es',ro',aH,ar,aI,cy,cK,cF⟩:=ha.load (xAA er);rw[aS] at cK;rw[aP] at aH;simp only[xBu] at aH;obtain⟨bP,_,_⟩:=aH;subst bP;have gb':kk.get b'=some (.row vs' ty' es' ro'):=(ho.ext.get b' aI).trans ar;have eV:=ziQ (k:=kk) (g:=g) (zDt bS);simp only[aP,zPp aJ,zA,zN zC7 gb' cy,cK,zrU,zU,zF,zK,eV];refine zZC ?_;have dr:=ho.ext.qa;have f2:Fx NoB kk ((kk.new (rO [iI 0,.slice none 0 0] 36)).upd kk.qa (some (rO [iI g,vt] 36))):=((Fx.refl ho.ext.ok).new _).upd (.inr (xAF _)) _;have t2:((kk.new (rO [iI 0,.slice none 0 0] 36)).upd kk.qa (some (rO [iI g,vt] 36))).get kk.qa=some (rO [iI g,vt] 36):=zH _ _ _;generalize ((kk.new (rO [iI 0,.slice none 0 0] 36)).upd kk.qa (some (rO [iI g,vt] 36)))=k2 at f2 t2;have ca:=zN (P:=E) zC7 (o:=0) t2 (by simp);simp only[xCe,List.take] at ca;have o2:=f2.own ho (λ _ h=>h.elim);have ed:=hm.fx f2 (λ h=>h) (λ _ _ h=>h);simp only[zA,ca,zM];refine (zYI (h0:=k) (k:=k2) (g:=g) o2.ext i9 hb ed (by omega) bS).mono λ x hx=>?_;obtain⟨r,v',n',hx1,cI,hr,hs⟩:=hx;have hnu1:(zOy n (g,lt)).1=r:=(congrArg Prod.fst cI).symm;have hnu2:(zOy n (g,lt)).2=n':=(congrArg Prod.snd cI).symm;rw[zEu aU] at aT fY;simp only[zB6,hnu1,hnu2] at aT fY;rw[hx1];have o3:=hs.fx.own o2 (λ c hc=>hc.elim (λ h=>by rw[h];exact i9) (hb c));have kT:x.2.get bm=some (rO (ints nums) 3):=by
   rw[hs.get bm (xAC ab f2.qa) aj bZ,f2.get bm ab (λ h=>h)];exact aw
  have hlt3:bm<x.2.qa:=xAC (xAC ab f2.qa) hs.qa;have lk:j<nums.length:=by omega
  have dh:=zi (P:=E) zg8 (o:=0+j*1) kT (zEw .i64 r) rfl (by simp[ints];omega) rfl;rw[show 0+j*1=j by omega,zFL _ _ _ (by simp[ints];omega),zht] at dh;have hia:=zXe (b:=bm) (o:=0) (c:=labs.length) aJ;rw[show 0+j*1=j by omega] at hia;simp only[hia,zA,dh,zF];refine zZB ?_;have im:¬ zY v' bm:=λ h=>(hs.blk bm h).elim bZ λ h=>by have:=f2.qa;omega
  have f4:Fx (λ c=>c=bm) x.2 (x.2.upd bm (some (.row (ints (nums.set j r)) 3 0 false))):=Fx.upd (P:=λ c=>c=bm) (Fx.refl hs.ok) (.inl rfl) _;have hm4:=hs.nm.fx f4 (λ h=>aj h.symm) (λ c hc h=>im (h ▸ hc));simp only[zk _ (zCS aJ (by omega)),zA];have hbl':∀ c,zY v' c->zY w0 c\/k0.qa<=c:=λ c hc=>(hs.blk c hc).elim (ba c) λ h=>.inr (by have:=f2.qa;have:=hf.qa;omega);have hff:Fx (λ c=>(c=bn\/zY w0 c)\/c=bm) k0 (x.2.upd bm (some (.row (ints (nums.set j r)) 3 0 false))):=by
   have e1:=hf.trans f2 (λ _ h=>h.elim);have e2:=e1.trans hs.fx (λ c hc=>hc.elim (λ h=>.inl (.inl (.inl h))) λ h=>(ba c h).elim (λ h=>.inl (.inl (.inr h))) .inr);exact e2.trans f4 (λ c h=>.inl (.inr h))
  have:=ih (j+1) (by omega) _ v' n' (nums.set j r) (f4.own o3 (λ c h=>by rw[h];exact bj)) hm4
   (λ c hc=>(hs.blk c hc).elim (hb c) λ h=>by have:=o2.ext.qa;omega) (by have:=hs.n;omega) aT (by rw[take_set lk,xBs];exact fY) hff hbl' aj im (by simpa using hlt3) (zH _ _ _) (by simp[hlen]) (λ i hi g' l' dE=>by
    by_cases eQ:i=j
    ·subst eQ;rw[aU] at dE;simp only[xAN,xCl] at dE;obtain⟨rfl,rfl⟩:=dE;refine⟨r,by simp[lk],?_⟩;by_cases hg:g=-1
     ·rw[xDO hg] at hr;exact⟨by omega,λ _=>hr,λ h=>absurd hg h⟩
     ·rw[xDN hg] at hr;exact⟨by omega,λ h=>absurd h hg,λ _=>hr.1⟩
    ·obtain⟨r',a1,a2⟩:=aa i (by omega) g' l' dE;exact⟨r',by rw[xBM (by omega)];exact a1,a2⟩)
  rw[aP] at this;simpa using this
abbrev za:=List (Int×Int)
def stc(S:za):List Value:=S.flatMap zC
def zIU:∀ S:za,(stc S).length=S.length*2
 | []=>rfl
 | x::l=>by simp only[stc,xBv,xBY,xCG];have:=zIU l;simp only[stc] at this;rw[this];simp[zC];omega
def CellOK(h:AH)(c:Value)(S:za):Prop:=(c=.slice none 0 0/\S=[])\/∃ b,c=.slice (some ⟨b,0,none⟩) S.length (UNK+2)/\h.get b=some (.row (stc S) 134 2 false)/\b<h.qa
structure GG(loc:Nat)(h:AH)(bg bs:Nat)(cells:List Value)(SS:List za):Prop where
 g:h.get bg=some (rO [.slice (some ⟨bs,0,none⟩) cells.length cells.length] 131)
 s:h.get bs=some (rO cells 132)
 len:cells.length=SS.length
 ne:bg≠bs
 ltg:bg<h.qa
 lts:bs<h.qa
 locg:loc<=bg
 locs:loc<=bs
 cell:∀(i:Nat) (c:Value) (S:za),cells[i]?=some c->SS[i]?=some S->CellOK h c S
 blk:∀(i:Nat) (c:Value) (b:Nat),cells[i]?=some c->zY c b->b≠bg/\b≠bs/\loc<=b
 dis:∀(i j:Nat) (c d:Value) (b:Nat),cells[i]?=some c->cells[j]?=some d->zY c b->zY d b->i=j
def CellOK.lt{h:AH}{c:Value}{S:za}(k:CellOK h c S){b:Nat}(hb:zY c b):b<h.qa:=by
 obtain⟨n,cap,rfl⟩:=hb;rcases k with ⟨e,_⟩|⟨b',e,_,ab⟩
 ·cases e
 ·simp only[xBu,xAN,xCo] at e;rw[e.1.1];exact ab
def CellOK.fx{P:Nat->Prop}{h h':AH}{c:Value}{S:za}(k:CellOK h c S)(f:Fx P h h')(hn:∀ b,zY c b->¬ P b):CellOK h' c S:=by
 rcases k with e|⟨b,e,hg,ab⟩
 ·exact .inl e
 ·exact .inr ⟨b,e,(f.get b ab (hn b ⟨_,_,e⟩)).trans hg,xAC ab f.qa⟩
def CellOK.leaf{h:AH}{c:Value}{S:za}(k:CellOK h c S):zl c=true/\zd c=[c]/\veq 100 c c=true:=by
 rcases k with ⟨rfl,_⟩|⟨b,rfl,_⟩ <;> exact⟨rfl,rfl,zAw _ _ _ _⟩
def GG.fx{P:Nat->Prop}{loc bg bs:Nat}{h h':AH}{cells:List Value}{SS:List za}(G:GG loc h bg bs cells SS)(f:Fx P h h')(h1:¬ P bg)(h2:¬ P bs)(h3:∀(i:Nat) (c:Value) (b:Nat),cells[i]?=some c->zY c b->¬ P b):GG loc h' bg bs cells SS:=
 ⟨(f.get bg G.ltg h1).trans G.g,(f.get bs G.lts h2).trans G.s,G.len,G.ne,xAC G.ltg f.qa,xAC G.lts f.qa,G.locg,G.locs,
  λ i c S hc hS=>(G.cell i c S hc hS).fx f (λ b hb=>h3 i c b hc hb),G.blk,G.dis⟩
def zqT{a b:Int}{h:AH}:zg E 132 1 (some [(0,.agg #[iI a,iI b])]) h=one (.slice (some ⟨h.qa,0,none⟩) 1 1,h.new (rO [iI a,iI b] 134)):=by kernel_rfl
def zoj{a b:Int}:zAT E 134 (some [(0,iI a),(1,iI b)])=some (.agg #[iI a,iI b]):=by kernel_rfl
def zFv{h:AH}(aa:h.ok){c:Value}{S:za}(hc:CellOK h c S)(hS:S.length+1<=1000000)(a b:Int) :
  ∃ h3,zy E .append [132,132] (some [c,.slice (some ⟨h.qa,0,none⟩) 1 1]) (h.new (rO [iI a,iI b] 134))=one (.slice (some ⟨h.qa+1,0,none⟩) (S.length+1) (UNK+2),h3) ∧
   h3.get (h.qa+1)=some (.row (stc (S++[(a,b)])) 134 2 false)/\h3.qa=h.qa+2/\Fx (λ x=>zY c x) h h3:=by
 have aw:=zD h (rO [iI a,iI b] 134);have af:stc (S++[(a,b)])=stc S++[iI a,iI b]:=by simp[stc,zC,xBU]
 rcases hc with ⟨rfl,rfl⟩|⟨bl,rfl,hg,ab⟩
 ·refine⟨_,append_nil elt132 aw rfl,?_,rfl,((Fx.refl aa).new _).new _⟩;rw[af];exact zD (h.new _) _
 ·have dy:(h.new (rO [iI a,iI b] 134)).get bl=some (.row (stc S) 134 2 false):=by rw[zG (by omega)];exact hg
  refine⟨_,zB8 elt132 (by omega) dy (zIU S) hS aw rfl (by simp[zl]),?_,rfl,?_⟩
  ·rw[af];exact zD ((h.new _).upd bl none) _
  ·have f1:Fx (λ x=>zY (.slice (some ⟨bl,0,none⟩) S.length (UNK+2)) x) h (h.new (rO [iI a,iI b] 134)):=(Fx.refl aa).new _;exact (f1.upd (.inl ⟨_,_,rfl⟩) none).new _
def zxV(n:Nat)(vis:Prop)(S:za):Prop:=∀ x∈S,(0<=x.2/\x.2<n)/\0<=x.1/\(vis->1<=x.1)
def zQN{k:AH}{e:Int×Int×Int} :
  zAM E 52 (k.new (rO [iI 0,iI 0,iI 0] 52)) (sP k.qa 0) (some (.agg ⟨zQ e⟩))=one (undef,(k.new (rO [iI 0,iI 0,iI 0] 52)).upd k.qa (some (rO (zQ e) 52))):=by
 rw[zi (P:=E) zoJ (x:=.agg ⟨zQ e⟩) (cs:=zQ e) (zD k _) rfl rfl (by simp) (by simp[zQ,zl])];rfl
def zpX{L:GL}(h:zT L=false):L.eds.length<=100000:=by
 simp only[zT,zBJ,xBJ,xAk] at h;omega
def zDN(nums:List Int):List za->List (Int×Int×Int)->List za
 | SS,[]=>SS
 | SS,e::l=>zDN nums (SS.set e.1.toNat ((SS[e.1.toNat]?.getD [])++[((nums[e.2.1.toNat]?).getD 0,e.2.2)])) l
def zpB{k:AH}{K:KF}{L:GL}{ve:Value}{ae:Option Addr}{ce:Nat}(bJ:ve=.slice ae L.eds.length ce)(ha:Arr k 3 ve (L.eds.map zQ))(hL:zT L=false){N:Nat}(hN:L.n=(N:Int))
  {v3 v8 v34 v35 v36:Value} {bm bg bs:Nat} {nums:List Int} (hlen:nums.length=L.labs.length) (cI:∀ j,j<L.labs.length->zoq L.labs nums j) {k0:AH} {cells0:List Value} {SS1:List za} {vis:Prop} (hvis:vis->∀(j:Nat) (g:Int) (l:List GT),L.labs[j]?=some (g,l)->g≠-1)
  (hK:∀ kk cells SS,Own k kk->GG k.qa kk bg bs cells SS->cells.length=N->(∀(i:Nat) (S:za),SS[i]?=some S->zxV N vis S/\S.length<=100000)->SS=SS1->Fx (λ c=>c=bs\/∃(i:Nat) (x:Value),cells0[i]?=some x/\zY x c) k0 kk->
   (∀(i:Nat) (x:Value) (c:Nat),cells[i]?=some x->zY x c->(∃(i:Nat) (x:Value),cells0[i]?=some x/\zY x c)\/k0.qa<=c)->
   ztz true K v3 v8 (.pointer (some ⟨bg,0,none⟩)) v34 v35 v36 kk) :
  ∀(m j:Nat),j+m=L.eds.length->∀ kk cells SS,Own k kk->GG k.qa kk bg bs cells SS->cells.length=N->(∀(i:Nat) (S:za),SS[i]?=some S->zxV N vis S/\S.length<=j)->zDN nums SS (L.eds.drop j)=SS1->Fx (λ c=>c=bs\/∃(i:Nat) (x:Value),cells0[i]?=some x/\zY x c) k0 kk->
   (∀(i:Nat) (x:Value) (c:Nat),cells[i]?=some x->zY x c->(∃(i:Nat) (x:Value),cells0[i]?=some x/\zY x c)\/k0.qa<=c)->
   kk.get bm=some (rO (ints nums) 3)->bm<kk.qa->bm≠bs->(∀(i:Nat) (x:Value),cells[i]?=some x->¬ zY x bm)->k.qa<=bm->
   zt0 true K v3 v8 (.pointer (some ⟨bg,0,none⟩)) (.slice (some ⟨bm,0,none⟩) L.labs.length L.labs.length) v34 v35 v36 ve (iI (L.eds.length:Int)) (iI (j:Int)) kk:=by
 obtain⟨z1,z2,z3,z4⟩:=zf hL;intro m
 induction m with
 | zero=>
  intro j hj kk cells SS ho hG hNc af hZ hf fW bj hbml hbne hbnb hbloc;refine zNg ?_;simp only[zP,zA,zAV];exact⟨λ h=>by omega,λ _=>hK kk cells SS ho hG hNc (λ i S h=>⟨(af i S h).1,by have:=(af i S h).2;have:=zpX hL;omega⟩) (by rw[xAs (show L.eds.length<=j by omega)] at hZ;exact hZ) hf fW⟩
 | succ m ih=>
  intro j hj kk cells SS ho hG hNc af hZ hf fW bj hbml hbne hbnb hbloc;have aJ:j<L.eds.length:=by omega
  refine zNg ?_;simp only[zP,zA,zAV];refine⟨λ _=>zY9 ?_,λ h=>by omega⟩;have fK:L.eds[j]?=some L.eds[j]:=xAA aJ;have aU:(L.eds.map zQ)[j]?=some (zQ L.eds[j]):=by simp[aJ]
  obtain⟨b,o,c,vs,ty,es,ro,hv,hb,ab,cQ,hz,bN⟩:=ha.load aU;rw[bJ] at hv;simp only[xBu] at hv;obtain⟨bP,_,cq⟩:=hv;subst bP;have gb:kk.get b=some (.row vs ty es ro):=(ho.ext.get b ab).trans hb;obtain⟨⟨f1,f2⟩,⟨t1,t2⟩,⟨l1,l2⟩⟩:=zA1 hL fK;rw[zEu fK] at hZ;generalize aC:L.eds[j]=e at hZ hz bN f1 f2 t1 t2 l1 l2;obtain⟨from',lab,to⟩:=e;simp only at f1 f2 t1 t2 l1 l2;obtain⟨fr,rfl⟩:=xAp f1;obtain⟨la,rfl⟩:=xAp l1;have bI:fr<cells.length:=by omega
  have dS:fr<SS.length:=by rw[← hG.len];exact bI
  have dP:la<L.labs.length:=by omega
  have hla':la<nums.length:=by omega
  simp only[bJ,zo8 aJ,zA,zN zMQ gb cQ,hz,zmk,zU,zF,zK,zQN];refine zY8 ?_;have dr:=ho.ext.qa;have fb:Fx NoB kk ((kk.new (rO [iI 0,iI 0,iI 0] 52)).upd kk.qa (some (.row (zQ ((fr:Int),(la:Int),to)) 52 0 false))):=((Fx.refl ho.ext.ok).new _).upd (.inr (xAF _)) _;have tb:((kk.new (rO [iI 0,iI 0,iI 0] 52)).upd kk.qa (some (.row (zQ ((fr:Int),(la:Int),to)) 52 0 false))).get kk.qa=some (.row (zQ ((fr:Int),(la:Int),to)) 52 0 false):=zH _ _ _;have nb:((kk.new (rO [iI 0,iI 0,iI 0] 52)).upd kk.qa (some (.row (zQ ((fr:Int),(la:Int),to)) 52 0 false))).qa=kk.qa+1:=rfl;generalize ((kk.new (rO [iI 0,iI 0,iI 0] 52)).upd kk.qa (some (.row (zQ ((fr:Int),(la:Int),to)) 52 0 false)))=k1 at fb tb nb;have o1:=fb.own ho (λ _ h=>h.elim);have be:=hG.fx fb (λ h=>h) (λ h=>h) (λ _ _ _ _ _ h=>h);have lZ:k1.get bm=some (rO (ints nums) 3):=(fb.get bm hbml (λ h=>h)).trans bj;have c0:=zB (P:=E) zAE (o:=0) tb;have c1:=zB (P:=E) zAE (o:=1) tb;have c2:=zB (P:=E) zAE (o:=2) tb;simp only[lnth,zQ] at c0 c1 c2;have lg:=zB (P:=E) zEh (o:=0) be.g;simp only[lnth] at lg;have ac:cells[fr]?=some cells[fr]:=xAA bI;have bY:SS[fr]?=some SS[fr]:=xAA dS;have ls:=zB (P:=E) zC3 (o:=0+fr*1) be.s;rw[zAI,show 0+fr*1=fr by omega,ac] at ls;have ln:=zB (P:=E) zAE (o:=0+la*1) lZ;obtain⟨gl,dE⟩:∃ gl,L.labs[la]?=some gl:=⟨_,xAA dP⟩;obtain⟨r,fy,fv,hr3,hr4⟩:=cI la dP gl.1 gl.2 dE;rw[zAI,show 0+la*1=la by omega,xBi,fy,xCS] at ln;have ia1:=zI0 (b:=bs) (o:=0) (c:=cells.length) bI;have ia2:=zXe (b:=bm) (o:=0) (c:=L.labs.length) dP;rw[show 0+fr*1=fr by omega] at ia1;rw[show 0+la*1=la by omega] at ia2;have hC:=be.cell fr _ _ ac bY;obtain⟨clf,cc1,cveq⟩:=hC.leaf;have gZ:=(af fr _ bY).2;obtain⟨h3,q1,q2,q3,q4⟩:=zFv o1.ext.ok hC (by omega) r to;have f2x:Fx NoB k1 (k1.new (rO [iI r,iI to] 134)):=(Fx.refl o1.ext.ok).new _;have hG2:=be.fx f2x (λ h=>h) (λ h=>h) (λ _ _ _ _ _ h=>h);have tb2:(k1.new (rO [iI r,iI to] 134)).get kk.qa=_:=(zG (by omega)).trans tb;have d0:=zB (P:=E) zAE (o:=0) tb2;simp only[lnth,zQ] at d0;have lg2:=zB (P:=E) zEh (o:=0) hG2.g;have ls2:=zB (P:=E) zC3 (o:=0+fr*1) hG2.s;simp only[lnth] at lg2;rw[zAI,show 0+fr*1=fr by omega,ac] at ls2;have an:∀ x,zY cells[fr] x->x≠bg/\x≠bs/\k.qa<=x:=λ x hx=>be.blk fr _ x ac hx;have tb3:h3.get kk.qa=some (.row (zQ ((fr:Int),(la:Int),to)) 52 0 false):=(q4.get kk.qa (by omega) (λ hx=>by have:=(hG.cell fr _ _ ac bY).lt hx;omega)).trans tb;have e0:=zB (P:=E) zAE (o:=0) tb3;simp only[lnth,zQ] at e0;have lF:h3.get bg=_:=(q4.get bg be.ltg (λ hx=>(an bg hx).1 rfl)).trans be.g;have kR:h3.get bs=_:=(q4.get bs be.lts (λ hx=>(an bs hx).2.1 rfl)).trans be.s;have lg3:=zB (P:=E) zEh (o:=0) lF;simp only[lnth] at lg3;have dh:=zi (P:=E) zQk (o:=fr) kR (zFr (some ⟨k1.qa+1,0,none⟩) (SS[fr].length+1) (UNK+2)) rfl (by omega) rfl;rw[zFL _ _ _ bI] at dh;simp only[zA,zx,zCj,zDU,zCe,zBo,xCu,xAK,lg,c0,c1,c2,ia1,ls,ia2,ln,zoj,zqT,zF,ls2,lg2,d0,cveq,zAw,zBF,xDJ,q1,e0,lg3,dh];refine zY7 ?_;simp only[zk _ (zCS aJ (by omega)),zA];have hP:∀ c,(c=bs\/zY cells[fr] c)->(c=bs\/∃(i:Nat) (x:Value),cells0[i]?=some x/\zY x c)\/k0.qa<=c:=by
   rintro c (rfl|hc)
   ·exact .inl (.inl rfl)
   ·exact (fW fr _ c ac hc).elim (λ h=>.inl (.inr h)) .inr
  have f5:Fx (λ c=>c=bs\/zY cells[fr] c) k1 (h3.upd bs (some (.row (cells.set fr (.slice (some ⟨k1.qa+1,0,none⟩) (SS[fr].length+1) (UNK+2))) 132 0 false))):=
   (q4.mono (P':=λ c=>c=bs\/zY cells[fr] c) (λ c hc=>.inl (.inr hc))).upd (.inl (.inl rfl)) _
  have o5:=f5.own o1 (λ c hc=>hc.elim (λ h=>by rw[h];exact hG.locs) λ h=>(an c h).2.2);have aQ:∀(i:Nat) (c:Value),(cells.set fr (.slice (some ⟨k1.qa+1,0,none⟩) (SS[fr].length+1) (UNK+2)))[i]?=some c->(i=fr/\c=.slice (some ⟨k1.qa+1,0,none⟩) (SS[fr].length+1) (UNK+2))\/(i≠fr/\cells[i]?=some c):=by
   intro i c hc;by_cases hi:i=fr
   ·subst hi;rw[xAt bI] at hc;exact .inl ⟨rfl,(xCc hc).symm⟩
   ·rw[xBM (λ h=>hi h.symm)] at hc;exact .inr ⟨hi,hc⟩
  have bi:∀ b,zY (.slice (some ⟨k1.qa+1,0,none⟩) (SS[fr].length+1) (UNK+2)) b->b=k1.qa+1:=by
   rintro b ⟨n,cap,h⟩;simp only[xBu,xAN,xCo] at h;exact h.1.1.symm
  have dB:∀(i:Nat) (c:Value) (b:Nat),cells[i]?=some c->zY c b->b<k1.qa:=λ i c b hc hb=>by
   have hi:i<SS.length:=by rw[← hG.len];exact (xAc.1 hc).1
   exact (be.cell i c _ hc (xAA hi)).lt hb
  have hG5:GG k.qa (h3.upd bs (some (.row (cells.set fr (.slice (some ⟨k1.qa+1,0,none⟩) (SS[fr].length+1) (UNK+2))) 132 0 false))) bg bs (cells.set fr (.slice (some ⟨k1.qa+1,0,none⟩) (SS[fr].length+1) (UNK+2))) (SS.set fr (SS[fr]++[(r,to)])):=by
   refine⟨?_,zH _ _ _,by simp[hG.len],hG.ne,?_,?_,hG.locg,hG.locs,?_,?_,?_⟩
   ·rw[zL hG.ne,List.length_set];exact lF
   ·show bg<h3.qa;have:=be.ltg;omega
   ·show bs<h3.qa;have:=be.lts;omega
   ·intro i c S hc hS;rcases aQ i c hc with ⟨rfl,rfl⟩|⟨hi,am⟩
    ·rw[xAt dS] at hS;cases hS;refine .inr ⟨k1.qa+1,by simp,?_,by show _<h3.qa;omega⟩;rw[zL (by have:=be.lts;omega)];exact q2
    ·rw[xBM (λ h=>hi h.symm)] at hS;have:=be.cell i c S am hS;refine this.fx f5 (λ b hb=>?_);rintro (rfl|aN)
     ·exact (be.blk i c _ am hb).2.1 rfl
     ·exact hi (be.dis i fr c _ b am ac hb aN)
   ·intro i c b hc hb;rcases aQ i c hc with ⟨rfl,rfl⟩|⟨hi,am⟩
    ·rw[bi b hb];have:=be.ltg;have:=be.lts;omega
    ·exact be.blk i c b am hb
   ·intro i i' c d b hc hd hb ar;rcases aQ i c hc with ⟨rfl,rfl⟩|⟨hi,am⟩
    ·rcases aQ i' d hd with ⟨rfl,_⟩|⟨cV,fF⟩
     ·rfl
     ·have:=bi b hb;have:=dB i' d b fF ar;omega
    ·rcases aQ i' d hd with ⟨rfl,rfl⟩|⟨cV,fF⟩
     ·have:=bi b ar;have:=dB i c b am hb;omega
     ·exact be.dis i i' c d b am fF hb ar
  have hbm5:(h3.upd bs (some (.row (cells.set fr (.slice (some ⟨k1.qa+1,0,none⟩) (SS[fr].length+1) (UNK+2))) 132 0 false))).get bm=some (rO (ints nums) 3):=
   (f5.get bm (by omega) (λ h=>h.elim hbne λ h=>hbnb fr _ ac h)).trans lZ
  have cZ:=ih (j+1) (by omega) _ _ _ o5 hG5 (by simp[hNc]) (λ i S hS=>by
   by_cases hi:i=fr
   ·subst hi;rw[xAt dS] at hS;cases hS;refine⟨λ x hx=>?_,by simp;omega⟩;rcases xCU.1 hx with hx|hx
    ·exact (af i _ bY).1 x hx
    ·simp only[xAE] at hx;subst hx;exact⟨⟨t1,by show to<(N:Int);omega⟩,fv,λ hv=>hr4 (hvis hv la gl.1 gl.2 dE)⟩
   ·rw[xBM (λ h=>hi h.symm)] at hS;have:=af i S hS;exact⟨this.1,by omega⟩)
   (by
    have:zDN nums SS (((fr:Int),(la:Int),to)::L.eds.drop (j+1))=zDN nums (SS.set fr (SS[fr]++[(r,to)])) (L.eds.drop (j+1)):=by
     simp only[zDN,xBn,bY,fy,xCH]
    rw[← this];exact hZ)
   ((hf.trans fb (λ _ h=>h.elim)).trans f5 hP)
   (λ i x c hx hc=>by
    rcases aQ i x hx with ⟨rfl,rfl⟩|⟨hi,bM⟩
    ·rw[bi c hc];exact .inr (by have:=hf.qa;omega)
    ·exact fW i x c bM hc)
   hbm5 (by show bm<h3.qa;omega) hbne (λ i x hx hb=>by
    rcases aQ i x hx with ⟨rfl,rfl⟩|⟨hi,bM⟩
    ·have:=bi bm hb;omega
    ·exact hbnb i x bM hb) hbloc
  rw[bJ] at cZ;simpa using cZ
def zm4{α:Type}(a:α):∀ n:Nat,rep n [a]=List.replicate n a
 | 0=>rfl
 | n+1=>by simp only[rep,zm4 a n,List.replicate_succ];rfl
def zGz{t e:TypeId}{z:Value}(H:∃ i,zC8 E t=some e/\zC6 E e=some i/\i.zero=some z/\i.bytes<=1000000/\i.size=1)(hz:zd z=[z]){n:Nat}(hn:n<=1000000){h:AH} :
  zAG E t (some (iI (n:Int))) (some (iI (n:Int))) h=one (.slice (some ⟨h.qa,0,none⟩) n n,h.new (rO (List.replicate n z) e)):=by
 obtain⟨i,h1,h2,h3,h4,h5⟩:=H;have ha:zE0 (iI (n:Int))=some n:=rfl;simp only[zAG,h1,ha,h2,h3,ble_true.2 (xAF n),ble_true.2 hn,ble_true.2 h4,hz,zBU,h5,zm4];rfl
def zSr{t:TypeId}{b:Bool}{n:Nat}{z:Value}(h1:tAS E t=some (b,n))(h2:zAh E t=some z)(h3:(match zC6 E t with|some i=>Nat.ble i.bytes 1000000|none=>false)=true):∃ i,zC6 E t=some i/\i.zero=some z/\i.bytes<=1000000/\i.size=n:=by
 cases ht:zC6 E t with
 | none=>unfold tAS at h1;rw[ht] at h1;cases h1
 | some i=>
  refine⟨i,rfl,?_,?_,?_⟩
  ·have:zAh E t=i.zero:=by unfold zAh;unfold zC6 at ht;rw[ht]
   rw[← this];exact h2
  ·rw[ht] at h3;exact ble_true.1 h3
  ·unfold tAS at h1;rw[ht] at h1;simp at h1;exact h1.2
def zwk{n:Nat}(hn:n<=1000000){h:AH}:zAG E 129 (some (iI (n:Int))) (some (iI (n:Int))) h=one (.slice (some ⟨h.qa,0,none⟩) n n,h.new (.row (List.replicate n (.slice none 0 0)) 132 0 false)):=
 zGz (by obtain⟨i,a⟩:=zSr zC3 zn9 (by kernel_rfl);exact⟨i,zpV,a⟩) rfl hn
def mk47{n:Nat}(hn:n<=1000000){h:AH}:zAG E 47 (some (iI (n:Int))) (some (iI (n:Int))) h=one (.slice (some ⟨h.qa,0,none⟩) n n,h.new (.row (List.replicate n (iI 0)) 3 0 false)):=
 zGz (by obtain⟨i,a⟩:=zSr zAE z_3 (by kernel_rfl);exact⟨i,znQ,a⟩) rfl hn
def zsM{a:Option Addr}{n c:Nat}:zAT E 131 (some [(0,.slice a n c)])=some (.agg #[.slice a n c]):=by kernel_rfl
def zxR{a:Option Addr}{h:AH}:zg E 126 1 (some [(0,.pointer a)]) h=one (.slice (some ⟨h.qa,0,none⟩) 1 1,h.new (rO [.pointer a] 128)):=by kernel_rfl
abbrev Gr:=Nat×Nat×List Value×List za
def inG(x:Gr)(c:Nat):Prop:=c=x.1\/c=x.2.1\/∃(i:Nat) (y:Value),x.2.2.1[i]?=some y/\zY y c
def zWr(L:GL):Prop:=∀(j:Nat) (g:Int) (l:List GT),L.labs[j]?=some (g,l)->g≠-1
def GrOf(L:GL)(x:Gr):Prop:=((x.2.2.1.length:Nat):Int)=L.n/\∀(i:Nat) (S:za),x.2.2.2[i]?=some S->zxV x.2.2.1.length (zWr L) S/\S.length<=100000
abbrev ptr(b:Nat):Value:=.pointer (some ⟨b,0,none⟩)
structure Outs(loc:Nat)(h:AH)(out:Value)(gs:List Gr):Prop where
 sl:(out=.slice none 0 0/\gs=[])\/∃ bo,out=.slice (some ⟨bo,0,none⟩) gs.length (UNK+1)/\h.get bo=some (.row (gs.map λ x=>ptr x.1) 128 1 false)/\bo<h.qa/\loc<=bo
 gg:∀ x∈gs,GG loc h x.1 x.2.1 x.2.2.1 x.2.2.2
 sep:∀ x∈gs,∀ c,inG x c->¬ zY out c
def Outs.fx{P:Nat->Prop}{loc:Nat}{h h':AH}{out:Value}{gs:List Gr}(O:Outs loc h out gs)(f:Fx P h h')(h1:∀ c,zY out c->¬ P c)(h2:∀ x∈gs,∀ c,inG x c->¬ P c):Outs loc h' out gs:=by
 refine⟨?_,λ x hx=>(O.gg x hx).fx f (h2 x hx _ (.inl rfl)) (h2 x hx _ (.inr (.inl rfl))) (λ i c b hc hb=>h2 x hx b (.inr (.inr ⟨i,c,hc,hb⟩))),O.sep⟩;rcases O.sl with e|⟨bo,e1,e2,e3,e4⟩
 ·exact .inl e
 ·exact .inr ⟨bo,e1,(f.get bo e3 (h1 bo ⟨_,_,e1⟩)).trans e2,xAC e3 f.qa,e4⟩
def Outs.lt{loc:Nat}{h:AH}{out:Value}{gs:List Gr}(O:Outs loc h out gs){c:Nat}(hc:zY out c\/∃ x∈gs,inG x c):c<h.qa/\loc<=c:=by
 rcases hc with ⟨n,cap,hc⟩|⟨x,hx,hc⟩
 ·rcases O.sl with ⟨e,_⟩|⟨bo,e1,e2,e3,e4⟩
  ·rw[e] at hc;cases hc
  ·rw[e1] at hc;simp only[xBu,xAN,xCo] at hc;rw[← hc.1.1];exact⟨e3,e4⟩
 ·have G:=O.gg x hx;rcases hc with rfl|rfl|⟨i,y,hy,hb⟩
  ·exact⟨G.ltg,G.locg⟩
  ·exact⟨G.lts,G.locs⟩
  ·have hi:i<x.2.2.2.length:=by rw[← G.len];exact (xAc.1 hy).1
   exact⟨(G.cell i y _ hy (xAA hi)).lt hb,(G.blk i y c hy hb).2.2⟩
def zhk{loc:Nat}{h:AH}(aa:h.ok)(hloc:loc<=h.qa){out:Value}{gs:List Gr}(O:Outs loc h out gs)(hn:gs.length<=1000)(x:Gr)(hx:GG loc h x.1 x.2.1 x.2.2.1 x.2.2.2)(fp:∀ c,inG x c->¬ zY out c) :
  ∃ out' h3,zy E .append [126,126] (some [out,.slice (some ⟨h.qa,0,none⟩) 1 1]) (h.new (rO [ptr x.1] 128))=one (out',h3)/\Outs loc h3 out' (gs++[x])/\Fx (λ c=>zY out c) h h3/\(∀ c,zY out' c->h.qa<=c):=by
 have aw:=zD h (rO [ptr x.1] 128);have hlx:∀ c,inG x c->c<h.qa:=by
  intro c hc;rcases hc with rfl|rfl|⟨i,y,hy,hb⟩
  ·exact hx.ltg
  ·exact hx.lts
  ·have hi:i<x.2.2.2.length:=by rw[← hx.len];exact (xAc.1 hy).1
   exact (hx.cell i y _ hy (xAA hi)).lt hb
 have bi:∀(n cap c:Nat),zY (.slice (some ⟨h.qa+1,0,none⟩) n cap) c->c=h.qa+1:=by
  rintro n cap c ⟨m,cap',e⟩;simp only[xBu,xAN,xCo] at e;exact e.1.1.symm
 have fin:∀ {h3:AH} {cap:Nat},cap=UNK+1->h3.qa=h.qa+2->Fx (λ c=>zY out c) h h3->h3.get (h.qa+1)=some (.row ((gs++[x]).map λ x=>ptr x.1) 128 1 false)->Outs loc h3 (.slice (some ⟨h.qa+1,0,none⟩) (gs.length+1) cap) (gs++[x]):=by
  rintro h3 cap rfl e1 f e2;refine⟨.inr ⟨h.qa+1,by simp,e2,by omega,by omega⟩,?_,?_⟩
  ·intro y hy;rcases xCU.1 hy with hy|hy
   ·exact (O.gg y hy).fx f (O.sep y hy _ (.inl rfl)) (O.sep y hy _ (.inr (.inl rfl))) (λ i c b hc hb=>O.sep y hy b (.inr (.inr ⟨i,c,hc,hb⟩)))
   ·simp only[xAE] at hy;subst hy;exact hx.fx f (fp _ (.inl rfl)) (fp _ (.inr (.inl rfl))) (λ i c b hc hb=>fp b (.inr (.inr ⟨i,c,hc,hb⟩)))
  ·intro y hy c hc hb;have eI:=bi _ _ c hb;rcases xCU.1 hy with hy|hy
   ·have:=(O.lt (.inr ⟨y,hy,hc⟩)).1;omega
   ·simp only[xAE] at hy;subst hy;have:=hlx c hc;omega
 rcases O.sl with ⟨rfl,rfl⟩|⟨bo,rfl,e2,e3,e4⟩
 ·refine⟨_,_,append_nil znT aw rfl,fin rfl rfl (((Fx.refl aa).new _).new _) ?_,((Fx.refl aa).new _).new _,λ c hc=>by rw[bi _ _ c hc];omega⟩;exact zD (h.new _) _
 ·have hb:(h.new (rO [ptr x.1] 128)).get bo=some (.row (gs.map λ x=>ptr x.1) 128 1 false):=by rw[zG (by omega)];exact e2
  have f1:Fx (λ c=>zY (.slice (some ⟨bo,0,none⟩) gs.length (UNK+1)) c) h (h.new (rO [ptr x.1] 128)):=(Fx.refl aa).new _;have f2:=(f1.upd (b:=bo) (.inl ⟨_,_,rfl⟩) none).new (.row ((gs.map λ x=>ptr x.1)++[ptr x.1]) 128 1 false);refine⟨_,_,zB8 znT (by omega) hb (by simp) (by omega) aw rfl rfl,fin rfl rfl f2 ?_,f2,λ c hc=>by rw[bi _ _ c hc];omega⟩;rw[xCX];exact zD ((h.new _).upd bo none) _
def zAO(nums:List Int)(L:GL):List za:=zDN nums (List.replicate L.n.toNat []) L.eds
def zET:List CL->List GL->List (List za)
 | _,[]=>[]
 | cs,L::Ls=>zAO (zB6 cs L.labs).1 L::zET (zB6 cs L.labs).2 Ls
def zpA{k:AH}{v0:Value}{els:List (List Value)}{Ls:List GL}(a:Args k v0 els Ls){bn:Nat}(i9:k.qa<=bn){K:KF}{ad:Option Addr}{cp:Nat}(ie:v0=.slice ad els.length cp){G:List (List za)}
  (hK:∀ kk out gs,Own k kk->Outs k.qa kk out gs->gs.length=els.length->(∀(i:Nat) (x:Gr) (L:GL),gs[i]?=some x->Ls[i]?=some L->GrOf L x)->gs.map (λ x=>x.2.2.2)=G->K .ret [out] kk) :
  ∀(m i:Nat),i+m=els.length->∀ kk v n out gs,Own k kk->NM k kk bn v n->(∀ c,zY v c->k.qa<=c)->n.length<=4000*els.length+4000*i->gs.map (λ x=>x.2.2.2)++zET n (Ls.drop i)=G->Outs k.qa kk out gs->gs.length=i->
   (∀(i:Nat) (x:Gr) (L:GL),gs[i]?=some x->Ls[i]?=some L->GrOf L x)->(∀ c,(zY out c\/∃ x∈gs,inG x c)->c≠bn/\¬ zY v c)->
   zt3 true K (ptr bn) out v0 (iI (els.length:Int)) (iI (i:Int)) kk:=by
 have hfew:=a.few;intro m
 induction m with
 | zero=>
  intro i hi kk v n out gs ho hm hb hn hGG hO dE eS fp;refine zNi ?_;simp only[zP,zA,zAV];refine⟨λ h=>by omega,λ _=>zY4 ?_⟩;exact hK kk out gs ho hO (by omega) eS (by rw[xAs (by have:=a.len;omega)] at hGG;simpa[zET] using hGG)
 | succ m ih=>
  intro i hi kk v n out gs ho hm hb hn hGG hO dE eS fp;have ai:i<els.length:=by omega
  refine zNi ?_;simp only[zP,zA,zAV];refine⟨λ _=>zZH ?_,λ h=>by omega⟩;obtain⟨L,b,o,c,vs,ty,es,ro,vl,ve,elsL,q0,q1,q2,q3,q4,q5,q6,q7,q8,q9,q10,q11⟩:=a.at ai;have gb:kk.get b=some (.row vs ty es ro):=(ho.ext.get b q3).trans q2;rw[ie] at q1;simp only[xBu] at q1;obtain⟨q11',_,_⟩:=q1;subst q11';obtain⟨s1,s2,s3,s4⟩:=zf q11;obtain⟨N,hN⟩:=xAp (show 0<=L.n by omega);obtain⟨al,cl,aP⟩:=q8.slice;rw[RLab.length q9] at aP;obtain⟨ae,ce,bJ⟩:=q10.slice;rw[xCY] at bJ;have bz:=zqV (k:=kk) (e:=[iI L.n,vl,ve]) (by simp[zl];exact⟨q6,q7⟩) rfl;simp only[ie,zhw ai,zA,zN zBT gb q4,q5,zvI,zU,zF,zK,bz];refine zZG ?_;have dr:=ho.ext.qa;have f1:Fx NoB kk ((kk.new (rO [iI 0,.slice none 0 0,.slice none 0 0] 25)).upd kk.qa (some (rO [iI L.n,vl,ve] 25))):=((Fx.refl ho.ext.ok).new _).upd (.inr (xAF _)) _;have t1:((kk.new (rO [iI 0,.slice none 0 0,.slice none 0 0] 25)).upd kk.qa (some (rO [iI L.n,vl,ve] 25))).get kk.qa=some (rO [iI L.n,vl,ve] 25):=zH _ _ _;have n1:((kk.new (rO [iI 0,.slice none 0 0,.slice none 0 0] 25)).upd kk.qa (some (rO [iI L.n,vl,ve] 25))).qa=kk.qa+1:=rfl;generalize ((kk.new (rO [iI 0,.slice none 0 0,.slice none 0 0] 25)).upd kk.qa (some (rO [iI L.n,vl,ve] 25)))=k1 at f1 t1 n1;have l0:=zB (P:=E) zAE (o:=0) t1;simp only[lnth] at l0;rw[hN] at l0;simp only[zAP,xCu,l0,zA,zwk (show N<=1000000 by omega),zF,zsM,zU,zK];refine zZF ?_;have f2:Fx NoB kk ((k1.new (.row (List.replicate N (.slice none 0 0)) 132 0 false)).new (rO [.slice (some ⟨k1.qa,0,none⟩) N N] 131)):=(f1.new _).new _;have t2:((k1.new (.row (List.replicate N (.slice none 0 0)) 132 0 false)).new (rO [.slice (some ⟨k1.qa,0,none⟩) N N] 131)).get kk.qa=some (rO [iI L.n,vl,ve] 25):=by
   rw[zG (by simp;omega),zG (by omega)];exact t1
  have ts2:((k1.new (.row (List.replicate N (.slice none 0 0)) 132 0 false)).new (rO [.slice (some ⟨k1.qa,0,none⟩) N N] 131)).get k1.qa=some (.row (List.replicate N (.slice none 0 0)) 132 0 false):=by
   rw[zG (by simp)];exact zD _ _
  have tg2:((k1.new (.row (List.replicate N (.slice none 0 0)) 132 0 false)).new (rO [.slice (some ⟨k1.qa,0,none⟩) N N] 131)).get (k1.qa+1)=some (rO [.slice (some ⟨k1.qa,0,none⟩) N N] 131):=zD (k1.new _) _;have n2:((k1.new (.row (List.replicate N (.slice none 0 0)) 132 0 false)).new (rO [.slice (some ⟨k1.qa,0,none⟩) N N] 131)).qa=k1.qa+2:=rfl;simp only[AH.next_new];generalize ((k1.new (.row (List.replicate N (.slice none 0 0)) 132 0 false)).new (rO [.slice (some ⟨k1.qa,0,none⟩) N N] 131))=k2 at f2 t2 ts2 tg2 n2;have l1:=zB (P:=E) zF4 (o:=1) t2;simp only[lnth] at l1;rw[aP] at l1;simp only[zA0,xAK,l1,zA,zTE,mk47 (show L.labs.length<=1000000 by omega),zF];refine zZE ?_;have f3:Fx NoB kk (k2.new (.row (List.replicate L.labs.length (iI 0)) 3 0 false)):=f2.new _;have t3:(k2.new (.row (List.replicate L.labs.length (iI 0)) 3 0 false)).get kk.qa=_:=(zG (by omega)).trans t2;have ts3:(k2.new (.row (List.replicate L.labs.length (iI 0)) 3 0 false)).get k1.qa=_:=(zG (by omega)).trans ts2;have tg3:(k2.new (.row (List.replicate L.labs.length (iI 0)) 3 0 false)).get (k1.qa+1)=_:=(zG (by omega)).trans tg2;have tm3:(k2.new (.row (List.replicate L.labs.length (iI 0)) 3 0 false)).get k2.qa=some (.row (ints (List.replicate L.labs.length 0)) 3 0 false):=by
   rw[zD];simp[ints]
  have n3:(k2.new (.row (List.replicate L.labs.length (iI 0)) 3 0 false)).qa=k2.qa+1:=rfl;generalize (k2.new (.row (List.replicate L.labs.length (iI 0)) 3 0 false))=k3 at f3 t3 ts3 tg3 tm3 n3;have l3:=zB (P:=E) zF4 (o:=1) t3;simp only[lnth] at l3;rw[aP] at l3;simp only[zA0,xAK,l3,zA,zTD];have o3:=f3.own ho (λ _ h=>h.elim);have jv:=hm.fx f3 (λ h=>h) (λ _ _ h=>h);have hbnlt:=hm.lt;have ic:∀ c,zY v c->c<kk.qa:=λ c hc=>zL3 hm hc;have key:=zpC (k:=k) i9 (K:=K) (vl:=vl) aP q8 q9 s3 (v8:=out) (v10:=ptr kk.qa) (v11:=ptr (k1.qa+1)) (v34:=.slice (some ⟨b,o,none⟩) els.length cp) (v35:=iI (els.length:Int)) (v36:=iI (i:Int))
   (bm:=k2.qa) (base:=n.length) (by omega) (by omega) (k0:=k3) (w0:=v) (by omega) (N1:=(zB6 n L.labs).1) (cs1:=(zB6 n L.labs).2) ?_ L.labs.length 0 (by omega) k3 v n (List.replicate L.labs.length 0) o3 jv hb (by omega) rfl (by simp) (Fx.refl o3.ext.ok) (λ c hc=>.inl hc) (by omega) (λ h=>by have:=ic _ h;omega) (by omega) tm3 (by simp) (λ i h=>by omega)
  ·rw[aP] at key;simpa using key
  ·intro kk4 v4 n4 nums o4 hm4 hb4 hn4 hcs4 hnums4 f4 hbl4 hne4 hnb4 hrow4 hlen4 hok4;refine zZA ?_;have gi:∀ c,k3.qa<=kk.qa+10->c<k3.qa->kk.qa<=c->c≠k2.qa->¬ ((c=bn\/zY v c)\/c=k2.qa):=by
    intro c _ h1 h2 h3;rintro ((h|h)|h)
    ·omega
    ·have:=ic c h;omega
    ·exact h3 h
   have t4:=(f4.get kk.qa (by omega) (gi _ (by omega) (by omega) (by omega) (by omega))).trans t3;have ts4:=(f4.get k1.qa (by omega) (gi _ (by omega) (by omega) (by omega) (by omega))).trans ts3;have tg4:=(f4.get (k1.qa+1) (by omega) (gi _ (by omega) (by omega) (by omega) (by omega))).trans tg3;have l4:=zB (P:=E) zEF (o:=2) t4;simp only[lnth] at l4;rw[bJ] at l4;simp only[zA7,xAK,l4,zA,zTC];have hkk4:=f4.qa;have hG4:GG k.qa kk4 (k1.qa+1) k1.qa (List.replicate N (.slice none 0 0)) (List.replicate N []):=by
    refine⟨?_,ts4,by simp,by omega,by omega,by omega,by omega,by omega,?_,?_,?_⟩
    ·rw[xBC];exact tg4
    ·intro i c S hc hS;have:=xAq (a:=Value.slice none 0 0) (n:=N) (i:=i);rw[hc] at this;have h2:=xAq (a:=([]:za)) (n:=N) (i:=i);rw[hS] at h2;split at this
     ·rename_i hi;rw[xDO hi] at h2;cases this;cases h2;exact .inl ⟨rfl,rfl⟩
     ·cases this
    ·intro i c b hc hb;obtain⟨n,cap,rfl⟩:=hb;have:=xAq (a:=Value.slice none 0 0) (n:=N) (i:=i);rw[hc] at this;split at this <;> cases this
    ·intro i j c d b hc hd hb;obtain⟨n,cap,rfl⟩:=hb;have:=xAq (a:=Value.slice none 0 0) (n:=N) (i:=i);rw[hc] at this;split at this <;> cases this
   have eY:∀(i:Nat) (x:Value) (c:Nat),(List.replicate N (Value.slice none 0 0))[i]?=some x->¬ zY x c:=by
    rintro i x c hx ⟨n,cap,rfl⟩;have:=xAq (a:=Value.slice none 0 0) (n:=N) (i:=i);rw[hx] at this;split at this <;> cases this
   have key3:=zpB (k:=k) (K:=K) (L:=L) bJ q10 q11 hN (v3:=ptr bn) (v8:=out) (v34:=.slice (some ⟨b,o,none⟩) els.length cp) (v35:=iI (els.length:Int)) (v36:=iI (i:Int)) (bm:=k2.qa) (bg:=k1.qa+1) (bs:=k1.qa) hlen4 hok4
    (k0:=kk4) (cells0:=List.replicate N (.slice none 0 0)) (SS1:=zAO nums L) (vis:=zWr L) (λ h=>h) ?_ L.eds.length 0 (by omega) kk4 (List.replicate N (.slice none 0 0)) (List.replicate N []) o4 hG4 (by simp) (λ i S hS=>by
     have h2:=xAq (a:=([]:za)) (n:=N) (i:=i);rw[hS] at h2;split at h2
     ·cases h2;exact⟨(λ x hx=>by cases hx),by simp⟩
     ·cases h2) (by unfold zAO;rw[hN];rfl) (Fx.refl o4.ext.ok) (λ i x c hx hc=>absurd hc (eY i x c hx)) hrow4 (by omega) (by omega) (λ i x hx=>eY i x _ hx) (by omega)
   ·rw[bJ] at key3;simpa using key3
   ·intro kk5 cells SS o5 hG5 hNc af hSS5 f5 hcb5;refine zY6 ?_;have f5':Fx (λ c=>c=k1.qa) kk4 kk5:=f5.mono (λ c hc=>hc.elim (λ h=>.inl h) λ ⟨i,x,hx,hb⟩=>absurd hb (eY i x c hx));have hold:∀ c,(zY out c\/∃ x∈gs,inG x c)->c<kk.qa/\c≠bn/\¬ zY v c:=λ c hc=>⟨(hO.lt hc).1,fp c hc⟩;have hO3:=hO.fx f3 (λ _ _ h=>h) (λ _ _ _ _ h=>h);have hO4:=hO3.fx f4 (λ c hc h=>by
     have:=hold c (.inl hc);rcases h with (h|h)|h
     ·exact this.2.1 h
     ·exact this.2.2 h
     ·omega) (λ x hx c hc h=>by
     have:=hold c (.inr ⟨x,hx,hc⟩);rcases h with (h|h)|h
     ·exact this.2.1 h
     ·exact this.2.2 h
     ·omega)
    have hO5:=hO4.fx f5' (λ c hc h=>by have:=hold c (.inl hc);omega) (λ x hx c hc h=>by have:=hold c (.inr ⟨x,hx,hc⟩);omega);have iR:∀ c,inG (k1.qa+1,k1.qa,cells,SS) c->(c=k1.qa+1\/c=k1.qa\/kk4.qa<=c):=by
     intro c hc;rcases hc with h|h|⟨i',y,hy,hb⟩
     ·exact .inl h
     ·exact .inr (.inl h)
     ·exact .inr (.inr ((hcb5 i' y c hy hb).elim (λ ⟨i2,x2,h1,h2⟩=>absurd h2 (eY i2 x2 c h1)) λ h=>h))
    have hm5:NM k kk5 bn v4 n4:=hm4.fx f5' (λ h=>by omega) (λ c hc h=>by
     rcases hbl4 c hc with h'|h'
     ·have:=ic c h';omega
     ·omega)
    obtain⟨out',h3,r1,r2,r3,r4⟩:=zhk o5.ext.ok (by have:=o5.ext.qa;exact this) hO5 (by omega) (k1.qa+1,k1.qa,cells,SS) hG5 (λ c hc h=>by
     have:=hold c (.inl h);rcases iR c hc with h'|h'|h' <;> omega)
    simp only[zA,zxR,zF,r1];refine zY5 ?_;simp only[zk _ (zCS ai (by omega)),zA];have iK:∀ c,zY out c->c≠bn/\¬ zY v4 c:=λ c hc=>by
     have:=hold c (.inl hc);refine⟨this.2.1,λ h=>?_⟩;rcases hbl4 c h with h'|h'
     ·exact this.2.2 h'
     ·omega
    have hm6:NM k h3 bn v4 n4:=hm5.fx r3 (λ h=>(iK bn h).1 rfl) (λ c hc h=>(iK c h).2 hc);have:=ih (i+1) (by omega) h3 v4 n4 out' (gs++[(k1.qa+1,k1.qa,cells,SS)]) (r3.own o5 (λ c hc=>(hO.lt (.inl hc)).2)) hm6 hb4 (by omega) (by rw[zEu q0] at hGG;simp only[zET] at hGG;rw[xCX,xBs,hcs4,← hGG,hSS5,hnums4];rfl) r2 (by simp[dE]) (λ j x L' hx hL'=>by
     rcases xCq j gs.length with hj|hj
     ·rw[xAb hj] at hx;exact eS j x L' hx hL'
     ·rw[xAX hj] at hx;have hj0:j=gs.length:=by
       have:=(xAc.1 hx).1;simp at this;omega
      subst hj0;simp only[Nat.sub_self,xAl,xAN] at hx;subst hx;rw[dE,q0] at hL';cases hL';exact⟨by simp only;rw[hNc,hN],λ i S hS=>by simp only;rw[hNc];exact af i S hS⟩) (λ c hc=>by
     rcases hc with hc|⟨x,hx,hc⟩
     ·have h1:=r4 c hc;have h2:=hm5.lt;refine⟨by omega,λ h=>by have:=zL3 hm5 h;omega⟩
     ·rcases xCU.1 hx with hx|hx
      ·have:=hold c (.inr ⟨x,hx,hc⟩);refine⟨this.2.1,λ h=>?_⟩;rcases hbl4 c h with h'|h'
       ·exact this.2.2 h'
       ·omega
      ·simp only[xAE] at hx;subst hx;have am:=iR c hc;refine⟨by rcases am with h'|h'|h' <;> omega,λ h=>?_⟩;have h4:=zL3 hm4 h;rcases hbl4 c h with h5|h5
       ·have:=ic c h5;rcases am with h'|h'|h' <;> omega
       ·rcases am with h'|h'|h' <;> omega)
    rw[ie] at this;simpa using this
def GG.same{loc bg bs:Nat}{h:AH}{cells:List Value}{SS:List za}(G:GG loc h bg bs cells SS)(w:Nat):GG loc ⟨h.t,h.qa,w⟩ bg bs cells SS:=
 ⟨G.g,G.s,G.len,G.ne,G.ltg,G.lts,G.locg,G.locs,λ i c S hc hS=>G.cell i c S hc hS,G.blk,G.dis⟩
def zGP(Ls:List GL):List (List za):=zET (zId Ls []) Ls
def znZ{k:AH}{v0:Value}{els:List (List Value)}{Ls:List GL}(aa:k.ok)(aj:els.length≠0)(a:Args k v0 els Ls) :
  Ev true ((zc E).call 90 [v0] k) λ x=>∃ gs,Outs k.qa x.2 x.1 gs/\gs.length=els.length/\(∀(i:Nat) (y:Gr) (L:GL),gs[i]?=some y->Ls[i]?=some L->GrOf L y)/\gs.map (λ x=>x.2.2.2)=zGP Ls/\Fx NoB k x.2:=by
 obtain⟨ad,cp,hv⟩:=a.arr.slice;refine zlr (Rp:=λ x k'=>∃ gs,Outs k.qa k' x gs/\gs.length=els.length/\(∀(i:Nat) (y:Gr) (L:GL),gs[i]?=some y->Ls[i]?=some L->GrOf L y)/\gs.map (λ x=>x.2.2.2)=zGP Ls/\Fx NoB k k') (zjF ?_);refine zjE ?_;simp only[zv2,zU,zF,zK];refine zjD ?_;have o1:=(Own.qb k).new (rO [.slice none 0 0] 197);have t1:=zD k.qb (rO [.slice none 0 0] 197);have n1:(k.qb.new (rO [.slice none 0 0] 197)).qa=k.qa+1:=rfl;simp only[zR] at t1 ⊢;generalize k.qb.new (rO [.slice none 0 0] 197)=k1 at o1 t1 n1;have hm:NM k k1 k.qa (.slice none 0 0) []:=⟨t1,by omega,.inl ⟨rfl,rfl⟩⟩;have bZ:∀ c,¬ zY (.slice none 0 0) c:=by rintro c ⟨n,cap,h⟩;cases h
 rw[hv];simp only[zA,zW5];rw[← hv];have a':Args k v0 els Ls:=a;refine zpD a' (bn:=k.qa) (xAF _) hv (fin:=zId Ls []) (λ kk v n ho hm hb hn cZ=>zZJ ?_) els.length 0 (by omega) k1 (.slice none 0 0) [] o1 hm (λ c h=>absurd h (bZ c)) (by simp) (by simp);refine zZI ?_;rw[hv];simp only[zA,zTF];rw[← hv];refine zpA a' (bn:=k.qa) (xAF _) hv (G:=zGP Ls) (λ kk out gs ho hO hl hg hGe=>?_) els.length 0 (by omega) kk v n (.slice none 0 0) [] ho hm hb (by omega) (by rw[cZ];rfl) ⟨.inl ⟨rfl,rfl⟩,by simp,by simp⟩ rfl (by simp) (λ c h=>by
  rcases h with h|⟨x,hx,_⟩
  ·exact absurd h (bZ c)
  ·cases hx)
 simp only[zAC,zO,xDJ];have cM:zm out=false:=by
  rcases hO.sl with ⟨_,h⟩|⟨bo,h,_⟩
  ·rw[h] at hl;simp at hl;omega
  ·rw[h];rfl
 refine⟨.inl cM,gs,?_,hl,hg,hGe,?_⟩
 ·exact⟨hO.sl,λ x hx=>(hO.gg x hx).same _,hO.sep⟩
 ·refine⟨?_,ho.ext.qa,λ c hc _=>ho.ext.get c hc,λ m h1 _ h3=>?_⟩
  ·show cond (Nat.ble k.wm kk.wm) k.wm kk.wm<=kk.qa+UNK;have:=ho.ext.ok;unfold AH.ok at this;cases bv:Nat.ble k.wm kk.wm with
   | true=>rw[ble_true] at bv;simp only[xAG];omega
   | false=>exact this
  ·show m<=cond (Nat.ble k.wm kk.wm) k.wm kk.wm;have:=ho.wm;cases bv:Nat.ble k.wm kk.wm with
   | true=>exact h1
   | false=>simp only[xAH];omega
abbrev Rel:=List (Int×Int)
def ent(R:Rel):List (Value×Value):=R.map λ p=>(.agg ⟨zC p⟩,.bool true)
def u54:und E 54=some (.array 2 3):=zV0
def u3:und E 3=some (.int .i64):=by kernel_rfl
def zov:zMs E 174=some (54,4):=by kernel_rfl
def z4:zAh E 4=some (.bool false):=by kernel_rfl
def ziS(a b c d:Int):zBE [iI a,iI b] [iI c,iI d]=some (decide ((a,b)=(c,d))):=by
 have hb:zBE [iI b] [iI d]=some (decide (b=d)):=by
  simp only[zBE];have:keq .i64 .i64=true:=rfl;simp only[this,xDM,zEL];by_cases h:b=d
  ·simp[h]
  ·have:(b==d)=false:=by simpa using h
   simp[this,h]
 simp only[zBE] at hb ⊢;have hk:keq .i64 .i64=true:=rfl;simp only[hk,xDM,zEL] at hb ⊢;rw[hb];by_cases h:a=c
 ·simp[h]
 ·have:(a==c)=false:=by simpa using h
  simp[this,h]
def zXO(p q:Int×Int):zCJ E 54 (.agg ⟨zC p⟩) (.agg ⟨zC q⟩)=some (decide (p=q)):=by
 simp only[zCJ,u54,u3,zg8,zC,zBU];show cond (Nat.beq (0+1+1) 2) (zBE [iI p.1,iI p.2] [iI q.1,iI q.2]) none=_;rw[ziS];rfl
def zPi(p:Int×Int):zEn E 54 (.agg ⟨zC p⟩)=true:=by
 simp only[zEn,u54,u3,zg8,zC];rfl
def zRW:∀ {R:Rel},R.Nodup->∀ q:Int×Int,zAe E 54 (.agg ⟨zC q⟩) (ent R)=some (if q∈R then some (.bool true) else none)
 | [],_,q=>by simp[ent,zAe]
 | p::R,h,q=>by
  obtain⟨h1,h2⟩:=xCV.1 h;have ih:=zRW h2 q;simp only[ent,xCi,zAe] at ih ⊢;rw[zXO,ih];by_cases e:q=p
  ·subst e;simp[h1]
  ·simp[e]
def zoz{h:AH}{m ver:Nat}{R:Rel}(hm:h.get m=some (.map (ent R) ver))(hR:R.Nodup)(q:Int×Int) :
  zAy E 174 false (some (.map (some m))) (some (.agg ⟨zC q⟩)) h=some (.bool (decide (q∈R))):=by
 simp only[zAy,zFm,zov,zEA,hm,zPi,xAG,zRW hR];by_cases e:q∈R
 ·simp[e,zEt,okV]
 ·simp[e,zEt,z4,okV]
def zym{a b:Int}:zAT E 54 (some [(0,iI a),(1,iI b)])=some (.agg ⟨zC (a,b)⟩):=by kernel_rfl
abbrev zA5(x y:Value)(m:Nat):List Value:=[x,y,.map (some m)]
def zL0{k:AH}{x y:Value}{m ver:Nat}{R:Rel}(aa:k.ok)(hm:k.get m=some (.map (ent R) ver))(aW:m<k.qa)(hR:R.Nodup)(s t:Int) :
  (zc E).call 123 [.agg ⟨zA5 x y m⟩,iI s,iI t] k=some [(.bool (decide ((s,t)∈R)),k)]:=by
 refine zgh (s:=true) aa rfl (zeo ?_);simp only[zU,zF,zK,zA];refine zen ?_;have o1:=(Own.qb k).new (rO (zA5 x y m) 176);have t1:=zD k.qb (rO (zA5 x y m) 176);simp only[zR] at t1 ⊢;generalize k.qb.new (rO (zA5 x y m) 176)=k1 at o1 t1;have l2:=zB (P:=E) zMS (o:=2) t1;simp only[lnth,zA5] at l2;have ip:=(o1.ext.get m aW).trans hm;simp only[zGW,xAK,l2,zA,zym,zoz ip hR,zAC,zO,xDJ];exact o1.wm
def zF6(R:Rel)(x y:Int×Int):Bool:=decide (y.1=x.1)&&decide ((x.2,y.2)∈R)
def zp7{k:AH}{gx gy:Value}{m ver:Nat}{R:Rel}{x y:Int×Int}{bx bf ty1 ty2:Nat}(aa:k.ok)(hm:k.get m=some (.map (ent R) ver))(aW:m<k.qa)(hR:R.Nodup)(hx:k.get bx=some (rO (zC x) ty1))(hxl:bx<k.qa)(hf:k.get bf=some (rO (zA5 gx gy m) ty2))(cM:bf<k.qa) :
  (zc E).call 174 [.agg ⟨zC y⟩,ptr bx,ptr bf] k=some [(.bool (zF6 R x y),k)]:=by
 refine zgH (s:=true) aa rfl (zcz ?_);simp only[zU,zF,zK,zA];refine zcy ?_;have o1:=(Own.qb k).new (rO (zC y) 134);have t1:=zD k.qb (rO (zC y) 134);simp only[zR] at t1 ⊢;generalize k.qb.new (rO (zC y) 134)=k1 at o1 t1;have hx1:=(o1.ext.get bx hxl).trans hx;have eT:=(o1.ext.get bf cM).trans hf;have ip:=(o1.ext.get m aW).trans hm;have y0:=zB (P:=E) zAE (o:=0) t1;have y1:=zB (P:=E) zAE (o:=1) t1;have x0:=zB (P:=E) zAE (o:=0) hx1;have x1:=zB (P:=E) zAE (o:=1) hx1;have lf:=zN (P:=E) zMR (o:=0) eT (by simp[zA5]);rw[xCe,xAD (by simp[zA5])] at lf;simp only[lnth,zC] at y0 y1 x0 x1;simp only[zDn,zBB,xCu,xAK,y0,x0,zA,zAD];by_cases e:y.1=x.1
 ·simp only[e,xDG,zI,zS,xAO,xAG,zEN,zBB,xCu,xAK,lf,x1,y1,zA,zM,zL0 o1.ext.ok ip (xAC aW o1.ext.qa) hR,zJ,zE,zAC,zO,xDJ,zF6,xCk];exact o1.wm
 ·simp only[e,xCz,zI,zS,zt,zv,show (false==true)=false from rfl,xAH,zA,zF,zE,zAC,zO,xDJ,zF6,xCf];exact o1.wm
def zCO{h:AH}{c:Value}{S:za}(k:CellOK h c S):Arr h 2 c (S.map zC):=by
 rcases k with ⟨rfl,rfl⟩|⟨b,rfl,hg,ab⟩
 ·exact .nil _ _
 ·have:=Arr.row (h:=h) (z:=2) (b:=b) (o:=0) (c:=UNK+2) (els:=S.map zC) hg ab (by simp[zIU]) (λ i e he=>by
   simp only[xBi] at he;cases hx:S[i]? with
   | none=>rw[hx] at he;cases he
   | some x=>
    rw[hx] at he;simp only[xCS,xAN] at he;subst he;refine⟨rfl,?_⟩;rw[xAK];have:∀(S:za) (i:Nat),S[i]?=some x->((stc S).drop (i*2)).take 2=zC x:=by
     intro S
     induction S with
     | nil=>intro i h;simp at h
     | cons y S ih=>
      intro i h;cases i with
      | zero=>simp at h;subst h;rfl
      | succ i=>
       rw[show (i+1)*2=i*2+2 by omega];have:=ih i (by simpa using h);rw[← this];rfl
    exact this S i hx)
  simpa using this
def zo6(p:Nat->Bool)(n:Nat):decide (0<=zj p n 0)=(List.range n).any p:=by
 have h:=zCb (p:=p) n 0;cases hb:(List.range n).any p with
 | true=>
  have:¬ zj p n 0<0:=by
   intro ec;have:=h.2 ec;obtain⟨j,hj,hp⟩:=xCK.1 hb;rw[this j (xDF _) (by have:=List.mem_range.1 hj;omega)] at hp;cases hp
  exact xAJ (by omega)
 | false=>
  have:zj p n 0<0:=h.1 λ j _ hj=>by
   have:=List.any_eq_false.1 hb j (List.mem_range.2 (by omega));simpa using this
  exact xAI (by omega)
structure GV(h:AH)(bg:Nat)(SS:List za):Prop where
 ex:∃ loc bs cells,GG loc h bg bs cells SS
def GV.ext{h k:AH}{bg:Nat}{SS:List za}(g:GV h bg SS)(e:Ext h k):GV k bg SS:=by
 obtain⟨loc,bs,cells,G⟩:=g.ex;refine⟨loc,bs,cells,(e.get bg G.ltg).trans G.g,(e.get bs G.lts).trans G.s,G.len,G.ne,xAC G.ltg e.qa,xAC G.lts e.qa,G.locg,G.locs,λ i c S hc hS=>?_,G.blk,G.dis⟩;rcases G.cell i c S hc hS with a|⟨b,a1,a2,a3⟩
 ·exact .inl a
 ·exact .inr ⟨b,a1,(e.get b a3).trans a2,xAC a3 e.qa⟩
def zEi(R:Rel)(S:za)(x:Int×Int):Bool:=S.any λ y=>zF6 R x y
def pAt(S:za)(f:Int×Int->Bool)(i:Nat):Bool:=match S[i]? with
 | some y=>f y
 | none=>false
def zqd(S:za)(f:Int×Int->Bool):(List.range S.length).any (pAt S f)=S.any f:=by
 rw[xCT];simp only[xCK,List.mem_range];constructor
 ·rintro⟨i,hi,h⟩;unfold pAt at h;rw[xAA hi] at h;exact⟨_,xCF hi,h⟩
 ·rintro⟨y,hy,h⟩;obtain⟨i,hi⟩:=xAy.1 hy;refine⟨i,(xAc.1 hi).1,?_⟩;unfold pAt;rw[hi];exact h
def zQK{k:AH}{gx:Value}{bg m ver t:Nat}{R:Rel}{SS:List za}{S:za}{x:Int×Int}{v1:Value}(aa:k.ok)(hm:k.get m=some (.map (ent R) ver))(aW:m<k.qa)(hR:R.Nodup)(hg:GV k bg SS)(hS:SS[t]?=some S)(gZ:S.length<=1000000) :
  (zc E).call 128 [.agg ⟨zA5 gx (ptr bg) m⟩,v1,iI (t:Int),.agg ⟨zC x⟩] k=some [(.bool (zEi R S x),k)]:=by
 refine zgd (s:=true) aa rfl (zeR ?_);simp only[zU,zF,zK,zA];refine zeQ ?_;have o1:=((Own.qb k).new (.row (zA5 gx (ptr bg) m) 178 0 false)).new (rO (zC x) 134);have tf:((k.qb.new (.row (zA5 gx (ptr bg) m) 178 0 false)).new (rO (zC x) 134)).get k.qa=some (.row (zA5 gx (ptr bg) m) 178 0 false):=by
  rw[zG (by simp)];exact zD k.qb _
 have tx:((k.qb.new (.row (zA5 gx (ptr bg) m) 178 0 false)).new (rO (zC x) 134)).get (k.qa+1)=some (rO (zC x) 134):=zD (k.qb.new _) _;have n1:((k.qb.new (.row (zA5 gx (ptr bg) m) 178 0 false)).new (rO (zC x) 134)).qa=k.qa+2:=rfl;simp only[zR,AH.next_new];generalize ((k.qb.new (.row (zA5 gx (ptr bg) m) 178 0 false)).new (rO (zC x) 134))=k1 at o1 tf tx n1;obtain⟨loc,bs,cells,G⟩:=(hg.ext o1.ext).ex;have ip:=(o1.ext.get m aW).trans hm;have lf:=zB (P:=E) zCU (o:=1) tf;have lg:=zB (P:=E) zEh (o:=0) G.g;simp only[lnth,zA5] at lf lg;have ht:t<cells.length:=by rw[G.len];exact (xAc.1 hS).1
 have hc:cells[t]?=some cells[t]:=xAA ht;have ls:=zB (P:=E) zC3 (o:=0+t*1) G.s;rw[zAI,show 0+t*1=t by omega,hc] at ls;have ia:=zI0 (b:=bs) (o:=0) (c:=cells.length) ht;rw[show 0+t*1=t by omega] at ia;have ac:=G.cell t _ _ hc hS;have i7:=zp8 (h0:=k1) (v:=cells[t]) (f:=.func (.func 174) #[] #[ptr (k.qa+1),ptr k.qa]) (p:=pAt S (zF6 R x)) (zCO ac) (by simp;omega) (λ k2 hk2 i e he=>by
  simp only[xBi] at he;cases hy:S[i]? with
  | none=>rw[hy] at he;cases he
  | some y=>
   rw[hy] at he;simp only[xCS,xAN] at he;subst he;have:=zp7 (k:=k2) (y:=y) (gx:=gx) (gy:=ptr bg) hk2.ok ((hk2.get m (xAC aW o1.ext.qa)).trans ip) (xAC (xAC aW o1.ext.qa) hk2.qa) hR ((hk2.get _ (by omega)).trans tx) (by have:=hk2.qa;omega) ((hk2.get _ (by omega)).trans tf) (by have:=hk2.qa;omega);simp only[zE7,xCa,xCL,pAt,hy];exact this) (Ext.refl o1.ext.ok)
 simp only[zEN,zLr,xCu,xAK,lf,zA,zx,zCj,lg,ia,ls,zAX,zM,i7,zJ,zAC,zO,xDJ];refine⟨?_,o1.wm⟩;rw[zo6,xCY,zqd];rfl
def zpK{α:Type}{l:List α}{Q:α->Prop}(h1:l≠[])(h2:∀ a∈l,Q a):Ev false (some l) Q:=⟨l,rfl,h1,(λ h=>by cases h),h2⟩
def zMN{α:Type}:∀(l pre:List α) (x:α×List α),x∈zLJ pre l->∃ l1 l2,l=l1++x.1::l2/\x.2=pre++l1++l2
 | [],_,x,h=>by cases h
 | a::l,pre,x,h=>by
  simp only[zLJ,xAQ] at h;rcases h with rfl|h
  ·exact⟨[],l,rfl,by simp⟩
  ·obtain⟨l1,l2,e1,e2⟩:=zMN l (pre++[a]) x h;exact⟨a::l1,l2,by rw[e1];rfl,by rw[e2];simp⟩
def zMh{h:AH}{m ver:Nat}{es:List (Value×Value)}(hm:h.get m=some (.map es ver)):zCk (some (.map (some m))) h=one (ptr h.qa,h.new (.iter (some m) ver es none)):=by
 simp only[zCk,hm]
def zQ4{h:AH}{b m ver:Nat}{es:List (Value×Value)}{cur:Option (Value×Value)}(hb:h.get b=some (.iter (some m) ver [] cur))(hm:h.get m=some (.map es ver)) :
  zDs false (some (ptr b)) h=one (.tuple #[.bool false],h):=by
 simp only[zDs,zWs,hb,hm,xCp,xAL,xBX,xDI]
def zMo{h:AH}{b m ver:Nat}{es left:List (Value×Value)}{cur:Option (Value×Value)}{Q:Value×AH->Prop}(hb:h.get b=some (.iter (some m) ver left cur))(hm:h.get m=some (.map es ver))(hl:left≠[])
  (hQ:∀ e l1 l2,left=l1++e::l2->Q (.tuple #[.bool true,e.1,e.2],h.upd b (some (.iter (some m) ver (l1++l2) (some e))))):Ev false (zDs false (some (ptr b)) h) Q:=by
 cases left with
 | nil=>exact absurd rfl hl
 | cons a l=>
  have:zDs false (some (ptr b)) h=some ((zLJ [] (a::l)).map λ x=>(.tuple #[.bool true,x.1.1,x.1.2],h.upd b (some (.iter (some m) ver x.2 (some x.1))))):=by
   simp only[zDs,zWs,hb,hm,xCp,xAL,xBX,xDI]
  rw[this];refine zpK (by simp[zLJ]) λ y hy=>?_;obtain⟨x,hx,rfl⟩:=xCv.1 hy;obtain⟨l1,l2,e1,e2⟩:=zMN _ _ _ hx;rw[e2];exact hQ x.1 l1 l2 e1
def zRc{h:AH}{b m ver:Nat}{es left:List (Value×Value)}{e:Value×Value}(hb:h.get b=some (.iter (some m) ver left (some e)))(hm:h.get m=some (.map es ver)):zC4 (some (ptr b)) h=some (.tuple #[e.1,e.2]):=by
 simp only[zC4,zRd,hb,hm,xCp,xDM]
def zNJ{R:Rel}{e:Value×Value}{l1 l2:List (Value×Value)}(h:ent R=l1++e::l2):∃ R1 p R2,R=R1++p::R2/\l1=ent R1/\e=(.agg ⟨zC p⟩,.bool true)/\l2=ent R2:=by
 unfold ent at h;obtain⟨R1,R3,e1,e2,e3⟩:=List.map_eq_append_iff.1 h;obtain⟨p,R2,e4,e5,e6⟩:=List.map_eq_cons_iff.1 e3;exact⟨R1,p,R2,by rw[e1,e4],e2.symm,e5.symm,e6.symm⟩
def zKl(R1 R2:Rel):ent R1++ent R2=ent (R1++R2):=by simp[ent]
def zqU{k:AH}{p:Int×Int} :
  zAM E 54 (k.new (rO [iI 0,iI 0] 54)) (some (ptr k.qa)) (some (.agg ⟨zC p⟩))=one (undef,(k.new (rO [iI 0,iI 0] 54)).upd k.qa (some (rO (zC p) 54))):=by
 rw[zi (P:=E) zV6 (x:=.agg ⟨zC p⟩) (cs:=zC p) (zD k _) rfl rfl (by simp) (by simp[zC,zl])];rfl
def zNX{k:AH}{p:Int×Int} :
  zAM E 134 (k.new (rO [iI 0,iI 0] 134)) (some (ptr k.qa)) (some (.agg ⟨zC p⟩))=one (undef,(k.new (rO [iI 0,iI 0] 134)).upd k.qa (some (rO (zC p) 134))):=by
 rw[zi (P:=E) zJu (x:=.agg ⟨zC p⟩) (cs:=zC p) (zD k _) rfl rfl (by simp) (by simp[zC,zl])];rfl
def zYn(R:Rel)(SS:List za)(fB:Int×Int->Int×Int->Bool):Bool:=R.all λ p=>match SS[p.1.toNat]? with
 | some S=>S.all (fB p)
 | none=>true
def zYK{h0 k:AH}{b1 b2 m ver:Nat}{R:Rel}{SS:List za}{fol can:FuncId}{nm:ByteArray}{fB:Int×Int->Int×Int->Bool}(hh:Ext h0 k)(hm:h0.get m=some (.map (ent R) ver))(aW:m<h0.qa)(hg:GV h0 b1 SS)
  (ai:∀ p∈R,0<=p.1/\p.1<SS.length) (hsz:∀(i:Nat) (S:za),SS[i]?=some S->S.length<=1000000)
  (hfol:∀ k',Ext h0 k'->∀ p∈R,∀ x S,SS[p.1.toNat]?=some S->x∈S->(zc E).call fol [.agg ⟨zA5 (ptr b1) (ptr b2) m⟩,iI p.1,iI p.2,.agg ⟨zC x⟩] k'=some [(.bool (fB p x),k')]) :
  (zc E).call 124 [.agg ⟨zA5 (ptr b1) (ptr b2) m⟩,.agg ⟨[.func (.func fol) #[] #[],.func (.func can) #[] #[],.string nm]⟩] k=some [(.bool (zYn R SS fB),k)]:=by
 refine zgg (s:=false) hh.ok rfl (zem ?_);simp only[zU,zF,zK,zA];refine zel ?_;have o1:=((Own.qb k).new (.row (zA5 (ptr b1) (ptr b2) m) 178 0 false)).new (.row [.func (.func fol) #[] #[],.func (.func can) #[] #[],.string nm] 112 0 false);have tf:((k.qb.new (.row (zA5 (ptr b1) (ptr b2) m) 178 0 false)).new (.row [.func (.func fol) #[] #[],.func (.func can) #[] #[],.string nm] 112 0 false)).get k.qa=some (.row (zA5 (ptr b1) (ptr b2) m) 178 0 false):=by
  rw[zG (by simp)];exact zD k.qb _
 have tm:((k.qb.new (.row (zA5 (ptr b1) (ptr b2) m) 178 0 false)).new (.row [.func (.func fol) #[] #[],.func (.func can) #[] #[],.string nm] 112 0 false)).get (k.qa+1)=some (.row [.func (.func fol) #[] #[],.func (.func can) #[] #[],.string nm] 112 0 false):=zD (k.qb.new _) _;have n1:((k.qb.new (.row (zA5 (ptr b1) (ptr b2) m) 178 0 false)).new (.row [.func (.func fol) #[] #[],.func (.func can) #[] #[],.string nm] 112 0 false)).qa=k.qa+2:=rfl;simp only[zR,AH.next_new];generalize ((k.qb.new (.row (zA5 (ptr b1) (ptr b2) m) 178 0 false)).new (.row [.func (.func fol) #[] #[],.func (.func can) #[] #[],.string nm] 112 0 false))=k1 at o1 tf tm n1;have e1:=hh.trans o1.ext;have l2:=zB (P:=E) zMS (o:=2) tf;simp only[lnth,zA5] at l2;have ip:=(e1.get m aW).trans hm;simp only[zEN,zGW,xCu,xAK,l2,zA,zMh ip,zF];have loop:∀(n:Nat) (Lf:Rel),Lf.length=n->(∀ p∈Lf,p∈R)->zYn R SS fB=zYn Lf SS fB->∀ l cur,Own k l->l.get k.qa=some (.row (zA5 (ptr b1) (ptr b2) m) 178 0 false)->l.get (k.qa+1)=some (.row [.func (.func fol) #[] #[],.func (.func can) #[] #[],.string nm] 112 0 false)->
   l.get k1.qa=some (.iter (some m) ver (ent Lf) cur)->k1.qa<l.qa->
   zux false (KR E [.tmp 4] (λ x l=>x=.bool (zYn R SS fB)/\k.qa<=l.wm)) (ptr k.qa) (ptr (k.qa+1)) (ptr k1.qa) l:=by
  intro n
  induction n with
  | zero=>
   intro Lf hLf aq dU l cur ho hf hmm hit ab;have:Lf=[]:=xAm.1 hLf;subst this;refine zOZ ?_;have dA:=((hh.trans ho.ext).get m aW).trans hm;simp only[zQ4 hit dA,zF,z6,lnth,zA,zZ];refine zUf ?_;simp only[zA,zAC,zO,xDJ];exact⟨by rw[dU];rfl,ho.wm⟩
  | succ n ih=>
   intro Lf hLf aq dU l cur ho hf hmm hit ab;refine zOZ ?_;have he:=hh.trans ho.ext;have dA:=(he.get m aW).trans hm;refine zMo hit dA (by cases Lf with|nil=>simp at hLf|cons a l=>simp[ent]) λ e l1 l2 eG=>?_;obtain⟨R1,p,R2,hR,dQ,hep,fh⟩:=zNJ eG;subst hep;rw[dQ,fh,zKl];simp only[z6,lnth,zA,ze];refine zek ?_;have gz:=ho.ext.qa;have o2:=ho.upd (b:=k1.qa) (by omega) (some (.iter (some m) ver (ent (R1++R2)) (some (.agg ⟨zC p⟩,.bool true))));have i2:(l.upd k1.qa (some (.iter (some m) ver (ent (R1++R2)) (some (.agg ⟨zC p⟩,.bool true))))).get k1.qa=_:=zH _ _ _;have f2:(l.upd k1.qa (some (.iter (some m) ver (ent (R1++R2)) (some (.agg ⟨zC p⟩,.bool true))))).get k.qa=_:=(zL (by omega)).trans hf;have m2:(l.upd k1.qa (some (.iter (some m) ver (ent (R1++R2)) (some (.agg ⟨zC p⟩,.bool true))))).get (k.qa+1)=_:=(zL (by omega)).trans hmm;have n2:(l.upd k1.qa (some (.iter (some m) ver (ent (R1++R2)) (some (.agg ⟨zC p⟩,.bool true))))).qa=l.qa:=rfl;generalize (l.upd k1.qa (some (.iter (some m) ver (ent (R1++R2)) (some (.agg ⟨zC p⟩,.bool true)))))=l2 at o2 i2 f2 m2 n2;have hml2:=((hh.trans o2.ext).get m aW).trans hm;simp only[zRc i2 hml2,zA,z6,lnth,zvH,zU,zF,zK,zqU];refine zej ?_;have o3:=(o2.new (rO [iI 0,iI 0] 54)).upd (b:=l2.qa) (by omega) (some (rO (zC p) 54));have p3:((l2.new (rO [iI 0,iI 0] 54)).upd l2.qa (some (rO (zC p) 54))).get l2.qa=some (rO (zC p) 54):=zH _ _ _;have i3:((l2.new (rO [iI 0,iI 0] 54)).upd l2.qa (some (rO (zC p) 54))).get k1.qa=_:=((zL (by omega)).trans (zG (by omega))).trans i2;have f3:((l2.new (rO [iI 0,iI 0] 54)).upd l2.qa (some (rO (zC p) 54))).get k.qa=_:=((zL (by omega)).trans (zG (by omega))).trans f2;have m3:((l2.new (rO [iI 0,iI 0] 54)).upd l2.qa (some (rO (zC p) 54))).get (k.qa+1)=_:=((zL (by omega)).trans (zG (by omega))).trans m2;have n3:((l2.new (rO [iI 0,iI 0] 54)).upd l2.qa (some (rO (zC p) 54))).qa=l2.qa+1:=rfl;generalize ((l2.new (rO [iI 0,iI 0] 54)).upd l2.qa (some (rO (zC p) 54)))=l3 at o3 p3 i3 f3 m3 n3;have hpR:p∈R:=aq p (by rw[hR];simp);obtain⟨hp1,hp2⟩:=ai p hpR;obtain⟨s,hs⟩:=xAp hp1;have hsS:s<SS.length:=by omega
   have gT:SS[s]?=some SS[s]:=xAA hsS;have hSp:SS[p.1.toNat]?=some SS[s]:=by rw[hs];exact gT
   obtain⟨loc,bs,cells,G⟩:=(hg.ext (hh.trans o3.ext)).ex;have d9:s<cells.length:=by rw[G.len];exact hsS
   have aT:cells[s]?=some cells[s]:=xAA d9;have q0:=zB (P:=E) zCU (o:=0) f3;have q1:=zB (P:=E) zEh (o:=0) G.g;have q2:=zB (P:=E) zAE (o:=0) p3;have q3:=zB (P:=E) zC3 (o:=0+s*1) G.s;simp only[lnth,zA5,zC] at q0 q1 q2;rw[zAI,show 0+s*1=s by omega,aT] at q3;rw[hs] at q2;have ia:=zI0 (b:=bs) (o:=0) (c:=cells.length) d9;rw[show 0+s*1=s by omega] at ia;have ac:=G.cell s _ _ aT gT;obtain⟨ca,cc,bv⟩:=(zCO ac).slice;rw[xCY] at bv;have ay:=zCO ac;rw[bv] at q3 ay;simp only[zEN,zRZ,xCu,q0,zA,zx,zCj,q1,zD9,q2,ia,q3,zPe];have iT:zYn Lf SS fB=((SS[s]).all (fB p)&&zYn (R1++R2) SS fB):=by
    rw[hR];simp only[zYn,List.all_append,xCj,hSp];cases (SS[s]).all (fB p) <;> simp
   have steps:∀(j i:Nat),i+j=(SS[s]).length->((SS[s]).drop i).all (fB p)=(SS[s]).all (fB p)->∀ l4,Ext l3 l4->k.qa<=l4.wm->
     zuw false (KR E [.tmp 4] (λ x l=>x=.bool (zYn R SS fB)/\k.qa<=l.wm)) (ptr k.qa) (ptr (k.qa+1)) (ptr l2.qa) (ptr k1.qa) (.slice ca (SS[s]).length cc) (iI ((SS[s]).length:Int)) (iI (i:Int)) l4:=by
    intro j
    induction j with
    | zero=>
     intro i hi aD l4 he4 hw4;have hx:=he4.qa;refine zOY ?_;simp only[zP,zA,zAV];refine⟨λ h=>by omega,λ _=>?_⟩;have ht:(SS[s]).all (fB p)=true:=by rw[← aD,xAs (by omega)];rfl
     exact ih (R1++R2) (by rw[hR] at hLf;simp at hLf ⊢;omega) (λ q hq=>aq q (by rw[hR];rcases xCU.1 hq with h|h <;> simp[h])) (by rw[dU,iT,ht];rfl) l4 _ ⟨o3.ext.trans he4,hw4⟩
      ((he4.get _ (by omega)).trans f3) ((he4.get _ (by omega)).trans m3) ((he4.get _ (by omega)).trans i3) (by omega)
    | succ j ihj=>
     intro i hi aD l4 he4 hw4;have hx:=he4.qa;have aZ:i<(SS[s]).length:=by omega
     refine zOY ?_;simp only[zP,zA,zAV];refine⟨λ _=>zei ?_,λ h=>by omega⟩;have aU:((SS[s]).map zC)[i]?=some (zC (SS[s])[i]):=by simp[aZ]
     obtain⟨b',o',c',vs',ty',es',ro',aH,ar,aI,cy,cK,cF⟩:=ay.load aU;simp only[xBu] at aH;obtain⟨bP,_,_⟩:=aH;subst bP;have gb':=(he4.get b' aI).trans ar;simp only[zD8 aZ,zA,zN zEg gb' cy,cK,zO6,zU,zF,zK,zNX];refine zeh ?_;have e5:=(he4.new (rO [iI 0,iI 0] 134)).upd (b:=l4.qa) hx (some (.row (zC (SS[s])[i]) 134 0 false));have x5:((l4.new (rO [iI 0,iI 0] 134)).upd l4.qa (some (.row (zC (SS[s])[i]) 134 0 false))).get l4.qa=some (.row (zC (SS[s])[i]) 134 0 false):=zH _ _ _;have w5:k.qa<=((l4.new (rO [iI 0,iI 0] 134)).upd l4.qa (some (.row (zC (SS[s])[i]) 134 0 false))).wm:=zp (by rw[zDK];exact hw4) (by omega);generalize ((l4.new (rO [iI 0,iI 0] 134)).upd l4.qa (some (.row (zC (SS[s])[i]) 134 0 false)))=l5 at e5 x5 w5;have f5:=(e5.get _ (by omega)).trans f3;have m5:=(e5.get _ (by omega)).trans m3;have p5:=(e5.get _ (by omega)).trans p3;have r0:=zB (P:=E) zrr (o:=0) m5;have r1:=zN (P:=E) zmr (o:=0) f5 (by simp[zA5]);have r2:=zB (P:=E) zAE (o:=0) p5;have r3:=zB (P:=E) zAE (o:=1) p5;have r4:=zN (P:=E) zEg (o:=0) x5 (by simp[zC]);rw[xCe,xAD (by simp[zA5])] at r1;rw[xCe,xAD (by simp[zC])] at r4;simp only[lnth,zC] at r0 r2 r3;have bT:=hfol l5 ((hh.trans o3.ext).trans e5) p hpR (SS[s])[i] _ hSp (xCF aZ);simp only[zh3,xCu,xAK,r0,r1,r2,r3,r4,zA,zD9,zEb,zM,bT,zJ,zq];have iX:((SS[s]).drop i).all (fB p)=(fB p (SS[s])[i]&&((SS[s]).drop (i+1)).all (fB p)):=by rw[xAZ aZ,xCj]
     cases hq:fB p (SS[s])[i] with
     | false=>
      simp only[xAM,ze];refine zeg ?_;simp only[zA,zAC,zO,xDJ];exact⟨by rw[dU,iT,← aD,iX,hq];rfl,w5⟩
     | true=>
      simp only[xAL,zZ];refine zef ?_;simp only[zk _ (zCS aZ (by have:=hsz s _ gT;omega)),zA];have:=ihj (i+1) (by omega) (by rw[← aD,iX,hq];rfl) l5 e5 w5;simpa using this
   exact steps (SS[s]).length 0 (by omega) rfl l3 (Ext.refl o3.ext.ok) o3.wm
 exact loop R.length R rfl (λ p h=>h) rfl _ none (o1.new _) ((zG (by omega)).trans tf) ((zG (by omega)).trans tm) (zD _ _) (by simp)
def zhB(q:Int×Int):Rel->Rel
 | []=>[q]
 | p::R=>if klt (.agg ⟨zC q⟩) (.agg ⟨zC p⟩) then q::p::R else p::zhB q R
def zRL(q:Int×Int):∀ R:Rel,zBC (.agg ⟨zC q⟩) (.bool true) (ent R)=ent (zhB q R)
 | []=>rfl
 | p::R=>by
  have:=zRL q R;simp only[ent,xCi,zBC,zhB] at this ⊢;split
  ·rfl
  ·rw[this];rfl
def zLg(q:Int×Int):∀(R:Rel) (x:Int×Int),x∈zhB q R ↔ x=q\/x∈R
 | [],x=>by simp[zhB]
 | p::R,x=>by
  simp only[zhB];split
  ·simp
  ·simp only[xAQ,zLg q R];constructor
   ·rintro (h|h|h) <;> simp[h]
   ·rintro (h|h|h) <;> simp[h]
def zKb{q:Int×Int}:∀ {R:Rel},R.Nodup->q ∉ R->(zhB q R).Nodup
 | [],_,_=>by simp[zhB]
 | p::R,h,hq=>by
  obtain⟨h1,h2⟩:=xCV.1 h;simp only[xAQ,not_or] at hq;simp only[zhB];split
  ·exact xCV.2 ⟨by simp[hq.1,hq.2],h⟩
  ·exact xCV.2 ⟨by rw[zLg];simp[h1];exact λ e=>hq.1 e.symm,zKb h2 hq.2⟩
def zrX(q:Int×Int):veq 3 (.agg ⟨zC q⟩) (.agg ⟨zC q⟩)=true:=by
 show zHl 2 [iI q.1,iI q.2] [iI q.1,iI q.2]=true;simp only[zHl,zBF,xCm]
def zyK(q:Int×Int):∀ {R:Rel},R.Nodup->zBx E 54 (.agg ⟨zC q⟩) (.bool true) (ent R)=some (ent R)
 | [],_=>rfl
 | p::R,h=>by
  obtain⟨h1,h2⟩:=xCV.1 h;have ih:=zyK q h2;simp only[ent,xCi,zBx] at ih ⊢;rw[zXO,ih];by_cases e:q=p
  ·subst e;simp[zrX]
  ·simp[e]
def zmm{h:AH}{m ver:Nat}{R:Rel}(hm:h.get m=some (.map (ent R) ver))(hR:R.Nodup)(q:Int×Int) :
  ∃ R',zu E 174 (some (.map (some m))) (some (.agg ⟨zC q⟩)) (some (.bool true)) h=one (undef,h.upd m (some (.map (ent R') (ver+1))))/\R'.Nodup/\∀ x,x∈R' ↔ x=q\/x∈R:=by
 have cM:zm (.agg ⟨zC q⟩)=true:=rfl;by_cases e:q∈R
 ·refine⟨R,?_,hR,λ x=>⟨.inr,λ h=>h.elim (λ h=>h ▸ e) id⟩⟩;simp only[zu,zA8,zov,hm,zPi,cM,xCm,xAG,zBe,zRW hR,e,xDM,zyK q hR,u1]
 ·refine⟨zhB q R,?_,zKb hR e,λ x=>zLg q R x⟩;simp only[zu,zA8,zov,hm,zPi,cM,xCm,xAG,zBe,zRW hR,e,xDI,zRL,u1]
def zsI{a b:Option Addr}{m:Nat}:zAT E 176 (some [(0,.pointer a),(1,.pointer b),(2,.map (some m))])=some (.agg ⟨zA5 (.pointer a) (.pointer b) m⟩):=by kernel_rfl
def zta{k:AH}{a b:Option Addr}{m:Nat} :
  zAM E 176 (k.new (rO [.pointer none,.pointer none,.map none] 176)) (some (ptr k.qa)) (some (.agg ⟨zA5 (.pointer a) (.pointer b) m⟩))=one (undef,(k.new (rO [.pointer none,.pointer none,.map none] 176)).upd k.qa (some (.row (zA5 (.pointer a) (.pointer b) m) 176 0 false))):=by
 rw[zi (P:=E) zQj (x:=.agg ⟨zA5 (.pointer a) (.pointer b) m⟩) (cs:=zA5 (.pointer a) (.pointer b) m) (zD k _) rfl rfl (by simp) (by simp[zA5,zl])];rfl
def zB9(p:Int×Int):Int×Int:=(p.2,p.1)
def zWZ{h:AH}{lo b1 b2 m ver:Nat}{es:List (Value×Value)}(cj:b1<lo)(aN:b2<lo)(hm:lo<=m)(hg:h.get m=some (.map es ver))(cz:es.flatMap (λ e=>zBR 4 e.2)=[]) :
  zBm h lo 1000 (zBR 4 (.agg ⟨zA5 (ptr b1) (ptr b2) m⟩)) []=[m]:=by
 have e0:zBR 4 (.agg ⟨zA5 (ptr b1) (ptr b2) m⟩)=[b1,b2,m]:=rfl;rw[e0];have s1:zBm h lo 1000 [b1,b2,m] []=zBm h lo 999 [b2,m] []:=by
  show (if Nat.ble (b1+1) lo||[].any (Nat.beq b1) then _ else _)=_;rw[ble_true.2 (by omega)];rfl
 have s2:zBm h lo 999 [b2,m] []=zBm h lo 998 [m] []:=by
  show (if Nat.ble (b2+1) lo||[].any (Nat.beq b2) then _ else _)=_;rw[ble_true.2 (by omega)];rfl
 have s3:zBm h lo 998 [m] []=zBm h lo 997 (zM7 (.map es ver)++[]) [m]:=by
  show (if Nat.ble (m+1) lo||[].any (Nat.beq m) then _ else (match h.get m with|some o=>zBm h lo 997 (zM7 o++[]) [m]|none=>_))=_;rw[ble_false.2 (by omega),hg];rfl
 rw[s1,s2,s3];simp only[zM7,cz,xCb];rfl
def zLG{k l:AH}(o:Own k l):Fx NoB k (l.wmTo k.wm):=by
 refine⟨?_,o.ext.qa,λ c hc _=>o.ext.get c hc,λ m h1 _ h3=>?_⟩
 ·show cond (Nat.ble k.wm l.wm) k.wm l.wm<=l.qa+UNK;have:=o.ext.ok;unfold AH.ok at this;cases bv:Nat.ble k.wm l.wm with
  | true=>rw[ble_true] at bv;simp only[xAG];omega
  | false=>exact this
 ·show m<=cond (Nat.ble k.wm l.wm) k.wm l.wm;have:=o.wm;cases bv:Nat.ble k.wm l.wm with
  | true=>exact h1
  | false=>simp only[xAH];omega
def zqM{k:AH}{b1 b2 m ver:Nat}{R:Rel}(aa:k.ok)(cj:b1<k.qa)(aN:b2<k.qa)(hm:k.get m=some (.map (ent R) ver))(aW:m<k.qa) :
  Ev false ((zc E).call 125 [.agg ⟨zA5 (ptr b1) (ptr b2) m⟩] k) λ x=>∃ m' ver' R',x.1=.agg ⟨zA5 (ptr b2) (ptr b1) m'⟩/\x.2.get m'=some (.map (ent R') ver')/\k.qa<=m'/\m'<x.2.qa/\R'.Nodup/\(∀ p,p∈R' ↔ zB9 p∈R)/\Fx NoB k x.2:=by
 refine zNT (s:=false) (Rp:=λ v k'=>∃ m' ver' R',v=.agg ⟨zA5 (ptr b2) (ptr b1) m'⟩/\k'.get m'=some (.map (ent R') ver')/\k.qa<=m'/\m'<k'.qa/\R'.Nodup/\(∀ p,p∈R' ↔ zB9 p∈R)/\Fx NoB k k') zmY zgf (zmX _ _) (by kernel_rfl) ?_;have key:Ev false (AM.R.andThen (evC E (zc E) none (zW Tryz.f125) ⟨⟨Tryz.f125.ntmps,zCp [.agg ⟨zA5 (ptr b1) (ptr b2) m⟩] 0 .e⟩,k.qb,[]⟩) (zAU E Tryz.f125)) λ x=>
   ∃ m' ver' R',x.1=.agg ⟨zA5 (ptr b2) (ptr b1) m'⟩/\x.2.get m'=some (.map (ent R') ver')/\k.qa<=m'/\m'<x.2.qa/\R'.Nodup/\(∀ p,p∈R' ↔ zB9 p∈R)/\Own k x.2:=by
  refine zq6 (Rp:=λ v k'=>∃ m' ver' R',v=.agg ⟨zA5 (ptr b2) (ptr b1) m'⟩/\k'.get m'=some (.map (ent R') ver')/\k.qa<=m'/\m'<k'.qa/\R'.Nodup/\(∀ p,p∈R' ↔ zB9 p∈R)/\Own k k') (zee ?_);simp only[znv,zU,zF,zK,zn7];refine zed ?_;have o1:=((Own.qb k).new (.row (zA5 (ptr b1) (ptr b2) m) 176 0 false)).new (rO [.pointer none,.pointer none,.map none] 176);have t1:((k.qb.new (.row (zA5 (ptr b1) (ptr b2) m) 176 0 false)).new (rO [.pointer none,.pointer none,.map none] 176)).get k.qa=some (.row (zA5 (ptr b1) (ptr b2) m) 176 0 false):=by
   rw[zG (by simp)];exact zD k.qb _
  have r1:((k.qb.new (.row (zA5 (ptr b1) (ptr b2) m) 176 0 false)).new (rO [.pointer none,.pointer none,.map none] 176)).get (k.qa+1)=some (rO [.pointer none,.pointer none,.map none] 176):=zD (k.qb.new _) _;have n1:((k.qb.new (.row (zA5 (ptr b1) (ptr b2) m) 176 0 false)).new (rO [.pointer none,.pointer none,.map none] 176)).qa=k.qa+2:=rfl;simp only[zR,AH.next_new];generalize ((k.qb.new (.row (zA5 (ptr b1) (ptr b2) m) 176 0 false)).new (rO [.pointer none,.pointer none,.map none] 176))=k1 at o1 t1 r1 n1;have l0:=zB (P:=E) zCU (o:=0) t1;have l1:=zB (P:=E) zCU (o:=1) t1;simp only[lnth,zA5] at l0 l1;simp only[znu,zRZ,zLr,xCu,xAK,l0,l1,zA,zF,zsI,zn7,zU,zK,zta];refine zec ?_;have o2:=((o1.new (.map [] 0)).new (rO [.pointer none,.pointer none,.map none] 176)).upd (b:=(k1.new (.map [] 0)).qa) (by simp;omega) (some (.row (zA5 (ptr b2) (ptr b1) k1.qa) 176 0 false));have q1:(((k1.new (.map [] 0)).new (rO [.pointer none,.pointer none,.map none] 176)).upd (k1.new (.map [] 0)).qa (some (.row (zA5 (ptr b2) (ptr b1) k1.qa) 176 0 false))).get k1.qa=some (.map [] 0):=by
   rw[zL (by simp),zG (by simp)];exact zD _ _
  have q2:(((k1.new (.map [] 0)).new (rO [.pointer none,.pointer none,.map none] 176)).upd (k1.new (.map [] 0)).qa (some (.row (zA5 (ptr b2) (ptr b1) k1.qa) 176 0 false))).get (k1.qa+1)=some (.row (zA5 (ptr b2) (ptr b1) k1.qa) 176 0 false):=zH _ _ _;have q3:(((k1.new (.map [] 0)).new (rO [.pointer none,.pointer none,.map none] 176)).upd (k1.new (.map [] 0)).qa (some (.row (zA5 (ptr b2) (ptr b1) k1.qa) 176 0 false))).get k.qa=some (.row (zA5 (ptr b1) (ptr b2) m) 176 0 false):=by
   rw[zL (by simp;omega),zG (by simp;omega),zG (by omega)];exact t1
  have q4:(((k1.new (.map [] 0)).new (rO [.pointer none,.pointer none,.map none] 176)).upd (k1.new (.map [] 0)).qa (some (.row (zA5 (ptr b2) (ptr b1) k1.qa) 176 0 false))).get (k.qa+1)=some (rO [.pointer none,.pointer none,.map none] 176):=by
   rw[zL (by simp;omega),zG (by simp;omega),zG (by omega)];exact r1
  have q5:(((k1.new (.map [] 0)).new (rO [.pointer none,.pointer none,.map none] 176)).upd (k1.new (.map [] 0)).qa (some (.row (zA5 (ptr b2) (ptr b1) k1.qa) 176 0 false))).qa=k1.qa+2:=rfl;simp only[zA5] at q1 q2 q3 q4 q5 o2 ⊢;simp only[AH.next_new] at q1 q2 q3 q4 q5 o2 ⊢;generalize (((k1.new (.map [] 0)).new (rO [.pointer none,.pointer none,.map none] 176)).upd (k1.qa+1) (some (rO [ptr b2,ptr b1,.map (some k1.qa)] 176)))=k2 at o2 q1 q2 q3 q4 q5;have l2:=zB (P:=E) zMS (o:=2) q3;simp only[lnth] at l2;have ed:=(o2.ext.get m aW).trans hm;simp only[znt,zGW,xAK,l2,zA,zMh ed,zF];have loop:∀(n:Nat) (Lf Rn:Rel) (vr:Nat),Lf.length=n->Rn.Nodup->(∀ p,p∈Rn\/zB9 p∈Lf ↔ zB9 p∈R)->∀ l cur,Own k l->k2.qa<l.qa->l.get k1.qa=some (.map (ent Rn) vr)->l.get (k1.qa+1)=some (rO [ptr b2,ptr b1,.map (some k1.qa)] 176)->l.get (k.qa+1)=some (rO [.pointer none,.pointer none,.map none] 176)->
    l.get k2.qa=some (.iter (some m) ver (ent Lf) cur)->
    zuv false (KR E [.cell 2 176] (λ v k'=>∃ m' ver' R',v=.agg ⟨[ptr b2,ptr b1,.map (some m')]⟩/\k'.get m'=some (.map (ent R') ver')/\k.qa<=m'/\m'<k'.qa/\R'.Nodup/\(∀ p,p∈R' ↔ zB9 p∈R)/\Own k k')) (ptr (k.qa+1)) (ptr (k1.qa+1)) (ptr k2.qa) l:=by
   intro n
   induction n with
   | zero=>
    intro Lf Rn vr hLf bp aO l cur ho ab hmp hcp fS hit;have:Lf=[]:=xAm.1 hLf;subst this;refine zOX ?_;have dA:=(ho.ext.get m aW).trans hm;simp only[zYy,zQ4 hit dA,zF,z6,lnth,zA,zZ];refine zeZ ?_;have la:=zN (P:=E) zMR (o:=0) hcp (by simp);simp only[xCe,List.take] at la;have af:=zi (P:=E) zQj (o:=0) (x:=.agg ⟨[ptr b2,ptr b1,.map (some k1.qa)]⟩) (cs:=[ptr b2,ptr b1,.map (some k1.qa)]) fS rfl rfl (by simp) (by simp[zl]);simp only[znq,la,zA,af,zF,zwn,zO,xDJ];have g1:(l.upd (k.qa+1) (some (.row (lput [.pointer none,.pointer none,.map none] 0 [ptr b2,ptr b1,.map (some k1.qa)]) 176 0 false))).get (k.qa+1)=some (rO [ptr b2,ptr b1,.map (some k1.qa)] 176):=zH _ _ _;have lb:=zN (P:=E) zMR (o:=0) g1 (by simp);simp only[xCe,List.take] at lb;have:zC1 E 176 (ptr (k.qa+1)) (l.upd (k.qa+1) (some (.row (lput [.pointer none,.pointer none,.map none] 0 [ptr b2,ptr b1,.map (some k1.qa)]) 176 0 false)))=some (.agg ⟨[ptr b2,ptr b1,.map (some k1.qa)]⟩):=lb;rw[this,zA];refine⟨k1.qa,vr,Rn,rfl,(zL (by omega)).trans hmp,by omega,by show k1.qa<l.qa;omega,bp,λ p=>by have:=aO p;simpa using this,ho.upd (by omega) _⟩
   | succ n ih=>
    intro Lf Rn vr hLf bp aO l cur ho ab hmp hcp fS hit;refine zOX ?_;have dA:=(ho.ext.get m aW).trans hm;simp only[zYy];refine zMo hit dA (by cases Lf with|nil=>simp at hLf|cons a l=>simp[ent]) λ e l1 l2 eG=>?_;obtain⟨R1,p,R2,hR,dQ,hep,fh⟩:=zNJ eG;subst hep;rw[dQ,fh,zKl];simp only[z6,lnth,zA,ze];refine zeb ?_;have gz:=ho.ext.qa;have o3:=ho.upd (b:=k2.qa) (by omega) (some (.iter (some m) ver (ent (R1++R2)) (some (.agg ⟨zC p⟩,.bool true))));have i3:(l.upd k2.qa (some (.iter (some m) ver (ent (R1++R2)) (some (.agg ⟨zC p⟩,.bool true))))).get k2.qa=_:=zH _ _ _;have a3:(l.upd k2.qa (some (.iter (some m) ver (ent (R1++R2)) (some (.agg ⟨zC p⟩,.bool true))))).get k1.qa=_:=(zL (by omega)).trans hmp;have c3:(l.upd k2.qa (some (.iter (some m) ver (ent (R1++R2)) (some (.agg ⟨zC p⟩,.bool true))))).get (k1.qa+1)=_:=(zL (by omega)).trans hcp;have d3:(l.upd k2.qa (some (.iter (some m) ver (ent (R1++R2)) (some (.agg ⟨zC p⟩,.bool true))))).get (k.qa+1)=_:=(zL (by omega)).trans fS;have n3:(l.upd k2.qa (some (.iter (some m) ver (ent (R1++R2)) (some (.agg ⟨zC p⟩,.bool true))))).qa=l.qa:=rfl;generalize (l.upd k2.qa (some (.iter (some m) ver (ent (R1++R2)) (some (.agg ⟨zC p⟩,.bool true)))))=l3 at o3 i3 a3 c3 d3 n3;have hml3:=(o3.ext.get m aW).trans hm;simp only[zns,zRc i3 hml3,zA,z6,lnth,zvH,zU,zF,zK,zqU];refine zea ?_;have o4:=(o3.new (rO [iI 0,iI 0] 54)).upd (b:=l3.qa) (by omega) (some (rO (zC p) 54));have p4:((l3.new (rO [iI 0,iI 0] 54)).upd l3.qa (some (rO (zC p) 54))).get l3.qa=some (rO (zC p) 54):=zH _ _ _;have i4:((l3.new (rO [iI 0,iI 0] 54)).upd l3.qa (some (rO (zC p) 54))).get k2.qa=_:=((zL (by omega)).trans (zG (by omega))).trans i3;have a4:((l3.new (rO [iI 0,iI 0] 54)).upd l3.qa (some (rO (zC p) 54))).get k1.qa=_:=((zL (by omega)).trans (zG (by omega))).trans a3;have c4:((l3.new (rO [iI 0,iI 0] 54)).upd l3.qa (some (rO (zC p) 54))).get (k1.qa+1)=_:=((zL (by omega)).trans (zG (by omega))).trans c3;have d4:((l3.new (rO [iI 0,iI 0] 54)).upd l3.qa (some (rO (zC p) 54))).get (k.qa+1)=_:=((zL (by omega)).trans (zG (by omega))).trans d3;have n4:((l3.new (rO [iI 0,iI 0] 54)).upd l3.qa (some (rO (zC p) 54))).qa=l3.qa+1:=rfl;generalize ((l3.new (rO [iI 0,iI 0] 54)).upd l3.qa (some (rO (zC p) 54)))=l4 at o4 p4 i4 a4 c4 d4 n4;have g0:=zB (P:=E) zMS (o:=2) c4;have g1:=zB (P:=E) zAE (o:=0) p4;have g2:=zB (P:=E) zAE (o:=1) p4;simp only[lnth,zC] at g0 g1 g2;obtain⟨R',u1,u2,u3⟩:=zmm a4 bp (p.2,p.1);simp only[znr,zGW,xAK,xCu,g0,g1,g2,zA,zD9,zEb,zym,u1,zF];refine ih (R1++R2) R' (vr+1) (by rw[hR] at hLf;simp at hLf ⊢;omega) u2 (λ x=>?_) _ _ (o4.upd (by omega) _) (by show k2.qa<l4.qa;omega) (zH _ _ _) ((zL (by omega)).trans c4) ((zL (by omega)).trans d4) ((zL (by omega)).trans i4);rw[← aO x,u3 x,hR];have gU:x=(p.2,p.1) ↔ zB9 x=p:=by
     constructor
     ·rintro rfl;rfl
     ·intro h;rw[← h];rfl
    rw[gU];simp only[xCU,xAQ];constructor
    ·rintro ((h|h)|h|h) <;> simp[h]
    ·rintro (h|h|h|h) <;> simp[h]
  refine loop R.length R [] 0 rfl (by simp) (λ p=>by simp) _ none (o2.new _) (by simp) ((zG (by omega)).trans q1) ((zG (by omega)).trans q2) ((zG (by omega)).trans q4) (zD _ _)
 refine key.mono λ x hx=>?_;obtain⟨m',ver',R',h1,h2,h3,h4,h5,h6,h7⟩:=hx;have dR:zBm x.2 k.qb.qa 1000 (zBR 4 x.1) []=[m']:=by
  rw[h1];exact zWZ aN cj h3 h2 (by simp[ent,List.flatMap_map,zBR])
 refine⟨by rw[h1];rfl,⟨m',ver',R',h1,h2,h3,h4,h5,h6,zLG h7⟩,m',ver',R',h1,?_,h3,h4,h5,h6,zLG ?_⟩
 ·show (AH.kept k.qb x.1 x.2).get m'=_;unfold AH.kept;rw[dR,zBc,xDO (by simp)];exact h2
 ·refine⟨⟨?_,h7.ext.qa,λ c hc=>?_⟩,?_⟩
  ·exact h7.ext.ok
  ·unfold AH.kept;rw[dR,zBc];split
   ·exact h7.ext.get c hc
   ·rfl
  ·exact h7.wm
end Go.Proofs
