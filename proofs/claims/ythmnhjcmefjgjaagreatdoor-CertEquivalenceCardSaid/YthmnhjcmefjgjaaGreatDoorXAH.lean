import Derived.Test.YthmnhjcmefjgjaaGreatDoorXAG
set_option linter.all false
set_option linter.unusedSectionVars false
set_option autoImplicit true
set_option relaxedAutoImplicit true
namespace Go.Proofs
open Go Go.AM
set_option maxRecDepth 100000
set_option maxHeartbeats 1000000
def zII (Ls:List GL) (i:Nat):Bool:=match Ls[i]? with
 | some L=>zy L
 | none=>false
theorem zll:∀ (e:List Value),e.length=3->lput [iI 0,.slice none 0 0,.slice none 0 0] 0 e=e:=by
 intro e he
 match e,he with
 | [x,y,z],_=>rfl
theorem RL.leafs {h:AH} {e:List Value} {L:GL} (r:RL h (.agg ⟨e⟩) L):e.all zq=true/\e.length=3:=by
 obtain ⟨vl,ve,els,a,b,c,d⟩:=r.ex
 obtain ⟨x1,x2,rfl⟩:=b.slice
 obtain ⟨y1,y2,rfl⟩:=d.slice
 simp only [Value.agg.injEq] at a
 have:e=[iI L.n,.slice x1 els.length x2,.slice y1 (L.eds.map zm).length y2]:=by
  have:=congrArg Array.toList a
  simpa using this
 rw [this]
 simp [zq]
theorem zUd {h0 k:AH} {v:Value} {els:List (List Value)} {Ls:List GL} (ha:Arr h0 3 v els) (hn:els.length=Ls.length) (aU:els.length<=1000) (hr:∀ (i:Nat) (e:List Value) (L:GL),els[i]?=some e->Ls[i]?=some L->RL h0 (.agg ⟨e⟩) L) (hk:Ext h0 k) :
  (zY E).call 70 [v] k=some [(iI (if zAI (zII Ls) els.length 0 then 8 else 0),k)]:=by
 obtain ⟨ad,c,hv⟩:=ha.slice
 subst hv
 refine zgT (s:=true) hk.ok rfl (ze7 ?_)
 refine ze6 ?_
 simp only [zA,zTj]
 have loop:∀ (m i:Nat),i+m=els.length->∀ l,Own k l->zqe true (KR E [.tmp 2] (fun x l=>x=iI (if zAI (zII Ls) m i then 8 else 0)/\k.next<=l.wm)) (.slice ad els.length c) (iI (els.length:Int)) (iI (i:Int)) l:=by
  intro m
  induction m with
  | zero=>
   intro i hi l hl
   refine zPR ?_
   simp only [zZ,zA,zAM]
   refine ⟨fun h=>by omega,fun _=>ze1 ?_⟩
   simp [zA,zAS,zX,zAI,hl.wm]
  | succ m ih=>
   intro i hi l hl
   have ai:i<els.length:=by omega
   have aO:i<Ls.length:=by omega
   refine zPR ?_
   simp only [zZ,zA,zAM]
   refine ⟨fun _=>ze5 ?_,fun h=>by omega⟩
   obtain ⟨b,o,c',vs,ty,es,ro,hv,hb,ab,bK,hz,ba⟩:=ha.load (List.getElem?_eq_getElem ai)
   simp only [Value.slice.injEq] at hv
   obtain ⟨bk,_,eT⟩:=hv
   subst bk
   have gW:=hr i _ _ (List.getElem?_eq_getElem ai) (List.getElem?_eq_getElem aO)
   have eG:Ext h0 l:=hk.trans hl.ext
   have gb:l.get b=some (.row vs ty es ro):=(eG.get b ab).trans hb
   simp only [zA,zNQ ai,zV zDe gb bK,hz,zoy,zg,zK,zT]
   rw [z7 (P:=E) zlI (x:=.agg ⟨els[i]⟩) (cs:=els[i]) (zI l _) rfl ba (by simp) gW.leafs.1]
   simp only [zK]
   rw [zll _ ba]
   have eA:=hl.ext.next
   have o2:=(hl.new (rO [iI 0,.slice none 0 0,.slice none 0 0] 25)).upd (b:=l.next) eA (some (.row els[i] 25 0 false))
   have t2:((l.new (rO [iI 0,.slice none 0 0,.slice none 0 0] 25)).upd l.next (some (.row els[i] 25 0 false))).get l.next=some (.row els[i] 25 0 false):=zO _ _ _
   generalize ((l.new (rO [iI 0,.slice none 0 0,.slice none 0 0] 25)).upd l.next (some (.row els[i] 25 0 false)))=l2 at o2 t2
   refine ze4 ?_
   have ca:=zV (P:=E) zDe (o:=0) t2 (by omega)
   rw [List.drop_zero,List.take_of_length_le (by omega)] at ca
   simp only [ca,zA,zQ,zkD gW (hk.trans o2.ext),zP,zAp]
   have bA:zII Ls i=zy Ls[i]:=by unfold zII;rw [List.getElem?_eq_getElem aO]
   cases hb:zy Ls[i] with
   | true=>
    simp only [if_true,show (!decide ((8:Int)=0))=true from rfl,zz]
    refine ze3 ?_
    simp [zA,zAS,zX,zAI,bA,hb,o2.wm]
   | false=>
    simp only [Bool.false_eq_true,if_false,decide_true,Bool.not_true,zj]
    refine ze2 ?_
    simp only [zAD _ (zEA ai (by omega)),zA]
    have:=ih (i+1) (by omega) l2 o2
    simp only [zAI,bA,hb,Bool.false_or]
    simpa using this
 exact loop els.length 0 (by omega) _ (Own.fresh k)
def zDG (k:Int):Bool:=decide (k=1)||decide (k=2)
theorem zUr {k:AH} {a:Int} (aa:k.ok):(zY E).call 105 [iI a] k=some [(.bool (zDG a),k)]:=by
 refine zc8 (s:=true) aa rfl (zcB ?_)
 refine zcA ?_
 simp only [zA,zAg]
 by_cases c:a=1
 ·simp [c,zDG,zA,zM,zJ,zAS,zX]
 ·simp [c,zDG,zA,zM,zJ,zAS,zX,zAg]
def zH (p:Int×Int):List Value:=[iI p.1,iI p.2]
def zKC (p q:Int×Int):Int:=orI [c3 p.1 q.1,c3 p.2 q.2]
theorem zFd {b o:Nat}:zE E 54 (some (.pointer (some ⟨b,o,none⟩))) (some (iI 0))=some (.pointer (some ⟨b,o+0,none⟩)):=zl7 (k:=0) (by omega)
theorem zFc {b o:Nat}:zE E 54 (some (.pointer (some ⟨b,o,none⟩))) (some (iI 1))=some (.pointer (some ⟨b,o+1,none⟩)):=zl7 (k:=1) (by omega)
theorem zUo {k:AH} {e f:Int×Int} (aa:k.ok):(zY E).call 122 [.agg ⟨zH e⟩,.agg ⟨zH f⟩] k=some [(iI (zKC e f),k)]:=by
 refine zc2 (s:=true) aa rfl (zbP ?_)
 simp only [zg,zK,zT,zA]
 refine zbO ?_
 have o1:=((Own.fresh k).new (rO (zH e) 54)).new (rO (zH f) 54)
 have t1:((k.fresh.new (rO (zH e) 54)).new (rO (zH f) 54)).get k.next=some (rO (zH e) 54):=by
  rw [zL (by simp)];exact zI k.fresh _
 have t2:((k.fresh.new (rO (zH e) 54)).new (rO (zH f) 54)).get (k.next+1)=some (rO (zH f) 54):=zI (k.fresh.new _) _
 simp only [zb,AH.next_new]
 generalize ((k.fresh.new (rO (zH e) 54)).new (rO (zH f) 54))=k1 at o1 t1 t2
 have l0:=zF (P:=E) zAb (o:=0) t1
 have l1:=zF (P:=E) zAb (o:=1) t1
 have m0:=zF (P:=E) zAb (o:=0) t2
 have m1:=zF (P:=E) zAb (o:=1) t2
 simp only [lnth,zH] at l0 l1 m0 m1
 simp only [zFd,zFc,Nat.add_zero,Nat.zero_add,l0,l1,m0,m1,zA,zQ,zI5 o1.ext.ok,zP,zCm,true_and,zhw,zK]
 rw [or2 o1.ext.ok]
 simp only [zP,zA,zAS,zX,true_and]
 exact ⟨rfl,o1.wm⟩
structure GB where
 kind:Int
 prs:List (Int×Int)
structure RB (h:AH) (e:List Value) (B:GB):Prop where
 ex:∃ vp,e=[iI B.kind,vp]/\Arr h 2 vp (B.prs.map zH)
theorem RB.ext {h k:AH} {e:List Value} {B:GB} (r:RB h e B) (x:Ext h k):RB k e B:=let ⟨v,a,b⟩:=r.ex;⟨v,a,b.ext x⟩
def zB8 (ps:List (Int×Int)) (i:Nat):Bool:=match ps[i]? with
 | some p=>decide (p.1<0)||decide (p.2<0)||(decide (0<i)&&match ps[i-1]? with
  | some q=>decide (0<=zKC q p)
  | none=>false)
 | none=>false
def zAd (B:GB):Int:=if zDG B.kind=false then 361 else if 200000<B.prs.length then 360 else if zAI (zB8 B.prs) B.prs.length 0 then 360 else 0
def zJ9 (Bs:List GB) (i:Nat):Int:=match Bs[i]? with
 | some B=>zAd B
 | none=>0
def zA4 (Bs:List GB):Nat->Nat->Int
 | 0,_=>0
 | m+1,i=>if zJ9 Bs i≠0 then zJ9 Bs i else zA4 Bs m (i+1)
abbrev kfe (k:AH) (n:Int):KF:=KR E [.tmp 2] (fun x m=>x=iI n/\k.next<=m.wm)
theorem zpV:∀ (e:List Value),e.length=2->lput [iI 0,iI 0] 0 e=e:=by
 intro e he
 match e,he with
 | [x,y],_=>rfl
theorem zUc {h0 k:AH} {v:Value} {els:List (List Value)} {Bs:List GB} (ha:Arr h0 2 v els) (hn:els.length=Bs.length) (aU:els.length<=1000) (hr:∀ (i:Nat) (e:List Value) (B:GB),els[i]?=some e->Bs[i]?=some B->RB h0 e B) (hk:Ext h0 k) :
  (zY E).call 71 [v] k=some [(iI (zA4 Bs els.length 0),k)]:=by
 obtain ⟨ad,c,hv⟩:=ha.slice
 subst hv
 refine zgS (s:=true) hk.ok rfl (ze0 ?_)
 refine zez ?_
 simp only [zA,zTi]
 have loop:∀ (m i:Nat),i+m=els.length->∀ l,Own k l->zqd true (kfe k (zA4 Bs m i)) (.slice ad els.length c) (iI (els.length:Int)) (iI (i:Int)) l:=by
  intro m
  induction m with
  | zero=>
   intro i hi l hl
   refine zPQ ?_
   simp only [zZ,zA,zAM]
   refine ⟨fun h=>by omega,fun _=>zV9 ?_⟩
   simp [zA,zAS,zX,zA4,hl.wm]
  | succ m ih=>
   intro i hi l hl
   have ai:i<els.length:=by omega
   have aO:i<Bs.length:=by omega
   refine zPQ ?_
   simp only [zZ,zA,zAM]
   refine ⟨fun _=>zey ?_,fun h=>by omega⟩
   obtain ⟨b,o,c',vs,ty,es,ro,hv,hb,ab,bK,hz,ba⟩:=ha.load (List.getElem?_eq_getElem ai)
   simp only [Value.slice.injEq] at hv
   obtain ⟨bk,_,eT⟩:=hv
   subst bk
   obtain ⟨vp,bz,fm⟩:=(hr i _ _ (List.getElem?_eq_getElem ai) (List.getElem?_eq_getElem aO)).ex
   have bA:zJ9 Bs i=zAd Bs[i]:=by unfold zJ9;rw [List.getElem?_eq_getElem aO]
   generalize hB:Bs[i]=B at bz fm bA
   obtain ⟨ap,cp,eb⟩:=fm.slice
   rw [List.length_map] at eb
   subst eb
   rw [bz] at hz ba
   have eG:Ext h0 l:=hk.trans hl.ext
   have gb:l.get b=some (.row vs ty es ro):=(eG.get b ab).trans hb
   simp only [zA,zi7 ai,zV zB0 gb bK,hz,zKb,zg,zK,zT]
   rw [z7 (P:=E) ziS (x:=.agg ⟨[iI B.kind,.slice ap B.prs.length cp]⟩) (cs:=[iI B.kind,.slice ap B.prs.length cp]) (zI l _) rfl ba (by simp) (by simp [zq])]
   simp only [zK]
   rw [zq0 _ ba]
   have eA:=hl.ext.next
   have o2:=(hl.new (rO [iI 0,.slice none 0 0] 32)).upd (b:=l.next) eA (some (rO [iI B.kind,.slice ap B.prs.length cp] 32))
   have t2:((l.new (rO [iI 0,.slice none 0 0] 32)).upd l.next (some (rO [iI B.kind,.slice ap B.prs.length cp] 32))).get l.next=some (rO [iI B.kind,.slice ap B.prs.length cp] 32):=zO _ _ _
   have n2:((l.new (rO [iI 0,.slice none 0 0] 32)).upd l.next (some (rO [iI B.kind,.slice ap B.prs.length cp] 32))).next=l.next+1:=rfl
   generalize ((l.new (rO [iI 0,.slice none 0 0] 32)).upd l.next (some (rO [iI B.kind,.slice ap B.prs.length cp] 32)))=l2 at o2 t2 n2
   refine zex ?_
   have c0:=zF (P:=E) zAb (o:=0) t2
   have c1:=zF (P:=E) zFw (o:=1) t2
   simp only [lnth] at c0 c1
   simp only [zGI,Nat.add_zero,c0,zA,zQ,zUr o2.ext.ok,zP,z6]
   cases hm:zDG B.kind with
   | false=>
    have aI:zJ9 Bs i=361:=by rw [bA];unfold zAd;rw [if_pos hm]
    simp only [Bool.not_false,zz]
    refine zew ?_
    simp [zA,zAS,zX,zA4,aI,o2.wm]
   | true=>
    simp only [Bool.not_true,zj]
    refine zev ?_
    simp only [zCU,Nat.zero_add,c1,zA,zTh,zAK,zAM]
    refine ⟨fun gQ=>zeu ?_,fun gQ=>zet ?_⟩
    ·have aI:zJ9 Bs i=360:=by rw [bA];unfold zAd;rw [if_neg (by rw [hm];simp),if_pos (by omega)]
     simp [zA,zAS,zX,zA4,aI,o2.wm]
    ·simp only [zCU,Nat.zero_add,c1,zA,zTg]
     have hbig':B.prs.length<=200000:=by omega
     have ic:zAd B=if zAI (zB8 B.prs) B.prs.length 0 then 360 else 0:=by unfold zAd;rw [if_neg (by rw [hm];simp),if_neg (by omega)]
     have pairs:∀ (m2 j:Nat),j+m2=B.prs.length->∀ l3,Ext l2 l3->k.next<=l3.wm->
       (zAI (zB8 B.prs) m2 j=true->zA4 Bs (m+1) i=360)->(zAI (zB8 B.prs) m2 j=false->zA4 Bs (m+1) i=zA4 Bs m (i+1))->
       zqc true (kfe k (zA4 Bs (m+1) i)) (.pointer (some ⟨l.next,0,none⟩)) (.slice (some ⟨b,o,none⟩) els.length c) (iI (els.length:Int)) (iI (i:Int)) (.slice ap B.prs.length cp) (iI (B.prs.length:Int)) (iI (j:Int)) l3:=by
      intro m2
      induction m2 with
      | zero=>
       intro j hj l3 ie hw3 h1 h2
       refine zPP ?_
       simp only [zZ,zA,zAM]
       refine ⟨fun h=>by omega,fun _=>zWA ?_⟩
       simp only [zAD _ (zEA ai (by omega)),zA]
       have:=ih (i+1) (by omega) l3 ⟨o2.ext.trans ie,hw3⟩
       rw [h2 rfl]
       simpa using this
      | succ m2 ih2=>
       intro j hj l3 ie hw3 h1 h2
       have bG:j<B.prs.length:=by omega
       refine zPP ?_
       simp only [zZ,zA,zAM]
       refine ⟨fun _=>zWE ?_,fun h=>by omega⟩
       have hatp:(B.prs.map zH)[j]?=some (zH B.prs[j]):=by simp [bG]
       obtain ⟨b',o',c2',vs',ty',es',ro',aC,ao,aD,c8,bI,bH⟩:=fm.load hatp
       simp only [Value.slice.injEq] at aC
       obtain ⟨dx,_,_⟩:=aC
       subst dx
       have he3:Ext h0 l3:=(hk.trans o2.ext).trans ie
       have gb':l3.get b'=some (.row vs' ty' es' ro'):=(he3.get b' aD).trans ao
       simp only [zA,zAR bG,zV zKj gb' c8,bI,zdI,zg,zK,zT]
       rw [z7 (P:=E) zID (x:=.agg ⟨zH B.prs[j]⟩) (cs:=zH B.prs[j]) (zI l3 _) rfl bH (by simp) (by simp [zH,zq])]
       simp only [zK]
       rw [zpV _ bH]
       have hkl3:=ie.next
       have e4:=(ie.new (rO [iI 0,iI 0] 54)).upd (b:=l3.next) hkl3 (some (rO (zH B.prs[j]) 54))
       have w4:k.next<=((l3.new (rO [iI 0,iI 0] 54)).upd l3.next (some (rO (zH B.prs[j]) 54))).wm:=zAG (by rw [zDK];exact hw3) (by omega)
       have t4:((l3.new (rO [iI 0,iI 0] 54)).upd l3.next (some (rO (zH B.prs[j]) 54))).get l3.next=some (rO (zH B.prs[j]) 54):=zO _ _ _
       have g4:((l3.new (rO [iI 0,iI 0] 54)).upd l3.next (some (rO (zH B.prs[j]) 54))).get b'=some (.row vs' ty' es' ro'):=by
        have q1:=hk.next
        rw [zW (by omega),zL (by omega)];exact gb'
       generalize ((l3.new (rO [iI 0,iI 0] 54)).upd l3.next (some (rO (zH B.prs[j]) 54)))=l4 at e4 w4 t4 g4
       refine zWD ?_
       have ok4:=e4.ok
       have bx:l4.get l.next=some (rO [iI B.kind,.slice (some ⟨b',o',none⟩) B.prs.length cp] 32):=(e4.get _ (by omega)).trans t2
       have d0:=zF (P:=E) zAb (o:=0) t4
       have d1:=zF (P:=E) zAb (o:=1) t4
       have da:=zV (P:=E) zKj (o:=0) t4 (by simp [zH])
       have dp:=zF (P:=E) zFw (o:=1) bx
       rw [List.drop_zero,List.take_of_length_le (by simp [zH])] at da
       simp only [lnth,zH] at d0 d1 dp
       have hatj:B.prs[j]?=some B.prs[j]:=List.getElem?_eq_getElem bG
       have hpb:zB8 B.prs j=(decide (B.prs[j].1<0)||decide (B.prs[j].2<0)||(decide (0<j)&&match B.prs[j-1]? with
        | some q=>decide (0<=zKC q B.prs[j])
        | none=>false)):=by simp only [zB8,hatj]
       have aH:∀ bad:Bool,zB8 B.prs j=bad->(BrK (some (.bool bad)) (znQ true (kfe k (zA4 Bs (m+1) i)) l4) (znP true (kfe k (zA4 Bs (m+1) i)) (.pointer (some ⟨l.next,0,none⟩)) (.slice (some ⟨b,o,none⟩) els.length c) (iI (els.length:Int)) (iI (i:Int)) (.slice (some ⟨b',o',none⟩) B.prs.length cp) (iI (B.prs.length:Int)) (iI (j:Int)) l4)):=by
        intro bad a9
        cases bad with
        | true=>
         rw [zz,h1 (by simp [zAI,a9])]
         refine zWC ?_
         simp [zA,zAS,zX,w4]
        | false=>
         rw [zj]
         refine zWB ?_
         simp only [zAD _ (zEA bG (by omega)),zA]
         have:=ih2 (j+1) (by omega) l4 e4 w4 (fun h=>h1 (by simp [zAI,h])) (fun h=>h2 (by simp [zAI,a9,h]))
         simpa using this
       simp only [zFd,Nat.add_zero,d0,zA,zZ]
       by_cases p1:B.prs[j].1<0
       ·have:=aH true (by rw [hpb];simp [p1])
        simpa only [p1,decide_true,Bool.not_false,Bool.not_true,beq_self_eq_true,show (true==false)=false from rfl,show (false==true)=false from rfl,cond_true,cond_false,zA,zP,z6,zM,zU,zw,zx,zJ,zK] using this
       ·simp only [p1,decide_false,Bool.not_false,Bool.not_true,beq_self_eq_true,show (true==false)=false from rfl,show (false==true)=false from rfl,cond_true,cond_false,zA,zP,z6,zM,zU,zw,zx,zJ,zK,zFc,d1,zZ]
        by_cases p2:B.prs[j].2<0
        ·have:=aH true (by rw [hpb];simp [p2])
         simpa only [p2,decide_true,Bool.not_false,Bool.not_true,beq_self_eq_true,show (true==false)=false from rfl,show (false==true)=false from rfl,cond_true,cond_false,zA,zP,z6,zM,zU,zw,zx,zJ,zK] using this
        ·simp only [p2,decide_false,Bool.not_false,Bool.not_true,beq_self_eq_true,show (true==false)=false from rfl,show (false==true)=false from rfl,cond_true,cond_false,zA,zP,z6,zM,zU,zw,zx,zJ,zK,zAK]
         by_cases p3:0<j
         ·have p3':(0:Int)<j:=by omega
          have gI:j-1<B.prs.length:=by omega
          have jj:(B.prs.map zH)[j-1]?=some (zH B.prs[j-1]):=by simp [gI]
          obtain ⟨b5,o5,c5,vs5,ty5,es5,ro5,hv5,hb5,hlt5,hle5,hz5,hzl5⟩:=fm.load jj
          simp only [Value.slice.injEq] at hv5
          obtain ⟨hv15,_,_⟩:=hv5
          cases hv15
          rw [ao] at hb5
          cases hb5
          have aI:zB8 B.prs j=decide (0<=zKC B.prs[j-1] B.prs[j]):=by rw [hpb,List.getElem?_eq_getElem gI];simp [p1,p2,p3]
          have:=aH (decide (0<=zKC B.prs[j-1] B.prs[j])) aI
          simpa only [p3',zAK,decide_true,Bool.not_false,Bool.not_true,beq_self_eq_true,show (true==false)=false from rfl,show (false==true)=false from rfl,cond_true,cond_false,zA,zP,z6,zM,zU,zw,zx,zJ,zK,zCU,Nat.zero_add,dp,zpN p3 (by omega:j<=9223372036854775807),zAR gI,zV zKj g4 hle5,hz5,da,zQ,zUo ok4,zAa] using this
         ·have p3':¬ (0:Int)<j:=by omega
          have:=aH false (by rw [hpb];simp [p1,p2,p3])
          simpa only [p3',zAK,decide_false,Bool.not_false,Bool.not_true,beq_self_eq_true,show (true==false)=false from rfl,show (false==true)=false from rfl,cond_true,cond_false,zA,zP,z6,zM,zU,zw,zx,zJ,zK] using this
     refine pairs B.prs.length 0 (by omega) l2 (Ext.refl o2.ext.ok) o2.wm ?_ ?_
     ·intro h
      simp [zA4,bA,ic,h]
     ·intro h
      simp [zA4,bA,ic,h]
 exact loop els.length 0 (by omega) _ (Own.fresh k)
theorem mid3 (s:Int) (h:AH):zN E (zk [(20,iI s)]) (zo zhF [1,1,1,0,0,0,1,0,0] 3) h=some (.int .u64 (IntKind.u64.wrap s)):=by kernel_rfl
theorem mid4 (s:Int):zp E (zk [(21,.int .u64 s)]) (zo zhF [1,1,1,0,0,0,1,0,0] 4)=some (.int .u64 (s.fdiv (2 ^ (1:Nat)))):=by kernel_rfl
theorem mid5 (s:Int) (h:AH):zN E (zk [(22,.int .u64 s)]) (zo zhF [1,1,1,0,0,0,1,0,0] 5) h=some (iI (IntKind.i64.wrap s)):=by kernel_rfl
theorem zlq {a b n:Nat} (h1:a<=n) (h2:b<=n) (hn:n<=1000000):IntKind.i64.wrap ((IntKind.u64.wrap ((a:Int)+(b:Int))).fdiv (2 ^ (1:Nat)))=(((a+b) / 2:Nat):Int):=by
 have e1:IntKind.u64.wrap ((a:Int)+(b:Int))=(a:Int)+(b:Int):=by
  show ((a:Int)+(b:Int)) % (2 ^ 64:Int)=_
  omega
 rw [e1,Int.fdiv_eq_ediv_of_nonneg _ (by decide)]
 have e2:((2:Int) ^ (1:Nat))=2:=rfl
 rw [e2,← zFI,zDC (by unfold zC3;omega)]
 omega
abbrev CL:=Int×List GT
def zEm (ls:List CL) (c:CL) (q:Nat):Int:=match ls[q]? with
 | some x=>zCY x.1 x.2 c.1 c.2
 | none=>0
def zSU (ls:List CL) (c:CL):Nat->Nat->Nat->Nat
 | 0,i,_=>i
 | m+1,i,j=>if i<j then (if zEm ls c ((i+j) / 2)<0 then zSU ls c m ((i+j) / 2+1) j else zSU ls c m i ((i+j) / 2)) else i
def bsI (ls:List CL) (c:CL):Nat:=zSU ls c ls.length 0 ls.length
def bsB (ls:List CL) (c:CL):Bool:=decide (bsI ls c<ls.length)&&decide (zEm ls c (bsI ls c)=0)
theorem zjs {h0 k:AH} {v:Value} {els:List (List Value)} {ls:List (Int×List GT)} {g:Int} {vt:Value} {lt:List GT} (ha:Arr k 2 v els) (hL:RLab h0 els ls) (hn:els.length<=1000000) (hr:RT h0 vt lt) (hk:Ext h0 k) :
  bsI ls (g,lt)<=els.length/\(zY E).call 190 [v,.agg #[iI g,vt],.func (.func 168) #[] #[]] k=some [(.tuple #[iI ((bsI ls (g,lt):Nat):Int),.bool (bsB ls (g,lt))],k)]:=by
 obtain ⟨ad,c,hv⟩:=ha.slice
 subst hv
 have:∃ w,(bsI ls (g,lt)<=els.length/\w=.tuple #[iI ((bsI ls (g,lt):Nat):Int),.bool (bsB ls (g,lt))])/\(zY E).call 190 [.slice ad els.length c,.agg #[iI g,vt],.func (.func 168) #[] #[]] k=some [(w,k)]:=by
  refine zSB hk.ok (zYm ?_)
  simp only [zg,zK,zT,zA]
  refine zYl ?_
  have o1:=(Own.fresh k).new (rO [iI g,vt] 36)
  have t1:=zI k.fresh (rO [iI g,vt] 36)
  simp only [zb] at t1 ⊢
  generalize k.fresh.new (rO [iI g,vt] 36)=k1 at o1 t1
  have e1:=hk.trans o1.ext
  simp only [zA,zQJ]
  refine zYk ?_
  have ca:=zV (P:=E) zEk (o:=0) t1 (by simp)
  simp only [List.drop_zero,List.take] at ca
  have hll:els.length=ls.length:=RLab.length hL
  have fin:∀ (i:Nat),i<=els.length->i=bsI ls (g,lt)->zVG true (KR E [.tmp 6,.tmp 7] (fun x l=>(zi x=true/\bsI ls (g,lt)<=els.length/\x=.tuple #[iI ((bsI ls (g,lt):Nat):Int),.bool (bsB ls (g,lt))])/\k.next<=l.wm)) (.slice ad els.length c) (.func (.func 168) #[] #[]) (.pointer (some ⟨k.next,0,none⟩)) (iI (els.length:Int)) (iI (i:Int)) k1:=by
   intro i hi hI
   simp only [zVG,zA,zZ]
   by_cases ab:i<els.length
   ·have aD:(i:Int)<els.length:=by omega
    obtain ⟨b,o,c',vs,ty,es,ro,hv,hb,hlt2,bK,hz,ba⟩:=ha.load (List.getElem?_eq_getElem ab)
    simp only [Value.slice.injEq] at hv
    obtain ⟨bk,_,eT⟩:=hv
    subst bk
    obtain ⟨g',v',lt',bz,be,bA⟩:=RLab.at hL i _ (List.getElem?_eq_getElem ab)
    rw [bz] at hz
    have gb:k1.get b=some (.row vs ty es ro):=(o1.ext.get b hlt2).trans hb
    simp only [aD,decide_true,zM,zU,beq_self_eq_true,cond_true,zA,zNS ab,zV zEk gb bK,hz,ca,zQ,zNr be hr e1,zP,zAg,zJ,zQX,zX,true_and]
    have hB:bsB ls (g,lt)=decide (zCY g' lt' g lt=0):=by
     unfold bsB zEm
     rw [← hI,bA]
     have:i<ls.length:=by omega
     simp [this]
    refine ⟨⟨rfl,by rw [← hI];exact hi,?_⟩,o1.wm⟩
    rw [hB,← hI]
   ·have aD:¬ (i:Int)<els.length:=by omega
    simp only [aD,decide_false,zM,zU,zw,zx,show (false==true)=false from rfl,cond_false,zA,zK,zJ,zQX,zX,true_and]
    have hB:bsB ls (g,lt)=false:=by
     unfold bsB
     rw [← hI]
     have:¬ i<ls.length:=by omega
     simp [this]
    refine ⟨⟨rfl,by rw [← hI];exact hi,?_⟩,o1.wm⟩
    rw [hB,← hI]
  have loop:∀ (m i j:Nat),i<=j->j<=els.length->j-i<=m->zSU ls (g,lt) m i j=bsI ls (g,lt)->zns true (KR E [.tmp 6,.tmp 7] (fun x l=>(zi x=true/\bsI ls (g,lt)<=els.length/\x=.tuple #[iI ((bsI ls (g,lt):Nat):Int),.bool (bsB ls (g,lt))])/\k.next<=l.wm)) (.slice ad els.length c) (.func (.func 168) #[] #[]) (.pointer (some ⟨k.next,0,none⟩)) (iI (els.length:Int)) (iI (i:Int)) (iI (j:Int)) k1:=by
   intro m
   induction m with
   | zero=>
    intro i j bP hj hm eP
    refine zL3 ?_
    simp only [zA,zZ,zAM]
    refine ⟨fun h=>by omega,fun _=>zL2 ?_⟩
    exact fin i (by omega) eP
   | succ m ih=>
    intro i j bP hj hm eP
    refine zL3 ?_
    simp only [zA,zZ,zAM]
    refine ⟨fun h=>zYj ?_,fun _=>zL2 ?_⟩
    ·have ab:i<j:=by omega
     rw [zAD _ (by unfold zC3;omega)]
     simp only [zA,mid3,mid4,mid5]
     rw [zlq (n:=els.length) (by omega) hj hn]
     generalize hq:(i+j) / 2=q
     have eX:i<=q:=by omega
     have dJ:q<j:=by omega
     refine zYi ?_
     have hqn:q<els.length:=by omega
     obtain ⟨b,o,c',vs,ty,es,ro,hv,hb,aD,bK,hz,ba⟩:=ha.load (List.getElem?_eq_getElem hqn)
     simp only [Value.slice.injEq] at hv
     obtain ⟨bk,_,eT⟩:=hv
     subst bk
     obtain ⟨g',v',lt',bz,be,bA⟩:=RLab.at hL q _ (List.getElem?_eq_getElem hqn)
     rw [bz] at hz
     have gb:k1.get b=some (.row vs ty es ro):=(o1.ext.get b aD).trans hb
     simp only [zA,zNS hqn,zV zEk gb bK,hz,ca,zQ,zNr be hr e1,zP,zZ,zAM]
     have eP:(if zEm ls (g,lt) q<0 then zSU ls (g,lt) m (q+1) j else zSU ls (g,lt) m i q)=bsI ls (g,lt):=by
      rw [← eP]
      simp only [zSU,ab,if_true,hq]
     have d6:zEm ls (g,lt) q=zCY g' lt' g lt:=by unfold zEm;rw [bA]
     rw [d6] at eP
     refine ⟨fun hc=>zYh ?_,fun hc=>zYg ?_⟩
     ·simp only [zA,zAD _ (zEA hqn (by omega))]
      have:=ih (q+1) j (by omega) hj (by omega) (by rw [if_pos hc] at eP;exact eP)
      simpa using this
     ·skip
      exact ih i q (by omega) (by omega) (by omega) (by rw [if_neg hc] at eP;exact eP)
    ·rename_i hnl
     have hnl':¬ i<j:=by omega
     exact fin i (by omega) (by simpa [zSU,hnl'] using eP)
  exact loop els.length 0 els.length (Nat.zero_le _) (Nat.le_refl _) (by omega) (by rw [hll];rfl)
 obtain ⟨w,⟨hi,rfl⟩,hc⟩:=this
 exact ⟨hi,hc⟩
abbrev LB:=Int×Value×List GT
def lc (x:LB):List Value:=[iI x.1,x.2.1]
def zCO (l:List LB):List Value:=l.flatMap lc
theorem zHe:∀ l:List LB,(zCO l).length=l.length*2
 | []=>rfl
 | x::l=>by simp only [zCO,List.flatMap_cons,List.length_append,List.length_cons];have:=zHe l;simp only [zCO] at this;rw [this];simp [lc];omega
theorem zIt:∀ (l:List LB) (i:Nat),(zCO l).take (i*2)=zCO (l.take i)
 | [],i=>by simp [zCO]
 | x::l,0=>by simp [zCO]
 | x::l,i+1=>by
  have:=zIt l i
  simp only [zCO,List.flatMap_cons,List.take_succ_cons] at this ⊢
  rw [← this]
  rw [show (i+1)*2=i*2+2 by omega]
  rfl
theorem zGF:∀ (l:List LB) (i:Nat),(zCO l).drop (i*2)=zCO (l.drop i)
 | [],i=>by simp [zCO]
 | x::l,0=>by simp [zCO]
 | x::l,i+1=>by
  have:=zGF l i
  simp only [zCO,List.flatMap_cons,List.drop_succ_cons] at this ⊢
  rw [← this]
  rw [show (i+1)*2=i*2+2 by omega]
  rfl
theorem zdo {l:List LB} {i:Nat} {x:LB} (h:l[i]?=some x):((zCO l).drop (i*2)).take 2=lc x:=by
 rw [zGF]
 have ab:=(List.getElem?_eq_some_iff.1 h).1
 rw [List.drop_eq_getElem_cons ab]
 have:l[i]=x:=by rw [List.getElem?_eq_getElem ab] at h;exact Option.some.inj h
 rw [this]
 rfl
theorem zQb {h0:AH} {l:List LB} (h:∀ x∈l,RT h0 x.2.1 x.2.2):(zCO l).all zq=true:=by
 rw [List.all_eq_true]
 intro v hv
 obtain ⟨x,hx,hv⟩:=List.mem_flatMap.1 hv
 simp only [lc,List.mem_cons,List.not_mem_nil,or_false] at hv
 rcases hv with rfl|rfl
 ·rfl
 ·exact zDi (h x hx)
theorem zIu {h0:AH}:∀ {l:List LB},(∀ x∈l,RT h0 x.2.1 x.2.2)->RLab h0 (l.map lc) (l.map fun x=>(x.1,x.2.2))
 | [],_=>.nil
 | x::l,h=>.cons (h x (by simp)) (zIu fun y hy=>h y (by simp [hy]))
theorem zUH (l:List LB) (i:Nat) (x:LB):zEl (i*2) (zCO l)++lc x++zF8 (i*2) (zCO l)=zCO (l.take i++x::l.drop i):=by
 rw [zAn,zAt,zIt,zGF]
 simp [zCO,List.flatMap_append,List.flatMap_cons]
def zAE (v:Value) (c:Nat):Prop:=∃ n cap,v=.slice (some ⟨c,0,none⟩) n cap
def con (x:LB):CL:=(x.1,x.2.2)
structure NM (h0 k:AH) (bn:Nat) (v:Value) (n:List CL):Prop where
 row:k.get bn=some (rO [v] 197)
 lt:bn<k.next
 lst:(v=.slice none 0 0/\n=[])\/∃ b l,v=.slice (some ⟨b,0,none⟩) n.length (UNK+2)/\k.get b=some (.row (zCO l) 36 2 false)/\b<k.next/\b≠bn/\l.map con=n/\∀ x∈l,RT h0 x.2.1 x.2.2
structure NS (h0 k:AH) (bn:Nat) (v:Value) (n:List CL) (k':AH) (v':Value) (n':List CL):Prop where
 nm:NM h0 k' bn v' n'
 ok:k'.ok
 next:k.next<=k'.next
 n:n'.length<=n.length+1
 get:∀ c,c<k.next->c≠bn->¬ zAE v c->k'.get c=k.get c
 blk:∀ c,zAE v' c->zAE v c\/k.next<=c
 wm:∀ m,m<=k.wm->m<=bn->(∀ c,zAE v c->m<=c)->m<=k.next->m<=k'.wm
theorem NM.arr {h0 k:AH} {bn:Nat} {v:Value} {n:List CL} (h:NM h0 k bn v n):∃ l:List LB,l.map con=n/\Arr k 2 v (l.map lc)/\(∀ x∈l,RT h0 x.2.1 x.2.2):=by
 rcases h.lst with ⟨rfl,rfl⟩|⟨b,l,rfl,hb,ab,ah,hl,hr⟩
 ·exact ⟨[],rfl,.nil _ _,by simp⟩
 ·refine ⟨l,hl,?_,hr⟩
  rw [← hl,List.length_map]
  have:=Arr.row (h:=k) (z:=2) (b:=b) (o:=0) (c:=UNK+2) (els:=l.map lc) hb ab (by simp [zHe]) (fun i e he=>by
   simp only [List.getElem?_map] at he
   cases hx:l[i]? with
   | none=>rw [hx] at he;cases he
   | some x=>
    rw [hx] at he
    simp only [Option.map_some,Option.some.injEq] at he
    subst he
    exact ⟨rfl,by rw [Nat.zero_add];exact zdo hx⟩)
  simpa using this
theorem zKE {P:Env} {f:FuncId} {fn:Func} {c:Code} {args:List Value} {h:AH} {outs:List (Value×AH)} (hf:P.tab.fn.get f=some fn) (hb:fn.body=some c) (hs:P.sum f args h=some outs):(zY P).call f args h=some outs:=by
 rw [zUa]
 unfold fnCall
 rw [hf]
 simp only [hb,hs]
theorem bs22 {g:Int} {v:Value} {h:AH}:zd E 22 1 (some [(0,.agg #[iI g,v])]) h=one (.slice (some ⟨h.next,0,none⟩) 1 1,h.new (rO [iI g,v] 36)):=by kernel_rfl
theorem zNo {h:AH} {b c:Nat} {l:List LB} {i:Nat} {x:LB} {h0:AH} (hb:h.get b=some (.row (zCO l) 36 2 false)) (hc:h.get c=some (rO (lc x) 36)) (ah:b≠c) (hi:i<=l.length) (hn:l.length<=100000) (hl:∀ x∈l,RT h0 x.2.1 x.2.2) (hx:zq x.2.1=true) :
  (zY E).call 191 [.slice (some ⟨b,0,none⟩) l.length (UNK+2),iI (i:Int),.slice (some ⟨c,0,none⟩) 1 1] h=some [(.slice (some ⟨h.next,0,none⟩) (l.length+1) (UNK+2),(h.upd b none).new (.row (zCO (l.take i++x::l.drop i)) 36 2 false))]:=by
 refine zKE zPf zMb ?_
 show zT7 [.slice (some ⟨b,0,none⟩) l.length (UNK+2),iI (.ofNat i),.slice (some ⟨c,0,none⟩) 1 1] h=_
 unfold zT7
 simp only [hb,hc]
 have h1:(Nat.beq (UNK+2) (UNK+2)&&Nat.ble i l.length&&Nat.beq (zBB (zCO l)) (l.length*2)&&Nat.beq (zBB (lc x)) 2&&!Nat.beq b c&&(zCO l).all zq&&(lc x).all zq&&Nat.ble l.length 100000)=true:=by
  rw [Nat.beq_refl,ble_true.2 hi,zAO,zHe,Nat.beq_refl,zBW ah,zQb hl,ble_true.2 hn]
  simp [lc,zBB,zq]
  exact hx
 rw [h1]
 simp only [cond_true,zUH]
theorem zqP {h:AH} {c:Nat} {us:List Value} (hc:h.get c=some (rO us 36)) (hl:us.length=2):zAH E .append [22,22] (some [.slice none 0 0,.slice (some ⟨c,0,none⟩) 1 1]) h=one (.slice (some ⟨h.next,0,none⟩) 1 (UNK+2),h.new (.row us 36 2 false)):=by
 have bz:zEL E 22=some 36:=zhm
 have dX:und E 22=some (.slice 36):=zKg
 match us,hl with
 | [x,y],_=>
  show v2 (zAz E [22,22] (.slice none 0 0) (.slice (some ⟨c,0,none⟩) 1 1) h)=_
  simp only [zAz,bz,dX,zEw,cond_false]
  have cU:∃ i,zCa E 36=some i/\i.size=2/\zFP i=true:=by
   cases ht:zCa E 36 with
   | none=>have:=zEk;unfold tAS at this;rw [ht] at this;cases this
   | some i=>
    refine ⟨i,rfl,?_,?_⟩
    ·have:=zEk;unfold tAS at this;rw [ht] at this;simp at this;exact this.2
    ·have:(match zCa E 36 with|some i=>zFP i|none=>false)=true:=by kernel_rfl
     rw [ht] at this;exact this
  obtain ⟨ti,e1,e2,e3⟩:=cU
  simp only [e1,zBx,zA9,hc,e2]
  simp [zEl,zF8,zBB,e3,zBw,zAx,v2,Nat.beq_refl]
  rfl
theorem zNp {h:AH} (aa:h.ok) {c:Nat} {us:List Value} (hc:h.get c=some (rO us 36)) (hl:us.length=2) :
  (zY E).call 191 [.slice none 0 0,iI 0,.slice (some ⟨c,0,none⟩) 1 1] h=some [(.slice (some ⟨h.next,0,none⟩) 1 (UNK+2),h.new (.row us 36 2 false))]:=by
 have aK:E.sum 191 [.slice none 0 0,iI 0,.slice (some ⟨c,0,none⟩) 1 1] h=none:=by kernel_rfl
 have key:znr true (KR E [.tmp 6] (fun x k=>x=.slice (some ⟨h.next,0,none⟩) 1 (UNK+2)/\k=h.fresh.new (.row us 36 2 false))) (.slice none 0 0) (iI 0) (.slice (some ⟨c,0,none⟩) 1 1) h.fresh:=by
  refine zYf ?_
  refine zYe ?_
  have hcut:zp E (zk [(10,.slice none 0 0),(11,iI 0)]) (zo ziF [1,0] 2)=some (.slice none 0 0):=by kernel_rfl
  simp only [zA,hcut]
  refine zYd ?_
  simp only [zA,zQI]
  refine zYc ?_
  simp only [zA,zAg]
  rw [zAM]
  refine ⟨fun h=>by omega,fun _=>zYb ?_⟩
  simp only [zA,zQH]
  refine zYa ?_
  simp only [zA,zAg,zAM]
  refine ⟨fun _=>zYZ ?_,fun h=>absurd rfl h⟩
  have aF:h.fresh.get c=some (rO us 36):=hc
  simp only [zA,zqP aF hl,zK,zAS,zX,true_and,zb]
 have:=zdz (P:=E) (v0:=.slice (some ⟨h.next,0,none⟩) 1 (UNK+2)) (h1:=h.fresh.new (.row us 36 2 false)) zPf zMb aK (by kernel_rfl) ((zkl (Rp:=fun x k=>x=.slice (some ⟨h.next,0,none⟩) 1 (UNK+2)/\k=h.fresh.new (.row us 36 2 false)) key).mono fun x hx=>Prod.ext hx.1 hx.2)
 rw [this]
 have hr:zBL h.fresh (.slice (some ⟨h.next,0,none⟩) 1 (UNK+2),h.fresh.new (.row us 36 2 false))=(.slice (some ⟨h.next,0,none⟩) 1 (UNK+2),h.fresh.new (.row us 36 2 false)):=by
  unfold zBL
  have:zi (.slice (some ⟨h.next,0,none⟩) 1 (UNK+2))=false:=rfl
  rw [this];simp
 rw [hr]
 have hb:=zNx aa
 unfold AH.back at hb
 show some [(_,(⟨(h.new (.row us 36 2 false)).t,h.next+1,cond (Nat.ble h.wm (h.next+UNK)) h.wm (h.next+UNK)⟩:AH))]=_
 have hw:cond (Nat.ble h.wm (h.next+UNK)) h.wm (h.next+UNK)=h.wm:=congrArg AH.wm hb
 rw [hw]
 rfl
theorem st22 {h:AH} {b:Nat} {v w:Value} (hb:h.get b=some (rO [v] 197)) (hw:zl w=[w]) (hl:zq w=true):zf E 22 h (sP b 0) (some w)=one (undef,h.upd b (some (rO [w] 197))):=by
 rw [z7 (P:=E) zpL hb hw rfl (by simp) (by simp [hl])];rfl
def zMe (cs:List CL) (c:CL):Int×List CL:=if c.1=-1 then (0,cs) else (((bsI cs c:Nat):Int)+1,if bsB cs c then cs else cs.take (bsI cs c)++c::cs.drop (bsI cs c))
theorem zUm {h0 k:AH} {bn:Nat} {n:List CL} {v:Value} {g:Int} {vt:Value} {lt:List GT} (hk:Ext h0 k) (dr:h0.next<=bn) (bh:∀ c,zAE v c->h0.next<=c) (hm:NM h0 k bn v n) (hn:n.length<=100000) (hr:RT h0 vt lt) :
  Ev true ((zY E).call 143 [.pointer (some ⟨bn,0,none⟩),.agg #[iI g,vt]] k) fun x=>∃ r v' n',x.1=iI r/\(r,n')=zMe n (g,lt)/\(if g=-1 then r=0 else 1<=r/\r<=n.length+1)/\NS h0 k bn v n x.2 v' n':=by
 have same:NS h0 k bn v n k v n:=⟨hm,hk.ok,Nat.le_refl _,by omega,fun _ _ _ _=>rfl,fun c h=>.inl h,fun m h1 _ _ _=>h1⟩
 obtain ⟨l,hl,av,be⟩:=hm.arr
 have o1:=(Own.fresh k).new (rO [iI g,vt] 36)
 have t1:=zI k.fresh (rO [iI g,vt] 36)
 have n1:(k.fresh.new (rO [iI g,vt] 36)).next=k.next+1:=rfl
 have w1:(k.fresh.new (rO [iI g,vt] 36)).wm=k.next+UNK:=rfl
 simp only [zb] at t1
 have hq:∃ k1,k1=k.fresh.new (rO [iI g,vt] 36):=⟨_,rfl⟩
 obtain ⟨k1,dM⟩:=hq
 rw [← dM] at o1 t1 n1 w1
 have e1:=hk.trans o1.ext
 have l0:=zF (P:=E) zAb (o:=0) t1
 have ca:=zV (P:=E) zEk (o:=0) t1 (by simp)
 simp only [lnth,List.drop_zero,List.take] at l0 ca
 have start:∀ {K:KF},zoF true K (.pointer (some ⟨bn,0,none⟩)) (.pointer (some ⟨k.next,0,none⟩)) k1->ziD true K (.pointer (some ⟨bn,0,none⟩)) (.agg #[iI g,vt]) k.fresh:=by
  intro K h
  refine zac ?_
  simp only [zg,zK,zT,zA,zb]
  rw [← dM]
  exact h
 by_cases hg:g=-1
 ·have:(zY E).call 143 [.pointer (some ⟨bn,0,none⟩),.agg #[iI g,vt]] k=some [(iI 0,k)]:=by
   refine zJU hk.ok rfl (start (zMK ?_))
   simp only [zBg,Nat.add_zero,l0,zA,zAg,zAM]
   refine ⟨fun _=>zab ?_,fun h=>absurd hg h⟩
   simp [zA,zAS,zX,o1.wm]
  rw [this,zP]
  exact ⟨0,v,n,rfl,by simp [zMe,hg],by rw [if_pos hg],same⟩
 ·have gn:k1.get bn=some (rO [v] 197):=(o1.ext.get bn hm.lt).trans hm.row
  have ln:=zF (P:=E) zG7 (o:=0) gn
  simp only [lnth] at ln
  have jm:=av.ext o1.ext
  have hll:l.length=n.length:=by rw [← hl,List.length_map]
  obtain ⟨hi,aJ⟩:=zjs (k:=k1) (g:=g) jm (zIu be) (by simp;omega) hr e1
  have hcon:(l.map fun x=>(x.1,x.2.2))=n:=hl
  rw [hcon] at hi aJ
  rw [List.length_map,hll] at hi
  have bY:zMe n (g,lt)=(((bsI n (g,lt):Nat):Int)+1,if bsB n (g,lt) then n else n.take (bsI n (g,lt))++(g,lt)::n.drop (bsI n (g,lt))):=by simp [zMe,hg]
  generalize bsI n (g,lt)=i at hi aJ bY
  generalize bsB n (g,lt)=b at aJ bY
  have front:∀ {K:KF},zoE true K (.pointer (some ⟨bn,0,none⟩)) (.pointer (some ⟨k.next,0,none⟩)) (iI (i:Int)) (.bool b) k1->ziD true K (.pointer (some ⟨bn,0,none⟩)) (.agg #[iI g,vt]) k.fresh:=by
   intro K h
   refine start (zMK ?_)
   simp only [zBg,Nat.add_zero,l0,zA,zAg,zAM]
   refine ⟨fun h=>absurd h hg,fun _=>zaa ?_⟩
   simp only [zA,zA1,zOv,Nat.add_zero,ln,ca,zQ,aJ,zP,ze,lnth]
   exact h
  have fin:∀ {K:KF} {k2:AH},K .ret [iI ((i:Int)+1)] k2->zoD true K (iI (i:Int)) k2:=by
   intro K k2 h
   refine zaY ?_
   simp only [zA,zAD _ (show zC3 ((i:Int)+1) by unfold zC3;omega)]
   exact h
  cases b with
  | true=>
   have:(zY E).call 143 [.pointer (some ⟨bn,0,none⟩),.agg #[iI g,vt]] k=some [(iI ((i:Int)+1),k)]:=by
    refine zJU hk.ok rfl (front (zMJ ?_))
    simp only [zA,z6,Bool.not_true,zj]
    refine fin ?_
    simp [zAS,zX,o1.wm]
   rw [this,zP]
   exact ⟨_,v,n,rfl,by rw [bY];rfl,by rw [if_neg hg];omega,same⟩
  | false=>
   have hxl:=zDi hr
   have t2:=zI k1 (rO [iI g,vt] 36)
   have ins:∃ v' k3,(zY E).call 191 [v,iI (i:Int),.slice (some ⟨k1.next,0,none⟩) 1 1] (k1.new (rO [iI g,vt] 36))=some [(v',k3)]/\zl v'=[v']/\zq v'=true ∧
     k3.get bn=some (rO [v] 197)/\NS h0 k bn v n (k3.upd bn (some (rO [v'] 197))) v' (n.take i++(g,lt)::n.drop i)/\k3.next=k.next+3:=by
    have dz:=hm.lt
    rcases hm.lst with ⟨rfl,rfl⟩|⟨bl,l',rfl,aB,ab,ah,cK,bE⟩
    ·have fg:i=0:=by simpa using hi
     subst fg
     have:=zNp (h:=k1.new (rO [iI g,vt] 36)) (zCW o1.ext.ok _) t2 rfl
     refine ⟨_,_,this,rfl,rfl,?_,?_,by simp [n1]⟩
     ·rw [zL (by simp;omega),zL (by omega)];exact gn
     ·refine ⟨⟨zO _ _ _,by simp;omega,.inr ⟨k1.next+1,[(g,vt,lt)],rfl,?_,by simp,by omega,rfl,by simpa using hr⟩⟩,zD2 (zCW (zCW o1.ext.ok _) _) _ _,by simp;omega,by simp,?_,?_,?_⟩
      ·rw [zW (by omega)];exact zI (k1.new _) _
      ·intro c hc hcb _
       rw [zW hcb,zL (by simp;omega),zL (by omega)];exact o1.ext.get c hc
      ·rintro c ⟨m,cap,bT⟩
       simp only [Value.slice.injEq,Option.some.injEq,Addr.mk.injEq] at bT
       exact .inr (by have:=bT.1.1;simp at this;omega)
      ·intro m h1 h2 h3 h4
       exact zAG (by simp only [zDK];omega) h2
    ·have hbl1:k1.get bl=some (.row (zCO l') 36 2 false):=(o1.ext.get bl ab).trans aB
     have aW:(k1.new (rO [iI g,vt] 36)).get bl=some (.row (zCO l') 36 2 false):=by rw [zL (by omega)];exact hbl1
     have fe:l'.length=n.length:=by rw [← cK,List.length_map]
     have:=zNo (h0:=h0) (x:=(g,vt,lt)) (i:=i) aW t2 (by omega) (by omega) (by omega) bE hxl
     have hins:(l'.take i++(g,vt,lt)::l'.drop i).map con=n.take i++(g,lt)::n.drop i:=by
      rw [← cK];simp [con,List.map_take,List.map_drop]
     have hln:(n.take i++(g,lt)::n.drop i).length=n.length+1:=by simp;omega
     rw [fe,← hln] at this
     refine ⟨_,_,this,rfl,rfl,?_,?_,by simp [n1]⟩
     ·rw [zL (by simp;omega),zW (fun h=>ah h.symm),zL (by omega)];exact gn
     ·refine ⟨⟨zO _ _ _,by simp;omega,.inr ⟨k1.next+1,l'.take i++(g,vt,lt)::l'.drop i,rfl,?_,by simp,by omega,hins,?_⟩⟩,zD2 (zCW (zD2 (zCW o1.ext.ok _) _ _) _) _ _,by simp;omega,by omega,?_,?_,?_⟩
      ·rw [zW (by omega)];exact zI ((k1.new _).upd _ _) _
      ·intro x hx
       rcases List.mem_append.1 hx with hx|hx
       ·exact bE x (List.mem_of_mem_take hx)
       ·rcases List.mem_cons.1 hx with rfl|hx
        ·exact hr
        ·exact bE x (List.mem_of_mem_drop hx)
      ·intro c hc hcb il
       have hcbl:c≠bl:=fun h=>il ⟨_,_,by rw [h]⟩
       rw [zW hcb,zL (by simp;omega),zW hcbl,zL (by omega)];exact o1.ext.get c hc
      ·rintro c ⟨m,cap,bT⟩
       simp only [Value.slice.injEq,Option.some.injEq,Addr.mk.injEq] at bT
       exact .inr (by have:=bT.1.1;simp at this;omega)
      ·intro m h1 h2 h3 h4
       refine zAG ?_ h2
       rw [zDK]
       exact zAG (by rw [zDK];omega) (h3 bl ⟨_,_,rfl⟩)
   obtain ⟨v',k3,hc,il,hlv,g3,hns,hn3⟩:=ins
   refine zct (Rp:=fun x k'=>∃ r v' n',x=iI r/\(r,n')=zMe n (g,lt)/\(if g=-1 then r=0 else 1<=r/\r<=n.length+1)/\NS h0 k bn v n k' v' n') (front (zMJ ?_))
   simp only [zA,z6,Bool.not_false,zz]
   refine zaZ ?_
   have gn2:(k1.new (rO [iI g,vt] 36)).get bn=some (rO [v] 197):=by rw [zL (by have:=hm.lt;omega)];exact gn
   have ln2:=zF (P:=E) zG7 (o:=0) gn2
   simp only [lnth] at ln2
   have hvv:veq 100 v v=true:=by
    rcases hm.lst with ⟨rfl,_⟩|⟨_,_,rfl,_⟩ <;> exact zDM _ _ _ _
   simp only [zA,zA1,zOv,Nat.add_zero,ln,ca,bs22,zK,ln2,hvv,true_and,zQ,hc,zP,st22 g3 il hlv]
   refine fin ?_
   simp only [zAS,zX,true_and]
   have hw:(k3.upd bn (some (rO [v'] 197))).wm<=bn:=(zDz _ _ _).2
   refine ⟨.inr (by have:=hm.lt;omega),(i:Int)+1,v',n.take i++(g,lt)::n.drop i,rfl,by rw [bY];rfl,by rw [if_neg hg];omega,?_⟩
   obtain ⟨a1,a2,a3,a4,a5,a6,a7⟩:=hns
   refine ⟨⟨a1.row,a1.lt,a1.lst⟩,?_,a3,a4,a5,a6,?_⟩
   ·show cond (Nat.ble k.wm _) k.wm _<=_+UNK
    unfold AH.ok at a2
    cases bT:Nat.ble k.wm (k3.upd bn (some (rO [v'] 197))).wm with
    | true=>rw [ble_true] at bT;simp only [cond_true];omega
    | false=>exact a2
   ·intro m h1 h2 h3 h4
    show m<=cond (Nat.ble k.wm _) k.wm _
    cases bT:Nat.ble k.wm (k3.upd bn (some (rO [v'] 197))).wm with
    | true=>exact h1
    | false=>exact a7 m h1 h2 h3 h4
structure Fx (P:Nat->Prop) (k k':AH):Prop where
 ok:k'.ok
 next:k.next<=k'.next
 get:∀ c,c<k.next->¬ P c->k'.get c=k.get c
 wm:∀ m,m<=k.wm->(∀ c,P c->m<=c)->m<=k.next->m<=k'.wm
theorem Fx.refl {P:Nat->Prop} {k:AH} (h:k.ok):Fx P k k:=⟨h,Nat.le_refl _,fun _ _ _=>rfl,fun _ h _ _=>h⟩
theorem Fx.trans {P P':Nat->Prop} {k l m:AH} (e:Fx P k l) (f:Fx P' l m) (hP:∀ c,P' c->P c\/k.next<=c):Fx P k m:=
 ⟨f.ok,Nat.le_trans e.next f.next,fun c hc hn=>(f.get c (Nat.lt_of_lt_of_le hc e.next) fun h=>(hP c h).elim hn fun h=>by omega).trans (e.get c hc hn),
  fun n h1 h2 h3=>f.wm n (e.wm n h1 h2 h3) (fun c hc=>(hP c hc).elim (h2 c) fun h=>Nat.le_trans h3 h) (Nat.le_trans h3 e.next)⟩
theorem Fx.new {P:Nat->Prop} {k l:AH} (e:Fx P k l) (o:AObj):Fx P k (l.new o):=
 ⟨zCW e.ok o,Nat.le_trans e.next (by simp),fun c hc hn=>by
  have:=e.next
  rw [zL (by omega)];exact e.get c hc hn,fun n h1 h2 h3=>e.wm n h1 h2 h3⟩
theorem Fx.upd {P:Nat->Prop} {k l:AH} (e:Fx P k l) {b:Nat} (hb:P b\/k.next<=b) (o:Option AObj):Fx P k (l.upd b o):=
 ⟨zD2 e.ok b o,e.next,fun c hc hn=>by
  rw [zW (fun h=>by subst h;exact hb.elim hn fun h=>by omega)];exact e.get c hc hn,
  fun n h1 h2 h3=>zAG (e.wm n h1 h2 h3) (hb.elim (h2 b) fun h=>Nat.le_trans h3 h)⟩
theorem Fx.mono {P P':Nat->Prop} {k l:AH} (e:Fx P k l) (h:∀ c,P c->P' c\/k.next<=c):Fx P' k l:=
 ⟨e.ok,e.next,fun c hc hn=>e.get c hc fun hp=>(h c hp).elim hn fun h=>by omega,fun n h1 h2 h3=>e.wm n h1 (fun c hc=>(h c hc).elim (h2 c) fun h=>Nat.le_trans h3 h) h3⟩
theorem Fx.ext {P:Nat->Prop} {h k l:AH} (e:Ext h k) (f:Fx P k l) (hP:∀ c,P c->h.next<=c):Ext h l:=
 ⟨f.ok,Nat.le_trans e.next f.next,fun c hc=>(f.get c (Nat.lt_of_lt_of_le hc e.next) fun hp=>by have:=hP c hp;omega).trans (e.get c hc)⟩
theorem Fx.own {P:Nat->Prop} {h k l:AH} (e:Own h k) (f:Fx P k l) (hP:∀ c,P c->h.next<=c):Own h l:=
 ⟨f.ext e.ext hP,f.wm _ e.wm hP e.ext.next⟩
theorem NS.fx {h0 k k':AH} {bn:Nat} {n n':List CL} {v v':Value} (s:NS h0 k bn v n k' v' n'):Fx (fun c=>c=bn\/zAE v c) k k':=
 ⟨s.ok,s.next,fun c hc hn=>s.get c hc (fun h=>hn (.inl h)) fun h=>hn (.inr h),fun m h1 h2 h3=>s.wm m h1 (h2 bn (.inl rfl)) (fun c hc=>h2 c (.inr hc)) h3⟩
theorem zKN {h0 k:AH} {bn:Nat} {n:List CL} {v:Value} (h:NM h0 k bn v n) {c:Nat} (hc:zAE v c):c<k.next:=by
 obtain ⟨m,cap,rfl⟩:=hc
 rcases h.lst with ⟨h,_⟩|⟨b,l,h,_,ab,_⟩
 ·cases h
 ·simp only [Value.slice.injEq,Option.some.injEq,Addr.mk.injEq] at h
  rw [h.1.1];exact ab
theorem NM.fx {P:Nat->Prop} {h0 k k':AH} {bn:Nat} {n:List CL} {v:Value} (h:NM h0 k bn v n) (f:Fx P k k') (h1:¬ P bn) (h2:∀ c,zAE v c->¬ P c):NM h0 k' bn v n:=by
 refine ⟨(f.get bn h.lt h1).trans h.row,Nat.lt_of_lt_of_le h.lt f.next,?_⟩
 rcases h.lst with ⟨a,b⟩|⟨b,l,a1,a2,a3,a4,a5,a6⟩
 ·exact .inl ⟨a,b⟩
 ·refine .inr ⟨b,l,a1,(f.get b a3 (h2 b ⟨_,_,a1⟩)).trans a2,Nat.lt_of_lt_of_le a3 f.next,a4,a5,a6⟩
abbrev NoB:Nat->Prop:=fun _=>False
theorem zkG {k:AH} {g:Int} {v:Value} (hl:zq v=true) :
  zf E 36 (k.new (rO [iI 0,.slice none 0 0] 36)) (sP k.next 0) (some (.agg ⟨[iI g,v]⟩))=one (undef,(k.new (rO [iI 0,.slice none 0 0] 36)).upd k.next (some (rO [iI g,v] 36))):=by
 rw [z7 (P:=E) ziR (x:=.agg ⟨[iI g,v]⟩) (cs:=[iI g,v]) (zI k _) rfl rfl (by simp) (by simp [zq];exact hl)]
 rfl
theorem zkH {k:AH} {e:List Value} (hl:e.all zq=true) (h3:e.length=3) :
  zf E 25 (k.new (rO [iI 0,.slice none 0 0,.slice none 0 0] 25)) (sP k.next 0) (some (.agg ⟨e⟩))=one (undef,(k.new (rO [iI 0,.slice none 0 0,.slice none 0 0] 25)).upd k.next (some (rO e 25))):=by
 rw [z7 (P:=E) zlI (x:=.agg ⟨e⟩) (cs:=e) (zI k _) rfl h3 (by simp) hl,zll _ h3]
structure Args (k:AH) (v:Value) (els:List (List Value)) (Ls:List GL):Prop where
 arr:Arr k 3 v els
 len:els.length=Ls.length
 few:els.length<=10
 rl:∀ (i:Nat) (e:List Value) (L:GL),els[i]?=some e->Ls[i]?=some L->RL k (.agg ⟨e⟩) L
 ok:∀ (i:Nat) (L:GL),Ls[i]?=some L->zy L=false
theorem Args.at {k:AH} {v:Value} {els:List (List Value)} {Ls:List GL} (a:Args k v els Ls) {i:Nat} (hi:i<els.length) :
  ∃ L b o c vs ty es ro vl ve elsL,Ls[i]?=some L/\v=.slice (some ⟨b,o,none⟩) els.length c/\k.get b=some (.row vs ty es ro)/\b<k.next/\o+i*3+3<=vs.length/\(vs.drop (o+i*3)).take 3=[iI L.n,vl,ve] ∧
   zq vl=true/\zq ve=true/\Arr k 2 vl elsL/\RLab k elsL L.labs/\Arr k 3 ve (L.eds.map zm)/\zy L=false:=by
 have cx:i<Ls.length:=by rw [← a.len];exact hi
 obtain ⟨b,o,c,vs,ty,es,ro,hv,hb,ab,aU,hz,ba⟩:=a.arr.load (List.getElem?_eq_getElem hi)
 have gW:=a.rl i _ _ (List.getElem?_eq_getElem hi) (List.getElem?_eq_getElem cx)
 obtain ⟨vl,ve,elsL,q1,q2,q3,q4⟩:=gW.ex
 have he:els[i]=[iI Ls[i].n,vl,ve]:=by
  simp only [Value.agg.injEq] at q1
  have:=congrArg Array.toList q1
  simpa using this
 obtain ⟨x1,x2,hx⟩:=q2.slice
 obtain ⟨y1,y2,hy⟩:=q4.slice
 exact ⟨Ls[i],b,o,c,vs,ty,es,ro,vl,ve,elsL,List.getElem?_eq_getElem cx,hv,hb,ab,aU,by rw [hz,he],by rw [hx];rfl,by rw [hy];rfl,q2,q3,q4,a.ok i _ (List.getElem?_eq_getElem cx)⟩
theorem zBX {L:GL} (h:zy L=false):1<=L.n/\L.n<=20000/\L.labs.length<=4000/\L.eds.length<=100000:=by
 simp only [zy,zBC,Bool.or_eq_false_iff,decide_eq_false_iff_not] at h
 omega
theorem zHq {L:GL} (h:zy L=false) {i:Nat} {e:Int×Int×Int} (he:L.eds[i]?=some e):(0<=e.1/\e.1<L.n)/\(0<=e.2.2/\e.2.2<L.n)/\(0<=e.2.1/\e.2.1<L.labs.length):=by
 simp only [zy,Bool.or_eq_false_iff] at h
 have ab:=(List.getElem?_eq_some_iff.1 he).1
 have:=zBO h.2 i (Nat.zero_le _) (by omega)
 simp only [zBS,he,Bool.or_eq_false_iff,Bool.not_eq_false',Bool.and_eq_true,decide_eq_true_eq] at this
 exact ⟨this.1.1.1,this.1.1.2,this.1.2⟩
def zBi (cs:List CL):List CL->List Int×List CL
 | []=>([],cs)
 | c::l=>((zMe cs c).1::(zBi (zMe cs c).2 l).1,(zBi (zMe cs c).2 l).2)
def zHM:List GL->List CL->List CL
 | [],cs=>cs
 | L::Ls,cs=>zHM Ls (zBi cs L.labs).2
theorem zHo {α:Type} {l:List α} {i:Nat} {x:α} (h:l[i]?=some x):l.drop i=x::l.drop (i+1):=by
 obtain ⟨ab,e⟩:=List.getElem?_eq_some_iff.1 h
 rw [List.drop_eq_getElem_cons ab,e]
theorem zjF {k:AH} {v0:Value} {els:List (List Value)} {Ls:List GL} (a:Args k v0 els Ls) {bn:Nat} (gP:k.next<=bn) {K:KF} {ad:Option Addr} {cp:Nat} (eU:v0=.slice ad els.length cp) {fin:List CL}
  (hK:∀ kk v n,Own k kk->NM k kk bn v n->(∀ c,zAE v c->k.next<=c)->n.length<=4000*els.length->n=fin->znI true K v0 (.pointer (some ⟨bn,0,none⟩)) kk) :
  ∀ (m i:Nat),i+m=els.length->∀ kk v n,Own k kk->NM k kk bn v n->(∀ c,zAE v c->k.next<=c)->n.length<=4000*i->zHM (Ls.drop i) n=fin->
   zqT true K v0 (.pointer (some ⟨bn,0,none⟩)) v0 (iI (els.length:Int)) (iI (i:Int)) kk:=by
 intro m
 induction m with
 | zero=>
  intro i hi kk v n ho hm hb hn bq
  refine zPM ?_
  simp only [zZ,zA,zAM]
  have:i=els.length:=by omega
  subst this
  exact ⟨fun h=>by omega,fun _=>hK kk v n ho hm hb hn (by rw [List.drop_eq_nil_of_le (by have:=a.len;omega)] at bq;exact bq)⟩
 | succ m ih=>
  intro i hi kk v n ho hm hb hn bq
  have ai:i<els.length:=by omega
  refine zPM ?_
  simp only [zZ,zA,zAM]
  refine ⟨fun _=>zeM ?_,fun h=>by omega⟩
  obtain ⟨L,b,o,c,vs,ty,es,ro,vl,ve,elsL,q0,q1,q2,q3,q4,q5,q6,q7,q8,q9,q10,q11⟩:=a.at ai
  have gb:kk.get b=some (.row vs ty es ro):=(ho.ext.get b q3).trans q2
  rw [eU] at q1
  simp only [Value.slice.injEq] at q1
  obtain ⟨q11',_,_⟩:=q1
  subst q11'
  have eJ:=zkH (k:=kk) (e:=[iI L.n,vl,ve]) (by simp [zq];exact ⟨q6,q7⟩) rfl
  simp only [eU,zNQ ai,zA,zV zDe gb q4,q5,zoy,zg,zK,zT,eJ]
  refine zeL ?_
  have dz:=ho.ext.next
  have f1:Fx NoB kk ((kk.new (rO [iI 0,.slice none 0 0,.slice none 0 0] 25)).upd kk.next (some (rO [iI L.n,vl,ve] 25))):=((Fx.refl ho.ext.ok).new _).upd (.inr (Nat.le_refl _)) _
  have t1:((kk.new (rO [iI 0,.slice none 0 0,.slice none 0 0] 25)).upd kk.next (some (rO [iI L.n,vl,ve] 25))).get kk.next=some (rO [iI L.n,vl,ve] 25):=zO _ _ _
  generalize ((kk.new (rO [iI 0,.slice none 0 0,.slice none 0 0] 25)).upd kk.next (some (rO [iI L.n,vl,ve] 25)))=k1 at f1 t1
  have l1:=zF (P:=E) zG7 (o:=1) t1
  simp only [lnth] at l1
  obtain ⟨al,cl,bc⟩:=q8.slice
  rw [RLab.length q9] at bc
  subst bc
  simp only [zBR,Nat.zero_add,l1,zA,zTc]
  obtain ⟨s1,s2,s3,s4⟩:=zBX q11
  have inner:∀ (m2 j:Nat),j+m2=L.labs.length->∀ kk v n,Own k kk->NM k kk bn v n->(∀ c,zAE v c->k.next<=c)->n.length<=4000*i+j->zHM (Ls.drop (i+1)) (zBi n (L.labs.drop j)).2=fin->
    zqS true K (.slice (some ⟨b,o,none⟩) els.length cp) (.pointer (some ⟨bn,0,none⟩)) (.slice (some ⟨b,o,none⟩) els.length cp) (iI (els.length:Int)) (iI (i:Int)) (.slice al L.labs.length cl) (iI (L.labs.length:Int)) (iI (j:Int)) kk:=by
   intro m2
   induction m2 with
   | zero=>
    intro j hj kk v n ho hm hb hn hfin2
    refine zPL ?_
    simp only [zZ,zA,zAM]
    refine ⟨fun h=>by omega,fun _=>zVx ?_⟩
    simp only [zAD _ (zEA ai (by have:=a.few;omega)),zA]
    have:=ih (i+1) (by omega) kk v n ho hm hb (by omega) (by rw [List.drop_eq_nil_of_le (show L.labs.length<=j by omega)] at hfin2;exact hfin2)
    rw [eU] at this
    simpa using this
   | succ m2 ih2=>
    intro j hj kk v n ho hm hb hn hfin2
    have bG:j<L.labs.length:=by omega
    have de:j<elsL.length:=by rw [RLab.length q9];exact bG
    refine zPL ?_
    simp only [zZ,zA,zAM]
    refine ⟨fun _=>zeK ?_,fun h=>by omega⟩
    obtain ⟨g,vt,lt,bz,be,bA⟩:=RLab.at q9 j _ (List.getElem?_eq_getElem de)
    obtain ⟨b',o',c',vs',ty',es',ro',aC,ao,aD,bO,bI,bH⟩:=q8.load (List.getElem?_eq_getElem de)
    rw [bz] at bI
    simp only [Value.slice.injEq] at aC
    obtain ⟨bk,_,_⟩:=aC
    subst bk
    have gb':kk.get b'=some (.row vs' ty' es' ro'):=(ho.ext.get b' aD).trans ao
    simp only [zNS bG,zA,zV zEk gb' bO,bI,zox,zg,zK,zT]
    have hbx:=zkG (k:=kk) (g:=g) (zDi be)
    simp only [hbx,zK]
    refine zeJ ?_
    have dz:=ho.ext.next
    have f2:Fx NoB kk ((kk.new (rO [iI 0,.slice none 0 0] 36)).upd kk.next (some (rO [iI g,vt] 36))):=((Fx.refl ho.ext.ok).new _).upd (.inr (Nat.le_refl _)) _
    have t2:((kk.new (rO [iI 0,.slice none 0 0] 36)).upd kk.next (some (rO [iI g,vt] 36))).get kk.next=some (rO [iI g,vt] 36):=zO _ _ _
    generalize ((kk.new (rO [iI 0,.slice none 0 0] 36)).upd kk.next (some (rO [iI g,vt] 36)))=k2 at f2 t2
    have ca:=zV (P:=E) zEk (o:=0) t2 (by simp)
    simp only [List.drop_zero,List.take] at ca
    have o2:=f2.own ho (fun _ h=>h.elim)
    have iS:=hm.fx f2 (fun h=>h) (fun _ _ h=>h)
    simp only [ca,zA,zQ]
    refine (zUm (h0:=k) (k:=k2) (g:=g) o2.ext gP hb iS (by have:=a.few;omega) be).mono fun x hx=>?_
    obtain ⟨r,v',n',_,bY,_,hs⟩:=hx
    refine zeI ?_
    simp only [zAD _ (zEA bG (by omega)),zA]
    have:=ih2 (j+1) (by omega) x.2 v' n' (hs.fx.own o2 (fun c hc=>hc.elim (fun h=>by rw [h];exact gP) (hb c))) hs.nm (fun c hc=>(hs.blk c hc).elim (hb c) fun h=>by have:=o2.ext.next;omega) (by have:=hs.n;omega) (by rw [zHo bA] at hfin2;have h2:=congrArg Prod.snd bY;simp only at h2;rw [h2];exact hfin2)
    simpa using this
  exact inner L.labs.length 0 (by omega) k1 v n (f1.own ho (fun _ h=>h.elim)) (hm.fx f1 (fun h=>h) (fun _ _ h=>h)) hb (by omega) (by rw [zHo q0] at bq;exact bq)
structure Elt (t e:TypeId) (z:Nat):Prop where
 el:zEL E t=some e
 un:und E t=some (.slice e)
 ti:∃ i,zCa E e=some i/\i.size=z/\zFP i=true
theorem zLV {t e:TypeId} {z:Nat} {b:Bool} (h1:zEL E t=some e) (h2:und E t=some (.slice e)) (h3:tAS E e=some (b,z)) (h4:(match zCa E e with|some i=>zFP i|none=>false)=true):Elt t e z:=by
 refine ⟨h1,h2,?_⟩
 cases ht:zCa E e with
 | none=>unfold tAS at h3;rw [ht] at h3;cases h3
 | some i=>
  refine ⟨i,rfl,?_,?_⟩
  ·unfold tAS at h3;rw [ht] at h3;simp at h3;exact h3.2
  ·rw [ht] at h4;exact h4
theorem zhn:Elt 132 134 2:=zLV zjQ zSi zIO (by kernel_rfl)
theorem zho:Elt 126 128 1:=zLV zjS zSj zDN (by kernel_rfl)
theorem append_nil {t e z:Nat} (H:Elt t e z) {h:AH} {c:Nat} {us:List Value} {ty es:Nat} {ro:Bool} (hc:h.get c=some (.row us ty es ro)) (hl:us.length=z) :
  zAH E .append [t,t] (some [.slice none 0 0,.slice (some ⟨c,0,none⟩) 1 1]) h=one (.slice (some ⟨h.next,0,none⟩) 1 (UNK+z),h.new (.row us e z false)):=by
 obtain ⟨ti,e1,e2,e3⟩:=H.ti
 show v2 (zAz E [t,t] (.slice none 0 0) (.slice (some ⟨c,0,none⟩) 1 1) h)=_
 simp only [zAz,H.el,H.un,zEw,cond_false,e1,zBx,zA9,hc,e2,Nat.one_mul,zAn,zAt,zAO,List.drop_zero]
 rw [List.take_of_length_le (by omega),hl,Nat.beq_refl]
 simp only [if_true,e3,cond_true,zBw,show Nat.beq 1 0=false from rfl,cond_false,zAx,v2]
 rfl
theorem zDX {t e z:Nat} (H:Elt t e z) (hz:0<z) {h:AH} {b c n:Nat} {vs us:List Value} {ty es:Nat} {ro:Bool} (hb:h.get b=some (.row vs e z false)) (bV:vs.length=n*z) (hn:n+1<=1000000)
  (hc:h.get c=some (.row us ty es ro)) (hl:us.length=z) (iT:us.all zq=true) :
  zAH E .append [t,t] (some [.slice (some ⟨b,0,none⟩) n (UNK+z),.slice (some ⟨c,0,none⟩) 1 1]) h=one (.slice (some ⟨h.next,0,none⟩) (n+1) (UNK+z),(h.upd b none).new (.row (vs++us) e z false)):=by
 obtain ⟨ti,e1,e2,e3⟩:=H.ti
 show v2 (zAz E [t,t] (.slice (some ⟨b,0,none⟩) n (UNK+z)) (.slice (some ⟨c,0,none⟩) 1 1) h)=_
 simp only [zAz,H.el,H.un,zEw,cond_false,e1,zBx,zA9,hc,e2,Nat.one_mul,zAn,zAt,zAO,List.drop_zero]
 rw [List.take_of_length_le (by omega),hl,Nat.beq_refl]
 simp only [if_true,e3,cond_true,zBw,show Nat.beq 1 0=false from rfl,cond_false,hb]
 have h1:Nat.ble UNK (UNK+z)=true:=ble_true.2 (by omega)
 simp only [zCP,h1,Nat.beq_refl,Bool.and_self,Bool.not_false,cond_true,zDY,Nat.zero_add,zAO]
 have h2:Nat.ble ((n+1)*z) vs.length=false:=ble_false.2 (by rw [bV,Nat.add_mul];omega)
 have h3:Nat.beq (n*z) vs.length=true:=by rw [bV];exact Nat.beq_refl _
 simp only [h2,cond_false,h3,cond_true,zDZ,iT,zAn,zAt,List.drop_zero]
 rw [List.take_of_length_le (by omega)]
 simp only [zAx,ble_true.2 hn,cond_true,v2]
 rfl
theorem zOX (l:List Value) (j:Nat) (v:Value) (h:j<l.length):lput l j [v]=l.set j v:=by
 induction l generalizing j with
 | nil=>simp at h
 | cons a l ih=>
  cases j with
  | zero=>simp [lput]
  | succ j=>simp only [lput,List.set_cons_succ];rw [ih j (by simpa using h)]
def zit (labs:List (Int×List GT)) (nums:List Int) (j:Nat):Prop:=∀ g l,labs[j]?=some (g,l)->∃ r,nums[j]?=some r/\0<=r/\(g=-1->r=0)/\(g≠-1->1<=r)
abbrev ints (l:List Int):List Value:=l.map (Value.int .i64)
theorem zdh (l:List Int) (j:Nat) (r:Int):(ints l).set j (iI r)=ints (l.set j r):=by
 simp [ints,List.map_set]
theorem take_set {α:Type}:∀ {l:List α} {j:Nat} {r:α},j<l.length->(l.set j r).take (j+1)=l.take j++[r]
 | [],_,_,h=>by simp at h
 | a::l,0,r,_=>by simp
 | a::l,j+1,r,h=>by
  simp only [List.set_cons_succ,List.take_succ_cons,List.cons_append]
  rw [take_set (by simpa using h)]
theorem zjE {k:AH} {bn:Nat} (gP:k.next<=bn) {K:KF} {vl:Value} {labs:List (Int×List GT)} {elsL:List (List Value)} {al:Option Addr} {cl:Nat} (bc:vl=.slice al labs.length cl) (ha:Arr k 2 vl elsL) (hL:RLab k elsL labs)
  (hsmall:labs.length<=4000) {v8 v10 v11 v34 v35 v36:Value} {bm base:Nat} (aV:k.next<=bm) (hbase:base<=90000)
  {k0:AH} {w0:Value} (hk0:k.next<=k0.next) {N1:List Int} {cs1:List CL}
  (hK:∀ kk v n nums,Own k kk->NM k kk bn v n->(∀ c,zAE v c->k.next<=c)->n.length<=base+labs.length->n=cs1->nums=N1->Fx (fun c=>(c=bn\/zAE w0 c)\/c=bm) k0 kk->(∀ c,zAE v c->zAE w0 c\/k0.next<=c)->bm≠bn->¬ zAE v bm->
   kk.get bm=some (rO (ints nums) 3)->nums.length=labs.length->(∀ j,j<labs.length->zit labs nums j)->znF true K (.pointer (some ⟨bn,0,none⟩)) v8 v10 v11 (.slice (some ⟨bm,0,none⟩) labs.length labs.length) v34 v35 v36 kk) :
  ∀ (m j:Nat),j+m=labs.length->∀ kk v n nums,Own k kk->NM k kk bn v n->(∀ c,zAE v c->k.next<=c)->n.length<=base+j->(zBi n (labs.drop j)).2=cs1->nums.take j++(zBi n (labs.drop j)).1=N1->Fx (fun c=>(c=bn\/zAE w0 c)\/c=bm) k0 kk->(∀ c,zAE v c->zAE w0 c\/k0.next<=c)->bm≠bn->¬ zAE v bm->bm<kk.next->
   kk.get bm=some (rO (ints nums) 3)->nums.length=labs.length->(∀ i,i<j->zit labs nums i)->
   znG true K (.pointer (some ⟨bn,0,none⟩)) v8 v10 v11 (.slice (some ⟨bm,0,none⟩) labs.length labs.length) v34 v35 v36 vl (iI (labs.length:Int)) (iI (j:Int)) kk:=by
 intro m
 induction m with
 | zero=>
  intro j hj kk v n nums ho hm hb hn aR hN1 hf aB ah cw ab aG hlen aa
  refine zLh ?_
  simp only [zZ,zA,zAM]
  have:j=labs.length:=by omega
  subst this
  exact ⟨fun h=>by omega,fun _=>hK kk v n nums ho hm hb hn (by rw [List.drop_length] at aR;exact aR) (by rw [List.drop_length,List.take_of_length_le (by omega)] at hN1;simpa [zBi] using hN1) hf aB ah cw aG hlen aa⟩
 | succ m ih=>
  intro j hj kk v n nums ho hm hb hn aR hN1 hf aB ah cw ab aG hlen aa
  have bG:j<labs.length:=by omega
  have de:j<elsL.length:=by rw [RLab.length hL];exact bG
  refine zLh ?_
  simp only [zZ,zA,zAM]
  refine ⟨fun _=>zVq ?_,fun h=>by omega⟩
  obtain ⟨g,vt,lt,bz,be,bA⟩:=RLab.at hL j _ (List.getElem?_eq_getElem de)
  obtain ⟨b',o',c',vs',ty',es',ro',aC,ao,aD,bO,bI,bH⟩:=ha.load (List.getElem?_eq_getElem de)
  rw [bz] at bI
  rw [bc] at aC
  simp only [Value.slice.injEq] at aC
  obtain ⟨bk,_,_⟩:=aC
  subst bk
  have gb':kk.get b'=some (.row vs' ty' es' ro'):=(ho.ext.get b' aD).trans ao
  have hbx:=zkG (k:=kk) (g:=g) (zDi be)
  simp only [bc,zNS bG,zA,zV zEk gb' bO,bI,zox,zg,zK,zT,hbx]
  refine zVp ?_
  have dz:=ho.ext.next
  have f2:Fx NoB kk ((kk.new (rO [iI 0,.slice none 0 0] 36)).upd kk.next (some (rO [iI g,vt] 36))):=((Fx.refl ho.ext.ok).new _).upd (.inr (Nat.le_refl _)) _
  have t2:((kk.new (rO [iI 0,.slice none 0 0] 36)).upd kk.next (some (rO [iI g,vt] 36))).get kk.next=some (rO [iI g,vt] 36):=zO _ _ _
  generalize ((kk.new (rO [iI 0,.slice none 0 0] 36)).upd kk.next (some (rO [iI g,vt] 36)))=k2 at f2 t2
  have ca:=zV (P:=E) zEk (o:=0) t2 (by simp)
  simp only [List.drop_zero,List.take] at ca
  have o2:=f2.own ho (fun _ h=>h.elim)
  have iS:=hm.fx f2 (fun h=>h) (fun _ _ h=>h)
  simp only [zA,ca,zQ]
  refine (zUm (h0:=k) (k:=k2) (g:=g) o2.ext gP hb iS (by omega) be).mono fun x hx=>?_
  obtain ⟨r,v',n',hx1,bY,hr,hs⟩:=hx
  have hnu1:(zMe n (g,lt)).1=r:=(congrArg Prod.fst bY).symm
  have hnu2:(zMe n (g,lt)).2=n':=(congrArg Prod.snd bY).symm
  rw [zHo bA] at aR hN1
  simp only [zBi,hnu1,hnu2] at aR hN1
  rw [hx1]
  have o3:=hs.fx.own o2 (fun c hc=>hc.elim (fun h=>by rw [h];exact gP) (hb c))
  have iM:x.2.get bm=some (rO (ints nums) 3):=by
   rw [hs.get bm (Nat.lt_of_lt_of_le ab f2.next) ah cw,f2.get bm ab (fun h=>h)];exact aG
  have hlt3:bm<x.2.next:=Nat.lt_of_lt_of_le (Nat.lt_of_lt_of_le ab f2.next) hs.next
  have iW:j<nums.length:=by omega
  have ec:=z7 (P:=E) zhO (o:=0+j*1) iM (zC0 .i64 r) rfl (by simp [ints];omega) rfl
  rw [show 0+j*1=j by omega,zOX _ _ _ (by simp [ints];omega),zdh] at ec
  have hia:=zNR (b:=bm) (o:=0) (c:=labs.length) bG
  rw [show 0+j*1=j by omega] at hia
  simp only [hia,zA,ec,zK]
  refine zVo ?_
  have eZ:¬ zAE v' bm:=fun h=>(hs.blk bm h).elim cw fun h=>by have:=f2.next;omega
  have f4:Fx (fun c=>c=bm) x.2 (x.2.upd bm (some (.row (ints (nums.set j r)) 3 0 false))):=Fx.upd (P:=fun c=>c=bm) (Fx.refl hs.ok) (.inl rfl) _
  have iR:=hs.nm.fx f4 (fun h=>ah h.symm) (fun c hc h=>eZ (h ▸ hc))
  simp only [zAD _ (zEA bG (by omega)),zA]
  have hbl':∀ c,zAE v' c->zAE w0 c\/k0.next<=c:=fun c hc=>(hs.blk c hc).elim (aB c) fun h=>.inr (by have:=f2.next;have:=hf.next;omega)
  have hff:Fx (fun c=>(c=bn\/zAE w0 c)\/c=bm) k0 (x.2.upd bm (some (.row (ints (nums.set j r)) 3 0 false))):=by
   have e1:=hf.trans f2 (fun _ h=>h.elim)
   have e2:=e1.trans hs.fx (fun c hc=>hc.elim (fun h=>.inl (.inl (.inl h))) fun h=>(aB c h).elim (fun h=>.inl (.inl (.inr h))) .inr)
   exact e2.trans f4 (fun c h=>.inl (.inr h))
  have:=ih (j+1) (by omega) _ v' n' (nums.set j r) (f4.own o3 (fun c h=>by rw [h];exact aV)) iR
   (fun c hc=>(hs.blk c hc).elim (hb c) fun h=>by have:=o2.ext.next;omega) (by have:=hs.n;omega) aR (by rw [take_set iW,List.append_assoc];exact hN1) hff hbl' ah eZ (by simpa using hlt3) (zO _ _ _) (by simp [hlen]) (fun i hi g' l' dB=>by
    by_cases bP:i=j
    ·subst bP
     rw [bA] at dB
     simp only [Option.some.injEq,Prod.mk.injEq] at dB
     obtain ⟨rfl,rfl⟩:=dB
     refine ⟨r,by simp [iW],?_⟩
     by_cases hg:g=-1
     ·rw [if_pos hg] at hr;exact ⟨by omega,fun _=>hr,fun h=>absurd hg h⟩
     ·rw [if_neg hg] at hr;exact ⟨by omega,fun h=>absurd h hg,fun _=>hr.1⟩
    ·obtain ⟨r',a1,a2⟩:=aa i (by omega) g' l' dB
     exact ⟨r',by rw [List.getElem?_set_ne (by omega)];exact a1,a2⟩)
  rw [bc] at this
  simpa using this
abbrev zAF:=List (Int×Int)
def stc (S:zAF):List Value:=S.flatMap zH
theorem zMm:∀ S:zAF,(stc S).length=S.length*2
 | []=>rfl
 | x::l=>by simp only [stc,List.flatMap_cons,List.length_append,List.length_cons];have:=zMm l;simp only [stc] at this;rw [this];simp [zH];omega
def CellOK (h:AH) (c:Value) (S:zAF):Prop:=(c=.slice none 0 0/\S=[])\/∃ b,c=.slice (some ⟨b,0,none⟩) S.length (UNK+2)/\h.get b=some (.row (stc S) 134 2 false)/\b<h.next
structure GG (loc:Nat) (h:AH) (bg bs:Nat) (cells:List Value) (SS:List zAF):Prop where
 g:h.get bg=some (rO [.slice (some ⟨bs,0,none⟩) cells.length cells.length] 131)
 s:h.get bs=some (rO cells 132)
 len:cells.length=SS.length
 ne:bg≠bs
 ltg:bg<h.next
 lts:bs<h.next
 locg:loc<=bg
 locs:loc<=bs
 cell:∀ (i:Nat) (c:Value) (S:zAF),cells[i]?=some c->SS[i]?=some S->CellOK h c S
 blk:∀ (i:Nat) (c:Value) (b:Nat),cells[i]?=some c->zAE c b->b≠bg/\b≠bs/\loc<=b
 dis:∀ (i j:Nat) (c d:Value) (b:Nat),cells[i]?=some c->cells[j]?=some d->zAE c b->zAE d b->i=j
theorem CellOK.lt {h:AH} {c:Value} {S:zAF} (k:CellOK h c S) {b:Nat} (hb:zAE c b):b<h.next:=by
 obtain ⟨n,cap,rfl⟩:=hb
 rcases k with ⟨e,_⟩|⟨b',e,_,ab⟩
 ·cases e
 ·simp only [Value.slice.injEq,Option.some.injEq,Addr.mk.injEq] at e
  rw [e.1.1];exact ab
theorem CellOK.fx {P:Nat->Prop} {h h':AH} {c:Value} {S:zAF} (k:CellOK h c S) (f:Fx P h h') (hn:∀ b,zAE c b->¬ P b):CellOK h' c S:=by
 rcases k with e|⟨b,e,hg,ab⟩
 ·exact .inl e
 ·exact .inr ⟨b,e,(f.get b ab (hn b ⟨_,_,e⟩)).trans hg,Nat.lt_of_lt_of_le ab f.next⟩
theorem CellOK.leaf {h:AH} {c:Value} {S:zAF} (k:CellOK h c S):zq c=true/\zl c=[c]/\veq 100 c c=true:=by
 rcases k with ⟨rfl,_⟩|⟨b,rfl,_⟩ <;> exact ⟨rfl,rfl,zDM _ _ _ _⟩
theorem GG.fx {P:Nat->Prop} {loc bg bs:Nat} {h h':AH} {cells:List Value} {SS:List zAF} (G:GG loc h bg bs cells SS) (f:Fx P h h') (h1:¬ P bg) (h2:¬ P bs) (h3:∀ (i:Nat) (c:Value) (b:Nat),cells[i]?=some c->zAE c b->¬ P b):GG loc h' bg bs cells SS:=
 ⟨(f.get bg G.ltg h1).trans G.g,(f.get bs G.lts h2).trans G.s,G.len,G.ne,Nat.lt_of_lt_of_le G.ltg f.next,Nat.lt_of_lt_of_le G.lts f.next,G.locg,G.locs,
  fun i c S hc hS=>(G.cell i c S hc hS).fx f (fun b hb=>h3 i c b hc hb),G.blk,G.dis⟩
theorem zqK {a b:Int} {h:AH}:zd E 132 1 (some [(0,.agg #[iI a,iI b])]) h=one (.slice (some ⟨h.next,0,none⟩) 1 1,h.new (rO [iI a,iI b] 134)):=by kernel_rfl
theorem zpY {a b:Int}:zAo E 134 (some [(0,iI a),(1,iI b)])=some (.agg #[iI a,iI b]):=by kernel_rfl
theorem zNy {h:AH} (aa:h.ok) {c:Value} {S:zAF} (hc:CellOK h c S) (hS:S.length+1<=1000000) (a b:Int) :
  ∃ h3,zAH E .append [132,132] (some [c,.slice (some ⟨h.next,0,none⟩) 1 1]) (h.new (rO [iI a,iI b] 134))=one (.slice (some ⟨h.next+1,0,none⟩) (S.length+1) (UNK+2),h3) ∧
   h3.get (h.next+1)=some (.row (stc (S++[(a,b)])) 134 2 false)/\h3.next=h.next+2/\Fx (fun x=>zAE c x) h h3:=by
 have aG:=zI h (rO [iI a,iI b] 134)
 have af:stc (S++[(a,b)])=stc S++[iI a,iI b]:=by simp [stc,zH,List.flatMap_append]
 rcases hc with ⟨rfl,rfl⟩|⟨bl,rfl,hg,ab⟩
 ·refine ⟨_,append_nil zhn aG rfl,?_,rfl,((Fx.refl aa).new _).new _⟩
  rw [af]
  exact zI (h.new _) _
 ·have iZ:(h.new (rO [iI a,iI b] 134)).get bl=some (.row (stc S) 134 2 false):=by rw [zL (by omega)];exact hg
  refine ⟨_,zDX zhn (by omega) iZ (zMm S) hS aG rfl (by simp [zq]),?_,rfl,?_⟩
  ·rw [af]
   exact zI ((h.new _).upd bl none) _
  ·have f1:Fx (fun x=>zAE (.slice (some ⟨bl,0,none⟩) S.length (UNK+2)) x) h (h.new (rO [iI a,iI b] 134)):=(Fx.refl aa).new _
   exact (f1.upd (.inl ⟨_,_,rfl⟩) none).new _
def zqQ (n:Nat) (vis:Prop) (S:zAF):Prop:=∀ x∈S,(0<=x.2/\x.2<n)/\0<=x.1/\(vis->1<=x.1)
theorem zmi {k:AH} {e:Int×Int×Int} :
  zf E 52 (k.new (rO [iI 0,iI 0,iI 0] 52)) (sP k.next 0) (some (.agg ⟨zm e⟩))=one (undef,(k.new (rO [iI 0,iI 0,iI 0] 52)).upd k.next (some (rO (zm e) 52))):=by
 rw [z7 (P:=E) ziQ (x:=.agg ⟨zm e⟩) (cs:=zm e) (zI k _) rfl rfl (by simp) (by simp [zm,zq])]
 rfl
theorem zjU {L:GL} (h:zy L=false):L.eds.length<=100000:=by
 simp only [zy,zBC,Bool.or_eq_false_iff,decide_eq_false_iff_not] at h
 omega
def zDD (nums:List Int):List zAF->List (Int×Int×Int)->List zAF
 | SS,[]=>SS
 | SS,e::l=>zDD nums (SS.set e.1.toNat ((SS[e.1.toNat]?.getD [])++[((nums[e.2.1.toNat]?).getD 0,e.2.2)])) l
theorem zjD {k:AH} {K:KF} {L:GL} {ve:Value} {ae:Option Addr} {ce:Nat} (cI:ve=.slice ae L.eds.length ce) (ha:Arr k 3 ve (L.eds.map zm)) (hL:zy L=false) {N:Nat} (hN:L.n=(N:Int))
  {v3 v8 v34 v35 v36:Value} {bm bg bs:Nat} {nums:List Int} (hlen:nums.length=L.labs.length) (bY:∀ j,j<L.labs.length->zit L.labs nums j) {k0:AH} {cells0:List Value} {SS1:List zAF} {vis:Prop} (hvis:vis->∀ (j:Nat) (g:Int) (l:List GT),L.labs[j]?=some (g,l)->g≠-1)
  (hK:∀ kk cells SS,Own k kk->GG k.next kk bg bs cells SS->cells.length=N->(∀ (i:Nat) (S:zAF),SS[i]?=some S->zqQ N vis S/\S.length<=100000)->SS=SS1->Fx (fun c=>c=bs\/∃ (i:Nat) (x:Value),cells0[i]?=some x/\zAE x c) k0 kk->
   (∀ (i:Nat) (x:Value) (c:Nat),cells[i]?=some x->zAE x c->(∃ (i:Nat) (x:Value),cells0[i]?=some x/\zAE x c)\/k0.next<=c)->
   znD true K v3 v8 (.pointer (some ⟨bg,0,none⟩)) v34 v35 v36 kk) :
  ∀ (m j:Nat),j+m=L.eds.length->∀ kk cells SS,Own k kk->GG k.next kk bg bs cells SS->cells.length=N->(∀ (i:Nat) (S:zAF),SS[i]?=some S->zqQ N vis S/\S.length<=j)->zDD nums SS (L.eds.drop j)=SS1->Fx (fun c=>c=bs\/∃ (i:Nat) (x:Value),cells0[i]?=some x/\zAE x c) k0 kk->
   (∀ (i:Nat) (x:Value) (c:Nat),cells[i]?=some x->zAE x c->(∃ (i:Nat) (x:Value),cells0[i]?=some x/\zAE x c)\/k0.next<=c)->
   kk.get bm=some (rO (ints nums) 3)->bm<kk.next->bm≠bs->(∀ (i:Nat) (x:Value),cells[i]?=some x->¬ zAE x bm)->k.next<=bm->
   znE true K v3 v8 (.pointer (some ⟨bg,0,none⟩)) (.slice (some ⟨bm,0,none⟩) L.labs.length L.labs.length) v34 v35 v36 ve (iI (L.eds.length:Int)) (iI (j:Int)) kk:=by
 obtain ⟨z1,z2,z3,z4⟩:=zBX hL
 intro m
 induction m with
 | zero=>
  intro j hj kk cells SS ho hG hNc af gU hf hcb aV hbml hbne hbnb hbloc
  refine zLg ?_
  simp only [zZ,zA,zAM]
  exact ⟨fun h=>by omega,fun _=>hK kk cells SS ho hG hNc (fun i S h=>⟨(af i S h).1,by have:=(af i S h).2;have:=zjU hL;omega⟩) (by rw [List.drop_eq_nil_of_le (show L.eds.length<=j by omega)] at gU;exact gU) hf hcb⟩
 | succ m ih=>
  intro j hj kk cells SS ho hG hNc af gU hf hcb aV hbml hbne hbnb hbloc
  have bG:j<L.eds.length:=by omega
  refine zLg ?_
  simp only [zZ,zA,zAM]
  refine ⟨fun _=>zVm ?_,fun h=>by omega⟩
  have jk:L.eds[j]?=some L.eds[j]:=List.getElem?_eq_getElem bG
  have bA:(L.eds.map zm)[j]?=some (zm L.eds[j]):=by simp [bG]
  obtain ⟨b,o,c,vs,ty,es,ro,hv,hb,ab,bK,hz,ba⟩:=ha.load bA
  rw [cI] at hv
  simp only [Value.slice.injEq] at hv
  obtain ⟨bk,_,eT⟩:=hv
  subst bk
  have gb:kk.get b=some (.row vs ty es ro):=(ho.ext.get b ab).trans hb
  obtain ⟨⟨f1,f2⟩,⟨t1,t2⟩,⟨l1,l2⟩⟩:=zHq hL jk
  rw [zHo jk] at gU
  generalize aI:L.eds[j]=e at gU hz ba f1 f2 t1 t2 l1 l2
  obtain ⟨from',lab,to⟩:=e
  simp only at f1 f2 t1 t2 l1 l2
  obtain ⟨fr,rfl⟩:=Int.eq_ofNat_of_zero_le f1
  obtain ⟨la,rfl⟩:=Int.eq_ofNat_of_zero_le l1
  have cG:fr<cells.length:=by omega
  have gK:fr<SS.length:=by rw [← hG.len];exact cG
  have hla:la<L.labs.length:=by omega
  have hla':la<nums.length:=by omega
  simp only [cI,zi8 bG,zA,zV zPl gb bK,hz,zo6,zg,zK,zT,zmi]
  refine zVl ?_
  have dz:=ho.ext.next
  have fb:Fx NoB kk ((kk.new (rO [iI 0,iI 0,iI 0] 52)).upd kk.next (some (.row (zm ((fr:Int),(la:Int),to)) 52 0 false))):=((Fx.refl ho.ext.ok).new _).upd (.inr (Nat.le_refl _)) _
  have tb:((kk.new (rO [iI 0,iI 0,iI 0] 52)).upd kk.next (some (.row (zm ((fr:Int),(la:Int),to)) 52 0 false))).get kk.next=some (.row (zm ((fr:Int),(la:Int),to)) 52 0 false):=zO _ _ _
  have nb:((kk.new (rO [iI 0,iI 0,iI 0] 52)).upd kk.next (some (.row (zm ((fr:Int),(la:Int),to)) 52 0 false))).next=kk.next+1:=rfl
  generalize ((kk.new (rO [iI 0,iI 0,iI 0] 52)).upd kk.next (some (.row (zm ((fr:Int),(la:Int),to)) 52 0 false)))=k1 at fb tb nb
  have o1:=fb.own ho (fun _ h=>h.elim)
  have cz:=hG.fx fb (fun h=>h) (fun h=>h) (fun _ _ _ _ _ h=>h)
  have jh:k1.get bm=some (rO (ints nums) 3):=(fb.get bm hbml (fun h=>h)).trans aV
  have c0:=zF (P:=E) zAb (o:=0) tb
  have c1:=zF (P:=E) zAb (o:=1) tb
  have c2:=zF (P:=E) zAb (o:=2) tb
  simp only [lnth,zm] at c0 c1 c2
  have lg:=zF (P:=E) zIQ (o:=0) cz.g
  simp only [lnth] at lg
  have au:cells[fr]?=some cells[fr]:=List.getElem?_eq_getElem cG
  have cy:SS[fr]?=some SS[fr]:=List.getElem?_eq_getElem gK
  have ls:=zF (P:=E) zIP (o:=0+fr*1) cz.s
  rw [zA7,show 0+fr*1=fr by omega,au] at ls
  have ln:=zF (P:=E) zAb (o:=0+la*1) jh
  obtain ⟨gl,dB⟩:∃ gl,L.labs[la]?=some gl:=⟨_,List.getElem?_eq_getElem hla⟩
  obtain ⟨r,gZ,iO,hr3,hr4⟩:=bY la hla gl.1 gl.2 dB
  rw [zA7,show 0+la*1=la by omega,List.getElem?_map,gZ,Option.map_some] at ln
  have ia1:=zOl (b:=bs) (o:=0) (c:=cells.length) cG
  have ia2:=zNR (b:=bm) (o:=0) (c:=L.labs.length) hla
  rw [show 0+fr*1=fr by omega] at ia1
  rw [show 0+la*1=la by omega] at ia2
  have hC:=cz.cell fr _ _ au cy
  obtain ⟨clf,cc1,cveq⟩:=hC.leaf
  have iq:=(af fr _ cy).2
  obtain ⟨h3,q1,q2,q3,q4⟩:=zNy o1.ext.ok hC (by omega) r to
  have f2x:Fx NoB k1 (k1.new (rO [iI r,iI to] 134)):=(Fx.refl o1.ext.ok).new _
  have hG2:=cz.fx f2x (fun h=>h) (fun h=>h) (fun _ _ _ _ _ h=>h)
  have tb2:(k1.new (rO [iI r,iI to] 134)).get kk.next=_:=(zL (by omega)).trans tb
  have d0:=zF (P:=E) zAb (o:=0) tb2
  simp only [lnth,zm] at d0
  have lg2:=zF (P:=E) zIQ (o:=0) hG2.g
  have ls2:=zF (P:=E) zIP (o:=0+fr*1) hG2.s
  simp only [lnth] at lg2
  rw [zA7,show 0+fr*1=fr by omega,au] at ls2
  have aN:∀ x,zAE cells[fr] x->x≠bg/\x≠bs/\k.next<=x:=fun x hx=>cz.blk fr _ x au hx
  have tb3:h3.get kk.next=some (.row (zm ((fr:Int),(la:Int),to)) 52 0 false):=(q4.get kk.next (by omega) (fun hx=>by have:=(hG.cell fr _ _ au cy).lt hx;omega)).trans tb
  have e0:=zF (P:=E) zAb (o:=0) tb3
  simp only [lnth,zm] at e0
  have hg3:h3.get bg=_:=(q4.get bg cz.ltg (fun hx=>(aN bg hx).1 rfl)).trans cz.g
  have hs3:h3.get bs=_:=(q4.get bs cz.lts (fun hx=>(aN bs hx).2.1 rfl)).trans cz.s
  have lg3:=zF (P:=E) zIQ (o:=0) hg3
  simp only [lnth] at lg3
  have ec:=z7 (P:=E) zlL (o:=fr) hs3 (zNk (some ⟨k1.next+1,0,none⟩) (SS[fr].length+1) (UNK+2)) rfl (by omega) rfl
  rw [zOX _ _ _ cG] at ec
  simp only [zA,zA1,zG3,zEJ,zEI,zE7,Nat.add_zero,Nat.zero_add,lg,c0,c1,c2,ia1,ls,ia2,ln,zpY,zqK,zK,ls2,lg2,d0,cveq,zDM,zCm,true_and,q1,e0,lg3,ec]
  refine zVk ?_
  simp only [zAD _ (zEA bG (by omega)),zA]
  have hP:∀ c,(c=bs\/zAE cells[fr] c)->(c=bs\/∃ (i:Nat) (x:Value),cells0[i]?=some x/\zAE x c)\/k0.next<=c:=by
   rintro c (rfl|hc)
   ·exact .inl (.inl rfl)
   ·exact (hcb fr _ c au hc).elim (fun h=>.inl (.inr h)) .inr
  have f5:Fx (fun c=>c=bs\/zAE cells[fr] c) k1 (h3.upd bs (some (.row (cells.set fr (.slice (some ⟨k1.next+1,0,none⟩) (SS[fr].length+1) (UNK+2))) 132 0 false))):=
   (q4.mono (P':=fun c=>c=bs\/zAE cells[fr] c) (fun c hc=>.inl (.inr hc))).upd (.inl (.inl rfl)) _
  have o5:=f5.own o1 (fun c hc=>hc.elim (fun h=>by rw [h];exact hG.locs) fun h=>(aN c h).2.2)
  have bJ:∀ (i:Nat) (c:Value),(cells.set fr (.slice (some ⟨k1.next+1,0,none⟩) (SS[fr].length+1) (UNK+2)))[i]?=some c->(i=fr/\c=.slice (some ⟨k1.next+1,0,none⟩) (SS[fr].length+1) (UNK+2))\/(i≠fr/\cells[i]?=some c):=by
   intro i c hc
   by_cases hi:i=fr
   ·subst hi
    rw [List.getElem?_set_self cG] at hc
    exact .inl ⟨rfl,(Option.some.inj hc).symm⟩
   ·rw [List.getElem?_set_ne (fun h=>hi h.symm)] at hc
    exact .inr ⟨hi,hc⟩
  have ci:∀ b,zAE (.slice (some ⟨k1.next+1,0,none⟩) (SS[fr].length+1) (UNK+2)) b->b=k1.next+1:=by
   rintro b ⟨n,cap,h⟩
   simp only [Value.slice.injEq,Option.some.injEq,Addr.mk.injEq] at h
   exact h.1.1.symm
  have fc:∀ (i:Nat) (c:Value) (b:Nat),cells[i]?=some c->zAE c b->b<k1.next:=fun i c b hc hb=>by
   have hi:i<SS.length:=by rw [← hG.len];exact (List.getElem?_eq_some_iff.1 hc).1
   exact (cz.cell i c _ hc (List.getElem?_eq_getElem hi)).lt hb
  have hG5:GG k.next (h3.upd bs (some (.row (cells.set fr (.slice (some ⟨k1.next+1,0,none⟩) (SS[fr].length+1) (UNK+2))) 132 0 false))) bg bs (cells.set fr (.slice (some ⟨k1.next+1,0,none⟩) (SS[fr].length+1) (UNK+2))) (SS.set fr (SS[fr]++[(r,to)])):=by
   refine ⟨?_,zO _ _ _,by simp [hG.len],hG.ne,?_,?_,hG.locg,hG.locs,?_,?_,?_⟩
   ·rw [zW hG.ne,List.length_set];exact hg3
   ·show bg<h3.next;have:=cz.ltg;omega
   ·show bs<h3.next;have:=cz.lts;omega
   ·intro i c S hc hS
    rcases bJ i c hc with ⟨rfl,rfl⟩|⟨hi,aF⟩
    ·rw [List.getElem?_set_self gK] at hS
     cases hS
     refine .inr ⟨k1.next+1,by simp,?_,by show _<h3.next;omega⟩
     rw [zW (by have:=cz.lts;omega)];exact q2
    ·rw [List.getElem?_set_ne (fun h=>hi h.symm)] at hS
     have:=cz.cell i c S aF hS
     refine this.fx f5 (fun b hb=>?_)
     rintro (rfl|aW)
     ·exact (cz.blk i c _ aF hb).2.1 rfl
     ·exact hi (cz.dis i fr c _ b aF au hb aW)
   ·intro i c b hc hb
    rcases bJ i c hc with ⟨rfl,rfl⟩|⟨hi,aF⟩
    ·rw [ci b hb]
     have:=cz.ltg
     have:=cz.lts
     omega
    ·exact cz.blk i c b aF hb
   ·intro i i' c d b hc hd hb ao
    rcases bJ i c hc with ⟨rfl,rfl⟩|⟨hi,aF⟩
    ·rcases bJ i' d hd with ⟨rfl,_⟩|⟨cx,hd'⟩
     ·rfl
     ·have:=ci b hb
      have:=fc i' d b hd' ao
      omega
    ·rcases bJ i' d hd with ⟨rfl,rfl⟩|⟨cx,hd'⟩
     ·have:=ci b ao
      have:=fc i c b aF hb
      omega
     ·exact cz.dis i i' c d b aF hd' hb ao
  have hbm5:(h3.upd bs (some (.row (cells.set fr (.slice (some ⟨k1.next+1,0,none⟩) (SS[fr].length+1) (UNK+2))) 132 0 false))).get bm=some (rO (ints nums) 3):=
   (f5.get bm (by omega) (fun h=>h.elim hbne fun h=>hbnb fr _ au h)).trans jh
  have bq:=ih (j+1) (by omega) _ _ _ o5 hG5 (by simp [hNc]) (fun i S hS=>by
   by_cases hi:i=fr
   ·subst hi
    rw [List.getElem?_set_self gK] at hS
    cases hS
    refine ⟨fun x hx=>?_,by simp;omega⟩
    rcases List.mem_append.1 hx with hx|hx
    ·exact (af i _ cy).1 x hx
    ·simp only [List.mem_singleton] at hx
     subst hx
     exact ⟨⟨t1,by show to<(N:Int);omega⟩,iO,fun hv=>hr4 (hvis hv la gl.1 gl.2 dB)⟩
   ·rw [List.getElem?_set_ne (fun h=>hi h.symm)] at hS
    have:=af i S hS
    exact ⟨this.1,by omega⟩)
   (by
    have:zDD nums SS (((fr:Int),(la:Int),to)::L.eds.drop (j+1))=zDD nums (SS.set fr (SS[fr]++[(r,to)])) (L.eds.drop (j+1)):=by
     simp only [zDD,Int.toNat_natCast,cy,gZ,Option.getD_some]
    rw [← this];exact gU)
   ((hf.trans fb (fun _ h=>h.elim)).trans f5 hP)
   (fun i x c hx hc=>by
    rcases bJ i x hx with ⟨rfl,rfl⟩|⟨hi,dw⟩
    ·rw [ci c hc];exact .inr (by have:=hf.next;omega)
    ·exact hcb i x c dw hc)
   hbm5 (by show bm<h3.next;omega) hbne (fun i x hx hb=>by
    rcases bJ i x hx with ⟨rfl,rfl⟩|⟨hi,dw⟩
    ·have:=ci bm hb;omega
    ·exact hbnb i x dw hb) hbloc
  rw [cI] at bq
  simpa using bq
theorem zhW {α:Type} (a:α):∀ n:Nat,rep n [a]=List.replicate n a
 | 0=>rfl
 | n+1=>by simp only [rep,zhW a n,List.replicate_succ];rfl
theorem zTX {t e:TypeId} {z:Value} (H:∃ i,zEL E t=some e/\zCa E e=some i/\i.zero=some z/\i.bytes<=1000000/\i.size=1) (hz:zl z=[z]) {n:Nat} (hn:n<=1000000) {h:AH} :
  zA8 E t (some (iI (n:Int))) (some (iI (n:Int))) h=one (.slice (some ⟨h.next,0,none⟩) n n,h.new (rO (List.replicate n z) e)):=by
 obtain ⟨i,h1,h2,h3,h4,h5⟩:=H
 have ha:zFD (iI (n:Int))=some n:=rfl
 simp only [zA8,h1,ha,h2,h3,ble_true.2 (Nat.le_refl n),ble_true.2 hn,ble_true.2 h4,hz,zBB,h5,zhW]
 rfl
theorem zlO {t:TypeId} {b:Bool} {n:Nat} {z:Value} (h1:tAS E t=some (b,n)) (h2:z8 E t=some z) (h3:(match zCa E t with|some i=>Nat.ble i.bytes 1000000|none=>false)=true):∃ i,zCa E t=some i/\i.zero=some z/\i.bytes<=1000000/\i.size=n:=by
 cases ht:zCa E t with
 | none=>unfold tAS at h1;rw [ht] at h1;cases h1
 | some i=>
  refine ⟨i,rfl,?_,?_,?_⟩
  ·have:z8 E t=i.zero:=by unfold z8;unfold zCa at ht;rw [ht]
   rw [← this];exact h2
  ·rw [ht] at h3;exact ble_true.1 h3
  ·unfold tAS at h1;rw [ht] at h1;simp at h1;exact h1.2
theorem zpi {n:Nat} (hn:n<=1000000) {h:AH}:zA8 E 129 (some (iI (n:Int))) (some (iI (n:Int))) h=one (.slice (some ⟨h.next,0,none⟩) n n,h.new (.row (List.replicate n (.slice none 0 0)) 132 0 false)):=
 zTX (by obtain ⟨i,a⟩:=zlO zIP zpB (by kernel_rfl);exact ⟨i,zjR,a⟩) rfl hn
theorem mk47 {n:Nat} (hn:n<=1000000) {h:AH}:zA8 E 47 (some (iI (n:Int))) (some (iI (n:Int))) h=one (.slice (some ⟨h.next,0,none⟩) n n,h.new (.row (List.replicate n (iI 0)) 3 0 false)):=
 zTX (by obtain ⟨i,a⟩:=zlO zAb z_3 (by kernel_rfl);exact ⟨i,zhl,a⟩) rfl hn
theorem zpZ {a:Option Addr} {n c:Nat}:zAo E 131 (some [(0,.slice a n c)])=some (.agg #[.slice a n c]):=by kernel_rfl
theorem zqL {a:Option Addr} {h:AH}:zd E 126 1 (some [(0,.pointer a)]) h=one (.slice (some ⟨h.next,0,none⟩) 1 1,h.new (rO [.pointer a] 128)):=by kernel_rfl
abbrev Gr:=Nat×Nat×List Value×List zAF
def inG (x:Gr) (c:Nat):Prop:=c=x.1\/c=x.2.1\/∃ (i:Nat) (y:Value),x.2.2.1[i]?=some y/\zAE y c
def zTV (L:GL):Prop:=∀ (j:Nat) (g:Int) (l:List GT),L.labs[j]?=some (g,l)->g≠-1
def GrOf (L:GL) (x:Gr):Prop:=((x.2.2.1.length:Nat):Int)=L.n/\∀ (i:Nat) (S:zAF),x.2.2.2[i]?=some S->zqQ x.2.2.1.length (zTV L) S/\S.length<=100000
abbrev ptr (b:Nat):Value:=.pointer (some ⟨b,0,none⟩)
structure Outs (loc:Nat) (h:AH) (out:Value) (gs:List Gr):Prop where
 sl:(out=.slice none 0 0/\gs=[])\/∃ bo,out=.slice (some ⟨bo,0,none⟩) gs.length (UNK+1)/\h.get bo=some (.row (gs.map fun x=>ptr x.1) 128 1 false)/\bo<h.next/\loc<=bo
 gg:∀ x∈gs,GG loc h x.1 x.2.1 x.2.2.1 x.2.2.2
 sep:∀ x∈gs,∀ c,inG x c->¬ zAE out c
theorem Outs.fx {P:Nat->Prop} {loc:Nat} {h h':AH} {out:Value} {gs:List Gr} (O:Outs loc h out gs) (f:Fx P h h') (h1:∀ c,zAE out c->¬ P c) (h2:∀ x∈gs,∀ c,inG x c->¬ P c):Outs loc h' out gs:=by
 refine ⟨?_,fun x hx=>(O.gg x hx).fx f (h2 x hx _ (.inl rfl)) (h2 x hx _ (.inr (.inl rfl))) (fun i c b hc hb=>h2 x hx b (.inr (.inr ⟨i,c,hc,hb⟩))),O.sep⟩
 rcases O.sl with e|⟨bo,e1,e2,e3,e4⟩
 ·exact .inl e
 ·exact .inr ⟨bo,e1,(f.get bo e3 (h1 bo ⟨_,_,e1⟩)).trans e2,Nat.lt_of_lt_of_le e3 f.next,e4⟩
theorem Outs.lt {loc:Nat} {h:AH} {out:Value} {gs:List Gr} (O:Outs loc h out gs) {c:Nat} (hc:zAE out c\/∃ x∈gs,inG x c):c<h.next/\loc<=c:=by
 rcases hc with ⟨n,cap,hc⟩|⟨x,hx,hc⟩
 ·rcases O.sl with ⟨e,_⟩|⟨bo,e1,e2,e3,e4⟩
  ·rw [e] at hc;cases hc
  ·rw [e1] at hc
   simp only [Value.slice.injEq,Option.some.injEq,Addr.mk.injEq] at hc
   rw [← hc.1.1];exact ⟨e3,e4⟩
 ·have G:=O.gg x hx
  rcases hc with rfl|rfl|⟨i,y,hy,hb⟩
  ·exact ⟨G.ltg,G.locg⟩
  ·exact ⟨G.lts,G.locs⟩
  ·have hi:i<x.2.2.2.length:=by rw [← G.len];exact (List.getElem?_eq_some_iff.1 hy).1
   exact ⟨(G.cell i y _ hy (List.getElem?_eq_getElem hi)).lt hb,(G.blk i y c hy hb).2.2⟩
theorem zdb {loc:Nat} {h:AH} (aa:h.ok) (hloc:loc<=h.next) {out:Value} {gs:List Gr} (O:Outs loc h out gs) (hn:gs.length<=1000) (x:Gr) (hx:GG loc h x.1 x.2.1 x.2.2.1 x.2.2.2) (dQ:∀ c,inG x c->¬ zAE out c) :
  ∃ out' h3,zAH E .append [126,126] (some [out,.slice (some ⟨h.next,0,none⟩) 1 1]) (h.new (rO [ptr x.1] 128))=one (out',h3)/\Outs loc h3 out' (gs++[x])/\Fx (fun c=>zAE out c) h h3/\(∀ c,zAE out' c->h.next<=c):=by
 have aG:=zI h (rO [ptr x.1] 128)
 have hlx:∀ c,inG x c->c<h.next:=by
  intro c hc
  rcases hc with rfl|rfl|⟨i,y,hy,hb⟩
  ·exact hx.ltg
  ·exact hx.lts
  ·have hi:i<x.2.2.2.length:=by rw [← hx.len];exact (List.getElem?_eq_some_iff.1 hy).1
   exact (hx.cell i y _ hy (List.getElem?_eq_getElem hi)).lt hb
 have ci:∀ (n cap c:Nat),zAE (.slice (some ⟨h.next+1,0,none⟩) n cap) c->c=h.next+1:=by
  rintro n cap c ⟨m,cap',e⟩
  simp only [Value.slice.injEq,Option.some.injEq,Addr.mk.injEq] at e
  exact e.1.1.symm
 have fin:∀ {h3:AH} {cap:Nat},cap=UNK+1->h3.next=h.next+2->Fx (fun c=>zAE out c) h h3->h3.get (h.next+1)=some (.row ((gs++[x]).map fun x=>ptr x.1) 128 1 false)->Outs loc h3 (.slice (some ⟨h.next+1,0,none⟩) (gs.length+1) cap) (gs++[x]):=by
  rintro h3 cap rfl e1 f e2
  refine ⟨.inr ⟨h.next+1,by simp,e2,by omega,by omega⟩,?_,?_⟩
  ·intro y hy
   rcases List.mem_append.1 hy with hy|hy
   ·exact (O.gg y hy).fx f (O.sep y hy _ (.inl rfl)) (O.sep y hy _ (.inr (.inl rfl))) (fun i c b hc hb=>O.sep y hy b (.inr (.inr ⟨i,c,hc,hb⟩)))
   ·simp only [List.mem_singleton] at hy
    subst hy
    exact hx.fx f (dQ _ (.inl rfl)) (dQ _ (.inr (.inl rfl))) (fun i c b hc hb=>dQ b (.inr (.inr ⟨i,c,hc,hb⟩)))
  ·intro y hy c hc hb
   have hc1:=ci _ _ c hb
   rcases List.mem_append.1 hy with hy|hy
   ·have:=(O.lt (.inr ⟨y,hy,hc⟩)).1
    omega
   ·simp only [List.mem_singleton] at hy
    subst hy
    have:=hlx c hc
    omega
 rcases O.sl with ⟨rfl,rfl⟩|⟨bo,rfl,e2,e3,e4⟩
 ·refine ⟨_,_,append_nil zho aG rfl,fin rfl rfl (((Fx.refl aa).new _).new _) ?_,((Fx.refl aa).new _).new _,fun c hc=>by rw [ci _ _ c hc];omega⟩
  exact zI (h.new _) _
 ·have hb:(h.new (rO [ptr x.1] 128)).get bo=some (.row (gs.map fun x=>ptr x.1) 128 1 false):=by rw [zL (by omega)];exact e2
  have f1:Fx (fun c=>zAE (.slice (some ⟨bo,0,none⟩) gs.length (UNK+1)) c) h (h.new (rO [ptr x.1] 128)):=(Fx.refl aa).new _
  have f2:=(f1.upd (b:=bo) (.inl ⟨_,_,rfl⟩) none).new (.row ((gs.map fun x=>ptr x.1)++[ptr x.1]) 128 1 false)
  refine ⟨_,_,zDX zho (by omega) hb (by simp) (by omega) aG rfl rfl,fin rfl rfl f2 ?_,f2,fun c hc=>by rw [ci _ _ c hc];omega⟩
  rw [List.map_append]
  exact zI ((h.new _).upd bo none) _
def zAr (nums:List Int) (L:GL):List zAF:=zDD nums (List.replicate L.n.toNat []) L.eds
def zDt:List CL->List GL->List (List zAF)
 | _,[]=>[]
 | cs,L::Ls=>zAr (zBi cs L.labs).1 L::zDt (zBi cs L.labs).2 Ls
theorem zjC {k:AH} {v0:Value} {els:List (List Value)} {Ls:List GL} (a:Args k v0 els Ls) {bn:Nat} (gP:k.next<=bn) {K:KF} {ad:Option Addr} {cp:Nat} (eU:v0=.slice ad els.length cp) {G:List (List zAF)}
  (hK:∀ kk out gs,Own k kk->Outs k.next kk out gs->gs.length=els.length->(∀ (i:Nat) (x:Gr) (L:GL),gs[i]?=some x->Ls[i]?=some L->GrOf L x)->gs.map (fun x=>x.2.2.2)=G->K .ret [out] kk) :
  ∀ (m i:Nat),i+m=els.length->∀ kk v n out gs,Own k kk->NM k kk bn v n->(∀ c,zAE v c->k.next<=c)->n.length<=4000*els.length+4000*i->gs.map (fun x=>x.2.2.2)++zDt n (Ls.drop i)=G->Outs k.next kk out gs->gs.length=i->
   (∀ (i:Nat) (x:Gr) (L:GL),gs[i]?=some x->Ls[i]?=some L->GrOf L x)->(∀ c,(zAE out c\/∃ x∈gs,inG x c)->c≠bn/\¬ zAE v c)->
   znH true K (ptr bn) out v0 (iI (els.length:Int)) (iI (i:Int)) kk:=by
 have hfew:=a.few
 intro m
 induction m with
 | zero=>
  intro i hi kk v n out gs ho hm hb hn hGG hO dB ii dQ
  refine zLi ?_
  simp only [zZ,zA,zAM]
  refine ⟨fun h=>by omega,fun _=>zVh ?_⟩
  exact hK kk out gs ho hO (by omega) ii (by rw [List.drop_eq_nil_of_le (by have:=a.len;omega)] at hGG;simpa [zDt] using hGG)
 | succ m ih=>
  intro i hi kk v n out gs ho hm hb hn hGG hO dB ii dQ
  have ai:i<els.length:=by omega
  refine zLi ?_
  simp only [zZ,zA,zAM]
  refine ⟨fun _=>zVu ?_,fun h=>by omega⟩
  obtain ⟨L,b,o,c,vs,ty,es,ro,vl,ve,elsL,q0,q1,q2,q3,q4,q5,q6,q7,q8,q9,q10,q11⟩:=a.at ai
  have gb:kk.get b=some (.row vs ty es ro):=(ho.ext.get b q3).trans q2
  rw [eU] at q1
  simp only [Value.slice.injEq] at q1
  obtain ⟨q11',_,_⟩:=q1
  subst q11'
  obtain ⟨s1,s2,s3,s4⟩:=zBX q11
  obtain ⟨N,hN⟩:=Int.eq_ofNat_of_zero_le (show 0<=L.n by omega)
  obtain ⟨al,cl,bc⟩:=q8.slice
  rw [RLab.length q9] at bc
  obtain ⟨ae,ce,cI⟩:=q10.slice
  rw [List.length_map] at cI
  have eJ:=zkH (k:=kk) (e:=[iI L.n,vl,ve]) (by simp [zq];exact ⟨q6,q7⟩) rfl
  simp only [eU,zNQ ai,zA,zV zDe gb q4,q5,zoy,zg,zK,zT,eJ]
  refine zVt ?_
  have dz:=ho.ext.next
  have f1:Fx NoB kk ((kk.new (rO [iI 0,.slice none 0 0,.slice none 0 0] 25)).upd kk.next (some (rO [iI L.n,vl,ve] 25))):=((Fx.refl ho.ext.ok).new _).upd (.inr (Nat.le_refl _)) _
  have t1:((kk.new (rO [iI 0,.slice none 0 0,.slice none 0 0] 25)).upd kk.next (some (rO [iI L.n,vl,ve] 25))).get kk.next=some (rO [iI L.n,vl,ve] 25):=zO _ _ _
  have n1:((kk.new (rO [iI 0,.slice none 0 0,.slice none 0 0] 25)).upd kk.next (some (rO [iI L.n,vl,ve] 25))).next=kk.next+1:=rfl
  generalize ((kk.new (rO [iI 0,.slice none 0 0,.slice none 0 0] 25)).upd kk.next (some (rO [iI L.n,vl,ve] 25)))=k1 at f1 t1 n1
  have l0:=zF (P:=E) zAb (o:=0) t1
  simp only [lnth] at l0
  rw [hN] at l0
  simp only [zCD,Nat.add_zero,l0,zA,zpi (show N<=1000000 by omega),zK,zpZ,zg,zT]
  refine zVs ?_
  have f2:Fx NoB kk ((k1.new (.row (List.replicate N (.slice none 0 0)) 132 0 false)).new (rO [.slice (some ⟨k1.next,0,none⟩) N N] 131)):=(f1.new _).new _
  have t2:((k1.new (.row (List.replicate N (.slice none 0 0)) 132 0 false)).new (rO [.slice (some ⟨k1.next,0,none⟩) N N] 131)).get kk.next=some (rO [iI L.n,vl,ve] 25):=by
   rw [zL (by simp;omega),zL (by omega)];exact t1
  have ts2:((k1.new (.row (List.replicate N (.slice none 0 0)) 132 0 false)).new (rO [.slice (some ⟨k1.next,0,none⟩) N N] 131)).get k1.next=some (.row (List.replicate N (.slice none 0 0)) 132 0 false):=by
   rw [zL (by simp)];exact zI _ _
  have tg2:((k1.new (.row (List.replicate N (.slice none 0 0)) 132 0 false)).new (rO [.slice (some ⟨k1.next,0,none⟩) N N] 131)).get (k1.next+1)=some (rO [.slice (some ⟨k1.next,0,none⟩) N N] 131):=zI (k1.new _) _
  have n2:((k1.new (.row (List.replicate N (.slice none 0 0)) 132 0 false)).new (rO [.slice (some ⟨k1.next,0,none⟩) N N] 131)).next=k1.next+2:=rfl
  simp only [AH.next_new]
  generalize ((k1.new (.row (List.replicate N (.slice none 0 0)) 132 0 false)).new (rO [.slice (some ⟨k1.next,0,none⟩) N N] 131))=k2 at f2 t2 ts2 tg2 n2
  have l1:=zF (P:=E) zG7 (o:=1) t2
  simp only [lnth] at l1
  rw [bc] at l1
  simp only [zBR,Nat.zero_add,l1,zA,zP6,mk47 (show L.labs.length<=1000000 by omega),zK]
  refine zVr ?_
  have f3:Fx NoB kk (k2.new (.row (List.replicate L.labs.length (iI 0)) 3 0 false)):=f2.new _
  have t3:(k2.new (.row (List.replicate L.labs.length (iI 0)) 3 0 false)).get kk.next=_:=(zL (by omega)).trans t2
  have ts3:(k2.new (.row (List.replicate L.labs.length (iI 0)) 3 0 false)).get k1.next=_:=(zL (by omega)).trans ts2
  have tg3:(k2.new (.row (List.replicate L.labs.length (iI 0)) 3 0 false)).get (k1.next+1)=_:=(zL (by omega)).trans tg2
  have tm3:(k2.new (.row (List.replicate L.labs.length (iI 0)) 3 0 false)).get k2.next=some (.row (ints (List.replicate L.labs.length 0)) 3 0 false):=by
   rw [zI];simp [ints]
  have n3:(k2.new (.row (List.replicate L.labs.length (iI 0)) 3 0 false)).next=k2.next+1:=rfl
  generalize (k2.new (.row (List.replicate L.labs.length (iI 0)) 3 0 false))=k3 at f3 t3 ts3 tg3 tm3 n3
  have l3:=zF (P:=E) zG7 (o:=1) t3
  simp only [lnth] at l3
  rw [bc] at l3
  simp only [zBR,Nat.zero_add,l3,zA,zP5]
  have o3:=f3.own ho (fun _ h=>h.elim)
  have hm3:=hm.fx f3 (fun h=>h) (fun _ _ h=>h)
  have hbnlt:=hm.lt
  have eS:∀ c,zAE v c->c<kk.next:=fun c hc=>zKN hm hc
  have key:=zjE (k:=k) gP (K:=K) (vl:=vl) bc q8 q9 s3 (v8:=out) (v10:=ptr kk.next) (v11:=ptr (k1.next+1)) (v34:=.slice (some ⟨b,o,none⟩) els.length cp) (v35:=iI (els.length:Int)) (v36:=iI (i:Int))
   (bm:=k2.next) (base:=n.length) (by omega) (by omega) (k0:=k3) (w0:=v) (by omega) (N1:=(zBi n L.labs).1) (cs1:=(zBi n L.labs).2) ?_ L.labs.length 0 (by omega) k3 v n (List.replicate L.labs.length 0) o3 hm3 hb (by omega) rfl (by simp) (Fx.refl o3.ext.ok) (fun c hc=>.inl hc) (by omega) (fun h=>by have:=eS _ h;omega) (by omega) tm3 (by simp) (fun i h=>by omega)
  ·rw [bc] at key
   simpa using key
  ·intro kk4 v4 n4 nums o4 iR hb4 hn4 hcs4 hnums4 f4 hbl4 hne4 hnb4 hrow4 hlen4 hok4
   refine zVn ?_
   have ef:∀ c,k3.next<=kk.next+10->c<k3.next->kk.next<=c->c≠k2.next->¬ ((c=bn\/zAE v c)\/c=k2.next):=by
    intro c _ h1 h2 h3
    rintro ((h|h)|h)
    ·omega
    ·have:=eS c h;omega
    ·exact h3 h
   have t4:=(f4.get kk.next (by omega) (ef _ (by omega) (by omega) (by omega) (by omega))).trans t3
   have ts4:=(f4.get k1.next (by omega) (ef _ (by omega) (by omega) (by omega) (by omega))).trans ts3
   have tg4:=(f4.get (k1.next+1) (by omega) (ef _ (by omega) (by omega) (by omega) (by omega))).trans tg3
   have l4:=zF (P:=E) zJc (o:=2) t4
   simp only [lnth] at l4
   rw [cI] at l4
   simp only [zCC,Nat.zero_add,l4,zA,zP4]
   have hkk4:=f4.next
   have hG4:GG k.next kk4 (k1.next+1) k1.next (List.replicate N (.slice none 0 0)) (List.replicate N []):=by
    refine ⟨?_,ts4,by simp,by omega,by omega,by omega,by omega,by omega,?_,?_,?_⟩
    ·rw [List.length_replicate];exact tg4
    ·intro i c S hc hS
     have:=List.getElem?_replicate (a:=Value.slice none 0 0) (n:=N) (i:=i)
     rw [hc] at this
     have h2:=List.getElem?_replicate (a:=([]:zAF)) (n:=N) (i:=i)
     rw [hS] at h2
     split at this
     ·rename_i hi
      rw [if_pos hi] at h2
      cases this;cases h2
      exact .inl ⟨rfl,rfl⟩
     ·cases this
    ·intro i c b hc hb
     obtain ⟨n,cap,rfl⟩:=hb
     have:=List.getElem?_replicate (a:=Value.slice none 0 0) (n:=N) (i:=i)
     rw [hc] at this
     split at this <;> cases this
    ·intro i j c d b hc hd hb
     obtain ⟨n,cap,rfl⟩:=hb
     have:=List.getElem?_replicate (a:=Value.slice none 0 0) (n:=N) (i:=i)
     rw [hc] at this
     split at this <;> cases this
   have dH:∀ (i:Nat) (x:Value) (c:Nat),(List.replicate N (Value.slice none 0 0))[i]?=some x->¬ zAE x c:=by
    rintro i x c hx ⟨n,cap,rfl⟩
    have:=List.getElem?_replicate (a:=Value.slice none 0 0) (n:=N) (i:=i)
    rw [hx] at this
    split at this <;> cases this
   have key3:=zjD (k:=k) (K:=K) (L:=L) cI q10 q11 hN (v3:=ptr bn) (v8:=out) (v34:=.slice (some ⟨b,o,none⟩) els.length cp) (v35:=iI (els.length:Int)) (v36:=iI (i:Int)) (bm:=k2.next) (bg:=k1.next+1) (bs:=k1.next) hlen4 hok4
    (k0:=kk4) (cells0:=List.replicate N (.slice none 0 0)) (SS1:=zAr nums L) (vis:=zTV L) (fun h=>h) ?_ L.eds.length 0 (by omega) kk4 (List.replicate N (.slice none 0 0)) (List.replicate N []) o4 hG4 (by simp) (fun i S hS=>by
     have h2:=List.getElem?_replicate (a:=([]:zAF)) (n:=N) (i:=i)
     rw [hS] at h2
     split at h2
     ·cases h2;exact ⟨(fun x hx=>by cases hx),by simp⟩
     ·cases h2) (by unfold zAr;rw [hN];rfl) (Fx.refl o4.ext.ok) (fun i x c hx hc=>absurd hc (dH i x c hx)) hrow4 (by omega) (by omega) (fun i x hx=>dH i x _ hx) (by omega)
   ·rw [cI] at key3
    simpa using key3
   ·intro kk5 cells SS o5 hG5 hNc af hSS5 f5 hcb5
    refine zVj ?_
    have f5':Fx (fun c=>c=k1.next) kk4 kk5:=f5.mono (fun c hc=>hc.elim (fun h=>.inl h) fun ⟨i,x,hx,hb⟩=>absurd hb (dH i x c hx))
    have hold:∀ c,(zAE out c\/∃ x∈gs,inG x c)->c<kk.next/\c≠bn/\¬ zAE v c:=fun c hc=>⟨(hO.lt hc).1,dQ c hc⟩
    have hO3:=hO.fx f3 (fun _ _ h=>h) (fun _ _ _ _ h=>h)
    have hO4:=hO3.fx f4 (fun c hc h=>by
     have:=hold c (.inl hc)
     rcases h with (h|h)|h
     ·exact this.2.1 h
     ·exact this.2.2 h
     ·omega) (fun x hx c hc h=>by
     have:=hold c (.inr ⟨x,hx,hc⟩)
     rcases h with (h|h)|h
     ·exact this.2.1 h
     ·exact this.2.2 h
     ·omega)
    have hO5:=hO4.fx f5' (fun c hc h=>by have:=hold c (.inl hc);omega) (fun x hx c hc h=>by have:=hold c (.inr ⟨x,hx,hc⟩);omega)
    have fJ:∀ c,inG (k1.next+1,k1.next,cells,SS) c->(c=k1.next+1\/c=k1.next\/kk4.next<=c):=by
     intro c hc
     rcases hc with h|h|⟨i',y,hy,hb⟩
     ·exact .inl h
     ·exact .inr (.inl h)
     ·exact .inr (.inr ((hcb5 i' y c hy hb).elim (fun ⟨i2,x2,h1,h2⟩=>absurd h2 (dH i2 x2 c h1)) fun h=>h))
    have hm5:NM k kk5 bn v4 n4:=iR.fx f5' (fun h=>by omega) (fun c hc h=>by
     rcases hbl4 c hc with h'|h'
     ·have:=eS c h';omega
     ·omega)
    obtain ⟨out',h3,r1,r2,r3,r4⟩:=zdb o5.ext.ok (by have:=o5.ext.next;exact this) hO5 (by omega) (k1.next+1,k1.next,cells,SS) hG5 (fun c hc h=>by
     have:=hold c (.inl h)
     rcases fJ c hc with h'|h'|h' <;> omega)
    simp only [zA,zqL,zK,r1]
    refine zVi ?_
    simp only [zAD _ (zEA ai (by omega)),zA]
    have fC:∀ c,zAE out c->c≠bn/\¬ zAE v4 c:=fun c hc=>by
     have:=hold c (.inl hc)
     refine ⟨this.2.1,fun h=>?_⟩
     rcases hbl4 c h with h'|h'
     ·exact this.2.2 h'
     ·omega
    have hm6:NM k h3 bn v4 n4:=hm5.fx r3 (fun h=>(fC bn h).1 rfl) (fun c hc h=>(fC c h).2 hc)
    have:=ih (i+1) (by omega) h3 v4 n4 out' (gs++[(k1.next+1,k1.next,cells,SS)]) (r3.own o5 (fun c hc=>(hO.lt (.inl hc)).2)) hm6 hb4 (by omega) (by rw [zHo q0] at hGG;simp only [zDt] at hGG;rw [List.map_append,List.append_assoc,hcs4,← hGG,hSS5,hnums4];rfl) r2 (by simp [dB]) (fun j x L' hx hL'=>by
     rcases Nat.lt_or_ge j gs.length with hj|hj
     ·rw [List.getElem?_append_left hj] at hx
      exact ii j x L' hx hL'
     ·rw [List.getElem?_append_right hj] at hx
      have hj0:j=gs.length:=by
       have:=(List.getElem?_eq_some_iff.1 hx).1
       simp at this;omega
      subst hj0
      simp only [Nat.sub_self,List.getElem?_cons_zero,Option.some.injEq] at hx
      subst hx
      rw [dB,q0] at hL'
      cases hL'
      exact ⟨by simp only;rw [hNc,hN],fun i S hS=>by simp only;rw [hNc];exact af i S hS⟩) (fun c hc=>by
     rcases hc with hc|⟨x,hx,hc⟩
     ·have h1:=r4 c hc
      have h2:=hm5.lt
      refine ⟨by omega,fun h=>by have:=zKN hm5 h;omega⟩
     ·rcases List.mem_append.1 hx with hx|hx
      ·have:=hold c (.inr ⟨x,hx,hc⟩)
       refine ⟨this.2.1,fun h=>?_⟩
       rcases hbl4 c h with h'|h'
       ·exact this.2.2 h'
       ·omega
      ·simp only [List.mem_singleton] at hx
       subst hx
       have aF:=fJ c hc
       refine ⟨by rcases aF with h'|h'|h' <;> omega,fun h=>?_⟩
       have h4:=zKN iR h
       rcases hbl4 c h with h5|h5
       ·have:=eS c h5
        rcases aF with h'|h'|h' <;> omega
       ·rcases aF with h'|h'|h' <;> omega)
    rw [eU] at this
    simpa using this
theorem GG.same {loc bg bs:Nat} {h:AH} {cells:List Value} {SS:List zAF} (G:GG loc h bg bs cells SS) (w:Nat):GG loc ⟨h.t,h.next,w⟩ bg bs cells SS:=
 ⟨G.g,G.s,G.len,G.ne,G.ltg,G.lts,G.locg,G.locs,fun i c S hc hS=>G.cell i c S hc hS,G.blk,G.dis⟩
def zFf (Ls:List GL):List (List zAF):=zDt (zHM Ls []) Ls
theorem zmM {k:AH} {v0:Value} {els:List (List Value)} {Ls:List GL} (aa:k.ok) (ah:els.length≠0) (a:Args k v0 els Ls) :
  Ev true ((zY E).call 90 [v0] k) fun x=>∃ gs,Outs k.next x.2 x.1 gs/\gs.length=els.length/\(∀ (i:Nat) (y:Gr) (L:GL),gs[i]?=some y->Ls[i]?=some L->GrOf L y)/\gs.map (fun x=>x.2.2.2)=zFf Ls/\Fx NoB k x.2:=by
 obtain ⟨ad,cp,hv⟩:=a.arr.slice
 refine zgN (Rp:=fun x k'=>∃ gs,Outs k.next k' x gs/\gs.length=els.length/\(∀ (i:Nat) (y:Gr) (L:GL),gs[i]?=some y->Ls[i]?=some L->GrOf L y)/\gs.map (fun x=>x.2.2.2)=zFf Ls/\Fx NoB k k') (zeP ?_)
 refine zeO ?_
 simp only [zpA,zg,zK,zT]
 refine zeN ?_
 have o1:=(Own.fresh k).new (rO [.slice none 0 0] 197)
 have t1:=zI k.fresh (rO [.slice none 0 0] 197)
 have n1:(k.fresh.new (rO [.slice none 0 0] 197)).next=k.next+1:=rfl
 simp only [zb] at t1 ⊢
 generalize k.fresh.new (rO [.slice none 0 0] 197)=k1 at o1 t1 n1
 have hm:NM k k1 k.next (.slice none 0 0) []:=⟨t1,by omega,.inl ⟨rfl,rfl⟩⟩
 have cw:∀ c,¬ zAE (.slice none 0 0) c:=by rintro c ⟨n,cap,h⟩;cases h
 rw [hv]
 simp only [zA,zTd]
 rw [← hv]
 have a':Args k v0 els Ls:=a
 refine zjF a' (bn:=k.next) (Nat.le_refl _) hv (fin:=zHM Ls []) (fun kk v n ho hm hb hn bq=>zVw ?_) els.length 0 (by omega) k1 (.slice none 0 0) [] o1 hm (fun c h=>absurd h (cw c)) (by simp) (by simp)
 refine zVv ?_
 rw [hv]
 simp only [zA,zP7]
 rw [← hv]
 refine zjC a' (bn:=k.next) (Nat.le_refl _) hv (G:=zFf Ls) (fun kk out gs ho hO hl hg hGe=>?_) els.length 0 (by omega) kk v n (.slice none 0 0) [] ho hm hb (by omega) (by rw [bq];rfl) ⟨.inl ⟨rfl,rfl⟩,by simp,by simp⟩ rfl (by simp) (fun c h=>by
  rcases h with h|⟨x,hx,_⟩
  ·exact absurd h (cw c)
  ·cases hx)
 simp only [zAS,zX,true_and]
 have dg:zi out=false:=by
  rcases hO.sl with ⟨_,h⟩|⟨bo,h,_⟩
  ·rw [h] at hl;simp at hl;omega
  ·rw [h];rfl
 refine ⟨.inl dg,gs,?_,hl,hg,hGe,?_⟩
 ·exact ⟨hO.sl,fun x hx=>(hO.gg x hx).same _,hO.sep⟩
 ·refine ⟨?_,ho.ext.next,fun c hc _=>ho.ext.get c hc,fun m h1 _ h3=>?_⟩
  ·show cond (Nat.ble k.wm kk.wm) k.wm kk.wm<=kk.next+UNK
   have:=ho.ext.ok
   unfold AH.ok at this
   cases bT:Nat.ble k.wm kk.wm with
   | true=>rw [ble_true] at bT;simp only [cond_true];omega
   | false=>exact this
  ·show m<=cond (Nat.ble k.wm kk.wm) k.wm kk.wm
   have:=ho.wm
   cases bT:Nat.ble k.wm kk.wm with
   | true=>exact h1
   | false=>simp only [cond_false];omega
abbrev Rel:=List (Int×Int)
def ent (R:Rel):List (Value×Value):=R.map fun p=>(.agg ⟨zH p⟩,.bool true)
theorem u54:und E 54=some (.array 2 3):=zSf
theorem u3:und E 3=some (.int .i64):=by kernel_rfl
theorem ziv:zMx E 174=some (54,4):=by kernel_rfl
theorem z4:z8 E 4=some (.bool false):=by kernel_rfl
theorem zd1 (a b c d:Int):zAv [iI a,iI b] [iI c,iI d]=some (decide ((a,b)=(c,d))):=by
 have hb:zAv [iI b] [iI d]=some (decide (b=d)):=by
  simp only [zAv]
  have:keq .i64 .i64=true:=rfl
  simp only [this,if_true,zDH]
  by_cases h:b=d
  ·simp [h]
  ·have:(b==d)=false:=by simpa using h
   simp [this,h]
 simp only [zAv] at hb ⊢
 have hk:keq .i64 .i64=true:=rfl
 simp only [hk,if_true,zDH] at hb ⊢
 rw [hb]
 by_cases h:a=c
 ·simp [h]
 ·have:(a==c)=false:=by simpa using h
  simp [this,h]
theorem zTw (p q:Int×Int):zBu E 54 (.agg ⟨zH p⟩) (.agg ⟨zH q⟩)=some (decide (p=q)):=by
 simp only [zBu,u54,u3,zhO,zH,zBB]
 show cond (Nat.beq (0+1+1) 2) (zAv [iI p.1,iI p.2] [iI q.1,iI q.2]) none=_
 rw [zd1]
 rfl
theorem zNM (p:Int×Int):zEF E 54 (.agg ⟨zH p⟩)=true:=by
 simp only [zEF,u54,u3,zhO,zH];rfl
theorem zOu:∀ {R:Rel},R.Nodup->∀ q:Int×Int,zAZ E 54 (.agg ⟨zH q⟩) (ent R)=some (if q∈R then some (.bool true) else none)
 | [],_,q=>by simp [ent,zAZ]
 | p::R,h,q=>by
  obtain ⟨h1,h2⟩:=List.nodup_cons.1 h
  have ih:=zOu h2 q
  simp only [ent,List.map_cons,zAZ] at ih ⊢
  rw [zTw,ih]
  by_cases e:q=p
  ·subst e
   simp [h1]
  ·simp [e]
theorem ziy {h:AH} {m ver:Nat} {R:Rel} (hm:h.get m=some (.map (ent R) ver)) (hR:R.Nodup) (q:Int×Int) :
  zBI E 174 false (some (.map (some m))) (some (.agg ⟨zH q⟩)) h=some (.bool (decide (q∈R))):=by
 simp only [zBI,zF4,ziv,zEK,hm,zNM,cond_true,zOu hR]
 by_cases e:q∈R
 ·simp [e,zFh,okV]
 ·simp [e,zFh,z4,okV]
theorem zq1 {a b:Int}:zAo E 54 (some [(0,iI a),(1,iI b)])=some (.agg ⟨zH (a,b)⟩):=by kernel_rfl
abbrev zAu (x y:Value) (m:Nat):List Value:=[x,y,.map (some m)]
theorem zKG {k:AH} {x y:Value} {m ver:Nat} {R:Rel} (aa:k.ok) (hm:k.get m=some (.map (ent R) ver)) (aT:m<k.next) (hR:R.Nodup) (s t:Int) :
  (zY E).call 123 [.agg ⟨zAu x y m⟩,iI s,iI t] k=some [(.bool (decide ((s,t)∈R)),k)]:=by
 refine zc1 (s:=true) aa rfl (zbN ?_)
 simp only [zg,zK,zT,zA]
 refine zbM ?_
 have o1:=(Own.fresh k).new (rO (zAu x y m) 176)
 have t1:=zI k.fresh (rO (zAu x y m) 176)
 simp only [zb] at t1 ⊢
 generalize k.fresh.new (rO (zAu x y m) 176)=k1 at o1 t1
 have l2:=zF (P:=E) zKl (o:=2) t1
 simp only [lnth,zAu] at l2
 have ep:=(o1.ext.get m aT).trans hm
 simp only [zFk,Nat.zero_add,l2,zA,zq1,ziy ep hR,zAS,zX,true_and]
 exact o1.wm
def zFN (R:Rel) (x y:Int×Int):Bool:=decide (y.1=x.1)&&decide ((x.2,y.2)∈R)
theorem zju {k:AH} {gx gy:Value} {m ver:Nat} {R:Rel} {x y:Int×Int} {bx bf ty1 ty2:Nat} (aa:k.ok) (hm:k.get m=some (.map (ent R) ver)) (aT:m<k.next) (hR:R.Nodup) (hx:k.get bx=some (rO (zH x) ty1)) (hxl:bx<k.next) (hf:k.get bf=some (rO (zAu gx gy m) ty2)) (dg:bf<k.next) :
  (zY E).call 174 [.agg ⟨zH y⟩,ptr bx,ptr bf] k=some [(.bool (zFN R x y),k)]:=by
 refine zcd (s:=true) aa rfl (zYz ?_)
 simp only [zg,zK,zT,zA]
 refine zYy ?_
 have o1:=(Own.fresh k).new (rO (zH y) 134)
 have t1:=zI k.fresh (rO (zH y) 134)
 simp only [zb] at t1 ⊢
 generalize k.fresh.new (rO (zH y) 134)=k1 at o1 t1
 have hx1:=(o1.ext.get bx hxl).trans hx
 have hf1:=(o1.ext.get bf dg).trans hf
 have ep:=(o1.ext.get m aT).trans hm
 have y0:=zF (P:=E) zAb (o:=0) t1
 have y1:=zF (P:=E) zAb (o:=1) t1
 have x0:=zF (P:=E) zAb (o:=0) hx1
 have x1:=zF (P:=E) zAb (o:=1) hx1
 have lf:=zV (P:=E) zKk (o:=0) hf1 (by simp [zAu])
 rw [List.drop_zero,List.take_of_length_le (by simp [zAu])] at lf
 simp only [lnth,zH] at y0 y1 x0 x1
 simp only [zG2,zCd,Nat.add_zero,Nat.zero_add,y0,x0,zA,zAg]
 by_cases e:y.1=x.1
 ·simp only [e,decide_true,zM,zU,beq_self_eq_true,cond_true,zDn,zCd,Nat.add_zero,Nat.zero_add,lf,x1,y1,zA,zQ,zKG o1.ext.ok ep (Nat.lt_of_lt_of_le aT o1.ext.next) hR,zP,zJ,zAS,zX,true_and,zFN,Bool.true_and]
  exact o1.wm
 ·simp only [e,decide_false,zM,zU,zw,zx,show (false==true)=false from rfl,cond_false,zA,zK,zJ,zAS,zX,true_and,zFN,Bool.false_and]
  exact o1.wm
theorem zFr {h:AH} {c:Value} {S:zAF} (k:CellOK h c S):Arr h 2 c (S.map zH):=by
 rcases k with ⟨rfl,rfl⟩|⟨b,rfl,hg,ab⟩
 ·exact .nil _ _
 ·have:=Arr.row (h:=h) (z:=2) (b:=b) (o:=0) (c:=UNK+2) (els:=S.map zH) hg ab (by simp [zMm]) (fun i e he=>by
   simp only [List.getElem?_map] at he
   cases hx:S[i]? with
   | none=>rw [hx] at he;cases he
   | some x=>
    rw [hx] at he
    simp only [Option.map_some,Option.some.injEq] at he
    subst he
    refine ⟨rfl,?_⟩
    rw [Nat.zero_add]
    have:∀ (S:zAF) (i:Nat),S[i]?=some x->((stc S).drop (i*2)).take 2=zH x:=by
     intro S
     induction S with
     | nil=>intro i h;simp at h
     | cons y S ih=>
      intro i h
      cases i with
      | zero=>simp at h;subst h;rfl
      | succ i=>
       rw [show (i+1)*2=i*2+2 by omega]
       have:=ih i (by simpa using h)
       rw [← this]
       rfl
    exact this S i hx)
  simpa using this
theorem zi5 (p:Nat->Bool) (n:Nat):decide (0<=zAQ p n 0)=(List.range n).any p:=by
 have h:=zCt (p:=p) n 0
 cases hb:(List.range n).any p with
 | true=>
  have:¬ zAQ p n 0<0:=by
   intro cY
   have:=h.2 cY
   obtain ⟨j,hj,hp⟩:=List.any_eq_true.1 hb
   rw [this j (Nat.zero_le _) (by have:=List.mem_range.1 hj;omega)] at hp
   cases hp
  exact decide_eq_true (by omega)
 | false=>
  have:zAQ p n 0<0:=h.1 fun j _ hj=>by
   have:=List.any_eq_false.1 hb j (List.mem_range.2 (by omega))
   simpa using this
  exact decide_eq_false (by omega)
structure GV (h:AH) (bg:Nat) (SS:List zAF):Prop where
 ex:∃ loc bs cells,GG loc h bg bs cells SS
theorem GV.ext {h k:AH} {bg:Nat} {SS:List zAF} (g:GV h bg SS) (e:Ext h k):GV k bg SS:=by
 obtain ⟨loc,bs,cells,G⟩:=g.ex
 refine ⟨loc,bs,cells,(e.get bg G.ltg).trans G.g,(e.get bs G.lts).trans G.s,G.len,G.ne,Nat.lt_of_lt_of_le G.ltg e.next,Nat.lt_of_lt_of_le G.lts e.next,G.locg,G.locs,fun i c S hc hS=>?_,G.blk,G.dis⟩
 rcases G.cell i c S hc hS with a|⟨b,a1,a2,a3⟩
 ·exact .inl a
 ·exact .inr ⟨b,a1,(e.get b a3).trans a2,Nat.lt_of_lt_of_le a3 e.next⟩
def zEB (R:Rel) (S:zAF) (x:Int×Int):Bool:=S.any fun y=>zFN R x y
def pAt (S:zAF) (f:Int×Int->Bool) (i:Nat):Bool:=match S[i]? with
 | some y=>f y
 | none=>false
theorem zkO (S:zAF) (f:Int×Int->Bool):(List.range S.length).any (pAt S f)=S.any f:=by
 rw [Bool.eq_iff_iff]
 simp only [List.any_eq_true,List.mem_range]
 constructor
 ·rintro ⟨i,hi,h⟩
  unfold pAt at h
  rw [List.getElem?_eq_getElem hi] at h
  exact ⟨_,List.getElem_mem hi,h⟩
 ·rintro ⟨y,hy,h⟩
  obtain ⟨i,hi⟩:=List.mem_iff_getElem?.1 hy
  refine ⟨i,(List.getElem?_eq_some_iff.1 hi).1,?_⟩
  unfold pAt
  rw [hi];exact h
theorem zNs {k:AH} {gx:Value} {bg m ver t:Nat} {R:Rel} {SS:List zAF} {S:zAF} {x:Int×Int} {v1:Value} (aa:k.ok) (hm:k.get m=some (.map (ent R) ver)) (aT:m<k.next) (hR:R.Nodup) (hg:GV k bg SS) (hS:SS[t]?=some S) (iq:S.length<=1000000) :
  (zY E).call 128 [.agg ⟨zAu gx (ptr bg) m⟩,v1,iI (t:Int),.agg ⟨zH x⟩] k=some [(.bool (zEB R S x),k)]:=by
 refine zcx (s:=true) aa rfl (za0 ?_)
 simp only [zg,zK,zT,zA]
 refine zaz ?_
 have o1:=((Own.fresh k).new (.row (zAu gx (ptr bg) m) 178 0 false)).new (rO (zH x) 134)
 have tf:((k.fresh.new (.row (zAu gx (ptr bg) m) 178 0 false)).new (rO (zH x) 134)).get k.next=some (.row (zAu gx (ptr bg) m) 178 0 false):=by
  rw [zL (by simp)];exact zI k.fresh _
 have tx:((k.fresh.new (.row (zAu gx (ptr bg) m) 178 0 false)).new (rO (zH x) 134)).get (k.next+1)=some (rO (zH x) 134):=zI (k.fresh.new _) _
 have n1:((k.fresh.new (.row (zAu gx (ptr bg) m) 178 0 false)).new (rO (zH x) 134)).next=k.next+2:=rfl
 simp only [zb,AH.next_new]
 generalize ((k.fresh.new (.row (zAu gx (ptr bg) m) 178 0 false)).new (rO (zH x) 134))=k1 at o1 tf tx n1
 obtain ⟨loc,bs,cells,G⟩:=(hg.ext o1.ext).ex
 have ep:=(o1.ext.get m aT).trans hm
 have lf:=zF (P:=E) zDN (o:=1) tf
 have lg:=zF (P:=E) zIQ (o:=0) G.g
 simp only [lnth,zAu] at lf lg
 have ht:t<cells.length:=by rw [G.len];exact (List.getElem?_eq_some_iff.1 hS).1
 have hc:cells[t]?=some cells[t]:=List.getElem?_eq_getElem ht
 have ls:=zF (P:=E) zIP (o:=0+t*1) G.s
 rw [zA7,show 0+t*1=t by omega,hc] at ls
 have ia:=zOl (b:=bs) (o:=0) (c:=cells.length) ht
 rw [show 0+t*1=t by omega] at ia
 have au:=G.cell t _ _ hc hS
 have fR:=zjv (h0:=k1) (v:=cells[t]) (f:=.func (.func 174) #[] #[ptr (k.next+1),ptr k.next]) (p:=pAt S (zFN R x)) (zFr au) (by simp;omega) (fun k2 hk2 i e he=>by
  simp only [List.getElem?_map] at he
  cases hy:S[i]? with
  | none=>rw [hy] at he;cases he
  | some y=>
   rw [hy] at he
   simp only [Option.map_some,Option.some.injEq] at he
   subst he
   have:=zju (k:=k2) (y:=y) (gx:=gx) (gy:=ptr bg) hk2.ok ((hk2.get m (Nat.lt_of_lt_of_le aT o1.ext.next)).trans ep) (Nat.lt_of_lt_of_le (Nat.lt_of_lt_of_le aT o1.ext.next) hk2.next) hR ((hk2.get _ (by omega)).trans tx) (by have:=hk2.next;omega) ((hk2.get _ (by omega)).trans tf) (by have:=hk2.next;omega)
   simp only [zFK,List.nil_append,List.cons_append,pAt,hy]
   exact this) (Ext.refl o1.ext.ok)
 simp only [zDn,zJ6,Nat.add_zero,Nat.zero_add,lf,zA,zA1,zG3,lg,ia,ls,zBJ,zQ,fR,zP,zAS,zX,true_and]
 refine ⟨?_,o1.wm⟩
 rw [zi5,List.length_map,zkO]
 rfl
theorem zjL {α:Type} {l:List α} {Q:α->Prop} (h1:l≠[]) (h2:∀ a∈l,Q a):Ev false (some l) Q:=⟨l,rfl,h1,(fun h=>by cases h),h2⟩
theorem zKi {α:Type}:∀ (l pre:List α) (x:α×List α),x∈zJb pre l->∃ l1 l2,l=l1++x.1::l2/\x.2=pre++l1++l2
 | [],_,x,h=>by cases h
 | a::l,pre,x,h=>by
  simp only [zJb,List.mem_cons] at h
  rcases h with rfl|h
  ·exact ⟨[],l,rfl,by simp⟩
  ·obtain ⟨l1,l2,e1,e2⟩:=zKi l (pre++[a]) x h
   exact ⟨a::l1,l2,by rw [e1];rfl,by rw [e2];simp⟩
theorem zKy {h:AH} {m ver:Nat} {es:List (Value×Value)} (hm:h.get m=some (.map es ver)):zGT (some (.map (some m))) h=one (ptr h.next,h.new (.iter (some m) ver es none)):=by
 simp only [zGT,hm]
theorem zOU {h:AH} {b m ver:Nat} {es:List (Value×Value)} {cur:Option (Value×Value)} (hb:h.get b=some (.iter (some m) ver [] cur)) (hm:h.get m=some (.map es ver)) :
  zGh false (some (ptr b)) h=one (.tuple #[.bool false],h):=by
 simp only [zGh,zTW,hb,hm,Nat.beq_refl,Bool.not_true,Bool.false_eq_true,if_false]
theorem zK3 {h:AH} {b m ver:Nat} {es left:List (Value×Value)} {cur:Option (Value×Value)} {Q:Value×AH->Prop} (hb:h.get b=some (.iter (some m) ver left cur)) (hm:h.get m=some (.map es ver)) (hl:left≠[])
  (hQ:∀ e l1 l2,left=l1++e::l2->Q (.tuple #[.bool true,e.1,e.2],h.upd b (some (.iter (some m) ver (l1++l2) (some e))))):Ev false (zGh false (some (ptr b)) h) Q:=by
 cases left with
 | nil=>exact absurd rfl hl
 | cons a l=>
  have:zGh false (some (ptr b)) h=some ((zJb [] (a::l)).map fun x=>(.tuple #[.bool true,x.1.1,x.1.2],h.upd b (some (.iter (some m) ver x.2 (some x.1))))):=by
   simp only [zGh,zTW,hb,hm,Nat.beq_refl,Bool.not_true,Bool.false_eq_true,if_false]
  rw [this]
  refine zjL (by simp [zJb]) fun y hy=>?_
  obtain ⟨x,hx,rfl⟩:=List.mem_map.1 hy
  obtain ⟨l1,l2,e1,e2⟩:=zKi _ _ _ hx
  rw [e2]
  exact hQ x.1 l1 l2 e1
theorem zOx {h:AH} {b m ver:Nat} {es left:List (Value×Value)} {e:Value×Value} (hb:h.get b=some (.iter (some m) ver left (some e))) (hm:h.get m=some (.map es ver)):zHJ (some (ptr b)) h=some (.tuple #[e.1,e.2]):=by
 simp only [zHJ,zOy,hb,hm,Nat.beq_refl,if_true]
theorem zLU {R:Rel} {e:Value×Value} {l1 l2:List (Value×Value)} (h:ent R=l1++e::l2):∃ R1 p R2,R=R1++p::R2/\l1=ent R1/\e=(.agg ⟨zH p⟩,.bool true)/\l2=ent R2:=by
 unfold ent at h
 obtain ⟨R1,R3,e1,e2,e3⟩:=List.map_eq_append_iff.1 h
 obtain ⟨p,R2,e4,e5,e6⟩:=List.map_eq_cons_iff.1 e3
 exact ⟨R1,p,R2,by rw [e1,e4],e2.symm,e5.symm,e6.symm⟩
theorem zIz (R1 R2:Rel):ent R1++ent R2=ent (R1++R2):=by simp [ent]
theorem zNu {k:AH} {p:Int×Int} :
  zf E 54 (k.new (rO [iI 0,iI 0] 54)) (some (ptr k.next)) (some (.agg ⟨zH p⟩))=one (undef,(k.new (rO [iI 0,iI 0] 54)).upd k.next (some (rO (zH p) 54))):=by
 rw [z7 (P:=E) zID (x:=.agg ⟨zH p⟩) (cs:=zH p) (zI k _) rfl rfl (by simp) (by simp [zH,zq])]
 rfl
theorem zhx {k:AH} {p:Int×Int} :
  zf E 134 (k.new (rO [iI 0,iI 0] 134)) (some (ptr k.next)) (some (.agg ⟨zH p⟩))=one (undef,(k.new (rO [iI 0,iI 0] 134)).upd k.next (some (rO (zH p) 134))):=by
 rw [z7 (P:=E) zlK (x:=.agg ⟨zH p⟩) (cs:=zH p) (zI k _) rfl rfl (by simp) (by simp [zH,zq])]
 rfl
def zU9 (R:Rel) (SS:List zAF) (fB:Int×Int->Int×Int->Bool):Bool:=R.all fun p=>match SS[p.1.toNat]? with
 | some S=>S.all (fB p)
 | none=>true
theorem zUn {h0 k:AH} {b1 b2 m ver:Nat} {R:Rel} {SS:List zAF} {fol can:FuncId} {nm:ByteArray} {fB:Int×Int->Int×Int->Bool} (hh:Ext h0 k) (hm:h0.get m=some (.map (ent R) ver)) (aT:m<h0.next) (hg:GV h0 b1 SS)
  (ai:∀ p∈R,0<=p.1/\p.1<SS.length) (hsz:∀ (i:Nat) (S:zAF),SS[i]?=some S->S.length<=1000000)
  (hfol:∀ k',Ext h0 k'->∀ p∈R,∀ x S,SS[p.1.toNat]?=some S->x∈S->(zY E).call fol [.agg ⟨zAu (ptr b1) (ptr b2) m⟩,iI p.1,iI p.2,.agg ⟨zH x⟩] k'=some [(.bool (fB p x),k')]) :
  (zY E).call 124 [.agg ⟨zAu (ptr b1) (ptr b2) m⟩,.agg ⟨[.func (.func fol) #[] #[],.func (.func can) #[] #[],.string nm]⟩] k=some [(.bool (zU9 R SS fB),k)]:=by
 refine zc0 (s:=false) hh.ok rfl (zbL ?_)
 simp only [zg,zK,zT,zA]
 refine zbK ?_
 have o1:=((Own.fresh k).new (.row (zAu (ptr b1) (ptr b2) m) 178 0 false)).new (.row [.func (.func fol) #[] #[],.func (.func can) #[] #[],.string nm] 112 0 false)
 have tf:((k.fresh.new (.row (zAu (ptr b1) (ptr b2) m) 178 0 false)).new (.row [.func (.func fol) #[] #[],.func (.func can) #[] #[],.string nm] 112 0 false)).get k.next=some (.row (zAu (ptr b1) (ptr b2) m) 178 0 false):=by
  rw [zL (by simp)];exact zI k.fresh _
 have tm:((k.fresh.new (.row (zAu (ptr b1) (ptr b2) m) 178 0 false)).new (.row [.func (.func fol) #[] #[],.func (.func can) #[] #[],.string nm] 112 0 false)).get (k.next+1)=some (.row [.func (.func fol) #[] #[],.func (.func can) #[] #[],.string nm] 112 0 false):=zI (k.fresh.new _) _
 have n1:((k.fresh.new (.row (zAu (ptr b1) (ptr b2) m) 178 0 false)).new (.row [.func (.func fol) #[] #[],.func (.func can) #[] #[],.string nm] 112 0 false)).next=k.next+2:=rfl
 simp only [zb,AH.next_new]
 generalize ((k.fresh.new (.row (zAu (ptr b1) (ptr b2) m) 178 0 false)).new (.row [.func (.func fol) #[] #[],.func (.func can) #[] #[],.string nm] 112 0 false))=k1 at o1 tf tm n1
 have e1:=hh.trans o1.ext
 have l2:=zF (P:=E) zKl (o:=2) tf
 simp only [lnth,zAu] at l2
 have ep:=(e1.get m aT).trans hm
 simp only [zDn,zFk,Nat.add_zero,Nat.zero_add,l2,zA,zKy ep,zK]
 have loop:∀ (n:Nat) (Lf:Rel),Lf.length=n->(∀ p∈Lf,p∈R)->zU9 R SS fB=zU9 Lf SS fB->∀ l cur,Own k l->l.get k.next=some (.row (zAu (ptr b1) (ptr b2) m) 178 0 false)->l.get (k.next+1)=some (.row [.func (.func fol) #[] #[],.func (.func can) #[] #[],.string nm] 112 0 false)->
   l.get k1.next=some (.iter (some m) ver (ent Lf) cur)->k1.next<l.next->
   zoR false (KR E [.tmp 4] (fun x l=>x=.bool (zU9 R SS fB)/\k.next<=l.wm)) (ptr k.next) (ptr (k.next+1)) (ptr k1.next) l:=by
  intro n
  induction n with
  | zero=>
   intro Lf hLf am dq l cur ho hf hmm hit ab
   have:Lf=[]:=List.length_eq_zero_iff.1 hLf
   subst this
   refine zMQ ?_
   have cD:=((hh.trans ho.ext).get m aT).trans hm
   simp only [zOU hit cD,zK,ze,lnth,zA,zj]
   refine zRg ?_
   simp only [zA,zAS,zX,true_and]
   exact ⟨by rw [dq];rfl,ho.wm⟩
  | succ n ih=>
   intro Lf hLf am dq l cur ho hf hmm hit ab
   refine zMQ ?_
   have he:=hh.trans ho.ext
   have cD:=(he.get m aT).trans hm
   refine zK3 hit cD (by cases Lf with|nil=>simp at hLf|cons a l=>simp [ent]) fun e l1 l2 dj=>?_
   obtain ⟨R1,p,R2,hR,c9,hep,fe⟩:=zLU dj
   subst hep
   rw [c9,fe,zIz]
   simp only [ze,lnth,zA,zz]
   refine zbJ ?_
   have eA:=ho.ext.next
   have o2:=ho.upd (b:=k1.next) (by omega) (some (.iter (some m) ver (ent (R1++R2)) (some (.agg ⟨zH p⟩,.bool true))))
   have i2:(l.upd k1.next (some (.iter (some m) ver (ent (R1++R2)) (some (.agg ⟨zH p⟩,.bool true))))).get k1.next=_:=zO _ _ _
   have f2:(l.upd k1.next (some (.iter (some m) ver (ent (R1++R2)) (some (.agg ⟨zH p⟩,.bool true))))).get k.next=_:=(zW (by omega)).trans hf
   have m2:(l.upd k1.next (some (.iter (some m) ver (ent (R1++R2)) (some (.agg ⟨zH p⟩,.bool true))))).get (k.next+1)=_:=(zW (by omega)).trans hmm
   have n2:(l.upd k1.next (some (.iter (some m) ver (ent (R1++R2)) (some (.agg ⟨zH p⟩,.bool true))))).next=l.next:=rfl
   generalize (l.upd k1.next (some (.iter (some m) ver (ent (R1++R2)) (some (.agg ⟨zH p⟩,.bool true)))))=l2 at o2 i2 f2 m2 n2
   have hml2:=((hh.trans o2.ext).get m aT).trans hm
   simp only [zOx i2 hml2,zA,ze,lnth,zdI,zg,zK,zT,zNu]
   refine zbI ?_
   have o3:=(o2.new (rO [iI 0,iI 0] 54)).upd (b:=l2.next) (by omega) (some (rO (zH p) 54))
   have p3:((l2.new (rO [iI 0,iI 0] 54)).upd l2.next (some (rO (zH p) 54))).get l2.next=some (rO (zH p) 54):=zO _ _ _
   have i3:((l2.new (rO [iI 0,iI 0] 54)).upd l2.next (some (rO (zH p) 54))).get k1.next=_:=((zW (by omega)).trans (zL (by omega))).trans i2
   have f3:((l2.new (rO [iI 0,iI 0] 54)).upd l2.next (some (rO (zH p) 54))).get k.next=_:=((zW (by omega)).trans (zL (by omega))).trans f2
   have m3:((l2.new (rO [iI 0,iI 0] 54)).upd l2.next (some (rO (zH p) 54))).get (k.next+1)=_:=((zW (by omega)).trans (zL (by omega))).trans m2
   have n3:((l2.new (rO [iI 0,iI 0] 54)).upd l2.next (some (rO (zH p) 54))).next=l2.next+1:=rfl
   generalize ((l2.new (rO [iI 0,iI 0] 54)).upd l2.next (some (rO (zH p) 54)))=l3 at o3 p3 i3 f3 m3 n3
   have hpR:p∈R:=am p (by rw [hR];simp)
   obtain ⟨hp1,hp2⟩:=ai p hpR
   obtain ⟨s,hs⟩:=Int.eq_ofNat_of_zero_le hp1
   have hsS:s<SS.length:=by omega
   have gT:SS[s]?=some SS[s]:=List.getElem?_eq_getElem hsS
   have hSp:SS[p.1.toNat]?=some SS[s]:=by rw [hs];exact gT
   obtain ⟨loc,bs,cells,G⟩:=(hg.ext (hh.trans o3.ext)).ex
   have eL:s<cells.length:=by rw [G.len];exact hsS
   have aR:cells[s]?=some cells[s]:=List.getElem?_eq_getElem eL
   have q0:=zF (P:=E) zDN (o:=0) f3
   have q1:=zF (P:=E) zIQ (o:=0) G.g
   have q2:=zF (P:=E) zAb (o:=0) p3
   have q3:=zF (P:=E) zIP (o:=0+s*1) G.s
   simp only [lnth,zAu,zH] at q0 q1 q2
   rw [zA7,show 0+s*1=s by omega,aR] at q3
   rw [hs] at q2
   have ia:=zOl (b:=bs) (o:=0) (c:=cells.length) eL
   rw [show 0+s*1=s by omega] at ia
   have au:=G.cell s _ _ aR gT
   obtain ⟨ca,cc,bT⟩:=(zFr au).slice
   rw [List.length_map] at bT
   have av:=zFr au
   rw [bT] at q3 av
   simp only [zDn,zOw,Nat.add_zero,q0,zA,zA1,zG3,q1,zFd,q2,ia,q3,zNE]
   have fM:zU9 Lf SS fB=((SS[s]).all (fB p)&&zU9 (R1++R2) SS fB):=by
    rw [hR]
    simp only [zU9,List.all_append,List.all_cons,hSp]
    cases (SS[s]).all (fB p) <;> simp
   have steps:∀ (j i:Nat),i+j=(SS[s]).length->((SS[s]).drop i).all (fB p)=(SS[s]).all (fB p)->∀ l4,Ext l3 l4->k.next<=l4.wm->
     zoQ false (KR E [.tmp 4] (fun x l=>x=.bool (zU9 R SS fB)/\k.next<=l.wm)) (ptr k.next) (ptr (k.next+1)) (ptr l2.next) (ptr k1.next) (.slice ca (SS[s]).length cc) (iI ((SS[s]).length:Int)) (iI (i:Int)) l4:=by
    intro j
    induction j with
    | zero=>
     intro i hi aA l4 he4 hw4
     have hx:=he4.next
     refine zMP ?_
     simp only [zZ,zA,zAM]
     refine ⟨fun h=>by omega,fun _=>?_⟩
     have ht:(SS[s]).all (fB p)=true:=by rw [← aA,List.drop_eq_nil_of_le (by omega)];rfl
     exact ih (R1++R2) (by rw [hR] at hLf;simp at hLf ⊢;omega) (fun q hq=>am q (by rw [hR];rcases List.mem_append.1 hq with h|h <;> simp [h])) (by rw [dq,fM,ht];rfl) l4 _ ⟨o3.ext.trans he4,hw4⟩
      ((he4.get _ (by omega)).trans f3) ((he4.get _ (by omega)).trans m3) ((he4.get _ (by omega)).trans i3) (by omega)
    | succ j ihj=>
     intro i hi aA l4 he4 hw4
     have hx:=he4.next
     have aO:i<(SS[s]).length:=by omega
     refine zMP ?_
     simp only [zZ,zA,zAM]
     refine ⟨fun _=>zbH ?_,fun h=>by omega⟩
     have bA:((SS[s]).map zH)[i]?=some (zH (SS[s])[i]):=by simp [aO]
     obtain ⟨b',o',c',vs',ty',es',ro',aC,ao,aD,bO,bI,bH⟩:=av.load bA
     simp only [Value.slice.injEq] at aC
     obtain ⟨bk,_,_⟩:=aC
     subst bk
     have gb':=(he4.get b' aD).trans ao
     simp only [zUB aO,zA,zV zIO gb' bO,bI,zlB,zg,zK,zT,zhx]
     refine zbG ?_
     have e5:=(he4.new (rO [iI 0,iI 0] 134)).upd (b:=l4.next) hx (some (.row (zH (SS[s])[i]) 134 0 false))
     have x5:((l4.new (rO [iI 0,iI 0] 134)).upd l4.next (some (.row (zH (SS[s])[i]) 134 0 false))).get l4.next=some (.row (zH (SS[s])[i]) 134 0 false):=zO _ _ _
     have w5:k.next<=((l4.new (rO [iI 0,iI 0] 134)).upd l4.next (some (.row (zH (SS[s])[i]) 134 0 false))).wm:=zAG (by rw [zDK];exact hw4) (by omega)
     generalize ((l4.new (rO [iI 0,iI 0] 134)).upd l4.next (some (.row (zH (SS[s])[i]) 134 0 false)))=l5 at e5 x5 w5
     have f5:=(e5.get _ (by omega)).trans f3
     have m5:=(e5.get _ (by omega)).trans m3
     have p5:=(e5.get _ (by omega)).trans p3
     have r0:=zF (P:=E) zlS (o:=0) m5
     have r1:=zV (P:=E) zhQ (o:=0) f5 (by simp [zAu])
     have r2:=zF (P:=E) zAb (o:=0) p5
     have r3:=zF (P:=E) zAb (o:=1) p5
     have r4:=zV (P:=E) zIO (o:=0) x5 (by simp [zH])
     rw [List.drop_zero,List.take_of_length_le (by simp [zAu])] at r1
     rw [List.drop_zero,List.take_of_length_le (by simp [zH])] at r4
     simp only [lnth,zH] at r0 r2 r3
     have ct:=hfol l5 ((hh.trans o3.ext).trans e5) p hpR (SS[s])[i] _ hSp (List.getElem_mem aO)
     simp only [zdq,Nat.add_zero,Nat.zero_add,r0,r1,r2,r3,r4,zA,zFd,zFc,zQ,ct,zP,z6]
     have fO:((SS[s]).drop i).all (fB p)=(fB p (SS[s])[i]&&((SS[s]).drop (i+1)).all (fB p)):=by rw [List.drop_eq_getElem_cons aO,List.all_cons]
     cases hq:fB p (SS[s])[i] with
     | false=>
      simp only [Bool.not_false,zz]
      refine zbF ?_
      simp only [zA,zAS,zX,true_and]
      exact ⟨by rw [dq,fM,← aA,fO,hq];rfl,w5⟩
     | true=>
      simp only [Bool.not_true,zj]
      refine zbE ?_
      simp only [zAD _ (zEA aO (by have:=hsz s _ gT;omega)),zA]
      have:=ihj (i+1) (by omega) (by rw [← aA,fO,hq];rfl) l5 e5 w5
      simpa using this
   exact steps (SS[s]).length 0 (by omega) rfl l3 (Ext.refl o3.ext.ok) o3.wm
 exact loop R.length R rfl (fun p h=>h) rfl _ none (o1.new _) ((zL (by omega)).trans tf) ((zL (by omega)).trans tm) (zI _ _) (by simp)
end Go.Proofs
