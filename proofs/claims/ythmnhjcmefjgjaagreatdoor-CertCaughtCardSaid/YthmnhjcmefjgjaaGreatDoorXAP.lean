import Derived.Test.YthmnhjcmefjgjaaGreatDoorXAO
import Derived.Test.YthmnhjcmefjgjaaGreatDoorXAF
set_option linter.all false
set_option linter.unusedSectionVars false
set_option autoImplicit true
set_option relaxedAutoImplicit true
namespace Go.Proofs
open Go Go.AM
set_option maxRecDepth 100000
set_option maxHeartbeats 2000000
theorem nwUp {k l:AH} (o:Own k l) (x y:AObj):∃ m,(l.new x).upd l.next (some y)=m/\m.next=l.next+1/\m.get l.next=some y/\Own k m/\∀ b,b<l.next->m.get b=l.get b:=
 ⟨_,rfl,rfl,zR _ _ _,(o.new x).upd o.ext.next _,fun b hb=>by rw [zU (by omega),zK (by omega)]⟩
theorem zTg {g:Int} {l:List GT} (c1:¬ g < -3) (c2:¬ 31<g) (c3:¬ (8:Int)<(l.length:Int)) (c4:(zTe g&&decide ((0:Int)<(l.length:Int)))=false) (c5:∀ (j:Nat) (t:GT),l[j]?=some t->zFn t=true):zA0 g l=false:=by
 have h5:zm (zNX l zFn) l.length 0<0:=(zBW _ _).1 fun j _ _=>by
  unfold zNX
  cases ht:l[j]? with
  | none=>rfl
  | some t=>simp [c5 j t ht]
 simp only [zA0,Bool.or_eq_false_iff,decide_eq_false_iff_not]
 refine ⟨⟨⟨⟨c1,by omega⟩,by omega⟩,?_⟩,by omega⟩
 cases hb:zTe g with
 | false=>rfl
 | true=>
  rw [hb] at c4
  simp only [Bool.true_and,decide_eq_false_iff_not] at c4 ⊢
  omega
theorem zTT (a b:Int):(a<b/\c3 a b=-1)\/(a=b/\c3 a b=0)\/(b<a/\c3 a b=1):=by
 unfold c3
 split
 ·exact .inl ⟨by assumption,rfl⟩
 ·split
  ·exact .inr (.inr ⟨by assumption,rfl⟩)
  ·exact .inr (.inl ⟨by omega,rfl⟩)
theorem zMt (e f:Int×Int×Int):zTC e f<0 ↔ e.1<f.1\/(e.1=f.1/\(e.2.1<f.2.1\/(e.2.1=f.2.1/\e.2.2<f.2.2))):=by
 simp only [zTC,orI]
 rcases zTT e.1 f.1 with ⟨a,a'⟩|⟨a,a'⟩|⟨a,a'⟩ <;> rcases zTT e.2.1 f.2.1 with ⟨b,b'⟩|⟨b,b'⟩|⟨b,b'⟩ <;> rcases zTT e.2.2 f.2.2 with ⟨c,c'⟩|⟨c,c'⟩|⟨c,c'⟩ <;> rw [a',b',c'] <;> simp <;> omega
theorem zF0 {p:Nat->Bool}:∀ {m i:Nat},(∀ j,i<=j->j<i+m->p j=false)->zAI p m i=false
 | 0,_,_=>rfl
 | m+1,i,h=>by
  simp only [zAI,Bool.or_eq_false_iff]
  exact ⟨h i (by omega) (by omega),zF0 fun j h1 h2=>h j (by omega) (by omega)⟩
theorem zTf {L:GL} (h1:zA3 L=false) (h2:∀ j,j<L.labs.length->zBF L.labs j=false) (h3:∀ j,j<L.eds.length->zBL L.n L.labs.length L.eds j=false):zAL L=false:=by
 unfold zAL
 rw [h1,zF0 fun j _ h=>h2 j (by omega),zF0 fun j _ h=>h3 j (by omega)]
 rfl
theorem zbt {n m:Int} {es:List (Int×Int×Int)} {i:Nat} {e:Int×Int×Int} (he:es[i]?=some e) (r:0<=e.1/\e.1<n/\0<=e.2.2/\e.2.2<n/\0<=e.2.1/\e.2.1<m) (hp:0<i->∀ f,es[i-1]?=some f->zTC f e<0):zBL n m es i=false:=by
 unfold zBL
 obtain ⟨a1,a2,a3,a4,a5,a6⟩:=r
 simp only [he,a1,a2,a3,a4,a5,a6,decide_true,Bool.and_self,Bool.not_true,Bool.false_or]
 by_cases hi:0<i
 ·rw [decide_eq_true hi]
  cases hf:es[i-1]? with
  | none=>rfl
  | some f=>exact (Bool.true_and _).trans (decide_eq_false (by have:=hp hi f hf;omega))
 ·rw [decide_eq_false hi];rfl
theorem zSb {ls:List (Int×List GT)} {i:Nat} {x:Int×List GT} (he:ls[i]?=some x) (h1:zA0 x.1 x.2=false) (hp:0<i->∀ y,ls[i-1]?=some y->zCM y.1 y.2 x.1 x.2<0):zBF ls i=false:=by
 unfold zBF
 simp only [he,h1,Bool.false_or]
 by_cases hi:0<i
 ·rw [decide_eq_true hi]
  cases hf:ls[i-1]? with
  | none=>rfl
  | some f=>exact (Bool.true_and _).trans (decide_eq_false (by have:=hp hi f hf;omega))
 ·rw [decide_eq_false hi];rfl
theorem call138 {h0 k:AH} {g:Int} {v:Value} {l:List GT} (hr:RT h0 v l) (hk:Ext h0 k):∃ x,zAg (zA0 g l=false) x/\(zW E).call 138 [.agg ⟨[.int .i64 g,v]⟩] k=some [(x,k)]:=by
 have hs:=hr.slice
 cases hr with
 | @mk _ els _ ha hn hc=>
 have hlen:=RC.length hc
 obtain ⟨sa,sc,rfl⟩:=hs
 refine zQ5 hk.ok (zZd ?_)
 obtain ⟨k1,e1,n1,t1,o1,f1⟩:=nwF k (.row [.int .i64 g,.slice sa l.length sc] 36 0 false)
 simp only [zd,zL,zV,zA,e1,zZ]
 have l0:=zF (P:=E) zAS (o:=0) t1
 have l1:=zF (P:=E) zDP (o:=1) t1
 simp only [lnth] at l0 l1
 have ex:=hk.trans o1.ext
 have no:P138_2 true (KB k [.tmp 2] (zAg (zA0 g l=false))) k1:=zZb (by simp only [zA,zAJ,zT,true_and];exact ⟨⟨rfl,_,rfl,fun h=>by cases h⟩,o1.wm⟩)
 have no4:P138_4 true (KB k [.tmp 2] (zAg (zA0 g l=false))) k1:=zZZ (by simp only [zA,zAJ,zT,true_and];exact ⟨⟨rfl,_,rfl,fun h=>by cases h⟩,o1.wm⟩)
 have no9:P138_9 true (KB k [.tmp 2] (zAg (zA0 g l=false))) k1:=zZV (by simp only [zA,zAJ,zT,true_and];exact ⟨⟨rfl,_,rfl,fun h=>by cases h⟩,o1.wm⟩)
 have yes:zA0 g l=false->P138_11 true (KB k [.tmp 2] (zAg (zA0 g l=false))) k1:=fun h=>zQf (by simp only [zA,zAJ,zT,true_and];exact ⟨⟨rfl,_,rfl,fun _=>h⟩,o1.wm⟩)
 have loop:¬ g < -3->¬ 31<g->¬ (8:Int)<(l.length:Int)->(zTe g&&decide ((0:Int)<(l.length:Int)))=false->∀ (m i:Nat),i+m=l.length->(∀ (j:Nat) (t:GT),j<i->l[j]?=some t->zFn t=true)->P138_6 true (KB k [.tmp 2] (zAg (zA0 g l=false))) (.pointer (some ⟨k.next,0,none⟩)) (.int .i64 (i:Int)) k1:=by
  intro c1 c2 c3 c4 m
  induction m with
  | zero=>
   intro i hi hp
   refine zLf ?_
   simp only [zBy,Nat.zero_add,l1,zA,zIE,zY,show decide ((i:Int)<(l.length:Int))=false from decide_eq_false (by omega),zk]
   exact yes (zTg c1 c2 c3 c4 fun j t hj=>hp j t (by have:=(List.getElem?_eq_some_iff.1 hj).1;omega) hj)
  | succ m ih=>
   intro i hi hp
   refine zLf ?_
   simp only [zBy,Nat.zero_add,l1,zA,zIE,zY,show decide ((i:Int)<(l.length:Int))=true from decide_eq_true (by omega),zu]
   refine zZX ?_
   obtain ⟨x,hx⟩:∃ x,els[i]?=some x:=⟨_,List.getElem?_eq_getElem (by omega)⟩
   obtain ⟨p1,q1,w1⟩:=zKa ha ex hx
   obtain ⟨ck,cn,cv,cl,rfl,hcr,hcl⟩:=RC.at hc i x hx
   obtain ⟨y,⟨b,rfl,hbt⟩,hb⟩:=call187 hcr ex ck cn
   simp only [zBy,Nat.zero_add,l1,zA,q1,w1,zS,hb,zN]
   refine zZW ?_
   simp only [zA,zv]
   cases b with
   | false=>simp only [Bool.not_false,zu];exact no9
   | true=>
    simp only [Bool.not_true,zk]
    refine zQg ?_
    simp only [zA,zAM _ (zD7 (show i<l.length by omega) (by omega))]
    refine ih (i+1) (by omega) fun j t hj ht=>?_
    rcases Nat.lt_succ_iff_lt_or_eq.1 hj with h|h
    ·exact hp j t h ht
    ·subst h;rw [hcl] at ht;cases ht;exact hbt rfl
 have go:¬ g < -3->¬ 31<g->¬ (8:Int)<(l.length:Int)->(zTe g&&decide ((0:Int)<(l.length:Int)))=false->P138_5 true (KB k [.tmp 2] (zAg (zA0 g l=false))) (.pointer (some ⟨k.next,0,none⟩)) k1:=fun c1 c2 c3 c4=>zZY (by exact loop c1 c2 c3 c4 l.length 0 (by omega) fun j t hj=>by omega)
 have mid:¬ g < -3->¬ 31<g->¬ (8:Int)<(l.length:Int)->P138_3 true (KB k [.tmp 2] (zAg (zA0 g l=false))) (.pointer (some ⟨k.next,0,none⟩)) k1:=by
  intro c1 c2 c3
  refine zZa ?_
  cases h1:decide (g=-3) <;> cases h2:decide (g=-1) <;> cases h3:decide ((0:Int)<(l.length:Int)) <;>
   simp only [zBI,zBy,Nat.zero_add,Nat.add_zero,l0,l1,zA,zMO,zAZ,zAH,h1,h2,h3,zM,beq_self_eq_true,show (true==false)=false from rfl,show (false==true)=false from rfl,cond_true,cond_false,zJ,zu,zk] <;> first|exact no4|exact go c1 c2 c3 (by simp only [zTe,h1,h2,h3];rfl)
 refine zZc ?_
 cases h1:decide (g < -3) <;> cases h2:decide (31<g) <;> cases h3:decide ((8:Int)<(l.length:Int)) <;>
  simp only [zBI,zBy,Nat.zero_add,Nat.add_zero,l0,l1,zA,zMP,zY,zAH,h1,h2,h3,zM,beq_self_eq_true,show (true==false)=false from rfl,show (false==true)=false from rfl,cond_true,cond_false,zJ,zu,zk] <;> first|exact no|exact mid (of_decide_eq_false h1) (of_decide_eq_false h2) (of_decide_eq_false h3)
theorem call139 {k:AH} {e f:Int×Int×Int} (hok:k.ok):(zW E).call 139 [.agg ⟨zb e⟩,.agg ⟨zb f⟩] k=some [(.bool (decide (zTC e f<0)),k)]:=by
 refine za2 (s:=true) hok rfl (zZU ?_)
 obtain ⟨k1,e1,n1,t1,o1,f1⟩:=nwF k (.row (zb e) 52 0 false)
 obtain ⟨k2,e2,n2,t2,o2,f2⟩:=nw o1 (.row (zb f) 52 0 false)
 simp only [zd,zL,zV,zA,e1,e2,zZ]
 have g1:=(f2 k.next (by omega)).trans t1
 have l0:=zF (P:=E) zAS (o:=0) g1
 have l1:=zF (P:=E) zAS (o:=1) g1
 have l2:=zF (P:=E) zAS (o:=2) g1
 have m0:=zF (P:=E) zAS (o:=0) t2
 have m1:=zF (P:=E) zAS (o:=1) t2
 have m2:=zF (P:=E) zAS (o:=2) t2
 simp only [lnth,zb] at l0 l1 l2 m0 m1 m2
 refine zZT ?_
 simp only [zDY,Nat.add_zero,l0,m0,zA,zAz,zM4]
 refine ⟨fun h1=>zZS ?_,fun h1=>zZR ?_⟩
 ·simp only [zDY,Nat.add_zero,l0,m0,zA,zY,zAJ,zT,true_and];exact ⟨congrArg Value.bool (decide_eq_decide.2 (by rw [zMt];omega)),o2.wm⟩
 simp only [zDX,Nat.zero_add,l1,m1,zA,zAz,zM4]
 refine ⟨fun h2=>zZQ ?_,fun h2=>zZP ?_⟩
 ·simp only [zDX,Nat.zero_add,l1,m1,zA,zY,zAJ,zT,true_and];exact ⟨congrArg Value.bool (decide_eq_decide.2 (by rw [zMt];omega)),o2.wm⟩
 ·simp only [zBx,Nat.zero_add,l2,m2,zA,zY,zAJ,zT,true_and];exact ⟨congrArg Value.bool (decide_eq_decide.2 (by rw [zMt];omega)),o2.wm⟩
theorem subN1 {i:Nat} (hi:0<i) (hn:i<=9223372036854775807):zC E .sub 3 (.int .i64 (i:Int)) (.int .i64 1)=some (.int .i64 ((i-1:Nat):Int)):=by
 rw [zHR _ (show zCx ((i:Int)-1) by unfold zCx;omega)]
 congr 2;omega
theorem call85 {k:AH} {x:Value} {L:GL} (hok:k.ok) (hx:RL k x L):∃ y,zAg (zAL L=false) y/\(zW E).call 85 [x] k=some [(y,k)]:=by
 obtain ⟨vl,ve,els,rfl,x2,x3,x4⟩:=hx.ex
 refine zaJ hok (zcy ?_)
 obtain ⟨k1,e1,n1,t1,o1,f1⟩:=nwF k (.row [.int .i64 L.n,vl,ve] 25 0 false)
 simp only [zd,zL,zV,zA,e1,zZ]
 have l0:=zF (P:=E) zAS (o:=0) t1
 have l1:=zF (P:=E) zGI (o:=1) t1
 have l2:=zF (P:=E) zEe (o:=2) t1
 simp only [lnth] at l0 l1 l2
 have hL:=RLab.length x3
 obtain ⟨sa,sc,hvl⟩:=x2.slice
 obtain ⟨sb,sd,hve⟩:=x4.slice
 rw [List.length_map] at hve
 have no:P85_2 true (KB k [.tmp 2] (zAg (zAL L=false))) k1:=zcw (by simp only [zA,zAJ,zT,true_and];exact ⟨⟨rfl,_,rfl,fun h=>by cases h⟩,o1.wm⟩)
 have no7:P85_7 true (KB k [.tmp 2] (zAg (zAL L=false))) k1:=zcs (by simp only [zA,zAJ,zT,true_and];exact ⟨⟨rfl,_,rfl,fun h=>by cases h⟩,o1.wm⟩)
 have no9:P85_9 true (KB k [.tmp 2] (zAg (zAL L=false))) k1:=zcq (by simp only [zA,zAJ,zT,true_and];exact ⟨⟨rfl,_,rfl,fun h=>by cases h⟩,o1.wm⟩)
 have eloop:L.eds.length<=100000->zA3 L=false->(∀ j,j<L.labs.length->zBF L.labs j=false)->∀ (m i:Nat),i+m=L.eds.length->(∀ j,j<i->zBL L.n L.labs.length L.eds j=false)->∀ l,Own k l->l.get k.next=some (.row [.int .i64 L.n,vl,ve] 25 0 false)->k.next<l.next->
   P85_12 true (KB k [.tmp 2] (zAg (zAL L=false))) (.pointer (some ⟨k.next,0,none⟩)) (.int .i64 (i:Int)) l:=by
  intro hb hz hlb m
  induction m with
  | zero=>
   intro i hi hp l ol tl hn
   have l2:=zF (P:=E) zEe (o:=2) tl
   simp only [lnth] at l2
   refine zK1 ?_
   rw [hve] at l2
   simp only [zBJ,Nat.zero_add,l2,zA,zH7,zY,show decide ((i:Int)<(L.eds.length:Int))=false from decide_eq_false (by omega),zk]
   exact zUd (by simp only [zA,zAJ,zT,true_and];exact ⟨⟨rfl,_,rfl,fun _=>zTf hz hlb fun j hj=>hp j (by omega)⟩,ol.wm⟩)
  | succ m ih=>
   intro i hi hp l ol tl hn
   have l2:=zF (P:=E) zEe (o:=2) tl
   simp only [lnth] at l2
   have hil:i<L.eds.length:=by omega
   obtain ⟨e,he⟩:∃ e,L.eds[i]?=some e:=⟨_,List.getElem?_eq_getElem hil⟩
   have hx':(L.eds.map zb)[i]?=some (zb e):=by rw [List.getElem?_map,he];rfl
   obtain ⟨p1,q1,w1⟩:=zbj x4 ol.ext hx'
   refine zK1 ?_
   have l2':=l2
   rw [hve] at l2'
   simp only [zBJ,Nat.zero_add,l2',zA,zH7,zY,show decide ((i:Int)<(L.eds.length:Int))=true from decide_eq_true (by omega),zu]
   refine zUj ?_
   obtain ⟨l1',e3,n3,t3,o3,f3⟩:=nwUp ol (.row [.int .i64 0,.int .i64 0,.int .i64 0] 52 0 false) (.row (zb e) 52 0 false)
   simp only [zBJ,Nat.zero_add,l2,zA,q1,w1,z_52,zd,zL,zV,zb1,e3]
   have tl':=(f3 k.next hn).trans tl
   have a0:=zF (P:=E) zAS (o:=0) tl'
   have a1:=zF (P:=E) zGI (o:=1) tl'
   have a2:=zF (P:=E) zEe (o:=2) tl'
   have b0:=zF (P:=E) zAS (o:=0) t3
   have b1:=zF (P:=E) zAS (o:=1) t3
   have b2:=zF (P:=E) zAS (o:=2) t3
   simp only [lnth,zb] at a0 a1 a2 b0 b1 b2
   have next:(0<=e.1/\e.1<L.n/\0<=e.2.2/\e.2.2<L.n/\0<=e.2.1/\e.2.1<(L.labs.length:Int))->P85_16 true (KB k [.tmp 2] (zAg (zAL L=false))) (.pointer (some ⟨k.next,0,none⟩)) (.int .i64 (i:Int)) (.pointer (some ⟨l.next,0,none⟩)) l1':=by
    intro hrg
    have on:(0<i->∀ f,L.eds[i-1]?=some f->zTC f e<0)->P85_18 true (KB k [.tmp 2] (zAg (zAL L=false))) (.pointer (some ⟨k.next,0,none⟩)) (.int .i64 (i:Int)) l1':=by
     intro hpv
     refine zUe ?_
     simp only [zA,zAM _ (zD7 hil (by omega))]
     refine ih (i+1) (by omega) (fun j hj=>?_) l1' o3 tl' (by omega)
     rcases Nat.lt_succ_iff_lt_or_eq.1 hj with h|h
     ·exact hp j h
     ·subst h;exact zbt he hrg hpv
    refine zUg ?_
    simp only [zA,zAH]
    by_cases h0:(0:Int)<(i:Int)
    ·obtain ⟨f,hf⟩:∃ f,L.eds[i-1]?=some f:=⟨_,List.getElem?_eq_getElem (by omega)⟩
     have hy':(L.eds.map zb)[i-1]?=some (zb f):=by rw [List.getElem?_map,hf];rfl
     obtain ⟨p2,q2,w2⟩:=zbj x4 o3.ext hy'
     have ag:=za (P:=E) zJz (o:=0) t3 (by simp [zb])
     rw [show ((zb e).drop 0).take 3=zb e from rfl] at ag
     have hc:=call139 (e:=f) (f:=e) o3.ext.ok
     cases hdec:decide (zTC f e<0) <;> rw [hdec] at hc
     ·simp only [h0,decide_true,zM,zP,beq_self_eq_true,cond_true,zBJ,Nat.zero_add,a2,zA,subN1 (show 0<i by omega) (by omega),q2,w2,ag,zS,hc,zN,zv,zJ]
      simp only [Bool.not_false,zu];exact zUf (by simp only [zA,zAJ,zT,true_and];exact ⟨⟨rfl,_,rfl,fun h=>by cases h⟩,o3.wm⟩)
     ·simp only [h0,decide_true,zM,zP,beq_self_eq_true,cond_true,zBJ,Nat.zero_add,a2,zA,subN1 (show 0<i by omega) (by omega),q2,w2,ag,zS,hc,zN,zv,zJ]
      simp only [Bool.not_true,zk];exact on fun _ g hg=>by rw [hf] at hg;cases hg;exact of_decide_eq_true hdec
    ·simp only [h0,decide_false,zM,zP,show (false==true)=false from rfl,cond_false,zA,zL,zJ,zk]
     exact on fun h=>absurd (by omega) h0
   have no15:P85_15 true (KB k [.tmp 2] (zAg (zAL L=false))) l1':=zUh (by simp only [zA,zAJ,zT,true_and];exact ⟨⟨rfl,_,rfl,fun h=>by cases h⟩,o3.wm⟩)
   refine zUi ?_
   rw [hvl] at a1
   cases h1:decide (e.1<0) <;> cases h2:decide (L.n<=e.1) <;> cases h3:decide (e.2.2<0) <;> cases h4:decide (L.n<=e.2.2) <;> cases h5:decide (e.2.1<0) <;> cases h6:decide ((els.length:Int)<=e.2.1) <;>
    simp only [zA2,zBB,zDY,zDX,zBx,Nat.zero_add,Nat.add_zero,a0,a1,b0,b1,b2,zA,zMF,zY,zAP,h1,h2,h3,h4,h5,h6,zM,beq_self_eq_true,show (true==false)=false from rfl,show (false==true)=false from rfl,cond_true,cond_false,zJ,zu,zk] <;> first|exact no15|exact next (by have:=of_decide_eq_false h1;have:=of_decide_eq_false h2;have:=of_decide_eq_false h3;have:=of_decide_eq_false h4;have:=of_decide_eq_false h5;have:=of_decide_eq_false h6;omega)
 have lloop:els.length<=4000->L.eds.length<=100000->zA3 L=false->∀ (m i:Nat),i+m=els.length->(∀ j,j<i->zBF L.labs j=false)->P85_4 true (KB k [.tmp 2] (zAg (zAL L=false))) (.pointer (some ⟨k.next,0,none⟩)) (.int .i64 (i:Int)) k1:=by
  intro hb hb2 hz m
  induction m with
  | zero=>
   intro i hi hp
   refine zOR ?_
   have l1':=l1
   rw [hvl] at l1'
   simp only [zBB,Nat.zero_add,l1',zA,zKP,zY,show decide ((i:Int)<(els.length:Int))=false from decide_eq_false (by omega),zk]
   refine zUk ?_
   exact eloop hb2 hz (fun j hj=>hp j (by omega)) L.eds.length 0 (by omega) (fun j hj=>by omega) k1 o1 t1 (by omega)
  | succ m ih=>
   intro i hi hp
   have hil:i<els.length:=by omega
   obtain ⟨x,hx⟩:∃ x,els[i]?=some x:=⟨_,List.getElem?_eq_getElem hil⟩
   obtain ⟨p1,q1,w1⟩:=idx22 x2 o1.ext hx
   obtain ⟨g,v,l,rfl,hr,hlab⟩:=RLab.at x3 i x hx
   obtain ⟨y,⟨b,rfl,hbt⟩,hcl⟩:=call138 (g:=g) hr o1.ext
   refine zOR ?_
   have l1':=l1
   rw [hvl] at l1'
   simp only [zBB,Nat.zero_add,l1',zA,zKP,zY,show decide ((i:Int)<(els.length:Int))=true from decide_eq_true (by omega),zu]
   refine zcu ?_
   simp only [zBB,Nat.zero_add,l1,zA,q1,w1,zS,hcl,zN]
   refine zct ?_
   simp only [zA,zv]
   have on:zA0 g l=false->(0<i->∀ y,L.labs[i-1]?=some y->zCM y.1 y.2 g l<0)->P85_10 true (KB k [.tmp 2] (zAg (zAL L=false))) (.pointer (some ⟨k.next,0,none⟩)) (.int .i64 (i:Int)) k1:=by
    intro hb1 hb2
    refine zUl ?_
    simp only [zA,zAM _ (zD7 hil (by omega))]
    refine ih (i+1) (by omega) fun j hj=>?_
    rcases Nat.lt_succ_iff_lt_or_eq.1 hj with h|h
    ·exact hp j h
    ·subst h;exact zSb hlab hb1 hb2
   cases b with
   | false=>simp only [Bool.not_false,zu];exact no7
   | true=>
    simp only [Bool.not_true,zk]
    refine zcr ?_
    simp only [zA,zAH]
    by_cases h0:(0:Int)<(i:Int)
    ·obtain ⟨z,hz'⟩:∃ z,els[i-1]?=some z:=⟨_,List.getElem?_eq_getElem (by omega)⟩
     obtain ⟨p2,q2,w2⟩:=idx22 x2 o1.ext hz'
     obtain ⟨g2,v2,l2',rfl,hr2,hlab2⟩:=RLab.at x3 (i-1) z hz'
     have hc:=call88 (g:=g2) (g':=g) hr2 hr o1.ext
     simp only [h0,decide_true,zM,zP,beq_self_eq_true,cond_true,zBB,Nat.zero_add,l1,zA,subN1 (show 0<i by omega) (by omega),q1,w1,q2,w2,zS,hc,zN,zAP,zJ,zAA]
     exact ⟨fun _=>no9,fun hlt=>on (hbt rfl) fun _ y hy=>by rw [hlab2] at hy;cases hy;simp only;omega⟩
    ·simp only [h0,decide_false,zM,zP,show (false==true)=false from rfl,cond_false,zA,zL,zJ,zk]
     exact on (hbt rfl) fun h=>absurd (by omega) h0
 refine zcx ?_
 have go:els.length<=4000->L.eds.length<=100000->zA3 L=false->P85_3 true (KB k [.tmp 2] (zAg (zAL L=false))) (.pointer (some ⟨k.next,0,none⟩)) k1:=fun h1 h2 h3=>zcv (by exact lloop h1 h2 h3 els.length 0 (by omega) fun j hj=>by omega)
 rw [hvl] at l1
 rw [hve] at l2
 cases h1:decide (L.n<1) <;> cases h2:decide (20000<L.n) <;> cases h3:decide ((4000:Int)<(els.length:Int)) <;> cases h4:decide ((100000:Int)<(L.eds.length:Int)) <;>
  simp only [zA2,zBB,zBJ,Nat.zero_add,Nat.add_zero,l0,l1,l2,zA,zPM,zPL,zY,zAH,h1,h2,h3,h4,zM,beq_self_eq_true,show (true==false)=false from rfl,show (false==true)=false from rfl,cond_true,cond_false,zJ,zu,zk] <;>
  first|exact no|exact go (by have:=of_decide_eq_false h3;omega) (by have:=of_decide_eq_false h4;omega) (by have:=of_decide_eq_false h1;have:=of_decide_eq_false h2;have:=of_decide_eq_false h3;have:=of_decide_eq_false h4;simp only [zA3,Bool.or_eq_false_iff,decide_eq_false_iff_not];omega)
theorem call23 {k:AH} {x:Value} {L:GL} (hok:k.ok) (hx:RL k x L):∃ n:Int,(n=0->zAL L=false)/\(zW E).call 23 [x] k=some [(.int .i64 n,k)]:=by
 obtain ⟨vl,ve,els,rfl,x2,x3,x4⟩:=id hx.ex
 have key:∃ y,(∃ n:Int,y=.int .i64 n/\(n=0->zAL L=false))/\(zW E).call 23 [.agg #[.int .i64 L.n,vl,ve]] k=some [(y,k)]:=by
  refine zaT hok (zeR ?_)
  obtain ⟨k1,e1,n1,t1,o1,f1⟩:=nwF k (.row [.int .i64 L.n,vl,ve] 25 0 false)
  simp only [zd,zL,zV,zA,e1,zZ]
  have a1:=za (P:=E) zEd (o:=0) t1 (by simp)
  simp only [List.drop_zero,List.take] at a1
  obtain ⟨y,⟨b,rfl,hbt⟩,hb⟩:=call85 o1.ext.ok (hx.ext o1.ext)
  refine zeQ ?_
  simp only [a1,zA,zS,hb,zN]
  refine zeP ?_
  simp only [zA,zv]
  cases b with
  | true=>simp only [Bool.not_true,zk];refine zeN ?_;simp only [zA,zAJ,zT,true_and];exact ⟨⟨rfl,_,rfl,fun _=>hbt rfl⟩,o1.wm⟩
  | false=>simp only [Bool.not_false,zu];refine zeO ?_;simp only [zA,zAJ,zT,true_and];exact ⟨⟨rfl,_,rfl,fun h=>by omega⟩,o1.wm⟩
 obtain ⟨y,⟨n,rfl,hn⟩,h⟩:=key
 exact ⟨n,hn,h⟩
abbrev Ed:=Int×Int×Int
def etc (S:List Ed):List Value:=(S.map zb).flatten
theorem zMm (S:List Ed):∀ u∈S.map zb,u.length=3:=by
 intro u hu
 obtain ⟨e,_,rfl⟩:=List.mem_map.1 hu
 rfl
theorem zS0 (S:List Ed):(etc S).length=S.length*3:=by
 have:=zJN (S.map zb) (zMm S)
 rw [List.length_map] at this;exact this
def CellE (h:AH) (c:Value) (S:List Ed):Prop:=(c=.slice none 0 0/\S=[])\/∃ b,c=.slice (some ⟨b,0,none⟩) S.length (UNK+3)/\h.get b=some (.row (etc S) 52 3 false)/\b<h.next
structure LoL (loc:Nat) (h:AH) (bs:Nat) (cells:List Value) (EE:List (List Ed)):Prop where
 s:h.get bs=some (.row cells 23 0 false)
 len:cells.length=EE.length
 lts:bs<h.next
 locs:loc<=bs
 cell:∀ (i:Nat) (c:Value) (S:List Ed),cells[i]?=some c->EE[i]?=some S->CellE h c S
 blk:∀ (i:Nat) (c:Value) (b:Nat),cells[i]?=some c->zy c b->b≠bs/\loc<=b
 dis:∀ (i j:Nat) (c d:Value) (b:Nat),cells[i]?=some c->cells[j]?=some d->zy c b->zy d b->i=j
theorem CellE.lt {h:AH} {c:Value} {S:List Ed} (k:CellE h c S) {b:Nat} (hb:zy c b):b<h.next:=by
 obtain ⟨n,cap,rfl⟩:=hb
 rcases k with ⟨e,_⟩|⟨b',e,_,hlt⟩
 ·cases e
 ·simp only [Value.slice.injEq,Option.some.injEq,Addr.mk.injEq] at e
  rw [e.1.1];exact hlt
theorem CellE.fx {P:Nat->Prop} {h h':AH} {c:Value} {S:List Ed} (k:CellE h c S) (f:Fx P h h') (hn:∀ b,zy c b->¬ P b):CellE h' c S:=by
 rcases k with e|⟨b,e,hg,hlt⟩
 ·exact .inl e
 ·exact .inr ⟨b,e,(f.get b hlt (hn b ⟨_,_,e⟩)).trans hg,Nat.lt_of_lt_of_le hlt f.next⟩
theorem CellE.leaf {h:AH} {c:Value} {S:List Ed} (k:CellE h c S):zr c=true/\zj c=[c]/\veq 100 c c=true:=by
 rcases k with ⟨rfl,_⟩|⟨b,rfl,_⟩ <;> exact ⟨rfl,rfl,zB8 _ _ _ _⟩
theorem CellE.arr {h:AH} {c:Value} {S:List Ed} (k:CellE h c S):Arr h 3 c (S.map zb):=by
 rcases k with ⟨rfl,rfl⟩|⟨b,rfl,hg,hlt⟩
 ·exact .nil _ _
 ·have:=Arr.row (z:=3) (c:=UNK+3) (o:=0) (els:=S.map zb) hg hlt (by rw [zS0,List.length_map];omega) (fun i e he=>⟨zMm S e (List.mem_of_getElem? he),by rw [Nat.zero_add];exact zJO _ (zMm S) i e he⟩)
  rw [List.length_map] at this
  exact this
theorem LoL.fx {P:Nat->Prop} {loc bs:Nat} {h h':AH} {cells:List Value} {EE:List (List Ed)} (G:LoL loc h bs cells EE) (f:Fx P h h') (h2:¬ P bs) (h3:∀ (i:Nat) (c:Value) (b:Nat),cells[i]?=some c->zy c b->¬ P b):LoL loc h' bs cells EE:=
 ⟨(f.get bs G.lts h2).trans G.s,G.len,Nat.lt_of_lt_of_le G.lts f.next,G.locs,fun i c S hc hS=>(G.cell i c S hc hS).fx f (fun b hb=>h3 i c b hc hb),G.blk,G.dis⟩
theorem LoL.same {loc bs:Nat} {h:AH} {cells:List Value} {EE:List (List Ed)} (G:LoL loc h bs cells EE) (w:Nat):LoL loc ⟨h.t,h.next,w⟩ bs cells EE:=
 ⟨G.s,G.len,G.lts,G.locs,fun i c S hc hS=>G.cell i c S hc hS,G.blk,G.dis⟩
theorem elt23:Elt 23 52 3:=zIU elt_23 zNK zJz (by kernel_rfl)
theorem mk49 {n:Nat} (hn:n<=1000000) {h:AH}:zAo E 49 (some (.int .i64 (n:Int))) (some (.int .i64 (n:Int))) h=one (.slice (some ⟨h.next,0,none⟩) n n,h.new (.row (List.replicate n (.slice none 0 0)) 23 0 false)):=
 zL8 (by obtain ⟨i,a⟩:=ti_of zEe z_23 (by kernel_rfl);exact ⟨i,elt_49,a⟩) rfl hn
theorem bs23 {a b c:Value} {h:AH}:zf E 23 1 (some [(0,.agg #[a,b,c])]) h=one (.slice (some ⟨h.next,0,none⟩) 1 1,h.new (.row [a,b,c] 52 0 false)):=by kernel_rfl
theorem zTk {h:AH} (hok:h.ok) {c:Value} {S:List Ed} (hc:CellE h c S) (hS:S.length+1<=1000000) (e:Ed) :
  ∃ h3,zAD E .append [23,23] (some [c,.slice (some ⟨h.next,0,none⟩) 1 1]) (h.new (.row (zb e) 52 0 false))=one (.slice (some ⟨h.next+1,0,none⟩) (S.length+1) (UNK+3),h3) ∧
   h3.get (h.next+1)=some (.row (etc (S++[e])) 52 3 false)/\h3.next=h.next+2/\Fx (fun x=>zy c x) h h3:=by
 have hrow:=zI h (.row (zb e) 52 0 false)
 have hst:etc (S++[e])=etc S++zb e:=by simp [etc]
 rcases hc with ⟨rfl,rfl⟩|⟨bl,rfl,hg,hlt⟩
 ·refine ⟨_,append_nil elt23 hrow rfl,?_,rfl,((Fx.refl hok).new _).new _⟩
  rw [hst]
  exact zI (h.new _) _
 ·have hg':(h.new (.row (zb e) 52 0 false)).get bl=some (.row (etc S) 52 3 false):=by rw [zK (by omega)];exact hg
  refine ⟨_,zBz elt23 (by omega) hg' (zS0 S) hS hrow rfl (by simp [zb,zr]),?_,rfl,?_⟩
  ·rw [hst]
   exact zI ((h.new _).upd bl none) _
  ·have f1:Fx (fun x=>zy (.slice (some ⟨bl,0,none⟩) S.length (UNK+3)) x) h (h.new (.row (zb e) 52 0 false)):=(Fx.refl hok).new _
   exact (f1.upd (.inl ⟨_,_,rfl⟩) none).new _
def zL4:List (List Ed)->List Ed->List (List Ed)
 | EE,[]=>EE
 | EE,e::l=>zL4 (EE.set e.1.toNat ((EE[e.1.toNat]?.getD [])++[e])) l
def outOf (L:GL):List (List Ed):=zL4 (List.replicate L.n.toNat []) L.eds
theorem call24 {k:AH} {x:Value} {L:GL} (hok:k.ok) (hx:RL k x L) (hL:zAL L=false) {N:Nat} (hN:L.n=(N:Int)) :
  Ev true ((zW E).call 24 [x] k) fun y=>∃ bs cells,y.1=.slice (some ⟨bs,0,none⟩) N N/\LoL k.next y.2 bs cells (outOf L)/\cells.length=N/\(∀ S∈outOf L,S.length<=100000)/\Fx NoB k y.2:=by
 obtain ⟨z1,z2,z3,z4⟩:=zDN hL
 obtain ⟨vl,ve,els,rfl,x2,x3,x4⟩:=hx.ex
 obtain ⟨sb,sd,hve⟩:=x4.slice
 rw [List.length_map] at hve
 refine zfB (Rp:=fun v m=>∃ bs cells,v=.slice (some ⟨bs,0,none⟩) N N/\LoL k.next m bs cells (outOf L)/\cells.length=N/\(∀ S∈outOf L,S.length<=100000)/\Fx NoB k m) (zeM ?_)
 obtain ⟨k1,e1,n1,t1,o1,f1⟩:=nwF k (.row [.int .i64 L.n,vl,ve] 25 0 false)
 simp only [zd,zL,zV,zA,e1,zZ]
 have l0:=zF (P:=E) zAS (o:=0) t1
 simp only [lnth] at l0
 refine zeL ?_
 obtain ⟨k2,e2,n2,t2,o2,f2⟩:=nw o1 (.row (List.replicate N (.slice none 0 0)) 23 0 false)
 simp only [zA2,Nat.add_zero,l0,zA,hN,mk49 (show N<=1000000 by omega),e2,zL]
 refine zeK ?_
 have hrep:∀ (i:Nat) (c:Value),(List.replicate N (Value.slice none 0 0))[i]?=some c->c=.slice none 0 0:=fun i c h=>by
  rw [List.getElem?_replicate] at h
  split at h
  ·exact (Option.some.inj h).symm
  ·cases h
 have hnb:∀ c,¬ zy (.slice none 0 0) c:=by rintro c ⟨n,cap,h⟩;cases h
 have G0:LoL k.next k2 k1.next (List.replicate N (.slice none 0 0)) (List.replicate N []):=
  ⟨t2,by simp,by omega,by omega,fun i c S hc hS=>.inl ⟨hrep i c hc,by rw [List.getElem?_replicate] at hS;split at hS <;> simp_all⟩,fun i c b hc hb=>absurd (by rw [hrep i c hc] at hb;exact hb) (hnb b),fun i j c d b hc hd hb _=>absurd (by rw [hrep i c hc] at hb;exact hb) (hnb b)⟩
 have loop:∀ (m j:Nat),j+m=L.eds.length->∀ kk cells EE,Own k kk->kk.get k.next=some (.row [.int .i64 L.n,vl,ve] 25 0 false)->k.next<k1.next->LoL k.next kk k1.next cells EE->(∀ (i:Nat) (c:Value) (b:Nat),cells[i]?=some c->zy c b->b≠k.next)->cells.length=N->(∀ S∈EE,S.length<=j)->zL4 EE (L.eds.drop j)=outOf L->
   P24_3 true (KR E [.tmp 2] fun v m=>(zh v=false\/m.wm<k.next)/\(fun v m=>∃ bs cells,v=.slice (some ⟨bs,0,none⟩) N N/\LoL k.next m bs cells (outOf L)/\cells.length=N/\(∀ S∈outOf L,S.length<=100000)/\Fx NoB k m) v ⟨m.t,m.next,cond (Nat.ble k.wm m.wm) k.wm m.wm⟩) (.pointer (some ⟨k.next,0,none⟩)) (.slice (some ⟨k1.next,0,none⟩) N N) (.int .i64 (j:Int)) kk:=by
  intro m
  induction m with
  | zero=>
   intro j hj kk cells EE ho tb hb1 hG hnk hNc hlen hout
   have l2:=zF (P:=E) zEe (o:=2) tb
   simp only [lnth] at l2
   rw [hve] at l2
   refine zOp ?_
   simp only [zBJ,Nat.zero_add,l2,zA,zKW,zY,show decide ((j:Int)<(L.eds.length:Int))=false from decide_eq_false (by omega),zk]
   refine zeG ?_
   simp only [zA,zAJ,zT,true_and]
   have hO:EE=outOf L:=by rw [← hout,List.drop_eq_nil_of_le (show L.eds.length<=j by omega)];rfl
   subst hO
   refine ⟨.inl rfl,k1.next,cells,rfl,hG.same _,hNc,fun S hS=>by have:=hlen S hS;omega,?_⟩
   refine ⟨?_,ho.ext.next,fun c hc _=>ho.ext.get c hc,fun m h1 _ h3=>?_⟩
   ·show cond (Nat.ble k.wm kk.wm) k.wm kk.wm<=kk.next+UNK
    have:=ho.ext.ok
    unfold AH.ok at this
    cases hcc:Nat.ble k.wm kk.wm with
    | true=>rw [ble_true] at hcc;simp only [cond_true];omega
    | false=>exact this
   ·show m<=cond (Nat.ble k.wm kk.wm) k.wm kk.wm
    have:=ho.wm
    cases hcc:Nat.ble k.wm kk.wm with
    | true=>exact h1
    | false=>simp only [cond_false];omega
  | succ m ih=>
   intro j hj kk cells EE ho tb hb1 hG hnk hNc hlen hout
   have hjn:j<L.eds.length:=by omega
   have l2:=zF (P:=E) zEe (o:=2) tb
   simp only [lnth] at l2
   refine zOp ?_
   have l2':=l2
   rw [hve] at l2'
   simp only [zBJ,Nat.zero_add,l2',zA,zKW,zY,show decide ((j:Int)<(L.eds.length:Int))=true from decide_eq_true (by omega),zu]
   refine zeJ ?_
   have hate:L.eds[j]?=some L.eds[j]:=List.getElem?_eq_getElem hjn
   obtain ⟨⟨f1',f2'⟩,_,_⟩:=zFT hL hate
   rw [zFw hate] at hout
   generalize hee:L.eds[j]=e at hout f1' f2'
   have hx':(L.eds.map zb)[j]?=some (zb e):=by rw [List.getElem?_map,hate,hee];rfl
   obtain ⟨p1,q1,w1⟩:=zbj x4 ho.ext hx'
   obtain ⟨k3,e3,n3,t3,o3,f3⟩:=nwUp ho (.row [.int .i64 0,.int .i64 0,.int .i64 0] 52 0 false) (.row (zb e) 52 0 false)
   simp only [zBJ,Nat.zero_add,l2,zA,q1,w1,z_52,zd,zL,zV,zb1,e3]
   refine zeI ?_
   have fb:Fx NoB kk k3:=⟨o3.ext.ok,by omega,fun c hc _=>f3 c hc,fun m h1 _ h3=>by
    rw [← e3]
    exact z9 (show m<=(kk.new _).wm from h1) h3⟩
   have hG1:=hG.fx fb (fun h=>h) (fun _ _ _ _ _ h=>h)
   have hkn:=ho.ext.next
   have hk1k:=hG.lts
   obtain ⟨fr,hfr0⟩:=Int.eq_ofNat_of_zero_le f1'
   have hfr:fr<cells.length:=by omega
   have hfr':fr<EE.length:=by rw [← hG.len];exact hfr
   have hcell:cells[fr]?=some cells[fr]:=List.getElem?_eq_getElem hfr
   have hSS:EE[fr]?=some EE[fr]:=List.getElem?_eq_getElem hfr'
   have c0:=zF (P:=E) zAS (o:=0) t3
   have ag:=za (P:=E) zJz (o:=0) t3 (by simp [zb])
   rw [show ((zb e).drop 0).take 3=zb e from rfl] at ag
   simp only [lnth,zb] at c0
   rw [hfr0] at c0
   have ls:=zF (P:=E) zEe (o:=0+fr*1) hG1.s
   rw [zAk,show 0+fr*1=fr by omega,hcell] at ls
   have ia1:=ia_49 (b:=k1.next) (o:=0) (c:=N) (len:=N) (k:=fr) (by omega)
   rw [show 0+fr*1=fr by omega] at ia1
   have hC:=hG1.cell fr _ _ hcell hSS
   obtain ⟨clf,cc1,cveq⟩:=hC.leaf
   have hSl:=hlen _ (List.getElem_mem hfr')
   obtain ⟨h3,r1,r2,r3,r4⟩:=zTk o3.ext.ok hC (by omega) e
   have f2x:Fx NoB k3 (k3.new (.row (zb e) 52 0 false)):=(Fx.refl o3.ext.ok).new _
   have hG2:=hG1.fx f2x (fun h=>h) (fun _ _ _ _ _ h=>h)
   have tb2:(k3.new (.row (zb e) 52 0 false)).get kk.next=_:=(zK (by omega)).trans t3
   have d0:zH E 3 (k3.new (.row (zb e) 52 0 false)) (some (.pointer (some ⟨kk.next,0,none⟩)))=some (.int .i64 (fr:Int)):=by
    rw [zF (P:=E) zAS (o:=0) tb2]
    simp only [lnth,zb,hfr0]
   have ls2:=zF (P:=E) zEe (o:=0+fr*1) hG2.s
   rw [zAk,show 0+fr*1=fr by omega,hcell] at ls2
   have hcl:∀ x,zy cells[fr] x->x≠k1.next/\k.next<=x:=fun x hx=>hG1.blk fr _ x hcell hx
   have tb3:h3.get kk.next=some (.row (zb e) 52 0 false):=(r4.get kk.next (by omega) (fun hx=>by have:=(hG.cell fr _ _ hcell hSS).lt hx;omega)).trans t3
   have e0:=zF (P:=E) zAS (o:=0) tb3
   simp only [lnth,zb] at e0
   rw [hfr0] at e0
   have hs3:h3.get k1.next=_:=(r4.get k1.next hG1.lts (fun hx=>(hcl _ hx).1 rfl)).trans hG1.s
   have hsto:=zw (P:=E) ts_23 (o:=fr) hs3 (zEp (some ⟨k3.next+1,0,none⟩) (EE[fr].length+1) (UNK+3)) rfl (by omega) rfl
   rw [zJD _ _ _ hfr] at hsto
   have bs:zf E 23 1 (some [(0,.agg ⟨zb e⟩)]) k3=one (.slice (some ⟨k3.next,0,none⟩) 1 1,k3.new (.row (zb e) 52 0 false)):=bs23
   simp only [zA,zDY,Nat.add_zero,c0,ia1,ls,ag,bs,zL,ls2,d0,cveq,zC1,true_and,r1,e0,hsto]
   refine zeH ?_
   simp only [zA,zAM _ (zD7 hjn (by omega))]
   have f5:Fx (fun c=>c=k1.next\/zy cells[fr] c) k3 (h3.upd k1.next (some (.row (cells.set fr (.slice (some ⟨k3.next+1,0,none⟩) (EE[fr].length+1) (UNK+3))) 23 0 false))):=
    (r4.mono (P':=fun c=>c=k1.next\/zy cells[fr] c) (fun c hc=>.inl (.inr hc))).upd (.inl (.inl rfl)) _
   have o5:=f5.own o3 (fun c hc=>hc.elim (fun h=>by rw [h];exact hG.locs) fun h=>(hcl c h).2)
   have hset:∀ (i:Nat) (c:Value),(cells.set fr (.slice (some ⟨k3.next+1,0,none⟩) (EE[fr].length+1) (UNK+3)))[i]?=some c->(i=fr/\c=.slice (some ⟨k3.next+1,0,none⟩) (EE[fr].length+1) (UNK+3))\/(i≠fr/\cells[i]?=some c):=by
    intro i c hc
    by_cases hi:i=fr
    ·subst hi
     rw [List.getElem?_set_self hfr] at hc
     exact .inl ⟨rfl,(Option.some.inj hc).symm⟩
    ·rw [List.getElem?_set_ne (fun h=>hi h.symm)] at hc
     exact .inr ⟨hi,hc⟩
   have hnew:∀ b,zy (.slice (some ⟨k3.next+1,0,none⟩) (EE[fr].length+1) (UNK+3)) b->b=k3.next+1:=by
    rintro b ⟨n,cap,h⟩
    simp only [Value.slice.injEq,Option.some.injEq,Addr.mk.injEq] at h
    exact h.1.1.symm
   have hltb:∀ (i:Nat) (c:Value) (b:Nat),cells[i]?=some c->zy c b->b<k3.next:=fun i c b hc hb=>by
    have hi:i<EE.length:=by rw [← hG.len];exact (List.getElem?_eq_some_iff.1 hc).1
    exact (hG1.cell i c _ hc (List.getElem?_eq_getElem hi)).lt hb
   refine ih (j+1) (by omega) _ (cells.set fr (.slice (some ⟨k3.next+1,0,none⟩) (EE[fr].length+1) (UNK+3))) (EE.set fr (EE[fr]++[e])) o5 ?_ hb1 ?_ ?_ (by simp [hNc]) ?_ ?_
   ·rw [zU (by omega)]
    refine (r4.get k.next (by omega) (fun hx=>hnk fr _ _ hcell hx rfl)).trans ((f3 k.next (by omega)).trans tb)
   ·refine ⟨zR _ _ _,by simp [hG.len],?_,hG.locs,?_,?_,?_⟩
    ·show k1.next<h3.next;have:=hG1.lts;omega
    ·intro i c S hc hS
     rcases hset i c hc with ⟨rfl,rfl⟩|⟨hi,hc'⟩
     ·rw [List.getElem?_set_self hfr'] at hS
      cases hS
      refine .inr ⟨k3.next+1,by simp,?_,by show _<h3.next;omega⟩
      rw [zU (by have:=hG1.lts;omega)];exact r2
     ·rw [List.getElem?_set_ne (fun h=>hi h.symm)] at hS
      refine (hG1.cell i c S hc' hS).fx f5 (fun b hb=>?_)
      rintro (rfl|hb2)
      ·exact (hG1.blk i c _ hc' hb).1 rfl
      ·exact hi (hG1.dis i fr _ _ b hc' hcell hb hb2)
    ·intro i c b hc hb
     rcases hset i c hc with ⟨rfl,rfl⟩|⟨hi,hc'⟩
     ·rw [hnew b hb];have:=hG1.lts;exact ⟨by omega,by omega⟩
     ·exact hG1.blk i c b hc' hb
    ·intro i j' c d b hc hd hb hb2
     rcases hset i c hc with ⟨hi,hc'⟩|⟨hi,hc'⟩ <;> rcases hset j' d hd with ⟨hj',hd'⟩|⟨hj',hd'⟩
     ·rw [hi,hj']
     ·subst hc'
      have:=hltb j' d b hd' hb2
      rw [hnew b hb] at this;omega
     ·subst hd'
      have:=hltb i c b hc' hb
      rw [hnew b hb2] at this;omega
     ·exact hG1.dis i j' c d b hc' hd' hb hb2
   ·intro i c b hc hb
    rcases hset i c hc with ⟨rfl,rfl⟩|⟨hi,hc'⟩
    ·rw [hnew b hb];omega
    ·exact hnk i c b hc' hb
   ·intro S hS
    rcases List.mem_or_eq_of_mem_set hS with h|h
    ·have:=hlen S h;omega
    ·rw [h];simp;exact hSl
   ·rw [← hout]
    simp only [zL4,hfr0]
    rw [show ((fr:Int)).toNat=fr from rfl,hSS]
    rfl
 refine loop L.eds.length 0 (by omega) k2 _ _ o2 ((f2 k.next (by omega)).trans t1) (by omega) G0 (fun i c b hc hb=>absurd (by rw [hrep i c hc] at hb;exact hb) (hnb b)) (by simp) (fun S hS=>by rw [List.eq_of_mem_replicate hS];simp) ?_
 rw [List.drop_zero]
 show _=zL4 (List.replicate L.n.toNat []) L.eds
 rw [hN];rfl
abbrev i1 (n:Int):List Value:=[.int .i64 n]
theorem idx47 {h k:AH} {v:Value} {l:List Int} (ha:Arr h 1 v (l.map i1)) (e:Ext h k) {i:Nat} {n:Int} (hi:l[i]?=some n) :
  ∃ p,zE E 47 (some v) (some (.int .i64 (i:Int)))=some p/\zH E 3 k (some p)=some (.int .i64 n):=by
 have hx:(l.map i1)[i]?=some (i1 n):=by rw [List.getElem?_map,hi];rfl
 obtain ⟨b,o,c,vs,ty,es,ro,rfl,hb,hlt,hle,hz,hl⟩:=ha.load hx
 have hil:i<(l.map i1).length:=(List.getElem?_eq_some_iff.1 hx).1
 refine ⟨_,zPf hil,?_⟩
 rw [zF (P:=E) zAS ((e.get b hlt).trans hb),zAk]
 have:((vs.drop (o+i*1)).take 1)[0]?=some (.int .i64 n):=by rw [hz];rfl
 rw [List.getElem?_take_of_lt (by omega),List.getElem?_drop] at this
 simpa using this
theorem LS.arr {lo:Nat} {k:AH} {v:Value} {L:List Int} (h:LS lo k v L):Arr k 1 v (L.map i1):=by
 obtain ⟨b,c,rfl,h1,h2,h3⟩:=h
 have key:∀ es,k.get b=some (.row (ints L) 3 es false)->Arr k 1 (.slice (some ⟨b,0,none⟩) L.length c) (L.map i1):=by
  intro es hb
  have:=Arr.row (z:=1) (c:=c) (o:=0) (els:=L.map i1) hb h2 (by simp [ints]) (fun i e he=>by
   rw [List.getElem?_map] at he
   obtain ⟨n,hn,rfl⟩:=Option.map_eq_some_iff.1 he
   refine ⟨rfl,?_⟩
   have hil:i<L.length:=(List.getElem?_eq_some_iff.1 hn).1
   rw [show 0+i*1=i by omega,List.drop_eq_getElem_cons (by simpa [ints] using hil)]
   simp [ints,(List.getElem?_eq_some_iff.1 hn).2])
  rw [List.length_map] at this
  exact this
 rcases h3 with ⟨_,_,hb⟩|⟨_,hb⟩
 ·exact key _ hb
 ·exact key _ hb
theorem idx_in {α:Type} [DecidableEq α] (l:List α) (x:α):decide (0<=zm (fun i=>decide (l[i]?=some x)) l.length 0)=decide (x∈l):=by
 by_cases h:x∈l
 ·rw [decide_eq_true h,decide_eq_true]
  rcases Int.lt_or_le (zm (fun i=>decide (l[i]?=some x)) l.length 0) 0 with h'|h'
  ·have:=(zBW l.length 0).2 h'
   obtain ⟨i,hi⟩:=List.getElem?_of_mem h
   have h2:=this i (Nat.zero_le _) (by have:=(List.getElem?_eq_some_iff.1 hi).1;omega)
   simp [hi] at h2
  ·exact h'
 ·rw [decide_eq_false h,decide_eq_false]
  have:zm (fun i=>decide (l[i]?=some x)) l.length 0<0:=(zBW l.length 0).1 fun j _ _=>by
   refine decide_eq_false fun hj=>h (List.mem_of_getElem? hj)
  omega
theorem call87 {h0 k:AH} {v:Value} {l:List Int} {x:Int} (ha:Arr h0 1 v (l.map i1)) (hn:l.length<=9223372036854775807) (hk:Ext h0 k) :
  (zW E).call 87 [v,.int .i64 x] k=some [(.int .i64 (zm (fun i=>decide (l[i]?=some x)) l.length 0),k)]:=by
 obtain ⟨ad,c,hv⟩:=ha.slice
 rw [List.length_map] at hv
 refine zes (s:=true) hk.ok rfl (zci ?_)
 refine zch ?_
 have loop:∀ (m i:Nat),i+m=l.length->P87_2 true (KR E [.tmp 2] (fun y l'=>y=.int .i64 (zm (fun i=>decide (l[i]?=some x)) m i)/\k.next<=l'.wm)) v (.int .i64 x) (.int .i64 (l.length:Int)) (.int .i64 (i:Int)) k.fresh:=by
  intro m
  induction m with
  | zero=>
   intro i hi
   refine zOP ?_
   simp only [zY,zA,zAA]
   refine ⟨fun h=>by omega,fun _=>zcc ?_⟩
   simp [zA,zAJ,zT,zm]
  | succ m ih=>
   intro i hi
   have hin:i<l.length:=by omega
   refine zOP ?_
   simp only [zY,zA,zAA]
   refine ⟨fun _=>zcg ?_,fun h=>by omega⟩
   refine zcf ?_
   obtain ⟨p,q1,q2⟩:=idx47 ha hk.fresh (List.getElem?_eq_getElem hin)
   simp only [zA,q1,q2,zAZ,zAA]
   refine ⟨fun h=>zce ?_,fun h=>zcd ?_⟩
   ·simp only [zA,zAJ,zT,true_and,zm,List.getElem?_eq_getElem hin,← h,decide_true,if_true]
    rw [zA4];omega
   ·simp only [zA,zAM _ (zD7 hin hn)]
    have:=ih (i+1) (by omega)
    have hne:decide (l[i]?=some x)=false:=decide_eq_false (by rw [List.getElem?_eq_getElem hin];intro e;exact h (Option.some.inj e).symm)
    simp only [zm,hne,Bool.false_eq_true,if_false]
    exact this
 rw [hv]
 simp only [zA,zSM]
 rw [← hv]
 exact loop l.length 0 (by omega)
theorem call27 {h0 k:AH} {v:Value} {l:List Int} {x:Int} (ha:Arr h0 1 v (l.map i1)) (hn:l.length<=9223372036854775807) (hk:Ext h0 k) :
  (zW E).call 27 [v,.int .i64 x] k=some [(.bool (decide (x∈l)),k)]:=by
 refine ze8 (s:=true) hk.ok rfl (zeC ?_)
 refine zeB ?_
 simp only [zA,zS,call87 ha hn hk.fresh,zN,zAP,idx_in,zAJ,zT,true_and]
 rw [zA4];omega
theorem ev_eqp (a b c d:Int):zHK E 54 [.int .i64 a,.int .i64 b] [.int .i64 c,.int .i64 d]=zAn [.int .i64 a,.int .i64 b] [.int .i64 c,.int .i64 d]:=by kernel_rfl
theorem zTd (p q:Int×Int):zC E .eql 54 (.agg ⟨zG p⟩) (.agg ⟨zG q⟩)=some (.bool (decide (p=q))):=by
 obtain ⟨a,b⟩:=p
 obtain ⟨c,d⟩:=q
 have h:zHK E 54 (zG (a,b)) (zG (c,d))=some (decide ((a,b)=(c,d))):=by
  simp only [zG,ev_eqp,zAn]
  by_cases h1:a=c <;> by_cases h2:b=d <;> simp [h1,h2,zC5,show keq IntKind.i64 IntKind.i64=true from rfl]
 unfold zC
 simp only [h]
theorem idx26 {h k:AH} {v:Value} {els:List (List Value)} (ha:Arr h 2 v els) (e:Ext h k) {i:Nat} {x:List Value} (hi:els[i]?=some x) :
  ∃ p,zE E 26 (some v) (some (.int .i64 (i:Int)))=some p/\zH E 54 k (some p)=some (.agg ⟨x⟩):=zHE zHs zHg zFZ ha e hi
theorem call86 {h0 k:AH} {v:Value} {l:List (Int×Int)} {x:Int×Int} (ha:Arr h0 2 v (l.map zG)) (hn:l.length<=9223372036854775807) (hk:Ext h0 k) :
  (zW E).call 86 [v,.agg ⟨zG x⟩] k=some [(.int .i64 (zm (fun i=>decide (l[i]?=some x)) l.length 0),k)]:=by
 obtain ⟨ad,c,hv⟩:=ha.slice
 rw [List.length_map] at hv
 refine zet (s:=true) hk.ok rfl (zcp ?_)
 obtain ⟨k1,e1,n1,t1,o1,f1⟩:=nwF k (.row (zG x) 54 0 false)
 simp only [zd,zL,zV,zA,e1,zZ]
 have ag:=za (P:=E) zFZ (o:=0) t1 (by simp [zG])
 rw [show ((zG x).drop 0).take 2=zG x from rfl] at ag
 have ex:=hk.trans o1.ext
 refine zco ?_
 have loop:∀ (m i:Nat),i+m=l.length->P86_2 true (KR E [.tmp 2] (fun y l'=>y=.int .i64 (zm (fun i=>decide (l[i]?=some x)) m i)/\k.next<=l'.wm)) v (.pointer (some ⟨k.next,0,none⟩)) (.int .i64 (l.length:Int)) (.int .i64 (i:Int)) k1:=by
  intro m
  induction m with
  | zero=>
   intro i hi
   refine zOQ ?_
   simp only [zY,zA,zAA]
   refine ⟨fun h=>by omega,fun _=>zcj ?_⟩
   simp only [zA,zAJ,zT,zm,true_and];exact o1.wm
  | succ m ih=>
   intro i hi
   have hin:i<l.length:=by omega
   refine zOQ ?_
   simp only [zY,zA,zAA]
   refine ⟨fun _=>zcn ?_,fun h=>by omega⟩
   refine zcm ?_
   have hx':(l.map zG)[i]?=some (zG l[i]):=by rw [List.getElem?_map,List.getElem?_eq_getElem hin];rfl
   obtain ⟨p,q1,q2⟩:=idx26 ha ex hx'
   simp only [zA,ag,q1,q2,zTd,zAA]
   refine ⟨fun h=>zcl ?_,fun h=>zck ?_⟩
   ·simp only [zA,zAJ,zT,true_and,zm,List.getElem?_eq_getElem hin,← h,decide_true,if_true]
    exact o1.wm
   ·simp only [zA,zAM _ (zD7 hin hn)]
    have:=ih (i+1) (by omega)
    have hne:decide (l[i]?=some x)=false:=decide_eq_false (by rw [List.getElem?_eq_getElem hin];intro e;exact h (Option.some.inj e).symm)
    simp only [zm,hne,Bool.false_eq_true,if_false]
    exact this
 rw [hv]
 simp only [zA,zSN]
 rw [← hv]
 exact loop l.length 0 (by omega)
theorem call26 {h0 k:AH} {v:Value} {l:List (Int×Int)} {x:Int×Int} (ha:Arr h0 2 v (l.map zG)) (hn:l.length<=9223372036854775807) (hk:Ext h0 k) :
  (zW E).call 26 [v,.agg ⟨zG x⟩] k=some [(.bool (decide (x∈l)),k)]:=by
 refine ze9 (s:=true) hk.ok rfl (zeE ?_)
 obtain ⟨k1,e1,n1,t1,o1,f1⟩:=nwF k (.row (zG x) 54 0 false)
 simp only [zd,zL,zV,zA,e1,zZ]
 have ag:=za (P:=E) zFZ (o:=0) t1 (by simp [zG])
 rw [show ((zG x).drop 0).take 2=zG x from rfl] at ag
 refine zeD ?_
 simp only [ag,zA,zS,call86 ha hn (hk.trans o1.ext),zN,zAP,idx_in,zAJ,zT,true_and]
 exact ⟨congrArg Value.bool (decide_eq_decide.2 Iff.rfl),o1.wm⟩
theorem idx83 {h k:AH} {v:Value} {els:List (List Value)} (ha:Arr h 2 v els) (e:Ext h k) {i:Nat} {x:List Value} (hi:els[i]?=some x) :
  ∃ p,zE E 83 (some v) (some (.int .i64 (i:Int)))=some p/\zH E 32 k (some p)=some (.agg ⟨x⟩):=zHE und_83 zbR zLv ha e hi
theorem call126 {h0:AH} {v f:Value} {els:List (List Value)} {p:Nat->Bool} (ha:Arr h0 2 v els) (hn:els.length<=9223372036854775807)
  (hf:∀ k,Ext h0 k->∀ i e,els[i]?=some e->zQ (zW E) (some f) (some [.agg ⟨e⟩]) k=some [(.bool (p i),k)]) {k:AH} (hk:Ext h0 k) :
  (zW E).call 126 [v,f] k=some [(.int .i64 (zm p els.length 0),k)]:=by
 obtain ⟨ad,c,hv⟩:=ha.slice
 refine za5 (s:=true) hk.ok rfl (zZm ?_)
 refine zZl ?_
 have loop:∀ (m i:Nat),i+m=els.length->P126_2 true (KR E [.tmp 2] (fun x l=>x=.int .i64 (zm p m i)/\k.next<=l.wm)) v f (.int .i64 (els.length:Int)) (.int .i64 (i:Int)) k.fresh:=by
  intro m
  induction m with
  | zero=>
   intro i hi
   refine zLg ?_
   simp only [zY,zA,zAA]
   refine ⟨fun h=>by omega,fun _=>zZg ?_⟩
   simp [zA,zAJ,zT,zm]
  | succ m ih=>
   intro i hi
   have hin:i<els.length:=by omega
   refine zLg ?_
   simp only [zY,zA,zAA]
   refine ⟨fun _=>zZk ?_,fun h=>by omega⟩
   refine zZj ?_
   obtain ⟨q,q1,q2⟩:=idx83 ha hk.fresh (List.getElem?_eq_getElem hin)
   simp only [zA,q1,q2,hf _ hk.fresh i _ (List.getElem?_eq_getElem hin),zN,zBS]
   refine ⟨fun h=>zZi ?_,fun h=>zZh ?_⟩
   ·simp only [zA,zAJ,zT,true_and,zm,h,if_true];rw [zA4];omega
   ·simp only [zA,zAM _ (zD7 hin hn),zm,h,Bool.false_eq_true,if_false]
    exact ih (i+1) (by omega)
 rw [hv]
 simp only [zA,zPc]
 rw [← hv]
 exact loop els.length 0 (by omega)
theorem call75 {h0 k:AH} {e:List Value} {B:GB} (hr:RB h0 e B) (hk:Ext h0 k):(zW E).call 75 [.agg ⟨e⟩] k=some [(.bool (decide ((4000:Int)<(B.prs.length:Int))),k)]:=by
 obtain ⟨vp,rfl,e2⟩:=hr.ex
 obtain ⟨ad,c,hv⟩:=e2.slice
 rw [List.length_map] at hv
 refine zeu (s:=true) hk.ok rfl (zc5 ?_)
 obtain ⟨k1,e1,n1,t1,o1,f1⟩:=nwF k (.row [.int .i64 B.kind,vp] 32 0 false)
 simp only [zd,zL,zV,zA,e1,zZ]
 have l1:=zF (P:=E) zLw (o:=1) t1
 simp only [lnth] at l1
 rw [hv] at l1
 refine zc4 ?_
 simp only [zC7,Nat.zero_add,l1,zA,zSO,zAH,zAJ,zT,true_and]
 exact o1.wm
def zKN (Bs:List GB) (i:Nat):Bool:=match Bs[i]? with
 | some B=>decide ((4000:Int)<(B.prs.length:Int))
 | none=>false
theorem call19 {h0 k:AH} {v:Value} {els:List (List Value)} {Bs:List GB} (ha:Arr h0 2 v els) (hn:els.length=Bs.length) (hle:els.length<=9223372036854775807) (hr:∀ (i:Nat) (e:List Value) (B:GB),els[i]?=some e->Bs[i]?=some B->RB h0 e B) (hk:Ext h0 k) :
  (zW E).call 19 [v] k=some [(.bool (!decide (0<=zm (zKN Bs) els.length 0)),k)]:=by
 refine zfC (s:=true) hk.ok rfl (zeT ?_)
 refine zeS ?_
 have h126:∀ k',Ext h0 k'->(zW E).call 126 [v,.func (.func 75) #[] #[]] k'=some [(.int .i64 (zm (zKN Bs) els.length 0),k')]:=fun k' hk'=>call126 ha hle (fun k2 hk2 i e he=>by
  have hil:=(List.getElem?_eq_some_iff.1 he).1
  have hB:Bs[i]?=some Bs[i]:=List.getElem?_eq_getElem (by omega)
  rw [zS,call75 (hr i e _ he hB) hk2]
  simp only [zKN,hB]) hk'
 have h74:(zW E).call 74 [v,.func (.func 75) #[] #[]] k.fresh=some [(.bool (decide (0<=zm (zKN Bs) els.length 0)),k.fresh)]:=by
  refine zev (s:=true) hk.fresh.ok rfl (zc7 ?_)
  refine zc6 ?_
  simp only [zA,zS,h126 _ hk.fresh.fresh,zN,zAP,zAJ,zT,true_and]
  rw [zA4];omega
 simp only [zA,zS,h74,zN,zv,zAJ,zT,true_and]
 rw [zA4];omega
def IS (lo:Nat) (h:AH) (v:Value) (l:List Int):Prop:=(v=.slice none 0 0/\l=[])\/LS lo h v l
theorem IS.arr {lo:Nat} {h:AH} {v:Value} {l:List Int} (x:IS lo h v l):Arr h 1 v (l.map i1):=by
 rcases x with ⟨rfl,rfl⟩|x
 ·exact .nil _ _
 ·exact x.arr
theorem LS.blk {lo:Nat} {h:AH} {v:Value} {l:List Int} (x:LS lo h v l) {b:Nat} (hb:zy v b):lo<=b/\b<h.next:=by
 obtain ⟨c,cp,rfl,h1,h2,_⟩:=x
 obtain ⟨n,cap,e⟩:=hb
 simp only [Value.slice.injEq,Option.some.injEq,Addr.mk.injEq] at e
 rw [← e.1.1];exact ⟨h1,h2⟩
theorem IS.blk {lo:Nat} {h:AH} {v:Value} {l:List Int} (x:IS lo h v l) {b:Nat} (hb:zy v b):lo<=b/\b<h.next:=by
 rcases x with ⟨rfl,_⟩|x
 ·obtain ⟨n,cap,e⟩:=hb;cases e
 ·exact x.blk hb
theorem IS.mono {lo:Nat} {k k':AH} {v:Value} {L:List Int} (h:IS lo k v L) (hn:k.next<=k'.next) (hg:∀ b,b<k.next->zy v b->k'.get b=k.get b):IS lo k' v L:=by
 rcases h with h|h
 ·exact .inl h
 ·exact .inr (h.mono hn fun b _ h2 h3=>hg b h2 h3)
theorem IS.slice {lo:Nat} {h:AH} {v:Value} {l:List Int} (x:IS lo h v l):∃ a c,v=.slice a l.length c:=by
 rcases x with ⟨rfl,rfl⟩|⟨b,c,rfl,_⟩
 ·exact ⟨_,_,rfl⟩
 ·exact ⟨_,_,rfl⟩
theorem IS.app {lo:Nat} {h:AH} {v:Value} {l:List Int} (x:IS lo h v l) (hlo:lo<=h.next) (hl:l.length<=999998) (u:Int) :
  ∃ m,zAD E .append [47,47] (some [v,.slice (some ⟨h.next,0,none⟩) 1 1]) (h.new (.row [.int .i64 u] 3 0 false))=one (.slice (some ⟨h.next+1,0,none⟩) (l.length+1) (UNK+1),m) ∧
   LS lo m (.slice (some ⟨h.next+1,0,none⟩) (l.length+1) (UNK+1)) (l++[u])/\m.next=h.next+2/\(h.ok->Fx (fun c=>zy v c) h m):=by
 have hrow:=zI h (.row [.int .i64 u] 3 0 false)
 rcases x with ⟨rfl,rfl⟩|x
 ·refine ⟨_,append_nil elt47 hrow rfl,⟨h.next+1,UNK+1,by simp,by omega,by show h.next+1<h.next+1+1;omega,.inr ⟨rfl,zI (h.new _) _⟩⟩,rfl,fun hok=>((Fx.refl hok).new _).new _⟩
 ·obtain ⟨b0,c0,e0,hb0,hlt0,hc0⟩:=x.ex
  have xb:LS b0 h v l:=⟨b0,c0,e0,Nat.le_refl _,hlt0,hc0⟩
  have x1:LS b0 (h.new (.row [.int .i64 u] 3 0 false)) v l:=xb.mono (by simp) fun b _ hb _=>zK (by omega)
  obtain ⟨v',k1,a1,rfl,a3,a4,a5,a6,a7,a8⟩:=x1.app (by omega) hrow
  have e1:(h.new (.row [.int .i64 u] 3 0 false)).next=h.next+1:=rfl
  rw [e1] at a1 a3 a4 a5
  exact ⟨k1,a1,⟨h.next+1,UNK+1,by simp,by omega,by omega,.inr ⟨rfl,a4⟩⟩,by omega,fun hok=>⟨a6 (zCK hok _),by omega,fun c hc hn=>(a5 c (by omega) hn).trans (zK (by omega)),fun m h1 h2 h3=>a8 m h1 (h2 b0 ⟨_,_,e0⟩)⟩⟩
def addL (prs:List (Int×Int)) (x:Ed) (ln:List Int) (t:Int):List Int:=if (x.2.2,t)∈prs/\t ∉ ln then ln++[t] else ln
def AddR (lo b16:Nat) (vn:Value) (ln':List Int) (h h':AH):Prop:=∃ vn',h'.get b16=some (.row [vn'] 47 0 false)/\IS lo h' vn' ln'/\Fx (fun c=>c=b16\/zy vn c) h h'/\(∀ c,zy vn' c->zy vn c\/h.next<=c)
theorem call25 {h:AH} {b6 b15 b16 lo:Nat} {kind t:Int} {x:Ed} {vp vn:Value} {prs:List (Int×Int)} {ln:List Int} (hok:h.ok) (g6:h.get b6=some (.row [.int .i64 kind,vp] 32 0 false)) (ap:Arr h 2 vp (prs.map zG)) (hp:prs.length<=9223372036854775807)
  (g15:h.get b15=some (.row (zb x) 52 0 false)) (g16:h.get b16=some (.row [vn] 47 0 false)) (hb16:b16<h.next) (hv:IS lo h vn ln) (hlo:lo<=h.next) (hln:ln.length<=900000) (hd:¬ zy vn b16) :
  Ev true ((zW E).call 25 [.int .i64 t,ptr b6,ptr b15,ptr b16] h) fun y=>y.1=.tuple #[]/\AddR lo b16 vn (addL prs x ln t) h y.2:=by
 have hk:=Ext.refl hok
 have f6:h.fresh.get b6=some (.row [.int .i64 kind,vp] 32 0 false):=g6
 have f15:h.fresh.get b15=some (.row (zb x) 52 0 false):=g15
 have f16:h.fresh.get b16=some (.row [vn] 47 0 false):=g16
 have l6:=zF (P:=E) zLw (o:=1) f6
 have l15:=zF (P:=E) zAS (o:=2) f15
 have l16:=zF (P:=E) ta_47 (o:=0) f16
 simp only [lnth,zb] at l6 l15 l16
 have c26:=call26 (x:=(x.2.2,t)) ap hp hk.fresh
 have c27:=call27 (x:=t) hv.arr (by omega) hk.fresh
 have pb:zAi E 54 (some [(0,.int .i64 x.2.2),(1,.int .i64 t)])=some (.agg ⟨zG (x.2.2,t)⟩):=pb54
 by_cases hc:(x.2.2,t)∈prs/\t ∉ ln
 ·
  obtain ⟨h1,h2⟩:=hc
  have heq:addL prs x ln t=ln++[t]:=if_pos ⟨h1,h2⟩
  rw [heq]
  refine zfA (Rp:=fun v m=>v=.tuple #[]/\AddR lo b16 vn (ln++[t]) h m) (zOo ?_)
  simp only [zC7,zBx,Nat.zero_add,l6,l15,zA,pb,zS,c26,zN,h1,decide_true,zM,zP,beq_self_eq_true,cond_true,l16,c27,h2,decide_false,zv,Bool.not_false,zJ,zu]
  refine zeF ?_
  obtain ⟨m,a1,a2,a3,a4⟩:=(show IS lo h.fresh vn ln from hv.mono (Nat.le_refl _) fun _ _ _=>rfl).app hlo (by omega) t
  have a4:=a4 (zAT h)
  have m16:m.get b16=some (.row [vn] 47 0 false):=(a4.get b16 hb16 hd).trans f16
  have hst:=zw (P:=E) ts_47 (o:=0) m16 (zEp (some ⟨h.fresh.next+1,0,none⟩) (ln.length+1) (UNK+1)) rfl (by simp) rfl
  have hput:lput [vn] 0 [Value.slice (some ⟨h.fresh.next+1,0,none⟩) (ln.length+1) (UNK+1)]=[.slice (some ⟨h.fresh.next+1,0,none⟩) (ln.length+1) (UNK+1)]:=rfl
  rw [hput] at hst
  simp only [l16,zA,bs47,zL,a1,hst,zMW,zT,zCC,true_and]
  have hnm:m.next=h.next+2:=a3
  have hf:Fx (fun c=>c=b16\/zy vn c) h.fresh (m.upd b16 (some (.row [.slice (some ⟨h.fresh.next+1,0,none⟩) (ln.length+1) (UNK+1)] 47 0 false))):=
   (a4.mono (P':=fun c=>c=b16\/zy vn c) fun c hc=>.inl (.inr hc)).upd (.inl (.inl rfl)) _
  have hwm:(m.upd b16 (some (.row [.slice (some ⟨h.fresh.next+1,0,none⟩) (ln.length+1) (UNK+1)] 47 0 false))).wm<=b16:=(zDB m b16 _).2
  have hls:LS lo (m.upd b16 (some (.row [.slice (some ⟨h.fresh.next+1,0,none⟩) (ln.length+1) (UNK+1)] 47 0 false))) (.slice (some ⟨h.fresh.next+1,0,none⟩) (ln.length+1) (UNK+1)) (ln++[t]):=
   a2.mono (Nat.le_refl _) fun b _ hb hbk=>zU (by
    obtain ⟨n,cap,e⟩:=hbk
    simp only [Value.slice.injEq,Option.some.injEq,Addr.mk.injEq] at e
    have:=e.1.1
    simp only [zZ] at this
    omega)
  refine ⟨.inr (by omega),_,zR _ _ _,?_,?_,?_⟩
  ·exact .inr (hls.mono (Nat.le_refl _) fun _ _ _ _=>rfl)
  ·refine ⟨?_,hf.next,fun c hc hn=>hf.get c hc hn,fun w h1 h2 h3=>?_⟩
   ·show cond (Nat.ble h.wm _) h.wm _<=m.next+UNK
    cases hcc:Nat.ble h.wm (m.upd b16 (some (.row [.slice (some ⟨h.fresh.next+1,0,none⟩) (ln.length+1) (UNK+1)] 47 0 false))).wm with
    | true=>rw [ble_true] at hcc;simp only [cond_true];have:=hwm;omega
    | false=>simp only [cond_false];omega
   ·show w<=cond (Nat.ble h.wm _) h.wm _
    cases hcc:Nat.ble h.wm (m.upd b16 (some (.row [.slice (some ⟨h.fresh.next+1,0,none⟩) (ln.length+1) (UNK+1)] 47 0 false))).wm with
    | true=>exact h1
    | false=>
     simp only [cond_false]
     exact hf.wm w (by rw [zA4];omega) h2 h3
  ·rintro c ⟨n,cap,e⟩
   simp only [Value.slice.injEq,Option.some.injEq,Addr.mk.injEq] at e
   have:=e.1.1
   simp only [zZ] at this
   exact .inr (by omega)
 ·
  have heq:addL prs x ln t=ln:=if_neg hc
  rw [heq]
  have:(zW E).call 25 [.int .i64 t,ptr b6,ptr b15,ptr b16] h=some [(.tuple #[],h)]:=by
   refine zaO hok rfl (zOo ?_)
   by_cases h1:(x.2.2,t)∈prs
   ·have h2:t∈ln:=by
     by_cases h:t∈ln
     ·exact h
     ·exact absurd ⟨h1,h⟩ hc
    simp only [zC7,zBx,Nat.zero_add,l6,l15,zA,pb,zS,c26,zN,h1,decide_true,zM,zP,beq_self_eq_true,cond_true,l16,c27,h2,zv,Bool.not_true,zJ,zk,zMW,zCC,true_and]
    rw [zA4];omega
   ·simp only [zC7,zBx,Nat.zero_add,l6,l15,zA,pb,zS,c26,zN,h1,decide_false,zM,zP,show (false==true)=false from rfl,cond_false,zL,zJ,zk,zMW,zCC,true_and]
    rw [zA4];omega
  rw [this,zN]
  exact ⟨rfl,vn,g16,hv,Fx.refl hok,fun c h=>.inl h⟩
end Go.Proofs
namespace Go.Proofs
open Go Go.AM
set_option maxRecDepth 100000
set_option maxHeartbeats 4000000
structure Cxt (g:AH) (lo a4 a5 a6 b15 bs2:Nat) (L M:GL) (kind:Int) (prs:List (Int×Int)) (x:Ed) (cells2:List Value) (vlL veL vlM veM vp:Value) (elsL elsM:List (List Value)):Prop where
 r4:g.get a4=some (.row [.int .i64 L.n,vlL,veL] 25 0 false)
 r5:g.get a5=some (.row [.int .i64 M.n,vlM,veM] 25 0 false)
 r6:g.get a6=some (.row [.int .i64 kind,vp] 32 0 false)
 r15:g.get b15=some (.row (zb x) 52 0 false)
 l4:a4<g.next
 l5:a5<g.next
 l6:a6<g.next
 l15:b15<g.next
 aL:Arr g 2 vlL elsL
 lL:RLab g elsL L.labs
 aM:Arr g 2 vlM elsM
 lM:RLab g elsM M.labs
 ap:Arr g 2 vp (prs.map zG)
 hp:prs.length<=4000
 O2:LoL lo g bs2 cells2 (outOf M)
structure Hs (k g:AH) (h:AH) (v21 vn:Value) (lc ln:List Int):Prop where
 ow:Own k h
 ex:Ext g h
 kg:k.next<=g.next
 r16:h.get g.next=some (.row [vn] 47 0 false)
 lt:g.next<h.next
 ic:LS (g.next+1) h v21 lc
 ins:IS (g.next+1) h vn ln
 dis:∀ c,zy v21 c->¬ zy vn c
theorem Hs.step {k g h m:AH} {v21 vn:Value} {lc ln:List Int} (H:Hs k g h v21 vn lc ln) (ho:Own k m) (hn:h.next<=m.next) (hg:∀ b,b<h.next->m.get b=h.get b):Hs k g m v21 vn lc ln:=
 ⟨ho,⟨ho.ext.ok,Nat.le_trans H.ex.next hn,fun b hb=>(hg b (Nat.lt_of_lt_of_le hb H.ex.next)).trans (H.ex.get b hb)⟩,H.kg,(hg _ H.lt).trans H.r16,Nat.lt_of_lt_of_le H.lt hn,
  H.ic.mono hn fun b _ hb _=>hg b hb,H.ins.mono hn fun b hb _=>hg b hb,H.dis⟩
theorem Hs.add {k g h h':AH} {v21 vn:Value} {lc ln ln':List Int} (H:Hs k g h v21 vn lc ln) (A:AddR (g.next+1) g.next vn ln' h h'):∃ vn',Hs k g h' v21 vn' lc ln':=by
 obtain ⟨vn',a1,a2,a3,a4⟩:=A
 have hlo:∀ c,c=g.next\/zy vn c->g.next<=c:=by
  rintro c (rfl|hc)
  ·exact Nat.le_refl _
  ·have:=(H.ins.blk hc).1;omega
 have hk:=H.kg
 refine ⟨vn',a3.own H.ow fun c hc=>Nat.le_trans H.kg (hlo c hc),⟨a3.ok,Nat.le_trans H.ex.next a3.next,fun b hb=>(a3.get b (Nat.lt_of_lt_of_le hb H.ex.next) fun hc=>by have:=hlo b hc;omega).trans (H.ex.get b hb)⟩,H.kg,a1,Nat.lt_of_lt_of_le H.lt a3.next,?_,a2,?_⟩
 ·refine H.ic.mono a3.next fun b h1 h2 h3=>a3.get b h2 ?_
  rintro (hc|hc)
  ·omega
  ·exact H.dis b h3 hc
 ·intro c h1 h2
  rcases a4 c h2 with h3|h3
  ·exact H.dis c h1 h3
  ·have:=(H.ic.blk h1).2;omega
theorem Hs.calm {k g h:AH} {v21 vn:Value} {lc ln:List Int} (H:Hs k g h v21 vn lc ln) (hl:lc.length<=999998) (u:Int) :
  ∃ m,zAD E .append [47,47] (some [v21,.slice (some ⟨h.next,0,none⟩) 1 1]) (h.new (.row [.int .i64 u] 3 0 false))=one (.slice (some ⟨h.next+1,0,none⟩) (lc.length+1) (UNK+1),m) ∧
   Hs k g m (.slice (some ⟨h.next+1,0,none⟩) (lc.length+1) (UNK+1)) vn (lc++[u]) ln:=by
 have hgl:=H.lt
 have hk:=H.kg
 obtain ⟨m,a1,a2,a3,a4⟩:=IS.app (.inr H.ic) (by omega) hl u
 have a4:=a4 H.ow.ext.ok
 have hlo:∀ c,zy v21 c->g.next+1<=c:=fun c hc=>(H.ic.blk hc).1
 refine ⟨m,a1,a4.own H.ow (fun c hc=>by have:=hlo c hc;omega),⟨a4.ok,Nat.le_trans H.ex.next a4.next,fun b hb=>(a4.get b (Nat.lt_of_lt_of_le hb H.ex.next) fun hc=>by have:=hlo b hc;omega).trans (H.ex.get b hb)⟩,H.kg,
  (a4.get _ H.lt fun hc=>by have:=hlo _ hc;omega).trans H.r16,Nat.lt_of_lt_of_le H.lt a4.next,a2,H.ins.mono a4.next fun b hb hbk=>a4.get b hb fun hc=>H.dis b hc hbk,?_⟩
 rintro c ⟨n,cap,e⟩ h2
 simp only [Value.slice.injEq,Option.some.injEq,Addr.mk.injEq] at e
 have:=(H.ins.blk h2).2
 have:=e.1.1
 omega
def zNu (M:GL) (y:Ed) (g:Int):Prop:=∃ l,M.labs[y.2.1.toNat]?=some (g,l)
structure DoneE (M:GL) (kind:Int) (prs:List (Int×Int)) (x:Ed) (cx:CL) (lc ln:List Int) (y:Ed):Prop where
 same:M.labs[y.2.1.toNat]?=some cx->(x.2.2,y.2.2)∈prs->ln≠[]
 calm:kind=2->zNu M y (-1)->y.2.2∈lc
theorem DoneE.mono {M:GL} {kind:Int} {prs:List (Int×Int)} {x:Ed} {cx:CL} {lc ln lc' ln':List Int} {y:Ed} (d:DoneE M kind prs x cx lc ln y) (h1:∀ u∈lc,u∈lc') (h2:ln≠[]->ln'≠[]):DoneE M kind prs x cx lc' ln' y:=
 ⟨fun a b=>h2 (d.same a b),fun a b=>h1 _ (d.calm a b)⟩
structure Pure5 (M:GL) (prs:List (Int×Int)) (x:Ed) (lc ln:List Int):Prop where
 cN:lc.Nodup
 cR:∀ u∈lc,0<=u/\u<M.n
 nN:ln.Nodup
 nR:∀ v∈ln,(x.2.2,v)∈prs
theorem zNb {α:Type} [DecidableEq α]:∀ {l m:List α},l.Nodup->(∀ a∈l,a∈m)->l.length<=m.length
 | [],m,_,_=>Nat.zero_le _
 | a::l,m,hn,hs=>by
  rw [List.nodup_cons] at hn
  have h1:a∈m:=hs a (by simp)
  have:=zNb (m:=m.erase a) hn.2 fun b hb=>(List.mem_erase_of_ne (fun e=>by subst e;exact hn.1 hb)).2 (hs b (by simp [hb]))
  rw [List.length_erase_of_mem h1] at this
  have:0<m.length:=List.length_pos_of_mem h1
  simp only [List.length_cons];omega
theorem Pure5.lenn {M:GL} {prs:List (Int×Int)} {x:Ed} {lc ln:List Int} (p:Pure5 M prs x lc ln):ln.length<=prs.length:=by
 have:=zNb (l:=ln.map fun v=>(x.2.2,v)) (m:=prs) (by
  have hn:=p.nN
  clear p
  induction ln with
  | nil=>simp
  | cons a l ih=>
   rw [List.nodup_cons] at hn
   rw [List.map_cons,List.nodup_cons]
   refine ⟨fun h=>?_,ih hn.2⟩
   obtain ⟨b,hb,e⟩:=List.mem_map.1 h
   cases e
   exact hn.1 hb) fun q hq=>by
  obtain ⟨v,hv,rfl⟩:=List.mem_map.1 hq
  exact p.nR v hv
 simpa using this
theorem Pure5.addL {M:GL} {prs:List (Int×Int)} {x:Ed} {lc ln:List Int} (p:Pure5 M prs x lc ln) (t:Int):Pure5 M prs x lc (addL prs x ln t)/\(ln≠[]->Proofs.addL prs x ln t≠[])/\((x.2.2,t)∈prs->Proofs.addL prs x ln t≠[]):=by
 unfold Proofs.addL
 split
 ·rename_i h
  refine ⟨⟨p.cN,p.cR,?_,?_⟩,fun _=>by simp,fun _=>by simp⟩
  ·rw [List.nodup_append]
   exact ⟨p.nN,by simp,fun a ha b hb e=>by simp at hb;subst hb;subst e;exact h.2 ha⟩
  ·intro v hv
   rcases List.mem_append.1 hv with hv|hv
   ·exact p.nR v hv
   ·simp at hv;subst hv;exact h.1
 ·rename_i h
  refine ⟨p,id,fun h1=>?_⟩
  by_cases h2:t∈ln
  ·intro e;rw [e] at h2;cases h2
  ·exact absurd ⟨h1,h2⟩ h
theorem Pure5.app {M:GL} {prs:List (Int×Int)} {x:Ed} {lc ln:List Int} (p:Pure5 M prs x lc ln) {u:Int} (h:u ∉ lc) (h1:0<=u/\u<M.n):Pure5 M prs x (lc++[u]) ln:=by
 refine ⟨?_,?_,p.nN,p.nR⟩
 ·rw [List.nodup_append]
  exact ⟨p.cN,by simp,fun a ha b hb e=>by simp at hb;subst hb;subst e;exact h ha⟩
 ·intro v hv
  rcases List.mem_append.1 hv with hv|hv
  ·exact p.cR v hv
  ·simp at hv;subst hv;exact h1
theorem idx22f {h k:AH} {v:Value} {els:List (List Value)} (ha:Arr h 2 v els) (e:Ext h k) {i:Nat} {g:Int} {r:List Value} (hi:els[i]?=some (.int .i64 g::r)) :
  ∃ p q,zE E 22 (some v) (some (.int .i64 (i:Int)))=some p/\zD E 36 0 (some p)=some q/\zH E 3 k (some q)=some (.int .i64 g):=by
 obtain ⟨b,o,c,vs,ty,es,ro,rfl,hb,hlt,hle,hz,hl⟩:=ha.load hi
 have hil:i<els.length:=(List.getElem?_eq_some_iff.1 hi).1
 refine ⟨_,_,zAO zHt zbQ hil,zBI,?_⟩
 rw [zF (P:=E) zAS ((e.get b hlt).trans hb),zAk,Nat.add_zero]
 have:((vs.drop (o+i*2)).take 2)[0]?=some (.int .i64 g):=by rw [hz];rfl
 rw [List.getElem?_take_of_lt (by omega),List.getElem?_drop] at this
 simpa using this
structure Grow (lc0 ln0 lc ln:List Int):Prop where
 pre:∃ t,lc=lc0++t
 ne:ln0≠[]->ln≠[]
theorem Grow.refl (lc ln:List Int):Grow lc ln lc ln:=⟨⟨[],by simp⟩,id⟩
theorem Grow.trans {a b c d e f:List Int} (x:Grow a b c d) (y:Grow c d e f):Grow a b e f:=by
 obtain ⟨t,rfl⟩:=x.pre
 obtain ⟨u,rfl⟩:=y.pre
 exact ⟨⟨t++u,by simp⟩,fun h=>y.ne (x.ne h)⟩
theorem Grow.mem {a b c d:List Int} (x:Grow a b c d):∀ u∈a,u∈c:=by
 obtain ⟨t,rfl⟩:=x.pre
 intro u hu;simp [hu]
section
variable {k g:AH} {lo a4 a5 a6 b15 bs2:Nat} {L M:GL} {kind:Int} {prs:List (Int×Int)} {x:Ed} {cells2:List Value} {vlL veL vlM veM vp:Value} {elsL elsM:List (List Value)}
theorem Hs.call {h:AH} {v21 vn:Value} {lc ln:List Int} (C:Cxt g lo a4 a5 a6 b15 bs2 L M kind prs x cells2 vlL veL vlM veM vp elsL elsM) (H:Hs k g h v21 vn lc ln) (P:Pure5 M prs x lc ln) (t:Int) :
  Ev true ((zW E).call 25 [.int .i64 t,ptr a6,ptr b15,ptr g.next] h) fun y=>y.1=.tuple #[]/\∃ vn',Hs k g y.2 v21 vn' lc (addL prs x ln t):=by
 have hp:=C.hp
 have hl:=P.lenn
 have hlt:=H.lt
 refine (call25 (lo:=g.next+1) H.ow.ext.ok ((H.ex.get _ C.l6).trans C.r6) (C.ap.ext H.ex) (by omega) ((H.ex.get _ C.l15).trans C.r15) H.r16 H.lt H.ins (by omega) (by omega) (fun hb=>by have:=(H.ins.blk hb).1;omega)).mono fun y hy=>?_
 exact ⟨hy.1,H.add hy.2⟩
end
structure DoneS (M:GL) (kind:Int) (prs:List (Int×Int)) (x:Ed) (cx:CL) (inner:Bool) (lc ln:List Int) (u:Int):Prop where
 stay:kind=2->inner=true->(x.2.2,u)∈prs->ln≠[]
 eds:∀ S,(outOf M)[u.toNat]?=some S->∀ y∈S,DoneE M kind prs x cx lc ln y
theorem DoneS.mono {M:GL} {kind:Int} {prs:List (Int×Int)} {x:Ed} {cx:CL} {inner:Bool} {lc ln lc' ln':List Int} {u:Int} (d:DoneS M kind prs x cx inner lc ln u) (G:Grow lc ln lc' ln'):DoneS M kind prs x cx inner lc' ln' u:=
 ⟨fun a b c=>G.ne (d.stay a b c),fun S hS y hy=>(d.eds S hS y hy).mono G.mem G.ne⟩
section
variable {k g:AH} {lo a4 a5 a6 b15 bs2:Nat} {L M:GL} {kind:Int} {prs:List (Int×Int)} {x:Ed} {cells2:List Value} {vlL veL vlM veM vp:Value} {elsL elsM:List (List Value)}
end
theorem zKJ:∀ (l:List Ed) (EE:List (List Ed)) (i:Nat) (S:List Ed),(zL4 EE l)[i]?=some S->∃ S0,EE[i]?=some S0/\∀ y,y∈S ↔ y∈S0\/(y∈l/\y.1.toNat=i)
 | [],EE,i,S,h=>⟨S,h,fun y=>by simp⟩
 | e::l,EE,i,S,h=>by
  simp only [zL4] at h
  obtain ⟨S0,h0,hS⟩:=zKJ l _ i S h
  by_cases hi:e.1.toNat=i
  ·subst hi
   rw [List.getElem?_set] at h0
   simp only [if_true] at h0
   split at h0
   ·rename_i hlt
    cases h0
    refine ⟨EE[e.1.toNat],List.getElem?_eq_getElem hlt,fun y=>?_⟩
    rw [hS y,List.getElem?_eq_getElem hlt]
    simp only [Option.getD_some,List.mem_append,List.mem_cons,List.not_mem_nil,or_false]
    constructor
    ·rintro ((h|rfl)|⟨h1,h2⟩)
     ·exact .inl h
     ·exact .inr ⟨.inl rfl,rfl⟩
     ·exact .inr ⟨.inr h1,h2⟩
    ·rintro (h|⟨rfl|h1,h2⟩)
     ·exact .inl (.inl h)
     ·exact .inl (.inr rfl)
     ·exact .inr ⟨h1,h2⟩
   ·cases h0
  ·rw [List.getElem?_set_ne hi] at h0
   refine ⟨S0,h0,fun y=>?_⟩
   rw [hS y]
   simp only [List.mem_cons]
   constructor
   ·rintro (h|⟨h1,h2⟩)
    ·exact .inl h
    ·exact .inr ⟨.inr h1,h2⟩
   ·rintro (h|⟨rfl|h1,h2⟩)
    ·exact .inl h
    ·exact absurd h2 hi
    ·exact .inr ⟨h1,h2⟩
theorem zGy {L:GL} {i:Nat} {S:List Ed} (h:(outOf L)[i]?=some S) (y:Ed):y∈S ↔ y∈L.eds/\y.1.toNat=i:=by
 obtain ⟨S0,h0,hS⟩:=zKJ _ _ i S h
 rw [List.getElem?_replicate] at h0
 split at h0
 ·cases h0;rw [hS y];simp
 ·cases h0
theorem LoL.ext {lo bs:Nat} {g h:AH} {cells:List Value} {EE:List (List Ed)} (G:LoL lo g bs cells EE) (e:Ext g h):LoL lo h bs cells EE:=
 ⟨(e.get _ G.lts).trans G.s,G.len,Nat.lt_of_lt_of_le G.lts e.next,G.locs,fun i c S hc hS=>by
  rcases G.cell i c S hc hS with h1|⟨b,h1,h2,h3⟩
  ·exact .inl h1
  ·exact .inr ⟨b,h1,(e.get b h3).trans h2,Nat.lt_of_lt_of_le h3 e.next⟩,G.blk,G.dis⟩
end Go.Proofs
namespace Go.Proofs
open Go Go.AM
set_option maxRecDepth 100000
set_option maxHeartbeats 8000000
theorem zTE {L M:GL} {B:GB} (h:zBq L M B=0):zAL L=false/\zAL M=false/\zBb B=0/\zRs L M B=true:=by
 unfold zBq at h
 split at h
 ·cases h
 ·rename_i h1
  rw [Bool.or_eq_true,not_or] at h1
  split at h
  ·rename_i h2;exact absurd h h2
  ·rename_i h2
   split at h
   ·rename_i h3;exact ⟨by simpa using h1.1,by simpa using h1.2,by simpa using h2,h3⟩
   ·cases h
theorem idx_one (p:Nat->Bool):decide (0<=zm p 1 0)=p 0:=by
 cases h:p 0 <;> simp [zm,h]
theorem arr2 {k:AH} {b:Nat} {e f:List Value} {z:Nat} {ty:TypeId} (he:e.length=z) (hf:f.length=z) (h:k.get b=some (.row (e++f) ty 0 false)) (hl:b<k.next):Arr k z (.slice (some ⟨b,0,none⟩) 2 2) [e,f]:=by
 refine Arr.row (els:=[e,f]) h hl (by simp [he,hf];omega) fun i x hx=>?_
 match i with
 | 0=>simp at hx;subst hx;exact ⟨he,by simp [← he]⟩
 | 1=>simp at hx;subst hx;exact ⟨hf,by rw [show 0+1*z=e.length by omega,List.drop_left];rw [← hf];simp⟩
 | i+2=>simp at hx
end Go.Proofs
namespace Go.Proofs
open Go Go.AM
set_option maxHeartbeats 1000000
def zEX:List Int->List Int->Int
 | [],[]=>0
 | [],_::_=>-1
 | _::_,[]=>1
 | a::aas,b::bs=>if c3 a b=0 then zEX aas bs else c3 a b
mutual
def encT:GT->List Int
 | .mk k n l=>k::n::(l.length:Int)::zRI l
def zRI:List GT->List Int
 | []=>[]
 | t::ts=>encT t++zRI ts
end
theorem c3_zero {a b:Int}:c3 a b=0 ↔ a=b:=by
 unfold c3
 split
 ·constructor
  ·intro h;cases h
  ·intro h;omega
 ·split
  ·constructor
   ·intro h;cases h
   ·intro h;omega
  ·constructor
   ·intro;omega
   ·intro;rfl
theorem c3_neg {a b:Int}:c3 a b<0 ↔ a<b:=by
 unfold c3
 split
 ·constructor <;> intro <;> omega
 ·split <;> constructor <;> intro h <;> first|omega|(exfalso;revert h;decide)
mutual
theorem zN5:∀ (t u:GT) (r r':List Int),zEX (encT t++r) (encT u++r')=if zJZ t u=0 then zEX r r' else zJZ t u
 | .mk k n l,.mk k' n' l',r,r'=>by
  simp only [encT,List.cons_append,zEX,zJZ,orI]
  by_cases h1:c3 k k'=0
  ·by_cases h2:c3 n n'=0
   ·by_cases h3:c3 (l.length:Int) (l'.length:Int)=0
    ·have hlen:l.length=l'.length:=by have:=c3_zero.1 h3;omega
     simp only [h1,h2,h3,ne_eq,not_true_eq_false,if_true,if_false]
     exact zN7 l l' hlen r r'
    ·simp only [h1,h2,h3,ne_eq,not_true_eq_false,not_false_eq_true,if_true,if_false]
   ·simp only [h1,h2,ne_eq,not_true_eq_false,not_false_eq_true,if_true,if_false]
  ·simp only [h1,ne_eq,not_true_eq_false,not_false_eq_true,if_true,if_false]
theorem zN7:∀ (l l':List GT),l.length=l'.length->∀ (r r':List Int),zEX (zRI l++r) (zRI l'++r')=if zDs l l'=0 then zEX r r' else zDs l l'
 | [],[],_,r,r'=>by simp [zRI,zDs]
 | t::ts,u::us,h,r,r'=>by
  simp only [zRI,List.append_assoc,zDs]
  rw [zN5 t u,zN7 ts us (by simpa using h) r r']
  by_cases h1:zJZ t u=0 <;> simp [h1]
 | [],_::_,h,_,_=>by simp at h
 | _::_,[],h,_,_=>by simp at h
end
theorem zKp:∀ (l l':List GT),zEX (zRI l) (zRI l')=zDs l l'
 | [],[]=>rfl
 | [],.mk k n l::us=>by simp [zRI,encT,zEX,zDs]
 | .mk k n l::ts,[]=>by simp [zRI,encT,zEX,zDs]
 | t::ts,u::us=>by
  simp only [zRI,zDs]
  rw [zN5 t u,zKp ts us]
  by_cases h1:zJZ t u=0 <;> simp [h1]
def kc (c:CL):List Int:=c.1::zRI c.2
theorem zIY (c d:CL):zCM c.1 c.2 d.1 d.2=zEX (kc c) (kc d):=by
 simp only [zCM,orI,kc,zEX,zKp]
 by_cases h:c3 c.1 d.1=0
 ·simp only [h,ne_eq,not_true_eq_false,if_false,if_true]
  by_cases h2:zDs c.2 d.2=0
  ·rw [h2];simp
  ·simp [h2]
 ·simp [h]
theorem zNh:∀ a:List Int,zEX a a=0
 | []=>rfl
 | a::aas=>by simp [zEX,c3_zero.2 rfl,zNh aas]
theorem zNi:∀ a b:List Int,(zEX a b<0 ↔ 0<zEX b a)
 | [],[]=>by simp [zEX]
 | [],_::_=>by simp [zEX]
 | _::_,[]=>by simp [zEX]
 | a::aas,b::bs=>by
  simp only [zEX]
  rcases Int.lt_trichotomy a b with h|h|h
  ·have h1:c3 a b=-1:=by unfold c3;rw [if_pos h]
   have h2:c3 b a=1:=by unfold c3;rw [if_neg (by omega),if_pos h]
   simp [h1,h2]
  ·subst h
   simp only [c3_zero.2 rfl,if_true]
   exact zNi aas bs
  ·have h1:c3 a b=1:=by unfold c3;rw [if_neg (by omega),if_pos h]
   have h2:c3 b a=-1:=by unfold c3;rw [if_pos h]
   simp [h1,h2]
theorem zHA:∀ a b c:List Int,zEX a b<0->zEX b c<0->zEX a c<0
 | a,[],c,h1,h2=>by cases a <;> simp [zEX] at h1
 | [],b::bs,c,h1,h2=>by
  cases c with
  | nil=>simp [zEX] at h2
  | cons x xs=>simp [zEX]
 | a::aas,b::bs,c,h1,h2=>by
  cases c with
  | nil=>simp [zEX] at h2
  | cons x xs=>
   simp only [zEX] at h1 h2 ⊢
   by_cases e1:c3 a b=0
   ·rw [if_pos e1] at h1
    have:=c3_zero.1 e1
    subst this
    by_cases e2:c3 a x=0
    ·rw [if_pos e2] at h2 ⊢
     exact zHA aas bs xs h1 h2
    ·rw [if_neg e2] at h2 ⊢;exact h2
   ·rw [if_neg e1] at h1
    have hab:=c3_neg.1 h1
    by_cases e2:c3 b x=0
    ·have:=c3_zero.1 e2
     subst this
     rw [if_neg e1];exact h1
    ·rw [if_neg e2] at h2
     have hbx:=c3_neg.1 h2
     have:c3 a x<0:=c3_neg.2 (by omega)
     rw [if_neg (by omega)];exact this
mutual
theorem cmpT_eq:∀ t u:GT,zJZ t u=0->t=u
 | .mk k n l,.mk k' n' l',h=>by
  simp only [zJZ,orI] at h
  by_cases h1:c3 k k'=0
  ·by_cases h2:c3 n n'=0
   ·by_cases h3:c3 (l.length:Int) (l'.length:Int)=0
    ·simp only [h1,h2,h3,ne_eq,not_true_eq_false,if_false] at h
     rw [c3_zero.1 h1,c3_zero.1 h2,zMs l l' h]
    ·simp only [h1,h2,h3,ne_eq,not_true_eq_false,not_false_eq_true,if_true,if_false] at h
   ·simp only [h1,h2,ne_eq,not_true_eq_false,not_false_eq_true,if_true,if_false] at h
  ·simp only [h1,ne_eq,not_true_eq_false,not_false_eq_true,if_true,if_false] at h
theorem zMs:∀ l m:List GT,zDs l m=0->l=m
 | [],[],_=>rfl
 | [],_::_,h=>by simp [zDs] at h
 | _::_,[],h=>by simp [zDs] at h
 | t::ts,u::us,h=>by
  simp only [zDs] at h
  by_cases h1:zJZ t u=0
  ·simp only [h1,ne_eq,not_true_eq_false,if_false] at h
   rw [cmpT_eq t u h1,zMs ts us h]
  ·simp only [h1,ne_eq,not_false_eq_true,if_true] at h
end
def clt (c d:CL):Prop:=zEX (kc c) (kc d)<0
theorem kc_eq {c d:CL} (h:zEX (kc c) (kc d)=0):c=d:=by
 rw [← zIY] at h
 obtain ⟨g,l⟩:=c
 obtain ⟨g',l'⟩:=d
 simp only [zCM,orI] at h
 by_cases h1:c3 g g'=0
 ·simp only [h1,ne_eq,not_true_eq_false,if_false] at h
  have h2:zDs l l'=0:=by
   by_cases h3:zDs l l'=0
   ·exact h3
   ·simp [h3] at h
  rw [c3_zero.1 h1,zMs l l' h2]
 ·simp [h1] at h
abbrev zDq (cs:List CL):Prop:=cs.Pairwise clt
theorem zBn {ls:List CL} {c x:CL} {q:Nat} (h:ls[q]?=some x):zEQ ls c q=zEX (kc x) (kc c):=by
 unfold zEQ;rw [h];exact zIY x c
theorem zFa {cs:List CL} (hs:zDq cs) {i j:Nat} {x y:CL} (hx:cs[i]?=some x) (hy:cs[j]?=some y) (hij:i<j):clt x y:=by
 obtain ⟨h1,rfl⟩:=List.getElem?_eq_some_iff.1 hx
 obtain ⟨h2,rfl⟩:=List.getElem?_eq_some_iff.1 hy
 exact List.pairwise_iff_getElem.1 hs i j h1 h2 hij
theorem zM3 {ls:List CL} (hs:zDq ls) (c:CL):∀ (m i j:Nat),j<=i+m->i<=j->j<=ls.length->(∀ q,q<i->zEQ ls c q<0)->(∀ q,j<=q->q<ls.length->0<=zEQ ls c q)->
  zRK ls c m i j<=ls.length/\(∀ q,q<zRK ls c m i j->zEQ ls c q<0)/\∀ q,zRK ls c m i j<=q->q<ls.length->0<=zEQ ls c q
 | 0,i,j,h1,h2,h3,ha,hb=>by
  have:i=j:=by omega
  subst this
  exact ⟨h3,ha,hb⟩
 | m+1,i,j,h1,h2,h3,ha,hb=>by
  simp only [zRK]
  by_cases hij:i<j
  ·rw [if_pos hij]
   have hq:(i+j) / 2<ls.length:=by omega
   obtain ⟨x,hx⟩:∃ x,ls[(i+j) / 2]?=some x:=⟨_,List.getElem?_eq_getElem hq⟩
   by_cases hc:zEQ ls c ((i+j) / 2)<0
   ·rw [if_pos hc]
    refine zM3 hs c m _ j (by omega) (by omega) h3 (fun q hq'=>?_) hb
    by_cases e:q=(i+j) / 2
    ·rw [e];exact hc
    ·obtain ⟨y,hy⟩:∃ y,ls[q]?=some y:=⟨_,List.getElem?_eq_getElem (by omega)⟩
     rw [zBn hx] at hc
     rw [zBn hy]
     exact zHA _ _ _ (zFa hs hy hx (by omega)) hc
   ·rw [if_neg hc]
    refine zM3 hs c m i _ (by omega) (by omega) (by omega) ha fun q hq1 hq2=>?_
    by_cases e:q=(i+j) / 2
    ·rw [e];omega
    ·obtain ⟨y,hy⟩:∃ y,ls[q]?=some y:=⟨_,List.getElem?_eq_getElem hq2⟩
     rw [zBn hx] at hc
     rw [zBn hy]
     have hxy:=zFa hs hx hy (by omega)
     rcases Int.lt_or_le (zEX (kc y) (kc c)) 0 with h|h
     ·exact absurd (zHA _ _ _ hxy h) hc
     ·exact h
  ·rw [if_neg hij]
   have:i=j:=by omega
   subst this
   exact ⟨h3,ha,hb⟩
theorem bsI_ok {ls:List CL} (hs:zDq ls) (c:CL):bsI ls c<=ls.length/\(∀ q,q<bsI ls c->zEQ ls c q<0)/\∀ q,bsI ls c<=q->q<ls.length->0<=zEQ ls c q:=
 zM3 hs c ls.length 0 ls.length (by omega) (Nat.zero_le _) (Nat.le_refl _) (fun q h=>absurd h (Nat.not_lt_zero _)) (fun q h1 h2=>by omega)
theorem zGg {ls:List CL} (hs:zDq ls) {c:CL} (hc:c∈ls):bsB ls c=true/\ls[bsI ls c]?=some c:=by
 obtain ⟨q,hq⟩:=List.getElem?_of_mem hc
 obtain ⟨h1,h2,h3⟩:=bsI_ok hs c
 have hql:=(List.getElem?_eq_some_iff.1 hq).1
 have hz:zEQ ls c q=0:=by rw [zBn hq];exact zNh _
 have hle:bsI ls c<=q:=by
  rcases Nat.lt_or_ge q (bsI ls c) with h|h
  ·have:=h2 q h;omega
  ·exact h
 have he:bsI ls c=q:=by
  rcases Nat.lt_or_ge (bsI ls c) q with h|h
  ·obtain ⟨x,hx⟩:∃ x,ls[bsI ls c]?=some x:=⟨_,List.getElem?_eq_getElem (by omega)⟩
   have h4:=h3 (bsI ls c) (Nat.le_refl _) (by omega)
   rw [zBn hx] at h4
   have h5:=zFa hs hx hq h
   unfold clt at h5
   omega
  ·omega
 refine ⟨?_,by rw [he];exact hq⟩
 unfold bsB
 rw [he]
 simp [hql,hz]
theorem bs_hit {ls:List CL} {c:CL} (h:bsB ls c=true):ls[bsI ls c]?=some c:=by
 unfold bsB at h
 simp only [Bool.and_eq_true,decide_eq_true_eq] at h
 obtain ⟨x,hx⟩:∃ x,ls[bsI ls c]?=some x:=⟨_,List.getElem?_eq_getElem h.1⟩
 have h2:=h.2
 rw [zBn hx] at h2
 rw [hx,kc_eq h2]
theorem numL_ok {cs:List CL} (hs:zDq cs) (c:CL):zDq (zLo cs c).2/\(∀ d∈cs,d∈(zLo cs c).2)/\(c.1≠-1->c∈(zLo cs c).2):=by
 unfold zLo
 by_cases h:c.1=-1
 ·rw [if_pos h];exact ⟨hs,fun d hd=>hd,fun h2=>absurd h h2⟩
 ·rw [if_neg h]
  simp only
  by_cases hb:bsB cs c=true
  ·rw [if_pos hb]
   exact ⟨hs,fun d hd=>hd,fun _=>List.mem_of_getElem? (bs_hit hb)⟩
  ·rw [if_neg hb]
   obtain ⟨h1,h2,h3⟩:=bsI_ok hs c
   have hsp:cs=cs.take (bsI cs c)++cs.drop (bsI cs c):=(List.take_append_drop _ _).symm
   refine ⟨?_,fun d hd=>?_,fun _=>by simp⟩
   ·rw [hsp] at hs
    obtain ⟨p1,p2,p3⟩:=List.pairwise_append.1 hs
    refine List.pairwise_append.2 ⟨p1,List.pairwise_cons.2 ⟨fun d hd=>?_,p2⟩,fun a ha d hd=>?_⟩
    ·obtain ⟨q,hq⟩:=List.getElem?_of_mem hd
     rw [List.getElem?_drop] at hq
     have h4:=h3 (bsI cs c+q) (by omega) (List.getElem?_eq_some_iff.1 hq).1
     rw [zBn hq] at h4
     have hne:zEX (kc d) (kc c)≠0:=by
      intro e
      have:=kc_eq e
      subst this
      exact hb (zGg (by rw [hsp];exact hs) (List.mem_of_getElem? hq)).1
     exact (zNi _ _).2 (by omega)
    ·rcases List.mem_cons.1 hd with rfl|hd
     ·obtain ⟨q,hq⟩:=List.getElem?_of_mem ha
      have hql:=(List.getElem?_eq_some_iff.1 hq).1
      rw [List.length_take] at hql
      rw [List.getElem?_take_of_lt (by omega)] at hq
      have h4:=h2 q (by omega)
      rw [zBn hq] at h4
      exact h4
     ·exact p3 a ha d hd
   ·rw [hsp,List.mem_append] at hd
    simp only [List.mem_append,List.mem_cons]
    rcases hd with hd|hd
    ·exact .inl hd
    ·exact .inr (.inr hd)
theorem zG0:∀ (l:List CL) {cs:List CL},zDq cs->zDq (zBZ cs l).2/\(∀ d∈cs,d∈(zBZ cs l).2)/\∀ c∈l,c.1≠-1->c∈(zBZ cs l).2
 | [],cs,hs=>⟨hs,fun d hd=>hd,fun c hc=>by cases hc⟩
 | c::l,cs,hs=>by
  obtain ⟨a1,a2,a3⟩:=numL_ok hs c
  obtain ⟨b1,b2,b3⟩:=zG0 l a1
  simp only [zBZ]
  refine ⟨b1,fun d hd=>b2 d (a2 d hd),fun d hd h=>?_⟩
  rcases List.mem_cons.1 hd with rfl|hd
  ·exact b2 _ (a3 h)
  ·exact b3 d hd h
def zCq (cs:List CL) (c:CL):Int:=if c.1=-1 then 0 else ((bsI cs c:Nat):Int)+1
theorem zFg:∀ (l:List CL) {cs:List CL},zDq cs->(∀ c∈l,c.1≠-1->c∈cs)->zBZ cs l=(l.map (zCq cs),cs)
 | [],cs,_,_=>rfl
 | c::l,cs,hs,h=>by
  have h1:zLo cs c=(zCq cs c,cs):=by
   unfold zLo zCq
   by_cases hc:c.1=-1
   ·rw [if_pos hc,if_pos hc]
   ·rw [if_neg hc,if_neg hc,if_pos (zGg hs (h c (by simp) hc)).1]
  simp only [zBZ,h1,zFg l hs fun d hd=>h d (by simp [hd]),List.map_cons]
theorem zSC {cs:List CL} (hs:zDq cs) {c d:CL} (hc:c.1≠-1->c∈cs) (hd:d.1≠-1->d∈cs) (h:zCq cs c=zCq cs d):(c.1=-1/\d.1=-1)\/c=d:=by
 unfold zCq at h
 by_cases h1:c.1=-1
 ·by_cases h2:d.1=-1
  ·exact .inl ⟨h1,h2⟩
  ·rw [if_pos h1,if_neg h2] at h;omega
 ·by_cases h2:d.1=-1
  ·rw [if_neg h1,if_pos h2] at h;omega
  ·rw [if_neg h1,if_neg h2] at h
   have e:bsI cs c=bsI cs d:=by omega
   have a:=(zGg hs (hc h1)).2
   have b:=(zGg hs (hd h2)).2
   rw [e,b] at a
   exact .inr (Option.some.inj a).symm
abbrev zRb (nums:List Int) (e:Ed):Int×Int:=((nums[e.2.1.toNat]?).getD 0,e.2.2)
theorem zGn (nums:List Int):∀ (l:List Ed) (SS:List zAF) (i:Nat) (S:zAF),(zC2 nums SS l)[i]?=some S->∃ S0,SS[i]?=some S0/\∀ y,y∈S ↔ y∈S0\/∃ e∈l,e.1.toNat=i/\y=zRb nums e
 | [],SS,i,S,h=>⟨S,h,fun y=>by simp⟩
 | e::l,SS,i,S,h=>by
  simp only [zC2] at h
  obtain ⟨S0,h0,hS⟩:=zGn nums l _ i S h
  by_cases hi:e.1.toNat=i
  ·subst hi
   rw [List.getElem?_set] at h0
   simp only [if_true] at h0
   split at h0
   ·rename_i hlt
    cases h0
    refine ⟨SS[e.1.toNat],List.getElem?_eq_getElem hlt,fun y=>?_⟩
    rw [hS y,List.getElem?_eq_getElem hlt]
    simp only [Option.getD_some,List.mem_append,List.mem_cons,List.not_mem_nil,or_false]
    constructor
    ·rintro ((h|h)|⟨f,h1,h2⟩)
     ·exact .inl h
     ·exact .inr ⟨e,.inl rfl,rfl,h⟩
     ·exact .inr ⟨f,.inr h1,h2⟩
    ·rintro (h|⟨f,rfl|h1,h2,h3⟩)
     ·exact .inl (.inl h)
     ·exact .inl (.inr h3)
     ·exact .inr ⟨f,h1,h2,h3⟩
   ·cases h0
  ·rw [List.getElem?_set_ne hi] at h0
   refine ⟨S0,h0,fun y=>?_⟩
   rw [hS y]
   simp only [List.mem_cons]
   constructor
   ·rintro (h|⟨f,h1,h2⟩)
    ·exact .inl h
    ·exact .inr ⟨f,.inr h1,h2⟩
   ·rintro (h|⟨f,rfl|h1,h2,h3⟩)
    ·exact .inl h
    ·exact absurd h2 hi
    ·exact .inr ⟨f,h1,h2,h3⟩
theorem zGl {nums:List Int} {L:GL} {i:Nat} {S:zAF} (h:(zBh nums L)[i]?=some S) (y:Int×Int):y∈S ↔ ∃ e∈L.eds,e.1.toNat=i/\y=zRb nums e:=by
 obtain ⟨S0,h0,hS⟩:=zGn nums _ _ i S h
 rw [List.getElem?_replicate] at h0
 split at h0
 ·cases h0;rw [hS y];simp
 ·cases h0
def csOf (L M:GL):List CL:=(zBZ (zBZ [] L.labs).2 M.labs).2
theorem zS6 (L M:GL):zDq (csOf L M)/\(∀ c∈L.labs,c.1≠-1->c∈csOf L M)/\∀ c∈M.labs,c.1≠-1->c∈csOf L M:=by
 obtain ⟨a1,a2,a3⟩:=zG0 L.labs (cs:=[]) List.Pairwise.nil
 obtain ⟨b1,b2,b3⟩:=zG0 M.labs a1
 exact ⟨b1,fun c h1 h2=>b2 c (a3 c h1 h2),b3⟩
theorem zKd (L M:GL):zFH [L,M]=[zBh (L.labs.map (zCq (csOf L M))) L,zBh (M.labs.map (zCq (csOf L M))) M]:=by
 obtain ⟨h1,h2,h3⟩:=zS6 L M
 show zDh (csOf L M) [L,M]=_
 simp only [zDh,zFg L.labs h1 h2,zFg M.labs h1 h3]
theorem zPB {cs:List CL} {c:CL} (h:zCq cs c=0):c.1=-1:=by
 unfold zCq at h
 split at h
 ·assumption
 ·omega
theorem zR5 {B:GB} (h:zBb B=0):(B.kind=1\/B.kind=2)/\∀ p∈B.prs,0<=p.1/\0<=p.2:=by
 unfold zBb at h
 split at h
 ·cases h
 ·rename_i h1
  split at h
  ·cases h
  ·split at h
   ·cases h
   ·rename_i h3
    refine ⟨?_,fun p hp=>?_⟩
    ·simp [zDI] at h1;omega
    ·obtain ⟨i,hi⟩:=List.getElem?_of_mem hp
     have hlt:=(List.getElem?_eq_some_iff.1 hi).1
     have:=zCT (Bool.eq_false_iff.2 h3) i (Nat.zero_le _) (by omega)
     simp only [zCf,hi,Bool.or_eq_false_iff,decide_eq_false_iff_not] at this
     omega
theorem zIM:∀ (S:zAF) (l:List Int) (v:Int),v∈S.foldl zJk l->v∈l\/∃ y∈S,y.1=0/\y.2=v
 | [],l,v,h=>.inl h
 | y::S,l,v,h=>by
  rcases zIM S _ v h with h1|⟨z,h1,h2⟩
  ·unfold zJk at h1
   split at h1
   ·rename_i hc
    rcases List.mem_append.1 h1 with h2|h2
    ·exact .inl h2
    ·exact .inr ⟨y,by simp,hc.1,(List.mem_singleton.1 h2).symm⟩
   ·exact .inl h1
  ·exact .inr ⟨z,by simp [h1],h2⟩
theorem zOC {TT:List zAF} {body:Int->Bool} {lc:List Int} (hc:∀ u∈lc,∀ S,TT[u.toNat]?=some S->∀ y∈S,y.1=0->y.2∈lc) :
  ∀ (f i:Nat) (l:List Int),(∀ u∈l,u∈lc)->bfs TT body f i l=true->∃ u∈lc,body u=true
 | 0,i,l,_,h=>by simp [bfs] at h
 | f+1,i,l,hl,h=>by
  simp only [bfs] at h
  split at h
  ·cases h
  ·rename_i u hu
   have hm:=hl u (List.mem_of_getElem? hu)
   rcases Bool.or_eq_true_iff.1 h with h|h
   ·exact ⟨u,hm,h⟩
   ·refine zOC hc f (i+1) _ (fun v hv=>?_) h
    unfold zSF at hv
    split at hv
    ·rename_i S hS
     rcases zIM S l v hv with h1|⟨y,h1,h2,h3⟩
     ·exact hl v h1
     ·rw [← h3];exact hc u hm S hS y h1 h2
    ·exact hl v hv
end Go.Proofs
namespace Go.Proofs.YthmnhjcmefjgjaaGreatDoor
open Go Go.AM Go.ChangeShapes Go.WideShapes Go.ChangeAt Go.RowKit
set_option maxRecDepth 100000
section
variable {H:Type} {enc:TypeId×Value->H} {w:World} {base:Nat} {held:Bool}
theorem zbz {n:Nat} {cs:List Value} {x:DataW H×List MemPlace} {σ:Sg} {h:AH} (hok:h.ok) (hH:HR w.heap.size σ h w) (htr:DataW.trod enc Tryz.prog w base (fun _=>true) held n 32 cs=some x) :
  ∃ (σ':Sg) (h':AH) (vs:List Value) (B:GB),More w σ h σ' h'/\VRs σ' vs cs/\RB h' vs B:=by
 obtain ⟨m',hm',hl,hf⟩:=zCa ar_f32 htr
 rw [ar_c32] at hl
 obtain ⟨c0,c1,rfl⟩:=len2 hl
 obtain ⟨y0,g0⟩:=hf 0 3 0 rfl
 obtain ⟨y1,g1⟩:=hf 1 26 1 rfl
 rw [zId] at g0
 rw [ar_c26] at g1
 obtain ⟨k0,rfl⟩:=zB4 g0
 obtain ⟨σ1,h1,v1,v1',ps,e1,m1,r1,a1,n1⟩:=zTV hok hH g1
 cases e1
 exact ⟨σ1,h1,[.int .i64 k0,v1],⟨k0,ps⟩,m1,.cons (.int _ _) (.cons r1 .nil),⟨v1,rfl,a1⟩⟩
end
end Go.Proofs.YthmnhjcmefjgjaaGreatDoor
namespace Go.Proofs
open Go Go.AM
set_option maxRecDepth 100000
theorem ts_253:zAV E 253=some 1:=by kernel_rfl
theorem ta_253:tAS E 253=some (false,1):=by kernel_rfl
theorem z_253:zAG E 253=some (.int .u64 0):=by kernel_rfl
end Go.Proofs
