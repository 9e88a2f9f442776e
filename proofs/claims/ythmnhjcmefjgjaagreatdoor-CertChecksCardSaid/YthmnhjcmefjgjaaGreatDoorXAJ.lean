import Derived.Test.YthmnhjcmefjgjaaGreatDoorXAE
import Derived.Test.YthmnhjcmefjgjaaGreatDoorXAI
import Derived.Test.YthmnhjcmefjgjaaGreatDoorXAH
set_option linter.all false
set_option linter.unusedSectionVars false
set_option autoImplicit true
set_option relaxedAutoImplicit true
set_option maxRecDepth 100000
set_option maxHeartbeats 1000000
namespace Go.Proofs
open Go Go.AM
def zQL{k:AH}{a:Int}(aa:k.ok):(zc E).call 107 [iI a] k=some [(.bool (zBV a),k)]:=by
 refine zgk (s:=true) aa rfl (ze1 (ze0 ?_));simp only[zA,zAD];by_cases c:a=1
 ·simp[c,zBV,zA,zI,zE,zAC,zO]
 ·simp[c,zBV,zA,zI,zE,zAC,zO,zAD]
def zYG{k:AH}{p q:Int×Int}(aa:k.ok):(zc E).call 155 [.agg ⟨zC p⟩,.agg ⟨zC q⟩] k=some [(.bool (decide (zDH p q<0)),k)]:=by
 refine zgS (s:=true) aa rfl (zdg ?_);obtain⟨k1,e1,n1,t1,o1,f1⟩:=nwF k (rO (zC p) 54);obtain⟨k2,e2,n2,t2,o2,f2⟩:=nw o1 (rO (zC q) 54);simp only[zU,zF,zK,zA,e1,e2,zR,n1];rw[n1] at t2;have t1':=(f2 k.qa (by omega)).trans t1;refine zdf ?_;have a0:=zB (P:=E) zAE (o:=0+0) t1';have a1:=zB (P:=E) zAE (o:=0+1) t1';have b0:=zB (P:=E) zAE (o:=0+0) t2;have b1:=zB (P:=E) zAE (o:=0+1) t2;simp only[lnth,zC,xAK] at a0 a1 b0 b1;have fin:∀ b:Bool,(b=true ↔ zDH p q<0)->KR E [.tmp 4] (λ x l=>x=.bool (decide (zDH p q<0))/\k.qa<=l.wm) .ret [.bool b] k2:=λ b hb=>by
  rw[zAC];refine⟨zO ▸ trivial,?_,o2.wm⟩;cases b with
  | true=>rw[xAJ (hb.1 rfl)]
  | false=>rw[xAI (λ h=>xBd (hb.2 h))]
 simp only[zD9,zEb,xAK,a0,b0,a1,b1,zA,zP];by_cases h1:p.1<q.1
 ·simp only[h1,xDG,zI,show (true==false)=false from rfl,xAH,zA,zE,xAG];exact fin true (by rw[zAp];simp[h1])
 ·simp only[h1,xCz,zI,xAO,xAG,zA,zD9,zEb,a0,b0,a1,b1,zAD];by_cases h2:p.1=q.1
  ·simp only[h2,xDG,zI,xAO,xAG,zA,zD9,zEb,a0,b0,a1,b1,zP,zE,xAH];exact fin _ (by rw[zAp];simp[h2])
  ·simp only[h2,xCz,zI,xAO,show (false==true)=false from rfl,xAH,xAG,zA,zE];exact fin false (by rw[zAp];simp[h1,h2])
def zLz{h0 k:AH}{g:Int}{v:Value}{l:List GT}(hr:RT h0 v l)(hk:Ext h0 k):(zc E).call 158 [.agg ⟨[iI g,v]⟩] k=some [(.bool (decide (g=-1)&&decide (l=[])),k)]:=by
 obtain⟨a,c,hv⟩:=hr.slice;refine zgP (s:=true) hk.ok rfl (zdS ?_);obtain⟨k1,e1,n1,t1,o1,f1⟩:=nwF k (rO [iI g,v] 36);simp only[zU,zF,zK,e1,zR];refine zdR ?_;have l0:zb E 3 k1 (sP k.qa (0+0))=some (iI g):=zB (P:=E) zAE (o:=0+0) t1;have l1:zb E 34 k1 (sP k.qa (0+1))=some v:=zB (P:=E) zD0 (o:=0+1) t1;have x:zh E (zAc [(8,v)]) (zA4 zrR [1,0] 6) k1=some (iI (l.length:Int)):=by rw[hv];exact @zTa _ _ _ _
 rw[zBp,zA,l0,zA,zAD,zA];by_cases h1:g=-1
 ·simp only[h1,xDG,zI,xAO,xAG,zCL,zA,l1,x,zAD,zE,zAC,zO,xDJ,xCk];refine⟨?_,o1.wm⟩
  congr 1
  exact xCO.2 (by rw[← List.length_eq_zero_iff];omega)
 ·simp only[h1,xCz,zI,show (false==true)=false from rfl,xAH,zA,zE,zAC,zO,xDJ,xCf];exact o1.wm
def zwJ{a:Int}:zw E (zAc [(18,iI a)]) (zA4 B98 [1,1,1,0,0,0,1,0,0] 4)=some (iI (IntKind.i64.wrap (a.tdiv 2))):=by kernel_rfl
def wrap_i64{n:Int}(h:zC2 n):IntKind.i64.wrap n=n:=by
 unfold zC2 at h;simp[IntKind.wrap,IntKind.bits,IntKind.signed];omega
def zwc{s t:Int}:zAT E 54 (some [(0,iI s),(1,iI t)])=some (.agg ⟨zC (s,t)⟩):=by kernel_rfl
def zGp:∀ {l:List (Int×Int)},zBM l->∀ {i j:Nat} {p q:Int×Int},l[i]?=some p->l[j]?=some q->i<j->zDH p q<0:=by
 intro l hs i j p q hp hq eQ;obtain⟨h1,rfl⟩:=xAc.1 hp;obtain⟨h2,rfl⟩:=xAc.1 hq;exact xAe.1 hs i j h1 h2 eQ
def zX5{h0 k:AH}{v:Value}{l:List (Int×Int)}{s t:Int}(ha:Arr h0 2 v (l.map zC))(hs:zBM l)(hn:l.length<=1000000)(hk:Ext h0 k) :
  (zc E).call 98 [v,iI s,iI t] k=some [(.bool (decide ((s,t)∈l)),k)]:=by
 obtain⟨a,c,hv⟩:=ha.slice;rw[xCY] at hv;refine zln (s:=true) hk.ok rfl (zig (zif (zie ?_)));have el:=hk.qb;have d7:k.qa<=k.qb.wm:=by rw[zAN];omega
 have x1:zh E (zAc [(10,v)]) (zA4 B98 [1,1,0] 1) k.qb=some (iI (l.length:Int)):=by rw[hv];exact @zWz _ _ _ _
 have x2:zh E (zAc [(33,v)]) (zA4 B98 [1,1,1,1,0] 2) k.qb=some (iI (l.length:Int)):=by rw[hv];exact @zWy _ _ _ _
 rw[x1,zA];generalize k.qb=g at el d7 x1 x2;have loop:∀(d lo hi:Nat),hi<=lo+d->lo<=hi->hi<=l.length->(∀(j:Nat) (p:Int×Int),j<lo->l[j]?=some p->zDH p (s,t)<0)->(∀(j:Nat) (p:Int×Int),hi<=j->l[j]?=some p->¬ zDH p (s,t)<0)->
   PI (C98 true) (KR E [.tmp 3] λ x h=>x=.bool (decide ((s,t)∈l))/\k.qa<=h.wm) 3 [v,iI s,iI t,iI (lo:Int),iI (hi:Int)] g:=by
  intro d
  induction d with
  | zero=>
   intro lo hi hd hlh hhl h1 h2;obtain rfl:lo=hi:=by omega
   refine zR1 ?_;rw[zP,zA,xAI (by omega),zZ];refine ziZ ?_;rw[x2,zA,zP,zA];by_cases ab:lo<l.length
   ·obtain⟨p,hp⟩:∃ p,l[lo]?=some p:=⟨_,xAA ab⟩;have bM:(l.map zC)[lo]?=some (zC p):=by rw[xBi,hp];rfl
    obtain⟨b,o,c',vs,ty,es,ro,eF,hb,ba,bK,hz,bN⟩:=ha.load bM;have gb:=(el.get b ba).trans hb;have q0:=zXg (b:=b) (o:=o) (c:=c') (k:=lo) (len:=(l.map zC).length) (by rw[xCY];exact ab);rw[← eF] at q0;have z0:((vs.drop (o+lo*2)).take 2)[0]?=some (iI p.1):=by rw[hz];rfl
    have z1:((vs.drop (o+lo*2)).take 2)[1]?=some (iI p.2):=by rw[hz];rfl
    rw[xAg (by omega),xBW] at z0 z1;have l0:zb E 3 g (some (.pointer (some ⟨b,o+lo*2+0,none⟩)))=some (iI p.1):=by rw[zB (P:=E) zAE gb,zAI];exact z0
    have l1:zb E 3 g (some (.pointer (some ⟨b,o+lo*2+1,none⟩)))=some (iI p.2):=by rw[zB (P:=E) zAE gb,zAI];exact z1
    have mem:(s,t)∈l ↔ p=(s,t):=by
     constructor
     ·intro hm;obtain⟨j,hj⟩:=xBN hm;have irr:¬ zDH (s,t) (s,t)<0:=by rw[zAp];simp
      rcases Nat.lt_trichotomy j lo with h|h|h
      ·exact absurd (h1 j _ h hj) irr
      ·subst h;rw[hp] at hj;exact xCc hj
      ·exact absurd (zGp hs hp hj h) (h2 lo p (xAF _) hp)
     ·rintro rfl;exact xBI hp
    have hd:∀ b:Bool,(b=true ↔ p=(s,t))->KR E [.tmp 3] (λ x h=>x=.bool (decide ((s,t)∈l))/\k.qa<=h.wm) .ret [.bool b] g:=λ b hb=>by
     rw[zAC];refine⟨zO ▸ trivial,?_,d7⟩;cases b with
     | true=>rw[xAJ (mem.2 (hb.1 rfl))]
     | false=>rw[xAI (λ h=>xBd (hb.2 (mem.1 h)))]
    simp only[show ((lo:Int)<(l.length:Int)) from by omega,xDG,zI,xAO,xAG,q0,zD9,l0,zA,zAD];by_cases hc:p.1=s
    ·simp only[hc,xDG,zI,xAO,xAG,zE,zA,q0,zEb,l1,zAD];refine hd _ ?_;obtain⟨p1,p2⟩:=p;simp only at hc ⊢;subst hc;simp
    ·simp only[hc,xCz,zI,xAO,show (false==true)=false from rfl,xAG,xAH,zE,zA];refine hd _ ?_;constructor
     ·intro h;cases h
     ·rintro rfl;exact absurd rfl hc
   ·simp only[show ¬ ((lo:Int)<(l.length:Int)) from by omega,xCz,zI,show (false==true)=false from rfl,xAH,zA,zE];rw[zAC];refine⟨zO ▸ trivial,?_,d7⟩;rw[xAI λ hm=>?_];obtain⟨j,hj⟩:=xBN hm;have:=(xAc.1 hj).1;have:=h1 j _ (by omega) hj;rw[zAp] at this;simp at this
  | succ d ih=>
   intro lo hi hd hlh hhl h1 h2;by_cases ab:lo<hi
   ·refine zR1 ?_;rw[zP,zA,xAJ (by omega),ze];refine zid ?_;have ed:((hi:Int)-(lo:Int)).tdiv 2=(((hi-lo) / 2:Nat):Int):=by
     rw[← Int.ofNat_sub hlh];rfl
    rw[zKt _ ⟨by omega,by omega⟩,zA,zwJ,ed,wrap_i64 (show zC2 (((hi-lo) / 2:Nat):Int) from ⟨by omega,by omega⟩),zA,zk _ ⟨by omega,by omega⟩,zA];generalize hmid:lo+(hi-lo) / 2=mid;rw[show (lo:Int)+(((hi-lo) / 2:Nat):Int)=(mid:Int) by omega];have aW:mid<hi:=by omega
    obtain⟨p,hp⟩:∃ p,l[mid]?=some p:=⟨_,xAA (by omega)⟩;have bM:(l.map zC)[mid]?=some (zC p):=by rw[xBi,hp];rfl
    obtain⟨q,q1,q2⟩:=zo7 ha el bM;refine zic ?_;rw[q1,zA,q2,zA,zwc,zA,zM,zYG el.ok,zJ];by_cases hc:zDH p (s,t)<0
    ·rw[xAJ hc,ze];refine zib ?_;rw[zk _ ⟨by omega,by omega⟩,zA];have:=ih (mid+1) hi (by omega) (by omega) hhl (λ j q hj hq=>by
      rcases xAi.1 hj with h|h
      ·exact zHF (zGp hs hq hp h) hc
      ·subst h;rw[hp] at hq;cases hq;exact hc) h2
     simpa using this
    ·rw[xAI hc,zZ];refine zia ?_;exact ih lo mid (by omega) (by omega) (by omega) h1 (λ j q hj hq=>by
      rcases Nat.lt_or_eq_of_le hj with h|h
      ·exact λ h3=>hc (zHF (zGp hs hp hq h) h3)
      ·subst h;rw[hp] at hq;cases hq;exact hc)
   ·obtain rfl:lo=hi:=by omega
    exact ih lo lo (by omega) (by omega) hhl h1 h2
 exact loop l.length 0 l.length (by omega) (by omega) (xAF _) (λ j _ hj=>by omega) (λ j p hj hp=>by have:=(xAc.1 hp).1;omega)
def IS.app2{lo:Nat}{h:AH}{v:Value}{l:List Int}(x:IS lo h v l)(fA:lo<=h.qa)(hl:l.length<=999998)(u:Int) :
  ∃ m,zy E .append [47,47] (some [v,.slice (some ⟨h.qa,0,none⟩) 1 1]) (h.new (rO [iI u] 3))=one (.slice (some ⟨h.qa+1,0,none⟩) (l.length+1) (UNK+1),m) ∧
   LS lo m (.slice (some ⟨h.qa+1,0,none⟩) (l.length+1) (UNK+1)) (l++[u])/\m.qa=h.qa+2/\(h.ok->Fx (λ c=>zY v c) h m)/\m.wm<=h.wm:=by
 have aw:=zD h (rO [iI u] 3);rcases x with ⟨rfl,rfl⟩|x
 ·exact⟨_,append_nil zh9 aw rfl,⟨h.qa+1,UNK+1,by simp,by omega,by show h.qa+1<h.qa+1+1;omega,.inr ⟨rfl,zD (h.new _) _⟩⟩,rfl,λ aa=>((Fx.refl aa).new _).new _,xAF _⟩
 ·obtain⟨b0,c0,e0,df,jw,eB⟩:=x.ex;have xb:LS b0 h v l:=⟨b0,c0,e0,xAF _,jw,eB⟩;have x1:LS b0 (h.new (rO [iI u] 3)) v l:=xb.mono (by simp) λ b _ hb _=>zG (by omega);obtain⟨v',k1,a1,rfl,a3,a4,a5,a6,a7,a8⟩:=x1.app (by omega) aw;have e1:(h.new (rO [iI u] 3)).qa=h.qa+1:=rfl;rw[e1] at a1 a3 a4 a5;exact⟨k1,a1,⟨h.qa+1,UNK+1,by simp,by omega,by omega,.inr ⟨rfl,a4⟩⟩,by omega,λ aa=>⟨a6 (zBb aa _),by omega,λ c hc hn=>(a5 c (by omega) hn).trans (zG (by omega)),λ m h1 h2 h3=>a8 m h1 (h2 b0 ⟨_,_,e0⟩)⟩,a7⟩
def zrW(a b:Nat):cond (Nat.ble a b) a b<=a/\cond (Nat.ble a b) a b<=b:=by
 cases h:Nat.ble a b with
 | true=>exact⟨xAF _,ble_true.1 h⟩
 | false=>exact⟨by have:=ble_false.1 h;simp only[xAH];omega,xAF _⟩
structure Sy(h0:AH)(bE bL bs lo N:Nat)(cells:List Value)(L:GL)(vl ve:Value)(elsL:List (List Value)):Prop where
 gE:h0.get bE=some (rO [.slice (some ⟨bs,0,none⟩) N N] 49)
 lE:bE<h0.qa
 gL:h0.get bL=some (rO [iI L.n,vl,ve] 25)
 lL:bL<h0.qa
 O:LoL lo h0 bs cells (outOf L)
 hc:cells.length=N
 aL:Arr h0 2 vl elsL
 rL:RLab h0 elsL L.labs
 hL:zT L=false
 hN:L.n=(N:Int)
 hS:∀ S∈outOf L,S.length<=100000
section
variable {h0 k:AH} {bE bL bs lo N:Nat} {cells:List Value} {L:GL} {vl ve:Value} {elsL:List (List Value)}
def zyp(Y:Sy h0 bE bL bs lo N cells L vl ve elsL){l:List Int}(hn:l.Nodup)(hr:Rg L l):l.length<=N:=zAB N l hn λ x hx=>by have:=hr x hx;have:=Y.hN;omega
end
def nwG{W:Nat}{k l:AH}(f:Fx NoB k l)(hw:l.wm<=W)(x:AObj):∃ m,l.new x=m/\m.qa=l.qa+1/\m.get l.qa=some x/\(Fx NoB k m/\m.wm<=W)/\∀ b,b<l.qa->m.get b=l.get b:=
 ⟨_,rfl,rfl,zD l x,⟨f.new x,hw⟩,λ b hb=>zG (by omega)⟩
def zWq{W:Nat}{k l:AH}(f:Fx NoB k l)(hw:l.wm<=W)(x y:AObj):∃ m,(l.new x).upd l.qa (some y)=m/\m.qa=l.qa+1/\m.get l.qa=some y/\(Fx NoB k m/\m.wm<=W)/\∀ b,b<l.qa->m.get b=l.get b:=
 ⟨_,rfl,rfl,zH _ _ _,⟨(f.new x).upd (.inr f.qa) _,xCx (zBr _ _ _).1 hw⟩,λ b hb=>by rw[zL (by omega),zG (by omega)]⟩
section
variable {h0 g:AH} {bE bL bs lo N W:Nat} {cells:List Value} {L:GL} {vl ve:Value} {elsL:List (List Value)} {K:KF} {v0 v1 v2 v7 v8 v13 v30 v31 v32:Value} {i:Nat}
end
end Go.Proofs
namespace Go.Proofs
open Go Go.AM Go.Sort
def Fx.toFresh{P:Nat->Prop}{k:AH}(aa:k.ok):Fx P k k.qb:=⟨zAR k,xAF _,λ _ _ _=>rfl,λ m h _ _=>by
 have:=aa;unfold AH.ok at this;rw[zAN];omega⟩
section
variable {b ty es c:Nat} {k:AH} {d:Dt} {cf:Value} {f:Int×Int->Bool}
end
end Go.Proofs
namespace Go.Proofs
open Go Go.AM
structure Sd(Q:Nat->Prop)(k h:AH)(bA bs bc N:Nat)(cells cc:List Value)(L:GL)(vl ve:Value):Prop where
 gA:h.get bA=some (rO [iI L.n,vl,ve,.slice (some ⟨bs,0,none⟩) N N,.slice (some ⟨bc,0,none⟩) N N] 148)
 lA:bA<h.qa
 O:LoL k.qa h bs cells (outOf L)
 hc:cells.length=N
 gC:h.get bc=some (rO cc 47)
 lC:bc<h.qa
 kC:k.qa<=bc
 cl:cc.length=N
 cal:∀(i:Nat) (c:Value),cc[i]?=some c->c=.slice none 0 0\/LS k.qa h c (zBS L [(i:Int)])
 qc:Q bc
 ql:∀ q,Q q->q<h.qa
 av:∀ q,Q q->q≠bA/\q≠bs/\(∀(i:Nat) (c:Value),cells[i]?=some c->¬ zY c q)/\∀(i:Nat) (c:Value),cc[i]?=some c->¬ zY c q
section
variable {Q P:Nat->Prop} {k h h':AH} {bA bs bc N:Nat} {cells cc:List Value} {L:GL} {vl ve:Value} {elsL:List (List Value)}
def Sd.fx(S:Sd Q k h bA bs bc N cells cc L vl ve)(f:Fx P h h')(hP:∀ c,P c->Q c)(hb:¬ P bc):Sd Q k h' bA bs bc N cells cc L vl ve:=
 ⟨(f.get _ S.lA λ hp=>(S.av _ (hP _ hp)).1 rfl).trans S.gA,xAC S.lA f.qa,S.O.fx f (λ hp=>(S.av _ (hP _ hp)).2.1 rfl) (λ i c b hc aN hp=>(S.av _ (hP _ hp)).2.2.1 i c hc aN),S.hc,(f.get _ S.lC hb).trans S.gC,xAC S.lC f.qa,S.kC,S.cl,
  λ i c hc=>(S.cal i c hc).imp id λ ls=>ls.mono f.qa λ b _ aN c8=>f.get b aN λ hp=>(S.av _ (hP _ hp)).2.2.2 i c hc c8,S.qc,λ q hq=>xAC (S.ql q hq) f.qa,S.av⟩
def Sd.nb(S:Sd Q k h bA bs bc N cells cc L vl ve)(f:Fx NoB h h'):Sd Q k h' bA bs bc N cells cc L vl ve:=S.fx f (λ _ h=>h.elim) id
def Sd.out(S:Sd Q k h bA bs bc N cells cc L vl ve):zb E 49 h (sP bA (0+3))=some (.slice (some ⟨bs,0,none⟩) N N):=zB (P:=E) zwC (o:=0+3) S.gA
def Sd.clm(S:Sd Q k h bA bs bc N cells cc L vl ve):zb E 146 h (sP bA (0+4))=some (.slice (some ⟨bc,0,none⟩) N N):=zB (P:=E) zro (o:=0+4) S.gA
def Sd.num(S:Sd Q k h bA bs bc N cells cc L vl ve):zb E 3 h (sP bA (0+0+0))=some (iI L.n):=zB (P:=E) zAE (o:=0+0+0) S.gA
def Sd.lab(S:Sd Q k h bA bs bc N cells cc L vl ve):zb E 22 h (sP bA (0+0+1))=some vl:=zB (P:=E) zF4 (o:=0+0+1) S.gA
def Sd.row(S:Sd Q k h bA bs bc N cells cc L vl ve)(hL:zT L=false)(hN:L.n=(N:Int))(hS:∀ S∈outOf L,S.length<=100000){u:Nat}(hu:u<N):∃ cS,cells[u]?=some cS/\zV E 49 (some (.slice (some ⟨bs,0,none⟩) N N)) (some (iI (u:Int)))=some (.pointer (some ⟨bs,u,none⟩))/\zb E 23 h (some (.pointer (some ⟨bs,u,none⟩)))=some cS/\Arr h 3 cS ((zBy L u).map zQ)/\veq 100 cS cS=true/\(zBy L u).length<=100000/\∀ y∈zBy L u,(0<=y.2.1/\y.2.1<L.labs.length)/\0<=y.2.2/\y.2.2<L.n:=by
 obtain⟨cS,ac⟩:∃ c,cells[u]?=some c:=⟨_,xAA (by rw[S.hc];exact hu)⟩;obtain⟨R,hR⟩:∃ R,(outOf L)[u]?=some R:=⟨_,xAA (by rw[zIf];omega)⟩;have hC:=S.O.cell u _ _ ac hR;have ls:=zB (P:=E) zEF (o:=u) S.O.s;rw[zAI,ac] at ls;have ia:=zsh (b:=bs) (o:=0) (c:=N) (len:=N) (k:=u) hu;rw[show 0+u*1=u by omega] at ia;have hr:zBy L (u:Int)=R:=by unfold zBy;rw[show ((u:Int)).toNat=u from rfl,hR];rfl
 rw[hr];exact⟨cS,ac,ia,ls,hC.arr,hC.leaf.2.2,hS _ (xBI hR),zs4 hL hR⟩
def zDu(N:Nat)(l:List Int):List Value:=(List.range N).map λ (v:Nat)=>.bool (decide ((v:Int)∈l))
def zQ8(N:Nat):List.replicate N (Value.bool false)=zDu N []:=by
 apply List.ext_getElem
 ·simp[zDu]
 ·intro i h1 h2;simp[zDu]
def zH3{N:Nat}{l:List Int}{s:Nat}(hs:s<N):lput (zDu N l) s [.bool true]=zDu N (l++[(s:Int)]):=by
 rw[zFL _ _ _ (by simp[zDu];exact hs)];apply List.ext_getElem
 ·simp[zDu]
 ·intro i h1 h2;rw[List.getElem_set];by_cases h:s=i
  ·subst h;simp[zDu]
  ·rw[xDN h];have h':¬ (i:Int)=(s:Int):=by omega
   simp[zDu,h']
def zQ9{N:Nat}{l:List Int}{s:Nat}(hs:s<N):(zDu N l)[s]?=some (.bool (decide ((s:Int)∈l))):=by simp[zDu,hs]
def zsU{n:Nat}(hn:n<=1000000){h:AH}:zAG E 218 (some (iI (n:Int))) (some (iI (n:Int))) h=one (.slice (some ⟨h.qa,0,none⟩) n n,h.new (.row (List.replicate n (.bool false)) 4 0 false)):=
 zGz (by obtain⟨i,a⟩:=zSr zrm z_4 (by kernel_rfl);exact⟨i,zpP,a⟩) rfl hn
def LS.low{lo lo':Nat}{k:AH}{v:Value}{l:List Int}(h:LS lo k v l)(hl:lo'<=lo):LS lo' k v l:=let ⟨⟨b,c,e,h1,h2,h3⟩⟩:=h;⟨⟨b,c,e,xCx hl h1,h2,h3⟩⟩
structure Ms(m g:AH)(bm N:Nat)(v6:Value)(l:List Int):Prop where
 fx:Fx NoB m g
 wm:g.wm<=m.wm
 nx:m.qa<=bm
 lt:bm<g.qa
 met:g.get bm=some (rO (zDu N l) 4)
 ls:LS (bm+1) g v6 l
 nd:l.Nodup
def zPq{b N u:Nat}(h:u<N):zV E 218 (some (.slice (some ⟨b,0,none⟩) N N)) (some (iI (u:Int)))=some (.pointer (some ⟨b,u,none⟩)):=by
 have:=zsi (b:=b) (o:=0) (c:=N) (len:=N) (k:=u) h;rw[this,show 0+u*1=u by omega]
def zr7{m:AH}{K:KF}{bm s u i:Nat}(S0:Sd Q k m bA bs bc N cells cc L vl ve)(aL:Arr m 2 vl elsL)(rL:RLab m elsL L.labs)(hL:zT L=false)(hN:L.n=(N:Int))(hS:∀ S∈outOf L,S.length<=100000)(hu:u<N){l2:List Int}
  (hK:∀ g v6,Ms m g bm N v6 l2->Rg L l2->PI (zIJ true) K 15 [ptr bA,iI (s:Int),.slice (some ⟨bm,0,none⟩) N N,v6,iI (i:Int)] g) :
  ∀(d j:Nat),j+d=(zBy L u).length->∀ g v6 l1,Ms m g bm N v6 l1->Rg L l1->l1[i]?=some (u:Int)->zDe (inE L) l1 ((zBy L u).drop j)=l2->
   PI (zIJ true) K 9 [ptr bA,iI (s:Int),.slice (some ⟨bm,0,none⟩) N N,v6,iI (i:Int),iI (j:Int)] g:=by
 obtain⟨z1,z2,_,_⟩:=zf hL;intro d
 induction d with
 | zero=>
  intro j hj g v6 l1 H hr hi he;have Sg:=S0.nb H.fx;obtain⟨cS,ac,q1,q2,q3,q4,q5,q6⟩:=Sg.row hL hN hS hu;obtain⟨p2,r1,r2⟩:=zCc H.ls.arr (Ext.refl H.fx.ok) hi;obtain⟨ad3,cp3,cq⟩:=q3.slice;rw[xCY] at cq;refine zOL ?_;rw[zx,zA,zBz,zA,Sg.out,zA,r1,zA,r2,zA,q1,zA,q2,zA];rw[show zh E (zAc [(53,cS)]) (zA4 zGj [1,1,1,1,1,0,1,0,0,1,0,0,1,0,0,0,0] 11) g=some (iI ((zBy L u).length:Int)) by rw[cq];exact @zIu _ _ _ _,zA,zP,zA,xAI (by omega),zZ];rw[xAv (by omega)] at he;subst he;exact hK g v6 H hr
 | succ d ih=>
  intro j hj g v6 l1 H hr hi he;have aJ:j<(zBy L u).length:=by omega
  obtain⟨y,gf⟩:∃ y,(zBy L u)[j]?=some y:=⟨_,xAA aJ⟩;have Sg:=S0.nb H.fx;obtain⟨cS,ac,q1,q2,q3,q4,q5,q6⟩:=Sg.row hL hN hS hu;obtain⟨⟨jd,iD⟩,hy3,hy4⟩:=q6 y (xBI gf);obtain⟨p2,r1,r2⟩:=zCc H.ls.arr (Ext.refl H.fx.ok) hi;obtain⟨ad3,cp3,cq⟩:=q3.slice;rw[xCY] at cq;have hlen:l1.length<=N:=zAB N l1 H.nd λ x hx=>by have:=hr x hx;omega
  refine zOL ?_;rw[zx,zA,zBz,zA,Sg.out,zA,r1,zA,r2,zA,q1,zA,q2,zA];rw[show zh E (zAc [(53,cS)]) (zA4 zGj [1,1,1,1,1,0,1,0,0,1,0,0,1,0,0,0,0] 11) g=some (iI ((zBy L u).length:Int)) by rw[cq];exact @zIu _ _ _ _,zA,zP,zA,xAJ (by omega),ze];refine zUO ?_;have bM:((zBy L u).map zQ)[j]?=some (zQ y):=by rw[xBi,gf];rfl
  obtain⟨p1,w0,w1⟩:=zJk q3 (Ext.refl H.fx.ok) bM;rw[zx,zA,zBz,zA,Sg.out,zA,r1,zA,r2,zA,q1,zA,q2,zA,w0,zA,w1,zA];simp only[zmk,zU,zF,zK];obtain⟨ga,ea,na,ta,⟨fa,wa⟩,oa⟩:=nwG H.fx H.wm (rO [iI 0,iI 0,iI 0] 52);have Ea:Ext g ga:=⟨fa.ok,by omega,oa⟩;obtain⟨g2,e2,n2,t2,⟨f2,w2⟩,o2⟩:=zWq H.fx H.wm (rO [iI 0,iI 0,iI 0] 52) (rO (zQ y) 52);have eV:=zQN (k:=g) (e:=y);simp only[e2] at eV;rw[ea] at eV ⊢;have Sa:=S0.nb fa;obtain⟨cS',gK,_,q2',q3',_⟩:=Sa.row hL hN hS hu;rw[ac] at gK;cases gK;have w1':zb E 52 ga (some p1)=some (.agg ⟨zQ y⟩):=by
   obtain⟨px,qx,wx⟩:=zJk q3 Ea bM;rw[w0] at qx;cases qx;exact wx
  have r2':zb E 3 ga (some p2)=some (iI (u:Int)):=by
   obtain⟨px,qx,wx⟩:=zCc H.ls.arr Ea hi;rw[r1] at qx;cases qx;exact wx
  rw[w1',zA];refine⟨zrY _,?_⟩;rw[q2',zA];refine⟨q4,?_⟩;rw[r2',zA];refine⟨zBF _ _ _,?_⟩;rw[Sa.out,zA];refine⟨zAw _ _ _ _,?_⟩;rw[eV,zF];refine zUN ?_;have S2:=S0.nb f2;obtain⟨la,dP⟩:=xAp jd;obtain⟨el,aS⟩:∃ x,elsL[la]?=some x:=⟨_,xAA (by rw[RLab.length rL];omega)⟩;obtain⟨gy,wy,ly,rfl,hry,aY⟩:=RLab.at rL la el aS;obtain⟨p3,s1,s2⟩:=zM6 aL f2.ext0 aS;have c1:=zB (P:=E) zAE (o:=0+1) t2;have c2:=zB (P:=E) zAE (o:=0+2) t2;simp only[lnth,zQ,dP,xAK] at c1 c2;have ai:inE L y=decide (gy=-1):=by unfold inE;rw[dP,show ((la:Int)).toNat=la from rfl,aY]
  have ji:(decide (gy=-1)&&decide (ly=[]))=decide (gy=-1):=by
   by_cases h:gy=-1
   ·rw[show ly=[] from zCo hL aY h];simp
   ·simp[h]
  have c158:=zLz (g:=gy) hry f2.ext0;rw[ji] at c158;obtain⟨ty,cY⟩:=xAp hy3;have cX:ty<N:=by omega
  have ed:g2.get bm=some (rO (zDu N l1) 4):=(o2 _ H.lt).trans H.met;have lm:zb E 4 g2 (some (.pointer (some ⟨bm,ty,none⟩)))=some (.bool (decide (y.2.2∈l1))):=by
   rw[zB (P:=E) zrm ed,zAI,zQ9 cX,cY]
  have ls2:LS (bm+1) g2 v6 l1:=H.ls.mono (by omega) λ b _ hb _=>o2 b hb;rw[xAZ aJ,show (zBy L u)[j]=y from (xAc.1 gf).2] at he;have he':zDe (inE L) (adE (inE L) l1 y) ((zBy L u).drop (j+1))=l2:=he;have on:∀ h3 v3,Ms m h3 bm N v3 (adE (inE L) l1 y)->PI (zIJ true) K 14 [ptr bA,iI (s:Int),.slice (some ⟨bm,0,none⟩) N N,v3,iI (i:Int),iI (j:Int)] h3:=by
   intro h3 v3 H3;refine zUK ?_;simp only[zk _ (zCS aJ (by omega)),zA];refine ih (j+1) (by omega) h3 v3 _ H3 (λ x hx=>?_) ?_ he'
   ·rcases adE_mem.1 hx with h1|⟨_,h1⟩
    ·exact hr x h1
    ·omega
   ·unfold adE;split
    ·rw[xAb (xAc.1 hi).1];exact hi
    ·exact hi
  simp only[zx,zFP,zA0,zCe,zBo,xAK,xCu,zA];have lab2:=S2.lab;simp only[xAK,xCu] at lab2;rw[lab2,zA,c1,zA,s1,zA,s2,zA,zM,c158,zJ];by_cases hg:gy=-1
  ·by_cases hm:y.2.2∈l1
   ·simp only[hg,xDG,zI,xAO,xAG,zBo,xAK,zA,c2,cY,zPq cX];rw[cY] at lm hm;simp only[lm,hm,xDG,zA,zq,zE,xAL,xAG,zZ];refine on g2 v6 ⟨f2,w2,H.nx,by have:=H.lt;omega,?_,?_,?_⟩ <;> unfold adE <;> rw[xDN (λ h=>h.2 (by rw[cY];exact hm))]
    ·exact ed
    ·exact ls2
    ·exact H.nd
   ·simp only[hg,xDG,zI,xAO,xAG,zBo,xAK,zA,c2,cY,zPq cX];have eO:=hm;rw[cY] at lm eO;simp only[lm,eO,xCz,zA,zq,zE,xAM,xAG,ze];refine zUM ?_;have af:=zi (P:=E) zrH (o:=ty) (h:=g2) (x:=.bool true) (cs:=[.bool true]) ed rfl rfl (by simp[zDu];exact cX) rfl;rw[zH3 cX] at af;simp only[zBo,xAK,zA,c2,cY,zPq cX,af,zF];have ix:Fx NoB m (g2.upd bm (some (.row (zDu N (l1++[(ty:Int)])) 4 0 false))):=f2.upd (.inr H.nx) _;have ke:(g2.upd bm (some (.row (zDu N (l1++[(ty:Int)])) 4 0 false))).wm<=m.wm:=xCx (zBr _ _ _).1 w2;have jv:(g2.upd bm (some (.row (zDu N (l1++[(ty:Int)])) 4 0 false))).get bm=some (.row (zDu N (l1++[(ty:Int)])) 4 0 false):=zH _ _ _;have hn3:(g2.upd bm (some (.row (zDu N (l1++[(ty:Int)])) 4 0 false))).qa=g2.qa:=rfl;have dz:∀ c,c≠bm->(g2.upd bm (some (.row (zDu N (l1++[(ty:Int)])) 4 0 false))).get c=g2.get c:=λ c hc=>zL hc;generalize (g2.upd bm (some (.row (zDu N (l1++[(ty:Int)])) 4 0 false)))=g3 at ix ke jv hn3 dz;have ab:=H.lt;have ls3:LS (bm+1) g3 v6 l1:=ls2.mono (by omega) λ b hb _ _=>dz b (by omega);have c2':=zB (P:=E) zAE (o:=0+2) ((dz g.qa (by omega)).trans t2);simp only[lnth,zQ,xAK,cY] at c2';refine zUL ?_;obtain⟨m4,a1,a2,a3,a4,a5⟩:=IS.app2 (.inr ls3) (by omega) (by omega) (ty:Int);simp only[zBo,xAK,c2',zA,zhD,zF,a1];have a4:=a4 ix.ok;have ba:∀ c,zY v6 c->bm+1<=c:=λ c hc=>(ls3.blk hc).1;have dO:=H.nx;have mo:adE (inE L) l1 y=l1++[(ty:Int)]:=by
     unfold adE;rw[xDO ⟨by rw[ai];exact xAJ hg,hm⟩,cY]
    refine on m4 _ ⟨ix.trans a4 λ c hc=>.inr (by have:=ba c hc;omega),xCx a5 ke,H.nx,by omega,?_,?_,zNe H.nd⟩
    ·rw[mo];exact (a4.get bm (by omega) λ hc=>by have:=ba _ hc;omega).trans jv
    ·rw[mo];exact a2
  ·simp only[hg,xCz,zI,show (false==true)=false from rfl,xAH,zA,zE,zZ];refine on g2 v6 ⟨f2,w2,H.nx,by have:=H.lt;omega,?_,?_,?_⟩ <;> unfold adE <;> rw[xDN (λ h=>by rw[ai] at h;exact hg (xBm h.1))]
   ·exact ed
   ·exact ls2
   ·exact H.nd
def zqB(S:Sd Q k h bA bs bc N cells cc L vl ve)(aa:h.ok)(dr:k.qa<=h.qa)(aL:Arr h 2 vl elsL)(rL:RLab h elsL L.labs)(hL:zT L=false)(hN:L.n=(N:Int))(hS:∀ S∈outOf L,S.length<=100000){s:Nat}(hs:s<N) :
  Ev true ((zc E).call 156 [ptr bA,iI (s:Int)] h) λ x=>LS k.qa x.2 x.1 (zBS L [(s:Int)])/\(∃ cc',Sd Q k x.2 bA bs bc N cells cc' L vl ve)/\Fx (λ c=>c=bc) h x.2/\x.2.wm<=h.wm:=by
 obtain⟨z1,z2,_,_⟩:=zf hL;refine zgR (Rp:=λ v m=>LS k.qa m v (zBS L [(s:Int)])/\(∃ cc',Sd Q k m bA bs bc N cells cc' L vl ve)/\Fx (λ c=>c=bc) h m/\m.wm<=h.wm) (zde (zdd ?_));have f0:Fx NoB h h.qb:=Fx.toFresh aa;have S0:=S.nb f0;have aL0:=aL.ext f0.ext0;have rL0:=rL.ext f0.ext0;have cJ:h.qb.qa=h.qa:=rfl;have fin:∀(g:AH) (v:Value) (cc':List Value),Fx (λ c=>c=bc) h.qb g->LS k.qa g v (zBS L [(s:Int)])->Sd Q k g bA bs bc N cells cc' L vl ve->
   KR E [.tmp 2] (λ x g=>(zm x=false\/g.wm<h.qa)/\(λ v m=>LS k.qa m v (zBS L [(s:Int)])/\(∃ cc',Sd Q k m bA bs bc N cells cc' L vl ve)/\Fx (λ c=>c=bc) h m/\m.wm<=h.wm) x ⟨g.t,g.qa,cond (Nat.ble h.wm g.wm) h.wm g.wm⟩) .ret [v] g:=by
  intro g v cc' f ls S';rw[zAC];obtain⟨b,c,rfl,_⟩:=id ls.ex;exact⟨zO ▸ trivial,.inl rfl,ls.mono (xAF _) λ _ _ _ _=>rfl,⟨cc',S'.gA,S'.lA,S'.O.same _,S'.hc,S'.gC,S'.lC,S'.kC,S'.cl,λ i c hc=>(S'.cal i c hc).imp id λ l=>l.mono (xAF _) λ _ _ _ _=>rfl,S'.qc,S'.ql,S'.av⟩,f.back,(zrW _ _).1⟩
 have mok:h.qb.ok:=zAR h;generalize h.qb=m at S0 aL0 rL0 cJ fin mok;obtain⟨c0,eB⟩:∃ c,cc[s]?=some c:=⟨_,xAA (by rw[S.cl];exact hs)⟩;have iaC:=zsk (b:=bc) (o:=0) (c:=N) (len:=N) (k:=s) hs;rw[show 0+s*1=s by omega] at iaC;have lC0:zb E 47 m (some (.pointer (some ⟨bc,s,none⟩)))=some c0:=by rw[zB (P:=E) zhR S0.gC,zAI,eB]
 have hr0:Rg L [(s:Int)]:=λ u hu=>by rw[xBV.1 hu];omega
 rw[zx,zA,zLs,zA,S0.clm,zA,iaC,zA,lC0,zA];rcases S0.cal s c0 eB with rfl|ls0;rotate_left
 ·
  obtain⟨ad,cp,hv⟩:=(IS.slice (lo:=k.qa) (.inr ls0));have cP:0<(zBS L [(s:Int)]).length:=List.length_pos_of_mem ((zJC hL (by simp) hr0).2.2.2.1 _ (xBV.2 rfl));rw[show zh E (zAc [(16,c0)]) (zA4 zGj [1,0,0] 7) m=some (iI ((zBS L [(s:Int)]).length:Int)) by rw[hv];exact @zKN _ _ _ _,zA,zAK,zA,xAJ (by omega),ze];refine zdc ?_;rw[zx,zA,zLs,zA,S0.clm,zA,iaC,zA,lC0,zA];exact fin m c0 cc (Fx.refl mok) ls0 S0
 rw[show zh E (zAc [(16,.slice none 0 0)]) (zA4 zGj [1,0,0] 7) m=some (iI ((0:Nat):Int)) from @zKN _ _ _ _,zA,zAK,zA,xAI (by omega),zZ];refine zdb ?_;have cI:=S0.num;rw[hN] at cI;rw[zx,zA,zFP,zA,zAP,zA,cI,zA,zsU (by omega),zF];obtain⟨m1,e1,n1,t1,⟨f1,w1⟩,o1⟩:=nwG (Fx.refl mok) (xAF _) (.row (List.replicate N (.bool false)) 4 0 false);rw[e1];refine zda ?_;rw[zQ8] at t1;have af:=zi (P:=E) zrH (o:=s) (h:=m1) (x:=.bool true) (cs:=[.bool true]) t1 rfl rfl (by simp[zDu];exact hs) rfl;rw[zH3 hs] at af;rw[zPq hs,zA,af,zF];have f2:Fx NoB m (m1.upd m.qa (some (.row (zDu N ([]++[(s:Int)])) 4 0 false))):=f1.upd (.inr (xAF _)) _;have w2:(m1.upd m.qa (some (.row (zDu N ([]++[(s:Int)])) 4 0 false))).wm<=m.wm:=xCx (zBr _ _ _).1 w1;have t2:(m1.upd m.qa (some (.row (zDu N ([]++[(s:Int)])) 4 0 false))).get m.qa=some (.row (zDu N ([]++[(s:Int)])) 4 0 false):=zH _ _ _;have n2:(m1.upd m.qa (some (.row (zDu N ([]++[(s:Int)])) 4 0 false))).qa=m1.qa:=rfl;generalize (m1.upd m.qa (some (.row (zDu N ([]++[(s:Int)])) 4 0 false)))=m2 at f2 w2 t2 n2;refine zdZ ?_;obtain⟨m3,e3,n3,t3,⟨f3,w3⟩,o3⟩:=nwG f2 w2 (rO [iI (s:Int)] 3);rw[zhD,zF,e3];refine zdY ?_;have H0:Ms m m3 m.qa N (.slice (some ⟨m2.qa,0,none⟩) 1 1) [(s:Int)]:=⟨f3,w3,xAF _,by omega,(o3 _ (by omega)).trans t2,⟨m2.qa,1,rfl,by omega,by omega,.inl ⟨rfl,rfl,t3⟩⟩,by simp⟩;have an:zDa L N 0 [(s:Int)]=zBS L [(s:Int)]:=by unfold zBS;rw[hN];rfl
 have loop:∀(d i:Nat),i+d=N->∀ g v6 l1,Ms m g m.qa N v6 l1->Rg L l1->zDa L d i l1=zBS L [(s:Int)]->
   PI (zIJ true) (KR E [.tmp 2] λ x g=>(zm x=false\/g.wm<h.qa)/\(λ v m=>LS k.qa m v (zBS L [(s:Int)])/\(∃ cc',Sd Q k m bA bs bc N cells cc' L vl ve)/\Fx (λ c=>c=bc) h m/\m.wm<=h.wm) x ⟨g.t,g.qa,cond (Nat.ble h.wm g.wm) h.wm g.wm⟩) 7
    [ptr bA,iI (s:Int),.slice (some ⟨m.qa,0,none⟩) N N,v6,iI (i:Int)] g:=by
  have fin2:∀ g v6,Ms m g m.qa N v6 (zBS L [(s:Int)])->PI (zIJ true) (KR E [.tmp 2] λ x g=>(zm x=false\/g.wm<h.qa)/\(λ v m=>LS k.qa m v (zBS L [(s:Int)])/\(∃ cc',Sd Q k m bA bs bc N cells cc' L vl ve)/\Fx (λ c=>c=bc) h m/\m.wm<=h.wm) x ⟨g.t,g.qa,cond (Nat.ble h.wm g.wm) h.wm g.wm⟩) 16 [ptr bA,iI (s:Int),v6] g:=by
   intro g v6 H;have Sg:=S0.nb H.fx;obtain⟨b6,c6,hv6,hb6,hb6l,_⟩:=id H.ls.ex;refine zUI ?_;have af:=zi (P:=E) zv9 (o:=s) (h:=g) (x:=v6) (cs:=[v6]) Sg.gC (by rw[hv6];rfl) rfl (by rw[Sg.cl];omega) (by rw[hv6];rfl);rw[zFL _ _ _ (by rw[Sg.cl];exact hs)] at af;rw[zx,zA,zLs,zA,Sg.clm,zA,iaC,zA,af,zF];refine zUH ?_;have gO:=S0.lC;have fq:Fx (λ c=>c=bc) g (g.upd bc (some (rO (cc.set s v6) 47))):=Fx.upd (P:=λ c=>c=bc) (Fx.refl H.fx.ok) (.inl rfl) _;have hls:LS k.qa g v6 (zBS L [(s:Int)]):=H.ls.low (by have:=H.nx;omega);have kZ:LS k.qa (g.upd bc (some (rO (cc.set s v6) 47))) v6 (zBS L [(s:Int)]):=hls.mono (xAF _) λ b _ _ c8=>zL (λ e=>by
    rw[e] at c8;have:=(H.ls.blk c8).1;have:=H.nx;omega)
   refine fin _ v6 (cc.set s v6) ((Fx.mono (P':=λ c=>c=bc) H.fx λ _ h=>h.elim).trans fq λ c hc=>.inl hc) kZ ?_;have hq:∀ q,Q q->q<m.qa:=S0.ql;refine⟨(fq.get _ Sg.lA λ e=>(S0.av _ S0.qc).1 e.symm).trans Sg.gA,Sg.lA,Sg.O.fx fq (λ e=>(S0.av _ S0.qc).2.1 e.symm) (λ i c b hc hb e=>(S0.av _ S0.qc).2.2.1 i c hc (e ▸ hb)),Sg.hc,zH _ _ _,Sg.lC,Sg.kC,by rw[List.length_set];exact Sg.cl,λ i c hc=>?_,Sg.qc,Sg.ql,λ q eL=>⟨(S0.av q eL).1,(S0.av q eL).2.1,(S0.av q eL).2.2.1,λ i c hc=>?_⟩⟩
   ·by_cases hi:i=s
    ·subst hi;rw[xAt (by rw[S0.cl];exact hs)] at hc;cases hc;exact .inr kZ
    ·rw[xBM (λ e=>hi e.symm)] at hc;exact (Sg.cal i c hc).imp id λ ls=>ls.mono (xAF _) λ b _ _ c8=>zL (λ e=>by rw[e] at c8;exact (S0.av _ S0.qc).2.2.2 i c hc c8)
   ·by_cases hi:i=s
    ·subst hi;rw[xAt (by rw[S0.cl];exact hs)] at hc;cases hc;intro c8;have:=(H.ls.blk c8).1;have:=hq q eL;omega
    ·rw[xBM (λ e=>hi e.symm)] at hc;exact (S0.av q eL).2.2.2 i c hc
  intro d
  induction d with
  | zero=>
   intro i hi g v6 l1 H hr he;have hlen:l1.length<=N:=zAB N l1 H.nd λ x hx=>by have:=hr x hx;omega
   obtain⟨ad,cp,hv⟩:=(IS.slice (lo:=m.qa+1) (.inr H.ls));refine zOM ?_;rw[show zh E (zAc [(38,v6)]) (zA4 zGj [1,1,1,1,1,0,1,0,0,0,0] 2) g=some (iI (l1.length:Int)) by rw[hv];exact @zKM _ _ _ _,zA,zP,zA,xAI (by omega),zZ];have e:l1=zBS L [(s:Int)]:=he;subst e;exact fin2 g v6 H
  | succ d ih=>
   intro i hi g v6 l1 H hr he;have hlen:l1.length<=N:=zAB N l1 H.nd λ x hx=>by have:=hr x hx;omega
   obtain⟨ad,cp,hv⟩:=(IS.slice (lo:=m.qa+1) (.inr H.ls));refine zOM ?_;rw[show zh E (zAc [(38,v6)]) (zA4 zGj [1,1,1,1,1,0,1,0,0,0,0] 2) g=some (iI (l1.length:Int)) by rw[hv];exact @zKM _ _ _ _,zA,zP,zA,zAV];refine⟨λ ab=>?_,λ eA=>?_⟩;rotate_left
   ·have cJ:l1[i]?=none:=xAf.2 (by omega);have e:l1=zBS L [(s:Int)]:=by rw[← he];simp only[zDa,cJ]
    subst e;exact fin2 g v6 H
   have ax:i<l1.length:=by omega
   obtain⟨u,hu⟩:∃ u,l1[i]?=some u:=⟨_,xAA ax⟩;have de:=hr u (xBI hu);obtain⟨un,rfl⟩:=xAp de.1;refine zdX ?_;have hce:zDa L d (i+1) (zDe (inE L) l1 (zBy L un))=zBS L [(s:Int)]:=by rw[← he];simp only[zDa,hu]
   refine zr7 (l2:=zDe (inE L) l1 (zBy L un)) S0 aL0 rL0 hL hN hS (by omega) (λ g2 v2 H2 fv=>?_) (zBy L un).length 0 (by omega) g v6 l1 H hr hu rfl;refine zUJ ?_;simp only[zk _ (zCS ax (by omega)),zA];exact ih (i+1) (by omega) g2 v2 _ H2 fv hce
 exact loop N 0 (by omega) m3 _ _ H0 hr0 an
end
end Go.Proofs
namespace Go.Proofs
open Go Go.AM
def zv6{a:Int}{x:Option Addr}{n c:Nat}:veq 100 (.agg ⟨[iI a,.slice x n c]⟩) (.agg ⟨[iI a,.slice x n c]⟩)=true:=by
 show zHl 99 [iI a,.slice x n c] [iI a,.slice x n c]=true;simp only[zHl,zBF,zAw,xCm]
def cst:Nat->Int
 | 0=>1
 | n+1=>1+4000*cst n
section
variable {h0:AH} {bE bL bs lo N bB bO bW bC:Nat} {cells:List Value} {L:GL} {vl ve:Value} {elsL:List (List Value)}
end
end Go.Proofs
namespace Go.Proofs
open Go Go.AM
def rB(tu:Bool)(prs:List (Int×Int))(s t:Int):Bool:=if tu then decide ((t,s)∈prs) else decide ((s,t)∈prs)
structure Gm(h:AH)(bG bA bB:Nat)(kind:Int)(vp:Value)(tu:Bool):Prop where
 g:h.get bG=some (rO [ptr bA,ptr bB,iI kind,vp,.bool tu] 153)
 l:bG<h.qa
def Gm.nb{h h':AH}{bG bA bB:Nat}{kind:Int}{vp:Value}{tu:Bool}{P:Nat->Prop}(G:Gm h bG bA bB kind vp tu)(f:Fx P h h')(hp:¬ P bG):Gm h' bG bA bB kind vp tu:=⟨(f.get _ G.l hp).trans G.g,xAC G.l f.qa⟩
section
variable {h:AH} {bG bA bB:Nat} {kind:Int} {vp:Value} {tu:Bool} {prs:List (Int×Int)}
def Gm.a(G:Gm h bG bA bB kind vp tu):zb E 151 h (sP bG (0+0))=some (ptr bA):=zB (P:=E) zms (o:=0+0) G.g
def Gm.b(G:Gm h bG bA bB kind vp tu):zb E 151 h (sP bG (0+1))=some (ptr bB):=zB (P:=E) zms (o:=0+1) G.g
def Gm.k(G:Gm h bG bA bB kind vp tu):zb E 3 h (sP bG (0+2))=some (iI kind):=zB (P:=E) zAE (o:=0+2) G.g
def Gm.p(G:Gm h bG bA bB kind vp tu):zb E 26 h (sP bG (0+3))=some vp:=zB (P:=E) zEc (o:=0+3) G.g
def Gm.t(G:Gm h bG bA bB kind vp tu):zb E 4 h (sP bG (0+4))=some (.bool tu):=zB (P:=E) zrm (o:=0+4) G.g
def zYF(G:Gm h bG bA bB kind vp tu)(aa:h.ok)(ap:Arr h 2 vp (prs.map zC))(hs:zBM prs)(hn:prs.length<=1000000){s t:Int}:(zc E).call 157 [ptr bG,iI s,iI t] h=some [(.bool (rB tu prs s t),h)]:=by
 have f0:Fx NoB h h.qb:=Fx.toFresh aa;have G0:=G.nb f0 id;have d7:h.qa<=h.qb.wm:=by rw[zAN];omega
 refine zgQ (s:=true) aa rfl (zdW (zdV ?_));rw[zx,zA,zh0,zA,G0.t,zA,zAq];refine⟨λ ht=>zdU ?_,λ ht=>zdT ?_⟩
 ·rw[zx,zA,zRa,zA,G0.p,zA,zM,zX5 ap hs hn f0.ext0,zJ,zAC];exact⟨zO ▸ trivial,by simp[rB,ht],d7⟩
 ·rw[zx,zA,zRa,zA,G0.p,zA,zM,zX5 ap hs hn f0.ext0,zJ,zAC];exact⟨zO ▸ trivial,by simp[rB,ht],d7⟩
end
def zWS(M L:GL)(y x:Ed):Bool:=match M.labs[y.2.1.toNat]?,L.labs[x.2.1.toNat]? with
 | some c,some d=>decide (zBd c.1 c.2 d.1 d.2=0)
 | _,_=>false
def zGr(M L:GL)(R:Int->Int->Bool)(x y:Ed):Bool:=zWS M L y x&&R x.2.2 y.2.2
def atF(kind:Int)(L M:GL)(R:Int->Int->Bool)(s:Int)(x:Ed)(u:Int):Bool:=
 (!decide (kind=2)||R s u)&&((decide (kind=2)&&inE L x&&R x.2.2 u)||(zBy M u).any (zGr M L R x))
def zLj(kind:Int)(M:GL)(t:Int):List Int:=if kind=2 then zBS M [t] else [t]
def zJo(kind:Int)(L M:GL)(R:Int->Int->Bool)(s t:Int)(x:Ed):Bool:=(zLj kind M t).any (atF kind L M R s x)
section
variable {Q:Nat->Prop} {k h1:AH} {bG bA bB bs bc bs' bc' N N' bX bL:Nat} {cells cc cells' cc':List Value} {L M:GL} {vl ve wl we vp:Value} {elsL elsM:List (List Value)} {kind:Int} {tu:Bool} {prs:List (Int×Int)} {x:Ed} {gx:Int} {wx:Value} {lx:List GT} {s:Int}
def zRw{α:Type}(p:α->Bool):∀ {l:List α} {i:Nat} {a:α},l[i]?=some a->(l.drop i).any p=(p a||(l.drop (i+1)).any p):=by
 intro l i a h;obtain⟨hl,rfl⟩:=xAc.1 h;rw[xAZ hl,List.any_cons]
structure Lk(Q:Nat->Prop)(k h1:AH)(bG bA bB bs bc bs' bc' N N' bX bL:Nat)(cells cc cells' cc':List Value)(L M:GL)(vl ve wl we vp:Value)(elsL elsM:List (List Value))(kind:Int)(tu:Bool)(prs:List (Int×Int))(x:Ed)(gx:Int)(wx:Value)(lx:List GT):Prop where
 SA:Sd Q k h1 bA bs bc N cells cc L vl ve
 SB:Sd Q k h1 bB bs' bc' N' cells' cc' M wl we
 G:Gm h1 bG bA bB kind vp tu
 ok:h1.ok
 ek:Ext k h1
 aM:Arr k 2 wl elsM
 rM:RLab k elsM M.labs
 hM:zT M=false
 hN:M.n=(N':Int)
 hS:∀ S∈outOf M,S.length<=100000
 ap:Arr k 2 vp (prs.map zC)
 st:zBM prs
 pn:prs.length<=1000000
 tX:h1.get bX=some (rO (zQ x) 52)
 lX:bX<h1.qa
 tL:h1.get bL=some (rO [iI gx,wx] 36)
 lL:bL<h1.qa
 hr:RT k wx lx
 hl:L.labs[x.2.1.toNat]?=some (gx,lx)
 hL:zT L=false
def zr9{K:KF}{u i:Nat}{v10:Value}(Y:Lk Q k h1 bG bA bB bs bc bs' bc' N N' bX bL cells cc cells' cc' L M vl ve wl we vp elsL elsM kind tu prs x gx wx lx)(hu:u<N')
  (hT:(zBy M u).any (zGr M L (rB tu prs) x)=true->∀ g,Fx NoB h1 g->K .ret [.bool true] g) (hF:(zBy M u).any (zGr M L (rB tu prs) x)=false->∀ g,Fx NoB h1 g->PI (zFg true) K 17 [ptr bG,iI s,ptr bX,ptr bL,v10,iI (i:Int)] g) :
  ∀(d j:Nat),j+d=(zBy M u).length->∀ g,Fx NoB h1 g->(zBy M u).any (zGr M L (rB tu prs) x)=((zBy M u).drop j).any (zGr M L (rB tu prs) x)->
   PI (zFg true) K 12 [ptr bG,iI s,ptr bX,ptr bL,v10,iI (i:Int),iI (u:Int),iI (j:Int)] g:=by
 intro d
 induction d with
 | zero=>
  intro j hj g f he;have Sg:=Y.SB.nb f;have Gg:=Y.G.nb f id;obtain⟨cS,_,q1,q2,q3,_,q5,_⟩:=Sg.row Y.hM Y.hN Y.hS hu;obtain⟨ad3,cp3,cq⟩:=q3.slice;rw[xCY] at cq;refine zK6 ?_;rw[zx,zA,zGa,zA,Gg.b,zA,zx,zA,zBz,zA,Sg.out,zA,q1,zA,q2,zA];rw[show zh E (zAc [(88,cS)]) (zA4 zGl [1,1,1,1,0,1,0,0,1,0,0,1,1,1,1,0,0,0,0] 11) g=some (iI ((zBy M u).length:Int)) by rw[cq];exact @zHV _ _ _ _,zA,zP,zA,xAI (by omega),zZ];rw[xAv (by omega)] at he;exact hF he g f
 | succ d ih=>
  intro j hj g f he;have aJ:j<(zBy M u).length:=by omega
  obtain⟨y,gf⟩:∃ y,(zBy M u)[j]?=some y:=⟨_,xAA aJ⟩;have Sg:=Y.SB.nb f;have Gg:=Y.G.nb f id;obtain⟨cS,_,q1,q2,q3,_,q5,q6⟩:=Sg.row Y.hM Y.hN Y.hS hu;obtain⟨⟨jd,iD⟩,hy3,hy4⟩:=q6 y (xBI gf);obtain⟨ad3,cp3,cq⟩:=q3.slice;rw[xCY] at cq;refine zK6 ?_;rw[zx,zA,zGa,zA,Gg.b,zA,zx,zA,zBz,zA,Sg.out,zA,q1,zA,q2,zA];rw[show zh E (zAc [(88,cS)]) (zA4 zGl [1,1,1,1,0,1,0,0,1,0,0,1,1,1,1,0,0,0,0] 11) g=some (iI ((zBy M u).length:Int)) by rw[cq];exact @zHV _ _ _ _,zA,zP,zA,xAJ (by omega),ze];refine zU6 ?_;have bM:((zBy M u).map zQ)[j]?=some (zQ y):=by rw[xBi,gf];rfl
  obtain⟨p1,w0,w1⟩:=zJk q3 (Ext.refl f.ok) bM;rw[zx,zA,zGa,zA,Gg.b,zA,zx,zA,zBz,zA,Sg.out,zA,q1,zA,q2,zA,w0,zA,w1,zA];simp only[zmk,zU,zF,zK];obtain⟨g2,e2,n2,t2,⟨f2,_⟩,o2⟩:=zWq f (xAF _) (rO [iI 0,iI 0,iI 0] 52) (rO (zQ y) 52);rw[zQN,zF,e2];refine zU5 ?_;have S2:=Y.SB.nb f2;have G2:=Y.G.nb f2 id;have e2':=Y.ek.trans f2.ext0;obtain⟨la,dP⟩:=xAp jd;obtain⟨el,aS⟩:∃ z,elsM[la]?=some z:=⟨_,xAA (by rw[RLab.length Y.rM];omega)⟩;obtain⟨gy,wy,ly,rfl,hry,aY⟩:=RLab.at Y.rM la el aS;obtain⟨p3,s1,s2⟩:=zM6 Y.aM e2' aS;have c1:=zB (P:=E) zAE (o:=0+1) t2;have c2:=zB (P:=E) zAE (o:=0+2) t2;have tX2:=(f2.get _ Y.lX id).trans Y.tX;have tL2:=(f2.get _ Y.lL id).trans Y.tL;have x2:=zB (P:=E) zAE (o:=0+2) tX2;have l36:zb E 36 g2 (some (ptr bL))=some (.agg ⟨[iI gx,wx]⟩):=zN (P:=E) zC7 (o:=0) tL2 (by simp);simp only[lnth,zQ,dP,xAK] at c1 c2 x2;have lab2:=S2.lab;simp only[xAK,xCu] at lab2;have c28:=zX7 (g:=gy) (g':=gx) hry Y.hr e2';have c157:∀ a b,(zc E).call 157 [ptr bG,iI a,iI b] g2=some [(.bool (rB tu prs a b),g2)]:=λ a b=>zYF G2 f2.ok (Y.ap.ext e2') Y.st Y.pn;have aA:zWS M L y x=decide (zBd gy ly gx lx=0):=by
   unfold zWS;rw[dP,show ((la:Int)).toNat=la from rfl,aY,Y.hl]
  have d8:zGr M L (rB tu prs) x y=(decide (zBd gy ly gx lx=0)&&rB tu prs x.2.2 y.2.2):=by unfold zGr;rw[aA]
  rw[zRw _ gf] at he;have on:zGr M L (rB tu prs) x y=false->PI (zFg true) K 16 [ptr bG,iI s,ptr bX,ptr bL,v10,iI (i:Int),iI (u:Int),iI (j:Int)] g2:=λ hf=>by
   refine zU3 ?_;simp only[zk _ (zCS aJ (by omega)),zA];rw[hf,xCn] at he;exact ih (j+1) (by omega) g2 f2 he
  have yes:zGr M L (rB tu prs) x y=true->PI (zFg true) K 15 [] g2:=λ ht=>by
   refine zU4 ?_;rw[ht,xDB] at he;exact hT he g2 f2
  simp only[zx,zGa,zFP,zA0,zCe,zBo,xAK,xCu,zA];have Gb:=G2.b;simp only[xAK] at Gb;rw[Gb,zA,zx,zA,zFP,zA];simp only[zA0,xAK,xCu,zA];rw[lab2,zA,c1,zA,s1,zA,s2,zA,l36,zA,zM,c28,zJ];cases hd:decide (zBd gy ly gx lx=0) with
  | false=>
   simp only[zI,zS,show (false==true)=false from rfl,xAH,zA,zF,zE,zZ];exact on (by rw[d8,hd];rfl)
  | true=>
   simp only[zI,zS,xAO,xAG,zA,x2,c2,zM,c157,zJ,zE,zAq];exact⟨λ h=>yes (by rw[d8,hd,h];rfl),λ h=>on (by rw[d8,hd,h];rfl)⟩
def zrw{K:KF}{v10:Value}{lst:List Int}(Y:Lk Q k h1 bG bA bB bs bc bs' bc' N N' bX bL cells cc cells' cc' L M vl ve wl we vp elsL elsM kind tu prs x gx wx lx)(ha:Arr h1 1 v10 (lst.map i1))(k9:lst.length<=1000000)(hr:Rg M lst)
  (hT:lst.any (atF kind L M (rB tu prs) s x)=true->∀ g,Fx NoB h1 g->K .ret [.bool true] g) (hF:lst.any (atF kind L M (rB tu prs) s x)=false->∀ g,Fx NoB h1 g->K .ret [.bool false] g) :
  PI (zFg true) K 5 [ptr bG,iI s,ptr bX,ptr bL,v10] h1:=by
 have hNN:=Y.hN;obtain⟨ad,cp,hv⟩:=ha.slice;rw[xCY] at hv;have ji:(decide (gx=-1)&&decide (lx=[]))=decide (gx=-1):=by
  by_cases h:gx=-1
  ·rw[show lx=[] from zCo Y.hL Y.hl h];simp
  ·simp[h]
 have ai:inE L x=decide (gx=-1):=by unfold inE;rw[Y.hl]
 have loop:∀(d i:Nat),i+d=lst.length->∀ g,Fx NoB h1 g->lst.any (atF kind L M (rB tu prs) s x)=(lst.drop i).any (atF kind L M (rB tu prs) s x)->
   PI (zFg true) K 6 [ptr bG,iI s,ptr bX,ptr bL,v10,iI (i:Int)] g:=by
  intro d
  induction d with
  | zero=>
   intro i hi g f he;refine zOk ?_;rw[show zh E (zAc [(41,v10)]) (zA4 zGl [1,1,1,1,0,1,0,0,0,0] 2) g=some (iI (lst.length:Int)) by rw[hv];exact @zKY _ _ _ _,zA,zP,zA,xAI (by omega),zZ];refine zU1 ?_;rw[xAv (by omega)] at he;exact hF he g f
  | succ d ih=>
   intro i hi g f he;have ax:i<lst.length:=by omega
   obtain⟨ui,hu⟩:∃ u,lst[i]?=some u:=⟨_,xAA ax⟩;have de:=hr ui (xBI hu);obtain⟨u,rfl⟩:=xAp de.1;have huN:u<N':=by omega
   have Gg:=Y.G.nb f id;have eg:=Y.ek.trans f.ext0;have c157:∀ a b,(zc E).call 157 [ptr bG,iI a,iI b] g=some [(.bool (rB tu prs a b),g)]:=λ a b=>zYF Gg f.ok (Y.ap.ext eg) Y.st Y.pn;obtain⟨p2,r1,r2⟩:=zCc ha f.ext0 hu;rw[zRw _ hu] at he;refine zOk ?_;rw[show zh E (zAc [(41,v10)]) (zA4 zGl [1,1,1,1,0,1,0,0,0,0] 2) g=some (iI (lst.length:Int)) by rw[hv];exact @zKY _ _ _ _,zA,zP,zA,xAJ (by omega),ze];refine zfj ?_;rw[r1,zA,r2,zA];have on:atF kind L M (rB tu prs) s x (u:Int)=false->∀ g,Fx NoB h1 g->PI (zFg true) K 17 [ptr bG,iI s,ptr bX,ptr bL,v10,iI (i:Int)] g:=λ hf g f=>by
    refine zU2 ?_;simp only[zk _ (zCS ax (by omega)),zA];rw[hf,xCn] at he;exact ih (i+1) (by omega) g f he
   have yes:atF kind L M (rB tu prs) s x (u:Int)=true->∀ g,Fx NoB h1 g->K .ret [.bool true] g:=λ ht g f=>by
    rw[ht,xDB] at he;exact hT he g f
   have steps:(!decide (kind=2)||rB tu prs s u)=true->(decide (kind=2)&&inE L x&&rB tu prs x.2.2 u)=false->PI (zFg true) K 11 [ptr bG,iI s,ptr bX,ptr bL,v10,iI (i:Int),iI (u:Int)] g:=λ mv h2'=>by
    refine zU7 ?_;have aU:atF kind L M (rB tu prs) s x (u:Int)=(zBy M u).any (zGr M L (rB tu prs) x):=by unfold atF;rw[mv,h2'];simp
    exact zr9 Y huN (λ ht=>yes (by rw[aU];exact ht)) (λ hf=>on (by rw[aU];exact hf)) (zBy M u).length 0 (by omega) g f rfl
   have tX2:=(f.get _ Y.lX id).trans Y.tX;have tL2:=(f.get _ Y.lL id).trans Y.tL;have x2:=zB (P:=E) zAE (o:=0+2) tX2;have l36:zb E 36 g (some (ptr bL))=some (.agg ⟨[iI gx,wx]⟩):=zN (P:=E) zC7 (o:=0) tL2 (by simp);simp only[lnth,zQ,xAK] at x2;have c158:=zLz (g:=gx) Y.hr eg;rw[ji,← ai] at c158;have Gk:=Gg.k;simp only[xAK] at Gk;refine zfi ?_;by_cases hk:kind=2
   ·have nine:rB tu prs s u=true->PI (zFg true) K 9 [ptr bG,iI s,ptr bX,ptr bL,v10,iI (i:Int),iI (u:Int)] g:=λ hR=>by
     refine zOj ?_;simp only[zx,zGZ,xAK,zA,Gk,zAD,hk,xDG,zI,zS,xAO,xAG,l36,zM,c158,zJ,zE];cases eR:inE L x with
     | true=>
      simp only[zI,zS,xAO,xAG,zBo,xAK,x2,zA,zM,c157,zJ,zE,zAq];exact⟨λ h=>zU8 (yes (by unfold atF;simp[hk,hR,eR,h]) g f),λ h=>steps (by simp[hR]) (by simp[h])⟩
     | false=>
      simp only[zI,zS,show (false==true)=false from rfl,xAH,zA,zF,zE,zZ];exact steps (by simp[hR]) (by simp[eR])
    simp only[zx,zGZ,xAK,zA,Gk,zAD,hk,xDG,zI,zS,xAO,xAG,zM,c157,zJ,zq,zE];cases hR:rB tu prs s u with
    | false=>
     rw[xAM,ze];exact on (by unfold atF;simp[hk,hR]) g f
    | true=>
     rw[xAL,zZ];exact nine hR
   ·simp only[zx,zGZ,xAK,zA,Gk,zAD,hk,xCz,zI,zS,show (false==true)=false from rfl,xAH,zF,zE,zZ];refine zOj ?_;simp only[zx,zGZ,xAK,zA,Gk,zAD,hk,xCz,zI,zS,show (false==true)=false from rfl,xAH,zF,zE,zZ];exact steps (by simp[hk]) (by simp[hk])
 exact zfk (by exact loop lst.length 0 (by omega) h1 (Fx.refl Y.ok) rfl)
end
section
variable {Q:Nat->Prop} {k h:AH} {bG bA bB bs bc bs' bc' N N':Nat} {cells cc cells' cc':List Value} {L M:GL} {vl ve wl we vp:Value} {elsL elsM:List (List Value)} {kind:Int} {tu:Bool} {prs:List (Int×Int)} {x:Ed} {s:Int}
def zYN(SA:Sd Q k h bA bs bc N cells cc L vl ve)(SB:Sd Q k h bB bs' bc' N' cells' cc' M wl we)(G:Gm h bG bA bB kind vp tu)(hG:¬ Q bG)(aj:bc≠bc')(aa:h.ok)(ek:Ext k h)(aL:Arr k 2 vl elsL)(rL:RLab k elsL L.labs)(aM:Arr k 2 wl elsM)(rM:RLab k elsM M.labs)(hL:zT L=false)(hM:zT M=false)(hN':M.n=(N':Int))(hS:∀ S∈outOf M,S.length<=100000)
  (ap:Arr k 2 vp (prs.map zC)) (af:zBM prs) (hpn:prs.length<=1000000) (hx1:0<=x.2.1) (hx2:x.2.1<L.labs.length) {t:Nat} (ht:t<N') :
  Ev true ((zc E).call 100 [ptr bG,iI s,iI (t:Int),.agg ⟨zQ x⟩] h) λ y=>y.1=.bool (zJo kind L M (rB tu prs) s t x)/\(∃ cc2,Sd Q k y.2 bB bs' bc' N' cells' cc2 M wl we)/\Fx (λ c=>c=bc') h y.2:=by
 have gO:Q bc':=SB.qc;have f0:Fx NoB h h.qb:=Fx.toFresh aa;have S0A:=SA.nb f0;have S0B:=SB.nb f0;have G0:=G.nb f0 id;have ek0:=ek.trans f0.ext0;have cJ:h.qb.qa=h.qa:=rfl;have main:PI (zFg true) (KR E [.tmp 8] λ v m=>v=.bool (zJo kind L M (rB tu prs) s t x)/\(∃ cc2,Sd Q k m bB bs' bc' N' cells' cc2 M wl we)/\Fx (λ c=>c=bc') h.qb m) 0 [ptr bG,iI s,iI (t:Int),.agg ⟨zQ x⟩] h.qb:=by
  have mok:h.qb.ok:=zAR h;generalize h.qb=m at S0A S0B G0 ek0 cJ mok;refine zfp ?_;obtain⟨m1,e1,n1,t1,⟨f1,_⟩,o1⟩:=nwG (Fx.refl mok) (xAF _) (rO (zQ x) 52);simp only[zU,zF,zK,e1];refine zfo ?_;obtain⟨la,dP⟩:=xAp hx1;have S1A:=S0A.nb f1;have G1:=G0.nb f1 id;have ek1:=ek0.trans f1.ext0;obtain⟨el,aS⟩:∃ z,elsL[la]?=some z:=⟨_,xAA (by rw[RLab.length rL];omega)⟩;obtain⟨gx,wx,lx,rfl,ii,aY⟩:=RLab.at rL la el aS;have hlx:L.labs[x.2.1.toNat]?=some (gx,lx):=by rw[dP];exact aY
  obtain⟨sa,sc,ky⟩:=ii.slice;obtain⟨va,vc,aP⟩:=aL.slice;obtain⟨p,q1,q2⟩:=zM6 aL ek1 aS;have lab1:=S1A.lab;have c1:=zB (P:=E) zAE (o:=0+1) t1;have Ga:=G1.a;simp only[lnth,zQ,dP,xAK,xCu] at c1 lab1 Ga;simp only[zx,zh1,zFP,zA0,zCe,xAK,xCu,zA];rw[Ga,zA,zx,zA,zFP,zA];simp only[zA0,xAK,xCu,zA];rw[lab1,zA,c1,zA,q1,zA,q2,zA];simp only[zrU,zU,zF,zK];obtain⟨ga,ea,na,ta,⟨fa,_⟩,oa⟩:=nwG f1 (xAF _) (rO [iI 0,.slice none 0 0] 36);obtain⟨m2,e2,n2,t2,⟨f2,_⟩,o2⟩:=zWq f1 (xAF _) (rO [iI 0,.slice none 0 0] 36) (rO [iI gx,wx] 36);have eV:=ziQ (k:=m1) (g:=gx) (zDt ii);rw[e2] at eV;rw[ea] at eV ⊢;have Sa:=S0A.nb fa;have Gga:=G0.nb fa id;have Ea:Ext m1 ga:=⟨fa.ok,by omega,oa⟩;have q2':zb E 36 ga (some p)=some (.agg ⟨[iI gx,wx]⟩):=by
   obtain⟨px,qx,w⟩:=zM6 aL (ek0.trans fa.ext0) aS;rw[q1] at qx;cases qx;exact w
  have c1':=zB (P:=E) zAE (o:=0+1) ((oa _ (by omega)).trans t1);have lab2:=Sa.lab;have Ga2:=Gga.a;simp only[lnth,zQ,dP,xAK,xCu] at c1' lab2 Ga2;rw[q2',zA];refine⟨by rw[ky];exact zv6,?_⟩;rw[c1',zA];refine⟨zBF _ _ _,?_⟩;rw[lab2,zA];refine⟨by rw[aP];exact zAw _ _ _ _,?_⟩;rw[Ga2,zA];refine⟨zVy _ _,?_⟩;rw[eV,zF];refine zfn ?_;obtain⟨m3,e3,n3,t3,⟨f3,_⟩,o3⟩:=nwG f2 (xAF _) (rO [iI (t:Int)] 3);rw[zhD,zF,e3];have S3A:=S0A.nb f3;have S3B:=S0B.nb f3;have G3:=G0.nb f3 id;have tX:m3.get m.qa=some (rO (zQ x) 52):=(o3 _ (by omega)).trans ((o2 _ (by omega)).trans t1);have tL:m3.get m1.qa=some (rO [iI gx,wx] 36):=(o3 _ (by omega)).trans t2;have ek3:=ek0.trans f3.ext0;have Gk:=G3.k;refine zfm ?_;rw[zx,zA,zGZ,zA,Gk,zA,zAD,zA];have hr0:Rg M [(t:Int)]:=λ u hu=>by rw[xBV.1 hu];omega
  have rest:∀(g:AH) (v10:Value) (cc2:List Value),Fx (λ c=>c=bc') m3 g->Arr g 1 v10 ((zLj kind M t).map i1)->Sd Q k g bB bs' bc' N' cells' cc2 M wl we->
    PI (zFg true) (KR E [.tmp 8] λ v m'=>v=.bool (zJo kind L M (rB tu prs) s t x)/\(∃ cc2,Sd Q k m' bB bs' bc' N' cells' cc2 M wl we)/\Fx (λ c=>c=bc') m m') 5 [ptr bG,iI s,ptr m.qa,ptr m1.qa,v10] g:=by
   intro g v10 cc2 f ha SB2;have ba:=S0B.lC;have hlen:(zLj kind M t).Nodup/\Rg M (zLj kind M t):=by
    unfold zLj;split
    ·obtain⟨a,b,_⟩:=zJC hM (by simp) hr0;exact⟨a,b⟩
    ·exact⟨by simp,hr0⟩
   have fh:(zLj kind M t).length<=N':=zAB N' _ hlen.1 λ y hy=>by have:=hlen.2 y hy;omega
   obtain⟨_,hz,_⟩:=zf hM;have Y:Lk Q k g bG bA bB bs bc bs' bc' N N' m.qa m1.qa cells cc cells' cc2 L M vl ve wl we vp elsL elsM kind tu prs x gx wx lx:=
    ⟨S3A.fx f (λ c hc=>hc ▸ gO) aj,SB2,G3.nb f (λ e=>hG (e ▸ gO)),f.ok,⟨f.ok,xCx ek3.qa f.qa,λ c hc=>(f.get c (xAC hc ek3.qa) (λ e=>by have:=S3B.kC;omega)).trans (ek3.get c hc)⟩,aM,rM,hM,hN',hS,ap,af,hpn,
     (f.get _ (by omega) (by omega)).trans tX,by have:=f.qa;omega,(f.get _ (by omega) (by omega)).trans tL,by have:=f.qa;omega,ii,hlx,hL⟩
   have fm:∀ g',Fx NoB g g'->Fx (λ c=>c=bc') m g':=λ g' dy=>((Fx.mono (P':=λ c=>c=bc') f3 λ _ h=>h.elim).trans f λ c hc=>.inl hc).trans dy λ _ h=>h.elim;refine zrw (s:=s) Y ha (by omega) hlen.2 (λ cR g' dy=>?_) (λ cR g' dy=>?_)
   ·rw[zAC];exact⟨zO ▸ trivial,by unfold zJo;rw[cR],⟨cc2,SB2.nb dy⟩,fm g' dy⟩
   ·rw[zAC];exact⟨zO ▸ trivial,by unfold zJo;rw[cR],⟨cc2,SB2.nb dy⟩,fm g' dy⟩
  by_cases hk:kind=2
  ·rw[xAJ hk,ze];refine zfl ?_;have Gb:=G3.b;rw[zx,zA,zGa,zA,Gb,zA,zM];refine (zqB S3B f3.ok ek3.qa (aM.ext ek3) (rM.ext ek3) hM hN' hS ht).mono λ y hy=>?_;obtain⟨v10,g⟩:=y;obtain⟨c1,⟨cc2,c2⟩,c3,_⟩:=hy;simp only at c1 c2 c3 ⊢;exact rest g v10 cc2 c3 (by unfold zLj;rw[xDO hk];exact c1.arr) c2
  ·rw[xAI hk,zZ];refine rest m3 _ cc' (Fx.refl f3.ok) ?_ S3B;unfold zLj;rw[xDN hk];have:LS m2.qa m3 (.slice (some ⟨m2.qa,0,none⟩) 1 1) [(t:Int)]:=⟨m2.qa,1,rfl,xAF _,by omega,.inl ⟨rfl,rfl,t3⟩⟩;exact this.arr
 refine (zCP (Q:=λ v m=>v=.bool (zJo kind L M (rB tu prs) s t x)/\(∃ cc2,Sd Q k m bB bs' bc' N' cells' cc2 M wl we)/\Fx (λ c=>c=bc') h.qb m) aa zme zgr (zmd _ _) (by kernel_rfl) (zq9 main)).mono ?_;rintro⟨y,m⟩ ⟨k',⟨hq,⟨cc2,eE⟩,hf⟩,⟨_,cM,h2⟩|h2⟩
 ·simp only at h2 cM hq ⊢;subst h2;exact⟨hq,⟨cc',SB⟩,Fx.refl aa⟩
 ·simp only at h2 hq eE hf ⊢;subst h2;refine⟨hq,⟨cc2,eE.gA,eE.lA,eE.O.same _,eE.hc,eE.gC,eE.lC,eE.kC,eE.cl,λ i c hc=>(eE.cal i c hc).imp id λ l=>l.mono (xAF _) λ _ _ _ _=>rfl,eE.qc,eE.ql,eE.av⟩,hf.back⟩
end
def zFH{h:AH}{lo:Nat}:∀(f:Nat) (ids done:List Nat) {x:Nat},x∈done->x∈zBm h lo f ids done
 | 0,_,_,x,hx=>hx
 | f+1,[],_,x,hx=>hx
 | f+1,b::bs,done,x,hx=>by
  unfold zBm;split
  ·exact zFH f bs done hx
  ·split
   ·exact zFH f _ _ (by simp[hx])
   ·exact zFH f _ _ (by simp[hx])
def zEI{h:AH}{lo n:Nat}{rest:List Nat}:∀(ids done:List Nat),(∀ b∈ids,b<lo\/∃ o,h.get b=some o/\zM7 o=[])->∃ done',zBm h lo (n+ids.length) (ids++rest) done=zBm h lo n rest done'/\(∀ x∈done,x∈done')/\(∀ b∈ids,lo<=b->b∈done')/\∀ x∈done',x∈done\/(x∈ids/\lo<=x)
 | [],done,_=>⟨done,rfl,λ _ h=>h,(λ _ h=>by cases h),λ _ h=>.inl h⟩
 | b::ids,done,hb=>by
  have hr:=λ b' ar=>hb b' (xBG _ ar);show ∃ done',zBm h lo (n+ids.length+1) (b::(ids++rest)) done=_/\_;by_cases hc:(Nat.ble (b+1) lo||done.any (Nat.beq b))=true
  ·obtain⟨d',e,h1,h2,h3⟩:=zEI ids done hr;refine⟨d',by rw[← e];show (if _ then _ else _)=_;rw[xDO hc],h1,λ x hx fA=>?_,λ x hx=>(h3 x hx).imp id λ h=>⟨xBG _ h.1,h.2⟩⟩;rcases xCg.1 hx with rfl|hx
   ·rcases Bool.or_eq_true_iff.1 hc with h|h
    ·exact absurd (ble_true.1 h) (by omega)
    ·obtain⟨y,hy,he⟩:=xCK.1 h;rw[xAw he];exact h1 y hy
   ·exact h2 x hx fA
  ·obtain⟨d',e,h1,h2,h3⟩:=zEI ids (b::done) hr;have fA:¬ b<lo:=λ ab=>hc (by rw[ble_true.2 (by omega)];rfl);rcases hb b xBZ with h|⟨o,ho,hi⟩
   ·exact absurd h fA
   ·refine⟨d',?_,λ x hx=>h1 x (by simp[hx]),λ x hx hl=>?_,λ x hx=>(h3 x hx).elim (λ h=>(xCg.1 h).elim (λ e=>.inr ⟨by simp[e],by omega⟩) .inl) λ h=>.inr ⟨xBG _ h.1,h.2⟩⟩
    ·rw[← e];show (if _ then _ else match h.get b with|some o=>zBm h lo (n+ids.length) (zM7 o++(ids++rest)) (b::done)|none=>_)=_;rw[xDN hc,ho];simp only[hi,xCa]
    ·rcases xCg.1 hx with rfl|hx
     ·exact h1 x (by simp)
     ·exact h2 x hx hl
def znI:∀ S:List Ed,(etc S).flatMap (zBR 4)=[]
 | []=>rfl
 | e::S=>by
  have:=znI S;unfold etc at this ⊢;simp only[xCi,xBy,xBU,this];rfl
def Sv(k m:AH)(L:GL)(vl ve:Value)(N:Nat)(x:Value):Prop:=∃(bs bc:Nat) (cells:List Value),x=.agg ⟨[iI L.n,vl,ve,.slice (some ⟨bs,0,none⟩) N N,.slice (some ⟨bc,0,none⟩) N N]⟩/\LoL k.qa m bs cells (outOf L)/\cells.length=N/\m.get bc=some (.row (List.replicate N (.slice none 0 0)) 47 0 false)/\k.qa<=bc/\bc<m.qa/\bc≠bs/\∀(i:Nat) (c:Value),cells[i]?=some c->¬ zY c bc
def Sv.fin{k m:AH}{L:GL}{vl ve x:Value}{N:Nat}(w:Sv k m L vl ve N x)(ow:Own k m)(hnN:(outOf L).length<=900)(hv:∃ a n c,vl=.slice a n c)(bJ:∃ a n c,ve=.slice a n c)(kh:∀ a n c,vl=.slice (some a) n c->a.block<k.qa)(ho2:∀ a n c,ve=.slice (some a) n c->a.block<k.qa) :
  zm x=false/\(Sv k (m.wmTo k.wm) L vl ve N x/\Fx NoB k (m.wmTo k.wm))/\Sv k ((AH.kept k.qb x m).wmTo k.wm) L vl ve N x/\Fx NoB k ((AH.kept k.qb x m).wmTo k.wm):=by
 obtain⟨bs,bc,cells,rfl,O,h2,h3,h4,h5,h6,h7⟩:=w;have agree:∀ m':AH,m'.qa=m.qa->m'.get bs=m.get bs->m'.get bc=m.get bc->(∀(i:Nat) (c:Value) (b:Nat),cells[i]?=some c->zY c b->m'.get b=m.get b)->Sv k m' L vl ve N (.agg ⟨[iI L.n,vl,ve,.slice (some ⟨bs,0,none⟩) N N,.slice (some ⟨bc,0,none⟩) N N]⟩):=by
  intro m' hn g1 g2 g3;refine⟨bs,bc,cells,rfl,⟨g1.trans O.s,O.len,by rw[hn];exact O.lts,O.locs,λ i c S hc hS=>?_,O.blk,O.dis⟩,h2,g2.trans h3,h4,by rw[hn];exact h5,h6,h7⟩;rcases O.cell i c S hc hS with e|⟨b,e,hg,hl⟩
  ·exact .inl e
  ·exact .inr ⟨b,e,(g3 i c b hc ⟨_,_,e⟩).trans hg,by rw[hn];exact hl⟩
 have an:cells.length<=900:=by rw[O.len];exact hnN
 have dR:∀(l:List Value) (o:Nat),(∀(i:Nat) (c:Value),l[i]?=some c->cells[o+i]?=some c)->(l.flatMap (zBR 4)).length<=l.length/\(∀ b∈l.flatMap (zBR 4),b<k.qa\/∃ o,m.get b=some o/\zM7 o=[])/\∀(i:Nat) (c:Value) (b:Nat),l[i]?=some c->zY c b->b∈l.flatMap (zBR 4):=by
  intro l
  induction l with
  | nil=>intro o h;exact⟨xAF _,λ b hb=>by simp at hb,λ i c b hc=>by simp at hc⟩
  | cons c l ih=>
   intro o h;obtain⟨a1,a2,a3⟩:=ih (o+1) (λ i c' hc=>by have:=h (i+1) c' (by simpa using hc);rw[← this];congr 1;omega);have eB:cells[o]?=some c:=by have:=h 0 c rfl;simpa using this
   obtain⟨S,hS⟩:∃ S,(outOf L)[o]?=some S:=⟨_,xAA (by rw[← O.len];exact (xAc.1 eB).1)⟩;rw[xBv];rcases O.cell o c S eB hS with ⟨rfl,_⟩|⟨b0,rfl,hg,hl⟩
   ·refine⟨by rw[show zBR 4 (.slice none 0 0)=[] from rfl,xCa,xCG];omega,λ b hb=>a2 b (by simpa[zBR] using hb),λ i c' b hc c8=>?_⟩;cases i with
    | zero=>simp at hc;subst hc;obtain⟨_,_,e⟩:=c8;cases e
    | succ i=>have:=a3 i c' b (by simpa using hc) c8;simp[this]
   ·have e0:zBR 4 (.slice (some ⟨b0,0,none⟩) S.length (UNK+3))=[b0]:=rfl;rw[e0];refine⟨by simp only[xBY,xCG,xCR];omega,λ b hb=>?_,λ i c' b hc c8=>?_⟩
    ·rcases xCU.1 hb with h|h
     ·rw[xBV.1 h];exact .inr ⟨_,hg,znI S⟩
     ·exact a2 b h
    ·cases i with
     | zero=>
      simp at hc;subst hc;obtain⟨_,_,e⟩:=c8;simp only[xBu,xAN,xCo] at e;simp[e.1.1]
     | succ i=>have:=a3 i c' b (by simpa using hc) c8;simp[this]
 obtain⟨i1',i2',i3'⟩:=dR cells 0 (λ i c h=>by simpa using h);have dM:(List.replicate N (Value.slice none 0 0)).flatMap (zBR 4)=[]:=zHc λ a ha=>by rw[List.eq_of_mem_replicate ha];rfl
 have hbsl:=O.locs;obtain⟨old,hold,holdl,dU⟩:∃ old:List Nat,(∀ b∈old,b<k.qa)/\old.length<=2/\zBR 4 (.agg ⟨[iI L.n,vl,ve,.slice (some ⟨bs,0,none⟩) N N,.slice (some ⟨bc,0,none⟩) N N]⟩)=old++[bs,bc]:=by
  obtain⟨a1,n1,c1,rfl⟩:=hv;obtain⟨a2,n2,c2,rfl⟩:=bJ;cases a1 with
  | none=>cases a2 with
   | none=>exact⟨[],by simp,by simp,rfl⟩
   | some a2=>exact⟨[a2.block],by simpa using ho2 a2 n2 c2 rfl,by simp,rfl⟩
  | some a1=>cases a2 with
   | none=>exact⟨[a1.block],by simpa using kh a1 n1 c1 rfl,by simp,rfl⟩
   | some a2=>exact⟨[a1.block,a2.block],by simpa using⟨kh a1 n1 c1 rfl,ho2 a2 n2 c2 rfl⟩,by simp,rfl⟩
 have main:∃ R,zBm m k.qb.qa 1000 (zBR 4 (.agg ⟨[iI L.n,vl,ve,.slice (some ⟨bs,0,none⟩) N N,.slice (some ⟨bc,0,none⟩) N N]⟩)) []=R/\bs∈R/\bc∈R/\∀(i:Nat) (c:Value) (b:Nat),cells[i]?=some c->zY c b->b∈R:=by
  refine⟨_,rfl,?_⟩;rw[dU];obtain⟨d1,e1,_,_,kn⟩:=zEI (h:=m) (lo:=k.qb.qa) (n:=1000-old.length) (rest:=[bs,bc]) old [] (λ b hb=>.inl (hold b hb));rw[show 1000-old.length+old.length=1000 by omega] at e1;rw[e1];have step:∀(f:Nat) (b:Nat) (rest done:List Nat) (o:AObj),k.qa<=b->m.get b=some o->zBm m k.qb.qa (f+1) (b::rest) done=(if done.any (Nat.beq b) then zBm m k.qb.qa f rest done else zBm m k.qb.qa f (zM7 o++rest) (b::done)):=by
   intro f b rest done o fA ho;show (if _ then _ else match m.get b with|some o=>_|none=>_)=_;have:Nat.ble (b+1) k.qb.qa=false:=ble_false.2 (by show k.qa<b+1;omega);rw[this,xCn,ho]
  have gO:∀(f:Nat) (done:List Nat),1<=f->(∀ x∈done,x∈zBm m k.qb.qa f [bc] done)/\bc∈zBm m k.qb.qa f [bc] done:=by
   intro f done hf;refine⟨λ x hx=>zFH f _ _ hx,?_⟩;obtain⟨f,rfl⟩:∃ g,f=g+1:=⟨f-1,by omega⟩;rw[step f bc [] done _ h4 h3];split
   ·rename_i h;obtain⟨y,hy,he⟩:=xCK.1 h;rw[xAw he];exact zFH f _ _ hy
   ·exact zFH f _ _ (by simp)
  obtain⟨f,hf⟩:∃ f,1000-old.length=f+1:=⟨1000-old.length-1,by omega⟩;rw[hf,step f bs [bc] d1 _ hbsl O.s];split
  ·
   rename_i hd
   exfalso
   obtain⟨y,hy,he⟩:=xCK.1 hd;rcases kn y hy with h|⟨h,h'⟩
   ·cases h
   ·have:=hold y h;exact absurd h' (by show ¬ k.qa<=y;omega)
  ·obtain⟨d2,e2,h8,h9,_⟩:=zEI (h:=m) (lo:=k.qb.qa) (n:=f-(cells.flatMap (zBR 4)).length) (rest:=[bc]) (cells.flatMap (zBR 4)) (bs::d1) i2';rw[show f-(cells.flatMap (zBR 4)).length+(cells.flatMap (zBR 4)).length=f by omega] at e2;show bs∈zBm m k.qb.qa f (cells.flatMap (zBR 4)++[bc]) (bs::d1)/\bc∈zBm m k.qb.qa f (cells.flatMap (zBR 4)++[bc]) (bs::d1)/\∀(i:Nat) (c:Value) (b:Nat),cells[i]?=some c->zY c b->b∈zBm m k.qb.qa f (cells.flatMap (zBR 4)++[bc]) (bs::d1);rw[e2];obtain⟨q1,q2⟩:=gO (f-(cells.flatMap (zBR 4)).length) d2 (by omega);exact⟨q1 _ (h8 _ (by simp)),q2,λ i c b hc hb=>q1 _ (h9 b (i3' i c b hc hb) (O.blk i c b hc hb).2)⟩
 obtain⟨R,hR,r1,r2,r3⟩:=main;have hkg:∀ b,b∈R->(AH.kept k.qb (.agg ⟨[iI L.n,vl,ve,.slice (some ⟨bs,0,none⟩) N N,.slice (some ⟨bc,0,none⟩) N N]⟩) m).get b=m.get b:=λ b hb=>by
  unfold AH.kept;rw[hR,zBc,xDO hb]
 refine⟨by simp[zm,zEe],⟨agree _ rfl rfl rfl λ _ _ _ _ _=>rfl,zLG ow⟩,agree _ rfl (hkg _ r1) (hkg _ r2) (λ i c b hc hb=>hkg _ (r3 i c b hc hb)),zLG ⟨⟨ow.ext.ok,ow.ext.qa,λ c hc=>?_⟩,ow.wm⟩⟩;unfold AH.kept;rw[zBc];split
 ·exact ow.ext.get c hc
 ·rfl
def zsF{n:Int}{a1 a2 a3 a4:Option Addr}{n1 c1 n2 c2 n3 c3 n4 c4:Nat}:zAT E 148 (some [(0,.agg ⟨[iI n,.slice a1 n1 c1,.slice a2 n2 c2]⟩),(1,.slice a3 n3 c3),(2,.slice a4 n4 c4)])=some (.agg ⟨[iI n,.slice a1 n1 c1,.slice a2 n2 c2,.slice a3 n3 c3,.slice a4 n4 c4]⟩):=by kernel_rfl
def zsV{n:Nat}(hn:n<=1000000){h:AH}:zAG E 146 (some (iI (n:Int))) (some (iI (n:Int))) h=one (.slice (some ⟨h.qa,0,none⟩) n n,h.new (.row (List.replicate n (.slice none 0 0)) 47 0 false)):=
 zGz (by obtain⟨i,a⟩:=zSr zhR zyJ (by kernel_rfl);exact⟨i,zpT,a⟩) rfl hn
def zIg:∀(l:List Ed) (EE:List (List Ed)) (i:Nat) (S:List Ed),(zIh EE l)[i]?=some S->∃ S0,EE[i]?=some S0/\S.length<=S0.length+l.length
 | [],EE,i,S,h=>⟨S,h,by simp⟩
 | e::l,EE,i,S,h=>by
  simp only[zIh] at h;obtain⟨S1,h1,h2⟩:=zIg l _ i S h;by_cases hi:e.1.toNat=i
  ·subst hi;have ab:e.1.toNat<EE.length:=by have:=(xAc.1 h1).1;simpa using this
   rw[xAt ab] at h1;cases h1;refine⟨EE[e.1.toNat],xAA ab,?_⟩;rw[xAA ab] at h2;simp only[xCH,xBY,xCG,xCR] at h2 ⊢;omega
  ·rw[xBM hi] at h1;exact⟨S1,h1,by simp only[xCG];omega⟩
def zCY{L:GL}(hL:zT L=false):∀ S∈outOf L,S.length<=100000:=by
 intro S hS;obtain⟨i,hi⟩:=xBN hS;obtain⟨S0,h0,h1⟩:=zIg _ _ i S hi;obtain⟨_,_,_,h4⟩:=zf hL;rw[xAq] at h0;split at h0
 ·cases h0;simp at h1;omega
 ·cases h0
def Bk(k:AH)(v:Value):Prop:=∀ a n c,v=.slice (some a) n c->a.block<k.qa
def znY{k:AH}{x:Value}{L:GL}{vl ve:Value}{N:Nat}(aa:k.ok)(hx:RL k x L)(hxv:x=.agg ⟨[iI L.n,vl,ve]⟩)(hL:zT L=false)(hN:L.n=(N:Int))(hN9:N<=900)(b1:Bk k vl)(b2:Bk k ve) :
  Ev false ((zc E).call 99 [x] k) λ y=>Sv k y.2 L vl ve N y.1/\Fx NoB k y.2:=by
 obtain⟨vl',ve',elsL,bM,x2,x3,x4⟩:=id hx.ex;rw[hxv] at bM;cases bM;obtain⟨xa,xb,aP⟩:=x2.slice;obtain⟨xc,xd,bJ⟩:=x4.slice;have li:(outOf L).length<=900:=by rw[zIf,hN];exact hN9
 subst hxv;refine zNT (s:=false) (Rp:=λ v m=>Sv k m L vl ve N v/\Fx NoB k m) zqy zlm (zqx _ _) (by kernel_rfl) (Ev.mono (zu5 (s:=false) (Rp:=λ v m=>Sv k m L vl ve N v/\Own k m) (ziY ?_)) λ y hy=>hy.1.fin hy.2 li ⟨_,_,_,aP⟩ ⟨_,_,_,bJ⟩ b1 b2);obtain⟨k1,e1,n1,t1,o1,f1⟩:=nwF k (rO [iI L.n,vl,ve] 25);obtain⟨k2,e2,n2,t2,o2,f2⟩:=nw o1 (rO [iI 0,.slice none 0 0,.slice none 0 0,.slice none 0 0,.slice none 0 0] 148);simp only[zU,zn8,zF,zK,e1,zR,e2,n1];rw[n1] at t2;have g1:=(f2 k.qa (by omega)).trans t1;refine ziX ?_;have ag:∀ m:AH,m.get k.qa=some (rO [iI L.n,vl,ve] 25)->zb E 25 m (some (ptr k.qa))=some (.agg ⟨[iI L.n,vl,ve]⟩):=λ m hm=>by
  have:=zN (P:=E) zBT (o:=0) hm (by simp);simpa using this
 have l3:∀ m:AH,m.get k.qa=some (rO [iI L.n,vl,ve] 25)->zb E 3 m (sP k.qa (0+0))=some (iI (N:Int)):=λ m hm=>by
  rw[← hN];exact zB (P:=E) zAE (o:=0+0) hm
 have vq:veq 100 (.agg ⟨[iI L.n,vl,ve]⟩) (.agg ⟨[iI L.n,vl,ve]⟩)=true:=by rw[aP,bJ];exact zSp
 obtain⟨_,z2,_,_⟩:=zf hL;rw[ag k2 g1,zA,zA,zAP,zA,l3 k2 g1,zA];have fin:∀(m:AH) (bs bc:Nat) (cells:List Value),Own k m->m.get k.qa=some (rO [iI L.n,vl,ve] 25)->m.get (k.qa+1)=some (rO [iI 0,.slice none 0 0,.slice none 0 0,.slice none 0 0,.slice none 0 0] 148)->k.qa+1<m.qa->LoL k.qa m bs cells (outOf L)->cells.length=N->m.get bc=some (.row (List.replicate N (.slice none 0 0)) 47 0 false)->k.qa+2<=bc->bc<m.qa->bc≠bs->k.qa+2<=bs->(∀(i:Nat) (c:Value) (b:Nat),cells[i]?=some c->zY c b->b≠bc/\k.qa+2<=b)->
   EvO (zAT E 148 (some [(0,.agg ⟨[iI L.n,vl,ve]⟩),(1,.slice (some ⟨bs,0,none⟩) N N),(2,.slice (some ⟨bc,0,none⟩) N N)])) λ x6=>Ev false (zAM E 148 m (some (ptr (k.qa+1))) (some x6)) λ x7=>KR E [.cell 2 148] (λ v m=>Sv k m L vl ve N v/\Own k m) .ret [ptr (k.qa+1)] x7.2:=by
  intro m bs bc cells om gm1 gm2 hn1 O hc gc h1 h2 h3 h4 h5;have fT:zAT E 148 (some [(0,.agg ⟨[iI L.n,vl,ve]⟩),(1,.slice (some ⟨bs,0,none⟩) N N),(2,.slice (some ⟨bc,0,none⟩) N N)])=some (.agg ⟨[iI L.n,vl,ve,.slice (some ⟨bs,0,none⟩) N N,.slice (some ⟨bc,0,none⟩) N N]⟩):=by rw[aP,bJ];exact zsF
  rw[fT,zA];have af:=zi (P:=E) zmo (o:=0) (h:=m) (x:=.agg ⟨[iI L.n,vl,ve,.slice (some ⟨bs,0,none⟩) N N,.slice (some ⟨bc,0,none⟩) N N]⟩) (cs:=[iI L.n,vl,ve,.slice (some ⟨bs,0,none⟩) N N,.slice (some ⟨bc,0,none⟩) N N]) gm2 rfl rfl (by simp) (by rw[aP,bJ];rfl);rw[show lput [iI 0,.slice none 0 0,.slice none 0 0,.slice none 0 0,.slice none 0 0] 0 [iI L.n,vl,ve,.slice (some ⟨bs,0,none⟩) N N,.slice (some ⟨bc,0,none⟩) N N]=[iI L.n,vl,ve,.slice (some ⟨bs,0,none⟩) N N,.slice (some ⟨bc,0,none⟩) N N] from rfl] at af;rw[af,zF,zwn];obtain⟨m2,e2,n2,t2,o2,f2⟩:=up om (b:=k.qa+1) (by omega) (rO [iI L.n,vl,ve,.slice (some ⟨bs,0,none⟩) N N,.slice (some ⟨bc,0,none⟩) N N] 148);rw[e2];refine⟨zO ▸ trivial,?_⟩;have hld:zC1 E 148 (ptr (k.qa+1)) m2=some (.agg ⟨[iI L.n,vl,ve,.slice (some ⟨bs,0,none⟩) N N,.slice (some ⟨bc,0,none⟩) N N]⟩):=by
   have:=zN (P:=E) zrn (o:=0) t2 (by simp);exact (show zb E 148 m2 (some (ptr (k.qa+1)))=_ from by simpa using this)
  rw[hld,zA];refine⟨⟨bs,bc,cells,rfl,⟨(f2 _ (by omega)).trans O.s,O.len,by rw[n2];exact O.lts,O.locs,λ i c S am hS=>?_,O.blk,O.dis⟩,hc,(f2 _ (by omega)).trans gc,by omega,by show bc<m2.qa;omega,h3,λ i c am hb=>(h5 i c bc am hb).1 rfl⟩,o2⟩;rcases O.cell i c S am hS with e|⟨b,e,hg,hl⟩
  ·exact .inl e
  ·exact .inr ⟨b,e,(f2 _ (by have:=(h5 i c b am ⟨_,_,e⟩).2;omega)).trans hg,by rw[n2];exact hl⟩
 refine⟨rfl,?_,?_⟩
 ·rw[zM];refine ((znc o2.ext.ok (hx.ext o2.ext) hL hN).weak).mono λ u hu=>?_;obtain⟨w1,h1⟩:=u;obtain⟨bs,cells,fP,O1,eI,hZ,fx1⟩:=hu;simp only at fP O1 fx1 ⊢;subst fP;have oh1:=fx1.own o2 (λ _ h=>h.elim);have hn:=fx1.qa;have g11:=(fx1.get _ (by omega) id).trans g1;rw[l3 h1 g11,zA];refine⟨zBF _ _ _,?_⟩;rw[ag h1 g11,zA];refine⟨vq,?_⟩;rw[zsV (by omega),zF];obtain⟨h2,e3,n3,t3,o3,f3⟩:=nw oh1 (.row (List.replicate N (.slice none 0 0)) 47 0 false);rw[e3];have g12:=(f3 _ (by omega)).trans g11;rw[ag h2 g12,zA];refine⟨vq,?_⟩;have kY:=O1.lts;have k7:=O1.locs;have E3:Ext h1 h2:=⟨o3.ext.ok,by omega,f3⟩;have O3:LoL k.qa h2 bs cells (outOf L):=by
   have:=O1.ext E3;exact⟨this.s,this.len,this.lts,by omega,this.cell,λ i c b hc hb=>⟨(this.blk i c b hc hb).1,by have:=(this.blk i c b hc hb).2;omega⟩,this.dis⟩
  refine fin h2 bs h1.qa cells o3 g12 ((f3 _ (by omega)).trans ((fx1.get _ (by omega) id).trans t2)) (by omega) O3 eI t3 (by omega) (by omega) (by omega) (by omega) λ i c b hc hb=>?_;obtain⟨S,hS⟩:∃ S,(outOf L)[i]?=some S:=⟨_,xAA (by rw[← O1.len];exact (xAc.1 hc).1)⟩;have:=(O1.cell i c S hc hS).lt hb;have:=(O1.blk i c b hc hb).2;omega
 ·rw[zsV (by omega),zF];obtain⟨h2,e3,n3,t3,o3,f3⟩:=nw o2 (.row (List.replicate N (.slice none 0 0)) 47 0 false);rw[e3];have g12:=(f3 _ (by omega)).trans g1;rw[ag h2 g12,zA];refine⟨vq,?_⟩;rw[zA];refine⟨vq,?_⟩;rw[zM];refine ((znc o3.ext.ok (hx.ext o3.ext) hL hN).weak).mono λ u hu=>?_;obtain⟨w1,h1⟩:=u;obtain⟨bs,cells,fP,O1,eI,hZ,fx1⟩:=hu;simp only at fP O1 fx1 ⊢;subst fP;have oh1:=fx1.own o3 (λ _ h=>h.elim);have hn:=fx1.qa;have g11:=(fx1.get _ (by omega) id).trans g12;rw[ag h1 g11,zA];refine⟨vq,?_⟩;have kY:=O1.lts;have k7:=O1.locs;have O3:LoL k.qa h1 bs cells (outOf L):=⟨O1.s,O1.len,O1.lts,by omega,O1.cell,λ i c b hc hb=>⟨(O1.blk i c b hc hb).1,by have:=(O1.blk i c b hc hb).2;omega⟩,O1.dis⟩;refine fin h1 bs k2.qa cells oh1 g11 ((fx1.get _ (by omega) id).trans ((f3 _ (by omega)).trans t2)) (by omega) O3 eI ((fx1.get _ (by omega) id).trans t3) (by omega) (by omega) (by omega) (by omega) λ i c b hc hb=>?_;have:=(O1.blk i c b hc hb).2;omega
def zoi{h0 g:AH}{v:Value}{l:List (Int×Int)}(ha:Arr h0 2 v (l.map zC))(e:Ext h0 g){i:Nat}{p:Int×Int}(hp:l[i]?=some p):∃ b o,zV E 26 (some v) (some (iI (i:Int)))=some (.pointer (some ⟨b,o,none⟩))/\zb E 3 g (some (.pointer (some ⟨b,o+0,none⟩)))=some (iI p.1)/\zb E 3 g (some (.pointer (some ⟨b,o+1,none⟩)))=some (iI p.2):=by
 have bM:(l.map zC)[i]?=some (zC p):=by rw[xBi,hp];rfl
 obtain⟨b,o,c',vs,ty,es,ro,rfl,hb,ba,bK,hz,bN⟩:=ha.load bM;have gb:=(e.get b ba).trans hb;have z0:((vs.drop (o+i*2)).take 2)[0]?=some (iI p.1):=by rw[hz];rfl
 have z1:((vs.drop (o+i*2)).take 2)[1]?=some (iI p.2):=by rw[hz];rfl
 rw[xAg (by omega),xBW] at z0 z1;exact⟨b,o+i*2,zXg (by have:=(xAc.1 bM).1;exact this),by rw[zB (P:=E) zAE gb,zAI];exact z0,by rw[zB (P:=E) zAE gb,zAI];exact z1⟩
def zHO(L M:GL)(B:GB)(p:Int×Int):Bool:=(zBy L p.1).all λ x=>zJo B.kind L M (rB false B.prs) p.1 p.2 x
def zNZ(L M:GL)(B:GB)(p:Int×Int):Bool:=(zBy M p.2).all λ x=>zJo B.kind M L (rB true B.prs) p.2 p.1 x
def okF(L M:GL)(B:GB):Bool:=B.prs.all λ p=>zHO L M B p&&zNZ L M B p
structure Tc(k g:AH)(bA bB bsA bcA bsB bcB bG bH bR N N':Nat)(cA cB:List Value)(L M:GL)(vl ve wl we vp:Value)(B:GB):Prop where
 sA:∃ cc,Sd (λ c=>c=bcA\/c=bcB) k g bA bsA bcA N cA cc L vl ve
 sB:∃ cc,Sd (λ c=>c=bcA\/c=bcB) k g bB bsB bcB N' cB cc M wl we
 g1:Gm g bG bA bB B.kind vp false
 g2:Gm g bH bB bA B.kind vp true
 n1:¬ (bG=bcA\/bG=bcB)
 n2:¬ (bH=bcA\/bH=bcB)
 ne:bcA≠bcB
 ow:Own k g
 r:g.get bR=some (rO [iI B.kind,vp] 32)
 lr:bR<g.qa
 nr:¬ (bR=bcA\/bR=bcB)
section
variable {k g g':AH} {bA bB bsA bcA bsB bcB bG bH bR N N':Nat} {cA cB:List Value} {L M:GL} {vl ve wl we vp:Value} {B:GB} {elsL elsM:List (List Value)}
def Tc.toB(T:Tc k g bA bB bsA bcA bsB bcB bG bH bR N N' cA cB L M vl ve wl we vp B)(f:Fx (λ c=>c=bcB) g g')(hs:∃ cc,Sd (λ c=>c=bcA\/c=bcB) k g' bB bsB bcB N' cB cc M wl we):Tc k g' bA bB bsA bcA bsB bcB bG bH bR N N' cA cB L M vl ve wl we vp B:=
 let ⟨cc,S⟩:=T.sA
 let ⟨_,S'⟩:=T.sB
 ⟨⟨cc,S.fx f (λ c h=>.inr h) T.ne⟩,hs,T.g1.nb f (λ e=>T.n1 (.inr e)),T.g2.nb f (λ e=>T.n2 (.inr e)),T.n1,T.n2,T.ne,f.own T.ow (λ c h=>by rw[h];exact S'.kC),(f.get _ T.lr (λ e=>T.nr (.inr e))).trans T.r,xAC T.lr f.qa,T.nr⟩
def Tc.toA(T:Tc k g bA bB bsA bcA bsB bcB bG bH bR N N' cA cB L M vl ve wl we vp B)(f:Fx (λ c=>c=bcA) g g')(hs:∃ cc,Sd (λ c=>c=bcA\/c=bcB) k g' bA bsA bcA N cA cc L vl ve):Tc k g' bA bB bsA bcA bsB bcB bG bH bR N N' cA cB L M vl ve wl we vp B:=
 let ⟨_,S⟩:=T.sA
 let ⟨cc,S'⟩:=T.sB
 ⟨hs,⟨cc,S'.fx f (λ c h=>.inl h) T.ne.symm⟩,T.g1.nb f (λ e=>T.n1 (.inl e)),T.g2.nb f (λ e=>T.n2 (.inl e)),T.n1,T.n2,T.ne,f.own T.ow (λ c h=>by rw[h];exact S.kC),(f.get _ T.lr (λ e=>T.nr (.inl e))).trans T.r,xAC T.lr f.qa,T.nr⟩
structure Gv(k:AH)(N N':Nat)(L M:GL)(vl wl vp:Value)(elsL elsM:List (List Value))(B:GB):Prop where
 aL:Arr k 2 vl elsL
 rL:RLab k elsL L.labs
 aM:Arr k 2 wl elsM
 rM:RLab k elsM M.labs
 hL:zT L=false
 hM:zT M=false
 hN:L.n=(N:Int)
 hN':M.n=(N':Int)
 ap:Arr k 2 vp (B.prs.map zC)
 st:zBM B.prs
 pn:B.prs.length<=1000000
def zoN{K:KF}{i s t:Nat}(Y:Gv k N N' L M vl wl vp elsL elsM B)(hs:s<N)(ht:t<N')
  (hF:zHO L M B (s,t)=false->∀ g,Own k g->K .ret [iI 360] g)
  (hT:zHO L M B (s,t)=true->∀ g,Tc k g bA bB bsA bcA bsB bcB bG bH bR N N' cA cB L M vl ve wl we vp B->PI (C50 false) K 26 [ptr bR,ptr bA,ptr bB,ptr bG,ptr bH,iI (i:Int),iI (s:Int),iI (t:Int)] g) :
  ∀(d j:Nat),j+d=(zBy L s).length->∀ g,Tc k g bA bB bsA bcA bsB bcB bG bH bR N N' cA cB L M vl ve wl we vp B->zHO L M B (s,t)=((zBy L s).drop j).all (λ x=>zJo B.kind L M (rB false B.prs) s t x)->
   PI (C50 false) K 22 [ptr bR,ptr bA,ptr bB,ptr bG,ptr bH,iI (i:Int),iI (s:Int),iI (t:Int),iI (j:Int)] g:=by
 intro d
 induction d with
 | zero=>
  intro j hj g T he;obtain⟨cc,S⟩:=T.sA;obtain⟨cS,_,q1,q2,q3,_,q5,_⟩:=S.row Y.hL Y.hN (zCY Y.hL) hs;obtain⟨ad3,cp3,cq⟩:=q3.slice;rw[xCY] at cq;refine zNl ?_;rw[zBz,zA,S.out,zA,q1,zA,q2,zA];rw[show zh E (zAc [(102,cS)]) (zA4 B50 [1,1,1,1,1,1,1,1,1,0,1,0,0,1,0,0,1,1,0,1,0,0,0,0] 6) g=some (iI ((zBy L s).length:Int)) by rw[cq];exact @zKC _ _ _ _,zA,zP,zA,xAI (by omega),zZ];rw[xAv (by omega)] at he;exact hT he g T
 | succ d ih=>
  intro j hj g T he;have aJ:j<(zBy L s).length:=by omega
  obtain⟨x,hx⟩:∃ y,(zBy L s)[j]?=some y:=⟨_,xAA aJ⟩;obtain⟨cc,S⟩:=T.sA;obtain⟨cc',S'⟩:=T.sB;obtain⟨cS,_,q1,q2,q3,_,q5,q6⟩:=S.row Y.hL Y.hN (zCY Y.hL) hs;obtain⟨⟨jd,iD⟩,_,_⟩:=q6 x (xBI hx);obtain⟨ad3,cp3,cq⟩:=q3.slice;rw[xCY] at cq;refine zNl ?_;rw[zBz,zA,S.out,zA,q1,zA,q2,zA];rw[show zh E (zAc [(102,cS)]) (zA4 B50 [1,1,1,1,1,1,1,1,1,0,1,0,0,1,0,0,1,1,0,1,0,0,0,0] 6) g=some (iI ((zBy L s).length:Int)) by rw[cq];exact @zKC _ _ _ _,zA,zP,zA,xAJ (by omega),ze];refine zZu ?_;have bM:((zBy L s).map zQ)[j]?=some (zQ x):=by rw[xBi,hx];rfl
  obtain⟨p1,w0,w1⟩:=zJk q3 (Ext.refl T.ow.ext.ok) bM;rw[zBz,zA,S.out,zA,q1,zA,q2,zA,w0,zA,w1,zA,zM];refine ((zYN (s:=(s:Int)) S S' T.g1 T.n1 T.ne T.ow.ext.ok T.ow.ext Y.aL Y.rL Y.aM Y.rM Y.hL Y.hM Y.hN' (zCY Y.hM) Y.ap Y.st Y.pn jd iD ht).weak).mono λ y hy=>?_;obtain⟨yv,g2⟩:=y;obtain⟨c1,c2,c3⟩:=hy;simp only at c1 c2 c3 ⊢;subst c1;have T2:=T.toB c3 c2;have hd:((zBy L s).drop j).all (λ x=>zJo B.kind L M (rB false B.prs) s t x)=(zJo B.kind L M (rB false B.prs) s t x&&((zBy L s).drop (j+1)).all (λ x=>zJo B.kind L M (rB false B.prs) s t x)):=by
   rw[xAZ aJ,xCj,show (zBy L s)[j]=x from (xAc.1 hx).2]
  rw[hd] at he;rw[zq,zA];cases ha:zJo B.kind L M (rB false B.prs) s t x with
  | false=>
   rw[xAM,ze];rw[ha,xCf] at he;exact zZt (hF he g2 T2.ow)
  | true=>
   rw[xAL,zZ];refine zZs ?_;rw[zk _ (zCS aJ (by omega)),zA];rw[ha,xCk] at he;exact ih (j+1) (by omega) g2 T2 he
def ztd{K:KF}{i s t:Nat}(Y:Gv k N N' L M vl wl vp elsL elsM B)(hs:s<N)(ht:t<N')
  (hF:zNZ L M B (s,t)=false->∀ g,Own k g->K .ret [iI 360] g)
  (hT:zNZ L M B (s,t)=true->∀ g,Tc k g bA bB bsA bcA bsB bcB bG bH bR N N' cA cB L M vl ve wl we vp B->PI (C50 false) K 31 [ptr bR,ptr bA,ptr bB,ptr bG,ptr bH,iI (i:Int)] g) :
  ∀(d j:Nat),j+d=(zBy M t).length->∀ g,Tc k g bA bB bsA bcA bsB bcB bG bH bR N N' cA cB L M vl ve wl we vp B->zNZ L M B (s,t)=((zBy M t).drop j).all (λ x=>zJo B.kind M L (rB true B.prs) t s x)->
   PI (C50 false) K 27 [ptr bR,ptr bA,ptr bB,ptr bG,ptr bH,iI (i:Int),iI (s:Int),iI (t:Int),iI (j:Int)] g:=by
 intro d
 induction d with
 | zero=>
  intro j hj g T he;obtain⟨cc,S⟩:=T.sB;obtain⟨cS,_,q1,q2,q3,_,q5,_⟩:=S.row Y.hM Y.hN' (zCY Y.hM) ht;obtain⟨ad3,cp3,cq⟩:=q3.slice;rw[xCY] at cq;refine zNk ?_;rw[zBz,zA,S.out,zA,q1,zA,q2,zA];rw[show zh E (zAc [(125,cS)]) (zA4 B50 [1,1,1,1,1,1,1,1,1,0,1,0,0,1,0,0,1,1,1,1,0,0,0,0] 6) g=some (iI ((zBy M t).length:Int)) by rw[cq];exact @zKB _ _ _ _,zA,zP,zA,xAI (by omega),zZ];rw[xAv (by omega)] at he;exact hT he g T
 | succ d ih=>
  intro j hj g T he;have aJ:j<(zBy M t).length:=by omega
  obtain⟨x,hx⟩:∃ y,(zBy M t)[j]?=some y:=⟨_,xAA aJ⟩;obtain⟨cc',S'⟩:=T.sA;obtain⟨cc,S⟩:=T.sB;obtain⟨cS,_,q1,q2,q3,_,q5,q6⟩:=S.row Y.hM Y.hN' (zCY Y.hM) ht;obtain⟨⟨jd,iD⟩,_,_⟩:=q6 x (xBI hx);obtain⟨ad3,cp3,cq⟩:=q3.slice;rw[xCY] at cq;refine zNk ?_;rw[zBz,zA,S.out,zA,q1,zA,q2,zA];rw[show zh E (zAc [(125,cS)]) (zA4 B50 [1,1,1,1,1,1,1,1,1,0,1,0,0,1,0,0,1,1,1,1,0,0,0,0] 6) g=some (iI ((zBy M t).length:Int)) by rw[cq];exact @zKB _ _ _ _,zA,zP,zA,xAJ (by omega),ze];refine zZq ?_;have bM:((zBy M t).map zQ)[j]?=some (zQ x):=by rw[xBi,hx];rfl
  obtain⟨p1,w0,w1⟩:=zJk q3 (Ext.refl T.ow.ext.ok) bM;rw[zBz,zA,S.out,zA,q1,zA,q2,zA,w0,zA,w1,zA,zM];refine ((zYN (s:=(t:Int)) S S' T.g2 T.n2 T.ne.symm T.ow.ext.ok T.ow.ext Y.aM Y.rM Y.aL Y.rL Y.hM Y.hL Y.hN (zCY Y.hL) Y.ap Y.st Y.pn jd iD hs).weak).mono λ y hy=>?_;obtain⟨yv,g2⟩:=y;obtain⟨c1,c2,c3⟩:=hy;simp only at c1 c2 c3 ⊢;subst c1;have T2:=T.toA c3 c2;have hd:((zBy M t).drop j).all (λ x=>zJo B.kind M L (rB true B.prs) t s x)=(zJo B.kind M L (rB true B.prs) t s x&&((zBy M t).drop (j+1)).all (λ x=>zJo B.kind M L (rB true B.prs) t s x)):=by
   rw[xAZ aJ,xCj,show (zBy M t)[j]=x from (xAc.1 hx).2]
  rw[hd] at he;rw[zq,zA];cases ha:zJo B.kind M L (rB true B.prs) t s x with
  | false=>
   rw[xAM,ze];rw[ha,xCf] at he;exact zZp (hF he g2 T2.ow)
  | true=>
   rw[xAL,zZ];refine zZo ?_;rw[zk _ (zCS aJ (by omega)),zA];rw[ha,xCk] at he;exact ih (j+1) (by omega) g2 T2 he
def zok{K:KF}(Y:Gv k N N' L M vl wl vp elsL elsM B)(hr:InR L M B.prs)(hF:okF L M B=false->∀ g,Own k g->K .ret [iI 360] g)(hT:okF L M B=true->∀ g,Own k g->K .ret [iI 0] g) :
  ∀(d i:Nat),i+d=B.prs.length->∀ g,Tc k g bA bB bsA bcA bsB bcB bG bH bR N N' cA cB L M vl ve wl we vp B->okF L M B=(B.prs.drop i).all (λ p=>zHO L M B p&&zNZ L M B p)->
   PI (C50 false) K 18 [ptr bR,ptr bA,ptr bB,ptr bG,ptr bH,iI (i:Int)] g:=by
 obtain⟨ad,cp,hv⟩:=Y.ap.slice;rw[xCY] at hv;have hNN:=Y.hN;have hNN':=Y.hN';intro d
 induction d with
 | zero=>
  intro i hi g T he;have l1:zb E 26 g (sP bR (0+1))=some vp:=zB (P:=E) zEc (o:=0+1) T.r;refine zNm ?_;rw[zAZ,zA,l1,zA];rw[show zh E (zAc [(80,vp)]) (zA4 B50 [1,1,1,1,1,1,1,1,1,0,1,0,0,0,0] 3) g=some (iI (B.prs.length:Int)) by rw[hv];exact @zKD _ _ _ _,zA,zP,zA,xAI (by omega),zZ];rw[xAv (by omega)] at he;exact zZm (hT he g T.ow)
 | succ d ih=>
  intro i hi g T he;have ax:i<B.prs.length:=by omega
  obtain⟨p,hp⟩:∃ p,B.prs[i]?=some p:=⟨_,xAA ax⟩;have hpr:=hr p (xBI hp);obtain⟨p1,p2⟩:=p;simp only at hpr;obtain⟨s,rfl⟩:=xAp hpr.1.1;obtain⟨t,rfl⟩:=xAp hpr.2.1;have l1:zb E 26 g (sP bR (0+1))=some vp:=zB (P:=E) zEc (o:=0+1) T.r;obtain⟨bb,o,q0,q1,q2⟩:=zoi Y.ap T.ow.ext hp;refine zNm ?_;rw[zAZ,zA,l1,zA];rw[show zh E (zAc [(80,vp)]) (zA4 B50 [1,1,1,1,1,1,1,1,1,0,1,0,0,0,0] 3) g=some (iI (B.prs.length:Int)) by rw[hv];exact @zKD _ _ _ _,zA,zP,zA,xAJ (by omega),ze];refine zZx ?_;rw[zAZ,zA,l1,zA,q0,zA,zD9,zA,q1,zA];refine zZw ?_;rw[zAZ,zA,l1,zA,q0,zA,zEb,zA,q2,zA];refine zZv ?_;have hd:(B.prs.drop i).all (λ p=>zHO L M B p&&zNZ L M B p)=((zHO L M B ((s:Int),(t:Int))&&zNZ L M B ((s:Int),(t:Int)))&&(B.prs.drop (i+1)).all (λ p=>zHO L M B p&&zNZ L M B p)):=by
   rw[xAZ ax,xCj,show B.prs[i]=((s:Int),(t:Int)) from (xAc.1 hp).2]
  rw[hd] at he;refine zoN Y (by omega) (by omega) (λ hf g ho=>hF (by rw[he,hf];rfl) g ho) (λ ht g T=>?_) (zBy L s).length 0 (by omega) g T rfl;refine zZr ?_;refine ztd Y (by omega) (by omega) (λ hf g ho=>hF (by rw[he,ht,hf];rfl) g ho) (λ hb g T=>?_) (zBy M t).length 0 (by omega) g T rfl;refine zZn ?_;rw[zk _ (zCS ax (by have:=Y.pn;omega)),zA];rw[ht,hb] at he;exact ih (i+1) (by omega) g T he
end
def ztC{k:AH}{e:List Value}{B:GB}(aa:k.ok)(he:RB k e B):(zc E).call 97 [.agg ⟨e⟩] k=some [(iI (zAt B),k)]:=by
 obtain⟨vp,rfl,ap⟩:=he.ex;obtain⟨pa,pc,c9⟩:=ap.slice;rw[xCY] at c9;refine zlo (s:=true) aa rfl (ziq ?_);obtain⟨k1,e1,n1,t1,o1,f1⟩:=nwF k (rO [iI B.kind,vp] 32);simp only[zU,zF,zK,e1,zR];refine zio ?_;have l0:zb E 3 k1 (sP k.qa (0+0))=some (iI B.kind):=zB (P:=E) zAE (o:=0+0) t1;have l1:zb E 26 k1 (sP k.qa (0+1))=some vp:=zB (P:=E) zEc (o:=0+1) t1;rw[zDV,zA,l0,zA,zM,zQL o1.ext.ok,zJ,zq,zA];have fin:∀ n:Int,n=zAt B->KR E [.tmp 2] (λ x m=>x=iI (zAt B)/\k.qa<=m.wm) .ret [iI n] k1:=λ n h=>by
  rw[zAC];exact⟨zO ▸ trivial,by rw[h],o1.wm⟩
 cases hm:zBV B.kind with
 | false=>
  rw[xAM,ze];exact zin (fin _ (by simp[zAt,hm]))
 | true=>
 rw[xAL,zZ];refine zim ?_;rw[zAZ,zA,l1,zA,show zh E (zAc [(9,vp)]) (zA4 B97 [1,1,0,0] 2) k1=some (iI (B.prs.length:Int)) by rw[c9];exact @zW0 _ _ _ _,zA,zAK,zA];by_cases hl:200000<B.prs.length
 ·rw[xAJ (by omega),ze];exact zil (fin _ (by simp[zAt,hm,hl]))
 rw[xAI (by omega),zZ];refine zik ?_;have aX:∀ b:Bool,b=zn (zA6 B.prs) B.prs.length 0->(if b then (360:Int) else 0)=zAt B:=λ b hb=>by
  unfold zAt;rw[xDN (show ¬ zBV B.kind=false by rw[hm];simp),xDN hl,hb]
 have loop:∀(m i:Nat),i+m=B.prs.length->zn (zA6 B.prs) m i=zn (zA6 B.prs) B.prs.length 0->
   PI (C97 true) (KR E [.tmp 2] λ x m=>x=iI (zAt B)/\k.qa<=m.wm) 6 [ptr k.qa,iI (i:Int)] k1:=by
  intro m
  induction m with
  | zero=>
   intro i hi h;refine zR2 ?_;rw[zAZ,zA,l1,zA,show zh E (zAc [(14,vp)]) (zA4 B97 [1,1,1,0,1,0,0,0,0] 3) k1=some (iI (B.prs.length:Int)) by rw[c9];exact @zMu _ _ _ _,zA,zP,zA,xAI (by omega),zZ];exact zYz (fin _ (by have:=aX false h;simpa using this))
  | succ m ih=>
   intro i hi h;have ax:i<B.prs.length:=by omega
   obtain⟨p,hp⟩:∃ p,B.prs[i]?=some p:=⟨_,xAA ax⟩;obtain⟨b,o,q0,q1,q2⟩:=zoi ap o1.ext hp;have hpx:(B.prs.map zC)[i]?=some (zC p):=by rw[xBi,hp];rfl
   obtain⟨pp,w1,w2⟩:=zo7 ap o1.ext hpx;rw[q0] at w1;cases w1;refine zR2 ?_;rw[zAZ,zA,l1,zA,show zh E (zAc [(14,vp)]) (zA4 B97 [1,1,1,0,1,0,0,0,0] 3) k1=some (iI (B.prs.length:Int)) by rw[c9];exact @zMu _ _ _ _,zA,zP,zA,xAJ (by omega),ze];refine zij ?_;have yes:zA6 B.prs i=true->PI (C97 true) (KR E [.tmp 2] λ x m=>x=iI (zAt B)/\k.qa<=m.wm) 8 [] k1:=λ hb=>zii (fin _ (by
    simp only[zn,hb,xDB] at h;have:=aX true h;simpa using this))
   have no:zA6 B.prs i=false->PI (C97 true) (KR E [.tmp 2] λ x m=>x=iI (zAt B)/\k.qa<=m.wm) 9 [ptr k.qa,iI (i:Int)] k1:=λ hb=>zih (by
    rw[zk _ (zCS ax (by omega)),zA];simp only[zn,hb,xCn] at h;exact ih (i+1) (by omega) h)
   simp only[zAZ,zA,l1,q0,zD9,q1,zP];by_cases h1:p.1<0
   ·simp only[h1,xDG,zI,zS,show (true==false)=false from rfl,xAH,zA,zF,zE,xAG,zt,zv,ze];exact yes (by simp[zA6,hp,h1])
   ·simp only[h1,xCz,zI,xAO,xAG,zAZ,zA,l1,q0,zEb,q2,zP,zE,xAH];by_cases h2:p.2<0
    ·simp only[h2,xDG,zI,zS,show (true==false)=false from rfl,xAH,zA,zF,zE,xAG,zt,zv,ze];exact yes (by simp[zA6,hp,h2])
    ·simp only[h2,xCz,zI,xAO,xAG,zA,zAK,zE,xAH];by_cases h0:(0:Int)<(i:Int)
     ·obtain⟨f,hf⟩:∃ f,B.prs[i-1]?=some f:=⟨_,xAA (by omega)⟩;have lG:(B.prs.map zC)[i-1]?=some (zC f):=by rw[xBi,hf];rfl
      obtain⟨pf,w3,w4⟩:=zo7 ap o1.ext lG;have c155:=zYG (p:=f) (q:=p) o1.ext.ok;simp only[h0,xDG,zI,zS,xAO,xAG,zAZ,zA,l1,zhS (show 0<i by omega) (by omega),w3,w4,q0,w2,zM,c155,zJ,zq,zE,xAH];by_cases hc:zDH f p<0
      ·rw[xAJ hc,xAL,zZ];exact no (by simp[zA6,hp,h1,h2,hf];omega)
      ·rw[xAI hc,xAM,ze];exact yes (by simp[zA6,hp,hf];omega)
     ·simp only[h0,xCz,zI,zS,xAO,show (false==true)=false from rfl,xAG,xAH,zA,zF,zE,zZ];exact no (by simp[zA6,hp,h1,h2];omega)
 exact loop B.prs.length 0 (by omega) rfl
def inR(L M:GL)(B:GB):Bool:=B.prs.all λ p=>decide (p.1<L.n)&&decide (p.2<M.n)
def zVf(L M:GL)(B:GB):Int:=if zT L||zT M then 8 else if zAt B≠0 then zAt B else if inR L M B&&decide ((0,0)∈B.prs)&&okF L M B then 0 else 360
def znh{h:AH}{n:Int}{a1 a2 a3 a4:Option Addr}{n1 c1 n2 c2 n3 c3 n4 c4:Nat} :
  zAM E 148 (h.new (rO [iI 0,.slice none 0 0,.slice none 0 0,.slice none 0 0,.slice none 0 0] 148)) (some (ptr h.qa)) (some (.agg ⟨[iI n,.slice a1 n1 c1,.slice a2 n2 c2,.slice a3 n3 c3,.slice a4 n4 c4]⟩))=one (undef,(h.new (rO [iI 0,.slice none 0 0,.slice none 0 0,.slice none 0 0,.slice none 0 0] 148)).upd h.qa (some (rO [iI n,.slice a1 n1 c1,.slice a2 n2 c2,.slice a3 n3 c3,.slice a4 n4 c4] 148))):=by
 rw[zi (P:=E) zmo (x:=.agg ⟨[iI n,.slice a1 n1 c1,.slice a2 n2 c2,.slice a3 n3 c3,.slice a4 n4 c4]⟩) (cs:=[iI n,.slice a1 n1 c1,.slice a2 n2 c2,.slice a3 n3 c3,.slice a4 n4 c4]) (zD h _) rfl rfl (by simp) rfl];rfl
def zsK{a b:Nat}{n:Int}{x:Option Addr}{m c:Nat}:zAT E 153 (some [(0,ptr a),(1,ptr b),(2,iI n),(3,.slice x m c)])=some (.agg ⟨[ptr a,ptr b,iI n,.slice x m c,.bool false]⟩):=by kernel_rfl
def zsJ{a b:Nat}{n:Int}{x:Option Addr}{m c:Nat}:zAT E 153 (some [(0,ptr a),(1,ptr b),(2,iI n),(3,.slice x m c),(4,.bool true)])=some (.agg ⟨[ptr a,ptr b,iI n,.slice x m c,.bool true]⟩):=by kernel_rfl
def LoL.low{lo lo' bs:Nat}{h:AH}{cells:List Value}{EE:List (List Ed)}(O:LoL lo h bs cells EE)(hl:lo'<=lo):LoL lo' h bs cells EE:=
 ⟨O.s,O.len,O.lts,xCx hl O.locs,O.cell,λ i c b hc hb=>⟨(O.blk i c b hc hb).1,xCx hl (O.blk i c b hc hb).2⟩,O.dis⟩
def ztQ{k:AH}{L M:GL}{B:GB}{vl ve wl we vp:Value}(aa:k.ok)(hx:RL k (.agg ⟨[iI L.n,vl,ve]⟩) L)(hy:RL k (.agg ⟨[iI M.n,wl,we]⟩) M)(he:RB k [iI B.kind,vp] B)(fL:L.n<=900)(fM:M.n<=900)(b1:Bk k vl)(b2:Bk k ve)(b3:Bk k wl)(b4:Bk k we) :
  (zc E).call 50 [.agg ⟨[iI L.n,vl,ve]⟩,.agg ⟨[iI M.n,wl,we]⟩,.agg ⟨[iI B.kind,vp]⟩] k=some [(iI (zVf L M B),k)]:=by
 obtain⟨vl',ve',elsL,hxe,x2,x3,x4⟩:=id hx.ex;cases hxe;obtain⟨wl',we',elsM,hye,y2,y3,y4⟩:=id hy.ex;cases hye;obtain⟨vp',je,ap⟩:=id he.ex;cases je;obtain⟨pa,pc,c9⟩:=ap.slice;rw[xCY] at c9;obtain⟨xa,xb,aP⟩:=x2.slice;obtain⟨xc,xd,bJ⟩:=x4.slice;obtain⟨ya,yb,fO⟩:=y2.slice;obtain⟨yc,yd,kD⟩:=y4.slice;refine zl9 (s:=false) aa rfl (zkz ?_);obtain⟨k1,e1,n1,t1,o1,f1⟩:=nwF k (rO [iI L.n,vl,ve] 25);obtain⟨k2,e2,n2,t2,o2,f2⟩:=nw o1 (rO [iI M.n,wl,we] 25);obtain⟨k3,e3,n3,t3,o3,f3⟩:=nw o2 (rO [iI B.kind,vp] 32);simp only[zU,zF,zK,e1,e2,e3,zR];have g1:=(f3 _ (by omega)).trans ((f2 k.qa (by omega)).trans t1);have g2:=(f3 _ (by omega)).trans t2;have a1:=zN (P:=E) zBT (o:=0) g1 (by simp);have a2:=zN (P:=E) zBT (o:=0) g2 (by simp);have a3:=zN (P:=E) zD1 (o:=0) t3 (by simp);simp only[xCe,List.take] at a1 a2 a3;have fin:∀(n:Int) (g:AH),n=zVf L M B->Own k g->KR E [.tmp 6] (λ x m=>x=iI (zVf L M B)/\k.qa<=m.wm) .ret [iI n] g:=λ n g hn o=>by
  rw[zAC];exact⟨zO ▸ trivial,by rw[hn],o.wm⟩
 obtain⟨r1,fy,eI⟩:=zNV o3.ext.ok (hx.ext o3.ext);obtain⟨r2,fv,cN⟩:=zNV o3.ext.ok (hy.ext o3.ext);refine zky ?_;simp only[a1,a2,zA,zM,eI,cN,zJ,zAS];by_cases z1:r1=0;rotate_left
 ·simp only[z1,xCz,xAM,zA,zI,zS,show (true==false)=false from rfl,xAH,zF,zE,xAG,ze];have:zT L=true:=by rcases xAh (zT L) with h|h;exact h;exact absurd (fy.2 h) z1
  exact zSS (fin 8 k3 (by simp[zVf,this]) o3)
 simp only[z1,xDG,xAL,zA,zI,zS,xAO,xAG,a2,cN,zM,zJ,zAS,zE,xAH];by_cases z2:r2=0;rotate_left
 ·simp only[z2,xCz,xAM,ze];have:zT M=true:=by rcases xAh (zT M) with h|h;exact h;exact absurd (fv.2 h) z2
  exact zSS (fin 8 k3 (by simp[zVf,this]) o3)
 simp only[z2,xDG,xAL,zZ];have hL:=fy.1 z1;have hM:=fv.1 z2;refine zkx ?_;rw[a3,zA,zM,ztC o3.ext.ok (he.ext o3.ext),zJ];refine zkw ?_;rw[zAS,zA];by_cases ir:zAt B=0;rotate_left
 ·rw[xAI ir,xAM,ze];exact zkv (fin _ k3 (by simp[zVf,hL,hM,ir]) o3)
 rw[xAJ ir,xAL,zZ];refine zku ?_;have aX:zVf L M B=if inR L M B&&decide ((0,0)∈B.prs)&&okF L M B then 0 else 360:=by simp[zVf,hL,hM,ir]
 have kP:=zTB ir;obtain⟨_,iH,cP⟩:=znB ir;obtain⟨zl1,zl2,_,_⟩:=zf hL;obtain⟨zm1,zm2,_,_⟩:=zf hM;obtain⟨N,hN⟩:=xAp (show 0<=L.n by omega);obtain⟨N',hN'⟩:=xAp (show 0<=M.n by omega);have l1:zb E 26 k3 (sP k2.qa (0+1))=some vp:=zB (P:=E) zEc (o:=0+1) t3;have lL:zb E 3 k3 (sP k.qa (0+0))=some (iI L.n):=zB (P:=E) zAE (o:=0+0) g1;have lM:zb E 3 k3 (sP k1.qa (0+0))=some (iI M.n):=zB (P:=E) zAE (o:=0+0) g2;have rest:inR L M B=true->PI (C50 false) (KR E [.tmp 6] λ x m=>x=iI (zVf L M B)/\k.qa<=m.wm) 11 [ptr k.qa,ptr k1.qa,ptr k2.qa] k3:=by
  intro ai;have hInR:InR L M B.prs:=λ p hp=>by
   have h1:=xCB.1 ai p hp;simp only[xAP,xBl] at h1;have h2:=cP p hp;exact⟨⟨h2.1,h1.1⟩,h2.2,h1.2⟩
  refine zZ4 ?_;rw[zAZ,zA,l1,zA,zM,zX5 ap kP (by omega) o3.ext,zJ,zq,zA];by_cases hz:((0:Int),(0:Int))∈B.prs;rotate_left
  ·rw[xAI hz,xAM,ze];exact zZ3 (fin 360 k3 (by rw[aX];simp[hz]) o3)
  rw[xAJ hz,xAL,zZ];refine zZ2 ?_;rw[a1,zA,zM];have bk:∀ {m:AH} {v:Value},k.qa<=m.qa->Bk k v->Bk m v:=λ hn hb a n c e=>xAC (hb a n c e) hn;refine (znY o3.ext.ok (hx.ext o3.ext) rfl hL hN (by omega) (bk o3.ext.qa b1) (bk o3.ext.qa b2)).mono λ u hu=>?_;obtain⟨va,h4⟩:=u;obtain⟨⟨bs,bc,cA,hva,OA,hcA,gcA,lcA1,lcA2,neA,ncA⟩,fx4⟩:=hu;simp only at hva OA gcA fx4 lcA2 ⊢;subst hva;have o4:=fx4.own o3 (λ _ h=>h.elim);have nx4:=fx4.qa;simp only[zn8,zU,zF,zK];obtain⟨h5,e5,n5,t5,o5,f5⟩:=zho o4 (rO [iI 0,.slice none 0 0,.slice none 0 0,.slice none 0 0,.slice none 0 0] 148) (rO [iI L.n,vl,ve,.slice (some ⟨bs,0,none⟩) N N,.slice (some ⟨bc,0,none⟩) N N] 148);have hb5:zAM E 148 (h4.new (rO [iI 0,.slice none 0 0,.slice none 0 0,.slice none 0 0,.slice none 0 0] 148)) (some (ptr h4.qa)) (some (.agg ⟨[iI L.n,vl,ve,.slice (some ⟨bs,0,none⟩) N N,.slice (some ⟨bc,0,none⟩) N N]⟩))=one (undef,h5):=by
   rw[← e5,aP,bJ];exact znh
  rw[hb5,zF];refine zZ1 ?_;have p5:∀ b,b<k3.qa->h5.get b=k3.get b:=λ b hb=>(f5 b (by omega)).trans (fx4.get b hb id);have g52:=(p5 k1.qa (by omega)).trans g2;have a52:=zN (P:=E) zBT (o:=0) g52 (by simp);simp only[xCe,List.take] at a52;rw[a52,zA,zM];refine (znY o5.ext.ok (hy.ext o5.ext) rfl hM hN' (by omega) (bk o5.ext.qa b3) (bk o5.ext.qa b4)).mono λ u hu=>?_;obtain⟨vb,h6⟩:=u;obtain⟨⟨bs',bc',cB,kH,OB,hcB,gcB,lcB1,lcB2,neB,ncB⟩,fx6⟩:=hu;simp only at kH OB gcB fx6 lcB2 ⊢;subst kH;have o6:=fx6.own o5 (λ _ h=>h.elim);have nx6:=fx6.qa;simp only[zn8,zU,zF,zK];obtain⟨h7,e7,n7,t7,o7,f7⟩:=zho o6 (rO [iI 0,.slice none 0 0,.slice none 0 0,.slice none 0 0,.slice none 0 0] 148) (rO [iI M.n,wl,we,.slice (some ⟨bs',0,none⟩) N' N',.slice (some ⟨bc',0,none⟩) N' N'] 148);have hb7:zAM E 148 (h6.new (rO [iI 0,.slice none 0 0,.slice none 0 0,.slice none 0 0,.slice none 0 0] 148)) (some (ptr h6.qa)) (some (.agg ⟨[iI M.n,wl,we,.slice (some ⟨bs',0,none⟩) N' N',.slice (some ⟨bc',0,none⟩) N' N']⟩))=one (undef,h7):=by
   rw[← e7,fO,kD];exact znh
  rw[hb7,zF];refine zZ0 ?_;have p7:∀ b,b<h5.qa->h7.get b=h5.get b:=λ b hb=>(f7 b (by omega)).trans (fx6.get b hb id);have t37:=(p7 k2.qa (by omega)).trans ((p5 k2.qa (by omega)).trans t3);have l07:zb E 3 h7 (sP k2.qa (0+0))=some (iI B.kind):=zB (P:=E) zAE (o:=0+0) t37;have l17:zb E 26 h7 (sP k2.qa (0+1))=some vp:=zB (P:=E) zEc (o:=0+1) t37;rw[zDV,zA,l07,zA,zAZ,zA,l17,zA,show zAT E 153 (some [(0,ptr h4.qa),(1,ptr h6.qa),(2,iI B.kind),(3,vp)])=some (.agg ⟨[ptr h4.qa,ptr h6.qa,iI B.kind,vp,.bool false]⟩) by rw[c9];exact zsK,zA];simp only[zU,zF,zK];obtain⟨h8,e8,n8,t8,o8,f8⟩:=nw o7 (rO [ptr h4.qa,ptr h6.qa,iI B.kind,vp,.bool false] 153);rw[e8];refine zZz ?_;have t38:=(f8 k2.qa (by omega)).trans t37;have l08:zb E 3 h8 (sP k2.qa (0+0))=some (iI B.kind):=zB (P:=E) zAE (o:=0+0) t38;have l18:zb E 26 h8 (sP k2.qa (0+1))=some vp:=zB (P:=E) zEc (o:=0+1) t38;rw[zDV,zA,l08,zA,zAZ,zA,l18,zA,show zAT E 153 (some [(0,ptr h6.qa),(1,ptr h4.qa),(2,iI B.kind),(3,vp),(4,.bool true)])=some (.agg ⟨[ptr h6.qa,ptr h4.qa,iI B.kind,vp,.bool true]⟩) by rw[c9];exact zsJ,zA];simp only[zU,zF,zK];obtain⟨h9,e9,n9,t9,o9,f9⟩:=nw o8 (rO [ptr h6.qa,ptr h4.qa,iI B.kind,vp,.bool true] 153);rw[e9];refine zZy ?_;have q9:∀ b,b<h7.qa->h9.get b=h7.get b:=λ b hb=>(f9 b (by omega)).trans (f8 b (by omega));have q95:∀ b,b<h5.qa->h9.get b=h5.get b:=λ b hb=>(q9 b (by omega)).trans (p7 b hb);have hOA:=OA.locs;have hOAl:=OA.lts;have hOB:=OB.locs;have hOBl:=OB.lts;have EA:Ext h4 h9:=⟨o9.ext.ok,by omega,λ b hb=>(q95 b (by omega)).trans (f5 b hb)⟩;have EB:Ext h6 h9:=⟨o9.ext.ok,by omega,λ b hb=>(q9 b (by omega)).trans (f7 b hb)⟩;have cellA:∀(i:Nat) (c:Value) (b:Nat),cA[i]?=some c->zY c b->k3.qa<=b/\b<h4.qa:=λ i c b hc hb=>by
   obtain⟨S,hS⟩:∃ S,(outOf L)[i]?=some S:=⟨_,xAA (by rw[← OA.len];exact (xAc.1 hc).1)⟩;exact⟨(OA.blk i c b hc hb).2,(OA.cell i c S hc hS).lt hb⟩
  have cellB:∀(i:Nat) (c:Value) (b:Nat),cB[i]?=some c->zY c b->h5.qa<=b/\b<h6.qa:=λ i c b hc hb=>by
   obtain⟨S,hS⟩:∃ S,(outOf M)[i]?=some S:=⟨_,xAA (by rw[← OB.len];exact (xAc.1 hc).1)⟩;exact⟨(OB.blk i c b hc hb).2,(OB.cell i c S hc hS).lt hb⟩
  have nobr:∀(n i:Nat) (c:Value) (b:Nat),(List.replicate n (Value.slice none 0 0))[i]?=some c->¬ zY c b:=λ n i c b hc hb=>by
   rw[xAq] at hc;split at hc
   ·cases hc;obtain⟨_,_,e⟩:=hb;cases e
   ·cases hc
  have SA:Sd (λ c=>c=bc\/c=bc') k h9 h4.qa bs bc N cA (List.replicate N (.slice none 0 0)) L vl ve:=by
   refine⟨(q95 _ (by omega)).trans t5,by omega,(OA.ext EA).low (by have:=o3.ext.qa;omega),hcA,(EA.get _ lcA2).trans gcA,by omega,by have:=o3.ext.qa;omega,by simp,λ i c hc=>?_,.inl rfl,λ q hq=>by rcases hq with rfl|rfl <;> omega,λ q hq=>?_⟩
   ·rw[xAq] at hc;split at hc
    ·exact .inl (xCc hc).symm
    ·cases hc
   ·refine⟨by rcases hq with rfl|rfl <;> omega,by rcases hq with rfl|rfl <;> omega,λ i c hc hb=>?_,λ i c hc=>nobr _ i c q hc⟩;rcases hq with rfl|rfl
    ·exact ncA i c hc hb
    ·have:=(cellA i c _ hc hb).2;omega
  have SB:Sd (λ c=>c=bc\/c=bc') k h9 h6.qa bs' bc' N' cB (List.replicate N' (.slice none 0 0)) M wl we:=by
   refine⟨(q9 _ (by omega)).trans t7,by omega,(OB.ext EB).low (by have:=o5.ext.qa;omega),hcB,(EB.get _ lcB2).trans gcB,by omega,by have:=o5.ext.qa;omega,by simp,λ i c hc=>?_,.inr rfl,λ q hq=>by rcases hq with rfl|rfl <;> omega,λ q hq=>?_⟩
   ·rw[xAq] at hc;split at hc
    ·exact .inl (xCc hc).symm
    ·cases hc
   ·refine⟨by rcases hq with rfl|rfl <;> omega,by rcases hq with rfl|rfl <;> omega,λ i c hc hb=>?_,λ i c hc=>nobr _ i c q hc⟩;rcases hq with rfl|rfl
    ·have:=(cellB i c _ hc hb).1;omega
    ·exact ncB i c hc hb
  have T:Tc k h9 h4.qa h6.qa bs bc bs' bc' h7.qa h8.qa k2.qa N N' cA cB L M vl ve wl we vp B:=
   ⟨⟨_,SA⟩,⟨_,SB⟩,⟨(f9 _ (by omega)).trans t8,by omega⟩,⟨t9,by omega⟩,by omega,by omega,by omega,o9,(q95 _ (by omega)).trans ((p5 _ (by omega)).trans t3),by omega,by omega⟩
  have Y:Gv k N N' L M vl wl vp elsL elsM B:=⟨x2,x3,y2,y3,hL,hM,hN,hN',ap,kP,by omega⟩;exact zok Y hInR (λ hf g o=>fin 360 g (by rw[aX,hf];simp) o) (λ ht g o=>fin 0 g (by rw[aX,ht,ai,xAJ hz];rfl) o) B.prs.length 0 (by omega) h9 T rfl
 have hpl6:B.prs.length<=1000000:=by omega
 have loop:∀(m i:Nat),i+m=B.prs.length->inR L M B=(B.prs.drop i).all (λ p=>decide (p.1<L.n)&&decide (p.2<M.n))->PI (C50 false) (KR E [.tmp 6] λ x m=>x=iI (zVf L M B)/\k.qa<=m.wm) 7 [ptr k.qa,ptr k1.qa,ptr k2.qa,iI (i:Int)] k3:=by
  intro m
  induction m with
  | zero=>
   intro i hi h;refine zSR ?_;rw[zAZ,zA,l1,zA,show zh E (zAc [(33,vp)]) (zA4 B50 [1,1,1,0,1,0,0,0,0] 3) k3=some (iI (B.prs.length:Int)) by rw[c9];exact @zMy _ _ _ _,zA,zP,zA,xAI (by omega),zZ];rw[xAv (by omega)] at h;exact rest h
  | succ m ih=>
   intro i hi h;have ax:i<B.prs.length:=by omega
   obtain⟨p,hp⟩:∃ p,B.prs[i]?=some p:=⟨_,xAA ax⟩;obtain⟨b,o,q0,q1,q2⟩:=zoi ap o3.ext hp;have hd:(B.prs.drop i).all (λ p=>decide (p.1<L.n)&&decide (p.2<M.n))=((decide (p.1<L.n)&&decide (p.2<M.n))&&(B.prs.drop (i+1)).all (λ p=>decide (p.1<L.n)&&decide (p.2<M.n))):=by
    rw[xAZ ax,xCj,show B.prs[i]=p from (xAc.1 hp).2]
   rw[hd] at h;refine zSR ?_;rw[zAZ,zA,l1,zA,show zh E (zAc [(33,vp)]) (zA4 B50 [1,1,1,0,1,0,0,0,0] 3) k3=some (iI (B.prs.length:Int)) by rw[c9];exact @zMy _ _ _ _,zA,zP,zA,xAJ (by omega),ze];refine zkt ?_;simp only[zAZ,zAP,zA,l1,lL,q0,zD9,q1,zBY];by_cases h1:L.n<=p.1
   ·simp only[h1,xDG,zI,zS,show (true==false)=false from rfl,xAH,zA,zF,zE,xAG,ze];exact zSQ (fin 360 k3 (by rw[aX,h,xAI (show ¬ p.1<L.n by omega)];simp) o3)
   ·simp only[h1,xCz,zI,zS,xAO,xAG,zA,zAZ,zAP,l1,lM,q0,zEb,q2,zBY,zE,xAH];by_cases h2:M.n<=p.2
    ·simp only[h2,xDG,ze];exact zSQ (fin 360 k3 (by rw[aX,h,xAI (show ¬ p.2<M.n by omega)];simp) o3)
    ·simp only[h2,xCz,zZ];refine zZ5 ?_;rw[zk _ (zCS ax (by omega)),zA];refine ih (i+1) (by omega) ?_;rw[h,xAJ (show p.1<L.n by omega),xAJ (show p.2<M.n by omega)];rfl
 exact loop B.prs.length 0 (by omega) rfl
end Go.Proofs
namespace Go.Proofs
open Go Go.AM
def zWN{M:GL}(hM:zT M=false){t:Int}(ht:0<=t/\t<M.n){u:Int}:u∈zBS M [t] ↔ Sil M t u:=by
 have hr:Rg M [t]:=λ v hv=>by rw[xBV.1 hv];exact ht
 obtain⟨_,_,b,d,e⟩:=zJC hM (by simp) hr;constructor
 ·exact λ h=>e (Sil M t) (λ u c v h1 h2 h3=>.step h1 h2 h3) (λ v hv=>by rw[xBV.1 hv];exact .refl) u h
 ·exact λ h=>h.clo b (d t (by simp))
def zMa{M L:GL}{x y:Ed}{c:CL}(hc:L.labs[x.2.1.toNat]?=some c):zWS M L y x=true ↔ M.labs[y.2.1.toNat]?=some c:=by
 unfold zWS;rw[hc];cases hm:M.labs[y.2.1.toNat]? with
 | none=>simp
 | some d=>
  simp only[xBl,xAN];rw[zFQ];exact⟨zhs,λ h=>by rw[h,zH4]⟩
def zLN{M L:GL}(hM:zT M=false){R:Int->Int->Bool}{x:Ed}{c:CL}(hc:L.labs[x.2.1.toNat]?=some c){u:Int}(hu:0<=u/\u<M.n):(zBy M u).any (zGr M L R x)=true ↔ ∃ t',stp M u c t'/\R x.2.2 t'=true:=by
 rw[xCK];constructor
 ·rintro⟨y,hy,h⟩;unfold zGr at h;rw[xAP,zMa hc] at h;obtain⟨h3,h4⟩:=(zFC hM hu).1 hy;exact⟨y.2.2,⟨y,h3,h4,h.1,rfl⟩,h.2⟩
 ·rintro⟨t',⟨y,h3,h4,h5,rfl⟩,h6⟩;refine⟨y,(zFC hM hu).2 ⟨h3,h4⟩,?_⟩;unfold zGr;rw[xAP,zMa hc];exact⟨h5,h6⟩
def zYk{kind:Int}{L M:GL}(hM:zT M=false)(hk:kind=1\/kind=2){R:Int->Int->Bool}{s t:Int}(ht:0<=t/\t<M.n){x:Ed}{c:CL}(hc:L.labs[x.2.1.toNat]?=some c) :
  zJo kind L M R s t x=true ↔ if kind=1 then ∃ t',stp M t c t'/\R x.2.2 t'=true else ∃ u,Sil M t u/\R s u=true/\((c.1=-1/\R x.2.2 u=true)\/∃ t',stp M u c t'/\R x.2.2 t'=true):=by
 have ai:inE L x=decide (c.1=-1):=by unfold inE;rw[hc]
 unfold zJo zLj;rcases hk with rfl|rfl
 ·rw[xDN (by omega),xDO rfl];simp only[List.any_cons,List.any_nil,Bool.or_false,atF,show decide ((1:Int)=2)=false from rfl,xAM,xDB,xCk,xCf,xCn];exact zLN hM hc ht
 ·rw[xDO rfl,xDN (by omega),xCK];simp only[atF,xDG,xAL,xCn,xCk,ai];constructor
  ·rintro⟨u,hu,h⟩;have hs:=(zWN hM ht).1 hu;rw[xAP,xCZ,xAP,xBl,zLN hM hc (hs.rng hM ht)] at h;exact⟨u,hs,h.1,h.2⟩
  ·rintro⟨u,hs,h1,h2⟩;refine⟨u,(zWN hM ht).2 hs,?_⟩;rw[xAP,xCZ,xAP,xBl,zLN hM hc (hs.rng hM ht)];exact⟨h1,h2⟩
def zLk{kind:Int}{L M:GL}(hL:zT L=false)(hM:zT M=false)(hk:kind=1\/kind=2){R:List (Int×Int)}(hr:InR L M R){R':Int->Int->Bool}(hR:∀ a b,R' a b=true ↔ (a,b)∈R) :
  (∀ p∈R,∀ x∈zBy L p.1,zJo kind L M R' p.1 p.2 x=true) ↔ Fol kind L M R:=by
 constructor
 ·rintro h s t c s' af ⟨x,h3,h4,h5,rfl⟩;obtain⟨r1,r2⟩:=hr _ af;have:=(zYk hM hk r2 h5).1 (h _ af x ((zFC hL r1).2 ⟨h3,h4⟩));split at this
  ·rename_i dI;rw[xDO dI];obtain⟨t',a,b⟩:=this;exact⟨t',a,(hR _ _).1 b⟩
  ·rename_i dI;rw[xDN dI];obtain⟨u,a,b,d⟩:=this;exact⟨u,a,(hR _ _).1 b,d.imp (λ h=>⟨h.1,(hR _ _).1 h.2⟩) λ ⟨t',e,f⟩=>⟨t',e,(hR _ _).1 f⟩⟩
 ·rintro h ⟨s,t⟩ af x hx;obtain⟨r1,r2⟩:=hr _ af;obtain⟨h3,h4⟩:=(zFC hL r1).1 hx;obtain⟨j,hj⟩:=xBN h3;obtain⟨_,_,d3,d4⟩:=zA1 hL hj;obtain⟨c,hc⟩:∃ c,L.labs[x.2.1.toNat]?=some c:=⟨_,xAA (by omega)⟩;rw[zYk hM hk r2 hc];have:=h s t c x.2.2 af ⟨x,h3,h4,hc,rfl⟩;split
  ·rename_i dI;rw[xDO dI] at this;obtain⟨t',a,b⟩:=this;exact⟨t',a,(hR _ _).2 b⟩
  ·rename_i dI;rw[xDN dI] at this;obtain⟨u,a,b,d⟩:=this;exact⟨u,a,(hR _ _).2 b,d.imp (λ h=>⟨h.1,(hR _ _).2 h.2⟩) λ ⟨t',e,f⟩=>⟨t',e,(hR _ _).2 f⟩⟩
def zWX(L M:GL)(B:GB):zVf L M B=zJD L M B:=by
 unfold zVf zJD;cases hb:(zT L||zT M) with
 | true=>rfl
 | false=>
  obtain⟨hL,hM⟩:=xBJ.1 hb;simp only[xBX,xDI];by_cases hl:zAt B=0
  ·simp only[hl,ne_eq,not_true,xDI];obtain⟨hk,cP⟩:=zsE hl;have key:(inR L M B&&decide ((0,0)∈B.prs)&&okF L M B)=zVe L M B:=by
    rw[xCT];constructor
    ·intro h;simp only[xAP,xBl] at h;obtain⟨⟨h1,h2⟩,h3⟩:=h;have hr:InR L M B.prs:=λ p hp=>by
      have h1:=xCB.1 h1 p hp;simp only[xAP,xBl] at h1;exact⟨⟨(cP p hp).1,h1.1⟩,(cP p hp).2,h1.2⟩
     have h3:=xCB.1 h3;obtain⟨kd,R⟩:=B;refine (zWV hL hM hr).2 ⟨h2,(zLk hL hM hk hr (R':=rB false R) (λ a b=>by simp[rB])).1 λ p hp x hx=>?_,(zLk hM hL hk hr.swap (R':=rB true R) (λ a b=>by rw[zQn];simp[rB])).1 λ p hp x hx=>?_⟩
     ·have:=h3 p hp;rw[xAP] at this;exact xCB.1 this.1 x hx
     ·obtain⟨q,hq,rfl⟩:=xCv.1 hp;have:=h3 q hq;rw[xAP] at this;exact xCB.1 this.2 x hx
    ·intro h;have hr:InR L M B.prs:=by
      have h':=h;unfold zVe at h';rw[zI1] at h';simp only[zoe,xAP,xCB,xBl,inB] at h';exact λ p hp=>⟨⟨(cP p hp).1,(h'.1 p hp).1⟩,(cP p hp).2,(h'.1 p hp).2⟩
     obtain⟨kd,R⟩:=B;obtain⟨h0,h1,h2⟩:=(zWV hL hM hr).1 h;simp only[xAP,xBl];refine⟨⟨xCB.2 λ p hp=>?_,h0⟩,xCB.2 λ p hp=>?_⟩
     ·simp only[xAP,xBl];exact⟨(hr p hp).1.2,(hr p hp).2.2⟩
     ·rw[xAP];refine⟨xCB.2 λ x hx=>(zLk hL hM hk hr (R':=rB false R) (λ a b=>by simp[rB])).2 h1 p hp x hx,xCB.2 λ x hx=>?_⟩;exact (zLk hM hL hk hr.swap (R':=rB true R) (λ a b=>by rw[zQn];simp[rB])).2 h2 (zB9 p) (xCv.2 ⟨p,hp,rfl⟩) x hx
   rw[key]
  ·rw[xDO hl,xDO hl]
end Go.Proofs
namespace Go.Proofs
open Go Go.AM
def zYM{k:AH}{x y v:Value}{L M:GL}{kind:Int}{cl:List Int}(aa:k.ok)(hx:RL k x L)(hy:RL k y M)(hc:Arr k 1 v (cl.map i1))(an:cl.length<=9223372036854775807) :
  (zc E).call 101 [iI kind,x,y,v] k=some [(iI (zCR kind L M cl),k)]:=by
 obtain⟨vl,ve,elsL,rfl,x2,x3,x4⟩:=id hx.ex;obtain⟨wl,we,elsM,rfl,y2,y3,y4⟩:=id hy.ex;obtain⟨ca,cc,hv⟩:=hc.slice;rw[xCY] at hv;refine zgq (s:=true) aa rfl (zfh ?_);obtain⟨k1,e1,n1,t1,o1,f1⟩:=nwF k (rO [iI L.n,vl,ve] 25);obtain⟨k2,e2,n2,t2,o2,f2⟩:=nw o1 (rO [iI M.n,wl,we] 25);simp only[zU,zF,zK,e1,e2,zR];have g1:=(f2 k.qa (by omega)).trans t1;have a1:=zN (P:=E) zBT (o:=0) g1 (by simp);have a2:=zN (P:=E) zBT (o:=0) t2 (by simp);simp only[xCe,List.take] at a1 a2;have fin:∀ n:Int,n=zCR kind L M cl->KR E [.tmp 4] (λ x m=>x=iI (zCR kind L M cl)/\k.qa<=m.wm) .ret [iI n] k2:=λ n h=>by
  rw[zAC];exact⟨zO ▸ trivial,by rw[h],o2.wm⟩
 obtain⟨r1,fy,eI⟩:=zNV o2.ext.ok (hx.ext o2.ext);obtain⟨r2,fv,cN⟩:=zNV o2.ext.ok (hy.ext o2.ext);refine zfg ?_;simp only[a1,a2,zA,zM,eI,cN,zJ,zAS];by_cases z1:r1=0;rotate_left
 ·simp only[z1,xCz,xAM,zA,zI,zS,show (true==false)=false from rfl,xAH,zF,zE,xAG,ze];have:zT L=true:=by rcases xAh (zT L) with h|h;exact h;exact absurd (fy.2 h) z1
  exact zOi (fin 8 (by simp[zCR,this]))
 simp only[z1,xDG,xAL,zA,zI,zS,xAO,xAG,a2,cN,zM,zJ,zAS,zE,xAH];by_cases z2:r2=0;rotate_left
 ·simp only[z2,xCz,xAM,ze];have:zT M=true:=by rcases xAh (zT M) with h|h;exact h;exact absurd (fv.2 h) z2
  exact zOi (fin 8 (by simp[zCR,this]))
 simp only[z2,xDG,xAL,zZ];have hL:=fy.1 z1;have hM:=fv.1 z2;obtain⟨zl1,zl2,_,_⟩:=zf hL;obtain⟨zm1,zm2,_,_⟩:=zf hM;refine zff ?_;rw[zM,zQL o2.ext.ok,zJ,zq,zA];cases hm:zBV kind with
 | false=>rw[xAM,ze];exact zfe (fin 361 (by simp[zCR,hL,hM,hm]))
 | true=>
 rw[xAL,zZ];refine zfd ?_;have lL:zb E 3 k2 (sP k.qa (0+0))=some (iI L.n):=zB (P:=E) zAE (o:=0+0) g1;have lM:zb E 3 k2 (sP k1.qa (0+0))=some (iI M.n):=zB (P:=E) zAE (o:=0+0) t2;rw[show zh E (zAc [(21,v)]) (zA4 zLD [1,1,1,0,0] 1) k2=some (iI (cl.length:Int)) by rw[hv];exact @zTl _ _ _ _,zA,zAP,zA,lL,zA,zAP,zA,lM,zA,zk _ ⟨by omega,by omega⟩,zA,zAS,zA];by_cases hn:(cl.length:Int)=L.n+M.n;rotate_left
 ·rw[xAI hn,xAM,ze];exact zfc (fin 1 (by simp[zCR,hL,hM,hm,hn]))
 rw[xAJ hn,xAL,zZ];refine zfb ?_;have aX:∀ b:Bool,b=zn (zDd cl) cl.length 0->(if b then (1:Int) else 0)=zCR kind L M cl:=λ b hb=>by simp[zCR,hL,hM,hm,hn,← hb]
 have loop:∀(m i:Nat),i+m=cl.length->zn (zDd cl) m i=zn (zDd cl) cl.length 0->PI (zO3 true) (KR E [.tmp 4] λ x m=>x=iI (zCR kind L M cl)/\k.qa<=m.wm) 8 [v,iI (i:Int)] k2:=by
  intro m
  induction m with
  | zero=>
   intro i hi h;refine zOh ?_;rw[show zh E (zAc [(30,v)]) (zA4 zLD [1,1,1,1,0,1,0,0,0,0] 2) k2=some (iI (cl.length:Int)) by rw[hv];exact @zKX _ _ _ _,zA,zP,zA,xAI (by omega),zZ];exact zUy (fin 0 (by have:=aX false h;simpa using this))
  | succ m ih=>
   intro i hi h;have ax:i<cl.length:=by omega
   obtain⟨c,gI⟩:∃ c,cl[i]?=some c:=⟨_,xAA ax⟩;obtain⟨p,q1,q2⟩:=zCc hc o2.ext gI;have hb:zDd cl i=zVm c:=by unfold zDd;rw[gI]
   refine zOh ?_;rw[show zh E (zAc [(30,v)]) (zA4 zLD [1,1,1,1,0,1,0,0,0,0] 2) k2=some (iI (cl.length:Int)) by rw[hv];exact @zKX _ _ _ _,zA,zP,zA,xAJ (by omega),ze];refine zfa ?_;have yes:zVm c=true->PI (zO3 true) (KR E [.tmp 4] λ x m=>x=iI (zCR kind L M cl)/\k.qa<=m.wm) 10 [] k2:=λ hq=>zU0 (fin 1 (by
    simp only[zn,hb,hq,xDB] at h;have:=aX true h;simpa using this))
   simp only[q1,q2,zA,zP];by_cases h1:c<0
   ·simp only[h1,xDG,zI,show (true==false)=false from rfl,xAH,zA,zE,xAG,ze];exact yes (by simp[zVm,h1])
   ·simp only[h1,xCz,zI,xAO,xAG,zA,q1,q2,zAK,zE,xAH];by_cases h2:40000<c
    ·simp only[h2,xDG,ze];exact yes (by simp[zVm,h2])
    ·simp only[h2,xCz,zZ];refine zUz ?_;rw[zk _ (zCS ax an),zA];simp only[zn,hb,show zVm c=false by simp[zVm,h1,h2],xCn] at h;exact ih (i+1) (by omega) h
 exact loop cl.length 0 (by omega) rfl
abbrev CA:=CL×Int
def RArc(h0:AH)(u:List Value)(a:CA):Prop:=∃ v,u=[iI a.1.1,v,iI a.2]/\RT h0 v a.1.2
def RArcs(h0:AH)(S:List (List Value))(R:List CA):Prop:=S.length=R.length/\∀(j:Nat) (u:List Value),S[j]?=some u->∃ a,R[j]?=some a/\RArc h0 u a
def RArcs.len3{h0:AH}{S:List (List Value)}{R:List CA}(h:RArcs h0 S R):∀ u∈S,u.length=3:=by
 intro u hu;obtain⟨j,hj⟩:=xBN hu;obtain⟨a,_,v,rfl,_⟩:=h.2 j u hj;rfl
def RArcs.snoc{h0:AH}{S:List (List Value)}{R:List CA}{u:List Value}{a:CA}(h:RArcs h0 S R)(hu:RArc h0 u a):RArcs h0 (S++[u]) (R++[a]):=by
 refine⟨by simp[h.1],λ j w hw=>?_⟩;rcases xCq j S.length with hj|hj
 ·rw[xAb hj] at hw;rw[xAb (by have:=h.1;omega)];exact h.2 j w hw
 ·rw[xAX hj] at hw;rw[xAX (by have:=h.1;omega)];cases dC:j-S.length with
  | zero=>
   rw[dC] at hw;cases hw;exact⟨a,by rw[show j-R.length=0 by have:=h.1;omega];rfl,hu⟩
  | succ n=>rw[dC] at hw;simp at hw
def RArcs.nil{h0:AH}:RArcs h0 [] []:=⟨rfl,λ j u h=>by simp at h⟩
def CellT(ty:Nat)(h0 h:AH)(c:Value)(R:List CA):Prop:=(c=.slice none 0 0/\R=[])\/∃ b S,c=.slice (some ⟨b,0,none⟩) R.length (UNK+3)/\h.get b=some (.row S.flatten ty 3 false)/\b<h.qa/\RArcs h0 S R
abbrev zvA:=CellT 214
structure LoA(h0:AH)(loc:Nat)(h:AH)(bs:Nat)(cells:List Value)(EE:List (List CA)):Prop where
 s:h.get bs=some (rO cells 212)
 len:cells.length=EE.length
 lts:bs<h.qa
 locs:loc<=bs
 cell:∀(i:Nat) (c:Value) (S:List CA),cells[i]?=some c->EE[i]?=some S->zvA h0 h c S
 blk:∀(i:Nat) (c:Value) (b:Nat),cells[i]?=some c->zY c b->b≠bs/\loc<=b
 dis:∀(i j:Nat) (c d:Value) (b:Nat),cells[i]?=some c->cells[j]?=some d->zY c b->zY d b->i=j
section
variable {ty:Nat} {h0 h h':AH} {c:Value} {R:List CA} {P:Nat->Prop}
def CellT.lt(k:CellT ty h0 h c R){b:Nat}(hb:zY c b):b<h.qa:=by
 obtain⟨n,cap,rfl⟩:=hb;rcases k with ⟨e,_⟩|⟨b',S,e,_,ab,_⟩
 ·cases e
 ·simp only[xBu,xAN,xCo] at e;rw[e.1.1];exact ab
def CellT.fx(k:CellT ty h0 h c R)(f:Fx P h h')(hn:∀ b,zY c b->¬ P b):CellT ty h0 h' c R:=by
 rcases k with e|⟨b,S,e,hg,ab,hr⟩
 ·exact .inl e
 ·exact .inr ⟨b,S,e,(f.get b ab (hn b ⟨_,_,e⟩)).trans hg,xAC ab f.qa,hr⟩
def CellT.leaf(k:CellT ty h0 h c R):zl c=true/\zd c=[c]/\veq 100 c c=true:=by
 rcases k with ⟨rfl,_⟩|⟨b,S,rfl,_⟩ <;> exact⟨rfl,rfl,zAw _ _ _ _⟩
def CellT.arr(k:CellT ty h0 h c R):∃ S,Arr h 3 c S/\RArcs h0 S R:=by
 rcases k with ⟨rfl,rfl⟩|⟨b,S,rfl,hg,ab,hr⟩
 ·exact⟨[],.nil _ _,.nil⟩
 ·have h3:=hr.len3;have:=Arr.row (z:=3) (c:=UNK+3) (o:=0) (els:=S) hg ab (by rw[zGS S h3];omega) (λ i e he=>⟨h3 e (xBI he),by rw[xAK];exact zIB _ h3 i e he⟩);rw[hr.1] at this;exact⟨S,this,hr⟩
def zs2:Elt 212 214 3:=zGd zpQ zV2 zmq (by kernel_rfl)
def zwj{n:Nat}(hn:n<=1000000){h:AH}:zAG E 155 (some (iI (n:Int))) (some (iI (n:Int))) h=one (.slice (some ⟨h.qa,0,none⟩) n n,h.new (.row (List.replicate n (.slice none 0 0)) 212 0 false)):=
 zGz (by obtain⟨i,a⟩:=zSr zJv zv1 (by kernel_rfl);exact⟨i,zpS,a⟩) rfl hn
def ztY{a b c:Value}{h:AH}:zg E 212 1 (some [(0,.agg ⟨[a,b,c]⟩)]) h=one (.slice (some ⟨h.qa,0,none⟩) 1 1,h.new (rO [a,b,c] 214)):=by kernel_rfl
def zsG{g t:Int}{a:Option Addr}{n c:Nat}:zAT E 214 (some [(0,.agg ⟨[iI g,.slice a n c]⟩),(1,iI t)])=some (.agg ⟨[iI g,.slice a n c,iI t]⟩):=by kernel_rfl
def RArc.leaf{u:List Value}{a:CA}(hu:RArc h0 u a):u.all zl=true/\u.length=3:=by
 obtain⟨v,rfl,hr⟩:=hu;obtain⟨x,y,rfl⟩:=hr.slice;exact⟨rfl,rfl⟩
def zYj{T:Nat}(H:Elt T ty 3)(aa:h.ok)(hC:CellT ty h0 h c R){u:List Value}{a:CA}(hu:RArc h0 u a)(hS:R.length+1<=1000000) :
  ∃ h3,zy E .append [T,T] (some [c,.slice (some ⟨h.qa,0,none⟩) 1 1]) (h.new (rO u ty))=one (.slice (some ⟨h.qa+1,0,none⟩) (R.length+1) (UNK+3),h3) ∧
   CellT ty h0 h3 (.slice (some ⟨h.qa+1,0,none⟩) (R.length+1) (UNK+3)) (R++[a])/\h3.qa=h.qa+2/\Fx (λ x=>zY c x) h h3:=by
 obtain⟨ulf,ul3⟩:=hu.leaf;have aw:=zD h (rO u ty);rcases hC with ⟨rfl,rfl⟩|⟨bl,S,rfl,hg,ab,hr⟩
 ·refine⟨_,append_nil H aw ul3,.inr ⟨h.qa+1,[u],rfl,?_,by show _<h.qa+1+1;omega,by simpa using RArcs.nil.snoc hu⟩,rfl,((Fx.refl aa).new _).new _⟩;rw[List.flatten_singleton];exact zD (h.new _) _
 ·have dy:(h.new (rO u ty)).get bl=some (.row S.flatten ty 3 false):=by rw[zG (by omega)];exact hg
  have hl:=zGS S hr.len3;rw[hr.1] at hl;refine⟨_,zB8 H (by omega) dy hl hS aw ul3 ulf,.inr ⟨h.qa+1,S++[u],by simp,?_,by show _<h.qa+1+1;omega,hr.snoc hu⟩,rfl,?_⟩
  ·rw[List.flatten_append,List.flatten_singleton];exact zD ((h.new _).upd bl none) _
  ·have f1:Fx (λ x=>zY (.slice (some ⟨bl,0,none⟩) R.length (UNK+3)) x) h (h.new (rO u ty)):=(Fx.refl aa).new _;exact (f1.upd (.inl ⟨_,_,rfl⟩) none).new _
end
section
variable {h0 h:AH} {loc bs N:Nat} {cells:List Value} {rows:List (List CA)}
def zWd(G:LoA h0 loc h bs cells rows)(hN:cells.length=N)(aa:h.ok){fr:Nat}(bI:fr<N){u:List Value}{a:CA}(hu:RArc h0 u a){R:List CA}(hR:rows[fr]?=some R)(hS:R.length+1<=1000000) :
  ∃ c v' h3 h4 cells',veq 100 c c=true
   ∧ zV E 155 (some (.slice (some ⟨bs,0,none⟩) N N)) (some (iI (fr:Int)))=some (.pointer (some ⟨bs,fr,none⟩))
   ∧ zb E 212 h (some (.pointer (some ⟨bs,fr,none⟩)))=some c
   ∧ zb E 212 (h.new (rO u 214)) (some (.pointer (some ⟨bs,fr,none⟩)))=some c
   ∧ zy E .append [212,212] (some [c,.slice (some ⟨h.qa,0,none⟩) 1 1]) (h.new (rO u 214))=one (v',h3)
   ∧ Fx (λ x=>zY c x) h h3
   ∧ zAM E 212 h3 (some (.pointer (some ⟨bs,fr,none⟩))) (some v')=one (undef,h4)
   ∧ LoA h0 loc h4 bs cells' (rows.set fr (R++[a]))/\cells'.length=N
   ∧ Fx (λ x=>x=bs\/zY c x) h h4
   ∧ ∀ b,zY c b->b≠bs/\loc<=b/\b<h.qa:=by
 subst hN;have ac:cells[fr]?=some cells[fr]:=xAA bI;have dS:fr<rows.length:=by rw[← G.len];exact bI
 have hC:=G.cell fr _ _ ac hR;obtain⟨clf,cc1,cveq⟩:=hC.leaf;have ba:∀ b,zY cells[fr] b->b≠bs/\loc<=b/\b<h.qa:=λ b hb=>⟨(G.blk fr _ b ac hb).1,(G.blk fr _ b ac hb).2,hC.lt hb⟩;have ia1:=znK (b:=bs) (o:=0) (c:=cells.length) (len:=cells.length) (k:=fr) bI;rw[show 0+fr*1=fr by omega] at ia1;have l1:=zB (P:=E) zJv (o:=fr) G.s;rw[zAI,ac] at l1;have f0:Fx NoB h (h.new (rO u 214)):=(Fx.refl aa).new _;have l2:=zB (P:=E) zJv (o:=fr) ((f0.get bs G.lts id).trans G.s);rw[zAI,ac] at l2;obtain⟨h3,r1,r2,r3,r4⟩:=zYj zs2 aa hC hu hS;have kR:h3.get bs=_:=(r4.get bs G.lts (λ hx=>(ba _ hx).1 rfl)).trans G.s;have dh:=zi (P:=E) zrh (o:=fr) kR (zFr (some ⟨h.qa+1,0,none⟩) (R.length+1) (UNK+3)) rfl (by omega) rfl;rw[zFL _ _ _ bI] at dh;have f5:Fx (λ c=>c=bs\/zY cells[fr] c) h (h3.upd bs (some (.row (cells.set fr (.slice (some ⟨h.qa+1,0,none⟩) (R.length+1) (UNK+3))) 212 0 false))):=
  (r4.mono (P':=λ c=>c=bs\/zY cells[fr] c) (λ c hc=>.inl (.inr hc))).upd (.inl (.inl rfl)) _
 have aQ:∀(i:Nat) (c:Value),(cells.set fr (.slice (some ⟨h.qa+1,0,none⟩) (R.length+1) (UNK+3)))[i]?=some c->(i=fr/\c=.slice (some ⟨h.qa+1,0,none⟩) (R.length+1) (UNK+3))\/(i≠fr/\cells[i]?=some c):=by
  intro i c hc;by_cases hi:i=fr
  ·subst hi;rw[xAt bI] at hc;exact .inl ⟨rfl,(xCc hc).symm⟩
  ·rw[xBM (λ h=>hi h.symm)] at hc;exact .inr ⟨hi,hc⟩
 have bi:∀ b,zY (.slice (some ⟨h.qa+1,0,none⟩) (R.length+1) (UNK+3)) b->b=h.qa+1:=by
  rintro b ⟨n,cap,h⟩;simp only[xBu,xAN,xCo] at h;exact h.1.1.symm
 have dB:∀(i:Nat) (c:Value) (b:Nat),cells[i]?=some c->zY c b->b<h.qa:=λ i c b hc hb=>by
  have hi:i<rows.length:=by rw[← G.len];exact (xAc.1 hc).1
  exact (G.cell i c _ hc (xAA hi)).lt hb
 have kY:=G.lts;refine⟨cells[fr],_,h3,_,cells.set fr (.slice (some ⟨h.qa+1,0,none⟩) (R.length+1) (UNK+3)),cveq,ia1,l1,l2,r1,r4,dh,?_,by simp,f5,ba⟩;refine⟨zH _ _ _,by simp[G.len],by show bs<h3.qa;omega,G.locs,?_,?_,?_⟩
 ·intro i c S hc hS;rcases aQ i c hc with ⟨rfl,rfl⟩|⟨hi,am⟩
  ·rw[xAt dS] at hS;cases hS;exact r2.fx (P:=λ b=>b=bs) (Fx.upd (P:=λ b=>b=bs) (Fx.refl r4.ok) (.inl rfl) _) λ b hb he=>by rw[bi b hb] at he;omega
  ·rw[xBM (λ h=>hi h.symm)] at hS;refine (G.cell i c S am hS).fx f5 (λ b hb=>?_);rintro (rfl|aN)
   ·exact (G.blk i c _ am hb).1 rfl
   ·exact hi (G.dis i fr _ _ b am ac hb aN)
 ·intro i c b hc hb;rcases aQ i c hc with ⟨rfl,rfl⟩|⟨hi,am⟩
  ·rw[bi b hb];have:=G.locs;exact⟨by omega,by omega⟩
  ·exact G.blk i c b am hb
 ·intro i j' c d b hc hd hb aN;rcases aQ i c hc with ⟨hi,am⟩|⟨hi,am⟩ <;> rcases aQ j' d hd with ⟨dC,fF⟩|⟨dC,fF⟩
  ·rw[hi,dC]
  ·subst am;have:=dB j' d b fF aN;rw[bi b hb] at this;omega
  ·subst fF;have:=dB i c b am hb;rw[bi b aN] at this;omega
  ·exact G.dis i j' c d b am fF hb aN
def LoA.fx{P:Nat->Prop}{h':AH}(G:LoA h0 loc h bs cells rows)(f:Fx P h h')(h2:¬ P bs)(h3:∀(i:Nat) (c:Value) (b:Nat),cells[i]?=some c->zY c b->¬ P b):LoA h0 loc h' bs cells rows:=
 ⟨(f.get bs G.lts h2).trans G.s,G.len,xAC G.lts f.qa,G.locs,λ i c S hc hS=>(G.cell i c S hc hS).fx f (λ b hb=>h3 i c b hc hb),G.blk,G.dis⟩
def LoA.nb{h':AH}(G:LoA h0 loc h bs cells rows)(f:Fx NoB h h'):LoA h0 loc h' bs cells rows:=G.fx f (λ h=>h) (λ _ _ _ _ _ h=>h)
def LoA.same(G:LoA h0 loc h bs cells rows)(w:Nat):LoA h0 loc ⟨h.t,h.qa,w⟩ bs cells rows:=
 ⟨G.s,G.len,G.lts,G.locs,λ i c S hc hS=>G.cell i c S hc hS,G.blk,G.dis⟩
end
def jGo:List (List CA)->List (Nat×CA)->List (List CA)
 | EE,[]=>EE
 | EE,(f,a)::l=>jGo (EE.set f ((EE[f]?.getD [])++[a])) l
def zMD(d:Int)(L:GL)(e:Ed):Nat×CA:=((d+e.1).toNat,(L.labs[e.2.1.toNat]?.getD (0,[]),d+e.2.2))
def zL4(L M:GL):List (Nat×CA):=L.eds.map (zMD 0 L)++M.eds.map (zMD L.n M)
def jOf(L M:GL):List (List CA):=jGo (List.replicate (L.n+M.n).toNat []) (zL4 L M)
def zXU:∀(l l':List (Nat×CA)) (EE:List (List CA)),jGo EE (l++l')=jGo (jGo EE l) l'
 | [],_,_=>rfl
 | (f,a)::l,l',EE=>zXU l l' _
def zXT:∀(l:List (Nat×CA)) (EE:List (List CA)),(jGo EE l).length=EE.length
 | [],_=>rfl
 | (f,a)::l,EE=>by rw[jGo,zXT l];simp
def zM2:∀(l:List (Nat×CA)) (EE:List (List CA)) (i:Nat),((jGo EE l)[i]?.getD []).length<=(EE[i]?.getD []).length+l.length
 | [],EE,i=>by simp[jGo]
 | (f,a)::l,EE,i=>by
  rw[jGo];refine xCx (zM2 l _ i) ?_;by_cases hi:f=i
  ·subst hi;rcases xCq f EE.length with h|h
   ·rw[xAt h];simp;omega
   ·rw[xAx (by simpa using h)];simp;omega
  ·rw[xBM hi];simp
def zXS{a:CA}{i:Nat}:∀(l:List (Nat×CA)) (EE:List (List CA)),(∀ x∈l,x.1<EE.length)->(a∈(jGo EE l)[i]?.getD [] ↔ a∈EE[i]?.getD []\/(i,a)∈l)
 | [],EE,_=>by simp[jGo]
 | (f,b)::l,EE,h=>by
  have hf:=h _ xBZ;rw[jGo,zXS l _ (λ x hx=>by rw[List.length_set];exact h x (xBG _ hx))];by_cases hi:f=i
  ·subst hi;rw[xAt hf];simp only[xCH,xCU,xAQ,xCN,xDK,xCl,xDJ,or_assoc]
  ·rw[xBM hi];simp only[xAQ,xCl,show ¬ (i=f) from λ h=>hi h.symm,false_and,false_or]
end Go.Proofs
