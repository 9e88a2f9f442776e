import Derived.Test.YthmnhjcmefjgjaaGreatDoorXAK
import Derived.Test.YthmnhjcmefjgjaaGreatDoorXAI
import Derived.Test.YthmnhjcmefjgjaaGreatDoorXAE
import Derived.Test.YthmnhjcmefjgjaaGreatDoorXAH
import Derived.Test.YthmnhjcmefjgjaaGreatDoorXAJ
import Derived.Test.YthmnhjcmefjgjaaGreatDoorXAG
set_option linter.all false
set_option linter.unusedSectionVars false
set_option autoImplicit true
set_option relaxedAutoImplicit true
set_option maxRecDepth 100000
set_option maxHeartbeats 1000000
namespace Go.Proofs
open Go Go.AM
section
variable {k:AH} {x y v:Value} {L M:GL} {kind:Int} {cl:List Int}
def zvN(hz:zCR kind L M cl=0):zT L=false/\zT M=false/\(kind=1\/kind=2)/\(cl.length:Int)=L.n+M.n/\∀ c∈cl,0<=c/\c<=40000:=by
 unfold zCR at hz;cases hb:(zT L||zT M) with
 | true=>rw[hb] at hz;simp at hz
 | false=>
  rw[hb] at hz;obtain⟨h1,h2⟩:=xBJ.1 hb;cases hm:zBV kind with
  | false=>rw[hm] at hz;simp at hz
  | true=>
   rw[hm] at hz;by_cases hn:(cl.length:Int)=L.n+M.n
   ·cases ha:zn (zDd cl) cl.length 0 with
    | true=>rw[ha] at hz;simp[hn] at hz
    | false=>
     refine⟨h1,h2,?_,hn,λ c hc=>?_⟩
     ·unfold zBV at hm;simpa using hm
     ·obtain⟨j,hj⟩:=xBN hc;have:=zAr ha j (xDF _) (by have:=(xAc.1 hj).1;omega);unfold zDd at this;rw[hj] at this;simp only[zVm,xBJ,xAk] at this;omega
   ·simp[hn] at hz
def zpo(aa:k.ok)(hx:RL k x L)(hy:RL k y M)(hc:Arr k 1 v (cl.map i1))(an:cl.length<=9223372036854775807)(hz:zCR kind L M cl≠0):(zc E).call 30 [iI kind,x,y,v] k=some [(iI (zCR kind L M cl),k)]:=by
 obtain⟨vl,ve,elsL,rfl,x2,x3,x4⟩:=id hx.ex;obtain⟨wl,we,elsM,rfl,y2,y3,y4⟩:=id hy.ex;refine zmA (s:=true) aa rfl (zSW ?_);obtain⟨k1,e1,n1,t1,o1,f1⟩:=nwF k (rO [iI L.n,vl,ve] 25);obtain⟨k2,e2,n2,t2,o2,f2⟩:=nw o1 (rO [iI M.n,wl,we] 25);rw[n1] at t2;have g0:k2.get k.qa=some (rO [iI L.n,vl,ve] 25):=(f2 _ (by omega)).trans t1;simp only[zU,zF,zK,zA,e1,e2,zR,n1];refine zSV ?_;have la:zb E 25 k2 (sP k.qa 0)=some (.agg ⟨[iI L.n,vl,ve]⟩):=zN (P:=E) zBT (o:=0) g0 (by simp);have lb:zb E 25 k2 (some (.pointer (some ⟨k.qa+1,0,none⟩)))=some (.agg ⟨[iI M.n,wl,we]⟩):=zN (P:=E) zBT (o:=0) t2 (by simp);simp only[la,lb,zA,zM,zQE o2.ext.ok (hx.ext o2.ext) (hy.ext o2.ext) (hc.ext o2.ext) an,zJ];refine zSU ?_;rw[zAS,zA,xAI hz,xAM,ze];refine zk5 ?_;rw[zAC];exact⟨zO ▸ trivial,rfl,o2.wm⟩
def zNS(aa:k.ok)(hx:RL k x L)(hy:RL k y M)(hc:Arr k 1 v (cl.map i1))(an:cl.length<=9223372036854775807)(fL:zII L)(fM:zII M) :
  ∃ r,(zc E).call 30 [iI kind,x,y,v] k=some [(iI r,k)]/\(zc E).call 51 [iI kind,x,y,v] k=some [(iI r,k)]:=by
 obtain⟨r,⟨h1,h2⟩,e⟩:=ztP (kind:=kind) aa hx hy hc an fL fM;refine⟨r,?_,e⟩;by_cases hz:zCR kind L M cl=0
 ·obtain⟨hL,hM,hk,hn,hl⟩:=zvN hz;obtain⟨r',a1,a2,a3⟩:=zpn aa hx hy hL hM hk hc hn hl fL fM;obtain⟨b1,b2⟩:=h2 hz;have:r'=r:=by
   have key:r=0 ↔ r'=0:=b2.trans ((and_congr_left' (zhY hL hM hk hn)).trans a2.symm);rcases a1 with h|h <;> rcases b1 with h'|h' <;> subst h <;> subst h'
   ·rfl
   ·exact absurd (key.2 rfl) (by decide)
   ·exact absurd (key.1 rfl) (by decide)
   ·rfl
  rw[← this];exact a3
 ·rw[h1 hz];exact zpo aa hx hy hc an hz
def zpp(aa:k.ok)(hx:RL k x L)(hy:RL k y M)(hc:Arr k 1 v (cl.map i1))(an:cl.length<=9223372036854775807)(hz:zCR kind L M cl≠0) :
  Ev true ((zc E).call 29 [iI kind,x,y,v] k) λ z=>PrO k 0 (zCR kind L M cl) [] z.1 z.2:=by
 obtain⟨vl,ve,elsL,rfl,x2,x3,x4⟩:=id hx.ex;obtain⟨wl,we,elsM,rfl,y2,y3,y4⟩:=id hy.ex;refine (zCP (Q:=PrQ k 0 (zCR kind L M cl) []) aa zfw zSf (zfv _ _) (by kernel_rfl) (zn0 (zSa ?_))).mono λ x hx=>PrO.of aa hx;obtain⟨k1,e1,n1,t1,o1,f1⟩:=nwF k (rO [iI L.n,vl,ve] 25);obtain⟨k2,e2,n2,t2,o2,f2⟩:=nw o1 (rO [iI M.n,wl,we] 25);obtain⟨k3,e3,n3,t3,o3,f3⟩:=nw o2 (rO [iI 0,.slice none 0 0] 32);rw[n1] at t2;rw[n2,n1] at t3;have g0:k3.get k.qa=some (rO [iI L.n,vl,ve] 25):=(f3 _ (by omega)).trans ((f2 _ (by omega)).trans t1);have g1:k3.get (k.qa+1)=some (rO [iI M.n,wl,we] 25):=(f3 _ (by omega)).trans t2;simp only[zSo,zU,zF,zK,zA,zR,e1,n1,e2,n2,e3];refine zSZ ?_;have la:zb E 25 k3 (sP k.qa 0)=some (.agg ⟨[iI L.n,vl,ve]⟩):=zN (P:=E) zBT (o:=0) g0 (by simp);have lb:zb E 25 k3 (some (.pointer (some ⟨k.qa+1,0,none⟩)))=some (.agg ⟨[iI M.n,wl,we]⟩):=zN (P:=E) zBT (o:=0) g1 (by simp);simp only[la,lb,zA,zM,zQE o3.ext.ok (hx.ext o3.ext) (hy.ext o3.ext) (hc.ext o3.ext) an,zJ];refine zSY ?_;rw[zAS,zA,xAI hz,xAM,ze];refine zlB ?_;have s2:=zGg (a:=0) (v:=.slice none 0 0) t3 rfl rfl;simp only[zS3,zA,s2,zF,zJj];have fo:=(zHb o3).upd (b:=k.qa+2) (.inr (by show k.qa<=k.qa+2;omega)) (some (rO [iI 0,.slice none 0 0] 32));have lv:zC1 E 32 (ptr (k.qa+2)) (k3.upd (k.qa+2) (some (rO [iI 0,.slice none 0 0] 32)))=some (.agg ⟨[iI 0,.slice none 0 0]⟩):=zN (P:=E) zD1 (o:=0) (zH _ _ _) (by simp);simp only[lv,zA];exact⟨zO ▸ trivial,_,rfl,.inl ⟨rfl,rfl⟩,fo⟩
end
def zPB{l:List (Int×Int)}{p:Int×Int}(h:zBM l)(hp:∀ q∈l,zDH q p<0):zBM (l++[p]):=by
 unfold zBM at *;rw[xBO];exact⟨h,List.pairwise_singleton _ _,λ a ha b hb=>by rw[xBV.1 hb];exact hp a ha⟩
section
variable {k:AH} {x y v:Value} {L M:GL} {kind:Int} {cl:List Int}
def Gat(cl:List Int)(N1 N2:Nat)(s t:Nat)(l:List (Int×Int)):Prop:=zBM l/\∀ a b:Int,(a,b)∈l ↔ (0<=a/\0<=b/\b<N2/\(a<(s:Int)\/(a=(s:Int)/\b<(t:Int))))/\zAg cl a=zAg cl ((N1:Int)+b)
def Gat.step{cl:List Int}{N1 N2 s t:Nat}{l:List (Int×Int)}(G:Gat cl N1 N2 s t l)(ht:t<N2) :
  (zAg cl (s:Int)=zAg cl ((N1:Int)+(t:Int))->Gat cl N1 N2 s (t+1) (l++[((s:Int),(t:Int))]))/\(zAg cl (s:Int)≠zAg cl ((N1:Int)+(t:Int))->Gat cl N1 N2 s (t+1) l):=by
 constructor
 ·intro he;refine⟨zPB G.1 λ q hq=>?_,λ a b=>?_⟩
  ·have:=((G.2 q.1 q.2).1 hq).1;rw[zAp];simp only;omega
  ·rw[xCU,xAE,G.2,xCl];constructor
   ·rintro (h|⟨rfl,rfl⟩)
    ·exact⟨⟨h.1.1,h.1.2.1,h.1.2.2.1,by have:=h.1.2.2.2;omega⟩,h.2⟩
    ·exact⟨by omega,he⟩
   ·rintro⟨h1,h2⟩;by_cases hab:a=(s:Int)/\b=(t:Int)
    ·exact .inr hab
    ·exact .inl ⟨by omega,h2⟩
 ·intro he;refine⟨G.1,λ a b=>?_⟩;rw[G.2];constructor
  ·rintro⟨h1,h2⟩;exact⟨by omega,h2⟩
  ·rintro⟨h1,h2⟩;refine⟨⟨h1.1,h1.2.1,h1.2.2.1,?_⟩,h2⟩;rcases h1.2.2.2 with h|⟨rfl,h⟩
   ·exact .inl h
   ·rcases Int.lt_or_le b (t:Int) with h'|h'
    ·exact .inr ⟨rfl,h'⟩
    ·obtain rfl:b=(t:Int):=by omega
     exact absurd h2 he
def Gat.qa{cl:List Int}{N1 N2 s:Nat}{l:List (Int×Int)}(G:Gat cl N1 N2 s N2 l):Gat cl N1 N2 (s+1) 0 l:=
 ⟨G.1,λ a b=>(G.2 a b).trans (and_congr_left' (by omega))⟩
def Gat.len{cl:List Int}{N1 N2 s t:Nat}{l:List (Int×Int)}(G:Gat cl N1 N2 s t l)(h1:s<61)(h2:N2<=60):l.length<=61*60:=
 zJx (N:=61) (M:=60) G.1 λ p hp=>by have:=((G.2 p.1 p.2).1 hp).1;omega
def Gat.fin{cl:List Int}{N1 N2:Nat}{l:List (Int×Int)}(hn:cl.length=N1+N2)(G:Gat cl N1 N2 N1 0 l):l=zC0 cl N1:=by
 refine zGq G.1 (zJ5 cl N1) λ p=>?_;obtain⟨s,t⟩:=p;rw[G.2,prs_mem];constructor
 ·rintro⟨h1,h2⟩;have i1:s.toNat<cl.length:=by omega
  have i2:N1+t.toNat<cl.length:=by omega
  have a:=zBP i1;have b:=zBP i2;rw[show ((s.toNat:Nat):Int)=s by omega] at a;rw[show ((N1+t.toNat:Nat):Int)=(N1:Int)+t by omega] at b;exact⟨by omega,by omega,_,a,by rw[b,h2]⟩
 ·rintro⟨h1,h2,c,h3,h4⟩;have i1:=(xAc.1 h3).1;have i2:=(xAc.1 h4).1;have a:=zBP i1;have b:=zBP i2;rw[show ((s.toNat:Nat):Int)=s by omega,h3] at a;rw[show ((N1+t.toNat:Nat):Int)=(N1:Int)+t by omega,h4] at b;exact⟨by omega,(xCc a).symm.trans (xCc b)⟩
end
section
variable {k:AH} {x y v:Value} {L M:GL} {kind:Int} {cl:List Int}
def ztO(aa:k.ok)(hx:RL k x L)(hy:RL k y M)(hc:Arr k 1 v (cl.map i1))(an:cl.length<=9223372036854775807)(fL:zII L)(fM:zII M) :
  Ev true ((zc E).call 52 [iI kind,x,y,v] k) λ z=>PrO k (if zCR kind L M cl=0 then kind else 0) (zCR kind L M cl) (if zCR kind L M cl=0 then zC0 cl L.n.toNat else []) z.1 z.2:=by
 obtain⟨vl,ve,elsL,rfl,x2,x3,x4⟩:=id hx.ex;obtain⟨wl,we,elsM,rfl,y2,y3,y4⟩:=id hy.ex;generalize hkd:(if zCR kind L M cl=0 then kind else 0)=kd;generalize hF:(if zCR kind L M cl=0 then zC0 cl L.n.toNat else [])=F;refine (zCP (Q:=PrQ k kd (zCR kind L M cl) F) aa zq4 zl8 (zq3 _ _) (by kernel_rfl) (zu8 (zkj ?_))).mono λ x hx=>PrO.of aa hx;obtain⟨k1,e1,n1,t1,o1,f1⟩:=nwF k (rO [iI L.n,vl,ve] 25);obtain⟨k2,e2,n2,t2,o2,f2⟩:=nw o1 (rO [iI M.n,wl,we] 25);obtain⟨k3,e3,n3,t3,o3,f3⟩:=nw o2 (rO [iI 0,.slice none 0 0] 32);rw[n1] at t2;rw[n2,n1] at t3;have g0:k3.get k.qa=some (rO [iI L.n,vl,ve] 25):=(f3 _ (by omega)).trans ((f2 _ (by omega)).trans t1);have g1:k3.get (k.qa+1)=some (rO [iI M.n,wl,we] 25):=(f3 _ (by omega)).trans t2;simp only[zSo,zU,zF,zK,zA,zR,e1,n1,e2,n2,e3];refine zki ?_;have la:zb E 25 k3 (sP k.qa 0)=some (.agg ⟨[iI L.n,vl,ve]⟩):=zN (P:=E) zBT (o:=0) g0 (by simp);have lb:zb E 25 k3 (some (.pointer (some ⟨k.qa+1,0,none⟩)))=some (.agg ⟨[iI M.n,wl,we]⟩):=zN (P:=E) zBT (o:=0) g1 (by simp);simp only[la,lb,zA,zM,zYM o3.ext.ok (hx.ext o3.ext) (hy.ext o3.ext) (hc.ext o3.ext) an,zJ];refine zkh ?_;rw[zAS,zA];have fo:=zHb o3;by_cases hz:zCR kind L M cl=0;rotate_left
 ·rw[xAI hz,xAM,ze];rw[xDN hz] at hkd hF;subst hkd hF;refine zkg ?_;have s2:=zGg (a:=0) (v:=.slice none 0 0) t3 rfl rfl;simp only[zS3,zA,s2,zF,zJj];have fo:=fo.upd (b:=k.qa+2) (.inr (by show k.qa<=k.qa+2;omega)) (some (rO [iI 0,.slice none 0 0] 32));have lv:zC1 E 32 (ptr (k.qa+2)) (k3.upd (k.qa+2) (some (rO [iI 0,.slice none 0 0] 32)))=some (.agg ⟨[iI 0,.slice none 0 0]⟩):=zN (P:=E) zD1 (o:=0) (zH _ _ _) (by simp);simp only[lv,zA];exact⟨zO ▸ trivial,_,rfl,.inl ⟨rfl,rfl⟩,fo⟩
 rw[xAJ hz,xAL,zZ];rw[xDO hz] at hkd hF;subst hkd hF;obtain⟨hL,hM,hk,hn,hl⟩:=zvN hz;obtain⟨z1,z2,_,_⟩:=zf hL;obtain⟨y1,y2',_,_⟩:=zf hM;have j8:=fL.1;have mu:=fM.1;obtain⟨N1,fY⟩:=xAp (show 0<=L.n by omega);obtain⟨N2,hN2⟩:=xAp (show 0<=M.n by omega);have hNt:L.n.toNat=N1:=by omega
 rw[hNt,hz];refine zkf ?_;obtain⟨kL,e5,n5,g5,o5,p5⟩:=zho o3 (rO [iI 0,.slice none 0 0] 32) (rO [iI kind,.slice none 0 0] 32);have bz:=zGg (m:=k3.new (rO [iI 0,.slice none 0 0] 32)) (b:=k3.qa) (a:=kind) (v:=.slice none 0 0) (zD k3 _) rfl rfl;rw[e5] at bz;simp only[zhh,zA,zSo,zU,zF,zK,bz];refine zke ?_;have b0:=(p5 k.qa (by omega)).trans g0;have b1:=(p5 (k.qa+1) (by omega)).trans g1;have b2:=(p5 (k.qa+2) (by omega)).trans t3;have ex:∀ h,Fx (λ c=>c=k3.qa) kL h->Ext k h:=λ h f=>f.ext o5.ext λ c hc=>by have:c=k3.qa:=hc;have:=o3.ext.qa;omega
 have gL:∀ h,Fx (λ c=>c=k3.qa) kL h->zb E 3 h (sP k.qa (0+0))=some (iI (N1:Int)):=λ h f=>by
  rw[← fY];exact zB (P:=E) zAE (o:=0+0) ((f.get _ (by omega) (by omega)).trans b0)
 have gM:∀ h,Fx (λ c=>c=k3.qa) kL h->zb E 3 h (some (.pointer (some ⟨k.qa+1,0+0,none⟩)))=some (iI (N2:Int)):=λ h f=>by
  rw[← hN2];exact zB (P:=E) zAE (o:=0+0) ((f.get _ (by omega) (by omega)).trans b1)
 have hlen:cl.length=N1+N2:=by omega
 have fin:∀ h w,Fx (λ c=>c=k3.qa) kL h->h.get k3.qa=some (rO [iI kind,w] 32)->Ac kL.qa h w (zC0 cl N1)->PI (C52 true) (KR E [.cell 8 32,.tmp 9] (PrQ k kind 0 (zC0 cl N1))) 15 [ptr (k.qa+2),ptr k3.qa] h:=by
  intro h w f g A;refine zZd ?_;obtain⟨lf,cf,wa,wc,hw⟩:=A.leaf;have nh:=f.qa;have l32:zb E 32 h (sP k3.qa 0)=some (.agg ⟨[iI kind,w]⟩):=zN (P:=E) zD1 (o:=0) g (by simp);have gR:h.get (k.qa+2)=some (rO [iI 0,.slice none 0 0] 32):=(f.get _ (by omega) (by omega)).trans b2;have s2:=zGg (a:=kind) (v:=w) gR rfl lf;simp only[l32,zA,s2,zF];have fk:Fx NoB k.qb h:=(zHb o5).trans f λ c hc=>.inr (by have:c=k3.qa:=hc;have e':k.qb.qa=k.qa:=rfl;omega);have fo:=fk.upd (b:=k.qa+2) (.inr (by show k.qa<=k.qa+2;omega)) (some (rO [iI kind,w] 32));have A':Ac k.qa (h.upd (k.qa+2) (some (rO [iI kind,w] 32))) w (zC0 cl N1):=by
   have A2:=A.fx (P:=λ c=>c=k.qa+2) (Fx.upd (P:=λ c=>c=k.qa+2) (Fx.refl f.ok) (.inl rfl) (some (rO [iI kind,w] 32))) λ c hc e=>by have:=A.blk c hc;have:c=k.qa+2:=e;omega
   rcases A2 with e|⟨b,e,h1,h2⟩
   ·exact .inl e
   ·exact .inr ⟨b,e,by omega,h2⟩
  have gu:=zH h (k.qa+2) (some (rO [iI kind,w] 32));generalize h.upd (k.qa+2) (some (rO [iI kind,w] 32))=hh at fo A' gu;rw[zJj];have lv:zC1 E 32 (ptr (k.qa+2)) hh=some (.agg ⟨[iI kind,w]⟩):=zN (P:=E) zD1 (o:=0) gu (by simp);simp only[lv,zA];exact⟨zO ▸ trivial,w,rfl,A',fo⟩
 have inner:∀(s:Nat),s<N1->(∀ h w l,Fx (λ c=>c=k3.qa) kL h->h.get k3.qa=some (rO [iI kind,w] 32)->Ac kL.qa h w l->Gat cl N1 N2 s N2 l->PI (C52 true) (KR E [.cell 8 32,.tmp 9] (PrQ k kind 0 (zC0 cl N1))) 14 [v,ptr k.qa,ptr (k.qa+1),ptr (k.qa+2),ptr k3.qa,iI (s:Int)] h)->
   ∀(d t:Nat),t+d=N2->∀ h w l,Fx (λ c=>c=k3.qa) kL h->h.get k3.qa=some (rO [iI kind,w] 32)->Ac kL.qa h w l->Gat cl N1 N2 s t l->
    PI (C52 true) (KR E [.cell 8 32,.tmp 9] (PrQ k kind 0 (zC0 cl N1))) 8 [v,ptr k.qa,ptr (k.qa+1),ptr (k.qa+2),ptr k3.qa,iI (s:Int),iI (t:Int)] h:=by
  intro s hs hK d
  induction d with
  | zero=>
   intro t ht h w l f g A G;refine zSN ?_;rw[zAP,zA,gM h f,zA,zP,zA,xAI (by omega),zZ];obtain rfl:t=N2:=by omega
   exact hK h w l f g A G
  | succ d ih=>
   intro t ht h w l f g A G;have fQ:t<N2:=by omega
   refine zSN ?_;rw[zAP,zA,gM h f,zA,zP,zA,xAJ (by omega),ze];refine zkc ?_;obtain⟨p0,q1,q2⟩:=zCc hc (ex h f) (zBP (show s<cl.length by omega));obtain⟨p1,q3,q4⟩:=zCc hc (ex h f) (zBP (show N1+t<cl.length by omega));rw[show (((N1+t:Nat):Int))=(N1:Int)+(t:Int) by omega] at q3 q4;rw[q1,zA,q2,zA,zAP,zA,gL h f,zA,zk _ ⟨by omega,by omega⟩,zA,q3,zA,q4,zA,zAD,zA];have behind:∀ h w l,Fx (λ c=>c=k3.qa) kL h->h.get k3.qa=some (rO [iI kind,w] 32)->Ac kL.qa h w l->Gat cl N1 N2 s (t+1) l->
     PI (C52 true) (KR E [.cell 8 32,.tmp 9] (PrQ k kind 0 (zC0 cl N1))) 11 [v,ptr k.qa,ptr (k.qa+1),ptr (k.qa+2),ptr k3.qa,iI (s:Int),iI (t:Int)] h:=by
    intro h w l f g A G;have hl:=G.len (by omega) (by omega);refine zZg ?_;obtain⟨_,_,wa,wc,hw⟩:=A.leaf;have lw:zb E 26 h (sP k3.qa (0+1))=some w:=zB (P:=E) zEc (o:=0+1) g;rw[zAZ,zA,lw,zA,show zh E (zAc [(58,w)]) (zA4 B52 [1,1,1,0,1,0,0,1,0,0,1,0,0,1,0,0,1,0] 2) h=some (iI (l.length:Int)) by rw[hw];exact @zTI _ _ _ _,zA,zAK,zA,xAI (by omega),zZ];refine zZf ?_;rw[zk _ ⟨by omega,by omega⟩,zA];exact ih (t+1) (by omega) h w l f g A G
   by_cases he:zAg cl (s:Int)=zAg cl ((N1:Int)+(t:Int))
   ·rw[xAJ he,ze];refine zZh ?_;have hl:=G.len (by omega) (by omega);have nh:=f.qa;obtain⟨h2,w',s1,A2,fx2,aN⟩:=A.app f.ok nh (by omega) ((s:Int),(t:Int));have lw:zb E 26 h (sP k3.qa (0+1))=some w:=zB (P:=E) zEc (o:=0+1) g;have g2:=(fx2.get k3.qa (by omega) λ hc=>by have:=A.blk _ hc;omega).trans g;obtain⟨lf,cf,_⟩:=A2.leaf;have af:=zi (P:=E) zhQ (o:=0+1) (x:=w') (cs:=[w']) g2 cf rfl (by simp) (by simp[lf]);have g3:=zH h2 k3.qa (some (.row (lput [iI kind,w] (0+1) [w']) 32 0 false));have f3:Fx (λ c=>c=k3.qa) kL (h2.upd k3.qa (some (.row (lput [iI kind,w] (0+1) [w']) 32 0 false))):=(f.trans fx2 λ c hc=>.inr (A.blk c hc)).upd (.inl rfl) _;have A3:Ac kL.qa (h2.upd k3.qa (some (.row (lput [iI kind,w] (0+1) [w']) 32 0 false))) w' _:=A2.fx (P:=λ c=>c=k3.qa) (Fx.upd (P:=λ c=>c=k3.qa) (Fx.refl fx2.ok) (.inl rfl) _) λ c hc e=>by have:=(aN c hc).1;have:c=k3.qa:=e;omega
    simp only[zAZ,lw,zA,pbI,zRu,zF,s1,af];exact behind _ w' _ f3 g3 A3 ((G.step fQ).1 he)
   ·rw[xAI he,zZ];exact behind h w l f g A ((G.step fQ).2 he)
 have outer:∀(d s:Nat),s+d=N1->∀ h w l,Fx (λ c=>c=k3.qa) kL h->h.get k3.qa=some (rO [iI kind,w] 32)->Ac kL.qa h w l->Gat cl N1 N2 s 0 l->
   PI (C52 true) (KR E [.cell 8 32,.tmp 9] (PrQ k kind 0 (zC0 cl N1))) 6 [v,ptr k.qa,ptr (k.qa+1),ptr (k.qa+2),ptr k3.qa,iI (s:Int)] h:=by
  intro d
  induction d with
  | zero=>
   intro s hs h w l f g A G;refine zSO ?_;rw[zAP,zA,gL h f,zA,zP,zA,xAI (by omega),zZ];obtain rfl:s=N1:=by omega
   rw[G.fin hlen] at A;exact fin h w f g A
  | succ d ih=>
   intro s hs h w l f g A G;refine zSO ?_;rw[zAP,zA,gL h f,zA,zP,zA,xAJ (by omega),ze];refine zkd ?_;refine inner s (by omega) (λ h w l f g A G=>?_) N2 0 (by omega) h w l f g A G;refine zZe ?_;rw[zk _ ⟨by omega,by omega⟩,zA];exact ih (s+1) (by omega) h w l f g A G.qa
 exact outer N1 0 (by omega) kL _ [] (Fx.refl o5.ext.ok) g5 (.inl ⟨rfl,rfl⟩) ⟨List.Pairwise.nil,λ a b=>⟨λ h=>(by cases h),λ h=>by omega⟩⟩
end
def zHY(kind:Int)(L:GL):Int:=if zT L then 8 else if zBV kind=false then 361 else 0
def IdO(k:AH)(kind:Int)(L:GL)(v:Value)(m:AH):Prop:=PrO k (if zHY kind L=0 then kind else 0) (zHY kind L) (if zHY kind L=0 then idl L.n.toNat else []) v m
section
variable {k:AH} {x:Value} {L:GL} {kind:Int}
def ide0(h:zHY kind L=0):zT L=false/\(kind=1\/kind=2):=by
 unfold zHY at h;cases hb:zT L with
 | true=>rw[hb] at h;simp at h
 | false=>
  rw[hb] at h;cases hm:zBV kind with
  | false=>rw[hm] at h;simp at h
  | true=>exact⟨rfl,by unfold zBV at hm;simpa using hm⟩
def zpm(aa:k.ok)(hx:RL k x L)(fL:zII L) :
  Ev true ((zc E).call 53 [iI kind,x] k) λ y=>IdO k kind L y.1 y.2:=by
 have j8:=fL.1;unfold IdO;by_cases hz:zHY kind L=0
 ·rw[xDO hz,xDO hz,hz];obtain⟨hL,hk⟩:=ide0 hz;refine (ztN aa hx hL hk (by omega)).mono λ y hy=>?_;obtain⟨b,h1,_,h3,h4⟩:=hy;exact⟨_,h1,h3,h4⟩
 rw[xDN hz,xDN hz];obtain⟨vl,ve,elsL,rfl,x2,x3,x4⟩:=id hx.ex;refine (zCP (Q:=PrQ k 0 (zHY kind L) []) aa zq2 zl7 (zq1 _ _) (by kernel_rfl) (zu7 (zSM ?_))).mono λ x hx=>PrO.of aa hx;obtain⟨k1,e1,n1,t1,o1,f1⟩:=nwF k (rO [iI L.n,vl,ve] 25);obtain⟨k2,e2,n2,t2,o2,f2⟩:=nw o1 (rO [iI 0,.slice none 0 0] 32);simp only[zSo,zU,zF,zK,zA,e1,zR,e2,n1];refine zSL ?_;have ga:=(f2 _ (by omega)).trans t1;have la:zb E 25 k2 (sP k.qa 0)=some (.agg ⟨[iI L.n,vl,ve]⟩):=zN (P:=E) zBT (o:=0) ga (by simp);obtain⟨k3,e3,n3,t3,o3,f3⟩:=nw o2 (rO [iI L.n,vl,ve] 25);have c7:=zRp (h0:=k3) (k:=k3) (v:=.slice (some ⟨k2.qa,0,none⟩) 1 1) (els:=[[iI L.n,vl,ve]]) (Ls:=[L])
  (Arr.row (els:=[[iI L.n,vl,ve]]) t3 (by omega) (by simp) (λ i ee aC=>by
   match i with
   | 0=>simp at aC;subst aC;exact⟨rfl,rfl⟩
   | i+1=>simp at aC)) rfl (by simp) (λ i ee LL h1 h2=>by
   match i with
   | 0=>simp at h1 h2;subst h1 h2;exact hx.ext o3.ext
   | i+1=>simp at h1) (Ext.refl o3.ext.ok)
 have bD:zn (zHt [L]) 1 0=zT L:=by simp[zn,zHt]
 simp only[xCG,xCR,xAK,bD] at c7;simp only[la,zA,ztW,zF,e3,zM,c7,zJ];refine zSK ?_;have t2':k3.get (k.qa+1)=some (rO [iI 0,.slice none 0 0] 32):=by rw[n1] at t2;exact (f3 _ (by omega)).trans t2
 have s2:=zGg (a:=0) (v:=.slice none 0 0) t2' rfl rfl;have fo:=(zHb o3).upd (b:=k.qa+1) (.inr (by show k.qa<=k.qa+1;omega)) (some (rO [iI 0,.slice none 0 0] 32));have lv:zC1 E 32 (ptr (k.qa+1)) (k3.upd (k.qa+1) (some (rO [iI 0,.slice none 0 0] 32)))=some (.agg ⟨[iI 0,.slice none 0 0]⟩):=zN (P:=E) zD1 (o:=0) (zH _ _ _) (by simp);cases hb:zT L with
 | true=>
  simp only[xDM,zAS,zA,show decide ((8:Int)=0)=false from rfl,xAM,ze];refine zkb ?_;simp only[zS3,zA,s2,zF,zJj,lv];exact⟨zO ▸ trivial,_,by simp[zHY,hb],.inl ⟨rfl,rfl⟩,fo⟩
 | false=>
  simp only[xBX,xDI,zAS,zA,xDG,xAL,zZ];refine zSJ ?_;have hm:zBV kind=false:=by
   cases hm:zBV kind with
   | false=>rfl
   | true=>exact absurd (by simp[zHY,hb,hm]) hz
  simp only[zM,zL1 (a:=kind) o3.ext.ok,hm,zJ,zq,zA,xAM,ze];refine zka ?_;simp only[zS3,zA,s2,zF,zJj,lv];exact⟨zO ▸ trivial,_,by simp[zHY,hb,hm],.inl ⟨rfl,rfl⟩,fo⟩
def ztM(aa:k.ok)(hx:RL k x L)(fL:zII L) :
  Ev true ((zc E).call 54 [iI kind,x] k) λ y=>IdO k kind L y.1 y.2:=by
 have j8:=fL.1;unfold IdO;generalize hkd:(if zHY kind L=0 then kind else 0)=kd;generalize hF:(if zHY kind L=0 then idl L.n.toNat else [])=F;obtain⟨vl,ve,elsL,rfl,x2,x3,x4⟩:=id hx.ex;refine (zCP (Q:=PrQ k kd (zHY kind L) F) aa zq0 zl5 (zqz _ _) (by kernel_rfl) (zu6 (zkY ?_))).mono λ x hx=>PrO.of aa hx;obtain⟨k1,e1,n1,t1,o1,f1⟩:=nwF k (rO [iI L.n,vl,ve] 25);obtain⟨k3,e3,n3,t3,o3,f3⟩:=nw o1 (rO [iI 0,.slice none 0 0] 32);rw[n1] at t3;simp only[zSo,zU,zF,zK,zA,e1,zR,e3,n1];refine zkX ?_;have ga:=(f3 k.qa (by omega)).trans t1;have la:zb E 25 k3 (sP k.qa 0)=some (.agg ⟨[iI L.n,vl,ve]⟩):=zN (P:=E) zBT (o:=0) ga (by simp);obtain⟨r1,fy,eI⟩:=zNV o3.ext.ok (hx.ext o3.ext);simp only[la,zA,zM,eI,zJ,zAS];have s2:=zGg (a:=0) (v:=.slice none 0 0) t3 rfl rfl;have fo:=(zHb o3).upd (b:=k.qa+1) (.inr (by show k.qa<=k.qa+1;omega)) (some (rO [iI 0,.slice none 0 0] 32));have lv:zC1 E 32 (ptr (k.qa+1)) (k3.upd (k.qa+1) (some (rO [iI 0,.slice none 0 0] 32)))=some (.agg ⟨[iI 0,.slice none 0 0]⟩):=zN (P:=E) zD1 (o:=0) (zH _ _ _) (by simp);have bad:∀ n:Int,n≠0->n=zHY kind L->KR E [.cell 4 32,.tmp 5] (PrQ k kd (zHY kind L) F) .ret [ptr (k.qa+1),iI n] (k3.upd (k.qa+1) (some (rO [iI 0,.slice none 0 0] 32))):=λ n h0 hn=>by
  have hz:¬ zHY kind L=0:=λ h=>h0 (hn.trans h);rw[xDN hz] at hkd hF;subst hkd hF hn;rw[zJj,lv,zA];exact⟨zO ▸ trivial,_,rfl,.inl ⟨rfl,rfl⟩,fo⟩
 by_cases z1:r1=0;rotate_left
 ·rw[xAI z1,xAM,ze];refine zkW ?_;simp only[zS3,zA,s2,zF];refine bad 8 (by decide) ?_;have:zT L=true:=by rcases xAh (zT L) with h|h;exact h;exact absurd (fy.2 h) z1
  simp[zHY,this]
 rw[xAJ z1,xAL,zZ];have hL:=fy.1 z1;obtain⟨l1,l2,_,_⟩:=zf hL;refine zkV ?_;rw[zM,zQL o3.ext.ok,zJ,zq,zA];cases hm:zBV kind with
 | false=>
  rw[xAM,ze];refine zkU ?_;simp only[zS3,zA,s2,zF];exact bad 361 (by decide) (by simp[zHY,hL,hm])
 | true=>
 rw[xAL,zZ];have hz:zHY kind L=0:=by simp[zHY,hL,hm]
 rw[xDO hz] at hkd hF;subst hkd hF;obtain⟨N,hN⟩:=xAp (show 0<=L.n by omega);rw[hz,show L.n.toNat=N by omega];refine zkT ?_;obtain⟨kL,e5,n5,g5,o5,p5⟩:=zho o3 (rO [iI 0,.slice none 0 0] 32) (rO [iI kind,.slice none 0 0] 32);have bz:=zGg (m:=k3.new (rO [iI 0,.slice none 0 0] 32)) (b:=k3.qa) (a:=kind) (v:=.slice none 0 0) (zD k3 _) rfl rfl;rw[e5] at bz;simp only[zhh,zA,zSo,zU,zF,zK,bz];refine zkS ?_;have b0:=(p5 k.qa (by omega)).trans ga;have b2:=(p5 (k.qa+1) (by omega)).trans t3;have gL:∀ h,Fx (λ c=>c=k3.qa) kL h->zb E 3 h (sP k.qa (0+0))=some (iI (N:Int)):=λ h f=>by
  rw[← hN];exact zB (P:=E) zAE (o:=0+0) ((f.get _ (by omega) (by omega)).trans b0)
 have loop:∀(d s:Nat),s+d=N->∀ h w,Fx (λ c=>c=k3.qa) kL h->h.get k3.qa=some (rO [iI kind,w] 32)->Ac kL.qa h w (idl s)->
   PI (C54 true) (KR E [.cell 4 32,.tmp 5] (PrQ k kind 0 (idl N))) 7 [ptr k.qa,ptr (k.qa+1),ptr k3.qa,iI (s:Int)] h:=by
  intro d
  induction d with
  | zero=>
   intro s hs h w f g A;refine zSI ?_;rw[zAP,zA,gL h f,zA,zP,zA,xAI (by omega),zZ];obtain rfl:s=N:=by omega
   refine zZc ?_;obtain⟨lf,cf,wa,wc,hw⟩:=A.leaf;have nh:=f.qa;have l32:zb E 32 h (sP k3.qa 0)=some (.agg ⟨[iI kind,w]⟩):=zN (P:=E) zD1 (o:=0) g (by simp);have gR:h.get (k.qa+1)=some (rO [iI 0,.slice none 0 0] 32):=(f.get _ (by omega) (by omega)).trans b2;have s2:=zGg (a:=kind) (v:=w) gR rfl lf;simp only[l32,zA,s2,zF];have fk:Fx NoB k.qb h:=(zHb o5).trans f λ c hc=>.inr (by have:c=k3.qa:=hc;have e':k.qb.qa=k.qa:=rfl;omega);have fo:=fk.upd (b:=k.qa+1) (.inr (by show k.qa<=k.qa+1;omega)) (some (rO [iI kind,w] 32));have A':Ac k.qa (h.upd (k.qa+1) (some (rO [iI kind,w] 32))) w (idl s):=by
    have A2:=A.fx (P:=λ c=>c=k.qa+1) (Fx.upd (P:=λ c=>c=k.qa+1) (Fx.refl f.ok) (.inl rfl) (some (rO [iI kind,w] 32))) λ c hc e=>by have:=A.blk c hc;have:c=k.qa+1:=e;omega
    rcases A2 with e|⟨b,e,h1,h2⟩
    ·exact .inl e
    ·exact .inr ⟨b,e,by omega,h2⟩
   have gu:=zH h (k.qa+1) (some (rO [iI kind,w] 32));generalize h.upd (k.qa+1) (some (rO [iI kind,w] 32))=hh at fo A' gu;rw[zJj];have lv:zC1 E 32 (ptr (k.qa+1)) hh=some (.agg ⟨[iI kind,w]⟩):=zN (P:=E) zD1 (o:=0) gu (by simp);simp only[lv,zA];exact⟨zO ▸ trivial,w,rfl,A',fo⟩
  | succ d ih=>
   intro s hs h w f g A;refine zSI ?_;rw[zAP,zA,gL h f,zA,zP,zA,xAJ (by omega),ze];refine zkR ?_;have nh:=f.qa;obtain⟨h2,w',s1,A2,fx2,aN⟩:=A.app f.ok nh (by rw[zIz];omega) ((s:Int),(s:Int));have lw:zb E 26 h (sP k3.qa (0+1))=some w:=zB (P:=E) zEc (o:=0+1) g;have g2:=(fx2.get k3.qa (by omega) λ hc=>by have:=A.blk _ hc;omega).trans g;obtain⟨lf,cf,_⟩:=A2.leaf;have af:=zi (P:=E) zhQ (o:=0+1) (x:=w') (cs:=[w']) g2 cf rfl (by simp) (by simp[lf]);have g3:=zH h2 k3.qa (some (.row (lput [iI kind,w] (0+1) [w']) 32 0 false));have f3:Fx (λ c=>c=k3.qa) kL (h2.upd k3.qa (some (.row (lput [iI kind,w] (0+1) [w']) 32 0 false))):=(f.trans fx2 λ c hc=>.inr (A.blk c hc)).upd (.inl rfl) _;have A3:Ac kL.qa (h2.upd k3.qa (some (.row (lput [iI kind,w] (0+1) [w']) 32 0 false))) w' _:=A2.fx (P:=λ c=>c=k3.qa) (Fx.upd (P:=λ c=>c=k3.qa) (Fx.refl fx2.ok) (.inl rfl) _) λ c hc e=>by have:=(aN c hc).1;have:c=k3.qa:=e;omega
   rw[← zRO] at A3;simp only[zAZ,lw,zA,pbI,zRu,zF,s1,af];refine zkQ ?_;rw[zk _ ⟨by omega,by omega⟩,zA];exact ih (s+1) (by omega) _ w' f3 g3 A3
 exact loop N 0 (by omega) kL _ (Fx.refl o5.ext.ok) g5 (.inl ⟨rfl,rfl⟩)
end
end Go.Proofs
namespace Go.Proofs
open Go Go.AM Go.Sort
def znD{h:AH}{b:Nat}{x y:Value}(hb:h.get b=some (rO [x,y] 32)):zb E 32 h (some (ptr b))=some (.agg ⟨[x,y]⟩)/\zb E 3 h (sP b (0+0))=some x/\zb E 26 h (sP b (0+1))=some y:=
 ⟨zN (P:=E) zD1 (o:=0) hb (by simp),zB (P:=E) zAE (o:=0+0) hb,zB (P:=E) zEc (o:=0+1) hb⟩
def zxO{a b:Value}{h:AH}:zg E 83 1 (some [(0,.agg ⟨[a,b]⟩)]) h=one (.slice (some ⟨h.qa,0,none⟩) 1 1,h.new (rO [a,b] 32)):=by kernel_rfl
def veqB{a:Int}{w:Value}(hw:∃ x n c,w=.slice x n c):veq 100 (.agg ⟨[iI a,w]⟩) (.agg ⟨[iI a,w]⟩)=true:=by
 obtain⟨x,n,c,rfl⟩:=hw;show zHl 99 [iI a,.slice x n c] [iI a,.slice x n c]=true;simp only[zHl,zBF,zAw,xCm]
def zrv(B:GB):(!decide (0<=zj (zJ9 [B]) 1 0))=decide (B.prs.length<=4000):=by
 have e:zJ9 [B] 0=decide ((4000:Int)<(B.prs.length:Int)):=rfl;simp only[zj,e];by_cases h:B.prs.length<=4000
 ·rw[xAI (by omega:¬ (4000:Int)<(B.prs.length:Int)),xAJ h];rfl
 ·rw[xAJ (by omega:(4000:Int)<(B.prs.length:Int)),xAI h];rfl
def zWg{prs:List (Int×Int)}{i:Nat}(h:i<prs.length):(prs.map zC)[i]?=some (zC prs[i]):=by rw[xBi,xAA h];rfl
def ztH{h0 k:AH}{v w:Value}{p1 p2:List (Int×Int)}(hv:Arr h0 2 v (p1.map zC))(hw:Arr h0 2 w (p2.map zC))(he:Ext h0 k)(hn:p1.length<=1000000) :
  (zc E).call 84 [v,w] k=some [(.bool (decide (p1=p2)),k)]:=by
 obtain⟨a1,c1,cO⟩:=hv.slice;obtain⟨a2,c2,kz⟩:=hw.slice;rw[xCY] at cO kz;refine zlv (s:=true) he.ok rfl (zjr (zjq ?_));have el:Ext h0 k.qb:=he.qb;have d7:k.qa<=k.qb.wm:=by rw[zAN];omega
 have x1:zh E (zAc [(6,v)]) (zA4 B84 [1,0,0] 1) k.qb=some (iI (p1.length:Int)):=by rw[cO];exact @zXA _ _ _ _
 have x2:zh E (zAc [(8,w)]) (zA4 B84 [1,0,0] 3) k.qb=some (iI (p2.length:Int)):=by rw[kz];exact @zW9 _ _ _ _
 have x3:zh E (zAc [(11,v)]) (zA4 B84 [1,1,0,0] 1) k.qb=some (iI (p1.length:Int)):=by rw[cO];exact @zW8 _ _ _ _
 rw[x1,zA,x2,zA,zAS,zA];by_cases hlen:p1.length=p2.length
 case neg=>
  rw[xAI (by omega),xAM,ze];refine zjp ?_;rw[zAC];exact⟨zO ▸ trivial,by rw[xAI λ e=>hlen (by rw[e])],d7⟩
 rw[xAJ (by omega),xAL,zZ];refine zjo ?_;rw[x3,zA];generalize k.qb=g at el d7;have loop:∀(m i:Nat),i+m=p1.length->p1.take i=p2.take i->PI (C84 true) (KR E [.tmp 4] λ x h=>x=.bool (decide (p1=p2))/\k.qa<=h.wm) 4 [v,w,iI (p1.length:Int),iI (i:Int)] g:=by
  intro m
  induction m with
  | zero=>
   intro i hi ht;refine zR9 ?_;rw[zP,zA,xAI (by omega),zZ];refine zjj ?_;rw[zAC];rw[xAD (by omega),xAD (by omega)] at ht;exact⟨zO ▸ trivial,by rw[xAJ ht],d7⟩
  | succ m ih=>
   intro i hi ht;have h1:i<p1.length:=by omega
   have h2:i<p2.length:=by omega
   refine zR9 ?_;rw[zP,zA,xAJ (by omega),ze];refine zjn (zjm ?_);obtain⟨q,q1,q2⟩:=zEs zJt zV6 zLL hv el (zWg h1);obtain⟨r,r1,r2⟩:=zEs zJt zV6 zLL hw el (zWg h2);rw[q1,zA,q2,zA,r1,zA,r2,zA,zqb,zA];by_cases hc:p1[i]=p2[i]
   ·rw[xAJ hc,xAL,zZ];refine zjk ?_;rw[zk _ ⟨by omega,by omega⟩,zA];have:=ih (i+1) (by omega) (by rw[List.take_succ_eq_append_getElem h1,List.take_succ_eq_append_getElem h2,ht,hc]);simpa using this
   ·rw[xAI hc,xAM,ze];refine zjl ?_;rw[zAC];exact⟨zO ▸ trivial,by rw[xAI λ e=>hc (by subst e;rfl)],d7⟩
 exact loop p1.length 0 (by omega) rfl
def znd{h0 k:AH}{v w:Value}{B C:GB}(hv:Arr h0 2 v (B.prs.map zC))(hw:Arr h0 2 w (C.prs.map zC))(he:Ext h0 k)(hn:B.prs.length<=1000000) :
  (zc E).call 22 [.agg ⟨[iI B.kind,v]⟩,.agg ⟨[iI C.kind,w]⟩] k=some [(.bool (decide (B.kind=C.kind)&&decide (B.prs=C.prs)),k)]:=by
 refine zmD (s:=true) he.ok rfl (zlR ?_);obtain⟨k1,e1,n1,t1,o1,f1⟩:=nwF k (rO [iI B.kind,v] 32);obtain⟨k2,e2,n2,t2,o2,f2⟩:=nw o1 (rO [iI C.kind,w] 32);rw[n1] at t2;simp only[zU,zF,zA,zK,e1,zR,e2,n1];refine zlQ ?_;have t1':=(f2 _ (by omega)).trans t1;have ff:(false==true)=false:=rfl;simp only[zDV,zAZ,zA,(znD t1').2.1,(znD t2).2.1,zAD];by_cases hk:B.kind=C.kind
 ·simp only[xAJ hk,zI,zS,xAO,xAG,zA,(znD t1').2.2,(znD t2).2.2,zM,ztH hv hw (he.trans o2.ext) hn,zJ,zE];rw[zAC];exact⟨zO ▸ trivial,by rw[xCk],o2.wm⟩
 ·simp only[xAI hk,zI,zS,ff,xAH,zA,zF,zE];rw[zAC];exact⟨zO ▸ trivial,by rw[xCf],o2.wm⟩
end Go.Proofs
namespace Go.Proofs
open Go Go.AM
def zml{a:Int}{x y:Option Addr}{n c m d:Nat}:veq 100 (.agg ⟨[iI a,.slice x n c,.slice y m d]⟩) (.agg ⟨[iI a,.slice x n c,.slice y m d]⟩)=true:=by
 show zHl 99 [iI a,.slice x n c,.slice y m d] [iI a,.slice x n c,.slice y m d]=true;simp only[zHl,zBF,zAw,xCm]
def Bk1(k:AH)(v:Value):Prop:=∀ a n c,v=.slice (some a) n c->a.block<=k.qa
def Bk1.mono{k m:AH}{v:Value}(h:Bk1 k v)(hn:k.qa<m.qa):Bk m v:=λ a n c e=>Nat.lt_of_le_of_lt (h a n c e) hn
def zog{cl:List Int}{N M:Nat}(hN:N<=60)(hM:M<=60)(hn:cl.length=N+M):(zC0 cl N).length<=3600:=
 zJx (N:=60) (M:=60) (zJ5 cl N) λ p hp=>by
  obtain⟨s,t⟩:=p;obtain⟨h1,h2,c,h3,h4⟩:=prs_mem.1 hp;have:=(xAc.1 h4).1;simp only;omega
def zol{k:AH}{x y v:Value}{L M:GL}{kind:Int}{cl:List Int}(aa:k.ok)(hx:RL k x L)(hy:RL k y M)(hc:Arr k 1 v (cl.map i1))(aB:∃ ad n c,v=.slice ad n c/\n<=c/\c<UNK)(an:cl.length<=9223372036854775807)(fL:zII L)(fM:zII M) :
  Ev true ((zc E).call 29 [iI kind,x,y,v] k) λ z=>PrO k (if zCR kind L M cl=0 then kind else 0) (zCR kind L M cl) (if zCR kind L M cl=0 then zC0 cl L.n.toNat else []) z.1 z.2:=by
 by_cases hz:zCR kind L M cl=0
 ·rw[xDO hz,xDO hz,hz];obtain⟨hL,hM,hk,hn,hl⟩:=zvN hz;obtain⟨l1,l2,_⟩:=zf hL;obtain⟨m1,m2,_⟩:=zf hM;obtain⟨ad,n,c,rfl,kW,hU⟩:=aB;obtain⟨b,o,rfl⟩:∃ b o,ad=some ⟨b,o,none⟩:=by
   have h0:(cl.map i1)[0]?=some (i1 cl[0]):=by rw[xBi,xAA (by omega)];rfl
   obtain⟨b,o,c',_,_,_,_,e,_⟩:=hc.load h0;simp only[xBu] at e;exact⟨b,o,e.1⟩
  exact ztR aa hx hy hL hM hk hc kW hU hn hl fL fM
 ·rw[xDN hz,xDN hz];exact zpp aa hx hy hc an hz
def zLS{k m:AH}{kd e:Int}{F:List (Int×Int)}{v:Value}(M:PrO k kd e F v m){G:Value->Value->AH->Prop}
  (H:∀ h1 w,Fx NoB k h1->m.qa<h1.qa->h1.get m.qa=some (rO [iI kd,w] 32)->Arr h1 2 w (F.map zC)->G (ptr m.qa) (iI e) h1) :
  EvO (z6 0 (some v)) λ x7=>EvO (z6 1 (some v)) λ x8=>Ev true (zAm 32 m (zAh E 32)) λ x9=>Ev true (zAM E 32 x9.2 (some x9.1) (some x7)) λ x10=>G x9.1 x8 x10.2:=by
 obtain⟨w,rfl,A,f⟩:=M;simp only[pe0,pe1,zA,zSo,zU,zF,zK];obtain⟨a,c,hw⟩:=A.slice;have s:=zGg (m:=m.new (rO [iI 0,.slice none 0 0] 32)) (b:=m.qa) (a:=kd) (v:=w) (zD m _) rfl (by rw[hw];rfl);refine (iff_of_eq (zh5 s)).2 ?_;rw[zF];obtain⟨h1,e1,n1,t1,⟨f1,_⟩,o1⟩:=zWq (Fx.refl (P:=NoB) f.ok) (xAF _) (rO [iI 0,.slice none 0 0] 32) (rO [iI kd,w] 32);rw[e1];exact H h1 w (f.trans f1 λ _ h=>h.elim) (by omega) t1 (A.ext f1.ext0)
def zxN{k:AH}{L M:GL}{B:GB}{cl:List Int}{vl ve wl we vp v:Value}(aa:k.ok)(hx:RL k (.agg ⟨[iI L.n,vl,ve]⟩) L)(hy:RL k (.agg ⟨[iI M.n,wl,we]⟩) M)(he:RB k [iI B.kind,vp] B)(hc:Arr k 1 v (cl.map i1))(aB:∃ ad n c,v=.slice ad n c/\n<=c/\c<UNK)(b1:Bk1 k vl)(b2:Bk1 k ve)(b3:Bk1 k wl)(b4:Bk1 k we) :
  (zc E).call 9 [.agg ⟨[iI L.n,vl,ve]⟩,.agg ⟨[iI M.n,wl,we]⟩,.agg ⟨[iI B.kind,vp]⟩,v] k=some [(.bool true,k)]:=by
 obtain⟨vl',ve',elsL,hxe,x2,x3,x4⟩:=id hx.ex;cases hxe;obtain⟨wl',we',elsM,hye,y2,y3,y4⟩:=id hy.ex;cases hye;obtain⟨vp',je,ap⟩:=id he.ex;cases je;obtain⟨pa,pc,c9⟩:=ap.slice;obtain⟨a1,c1,bP⟩:=x2.slice;obtain⟨a2,c2,eF⟩:=x4.slice;obtain⟨d1,e1',fP⟩:=y2.slice;obtain⟨d2,e2',hw2⟩:=y4.slice;obtain⟨va,vcc,hv⟩:=hc.slice;rw[xCY] at hv;refine zqw (s:=true) aa rfl (zql ?_);obtain⟨k1,e1,n1,t1,o1,f1⟩:=nwF k (rO [iI L.n,vl,ve] 25);obtain⟨k2,e2,n2,t2,o2,f2⟩:=nw o1 (rO [iI M.n,wl,we] 25);obtain⟨k3,e3,n3,t3,o3,f3⟩:=nw o2 (rO [iI B.kind,vp] 32);rw[n1] at t2;rw[n2,n1] at t3;simp only[zU,zF,zK,zA,zR,e1,n1,e2,n2,e3];have g1:=(f3 k.qa (by omega)).trans ((f2 _ (by omega)).trans t1);have g2:=(f3 (k.qa+1) (by omega)).trans t2;have lL:∀ h,Fx NoB k3 h->zb E 25 h (some (ptr k.qa))=some (.agg ⟨[iI L.n,vl,ve]⟩):=λ h f=>zN (P:=E) zBT (o:=0) ((f.get _ (by omega) id).trans g1) (by simp);have lM:∀ h,Fx NoB k3 h->zb E 25 h (some (ptr (k.qa+1)))=some (.agg ⟨[iI M.n,wl,we]⟩):=λ h f=>zN (P:=E) zBT (o:=0) ((f.get _ (by omega) id).trans g2) (by simp);have lB:∀ h,Fx NoB k3 h->zb E 32 h (some (ptr (k.qa+2)))=some (.agg ⟨[iI B.kind,vp]⟩):=λ h f=>zN (P:=E) zD1 (o:=0) ((f.get _ (by omega) id).trans t3) (by simp);have lK:∀ h,Fx NoB k3 h->zb E 3 h (some (.pointer (some ⟨k.qa+2,0+0,none⟩)))=some (iI B.kind):=λ h f=>zB (P:=E) zAE (o:=0+0) ((f.get _ (by omega) id).trans t3);have own:∀ h,Fx NoB k3 h->Own k h:=λ h f=>f.own o3 λ c hc=>hc.elim;have ret4:∀ h,Fx NoB k3 h->PI (C9 true) (KR E [.tmp 7] λ x l=>x=.bool true/\k.qa<=l.wm) 4 [] h:=λ h f=>zqi (by rw[zAC];exact⟨zO ▸ trivial,rfl,(own h f).wm⟩);refine zqk ?_;simp only[zM,ztU,zJ,zq,zA,xAL,zZ];refine zqj ?_;have fr:Fx NoB k3 k3:=Fx.refl o3.ext.ok;obtain⟨k4,e4,n4,t4,o4,f4⟩:=nw o3 (rO [iI L.n,vl,ve,iI M.n,wl,we] 25);have eD:=ztX (a:=iI L.n) (b:=vl) (c:=ve) (a':=iI M.n) (b':=wl) (c':=we) (h:=k3);rw[e4] at eD;have fx4:Fx NoB k3 k4:=by rw[← e4];exact fr.new _
 obtain⟨b14,mf,c14⟩:=zqD (k:=k4) (v:=.slice (some ⟨k3.qa,0,none⟩) 2 2) (els:=[[iI L.n,vl,ve],[iI M.n,wl,we]]) (Ls:=[L,M]) o4.ext.ok
  (Arr.row (els:=[[iI L.n,vl,ve],[iI M.n,wl,we]]) t4 (by omega) (by simp) (λ i ee aC=>by
   match i with
   | 0=>simp at aC;subst aC;exact⟨rfl,rfl⟩
   | 1=>simp at aC;subst aC;exact⟨rfl,rfl⟩
   | i+2=>simp at aC)) rfl (by simp) (λ i ee LL h1 h2=>by
   match i with
   | 0=>simp at h1 h2;subst h1 h2;exact hx.ext o4.ext
   | 1=>simp at h1 h2;subst h1 h2;exact hy.ext o4.ext
   | i+2=>simp at h1)
 have tf:(true==false)=false:=rfl;have ft:(false==true)=false:=rfl;simp only[lL k3 fr,lM k3 fr,zA,eD,zF,zM,c14,zJ,zq];cases b14 with
 | false=>
  simp only[xAM,zI,zS,tf,xAH,zA,zF,zE,xAG,ze];exact ret4 k4 fx4
 | true=>
 have fewL:=mf rfl 0 L rfl;have fewM:=mf rfl 1 M rfl;obtain⟨k5,e5,n5,t5,o5,f5⟩:=nw o4 (rO [iI B.kind,vp] 32);have me:=zxO (a:=iI B.kind) (b:=vp) (h:=k4);rw[e5] at me;have fx5:Fx NoB k3 k5:=by rw[← e5];exact fx4.new _
 have c19:=ztS (h0:=k5) (k:=k5) (v:=.slice (some ⟨k4.qa,0,none⟩) 1 1) (els:=[[iI B.kind,vp]]) (Bs:=[B])
  (Arr.row (els:=[[iI B.kind,vp]]) t5 (by omega) (by simp) (λ i ee aC=>by
   match i with
   | 0=>simp at aC;subst aC;exact⟨rfl,rfl⟩
   | i+1=>simp at aC)) rfl (by simp) (λ i ee LL h1 h2=>by
   match i with
   | 0=>simp at h1 h2;subst h1 h2;exact he.ext o5.ext
   | i+1=>simp at h1) (Ext.refl o5.ext.ok)
 rw[show ([[Value.int IntKind.i64 B.kind,vp]]:List (List Value)).length=1 from rfl,zrv] at c19;simp only[xAL,zI,zS,xAO,xAG,lB k4 fx4,zA,me,zF,c19,zJ,zq,zE,xAH];by_cases hs:B.prs.length<=4000
 case neg=>
  simp only[xAI hs,xAM,zI,tf,xAH,zA,zE,xAG,ze];exact ret4 k5 fx5
 have hlv:zh E (zAc [(31,v)]) (zA4 B9 [1,1,0,0] 13) k5=some (iI (cl.length:Int)):=by rw[hv];exact @zWx _ _ _ _
 simp only[xAJ hs,xAL,zI,xAO,xAG,zA,hlv,zAK,zE,xAH];by_cases hl:cl.length<=300
 case neg=>
  rw[xAJ (by omega:(300:Int)<(cl.length:Int)),ze];exact ret4 k5 fx5
 rw[xAI (by omega:¬ (300:Int)<(cl.length:Int)),zZ];have an:cl.length<=9223372036854775807:=by omega
 have j8:=fewL.1;have mu:=fewM.1;have o5':=own k5 fx5;have hx5:=hx.ext o5'.ext;have hy5:=hy.ext o5'.ext;have he5:=he.ext o5'.ext;have ko:=hc.ext o5'.ext;have nx5:k.qa<k5.qa:=by omega
 refine zqh ?_;have c15:=ztT o5'.ext.ok hx5 hy5 he5;have c50:=ztQ o5'.ext.ok hx5 hy5 he5 (by omega) (by omega) (b1.mono nx5) (b2.mono nx5) (b3.mono nx5) (b4.mono nx5);rw[zWX] at c50;obtain⟨r,c30,c51⟩:=zNS (kind:=B.kind) o5'.ext.ok hx5 hy5 ko an fewL fewM;have q1:veq 100 (.agg ⟨[iI L.n,vl,ve]⟩) (.agg ⟨[iI L.n,vl,ve]⟩)=true:=by rw[bP,eF];exact zml
 have q2:veq 100 (.agg ⟨[iI M.n,wl,we]⟩) (.agg ⟨[iI M.n,wl,we]⟩)=true:=by rw[fP,hw2];exact zml
 have q3:veq 100 (.agg ⟨[iI B.kind,vp]⟩) (.agg ⟨[iI B.kind,vp]⟩)=true:=veqB ⟨_,_,_,c9⟩;simp only[lL k5 fx5,lM k5 fx5,lB k5 fx5,zA,zM,c15,zJ,q1,q2,q3,xDJ,c50,zAS,xDG,xAL,zI,zS,xAO,xAG,zDV,lK k5 fx5,c30,zBF,c51,zE,xAH,zZ];refine zqg ?_;simp only[zDV,zA,lK k5 fx5,lL k5 fx5,lM k5 fx5,zM];refine (zol o5'.ext.ok hx5 hy5 ko aB an fewL fewM).mono ?_;rintro⟨z1,m1⟩ M1;refine zLS (G:=λ b e h=>PI (C9 true) (KR E [.tmp 7] λ x l=>x=.bool true/\k.qa<=l.wm) 8 [v,ptr k.qa,ptr (k.qa+1),ptr (k.qa+2),b,e] h) M1 ?_;intro h1 w1 fh1 lh1 gh1 ah1;simp only at lh1 gh1 ⊢;have fy1:Fx NoB k3 h1:=fx5.trans fh1 λ _ h=>h.elim;have p1:=own h1 fy1;refine zqf ?_;simp only[zDV,zA,lK h1 fy1,lL h1 fy1,lM h1 fy1,zM];refine (ztO p1.ext.ok (hx.ext p1.ext) (hy.ext p1.ext) (hc.ext p1.ext) an fewL fewM).mono ?_;rintro⟨z2,m2⟩ M2;refine zLS (G:=λ b e h=>PI (C9 true) (KR E [.tmp 7] λ x l=>x=.bool true/\k.qa<=l.wm) 9 [ptr k.qa,ptr (k.qa+2),ptr m1.qa,iI (zCR B.kind L M cl),b,e] h) M2 ?_;intro h2 w2 fh2 lh2 gh2 ah2;simp only at lh2 gh2 ⊢;have fy2:Fx NoB k3 h2:=fy1.trans fh2 λ _ h=>h.elim;have p2:=own h2 fy2;refine zqe ?_;simp only[zDV,zA,lK h2 fy2,lL h2 fy2,zM];refine (zpm p2.ext.ok (hx.ext p2.ext) fewL).mono ?_;rintro⟨z3,m3⟩ M3;refine zLS (G:=λ b e h=>PI (C9 true) (KR E [.tmp 7] λ x l=>x=.bool true/\k.qa<=l.wm) 10 [ptr k.qa,ptr (k.qa+2),ptr m1.qa,iI (zCR B.kind L M cl),ptr m2.qa,iI (zCR B.kind L M cl),b,e] h) M3 ?_;intro h3 w3 fh3 lh3 gh3 ah3;simp only at lh3 gh3 ⊢;have fy3:Fx NoB k3 h3:=fy2.trans fh3 λ _ h=>h.elim;have p3:=own h3 fy3;refine ziW ?_;simp only[zDV,zA,lK h3 fy3,lL h3 fy3,zM];refine (ztM p3.ext.ok (hx.ext p3.ext) fewL).mono ?_;rintro⟨z4,m4⟩ M4;refine zLS (G:=λ b e h=>PI (C9 true) (KR E [.tmp 7] λ x l=>x=.bool true/\k.qa<=l.wm) 11 [ptr m1.qa,iI (zCR B.kind L M cl),ptr m2.qa,iI (zCR B.kind L M cl),ptr m3.qa,iI (zHY B.kind L),b,e] h) M4 ?_;intro h4 w4 fh4 lh4 gh4 ah4;simp only at lh4 gh4 ⊢;have fy4:Fx NoB k3 h4:=fy3.trans fh4 λ _ h=>h.elim;have p4:=own h4 fy4;refine ziV ?_;have e34:=fh4.ext0;have e24:=fh3.ext0.trans e34;have e14:=fh2.ext0.trans e24;have r1:=(e14.get _ lh1).trans gh1;have r2:=(e24.get _ lh2).trans gh2;have r3:=(e34.get _ lh3).trans gh3;have lenP:(if zCR B.kind L M cl=0 then zC0 cl L.n.toNat else []).length<=1000000:=by
  split
  ·rename_i hz;obtain⟨hL,hM,_,hn,_⟩:=zvN hz;obtain⟨l1,_⟩:=zf hL;obtain⟨m1,_⟩:=zf hM;have:=zog (cl:=cl) (N:=L.n.toNat) (M:=M.n.toNat) (by omega) (by omega) (by omega);omega
  ·simp
 have zyp:(if zHY B.kind L=0 then idl L.n.toNat else []).length<=1000000:=by
  split
  ·rw[zIz];omega
  ·simp
 have c22:=znd (h0:=h4) (k:=h4) (B:=⟨if zCR B.kind L M cl=0 then B.kind else 0,if zCR B.kind L M cl=0 then zC0 cl L.n.toNat else []⟩) (C:=⟨if zCR B.kind L M cl=0 then B.kind else 0,if zCR B.kind L M cl=0 then zC0 cl L.n.toNat else []⟩) (ah1.ext e14) (ah2.ext e24) (Ext.refl fh4.ok) lenP;have c22':=znd (h0:=h4) (k:=h4) (B:=⟨if zHY B.kind L=0 then B.kind else 0,if zHY B.kind L=0 then idl L.n.toNat else []⟩) (C:=⟨if zHY B.kind L=0 then B.kind else 0,if zHY B.kind L=0 then idl L.n.toNat else []⟩) (ah3.ext e34) ah4 (Ext.refl fh4.ok) zyp;simp only[xDG,xCm] at c22 c22';simp only[(znD r1).1,(znD r2).1,(znD r3).1,(znD gh4).1,zA,zM,c22,c22',zJ,zI,zS,xAO,xAG,zAD,xDG,zE];rw[zAC];exact⟨zO ▸ trivial,rfl,p4.wm⟩
end Go.Proofs
namespace Go.Proofs
open Go Go.AM
def ztc{lo:Nat}{σ:Sg}{h:AH}{w:World}{v v':Value}(H:HR lo σ h w)(hv:VR σ v v'):Bk1 h v:=by
 intro a n c e;cases hv with
 | slice o n c h1 h2=>cases e;exact Nat.le_of_lt (H.dom _ _ h1)
 | sliceU o n c h1 h2=>cases e;exact Nat.le_of_lt (H.dom _ _ h1)
 | sliceS a=>cases e;exact xDF _
 | _=>cases e
def znj{lo:Nat}{σ:Sg}{h:AH}{w:World}{a:Int}{v1 v2 x':Value}(H:HR lo σ h w)(hv:VR σ (.agg ⟨[iI a,v1,v2]⟩) x'):Bk1 h v1/\Bk1 h v2:=by
 have key:∀ l l',VRs σ l l'->l=[iI a,v1,v2]->Bk1 h v1/\Bk1 h v2:=by
  intro l l' hv hl;cases hv with
  | nil=>cases hl
  | cons h0 hs=>
   simp only[xCd] at hl;obtain⟨_,rfl⟩:=hl;cases hs with
   | cons h1 hs=>
    cases hs with
    | cons h2 hs=>exact⟨ztc H h1,ztc H h2⟩
 cases hv with
 | agg h=>exact key _ _ h rfl
def ztB{lo:Nat}{σ:Sg}{k:AH}{w:World}{x y v:Value}{e:List Value}{L M:GL}{B:GB}{cl:List Int}{args':List Value}(aa:k.ok)(hx:RL k x L)(hy:RL k y M)(he:RB k e B)(hc:Arr k 1 v (cl.map i1)/\∃ ad n c,v=.slice ad n c/\n<=c/\c<UNK)(H:HR lo σ k w)(ha:VRs σ [x,y,.agg ⟨e⟩,v] args') :
  (zc E).call 9 [x,y,.agg ⟨e⟩,v] k=some [(.bool true,k)]:=by
 obtain⟨vl,ve,elsL,rfl,x2,x3,x4⟩:=id hx.ex;obtain⟨wl,we,elsM,rfl,y2,y3,y4⟩:=id hy.ex;obtain⟨vp,rfl,ap⟩:=id he.ex;cases ha with
 | cons h0 hs=>
  cases hs with
  | cons h1 hs=>
   obtain⟨b1,b2⟩:=znj H h0;obtain⟨b3,b4⟩:=znj H h1;exact zxN aa hx hy he hc.1 hc.2 b1 b2 b3 b4
end Go.Proofs
