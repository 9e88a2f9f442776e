import Derived.Sort.AssemblyPlain
import Derived.Laws.Bits64
import Derived.Test.YthmnhjcmefjgjaaGreatDoorXAI
import Derived.Test.YthmnhjcmefjgjaaGreatDoorXAF
set_option linter.all false
set_option linter.unusedSectionVars false
set_option autoImplicit true
set_option relaxedAutoImplicit true
set_option maxRecDepth 100000
set_option maxHeartbeats 1000000
namespace Go.Proofs
open Go Go.AM
def zjB{h:AH}{kind:Int}:zb E 112 (h.new (.row [.nilFunc,.nilFunc,.string ⟨#[]⟩] 112 0 false)) (some (ptr h.qa)) (some (.agg ⟨zAF kind⟩))=one (undef,(h.new (.row [.nilFunc,.nilFunc,.string ⟨#[]⟩] 112 0 false)).upd h.qa (some (rO (zAF kind) 112))):=by
 rw[zAC (P:=E) znH (x:=.agg ⟨zAF kind⟩) (cs:=zAF kind) (zI h _) rfl (by rw[zFu];rfl) (by simp) (by rw[zFu];rfl)];rw[zFu];rfl
def zrH{k h:AH}{kind:Int}{vp:Value}{b1 b2 m ver b5 b8:Nat}{R:Rel}{SS TT:List zf}(ho:Own k h)(aR:zDd kind=true)
  (h5:h.get b5=some (rO [iI kind,vp] 32)) (h5l:b5<h.qa)
  (h8:h.get b8=some (.row (zA0 (ptr b1) (ptr b2) m) 176 0 false)) (iA:b8<h.qa) (hm:h.get m=some (.map (ent R) ver)) (aN:m<h.qa) (hR:R.Nodup)
  (gt:GV h b1 SS) (gq:GV h b2 TT) (bN:b1<h.qa) (bz:b2<h.qa) (bD:zO0 SS) (iL:zO0 TT) (ai:∀ p∈R,(0<=p.1/\p.1<(SS.length:Int))/\(0<=p.2/\p.2<(TT.length:Int))) {V:Bool}
  (hV:V=(decide ((0,0)∈R)&&zQH kind R SS TT&&zQH kind (R.map zBr) TT SS)) :
  zo5 false (KR E [.tmp 6] (fun x l=>x=.bool V/\k.qa<=l.wm)) (ptr b5) (ptr b8) h:=by
 refine zXF ?_;have l5:=zF (P:=E) zAa (o:=0) h5;simp only[lnth] at l5;have l5n:zH E 3 (h.new (.row [.nilFunc,.nilFunc,.string ⟨#[]⟩] 112 0 false)) (some (ptr b5))=some (iI kind):=by
  have:=zF (P:=E) zAa (o:=0) ((zK (o:=.row [.nilFunc,.nilFunc,.string ⟨#[]⟩] 112 0 false) (by omega)).trans h5);simpa only[lnth] using this
 have fxf:Fx NoB h ((h.new (.row [.nilFunc,.nilFunc,.string ⟨#[]⟩] 112 0 false)).upd h.qa (some (rO (zAF kind) 112))):=((Fx.refl ho.ext.ok).new _).upd (.inr (xAF _)) _;have dh:∀ c,c<h.qa->((h.new (.row [.nilFunc,.nilFunc,.string ⟨#[]⟩] 112 0 false)).upd h.qa (some (rO (zAF kind) 112))).get c=h.get c:=fun c hc=>fxf.get c hc (fun h=>h);have dN:((h.new (.row [.nilFunc,.nilFunc,.string ⟨#[]⟩] 112 0 false)).upd h.qa (some (rO (zAF kind) 112))).qa=h.qa+1:=rfl;have fin:zjN false (KR E [.tmp 6] (fun x l=>x=.bool V/\k.qa<=l.wm)) (ptr b8) (ptr h.qa) ((h.new (.row [.nilFunc,.nilFunc,.string ⟨#[]⟩] 112 0 false)).upd h.qa (some (rO (zAF kind) 112))):=
  zrG (fxf.own ho (fun _ h=>h.elim)) aR ((dh _ iA).trans h8) (by omega) (zN _ _ _) (by omega) ((dh _ aN).trans hm) (by omega) hR (gt.fx fxf) (gq.fx fxf) (by omega) (by omega) bD iL ai hV
 have hok1:(h.new (.row [.nilFunc,.nilFunc,.string ⟨#[]⟩] 112 0 false)).ok:=zBd ho.ext.ok _;simp only[zVb,Nat.add_zero,l5,zA,zS,zV1 ho.ext.ok,zV1 hok1,zO,zDc,true_and,pim aR,zm0,zd,zL,zX,l5n,zjB];exact⟨fin,fin⟩
def GV.fxm{k l:AH}{bg m ver:Nat}{SS:List zf}{es:List (Value×Value)}(g:GV k bg SS)(f:Fx (fun c=>c=m) k l)(hm:k.get m=some (.map es ver)):GV l bg SS:=by
 obtain⟨loc,bs,cells,G⟩:=g.ex;have ah:∀ {a:Nat} {vs:List Value} {ty es:Nat} {ro:Bool},k.get a=some (.row vs ty es ro)->a≠m:=by
  rintro a vs ty es ro h rfl;rw[hm] at h;cases h
 refine⟨loc,bs,cells,(f.get bg G.ltg (ah G.g)).trans G.g,(f.get bs G.lts (ah G.s)).trans G.s,G.len,G.ne,xAC G.ltg f.qa,xAC G.lts f.qa,G.locg,G.locs,fun i c S hc hS=>?_,G.blk,G.dis⟩;rcases G.cell i c S hc hS with a|⟨b,a1,a2,a3⟩
 ·exact .inl a
 ·exact .inr ⟨b,a1,(f.get b a3 (ah a2)).trans a2,xAC a3 f.qa⟩
def zLm{k:AH}{a m ver:Nat}{vs:List Value}{ty es:Nat}{ro:Bool}{en:List (Value×Value)}(h:k.get a=some (.row vs ty es ro))(hm:k.get m=some (.map en ver)):a≠m:=by
 rintro rfl;rw[hm] at h;cases h
def rel4{k h1:AH}{kind n1 n2:Int}{vp vl ve wl we:Value}{prs:Rel}{b1 b2 m b3 b4 b5 b8 ver0:Nat}{es0:List (Value×Value)}{SS TT:List zf}(aR:zDd kind=true)
  (fI:h1.get m=some (.map es0 ver0)) (aN:m<h1.qa) (ic:k.qa<=m)
  (h3:h1.get b3=some (rO [iI n1,vl,ve] 25)) (h3l:b3<h1.qa) (h4:h1.get b4=some (rO [iI n2,wl,we] 25)) (h4l:b4<h1.qa)
  (h5:h1.get b5=some (rO [iI kind,vp] 32)) (h5l:b5<h1.qa)
  (h8:h1.get b8=some (.row (zA0 (ptr b1) (ptr b2) m) 176 0 false)) (iA:b8<h1.qa)
  (gt:GV h1 b1 SS) (gq:GV h1 b2 TT) (bN:b1<h1.qa) (bz:b2<h1.qa) (bD:zO0 SS) (iL:zO0 TT) (hn1:n1=(SS.length:Int)) (fG:n2=(TT.length:Int))
  {ap:Option Addr} {cp:Nat} (ep:vp=.slice ap prs.length cp) (ha:Arr k 2 vp (prs.map zG)) (gY:prs.length<=200000) (eE:∀ p∈prs,0<=p.1/\0<=p.2) {V:Bool} (hV:V=zms kind prs SS TT n1 n2) :
  ∀(r i:Nat),i+r=prs.length->∀ h Rn ver,Own k h->Fx (fun c=>c=m) h1 h->h.get m=some (.map (ent Rn) ver)->Rn.Nodup->(∀ p,p∈Rn ↔ p∈prs.take i)->(prs.take i).all (inB n1 n2)=true->
   zsI false (KR E [.tmp 6] (fun x l=>x=.bool V/\k.qa<=l.wm)) (ptr b3) (ptr b4) (ptr b5) (ptr b8) vp (iI (prs.length:Int)) (iI (i:Int)) h:=by
 intro r
 induction r with
 | zero=>
  intro i hi h Rn ver ho f hm aV aW aB;refine zQP ?_;have:¬ ((i:Int)<(prs.length:Int)):=by omega
  simp only[zY,zA,this,decide_false,zi];rw[xAD (by omega)] at aW aB;have ai:∀ p∈Rn,(0<=p.1/\p.1<(SS.length:Int))/\(0<=p.2/\p.2<(TT.length:Int)):=fun p hp=>by
   have hp':=(aW p).1 hp;have h1':=List.all_eq_true.1 aB p hp';simp only[inB,xAP,decide_eq_true_eq] at h1';have h2':=eE p hp';omega
  have dN:=f.qa;refine zrH ho aR ((f.get b5 h5l (zLm h5 fI)).trans h5) (by omega) ((f.get b8 iA (zLm h8 fI)).trans h8) (by omega) hm (by omega) aV (gt.fxm f fI) (gq.fxm f fI) (by omega) (by omega) bD iL ai ?_;rw[hV];unfold zms;rw[aB,SameR.dec aW,zIS aW,zIS (R:=Rn.map zBr) (R':=prs.map zBr) (fun p=>by
   simp only[List.mem_map];exact⟨fun ⟨q,a,b⟩=>⟨q,(aW q).1 a,b⟩,fun ⟨q,a,b⟩=>⟨q,(aW q).2 a,b⟩⟩)]
  rfl
 | succ r ih=>
  intro i hi h Rn ver ho f hm aV aW aB;have ai:i<prs.length:=by omega
  refine zQP ?_;have ab:((i:Int)<(prs.length:Int)):=by omega
  simp only[zY,zA,ab,decide_true,zy];refine zgG ?_;have aX:(prs.map zG)[i]?=some (zG prs[i]):=by simp[ai]
  obtain⟨b,o,c,vs,ty,es,ro,hv,hb,aD,bc,hz,aZ⟩:=ha.load aX;have hp:=eE prs[i] (List.getElem_mem ai);have fc:prs.take (i+1)=prs.take i++[prs[i]]:=by rw[List.take_add_one];simp[ai]
  have fW:prs[i]∈prs:=List.getElem_mem ai;generalize prs[i]=p at hz hp fc fW;rw[ep] at hv;simp only[Value.slice.injEq] at hv;obtain⟨a9,_,_⟩:=hv;subst a9;have gb:=(ho.ext.get b aD).trans hb;simp only[ep,zkU ai,zA,zZ zQj gb bc,hz,zqi,zd,zL,zX,zlo];refine zgF ?_;have fb:Fx NoB h ((h.new (rO [iI 0,iI 0] 54)).upd h.qa (some (rO (zG p) 54))):=((Fx.refl ho.ext.ok).new _).upd (.inr (xAF _)) _;have tb:((h.new (rO [iI 0,iI 0] 54)).upd h.qa (some (rO (zG p) 54))).get h.qa=some (rO (zG p) 54):=zN _ _ _;have nb:((h.new (rO [iI 0,iI 0] 54)).upd h.qa (some (rO (zG p) 54))).qa=h.qa+1:=rfl;generalize ((h.new (rO [iI 0,iI 0] 54)).upd h.qa (some (rO (zG p) 54)))=k1 at fb tb nb;have o1:=fb.own ho (fun _ h=>h.elim);have f1:Fx (fun c=>c=m) h1 k1:=f.trans fb (fun _ h=>h.elim);have eH:k1.get m=_:=(fb.get m (by have:=f.qa;omega) (fun h=>h)).trans hm;have c0:=zF (P:=E) zAa (o:=0) tb;have c1:=zF (P:=E) zAa (o:=1) tb;have x0:=zF (P:=E) zAa (o:=0) ((f1.get b3 h3l (zLm h3 fI)).trans h3);have y0:=zF (P:=E) zAa (o:=0) ((f1.get b4 h4l (zLm h4 fI)).trans h4);simp only[lnth,zG] at c0 c1 x0 y0;simp only[zJg,zLy,c0,zA3,Nat.add_zero,x0,zA,zAZ];have bad:inB n1 n2 p=false->zsH false (KR E [.tmp 6] (fun x l=>x=.bool V/\k.qa<=l.wm)) k1:=by
   intro hb;refine zgE ?_;simp only[zA,zAS,zU,true_and];refine⟨?_,o1.wm⟩;rw[hV];have:prs.all (inB n1 n2)=false:=by
    rw[List.all_eq_false];exact⟨p,fW,by rw[hb];simp⟩
   unfold zms;rw[this];rfl
  by_cases e1:n1<=p.1
  ·simp only[e1,decide_true,zM,show (true==false)=false from rfl,xAH,zA,zJ,xAG,zy];exact bad (by simp[inB];omega)
  ·simp only[e1,decide_false,zM,xAO,xAG,c1,zA3,Nat.add_zero,y0,zA,zAZ,zJ,xAH];by_cases e2:n2<=p.2
   ·simp only[e2,decide_true,zy];exact bad (by simp[inB];omega)
   ·simp only[e2,decide_false,zi];refine zgD ?_;have l8:=zF (P:=E) zLR (o:=2) ((f1.get b8 iA (zLm h8 fI)).trans h8);simp only[lnth,zA0] at l8;have lp:=zZ (P:=E) zQj (o:=0) tb (by simp[zG]);rw[List.drop_zero,xAD (by simp[zG])] at lp;obtain⟨R',u1,u2,u3⟩:=ziP eH aV p;simp only[zF3,xAK,l8,lp,zA,u1,zL];refine zgC ?_;simp only[zAK _ (zDu ai (by omega)),zA];have f2:Fx (fun c=>c=m) h1 (k1.upd m (some (.map (ent R') (ver+1)))):=f1.upd (.inl rfl) _;have f3:Fx (fun c=>c=m) k1 (k1.upd m (some (.map (ent R') (ver+1)))):=Fx.upd (P:=fun c=>c=m) (Fx.refl o1.ext.ok) (.inl rfl) _;have:=ih (i+1) (by omega) _ R' (ver+1) (f3.own o1 (fun c h=>by rw[h];exact ic)) f2 (zN _ _ _) u2 (fun q=>by
     rw[u3,aW,fc,List.mem_append,xAE];exact Or.comm) (by
     rw[fc,List.all_append,aB];simp[inB];omega)
    rw[ep] at this;simpa using this
def zja(n:Nat)(a:Option Addr):veq n (.pointer a) (.pointer a)=true:=by cases n <;> (show decide (a=a)=true;simp)
def zoY{a b c a' b' c':Value}{h:AH}:zh E 82 2 (some [(0,.agg #[a,b,c]),(1,.agg #[a',b',c'])]) h=one (.slice (some ⟨h.qa,0,none⟩) 2 2,h.new (rO [a,b,c,a',b',c'] 25)):=by kernel_rfl
def zTn(L M:GL)(B:GB):Bool:=match zFy [L,M] with
 | [SS,TT]=>zms B.kind B.prs SS TT L.n M.n
 | _=>false
def GrOf.ss{L:GL}{x:Gr}{loc:Nat}{h:AH}(g:GrOf L x)(G:GG loc h x.1 x.2.1 x.2.2.1 x.2.2.2)(hL:zx L=false):zO0 x.2.2.2/\L.n=(x.2.2.2.length:Int):=by
 have hs:=zAV hL;have h1:=g.1;have h2:=G.len;refine⟨⟨by omega,fun i S hS=>?_⟩,by omega⟩;obtain⟨a,b⟩:=g.2 i S hS;refine⟨by omega,fun y hy=>?_⟩;have:=(a y hy).1;omega
def znw{B:GB}(h:zCL B=0):zDd B.kind=true/\B.prs.length<=200000/\∀ p∈B.prs,0<=p.1/\0<=p.2:=by
 unfold zCL at h;cases h1:zDd B.kind with
 | false=>rw[h1] at h;simp at h
 | true=>
  rw[h1] at h;simp only[Bool.true_eq_false,if_false] at h;by_cases h2:200000<B.prs.length
  ·rw[if_pos h2] at h;omega
  ·rw[if_neg h2] at h;cases h3:zAQ (zDB B.prs) B.prs.length 0 with
   | true=>rw[h3] at h;simp at h
   | false=>
    refine⟨rfl,by omega,fun p hp=>?_⟩;obtain⟨i,hi⟩:=List.mem_iff_getElem?.1 hp;have:=zCv h3 i (Nat.zero_le _) (by have:=(List.getElem?_eq_some_iff.1 hi).1;omega);unfold zDB at this;rw[hi] at this;simp only[Bool.or_eq_false_iff,decide_eq_false_iff_not] at this;omega
def zoP{k:AH}{x y:Value}{e:List Value}{L M:GL}{B:GB}(aa:k.ok)(hx:RL k x L)(hy:RL k y M)(hL:zx L=false)(hM:zx M=false)(he:RB k e B)(hB:zCL B=0) :
  (zV E).call 72 [x,y,.agg ⟨e⟩] k=some [(.bool (zTn L M B),k)]:=by
 obtain⟨vl,ve,elsL,rfl,x2,x3,x4⟩:=hx.ex;obtain⟨wl,we,elsM,rfl,y2,y3,y4⟩:=hy.ex;obtain⟨vp,rfl,e2⟩:=he.ex;obtain⟨aR,gY,eE⟩:=znw hB;refine zhT (s:=false) aa rfl (zgK ?_);simp only[zd,zL,zX,zA];refine zgJ ?_;have o1:=(((Own.qb k).new (rO [iI L.n,vl,ve] 25)).new (rO [iI M.n,wl,we] 25)).new (rO [iI B.kind,vp] 32);have g3:(((k.qb.new (rO [iI L.n,vl,ve] 25)).new (rO [iI M.n,wl,we] 25)).new (rO [iI B.kind,vp] 32)).get k.qa=some (rO [iI L.n,vl,ve] 25):=
  (zK (by simp;omega)).trans ((zK (by simp)).trans (zI k.qb _))
 have g4:(((k.qb.new (rO [iI L.n,vl,ve] 25)).new (rO [iI M.n,wl,we] 25)).new (rO [iI B.kind,vp] 32)).get (k.qa+1)=some (rO [iI M.n,wl,we] 25):=
  (zK (by simp)).trans (zI (k.qb.new _) _)
 have g5:(((k.qb.new (rO [iI L.n,vl,ve] 25)).new (rO [iI M.n,wl,we] 25)).new (rO [iI B.kind,vp] 32)).get (k.qa+2)=some (rO [iI B.kind,vp] 32):=zI ((k.qb.new _).new _) _;have n1:(((k.qb.new (rO [iI L.n,vl,ve] 25)).new (rO [iI M.n,wl,we] 25)).new (rO [iI B.kind,vp] 32)).qa=k.qa+3:=rfl;simp only[za,AH.next_new];generalize (((k.qb.new (rO [iI L.n,vl,ve] 25)).new (rO [iI M.n,wl,we] 25)).new (rO [iI B.kind,vp] 32))=k1 at o1 g3 g4 g5 n1;have la:=zZ (P:=E) zDh (o:=0) g3 (by simp);have lb:=zZ (P:=E) zDh (o:=0) g4 (by simp);simp only[List.drop_zero,List.take] at la lb;simp only[la,lb,zA,zoY,zL,zS];have o2:=o1.new (rO [iI L.n,vl,ve,iI M.n,wl,we] 25);have t2:=zI k1 (rO [iI L.n,vl,ve,iI M.n,wl,we] 25);have g3':(k1.new (rO [iI L.n,vl,ve,iI M.n,wl,we] 25)).get k.qa=_:=(zK (by omega)).trans g3;have g4':(k1.new (rO [iI L.n,vl,ve,iI M.n,wl,we] 25)).get (k.qa+1)=_:=(zK (by omega)).trans g4;have g5':(k1.new (rO [iI L.n,vl,ve,iI M.n,wl,we] 25)).get (k.qa+2)=_:=(zK (by omega)).trans g5;have n2:(k1.new (rO [iI L.n,vl,ve,iI M.n,wl,we] 25)).qa=k1.qa+1:=rfl;generalize (k1.new (rO [iI L.n,vl,ve,iI M.n,wl,we] 25))=k2 at o2 t2 g3' g4' g5' n2;have am:Args k2 (.slice (some ⟨k1.qa,0,none⟩) 2 2) [[iI L.n,vl,ve],[iI M.n,wl,we]] [L,M]:=by
  refine⟨?_,rfl,by simp,fun i ee LL h1 h2=>?_,fun i LL h=>?_⟩
  ·refine Arr.row (els:=[[iI L.n,vl,ve],[iI M.n,wl,we]]) t2 (by omega) (by simp) (fun i ee aP=>?_)
   match i with
   | 0=>simp at aP;subst aP;exact⟨rfl,rfl⟩
   | 1=>simp at aP;subst aP;exact⟨rfl,rfl⟩
   | i+2=>simp at aP
  ·match i with
   | 0=>simp at h1 h2;subst h1 h2;exact hx.ext o2.ext
   | 1=>simp at h1 h2;subst h1 h2;exact hy.ext o2.ext
   | i+2=>simp at h1
  ·match i with
   | 0=>simp at h;subst h;exact hL
   | 1=>simp at h;subst h;exact hM
   | i+2=>simp at h
 refine ((zi3 o2.ext.ok (by simp) am).weak).mono fun z hz=>?_;obtain⟨gs,hO,hlen,dA,dx,fx⟩:=hz;obtain⟨out,k3⟩:=z;simp only at hO fx ⊢
 match gs,hlen with
 | [x1,x2],_=>
  have o3:=fx.own o2 (fun _ h=>h.elim);have G1:=hO.gg x1 (by simp);have G2:=hO.gg x2 (by simp);obtain⟨s1,s2⟩:=(dA 0 x1 L rfl rfl).ss G1 hL;obtain⟨r1,r2⟩:=(dA 1 x2 M rfl rfl).ss G2 hM;have V1:GV k3 x1.1 x1.2.2.2:=⟨_,_,_,G1⟩;have V2:GV k3 x2.1 x2.2.2.2:=⟨_,_,_,G2⟩;have hrv:zTn L M B=zms B.kind B.prs x1.2.2.2 x2.2.2.2 L.n M.n:=by
   unfold zTn;rw[← dx];rfl
  rcases hO.sl with ⟨_,h⟩|⟨bo,rfl,fN,dZ,jK⟩
  ·cases h
  ·have p3:k3.get k.qa=_:=(fx.get _ (by omega) (fun h=>h)).trans g3';have p4:k3.get (k.qa+1)=_:=(fx.get _ (by omega) (fun h=>h)).trans g4';have p5:k3.get (k.qa+2)=_:=(fx.get _ (by omega) (fun h=>h)).trans g5';have dN:=fx.qa;refine zgI ?_;have m0:=zF (P:=E) zCJ (o:=0) fN;have m1:=zF (P:=E) zCJ (o:=1) fN;simp only[List.map_cons,List.map_nil,lnth] at m0 m1;have i0:zE E 126 (some (.slice (some ⟨bo,0,none⟩) [x1,x2].length (UNK+1))) (some (iI 0))=some (.pointer (some ⟨bo,0,none⟩)):=zPn (k:=0) (by simp);have i1:zE E 126 (some (.slice (some ⟨bo,0,none⟩) [x1,x2].length (UNK+1))) (some (iI 1))=some (.pointer (some ⟨bo,1,none⟩)):=zPn (k:=1) (by simp);have rest:∀(h:AH) (m b8 ver:Nat),Fx NoB k3 h->h.get m=some (.map (ent []) ver)->m<h.qa->k3.qa<=m->h.get b8=some (.row (zA0 (ptr x1.1) (ptr x2.1) m) 176 0 false)->b8<h.qa->
     zsJ false (KR E [.tmp 6] (fun x l=>x=.bool (zTn L M B)/\k.qa<=l.wm)) (ptr k.qa) (ptr (k.qa+1)) (ptr (k.qa+2)) (ptr b8) h:=by
    intro h m b8 ver f hm aN ic h8 iA;refine zgH ?_;have fn:=f.qa;have w3:=(f.get k.qa (by omega) (fun h=>h)).trans p3;have w4:=(f.get (k.qa+1) (by omega) (fun h=>h)).trans p4;have w5:=(f.get (k.qa+2) (by omega) (fun h=>h)).trans p5;have l1:=zF (P:=E) zT9 (o:=1) w5;simp only[lnth] at l1;obtain⟨ap,cp,ep⟩:=e2.slice;rw[List.length_map] at ep;rw[ep] at l1;simp only[zGj,xAK,l1,zA,zU3];have:=rel4 (k:=k) (h1:=h) (kind:=B.kind) (prs:=B.prs) (V:=zTn L M B) aR hm aN (by omega) w3 (by omega) w4 (by omega) w5 (by omega) h8 iA (V1.fx f) (V2.fx f) (by have:=G1.ltg;omega) (by have:=G2.ltg;omega) s1 r1 s2 r2 ep e2 gY eE hrv
     B.prs.length 0 (by omega) h [] ver (f.own o3 (fun _ h=>h.elim)) (Fx.refl f.ok) hm (by simp) (by simp) (by simp)
    rw[ep] at this;simpa using this
   have ah:∀ {o:AObj} {c:Nat},c<k3.qa->(k3.new o).get c=k3.get c:=fun hc=>zK (by omega);have dX:∀ {o o':AObj} {c:Nat},c<k3.qa->((k3.new o).new o').get c=k3.get c:=fun hc=>(zK (by simp;omega)).trans (zK (by omega));have a0:∀ {o:AObj},zH E 128 (k3.new o) (sP bo 0)=some (ptr x1.1):=fun {o}=>by
    have:=zF (P:=E) zCJ (o:=0) ((ah (o:=o) dZ).trans fN);simpa only[List.map_cons,List.map_nil,lnth] using this
   have a1:∀ {o:AObj},zH E 128 (k3.new o) (some (.pointer (some ⟨bo,1,none⟩)))=some (ptr x2.1):=fun {o}=>by
    have:=zF (P:=E) zCJ (o:=1) ((ah (o:=o) dZ).trans fN);simpa only[List.map_cons,List.map_nil,lnth] using this
   have b0:∀ {o o':AObj},zH E 128 ((k3.new o).new o') (sP bo 0)=some (ptr x1.1):=fun {o o'}=>by
    have:=zF (P:=E) zCJ (o:=0) ((dX (o:=o) (o':=o') dZ).trans fN);simpa only[List.map_cons,List.map_nil,lnth] using this
   have b1:∀ {o o':AObj},zH E 128 ((k3.new o).new o') (some (.pointer (some ⟨bo,1,none⟩)))=some (ptr x2.1):=fun {o o'}=>by
    have:=zF (P:=E) zCJ (o:=1) ((dX (o:=o) (o':=o') dZ).trans fN);simpa only[List.map_cons,List.map_nil,lnth] using this
   have hst2:=zAC (P:=E) zO9 (o:=0) (h:=(k3.new (rO [.pointer none,.pointer none,.map none] 176)).new (.map [] 0)) (x:=.agg ⟨zA0 (ptr x1.1) (ptr x2.1) (k3.qa+1)⟩) (cs:=zA0 (ptr x1.1) (ptr x2.1) (k3.qa+1)) ((zK (by simp)).trans (zI k3 _)) rfl rfl (by simp) (by simp[zA0,zq]);have hst1:=zAC (P:=E) zO9 (o:=0) (h:=(k3.new (.map [] 0)).new (rO [.pointer none,.pointer none,.map none] 176)) (b:=k3.qa+1) (x:=.agg ⟨zA0 (ptr x1.1) (ptr x2.1) k3.qa⟩) (cs:=zA0 (ptr x1.1) (ptr x2.1) k3.qa) (zI (k3.new _) _) rfl rfl (by simp) (by simp[zA0,zq]);simp only[zA,i0,i1,m0,m1,zL,a0,a1,b0,b1,zja,true_and,znj,zjW,zd,zX,AH.next_new,hst1,hst2];refine⟨?_,?_⟩
   ·have ff:Fx NoB k3 (((k3.new (.map [] 0)).new (rO [.pointer none,.pointer none,.map none] 176)).upd (k3.qa+1) (some (.row (zA0 (ptr x1.1) (ptr x2.1) k3.qa) 176 0 false))):=(((Fx.refl o3.ext.ok).new _).new _).upd (.inr (by omega)) _;exact rest _ k3.qa (k3.qa+1) 0 ff ((zP (by omega)).trans ((zK (by simp)).trans (zI k3 _))) (by show k3.qa<k3.qa+2;omega) (xAF _) (zN _ _ _) (by show k3.qa+1<k3.qa+2;omega)
   ·have ff:Fx NoB k3 (((k3.new (rO [.pointer none,.pointer none,.map none] 176)).new (.map [] 0)).upd k3.qa (some (.row (zA0 (ptr x1.1) (ptr x2.1) (k3.qa+1)) 176 0 false))):=(((Fx.refl o3.ext.ok).new _).new _).upd (.inr (xAF _)) _;exact rest _ (k3.qa+1) k3.qa 0 ff ((zP (by omega)).trans (zI (k3.new _) _)) (by show k3.qa+1<k3.qa+2;omega) (by omega) (zN _ _ _) (by show k3.qa<k3.qa+2;omega)
def bs83{a b:Value}{h:AH}:zh E 83 1 (some [(0,.agg #[a,b])]) h=one (.slice (some ⟨h.qa,0,none⟩) 1 1,h.new (rO [a,b] 32)):=by kernel_rfl
def zGA(L M:GL)(B:GB):Int:=if zx L||zx M then 8 else if zCL B≠0 then zCL B else if zTn L M B then 0 else 360
def zoV{k:AH}{x y:Value}{e:List Value}{L M:GL}{B:GB}(aa:k.ok)(hx:RL k x L)(hy:RL k y M)(he:RB k e B) :
  (zV E).call 15 [x,y,.agg ⟨e⟩] k=some [(iI (zGA L M B),k)]:=by
 obtain⟨vl,ve,elsL,rfl,x2,x3,x4⟩:=id hx.ex;obtain⟨wl,we,elsM,rfl,y2,y3,y4⟩:=id hy.ex;obtain⟨vp,rfl,e2⟩:=id he.ex;refine zhy (s:=true) aa rfl (zhE ?_);simp only[zd,zL,zX,zA];refine zhD ?_;have o1:=(((Own.qb k).new (rO [iI L.n,vl,ve] 25)).new (rO [iI M.n,wl,we] 25)).new (rO [iI B.kind,vp] 32);have g3:(((k.qb.new (rO [iI L.n,vl,ve] 25)).new (rO [iI M.n,wl,we] 25)).new (rO [iI B.kind,vp] 32)).get k.qa=some (rO [iI L.n,vl,ve] 25):=
  (zK (by simp;omega)).trans ((zK (by simp)).trans (zI k.qb _))
 have g4:(((k.qb.new (rO [iI L.n,vl,ve] 25)).new (rO [iI M.n,wl,we] 25)).new (rO [iI B.kind,vp] 32)).get (k.qa+1)=some (rO [iI M.n,wl,we] 25):=
  (zK (by simp)).trans (zI (k.qb.new _) _)
 have g5:(((k.qb.new (rO [iI L.n,vl,ve] 25)).new (rO [iI M.n,wl,we] 25)).new (rO [iI B.kind,vp] 32)).get (k.qa+2)=some (rO [iI B.kind,vp] 32):=zI ((k.qb.new _).new _) _;have n1:(((k.qb.new (rO [iI L.n,vl,ve] 25)).new (rO [iI M.n,wl,we] 25)).new (rO [iI B.kind,vp] 32)).qa=k.qa+3:=rfl;simp only[za,AH.next_new];generalize (((k.qb.new (rO [iI L.n,vl,ve] 25)).new (rO [iI M.n,wl,we] 25)).new (rO [iI B.kind,vp] 32))=k1 at o1 g3 g4 g5 n1;have la:=zZ (P:=E) zDh (o:=0) g3 (by simp);have lb:=zZ (P:=E) zDh (o:=0) g4 (by simp);simp only[List.drop_zero,List.take] at la lb;have o2:=o1.new (rO [iI L.n,vl,ve,iI M.n,wl,we] 25);have t2:=zI k1 (rO [iI L.n,vl,ve,iI M.n,wl,we] 25);have n2:(k1.new (rO [iI L.n,vl,ve,iI M.n,wl,we] 25)).qa=k1.qa+1:=rfl;have g3':(k1.new (rO [iI L.n,vl,ve,iI M.n,wl,we] 25)).get k.qa=_:=(zK (by omega)).trans g3;have g4':(k1.new (rO [iI L.n,vl,ve,iI M.n,wl,we] 25)).get (k.qa+1)=_:=(zK (by omega)).trans g4;have g5':(k1.new (rO [iI L.n,vl,ve,iI M.n,wl,we] 25)).get (k.qa+2)=_:=(zK (by omega)).trans g5;simp only[la,lb,zA,zoY,zL,zS];generalize (k1.new (rO [iI L.n,vl,ve,iI M.n,wl,we] 25))=k2 at o2 t2 n2 g3' g4' g5';have dE:=zi5 (h0:=k2) (k:=k2) (v:=.slice (some ⟨k1.qa,0,none⟩) 2 2) (els:=[[iI L.n,vl,ve],[iI M.n,wl,we]]) (Ls:=[L,M])
  (Arr.row (els:=[[iI L.n,vl,ve],[iI M.n,wl,we]]) t2 (by omega) (by simp) (fun i ee aP=>by
   match i with
   | 0=>simp at aP;subst aP;exact⟨rfl,rfl⟩
   | 1=>simp at aP;subst aP;exact⟨rfl,rfl⟩
   | i+2=>simp at aP)) rfl (by simp) (fun i ee LL h1 h2=>by
   match i with
   | 0=>simp at h1 h2;subst h1 h2;exact hx.ext o2.ext
   | 1=>simp at h1 h2;subst h1 h2;exact hy.ext o2.ext
   | i+2=>simp at h1) (Ext.refl o2.ext.ok)
 have bj:zAQ (zMK [L,M]) 2 0=(zx L||zx M):=by
  simp[zAQ,zMK]
 simp only[List.length_cons,List.length_nil,bj] at dE;simp only[dE,zO];refine zhC ?_;cases hb:(zx L||zx M) with
 | true=>
  simp only[if_true,zA,zA1,show decide ((8:Int)=0)=false from rfl,xAM,zy];refine zhB ?_;simp only[zA,zAS,zU,true_and];exact⟨by simp[zGA,hb],o2.wm⟩
 | false=>
  obtain⟨hL,hM⟩:=Bool.or_eq_false_iff.1 hb;simp only[Bool.false_eq_true,if_false,zA,zA1,decide_true,xAL,zi];refine zhA ?_;have lc:=zZ (P:=E) zQl (o:=0) g5' (by simp);simp only[List.drop_zero,List.take] at lc;simp only[lc,zA,bs83,zL,zS];have o3:=o2.new (rO [iI B.kind,vp] 32);have t3:=zI k2 (rO [iI B.kind,vp] 32);have g3'':(k2.new (rO [iI B.kind,vp] 32)).get k.qa=_:=(zK (by omega)).trans g3';have g4'':(k2.new (rO [iI B.kind,vp] 32)).get (k.qa+1)=_:=(zK (by omega)).trans g4';have g5'':(k2.new (rO [iI B.kind,vp] 32)).get (k.qa+2)=_:=(zK (by omega)).trans g5';have n3:(k2.new (rO [iI B.kind,vp] 32)).qa=k2.qa+1:=rfl;generalize (k2.new (rO [iI B.kind,vp] 32))=k3 at o3 t3 g3'' g4'' g5'' n3;have iq:=zoQ (h0:=k3) (k:=k3) (v:=.slice (some ⟨k2.qa,0,none⟩) 1 1) (els:=[[iI B.kind,vp]]) (Bs:=[B])
   (Arr.row (els:=[[iI B.kind,vp]]) t3 (by omega) (by simp) (fun i ee aP=>by
    match i with
    | 0=>simp at aP;subst aP;exact⟨rfl,rfl⟩
    | i+1=>simp at aP)) rfl (by simp) (fun i ee BB h1 h2=>by
    match i with
    | 0=>simp at h1 h2;subst h1 h2;exact he.ext o3.ext
    | i+1=>simp at h1) (Ext.refl o3.ext.ok)
  have herr:zBg [B] 1 0=zCL B:=by
   simp only[zBg,zOV,List.getElem?_cons_zero];by_cases h:zCL B=0 <;> simp[h]
  simp only[List.length_cons,List.length_nil] at iq;rw[show (0+1:Nat)=1 from rfl,herr] at iq;simp only[iq,zO];refine zg9 ?_;by_cases bc:zCL B=0
  ·simp only[zA,zA1,bc,decide_true,xAL,zi];refine zg7 ?_;have la:=zZ (P:=E) zDh (o:=0) g3'' (by simp);have lb:=zZ (P:=E) zDh (o:=0) g4'' (by simp);have lc:=zZ (P:=E) zQl (o:=0) g5'' (by simp);simp only[List.drop_zero,List.take] at la lb lc;simp only[la,lb,lc,zA,zS,zoP o3.ext.ok (hx.ext o3.ext) (hy.ext o3.ext) hL hM (he.ext o3.ext) bc,zO,zAB,zCF];refine⟨fun h=>zg6 ?_,fun h=>zg5 ?_⟩
   ·simp only[zA,zAS,zU,true_and];have:zTn L M B=false:=by simpa using h
    exact⟨by simp[zGA,hb,bc,this],o3.wm⟩
   ·simp only[zA,zAS,zU,true_and];have:zTn L M B=true:=by simpa using h
    exact⟨by simp[zGA,hb,bc,this],o3.wm⟩
  ·simp only[zA,zA1,bc,decide_false,xAM,zy];refine zg8 ?_;simp only[zA,zAS,zU,true_and];exact⟨by simp[zGA,hb,bc],o3.wm⟩
def zHh{nums:List Int}:∀ {l:List (Int×Int×Int)} {SS:List zf},(zC7 nums SS l).length=SS.length
 | [],_=>rfl
 | e::l,SS=>by simp only[zC7];rw[zHh];simp
def zAw(nums:List Int)(L:GL):(zAT nums L).length=L.n.toNat:=by
 unfold zAT;rw[zHh,List.length_replicate]
def Fx.back{P:Nat->Prop}{k h:AH}(f:Fx P k.qb h):Fx P k ⟨h.t,h.qa,cond (Nat.ble k.wm h.wm) k.wm h.wm⟩:=by
 refine⟨?_,f.qa,fun c hc hn=>f.get c hc hn,fun m h1 h2 h3=>?_⟩
 ·have:=f.ok;unfold AH.ok at this;show cond (Nat.ble k.wm h.wm) k.wm h.wm<=h.qa+UNK;cases hc:Nat.ble k.wm h.wm with
  | true=>have:=ble_true.1 hc;simp only[xAG];omega
  | false=>simpa using this
 ·have:=f.wm m (by rw[zAm];omega) h2 h3;show m<=cond (Nat.ble k.wm h.wm) k.wm h.wm;cases Nat.ble k.wm h.wm
  ·exact this
  ·exact h1
def Fx.ext1{h0 k l:AH}{b:Nat}(f:Fx (fun c=>c=b) k l)(e:Ext h0 k)(hb:h0.qa<=b):Ext h0 l:=
 ⟨f.ok,Nat.le_trans e.qa f.qa,fun c hc=>(f.get c (xAC hc e.qa) (by omega)).trans (e.get c hc)⟩
def zod{h:AH}{a b:Int}{v:Value}(hl:zq v=true):zb E 173 (h.new (rO [iI 0,iI 0,.slice none 0 0] 173)) (some (ptr h.qa)) (some (.agg ⟨[iI a,iI b,v]⟩))=one (undef,(h.new (rO [iI 0,iI 0,.slice none 0 0] 173)).upd h.qa (some (rO [iI a,iI b,v] 173))):=by
 rw[zAC (P:=E) zLM (x:=.agg ⟨[iI a,iI b,v]⟩) (cs:=[iI a,iI b,v]) (zI h _) rfl rfl (by simp) (by simp[zq] at hl ⊢;exact hl)];rfl
def Nd(k:AH)(bL:Nat)(x:Value)(k':AH):Prop:=∃ b left,x=.bool b/\(b=true->0<=left)/\left<=2000/\k'.get bL=some (rO [iI left] 3)/\k'.wm<=k.wm/\Fx (fun c=>c=bL) k k'
def zJN{h0 k:AH}{v:Value}{ts:List GT}{bL:Nat}{left deep:Int}(hr:RT h0 v ts)(hk:Ext h0 k)(cK:h0.qa<=bL)(iK:k.get bL=some (rO [iI left] 3))(eV:bL<k.qa)(ga:0<=left)(cO:left<=2000)(hd1:1<=deep)(hd2:deep<=102)
  (ac:deep<=100->∀ {k':AH} {v':Value} {ts':List GT} {left':Int},RT h0 v' ts'->Ext h0 k'->k'.get bL=some (rO [iI left'] 3)->bL<k'.qa->0<=left'->left'<=2000->Ev true ((zV E).call 69 [v',ptr bL,iI (deep+1)] k') fun x=>Nd k' bL x.1 x.2) :
  Ev true ((zV E).call 69 [v,ptr bL,iI deep] k) fun x=>Nd k bL x.1 x.2:=by
 obtain⟨ad,cp,hv⟩:=hr.slice;cases hr with
 | @mk _ els _ ha hn hc=>
 have hlen:=RC.length hc;by_cases cU:ts.length=0
 ·have:(zV E).call 69 [v,ptr bL,iI deep] k=some [(.bool true,k)]:=by
   refine zhX (s:=true) hk.ok rfl (zQW ?_);refine zQV ?_;rw[hv,cU];simp only[zA,zLs];refine zK8 ?_;simp only[zY,zA,zAN];refine⟨fun h=>by omega,fun _=>zQT ?_⟩;simp only[zA,zAS,zU,true_and];show k.qa<=k.qa+UNK;omega
  rw[this,zO];exact⟨true,left,rfl,fun _=>ga,cO,iK,xAF _,Fx.refl hk.ok⟩
 ·refine zhW (Rp:=fun x k'=>Nd k bL x k') (zQW ?_);refine zQV ?_;rw[hv];simp only[zA,zLs];have fin:∀(b:Bool) (l:Int) (h:AH),(b=true->0<=l)->l<=2000->h.get bL=some (rO [iI l] 3)->Fx (fun c=>c=bL) k.qb h->h.wm<=bL->KR E [.tmp 6] (fun x k'=>(zg x=false\/k'.wm<k.qa)/\Nd k bL x ⟨k'.t,k'.qa,cond (Nat.ble k.wm k'.wm) k.wm k'.wm⟩) .ret [.bool b] h:=by
   intro b l h h1 h2 h3 f hw;simp only[zAS,zU,true_and];refine⟨.inr (by omega),b,l,rfl,h1,h2,h3,?_,f.back⟩;show cond (Nat.ble k.wm h.wm) k.wm h.wm<=k.wm;cases hc:Nat.ble k.wm h.wm with
   | true=>exact xAF _
   | false=>have:=ble_false.1 hc;simp only[xAH];omega
  have loop:∀(r i:Nat),i+r=ts.length->∀(l:Int) (h:AH),Fx (fun c=>c=bL) k.qb h->h.get bL=some (rO [iI l] 3)->0<=l->l<=2000->(i≠0->h.wm<=bL)->
    zsO true (KR E [.tmp 6] (fun x k'=>(zg x=false\/k'.wm<k.qa)/\Nd k bL x ⟨k'.t,k'.qa,cond (Nat.ble k.wm k'.wm) k.wm k'.wm⟩)) (ptr bL) (iI deep) (.slice ad ts.length cp) (iI (ts.length:Int)) (iI (i:Int)) h:=by
   intro r
   induction r with
   | zero=>
    intro i hi l h f hg h1 h2 hw;refine zK8 ?_;have:¬ ((i:Int)<(ts.length:Int)):=by omega
    simp only[zY,zA,this,decide_false,zi];refine zQT ?_;exact fin true l h (fun _=>h1) h2 hg f (hw (by omega))
   | succ r ih=>
    intro i hi l h f hg h1 h2 hw;have ai:i<ts.length:=by omega
    have cC:i<els.length:=by omega
    refine zK8 ?_;have:((i:Int)<(ts.length:Int)):=by omega
    simp only[zY,zA,this,decide_true,zy];refine zgh ?_;obtain⟨kk,nn,vv,lv,bv,ba,_⟩:=RC.at hc i _ (xAA cC);obtain⟨b,o,c,vs,ty,es,ro,ay,hb,ab,bc,hz,aZ⟩:=ha.load (xAA cC);rw[bv] at hz;rw[hv] at ay;simp only[Value.slice.injEq] at ay;obtain⟨a9,_,_⟩:=ay;subst a9;have ek:Ext h0 h:=f.ext1 hk.qb cK;have gb:=(ek.get b ab).trans hb;have aT:zq vv=true:=zDz ba;simp only[zVR ai,zA,zZ zCZ gb bc,hz,zeJ,zd,zL,zX,zod aT];refine zgg ?_;have hbh:bL<h.qa:=xAC eV f.qa;have f1:Fx (fun c=>c=bL) k.qb ((h.new (rO [iI 0,iI 0,.slice none 0 0] 173)).upd h.qa (some (rO [iI kk,iI nn,vv] 173))):=(f.new _).upd (.inr f.qa) _;have t1:((h.new (rO [iI 0,iI 0,.slice none 0 0] 173)).upd h.qa (some (rO [iI kk,iI nn,vv] 173))).get h.qa=some (rO [iI kk,iI nn,vv] 173):=zN _ _ _;have g1:((h.new (rO [iI 0,iI 0,.slice none 0 0] 173)).upd h.qa (some (rO [iI kk,iI nn,vv] 173))).get bL=_:=((zP (by omega)).trans (zK (by omega))).trans hg;have n1:((h.new (rO [iI 0,iI 0,.slice none 0 0] 173)).upd h.qa (some (rO [iI kk,iI nn,vv] 173))).qa=h.qa+1:=rfl;generalize ((h.new (rO [iI 0,iI 0,.slice none 0 0] 173)).upd h.qa (some (rO [iI kk,iI nn,vv] 173)))=k1 at f1 t1 g1 n1;have lg:=zF (P:=E) zAa (o:=0) g1;simp only[lnth] at lg;have af:=zAC (P:=E) zT7 (o:=0) g1 (zDK .i64 (l-1)) rfl (by simp) rfl;have cN:lput [iI l] 0 [iI (l-1)]=[iI (l-1)]:=rfl;rw[cN] at af;simp only[zA,zAj,lg,zG9 _ (show zC1 (l-1) by unfold zC1;omega),af,zL];refine zgf ?_;have f2:Fx (fun c=>c=bL) k.qb (k1.upd bL (some (rO [iI (l-1)] 3))):=f1.upd (.inl rfl) _;have g2:(k1.upd bL (some (rO [iI (l-1)] 3))).get bL=some (rO [iI (l-1)] 3):=zN _ _ _;have t2:(k1.upd bL (some (rO [iI (l-1)] 3))).get h.qa=_:=(zP (by omega)).trans t1;have w2:(k1.upd bL (some (rO [iI (l-1)] 3))).wm<=bL:=(zCm _ _ _).2;have n2:(k1.upd bL (some (rO [iI (l-1)] 3))).qa=k1.qa:=rfl;generalize (k1.upd bL (some (rO [iI (l-1)] 3)))=k2 at f2 g2 t2 w2 n2;have lg2:=zF (P:=E) zAa (o:=0) g2;have lv2:=zF (P:=E) zDv (o:=2) t2;simp only[lnth] at lg2 lv2;have stop:zsN true (KR E [.tmp 6] (fun x k'=>(zg x=false\/k'.wm<k.qa)/\Nd k bL x ⟨k'.t,k'.qa,cond (Nat.ble k.wm k'.wm) k.wm k'.wm⟩)) k2:=by
     refine zQU ?_;exact fin false _ k2 (fun h=>by cases h) (by omega) g2 f2 w2
    simp only[zA,zAj,lg2,zY];by_cases e1:l-1<0
    ·simp only[e1,decide_true,zM,zR,show (true==false)=false from rfl,xAH,xAG,zA,zL,zJ,zy];exact stop
    ·simp only[e1,decide_false,zM,xAO,xAG,zA,zAO,zJ,xAH];by_cases e2:100<deep
     ·simp only[e2,decide_true,zM,zR,show (true==false)=false from rfl,xAH,xAG,zA,zL,zJ,zy];exact stop
     ·simp only[e2,decide_false,zM,zR,xAO,xAG,zA,zAi,xAK,lv2,zAK _ (show zC1 (deep+1) by unfold zC1;omega),zS];refine (ac (by omega) ba (f2.ext1 hk.qb cK) g2 (by omega) (by omega) (by omega)).mono fun y hy=>?_;obtain⟨bb,l3,y1,y2,y3,y4,y6,y5⟩:=hy;rw[y1];have f3:Fx (fun c=>c=bL) k.qb y.2:=f2.trans y5 (fun c h=>.inl h);have w3:y.2.wm<=bL:=by omega
      simp only[zAB,zA,zJ,xAH,zCF];refine⟨fun hb=>zQU ?_,fun hb=>zge ?_⟩
      ·skip
       exact fin false l3 y.2 (fun h=>by cases h) y3 y4 f3 w3
      ·have bC:bb=true:=by simpa using hb
       simp only[zAK _ (zDu ai (by omega)),zA];have:=ih (i+1) (by omega) l3 y.2 f3 y4 (y2 bC) y3 (fun _=>w3);simpa using this
  exact loop ts.length 0 (by omega) left k.qb (Fx.refl (zAX k)) iK ga cO (fun h=>absurd rfl h)
def zoS:∀(d:Nat) {h0 k:AH} {v:Value} {ts:List GT} {bL:Nat} {left deep:Int},RT h0 v ts->Ext h0 k->h0.qa<=bL->k.get bL=some (rO [iI left] 3)->bL<k.qa->0<=left->left<=2000->1<=deep->deep<=102->101<=deep+d->
  Ev true ((zV E).call 69 [v,ptr bL,iI deep] k) fun x=>Nd k bL x.1 x.2:=by
 intro d
 induction d with
 | zero=>
  intro h0 k v ts bL left deep hr hk cK iK eV ga cO hd1 hd2 hd3;exact zJN hr hk cK iK eV ga cO hd1 hd2 (fun h=>by omega)
 | succ d ihd=>
  intro h0 k v ts bL left deep hr hk cK iK eV ga cO hd1 hd2 hd3;exact zJN hr hk cK iK eV ga cO hd1 hd2 (fun h k' v' ts' left' a b c d e f=>ihd a b cK c d e f (by omega) (by omega) (by omega))
def zkg:E.tab.fn.get 13=some Tryz.f13:=by kernel_rfl
def zex:Tryz.f13.body=some (zc Tryz.f13):=by kernel_rfl
def zoW{k:AH}:(zV E).call 13 [] k=some [(.bool true,k)]:=zQB zkg zex (by kernel_rfl)
end Go.Proofs
namespace Go.Proofs
open Go Go.AM
def nwF(k:AH)(x:AObj):∃ m,k.qb.new x=m/\m.qa=k.qa+1/\m.get k.qa=some x/\Own k m/\∀ b,b<k.qa->m.get b=k.get b:=
 ⟨_,rfl,rfl,zI k.qb x,(Own.qb k).new x,fun b hb=>by rw[zK (by simp;omega)];rfl⟩
def nw{k l:AH}(o:Own k l)(x:AObj):∃ m,l.new x=m/\m.qa=l.qa+1/\m.get l.qa=some x/\Own k m/\∀ b,b<l.qa->m.get b=l.get b:=
 ⟨_,rfl,rfl,zI l x,o.new x,fun b hb=>zK (by omega)⟩
def up{k l:AH}(o:Own k l){b:Nat}(hb:k.qa<=b)(x:AObj):∃ m,l.upd b (some x)=m/\m.qa=l.qa/\m.get b=some x/\Own k m/\∀ c,c≠b->m.get c=l.get c:=
 ⟨_,rfl,rfl,zN _ _ _,o.upd hb _,fun c hc=>zP hc⟩
def zKo{T et z:Nat}(hT:und E T=some (.slice et))(hz:zAg E et=some z)(hta:tAS E et=some (true,z)){h k:AH}{v:Value}{els:List (List Value)}(ha:Arr h z v els)(e:Ext h k){i:Nat}{x:List Value}(hi:els[i]?=some x) :
  ∃ p,zE E T (some v) (some (iI (i:Int)))=some p/\zH E et k (some p)=some (.agg ⟨x⟩):=by
 obtain⟨b,o,c,vs,ty,es,ro,rfl,hb,ab,bc,hx,hl⟩:=ha.load hi;have bi:i<els.length:=(List.getElem?_eq_some_iff.1 hi).1;refine⟨_,zAb hT hz bi,?_⟩;rw[zZ hta ((e.get b ab).trans hb) bc,hx]
def zLx{h k:AH}{v:Value}{els:List (List Value)}(ha:Arr h 3 v els)(e:Ext h k){i:Nat}{x:List Value}(hi:els[i]?=some x) :
  ∃ p,zE E 34 (some v) (some (iI (i:Int)))=some p/\zH E 173 k (some p)=some (.agg ⟨x⟩):=zKo zT3 zLM zCZ ha e hi
def zn6{h k:AH}{v:Value}{els:List (List Value)}(ha:Arr h 2 v els)(e:Ext h k){i:Nat}{x:List Value}(hi:els[i]?=some x) :
  ∃ p,zE E 22 (some v) (some (iI (i:Int)))=some p/\zH E 36 k (some p)=some (.agg ⟨x⟩):=zKo zLL zjg zE0 ha e hi
def zn5{h k:AH}{v:Value}{els:List (List Value)}(ha:Arr h 3 v els)(e:Ext h k){i:Nat}{x:List Value}(hi:els[i]?=some x) :
  ∃ p,zE E 23 (some v) (some (iI (i:Int)))=some p/\zH E 52 k (some p)=some (.agg ⟨x⟩):=zKo zT4 zjf zQk ha e hi
def zPS(a b:Int):Int:=if a<b then -1 else if b<a then 1 else 0
def zOl{k:AH}{a b:Int}(aa:k.ok):(zV E).call 232 [iI a,iI b] k=some [(iI (zPS a b),k)]:=by
 refine zdV (s:=true) aa rfl (zZ7 ?_);refine zZ6 ?_;simp only[zA,zY,zAN];refine⟨fun h1=>zZ5 ?_,fun h1=>zZ4 ?_⟩
 ·simp[zA,zAS,zU,zPS,h1]
 simp only[zA,zAO,zAN];refine⟨fun h2=>zZ3 ?_,fun h2=>zZ2 ?_⟩
 ·simp[zA,zAS,zU,zPS,h1,h2]
 ·simp[zA,zAS,zU,zPS,h1,h2]
mutual
def zk3:GT->GT->Int
 | .mk k n l,.mk k' n' l'=>if zPS k k'=0 then (if zPS n n'=0 then (if zPS l.length l'.length=0 then zRb l l' else zPS l.length l'.length) else zPS n n') else zPS k k'
def zRb:List GT->List GT->Int
 | t::ts,u::us=>if zk3 t u=0 then zRb ts us else zk3 t u
 | [],_=>0
 | _::_,[]=>0
end
def zWh(h0:AH)(kk nn:Int)(v:Value)(l:List GT):Prop:=∀(k:AH) (kk' nn':Int) (v':Value) (l':List GT),RT h0 v' l'->Ext h0 k->
 (zV E).call 188 [.agg #[iI kk,iI nn,v],.agg #[iI kk',iI nn',v']] k=some [(iI (zk3 (.mk kk nn l) (.mk kk' nn' l')),k)]
def zPR{a b:Nat}(h:zPS (a:Int) (b:Int)=0):a=b:=by
 unfold zPS at h;split at h
 ·cases h
 ·split at h
  ·cases h
  ·omega
mutual
def zjn{h0:AH}:∀ {v:Value} {l:List GT},RT h0 v l->∀(kk nn:Int),zWh h0 kk nn v l
 | v,l,.mk (els:=els) ha hn hc,kk,nn=>by
  intro k kk' nn' v' l' bG hk;have ba:RT h0 v l:=.mk ha hn hc;have dR:=zKU hc;have hlen:=RC.length hc;obtain⟨sa,sc,rfl⟩:=ba.slice;obtain⟨sa',sc',rfl⟩:=bG.slice;refine zde (s:=true) hk.ok rfl (zbF ?_);obtain⟨k1,e1,n1,t1,o1,f1⟩:=nwF k (rO [iI kk,iI nn,.slice sa l.length sc] 173);obtain⟨k2,e2,n2,t2,o2,f2⟩:=nw o1 (rO [iI kk',iI nn',.slice sa' l'.length sc'] 173);simp only[zd,zL,zX,zA,e1,e2,za];have g1:=(f2 k.qa (by omega)).trans t1;have l0:=zF (P:=E) zAa (o:=0) g1;have l1:=zF (P:=E) zAa (o:=1) g1;have l2:=zF (P:=E) zDv (o:=2) g1;have m0:=zF (P:=E) zAa (o:=0) t2;have m1:=zF (P:=E) zAa (o:=1) t2;have m2:=zF (P:=E) zDv (o:=2) t2;simp only[lnth] at l0 l1 l2 m0 m1 m2;have ex2:=hk.trans o2.ext;have stop:∀ c:Int,zmK true (KR E [.tmp 4] fun x m=>x=iI c/\k.qa<=m.wm) (iI c) k2:=by
   intro c;refine zSi ?_;simp only[zA,zAS,zU,true_and];exact o2.wm
  have quit:∀(c i:Int),c≠0->zjS true (KR E [.tmp 4] fun x m=>x=iI c/\k.qa<=m.wm) (.pointer (some ⟨k.qa,0,none⟩)) (.pointer (some ⟨k1.qa,0,none⟩)) (iI c) (iI i) k2:=by
   intro c i iJ;refine zIf ?_;simp only[zAi,xAK,l2,zA,zGV,zY,zM,zAd,iJ,decide_false];by_cases hi:i<(l.length:Int)
   ·simp only[hi,decide_true,xAO,xAG,zA,zJ,zM,zAd,iJ,decide_false,zi];exact stop c
   ·simp only[hi,decide_false,show (false==true)=false from rfl,xAH,zA,zJ,zi];exact stop c
  have loop:∀(m i:Nat),i+m=l.length->l.length=l'.length->zjS true (KR E [.tmp 4] fun x m=>x=iI (zRb (l.drop i) (l'.drop i))/\k.qa<=m.wm) (.pointer (some ⟨k.qa,0,none⟩)) (.pointer (some ⟨k1.qa,0,none⟩)) (iI 0) (iI (i:Int)) k2:=by
   intro m
   induction m with
   | zero=>
    intro i hi hl;have:l.drop i=[]:=List.drop_eq_nil_of_le (by omega);rw[this];refine zIf ?_;simp only[zAi,xAK,l2,zA,zGV,zY,show decide ((i:Int)<(l.length:Int))=false from xAI (by omega),zM,show (false==true)=false from rfl,xAH,zJ,zi];exact stop 0
   | succ m ih=>
    intro i hi hl;have bi:i<l.length:=by omega
    have hil':i<l'.length:=by omega
    refine zIf ?_;simp only[zAi,xAK,l2,zA,zGV,zY,show decide ((i:Int)<(l.length:Int))=true from xAJ (by omega),zM,xAO,xAG,zAd,decide_true,zJ,zy];refine zbA ?_;cases bG with
    | @mk _ els' _ cT iG aH=>
     have c9:=RC.length aH;obtain⟨x,hx⟩:∃ x,els[i]?=some x:=⟨_,xAA (by omega)⟩;obtain⟨y,hy⟩:∃ y,els'[i]?=some y:=⟨_,xAA (by omega)⟩;obtain⟨p1,q1,w1⟩:=zLx ha ex2 hx;obtain⟨p2,q2,w2⟩:=zLx cT ex2 hy;obtain⟨ck,cn,cv,cl,rfl,r1,r2,r3⟩:=dR i x hx;obtain⟨dk,dn,dv,dl,rfl,s1,s2⟩:=RC.at aH i y hy;have bJ:=r3 k2 dk dn dv dl s1 ex2;have e3:l.drop i=GT.mk ck cn cl::l.drop (i+1):=by rw[List.drop_eq_getElem_cons bi,(List.getElem?_eq_some_iff.1 r2).2]
     have e4:l'.drop i=GT.mk dk dn dl::l'.drop (i+1):=by rw[List.drop_eq_getElem_cons hil',(List.getElem?_eq_some_iff.1 s2).2]
     simp only[zAi,xAK,l2,m2,zA,q1,w1,q2,w2,zS,bJ,zO];refine za9 ?_;simp only[zA,zAK _ (zDu bi (by omega))];rw[e3,e4];simp only[zRb];by_cases hz:zk3 (GT.mk ck cn cl) (GT.mk dk dn dl)=0
     ·rw[if_pos hz,hz];exact ih (i+1) (by omega) hl
     ·rw[if_neg hz];exact quit _ _ hz
  refine zbE ?_;simp only[zF5,Nat.add_zero,l0,m0,zA,zS,zOl o2.ext.ok,zO];refine zbD ?_;simp only[zA,zAd,zAN,zk3];refine⟨fun h1=>?_,fun h1=>?_⟩;rotate_left
  ·rw[if_neg h1];refine zNA ?_;simp only[zA,zAd,h1,decide_false,zi];refine zIg ?_;exact quit _ _ h1
  rw[if_pos h1];refine zbC ?_;simp only[zF4,xAK,l1,m1,zA,zS,zOl o2.ext.ok,zO];refine zNA ?_;simp only[zA,zAd,zAN];refine⟨fun h2=>?_,fun h2=>?_⟩;rotate_left
  ·rw[if_neg h2];refine zIg ?_;exact quit _ _ h2
  rw[if_pos h2];refine zbB ?_;simp only[zAi,xAK,l2,m2,zA,zRN,zRM,zS,zOl o2.ext.ok,zO];refine zIg ?_;by_cases h3:zPS (l.length:Int) (l'.length:Int)=0
  ·rw[if_pos h3,h3];have:=loop l.length 0 (by omega) (zPR h3);simpa using this
  ·rw[if_neg h3];exact quit _ _ h3
def zKU{h0:AH}:∀ {els:List (List Value)} {ts:List GT},RC h0 els ts->∀(i:Nat) (e:List Value),els[i]?=some e->
  ∃(k n:Int) (v:Value) (l:List GT),e=[iI k,iI n,v]/\RT h0 v l/\ts[i]?=some (.mk k n l)/\zWh h0 k n v l
 | _,_,.nil,i,e,h=>by simp at h
 | _,_,.cons hv hs,0,e,h=>by simp at h;exact⟨_,_,_,_,h.symm,hv,rfl,zjn hv _ _⟩
 | _,_,.cons hv hs,i+1,e,h=>by
  simp only[List.getElem?_cons_succ] at h;obtain⟨k,n,v,l,a,b,c,d⟩:=zKU hs i e h;exact⟨k,n,v,l,a,b,by simpa using c,d⟩
end
end Go.Proofs
namespace Go.Proofs
open Go Go.AM
abbrev Dt:=Array (Int×Int)
def zHD(d:Dt):List Value:=d.toList.flatMap zG
def zBp:∀ l:List (Int×Int),(l.flatMap zG).length=l.length*2
 | []=>rfl
 | x::l=>by simp only[List.flatMap_cons,List.length_append,List.length_cons,zBp l];simp[zG];omega
def zES(d:Dt):(zHD d).length=d.size*2:=zBp d.toList
def zKY:∀(l:List (Int×Int)) (i:Nat) (x:Int×Int),l[i]?=some x->((l.flatMap zG).drop (i*2)).take 2=zG x
 | [],i,x,h=>by simp at h
 | y::l,0,x,h=>by simp at h;subst h;rfl
 | y::l,i+1,x,h=>by
  have:=zKY l i x (by simpa using h);rw[show (i+1)*2=i*2+2 by omega];exact this
def zPL:∀(l:List (Int×Int)) (i:Nat) (x:Int×Int),i<l.length->lput (l.flatMap zG) (i*2) (zG x)=(l.set i x).flatMap zG
 | [],i,x,h=>by simp at h
 | y::l,0,x,h=>by
  show iI x.1::iI x.2::lput (l.flatMap zG) 0 []=_;have:lput (l.flatMap zG) 0 []=l.flatMap zG:=by cases l.flatMap zG <;> rfl
  rw[this];rfl
 | y::l,i+1,x,h=>by
  have:=zPL l i x (by simpa using h);rw[show (i+1)*2=i*2+2 by omega];show iI y.1::iI y.2::lput (l.flatMap zG) (i*2) (zG x)=_;rw[this];rfl
def zif(x:Int×Int):(zG x).all zq=true:=by simp[zG,zq]
section
variable {b ty es:Nat} {k0 k:AH} {d0 d:Dt}
def zJA(h:AH)(b:Nat)(o:Option AObj):(h.upd b o).wm<=b/\(h.upd b o).wm<=h.wm:=by
 show cond (Nat.ble h.wm b) h.wm b<=b/\cond (Nat.ble h.wm b) h.wm b<=h.wm;cases hc:Nat.ble h.wm b with
 | true=>have:=ble_true.1 hc;simp only[xAG];omega
 | false=>have:=ble_false.1 hc;simp only[xAH];omega
end
def zeP(d:Dt)(i j:Nat):(Go.Sort.swp d i j).size=d.size:=by simp[Go.Sort.swp]
def zCk(cf:Value)(cm:Int×Int->Int×Int->Int):Prop:=∀ k x y,k.ok->zT (zV E) (some cf) (some [.agg ⟨zG x⟩,.agg ⟨zG y⟩]) k=some [(iI (cm x y),k)]
abbrev zAe(cm:Int×Int->Int×Int->Int):Int×Int->Int×Int->Bool:=fun x y=>decide (cm x y<0)
def zOy{a c:Nat}(h:a+c<=9223372036854775807)(t:TypeId):zC E .add t (iI (a:Int)) (iI (c:Int))=some (iI ((a+c:Nat):Int)):=by
 rw[zAK t (by unfold zC1;omega)];rfl
def zBc{a:Nat}(h:a+1<=9223372036854775807)(t:TypeId):zC E .add t (iI (a:Int)) (iI 1)=some (iI ((a+1:Nat):Int)):=zOy (c:=1) h t
def subN{a c:Nat}(h:c<=a)(ha:a<=9223372036854775807)(t:TypeId):zC E .sub t (iI (a:Int)) (iI (c:Int))=some (iI ((a-c:Nat):Int)):=by
 rw[zG9 t (by unfold zC1;omega)]
 congr 2;omega
def zB3{a:Nat}(h:1<=a)(ha:a<=9223372036854775807)(t:TypeId):zC E .sub t (iI (a:Int)) (iI 1)=some (iI ((a-1:Nat):Int)):=subN (c:=1) h ha t
def zK0{f:FuncId}{fn:Func}{c:Code}{args:List Value}{h:AH}{Q:Value->AH->Prop}(aa:h.ok)(hf:E.tab.fn.get f=some fn)(hb:fn.body=some c)(aF:E.sum f args h=none)(hl:Nat.ble (zBH args) fn.ntmps=true)
  (cP:Ev true (R.andThen (evC E (zV E) none (zc fn) ⟨⟨fn.ntmps,zCB args 0 .e⟩,h.qb,[]⟩) (zAW E fn)) fun x=>Q x.1 x.2) :
  Ev true ((zV E).call f args h) fun x=>∃ k,Q x.1 k/\((h.qa<=k.wm/\x.2=h)\/x.2=⟨k.t,k.qa,cond (Nat.ble h.wm k.wm) h.wm k.wm⟩):=by
 rw[zBT hf hb aF hl];obtain⟨l,e,ah,h1,ct⟩:=cP;rw[e]
 match l,h1 rfl with
 | [x],_=>
  have hq:=ct x (by simp);show Ev true (some [zUU h.wm (zBQ h.qb x)]) _;rw[zO];unfold zBQ;cases hc:(zD9 h.qb x&&zg x.1) with
  | true=>
   have aG:zD9 h.qb x=true:=by simp only[xAP] at hc;exact hc.1
   simp only[xAG];refine⟨x.2,hq,.inl ⟨ble_true.1 aG,?_⟩⟩;show (⟨h.t,h.qa,cond (Nat.ble h.wm (Nat.add h.qa UNK)) h.wm (Nat.add h.qa UNK)⟩:AH)=h;have:Nat.ble h.wm (Nat.add h.qa UNK)=true:=ble_true.2 aa;rw[this];rfl
  | false=>
   simp only[xAH];exact⟨x.2,hq,.inr rfl⟩
abbrev QF(F:Dt):Value->Dt->Prop:=fun x d'=>x=.tuple #[]/\d'=F
abbrev sl(b n c:Nat):Value:=.slice (some ⟨b,0,none⟩) n c
section
variable {b ty es c:Nat} {k:AH} {d:Dt}
end
end Go.Proofs
namespace Go.Proofs
open Go Go.AM Go.Sort
def zWS(t:TypeId){a b:Int}(h:zC1 (a*b)):zC E .mul t (iI a) (iI b)=some (iI (a*b)):=by
 show some (iI (zCM .i64 (a*b)))=_;rw[zDb h]
def ft:(false==true)=false:=rfl
section
variable {b ty es c:Nat} {k:AH} {d:Dt} {cf:Value} {cm:Int×Int->Int×Int->Int}
end
def zUK{T:Tm}{o:Oper}{op:BinOp}{t u:TypeId}{x y:Operand}{va vb v:Value}(ho:o.op=.binOp op t x y u)(h1:rho T x=va)(h2:rho T y=vb)(fx:zl T x=true)(fy:zl T y=true)
  (fast:zC E op t va vb=none) (hg:eqGuard op t x y va vb=pure ()) (hv:binOp op t va vb=pure v) (fv:zg v=true):ze E T o=some v:=by
 have hx:zAU E.prog (execOp (rho T) o)=some (.value v):=by
  unfold execOp;simp only[ho,h1,h2];show zAU E.prog (Bind.bind (Bind.bind (eqGuard op t x y va vb) fun _=>binOp op t va vb) fun x=>pure (Next.value x))=_;rw[hg,hv];rfl
 have hf:(o.op.operands.toList.all (zl T)&&zDD o.op)=true:=by
  rw[ho];show (zl T x&&(zl T y&&true))&&true=true;rw[fx,fy];rfl
 have hp:zBY E T o=some v:=by
  unfold zBY;rw[hf,hx];simp only[xAG,fv]
 simp only[ze,ho,zig,h1,h2,fast,zFo,fx,fy,Bool.and_self,xAG,hp]
def zHs{T:Tm}{o:Oper}{u cc:Nat}(ho:o.op=.binOp .quo 3 (.tmp u) (.const (iI (cc:Int))) 3){a:Nat}(h1:T.get u=iI (a:Int))(hc:0<cc)(ha:a<=9223372036854775807):ze E T o=some (iI ((a / cc:Nat):Int)):=by
 refine zUK ho (va:=iI (a:Int)) (vb:=iI (cc:Int)) h1 rfl (by show zg (T.get u)=true;rw[h1];rfl) rfl rfl rfl ?_ rfl;show Op.intDiv .quo .i64 (a:Int) (cc:Int)=_;unfold Op.intDiv;rw[if_neg (by omega)];have:IntKind.i64.wrap ((a:Int).tdiv (cc:Int))=((a / cc:Nat):Int):=by
  rw[← zFc];have e:(a:Int).tdiv (cc:Int)=((a / cc:Nat):Int):=rfl;rw[e];refine zDb ?_;have:=Nat.div_le_self a cc;have h2:(0:Int)<=((a / cc:Nat):Int):=Int.natCast_nonneg _;have h3:((a / cc:Nat):Int)<=(a:Int):=by exact_mod_cast this
  unfold zC1;omega
 show pure (iI (IntKind.i64.wrap ((a:Int).tdiv (cc:Int))))=_;rw[this]
section
variable {b ty es c:Nat} {k:AH} {d:Dt} {cf:Value} {cm:Int×Int->Int×Int->Int}
end
def zFD{m:AH}{w b:Nat}{o:Option AObj}(h:m.get b=o):AH.get ⟨m.t,m.qa,w⟩ b=o:=h
section
variable {b ty es c:Nat} {k:AH} {d:Dt} {cf:Value} {cm:Int×Int->Int×Int->Int}
def ziW{sw:Nat}{z0:Int}{f:FuncId}{fn:Func}{cc:Code}{args:List Value}{Q:Value->Prop}(dq:k.get sw=some (rO [iI z0] 3))(aa:k.ok)
  (hf:E.tab.fn.get f=some fn) (hb:fn.body=some cc) (aF:E.sum f args k=none) (hl:Nat.ble (zBH args) fn.ntmps=true)
  (cP:Ev true (R.andThen (evC E (zV E) none (zc fn) ⟨⟨fn.ntmps,zCB args 0 .e⟩,k.qb,[]⟩) (zAW E fn)) fun x=>Q x.1/\Fx (fun c=>c=sw) k.qb x.2/\∃ z,x.2.get sw=some (rO [iI z] 3)) :
  Ev true ((zV E).call f args k) fun x=>Q x.1/\Fx (fun c=>c=sw) k x.2/\∃ z,x.2.get sw=some (rO [iI z] 3):=by
 refine (zK0 (Q:=fun v m=>Q v/\Fx (fun c=>c=sw) k.qb m/\∃ z,m.get sw=some (rO [iI z] 3)) aa hf hb aF hl cP).mono ?_;rintro⟨v,m⟩ ⟨k1,⟨hq,f,z,hz⟩,⟨h1,h2⟩|h2⟩
 ·simp only at h2 hq ⊢;subst h2;exact⟨hq,Fx.refl aa,z0,dq⟩
 ·simp only at h2 hq ⊢;subst h2;exact⟨hq,f.back,z,zFD hz⟩
def ex0{a b:Value}:zt 0 (some (.tuple #[a,b]))=some a:=rfl
def ex1{a b:Value}:zt 1 (some (.tuple #[a,b]))=some b:=rfl
end
def zrT{a c:Nat}(h:a*c<=9223372036854775807)(t:TypeId):zC E .mul t (iI (a:Int)) (iI (c:Int))=some (iI ((a*c:Nat):Int)):=by
 have h2:(a:Int)*(c:Int)=((a*c:Nat):Int):=by push_cast;rfl
 rw[zWS t (by unfold zC1;omega),h2]
def zrS{a:Nat}(h:a*1<=9223372036854775807)(t:TypeId):zC E .mul t (iI (a:Int)) (iI 1)=some (iI ((a*1:Nat):Int)):=zrT (c:=1) h t
def zej{a:Nat}(h:a*2<=9223372036854775807)(t:TypeId):zC E .mul t (iI (a:Int)) (iI 2)=some (iI ((a*2:Nat):Int)):=zrT (c:=2) h t
def zrR{a:Nat}(h:a*3<=9223372036854775807)(t:TypeId):zC E .mul t (iI (a:Int)) (iI 3)=some (iI ((a*3:Nat):Int)):=zrT (c:=3) h t
section
variable {b ty es c:Nat} {k:AH} {d:Dt} {cf:Value} {cm:Int×Int->Int×Int->Int}
end
def zNk{a:Nat}(h:a<18446744073709551616):IntKind.u64.wrap (a:Int)=(a:Int):=by rw[IntKind.wrap_u64];omega
def zm1{a:Nat}(h:a<=9223372036854775807):IntKind.i64.wrap (a:Int)=(a:Int):=by rw[← zFc];exact zDb (by unfold zC1;omega)
def zjk:((List.range 256).all fun i=>match zDC E 9 (some (.string ⟨#[0,1,2,2,3,3,3,3,4,4,4,4,4,4,4,4,5,5,5,5,5,5,5,5,5,5,5,5,5,5,5,5,6,6,6,6,6,6,6,6,6,6,6,6,6,6,6,6,6,6,6,6,6,6,6,6,6,6,6,6,6,6,6,6,7,7,7,7,7,7,7,7,7,7,7,7,7,7,7,7,7,7,7,7,7,7,7,7,7,7,7,7,7,7,7,7,7,7,7,7,7,7,7,7,7,7,7,7,7,7,7,7,7,7,7,7,7,7,7,7,7,7,7,7,7,7,7,7,8,8,8,8,8,8,8,8,8,8,8,8,8,8,8,8,8,8,8,8,8,8,8,8,8,8,8,8,8,8,8,8,8,8,8,8,8,8,8,8,8,8,8,8,8,8,8,8,8,8,8,8,8,8,8,8,8,8,8,8,8,8,8,8,8,8,8,8,8,8,8,8,8,8,8,8,8,8,8,8,8,8,8,8,8,8,8,8,8,8,8,8,8,8,8,8,8,8,8,8,8,8,8,8,8,8,8,8,8,8,8,8,8,8,8,8,8,8,8,8,8,8,8,8,8,8,8,8]⟩)) (some (.int .u8 (i:Int))) with
 | some (.int .u8 (.ofNat t))=>Nat.ble t 8&&(Nat.beq i 0||Nat.ble (2 ^ t) (2*i))
 | _=>false)=true:=by kernel_rfl
def znJ{i:Nat}(h:i<256):∃ t:Nat,zDC E 9 (some (.string ⟨#[0,1,2,2,3,3,3,3,4,4,4,4,4,4,4,4,5,5,5,5,5,5,5,5,5,5,5,5,5,5,5,5,6,6,6,6,6,6,6,6,6,6,6,6,6,6,6,6,6,6,6,6,6,6,6,6,6,6,6,6,6,6,6,6,7,7,7,7,7,7,7,7,7,7,7,7,7,7,7,7,7,7,7,7,7,7,7,7,7,7,7,7,7,7,7,7,7,7,7,7,7,7,7,7,7,7,7,7,7,7,7,7,7,7,7,7,7,7,7,7,7,7,7,7,7,7,7,7,8,8,8,8,8,8,8,8,8,8,8,8,8,8,8,8,8,8,8,8,8,8,8,8,8,8,8,8,8,8,8,8,8,8,8,8,8,8,8,8,8,8,8,8,8,8,8,8,8,8,8,8,8,8,8,8,8,8,8,8,8,8,8,8,8,8,8,8,8,8,8,8,8,8,8,8,8,8,8,8,8,8,8,8,8,8,8,8,8,8,8,8,8,8,8,8,8,8,8,8,8,8,8,8,8,8,8,8,8,8,8,8,8,8,8,8,8,8,8,8,8,8,8,8,8,8,8,8]⟩)) (some (.int .u8 (i:Int)))=some (.int .u8 (t:Int))/\t<=8/\(1<=i->2 ^ t<=2*i):=by
 have:=List.all_eq_true.1 zjk i (List.mem_range.2 h);split at this
 ·rename_i t he;simp only[xAP,Bool.or_eq_true] at this;refine⟨t,he,ble_true.1 this.1,fun h1=>?_⟩;rcases this.2 with h2|h2
  ·have:=Nat.eq_of_beq_eq_true h2;omega
  ·exact ble_true.1 h2
 ·cases this
def zk1(a:Int)(h:AH):zQ E (zk [(20,.int .u64 a)]) (zn ziM [1,1,1,1,0] 2) h=some (.int .u8 (IntKind.u8.wrap a)):=by kernel_rfl
def ze4(a:Int)(h:AH):zQ E (zk [(22,.int .u8 a)]) (zn ziM [1,1,1,1,0] 4) h=some (iI (IntKind.i64.wrap a)):=by kernel_rfl
def znR(a:Int):ze E (zk [(15,.int .u64 a)]) (zn ziM [1,1,1,0,1,0,0] 1)=some (.int .u64 (a.fdiv (2 ^ (8:Nat)))):=by kernel_rfl
def zjo(a:Int):ze E (zk [(9,.int .u64 a)]) (zn ziM [1,1,0,1,0,0] 1)=some (.int .u64 (a.fdiv (2 ^ (16:Nat)))):=by kernel_rfl
def zED(t:TypeId)(a b:Int):zC E .geq t (.int .u64 a) (.int .u64 b)=some (.bool (decide (b<=a))):=by
 show some (Value.bool (ile b a))=_;rw[zGd]
def zla{k:AH}(aa:k.ok){x:Nat}(h2:x<16777216):∃ l:Nat,((1<=x->2 ^ l<=2*x)/\l<=24)/\(zV E).call 153 [.int .u64 (x:Int)] k=some [(iI (l:Int),k)]:=by
 have tail:∀ {y:Nat} {m:Nat} {F:Nat->Prop} {K:KF},y<256->m<=16->(∀ t:Nat,t<=8->(1<=y->2 ^ t<=2*y)->K .ret [iI ((m+t:Nat):Int)] k.qb)->zmL true K (.int .u64 (y:Int)) (iI (m:Int)) k.qb:=by
  intro y m F K hy hm hK;refine zSr ?_;obtain⟨t,t1,t2,t3⟩:=znJ hy;have e1:IntKind.u8.wrap (y:Int)=(y:Int):=by
   have:IntKind.u8.wrap (y:Int)=(y:Int) % 256:=by simp[IntKind.wrap,IntKind.bits,IntKind.signed]
   rw[this];omega
  simp only[zA,zk1,e1,t1,ze4,zm1 (show t<=9223372036854775807 by omega),zOy (show m+t<=9223372036854775807 by omega)];exact hK t t2 t3
 by_cases iv:65536<=x
 ·have main:∃ v,(∃ l:Nat,((1<=x->2 ^ l<=2*x)/\l<=24)/\v=iI (l:Int))/\(zV E).call 153 [.int .u64 (x:Int)] k=some [(v,k)]:=by
   refine zGr aa (zIn (zIm ?_));simp only[zA,zED,show decide ((4294967296:Int)<=(x:Int))=false from xAI (by omega),zi];refine zIl ?_;simp only[zA,zED,show decide ((65536:Int)<=(x:Int))=true from xAJ (by omega),zy];refine zb0 ?_;have e2:(x:Int).fdiv (2 ^ (16:Nat))=((x / 65536:Nat):Int):=by
    rw[Int.fdiv_eq_ediv_of_nonneg _ (by decide)];rfl
   simp only[zA,zjo,e2];refine zbz ?_;rw[zAK 3 (a:=0) (b:=16) (by unfold zC1;omega)]
   try simp only[zA]
   refine zIk ?_;simp only[zA,zED,show decide ((256:Int)<=((x / 65536:Nat):Int))=false from xAI (by omega),zi];refine tail (m:=16) (F:=fun _=>True) (by omega) (by omega) fun t ht h3=>?_;rw[zAS];refine⟨zU ▸ trivial,⟨rfl,16+t,⟨?_,by omega⟩,rfl⟩,Nat.le_add_right _ _⟩;intro _;have:=h3 (by omega);rw[Nat.pow_add];omega
  obtain⟨v,⟨l,hl,rfl⟩,h⟩:=main;exact⟨l,hl,h⟩
 by_cases hx:x<256
 ·have main:∃ v,(∃ l:Nat,((1<=x->2 ^ l<=2*x)/\l<=24)/\v=iI (l:Int))/\(zV E).call 153 [.int .u64 (x:Int)] k=some [(v,k)]:=by
   refine zGr aa (zIn ?_)
   try simp only[zA]
   refine zIm ?_;simp only[zA,zED,show decide ((4294967296:Int)<=(x:Int))=false from xAI (by omega),zi];refine zIl ?_;simp only[zA,zED,show decide ((65536:Int)<=(x:Int))=false from xAI (by omega),zi];refine zIk ?_;simp only[zA,zED,show decide ((256:Int)<=(x:Int))=false from xAI (by omega),zi];refine tail (m:=0) (F:=fun _=>True) hx (by omega) fun t ht h3=>?_;rw[zAS,xAK];exact⟨zU ▸ trivial,⟨rfl,t,⟨h3,by omega⟩,rfl⟩,Nat.le_add_right _ _⟩
  obtain⟨v,⟨l,hl,rfl⟩,h⟩:=main;exact⟨l,hl,h⟩
 ·have main:∃ v,(∃ l:Nat,((1<=x->2 ^ l<=2*x)/\l<=24)/\v=iI (l:Int))/\(zV E).call 153 [.int .u64 (x:Int)] k=some [(v,k)]:=by
   refine zGr aa (zIn ?_)
   try simp only[zA]
   refine zIm ?_;simp only[zA,zED,show decide ((4294967296:Int)<=(x:Int))=false from xAI (by omega),zi];refine zIl ?_;simp only[zA,zED,show decide ((65536:Int)<=(x:Int))=false from xAI (by omega),zi];refine zIk ?_;simp only[zA,zED,show decide ((256:Int)<=(x:Int))=true from xAJ (by omega),zy];refine zby ?_;have e2:(x:Int).fdiv (2 ^ (8:Nat))=((x / 256:Nat):Int):=by
    rw[Int.fdiv_eq_ediv_of_nonneg _ (by decide)];rfl
   simp only[zA,znR,e2];refine zbx ?_
   try simp only[zA]
   rw[zAK 3 (a:=0) (b:=8) (by unfold zC1;omega)]
   try simp only[zA]
   refine tail (m:=8) (F:=fun _=>True) (by omega) (by omega) fun t ht h3=>?_;rw[zAS];refine⟨zU ▸ trivial,⟨rfl,8+t,⟨?_,by omega⟩,rfl⟩,Nat.le_add_right _ _⟩;intro _;have:=h3 (by omega);rw[Nat.pow_add];omega
  obtain⟨v,⟨l,hl,rfl⟩,h⟩:=main;exact⟨l,hl,h⟩
def zV0{k:AH}(aa:k.ok){x:Nat}(h2:x<16777216):∃ l:Nat,((1<=x->2 ^ l<=2*x)/\l<=24)/\(zV E).call 93 [.int .u64 (x:Int)] k=some [(iI (l:Int),k)]:=by
 obtain⟨l,hl,h⟩:=zla (zAX k) h2;refine⟨l,hl,zc9 aa rfl (zfR ?_)⟩;simp only[zA,zi];refine zfQ ?_;simp only[zA,zS,h,zO,zAS,zU,true_and];exact Nat.le_add_right _ _
def zk0(a:Int)(h:AH):zQ E (zk [(3,iI a)]) (zn zmx [1,0] 1) h=some (.int .u64 (IntKind.u64.wrap a)):=by kernel_rfl
def zUO:(zn zmx [1,0] 3).op=.binOp .shl 140 (.const (.int .u64 1)) (.tmp 5) 3:=by kernel_rfl
def znS{l:Nat}(hl:l<=24):ze E (zk [(5,iI (l:Int))]) (zn zmx [1,0] 3)=some (.int .u64 ((2 ^ l:Nat):Int)):=by
 have h1:(zk [(5,iI (l:Int))]).get 5=iI (l:Int):=by kernel_rfl
 refine zUK zUO (va:=.int .u64 1) (vb:=iI (l:Int)) rfl h1 rfl (by show zg _=true;rw[h1];rfl) rfl rfl ?_ rfl;show Op.shift .shl .u64 1 .i64 (l:Int)=_;unfold Op.shift;rw[if_neg (by omega)];have e:min (l:Int).toNat IntKind.u64.bits=l:=by
  show min (l:Int).toNat 64=l;omega
 have hp:2 ^ l<=2 ^ 24:=Nat.pow_le_pow_right (by decide) hl;have:IntKind.u64.wrap (1*2 ^ (min (l:Int).toNat IntKind.u64.bits))=((2 ^ l:Nat):Int):=by
  rw[e,Int.one_mul,show ((2:Int) ^ l)=((2 ^ l:Nat):Int) by push_cast;rfl];exact zNk (by omega)
 show pure (Value.int .u64 (IntKind.u64.wrap (1*2 ^ (min (l:Int).toNat IntKind.u64.bits))))=_;rw[this]
def zlP{k:AH}(aa:k.ok){x:Nat}(h1:1<=x)(h2:x<16777216):∃ m:Nat,(1<=m/\m<=2*x)/\(zV E).call 193 [iI (x:Int)] k=some [(.int .u64 (m:Int),k)]:=by
 obtain⟨l,hl,h⟩:=zV0 (zAX k) h2;refine⟨2 ^ l,⟨Nat.one_le_two_pow,hl.1 h1⟩,zTQ aa rfl (zao ?_)⟩
 try simp only[zA]
 refine zan ?_;simp only[zA,zk0,zNk (show x<18446744073709551616 by omega),zS,h,zO,znS hl.2,zAS,zU,true_and];exact Nat.le_add_right _ _
def zrF(a:Int):ze E (zk [(8,.int .u64 a)]) (zn zQh [1,0] 6)=some (.int .u64 (IntKind.u64.wrap (a*2 ^ (13:Nat)))):=by kernel_rfl
def zq5(a b:Int):ze E (zk [(5,.int .u64 a),(9,.int .u64 b)]) (zn zQh [1,0] 7)=some (.int .u64 (IntKind.u64.wrap (BitVec.ofInt 64 a ^^^ BitVec.ofInt 64 b).toNat)):=by kernel_rfl
def zrE(a:Int):ze E (zk [(17,.int .u64 a)]) (zn zQh [1,1,0] 6)=some (.int .u64 (a.fdiv (2 ^ (7:Nat)))):=by kernel_rfl
def zq4(a b:Int):ze E (zk [(14,.int .u64 a),(18,.int .u64 b)]) (zn zQh [1,1,0] 7)=some (.int .u64 (IntKind.u64.wrap (BitVec.ofInt 64 a ^^^ BitVec.ofInt 64 b).toNat)):=by kernel_rfl
def zrD(a:Int):ze E (zk [(26,.int .u64 a)]) (zn zQh [1,1,1,0] 6)=some (.int .u64 (IntKind.u64.wrap (a*2 ^ (17:Nat)))):=by kernel_rfl
def zq3(a b:Int):ze E (zk [(23,.int .u64 a),(27,.int .u64 b)]) (zn zQh [1,1,1,0] 7)=some (.int .u64 (IntKind.u64.wrap (BitVec.ofInt 64 a ^^^ BitVec.ofInt 64 b).toNat)):=by kernel_rfl
def U64(h:AH)(r:Nat):Prop:=∃ z,h.get r=some (rO [.int .u64 z] 253)
def zPC{h:AH}{r:Nat}(H:U64 h r)(z:Int):∃ m,zb E 253 h (some (ptr r)) (some (.int .u64 z))=one (undef,m)/\U64 m r/\m.wm<=r/\m.wm<=h.wm/\∀(k0:AH) (P:Nat->Prop),(P r\/k0.qa<=r)->Fx P k0 h->Fx P k0 m:=by
 obtain⟨y,hy⟩:=H;exact⟨_,zAC (P:=E) znC (x:=.int .u64 z) (cs:=[.int .u64 z]) (o:=0) hy rfl rfl (by simp) rfl,⟨z,zN _ _ _⟩,(zJA _ _ _).1,(zJA _ _ _).2,fun k0 P hP f=>f.upd hP _⟩
def zlO{k:AH}{r:Nat}(hr:U64 k r)(hrl:r<k.qa)(aa:k.ok):Ev true ((zV E).call 194 [ptr r] k) fun x=>(∃ u,x.1=.int .u64 u)/\Fx (fun c=>c=r) k x.2/\U64 x.2 r/\x.2.wm<=k.wm:=by
 refine (zK0 (Q:=fun v m=>(∃ u,v=.int .u64 u)/\Fx (fun c=>c=r) k.qb m/\U64 m r) aa zhv zdc (zhu _ _) (by kernel_rfl) (zmd (Rp:=fun v m=>(∃ u,v=.int .u64 u)/\Fx (fun c=>c=r) k.qb m/\U64 m r) (zam ?_))).mono ?_;rotate_left
 ·rintro⟨v,m⟩ ⟨k1,⟨hq,f,hz⟩,⟨h1,h2⟩|h2⟩
  ·simp only at h2 hq ⊢;subst h2;exact⟨hq,Fx.refl aa,hr,xAF _⟩
  ·simp only at h2 hq ⊢;subst h2;obtain⟨z,hz⟩:=hz;refine⟨hq,f.back,⟨z,zFD hz⟩,?_⟩;show cond (Nat.ble k.wm k1.wm) k.wm k1.wm<=k.wm;cases hc:Nat.ble k.wm k1.wm with
   | true=>exact xAF _
   | false=>have:=ble_false.1 hc;simp only[xAH];omega
 have ld:∀ {h:AH} {z:Int},h.get r=some (rO [.int .u64 z] 253)->zH E 253 h (some (ptr r))=some (.int .u64 z):=fun hz=>zF (P:=E) znL (o:=0) hz
 try simp only[zA]
 refine zal ?_;obtain⟨z1,iB⟩:U64 k.qb r:=hr;obtain⟨m1,e1,u1,-,-,f1⟩:=zPC ⟨z1,iB⟩ (IntKind.u64.wrap (BitVec.ofInt 64 z1 ^^^ BitVec.ofInt 64 (IntKind.u64.wrap (z1*2 ^ (13:Nat)))).toNat);simp only[zA,zAj,ld iB,zrF,zq5,e1,zL];have g1:=f1 k.qb (fun c=>c=r) (.inl rfl) (Fx.refl (P:=fun c=>c=r) (zAX k));refine zak ?_;obtain⟨z2,ef⟩:=u1;obtain⟨m2,e2,u2,-,-,f2⟩:=zPC ⟨z2,ef⟩ (IntKind.u64.wrap (BitVec.ofInt 64 z2 ^^^ BitVec.ofInt 64 (z2.fdiv (2 ^ (7:Nat)))).toNat);simp only[zA,zAj,ld ef,zrE,zq4,e2,zL];have g2:=f2 k.qb (fun c=>c=r) (.inl rfl) g1;refine zaj ?_;obtain⟨z3,iO⟩:=u2;obtain⟨m3,e3,u3,-,-,f3⟩:=zPC ⟨z3,iO⟩ (IntKind.u64.wrap (BitVec.ofInt 64 z3 ^^^ BitVec.ofInt 64 (IntKind.u64.wrap (z3*2 ^ (17:Nat)))).toNat);simp only[zA,zAj,ld iO,zrD,zq3,e3,zL];have g3:=f3 k.qb (fun c=>c=r) (.inl rfl) g2;refine zai ?_;obtain⟨z4,hz4⟩:=u3;simp only[zA,zAj,ld hz4];rw[zAS];exact⟨zU ▸ trivial,⟨z4,rfl⟩,g3,z4,hz4⟩
def subu{m:Nat}(h1:1<=m)(h2:m<=4000000)(t:TypeId):zC E .sub t (.int .u64 (m:Int)) (.int .u64 1)=some (.int .u64 ((m-1:Nat):Int)):=by
 show some (Value.int .u64 (zCM .u64 ((m:Int)-1)))=_;rw[zFc,show (m:Int)-1=((m-1:Nat):Int) by omega,zNk (by omega)]
def zon(u:Int){v:Nat}(h:v<=4000000):∃ r:Nat,r<=v/\IntKind.u64.wrap (BitVec.ofInt 64 u &&& BitVec.ofInt 64 (v:Int)).toNat=(r:Int):=by
 have e:(BitVec.ofInt 64 u &&& BitVec.ofInt 64 (v:Int)).toNat<=v:=by
  rw[BitVec.toNat_and];refine Nat.le_trans Nat.and_le_right ?_;rw[BitVec.toNat_ofInt];omega
 exact⟨_,e,zNk (by omega)⟩
section
variable {b ty es c:Nat} {k:AH} {d:Dt} {cf:Value}
end
section
variable {b ty es c:Nat} {k:AH} {d:Dt} {cf:Value} {cm:Int×Int->Int×Int->Int}
def zKW(lt:Int×Int->Int×Int->Bool)(d:Dt)(e:Nat):∀(m i:Nat),e<=i+m->i<=e->i<=scanSorted lt d e i/\scanSorted lt d e i<=e:=by
 intro m
 induction m with
 | zero=>
  intro i hm hi;unfold scanSorted;rw[if_neg (by simp;omega)];omega
 | succ m ih=>
  intro i hm hi;unfold scanSorted;split
  ·rename_i h;simp only[xAP,decide_eq_true_eq] at h;have:=ih (i+1) (by omega) (by omega);omega
  ·omega
end
section
variable {b ty es c:Nat} {k:AH} {d:Dt} {cf:Value} {cm:Int×Int->Int×Int->Int}
abbrev QP(cm:Int×Int->Int×Int->Int)(a e:Nat)(d:Dt):Value->Dt->Prop:=fun v d'=>v=.tuple #[]/\PermIn a e d d'/\SortedIn (zAe cm) a e d'
end
def zoG:Elt 26 54 2:=zJq (by kernel_rfl) ziS zQj (by kernel_rfl)
def zoa{h:AH}{p:Int×Int}:zh E 26 1 (some [(0,.agg ⟨zG p⟩)]) h=one (.slice (some ⟨h.qa,0,none⟩) 1 1,h.new (rO (zG p) 54)):=by kernel_rfl
def c3_zero'{a b:Int}:c3 a b=0 ↔ a=b:=by
 unfold c3;split
 ·constructor
  ·intro h;cases h
  ·intro h;omega
 ·split
  ·constructor
   ·intro h;cases h
   ·intro h;omega
  ·constructor
   ·intro;omega
   ·intro;rfl
def zWH{a b:Int}:c3 a b<0 ↔ a<b:=by
 unfold c3;split
 ·constructor <;> intro <;> omega
 ·split <;> constructor <;> intro h <;> first|omega|(exfalso;revert h;decide)
def zCU(x y:Int×Int):zME x y<0 ↔ x.1<y.1\/(x.1=y.1/\x.2<y.2):=by
 simp only[zME,orI];by_cases h:c3 x.1 y.1=0
 ·have e:=c3_zero'.1 h;simp only[h,ne_eq,not_true_eq_false,if_false];by_cases h2:c3 x.2 y.2=0
  ·have e2:=c3_zero'.1 h2;simp only[h2,ne_eq,not_true_eq_false,if_false];omega
  ·simp only[h2,ne_eq,not_false_eq_true,if_true];have:=zWH (a:=x.2) (b:=y.2);omega
 ·have h0:x.1≠y.1:=fun e=>h (c3_zero'.2 e);simp only[h,ne_eq,not_false_eq_true,if_true];have:=zWH (a:=x.1) (b:=y.1);omega
def zsf:SWO (zAe zME) where
 irrefl x:=by simp only[decide_eq_false_iff_not,zCU];omega
 trans x y z h1 h2:=by simp only[decide_eq_true_eq,zCU] at *;omega
 ntrans x y z h1 h2:=by simp only[decide_eq_false_iff_not,zCU] at *;omega
def zWe(h0:AH)(cf:Value)(f:Int×Int->Bool):Prop:=∀ k' p,Ext h0 k'->zT (zV E) (some cf) (some [.agg ⟨zG p⟩]) k'=some [(.bool (f p),k')]
section
variable {b ty es c:Nat} {k h0:AH} {d:Dt} {cf:Value} {f:Int×Int->Bool}
end
def zKd{α:Type}:∀(x y z:List α),y.length=z.length->lput (x++y) x.length z=x++z
 | [],[],[],_=>rfl
 | [],a::y,b::z,h=>by
  have:=zKd [] y z (by simpa using h);show b::lput y 0 z=b::z;rw[show lput y 0 z=z from this]
 | [],[],_::_,h=>by simp at h
 | [],_::_,[],h=>by simp at h
 | a::x,y,[],h=>by
  have:y=[]:=List.length_eq_zero_iff.1 (by simpa using h);subst this;cases x <;> rfl
 | a::x,y,b::z,h=>by
  have:=zKd x y (b::z) h;show a::lput (x++y) x.length (b::z)=_;rw[this];rfl
def zWV{h:AH}{b c:Nat}{vs rest:List Value}{ty es:Nat}{ro:Bool}{l:List (Int×Int)}(hb:h.get b=some (.row vs ty es ro))(hl:b<h.qa)(hv:vs=l.flatMap zG++rest):Arr h 2 (sl b l.length c) (l.map zG):=by
 have:=Arr.row (els:=l.map zG) (z:=2) (o:=0) (c:=c) hb hl (by rw[hv,List.length_append,zBp,List.length_map];omega) fun i e he=>by
  rw[List.getElem?_map] at he;obtain⟨p,hp,rfl⟩:=Option.map_eq_some_iff.1 he;refine⟨rfl,?_⟩;have hi:=(List.getElem?_eq_some_iff.1 hp).1;have h2:=zKY l i p hp;rw[xAK,hv,List.drop_append_of_le_length (by rw[zBp];omega),List.take_append_of_le_length (by rw[List.length_drop,zBp];omega)];exact h2
 rw[List.length_map] at this;exact this
def zNs{α:Type}(l:List α):∀ n,(rep n l).length=n*l.length
 | 0=>by simp[rep]
 | n+1=>by simp only[rep,List.length_append,zNs l n,Nat.add_mul];omega
end Go.Proofs
namespace Go.Proofs
open Go Go.AM
def zj9(a b:Int):zPS a b=c3 a b:=rfl
mutual
def zVs:∀ t u:GT,zk3 t u=zKy t u
 | .mk k n l,.mk k' n' l'=>by
  have h:=zP6 l l';simp only[zk3,zKy,orI,zj9];by_cases h1:c3 k k'=0
  ·by_cases h2:c3 n n'=0
   ·by_cases h3:c3 (l.length:Int) (l'.length:Int)=0
    ·simp[h1,h2,h3,h (zPR h3)]
    ·simp[h1,h2,h3]
   ·simp[h1,h2]
  ·simp[h1]
def zP6:∀ l l':List GT,l.length=l'.length->zRb l l'=zEL l l'
 | [],[],_=>rfl
 | t::ts,u::us,h=>by
  simp only[zRb,zEL,zVs t u,zP6 ts us (by simpa using h)];by_cases e:zKy t u=0 <;> simp[e]
 | [],_::_,h=>by simp at h
 | _::_,[],h=>by simp at h
end
def zP8{l l':List GT}{i:Nat}(h1:i<=l.length)(h2:i<=l'.length)(h:i=l.length\/i=l'.length):zEL (l.drop i) (l'.drop i)=c3 l.length l'.length:=by
 cases e:l.drop i with
 | nil=>
  have e1:l.length<=i:=by simpa using e
  cases e':l'.drop i with
  | nil=>
   have e2:l'.length<=i:=by simpa using e'
   have:l.length=l'.length:=by omega
   simp[zEL,c3,this]
  | cons y ys=>
   have e2:i<l'.length:=by
    rcases Nat.lt_or_ge i l'.length with h|h
    ·exact h
    ·rw[List.drop_eq_nil_of_le h] at e';cases e'
   simp only[zEL,c3];rw[if_pos (by omega)]
 | cons x xs=>
  have e1:i<l.length:=by
   rcases Nat.lt_or_ge i l.length with h|h
   ·exact h
   ·rw[List.drop_eq_nil_of_le h] at e;cases e
  have e2:l'.drop i=[]:=List.drop_eq_nil_of_le (by omega);rw[e2];simp only[zEL,c3];rw[if_neg (by omega),if_pos (by omega)]
def zim(g:Int)(l:List GT)(g':Int)(l':List GT):zCp g l g' l'=if c3 g g'=0 then zEL l l' else c3 g g':=by
 simp only[zCp,orI];by_cases h:c3 g g'=0 <;> by_cases h2:zEL l l'=0 <;> simp[h,h2]
def zeR{h0 k:AH}{e e':List Value}{els els':List (List Value)}{ts ts':List GT}(hc:RC h0 els ts)(aH:RC h0 els' ts'){i:Nat}(he:els[i]?=some e)(he':els'[i]?=some e')(hk:Ext h0 k) :
  ∃ t u,ts[i]?=some t/\ts'[i]?=some u/\(zV E).call 188 [.agg ⟨e⟩,.agg ⟨e'⟩] k=some [(iI (zKy t u),k)]:=by
 obtain⟨ck,cn,cv,cl,rfl,r1,r2,r3⟩:=zKU hc i e he;obtain⟨dk,dn,dv,dl,rfl,s1,s2⟩:=RC.at aH i e' he';exact⟨_,_,r2,s2,by rw[← zVs];exact r3 k dk dn dv dl s1 hk⟩
def zle{h0 k:AH}{v v':Value}{l l':List GT}(hr:RT h0 v l)(bG:RT h0 v' l')(hk:Ext h0 k):(zV E).call 140 [v,v'] k=some [(iI (zEL l l'),k)]:=by
 have hs:=hr.slice;have aQ:=bG.slice;cases hr with
 | @mk _ els _ ha hn hc=>
 cases bG with
 | @mk _ els' _ cT iG aH=>
 have hlen:=RC.length hc;have c9:=RC.length aH;obtain⟨sa,sc,rfl⟩:=hs;obtain⟨sa',sc',rfl⟩:=aQ;refine zdw (s:=true) hk.ok rfl (zcL ?_);refine zcK ?_;have gf:=hk.qb;have fin:c3 l.length l'.length=zEL l l'->zpy true (KR E [.tmp 2] fun x m=>x=iI (zEL l l')/\k.qa<=m.wm) (.slice sa l.length sc) (.slice sa' l'.length sc') k.qb:=by
  intro hc;refine zcF ?_;simp only[zA,zRR,zRQ,zS,zIO gf.ok,zO,zAS,zU,true_and];exact⟨congrArg (Value.int .i64) hc,by rw[zAm];omega⟩
 have loop:∀(m i:Nat),i+m=l.length->i<=l'.length->zEL (l.drop i) (l'.drop i)=zEL l l'->zpz true (KR E [.tmp 2] fun x m=>x=iI (zEL l l')/\k.qa<=m.wm) (.slice sa l.length sc) (.slice sa' l'.length sc') (iI (i:Int)) k.qb:=by
  intro m
  induction m with
  | zero=>
   intro i hi eP hV;refine zNN ?_;simp only[zA,zJZ,zY,show decide ((i:Int)<(l.length:Int))=false from xAI (by omega),zM,show (false==true)=false from rfl,xAH,zJ,zi];exact fin (by rw[← hV,zP8 (by omega) eP (by omega)])
  | succ m ih=>
   intro i hi eP hV;refine zNN ?_;simp only[zA,zJZ,zY,show decide ((i:Int)<(l.length:Int))=true from xAJ (by omega),zM,xAO,xAG,zRS,zJ,zAN];refine⟨fun cu=>zcJ ?_,fun hni=>fin (by rw[← hV,zP8 (by omega) eP (by omega)])⟩;have cu:i<l'.length:=by omega
   have bi:i<l.length:=by omega
   obtain⟨x,hx⟩:∃ x,els[i]?=some x:=⟨_,xAA (by omega)⟩;obtain⟨y,hy⟩:∃ y,els'[i]?=some y:=⟨_,xAA (by omega)⟩;obtain⟨p1,q1,w1⟩:=zLx ha gf hx;obtain⟨p2,q2,w2⟩:=zLx cT gf hy;obtain⟨t,u,ht,hu,bJ⟩:=zeR hc aH hx hy gf;have e3:l.drop i=t::l.drop (i+1):=by rw[List.drop_eq_getElem_cons bi,(List.getElem?_eq_some_iff.1 ht).2]
   have e4:l'.drop i=u::l'.drop (i+1):=by rw[List.drop_eq_getElem_cons cu,(List.getElem?_eq_some_iff.1 hu).2]
   rw[e3,e4] at hV;simp only[zEL] at hV;simp only[zA,q1,w1,q2,w2,zS,bJ,zO];refine zcI ?_;simp only[zA,zA1,zHH];refine⟨fun ah=>zcH ?_,fun he=>zcG ?_⟩
   ·simp only[zA,zAS,zU,true_and];rw[if_pos ah] at hV;exact⟨by rw[hV],by rw[zAm];omega⟩
   ·simp only[zA,zAK _ (zDu (show i<l.length by omega) (by omega))];rw[if_neg (by simp[he])] at hV;exact ih (i+1) (by omega) (by omega) hV
 have:=loop l.length 0 (by omega) (by omega) (by simp);exact this
def zoM{h0 k:AH}{g g':Int}{v v':Value}{l l':List GT}(hr:RT h0 v l)(bG:RT h0 v' l')(hk:Ext h0 k) :
  (zV E).call 88 [.agg ⟨[iI g,v]⟩,.agg ⟨[iI g',v']⟩] k=some [(iI (zCp g l g' l'),k)]:=by
 refine zhR (s:=true) hk.ok rfl (zft ?_);obtain⟨k1,e1,n1,t1,o1,f1⟩:=nwF k (rO [iI g,v] 36);obtain⟨k2,e2,n2,t2,o2,f2⟩:=nw o1 (rO [iI g',v'] 36);simp only[zd,zL,zX,zA,e1,e2,za];have g1:=(f2 k.qa (by omega)).trans t1;have l0:=zF (P:=E) zAa (o:=0) g1;have l1:=zF (P:=E) zDv (o:=1) g1;have m0:=zF (P:=E) zAa (o:=0) t2;have m1:=zF (P:=E) zDv (o:=1) t2;simp only[lnth] at l0 l1 m0 m1;have ex2:=hk.trans o2.ext;refine zfs ?_;simp only[zBw,Nat.add_zero,l0,m0,zA,zS,zIO ex2.ok,zO];refine zfr ?_;simp only[zA,zA1,zHH];refine⟨fun ah=>zfq ?_,fun he=>zfp ?_⟩
 ·simp only[zA,zAS,zU,true_and];have ah:¬ c3 g g'=0:=ah;exact⟨congrArg (Value.int .i64) (show c3 g g'=_ by rw[zim,if_neg ah]),o2.wm⟩
 ·simp only[zCS,xAK,l1,m1,zA,zS,zle hr bG ex2,zO,zAS,zU,true_and];have he:c3 g g'=0:=he;exact⟨by rw[zim,if_pos he],o2.wm⟩
end Go.Proofs
namespace Go.Proofs
open Go Go.AM
def zlw(t:TypeId)(a b:Int):zC E .sub t (iI a) (iI b)=some (iI (zCM .i64 (a-b))):=rfl
abbrev KB(k:AH)(rs:List ResultVar)(Rp:Value->Prop):KF:=KR E rs (fun x m=>(zg x=true/\Rp x)/\k.qa<=m.wm)
def zAs(Q:Prop)(x:Value):Prop:=∃ b:Bool,x=.bool b/\(b=true->Q)
def zfJ(f:FuncId)(h0:AH)(kk nn:Int)(v:Value)(Q:Prop):Prop:=∀ k,Ext h0 k->∃ b:Bool,(b=true->Q)/\(zV E).call f [.agg #[iI kk,iI nn,v]] k=some [(.bool b,k)]
mutual
def zUI{h0:AH}:∀ {v:Value} {l:List GT},RT h0 v l->∀(kk nn:Int),zfJ 230 h0 kk nn v (okT (.mk kk nn l)=true)
 | v,l,.mk (els:=els) ha hn hc,kk,nn=>by
  intro k hk;have ba:RT h0 v l:=.mk ha hn hc;have dR:=zPG hc;have hlen:=RC.length hc;obtain⟨sa,sc,rfl⟩:=ba.slice;have key:∃ x,zAs (okT (.mk kk nn l)=true) x/\(zV E).call 230 [.agg #[iI kk,iI nn,.slice sa l.length sc]] k=some [(x,k)]:=by
   refine zTN hk.ok (zaK ?_);obtain⟨k1,e1,n1,t1,o1,f1⟩:=nwF k (rO [iI kk,iI nn,.slice sa l.length sc] 173);simp only[zd,zL,zX,zA,e1,za];have l0:=zF (P:=E) zAa (o:=0) t1;have l1:=zF (P:=E) zAa (o:=1) t1;have l2:=zF (P:=E) zDv (o:=2) t1;simp only[lnth] at l0 l1 l2;have ex:=hk.trans o1.ext;have no:zpf true (KB k [.tmp 2] (zAs (okT (.mk kk nn l)=true))) k1:=zaI (by simp only[zA,zAS,zU,true_and];exact⟨⟨rfl,_,rfl,fun h=>by cases h⟩,o1.wm⟩);have no':zpc true (KB k [.tmp 2] (zAs (okT (.mk kk nn l)=true))) k1:=zaE (by simp only[zA,zAS,zU,true_and];exact⟨⟨rfl,_,rfl,fun h=>by cases h⟩,o1.wm⟩);have yes':okT (.mk kk nn l)=true->zpb true (KB k [.tmp 2] (zAs (okT (.mk kk nn l)=true))) k1:=fun h=>zaC (by simp only[zA,zAS,zU,true_and];exact⟨⟨rfl,_,rfl,fun _=>h⟩,o1.wm⟩);have loop:(kk=2/\¬ nn<0/\¬ 255<nn/\¬ (8:Int)<(l.length:Int))->∀(m i:Nat),i+m=l.length->(∀(j:Nat) (t:GT),j<i->l[j]?=some t->okT t=true)->zpd true (KB k [.tmp 2] (zAs (okT (.mk kk nn l)=true))) (.pointer (some ⟨k.qa,0,none⟩)) (iI (i:Int)) k1:=by
    intro bT m
    induction m with
    | zero=>
     intro i hi hp;refine zMu ?_;simp only[zAi,xAK,l2,zA,zJT,zY,show decide ((i:Int)<(l.length:Int))=false from xAI (by omega),zi];refine yes' ?_;simp only[okT,xAP,decide_eq_true_eq];exact⟨⟨⟨⟨bT.1,by omega⟩,by omega⟩,by omega⟩,okL_iff.2 fun j t hj=>hp j t (by have:=(List.getElem?_eq_some_iff.1 hj).1;omega) hj⟩
    | succ m ih=>
     intro i hi hp;refine zMu ?_;simp only[zAi,xAK,l2,zA,zJT,zY,show decide ((i:Int)<(l.length:Int))=true from xAJ (by omega),zy];refine zaG ?_;obtain⟨x,hx⟩:∃ x,els[i]?=some x:=⟨_,xAA (by omega)⟩;obtain⟨p1,q1,w1⟩:=zLx ha ex hx;obtain⟨ck,cn,cv,cl,rfl,aG,hs⟩:=dR i x hx;obtain⟨b,bC,hb⟩:=hs k1 ex;simp only[zAi,xAK,l2,zA,q1,w1,zS,hb,zO];refine zaF ?_;simp only[zA,zAB];cases b with
     | false=>simp only[xAM,zy];exact no'
     | true=>
      simp only[xAL,zi];refine zaD ?_;simp only[zA,zAK _ (zDu (show i<l.length by omega) (by omega))];refine ih (i+1) (by omega) fun j t hj ht=>?_;rcases Nat.lt_succ_iff_lt_or_eq.1 hj with h|h
      ·exact hp j t h ht
      ·subst h;rw[aG] at ht;cases ht;exact bC rfl
   have yes:(kk=2/\¬ nn<0/\¬ 255<nn/\¬ (8:Int)<(l.length:Int))->zpe true (KB k [.tmp 2] (zAs (okT (.mk kk nn l)=true))) (.pointer (some ⟨k.qa,0,none⟩)) k1:=fun h=>zaH (by exact loop h l.length 0 (by omega) fun j t hj=>by omega);refine zaJ ?_;cases h1:decide (kk=2) <;> cases h2:decide (nn<0) <;> cases h3:decide (255<nn) <;> cases h4:decide ((8:Int)<(l.length:Int)) <;>
    simp only[zF5,zF4,zAi,xAK,Nat.add_zero,l0,l1,l2,zA,zN9,zA1,zY,zAO,h1,h2,h3,h4,decide_true,decide_false,xAL,xAM,zM,xAO,show (true==false)=false from rfl,show (false==true)=false from rfl,xAG,xAH,zJ,zy,zi] <;> first|exact no|exact yes ⟨of_decide_eq_true h1,of_decide_eq_false h2,of_decide_eq_false h3,of_decide_eq_false h4⟩
  obtain⟨x,⟨b,rfl,bC⟩,hx⟩:=key;exact⟨b,bC,hx⟩
def zPG{h0:AH}:∀ {els:List (List Value)} {ts:List GT},RC h0 els ts->∀(i:Nat) (e:List Value),els[i]?=some e->
  ∃(k n:Int) (v:Value) (l:List GT),e=[iI k,iI n,v]/\ts[i]?=some (.mk k n l)/\zfJ 230 h0 k n v (okT (.mk k n l)=true)
 | _,_,.nil,i,e,h=>by simp at h
 | _,_,.cons hv hs,0,e,h=>by simp at h;exact⟨_,_,_,_,h.symm,rfl,zUI hv _ _⟩
 | _,_,.cons hv hs,i+1,e,h=>by
  simp only[List.getElem?_cons_succ] at h;obtain⟨k,n,v,l,a,b,c⟩:=zPG hs i e h;exact⟨k,n,v,l,a,by simpa using b,c⟩
end
mutual
def zUF{h0:AH}:∀ {v:Value} {l:List GT},RT h0 v l->∀(kk nn:Int),zfJ 281 h0 kk nn v True
 | v,l,.mk (els:=els) ha hn hc,kk,nn=>by
  intro k hk;have ba:RT h0 v l:=.mk ha hn hc;have dR:=zPD hc;have hlen:=RC.length hc;obtain⟨sa,sc,rfl⟩:=ba.slice;have key:∃ x,zAs True x/\(zV E).call 281 [.agg #[iI kk,iI nn,.slice sa l.length sc]] k=some [(x,k)]:=by
   refine zTG hk.ok (zX0 ?_);obtain⟨k1,e1,n1,t1,o1,f1⟩:=nwF k (rO [iI kk,iI nn,.slice sa l.length sc] 173);simp only[zd,zL,zX,zA,e1,za];have l0:=zF (P:=E) zAa (o:=0) t1;have l1:=zF (P:=E) zAa (o:=1) t1;have l2:=zF (P:=E) zDv (o:=2) t1;simp only[lnth] at l0 l1 l2;have ex:=hk.trans o1.ext;have no:zpC true (KB k [.tmp 2] (zAs True)) k1:=zXy (by simp only[zA,zAS,zU,true_and];exact⟨⟨rfl,_,rfl,fun _=>trivial⟩,o1.wm⟩);have no':zo9 true (KB k [.tmp 2] (zAs True)) k1:=zXv (by simp only[zA,zAS,zU,true_and];exact⟨⟨rfl,_,rfl,fun _=>trivial⟩,o1.wm⟩);have yes':zo8 true (KB k [.tmp 2] (zAs True)) k1:=zXt (by simp only[zA,zAS,zU,true_and];exact⟨⟨rfl,_,rfl,fun _=>trivial⟩,o1.wm⟩);have loop:∀(m i:Nat),i+m=l.length->zpA true (KB k [.tmp 2] (zAs True)) (.pointer (some ⟨k.qa,0,none⟩)) (iI (i:Int)) k1:=by
    intro m
    induction m with
    | zero=>
     intro i hi;refine zMb ?_;simp only[zAi,xAK,l2,zA,zJQ,zY,show decide ((i:Int)<(l.length:Int))=false from xAI (by omega),zi];exact yes'
    | succ m ih=>
     intro i hi;refine zMb ?_;simp only[zAi,xAK,l2,zA,zJQ,zY,show decide ((i:Int)<(l.length:Int))=true from xAJ (by omega),zy];refine zXw ?_;obtain⟨x,hx⟩:∃ x,els[i]?=some x:=⟨_,xAA (by omega)⟩;obtain⟨p1,q1,w1⟩:=zLx ha ex hx;obtain⟨ck,cn,cv,rfl,hs⟩:=dR i x hx;obtain⟨b,_,hb⟩:=hs k1 ex;simp only[zAi,xAK,l2,zA,q1,w1,zS,hb,zO,zAB];cases b with
     | false=>simp only[xAM,zy];exact no'
     | true=>
      simp only[xAL,zi];refine zXu ?_;simp only[zA,zAK _ (zDu (show i<l.length by omega) (by omega))];exact ih (i+1) (by omega)
   have yes:zpB true (KB k [.tmp 2] (zAs True)) (.pointer (some ⟨k.qa,0,none⟩)) k1:=zXx (by exact loop l.length 0 (by omega));refine zXz ?_;cases h1:decide (nn<0) <;> cases h2:decide (kk=1) <;> cases h3:decide (kk=2) <;> cases h4:decide ((0:Int)<(l.length:Int)) <;> cases h5:decide ((8:Int)<(l.length:Int)) <;>
    simp only[zF5,zF4,zAi,xAK,Nat.add_zero,l0,l1,l2,zA,zN6,zN5,zA1,zAd,zY,zAO,h1,h2,h3,h4,h5,decide_true,decide_false,xAL,xAM,zM,zw,xAO,show (true==false)=false from rfl,show (false==true)=false from rfl,xAG,xAH,zJ,zy,zi] <;> first|exact no|exact yes
  obtain⟨x,⟨b,rfl,bC⟩,hx⟩:=key;exact⟨b,bC,hx⟩
def zPD{h0:AH}:∀ {els:List (List Value)} {ts:List GT},RC h0 els ts->∀(i:Nat) (e:List Value),els[i]?=some e->
  ∃(k n:Int) (v:Value),e=[iI k,iI n,v]/\zfJ 281 h0 k n v True
 | _,_,.nil,i,e,h=>by simp at h
 | _,_,.cons hv hs,0,e,h=>by simp at h;exact⟨_,_,_,h.symm,zUF hv _ _⟩
 | _,_,.cons hv hs,i+1,e,h=>by
  simp only[List.getElem?_cons_succ] at h;exact zPD hs i e h
end
mutual
def szT:GT->Int
 | .mk _ _ l=>1+szL l
def szL:List GT->Int
 | []=>0
 | t::ts=>szT t+szL ts
end
mutual
def dpT:GT->Int->Bool
 | .mk _ _ l,d=>decide (d<=200)&&dpL l (d+1)
def dpL:List GT->Int->Bool
 | [],_=>true
 | t::ts,d=>dpT t d&&dpL ts d
end
mutual
def zUA:∀ t:GT,1<=szT t
 | .mk _ _ l=>by have:=zHd l;simp only[szT];omega
def zHd:∀ l:List GT,0<=szL l
 | []=>Int.le_refl _
 | t::ts=>by have:=zUA t;have:=zHd ts;simp only[szL];omega
end
def zUB:∀ l m:List GT,szL (l++m)=szL l+szL m
 | [],m=>by simp[szL]
 | t::l,m=>by simp only[List.cons_append,szL,zUB l m];omega
def dpL_iff:∀ {l:List GT} {d:Int},dpL l d=true ↔ ∀(i:Nat) (t:GT),l[i]?=some t->dpT t d=true
 | [],_=>by simp[dpL]
 | t::ts,d=>by
  simp only[dpL,xAP,dpL_iff (l:=ts)];constructor
  ·rintro⟨a,b⟩ i u hu;cases i with
   | zero=>simp at hu;rw[← hu];exact a
   | succ i=>exact b i u (by simpa using hu)
  ·intro h;exact⟨h 0 t rfl,fun i u hu=>h (i+1) u (by simpa using hu)⟩
def zsU(t:GT)(a d n:Int)(b:Bool):Prop:=b=true->0<=a->a<=2000->0<=d->n=a-szT t/\0<=n/\dpT t d=true
def zKK(t:GT)(a d:Int)(x:Value):Prop:=∃(n:Int) (b:Bool),x=.tuple #[iI n,.bool b]/\zsU t a d n b
def zos(h0:AH)(kk nn:Int)(v:Value)(l:List GT):Prop:=∀ k (a d:Int),Ext h0 k->∃(n:Int) (b:Bool),zsU (.mk kk nn l) a d n b/\(zV E).call 280 [.agg #[iI kk,iI nn,v],iI a,iI d] k=some [(.tuple #[iI n,.bool b],k)]
mutual
def zUG{h0:AH}:∀ {v:Value} {l:List GT},RT h0 v l->∀(kk nn:Int),zos h0 kk nn v l
 | v,l,.mk (els:=els) ha hn hc,kk,nn=>by
  intro k a d hk;have ba:RT h0 v l:=.mk ha hn hc;have dR:=zPE hc;have hlen:=RC.length hc;obtain⟨sa,sc,rfl⟩:=ba.slice;have key:∃ x,zKK (.mk kk nn l) a d x/\(zV E).call 280 [.agg #[iI kk,iI nn,.slice sa l.length sc],iI a,iI d] k=some [(x,k)]:=by
   refine zTH hk.ok (zX9 ?_);obtain⟨k1,e1,n1,t1,o1,f1⟩:=nwF k (rO [iI kk,iI nn,.slice sa l.length sc] 173);simp only[zd,zL,zX,zA,e1,za];have l2:=zF (P:=E) zDv (o:=2) t1;simp only[lnth] at l2;have ex:=hk.trans o1.ext;have no:∀ n,zpG true (KB k [.tmp 4,.tmp 5] (zKK (.mk kk nn l) a d)) (iI n) k1:=fun n=>zX6 (by simp only[zA,zRU,zU,true_and];exact⟨⟨rfl,_,_,rfl,fun h=>by cases h⟩,o1.wm⟩);have no':∀ n,zpD true (KB k [.tmp 4,.tmp 5] (zKK (.mk kk nn l) a d)) (iI n) k1:=fun n=>zX1 (by simp only[zA,zRU,zU,true_and];exact⟨⟨rfl,_,_,rfl,fun h=>by cases h⟩,o1.wm⟩);have yes':∀ n,zsU (.mk kk nn l) a d n true->zl8 true (KB k [.tmp 4,.tmp 5] (zKK (.mk kk nn l) a d)) (iI n) k1:=fun n hn=>zRk (by simp only[zA,zRU,zU,true_and];exact⟨⟨rfl,_,_,rfl,hn⟩,o1.wm⟩);have loop:¬ 200<d->∀(m i:Nat),i+m=l.length->∀ n:Int,(0<=a->a<=2000->0<=d->n=a-1-szL (l.take i)/\0<=n/\∀(j:Nat) (t:GT),j<i->l[j]?=some t->dpT t (d+1)=true)->zpE true (KB k [.tmp 4,.tmp 5] (zKK (.mk kk nn l) a d)) (iI n) (iI d) (.pointer (some ⟨k.qa,0,none⟩)) (iI (i:Int)) k1:=by
    intro hd m
    induction m with
    | zero=>
     intro i hi n hp;refine zMc ?_;simp only[zAi,xAK,l2,zA,zJR,zY,show decide ((i:Int)<(l.length:Int))=false from xAI (by omega),zi];refine yes' n fun _ h1 h2 h3=>?_;obtain⟨p1,p2,p3⟩:=hp h1 h2 h3;rw[xAD (by omega)] at p1;refine⟨by simp only[szT];omega,p2,?_⟩;simp only[dpT,xAP,decide_eq_true_eq];exact⟨by omega,dpL_iff.2 fun j t hj=>p3 j t (by have:=(List.getElem?_eq_some_iff.1 hj).1;omega) hj⟩
    | succ m ih=>
     intro i hi n hp;refine zMc ?_;simp only[zAi,xAK,l2,zA,zJR,zY,show decide ((i:Int)<(l.length:Int))=true from xAJ (by omega),zy];refine zX4 ?_;obtain⟨x,hx⟩:∃ x,els[i]?=some x:=⟨_,xAA (by omega)⟩;obtain⟨p1,q1,w1⟩:=zLx ha ex hx;obtain⟨ck,cn,cv,cl,rfl,aG,hs⟩:=dR i x hx;obtain⟨n2,b,bC,hb⟩:=hs k1 n (zCM .i64 (d+1)) ex;simp only[zAi,xAK,l2,zA,q1,w1,zK4,zS,hb,zO,zt,lnth];refine zX3 ?_;refine zX2 ?_;simp only[zA,zAB];cases b with
     | false=>simp only[xAM,zy];exact no' n2
     | true=>
      simp only[xAL,zi];refine zRl ?_;simp only[zA,zAK _ (zDu (show i<l.length by omega) (by omega))];refine ih (i+1) (by omega) n2 fun h1 h2 h3=>?_;obtain⟨p1,p2,p3⟩:=hp h1 h2 h3;have hz:=zHd (l.take i);rw[zDb (show zC1 (d+1) by unfold zC1;omega)] at bC;obtain⟨q1,q2,q3⟩:=bC rfl p2 (by omega) (by omega);refine⟨?_,q2,fun j t hj ht=>?_⟩
      ·rw[List.take_succ,aG,zUB];simp only[Option.toList,szL];omega
      ·rcases Nat.lt_succ_iff_lt_or_eq.1 hj with h|h
       ·exact p3 j t h ht
       ·subst h;rw[aG] at ht;cases ht;exact q3
   refine zX8 ?_;simp only[zA,zlw];refine zX7 ?_;have yes:¬ zCM .i64 (a-1)<0->¬ 200<d->zpF true (KB k [.tmp 4,.tmp 5] (zKK (.mk kk nn l) a d)) (iI (zCM .i64 (a-1))) (iI d) (.pointer (some ⟨k.qa,0,none⟩)) k1:=fun h1 h2=>zX5 (by exact loop h2 l.length 0 (by omega) _ fun h3 h4 h5=>by rw[zDb (show zC1 (a-1) by unfold zC1;omega)] at h1 ⊢;exact⟨by simp[szL],by omega,fun j t hj=>by omega⟩);by_cases h1:zCM .i64 (a-1)<0 <;> by_cases h2:200<d <;>
    simp only[zA,zY,zAO,h1,h2,decide_true,decide_false,zM,xAO,show (true==false)=false from rfl,show (false==true)=false from rfl,xAG,xAH,zJ,zy,zi] <;> first|exact no _|exact yes h1 h2
  obtain⟨x,⟨n,b,rfl,bC⟩,hx⟩:=key;exact⟨n,b,bC,hx⟩
def zPE{h0:AH}:∀ {els:List (List Value)} {ts:List GT},RC h0 els ts->∀(i:Nat) (e:List Value),els[i]?=some e->
  ∃(k n:Int) (v:Value) (l:List GT),e=[iI k,iI n,v]/\ts[i]?=some (.mk k n l)/\zos h0 k n v l
 | _,_,.nil,i,e,h=>by simp at h
 | _,_,.cons hv hs,0,e,h=>by simp at h;exact⟨_,_,_,_,h.symm,rfl,zUG hv _ _⟩
 | _,_,.cons hv hs,i+1,e,h=>by
  simp only[List.getElem?_cons_succ] at h;obtain⟨k,n,v,l,a,b,c⟩:=zPE hs i e h;exact⟨k,n,v,l,a,by simpa using b,c⟩
end
def zk7{h0 k:AH}{v:Value}{l:List GT}(hr:RT h0 v l)(hk:Ext h0 k)(kk nn:Int):∃ x,zAs (szT (.mk kk nn l)<=2000/\dpT (.mk kk nn l) 1=true) x/\(zV E).call 264 [.agg ⟨[iI kk,iI nn,v]⟩] k=some [(x,k)]:=by
 refine zTI hk.ok (zYa ?_);obtain⟨k1,e1,n1,t1,o1,f1⟩:=nwF k (rO [iI kk,iI nn,v] 173);simp only[zd,zL,zX,zA,e1,za];have a1:=zZ (P:=E) zCZ (o:=0) t1 (by simp);simp only[List.drop_zero,List.take] at a1;have ex:=hk.trans o1.ext;obtain⟨n,b,bC,hb⟩:=zUG hr kk nn k1 2000 1 ex;obtain⟨c,_,hc⟩:=zUF hr kk nn k1 ex;refine zYZ ?_;simp only[a1,zA,zS,hb,zO,zt,lnth];refine zYY ?_;cases b with
 | true=>simp only[a1,zA,zM,zR,xAO,xAG,zS,hc,zO,zJ,zAS,zU,true_and];exact⟨⟨rfl,_,rfl,fun _=>by have:=bC rfl (by omega) (by omega) (by omega);exact⟨by omega,this.2.2⟩⟩,o1.wm⟩
 | false=>simp only[a1,zA,zM,zR,show (false==true)=false from rfl,xAH,zL,zJ,zAS,zU,true_and];exact⟨⟨rfl,_,rfl,fun h=>by cases h⟩,o1.wm⟩
def zlI{h0 k:AH}{v:Value}{l:List GT}(hr:RT h0 v l)(hk:Ext h0 k)(kk nn:Int):∃ x,(∃ n:Int,x=iI n/\(n=0->szT (.mk kk nn l)<=2000/\dpT (.mk kk nn l) 1=true))/\(zV E).call 231 [.agg ⟨[iI kk,iI nn,v]⟩] k=some [(x,k)]:=by
 refine zTM hk.ok (zaB ?_);obtain⟨k1,e1,n1,t1,o1,f1⟩:=nwF k (rO [iI kk,iI nn,v] 173);simp only[zd,zL,zX,zA,e1,za];have a1:=zZ (P:=E) zCZ (o:=0) t1 (by simp);simp only[List.drop_zero,List.take] at a1;obtain⟨x,⟨b,rfl,bC⟩,hb⟩:=zk7 hr (hk.trans o1.ext) kk nn;refine zaA ?_;simp only[a1,zA,zS,hb,zO,zAB];cases b with
 | true=>simp only[xAL,zi];refine zZ8 ?_;simp only[zA,zAS,zU,true_and];exact⟨⟨rfl,_,rfl,fun _=>bC rfl⟩,o1.wm⟩
 | false=>simp only[xAM,zy];refine zZ9 ?_;simp only[zA,zAS,zU,true_and];exact⟨⟨rfl,_,rfl,fun h=>by omega⟩,o1.wm⟩
mutual
def zP3:∀(t:GT) (d:Int) (s:Int×Int),dpT t d=true->0<=d->0<=s.1->s.1+szT t<=2000->s.2<=200->(zVq t d s).1=s.1+szT t/\(zVq t d s).2<=200
 | .mk k n l,d,s,h1,h2,h3,h4,h5=>by
  simp only[dpT,xAP,decide_eq_true_eq] at h1;have hz:=zHd l;simp only[szT] at h4 ⊢;simp only[zVq];rw[zDb (show zC1 (s.1+1) by unfold zC1;omega)];have:=zP4 l d (s.1+1,if d > s.2 then d else s.2) h1.2 h1.1 h2 (by simp only;omega) (by simp only;omega) (by simp only;split <;> omega);simp only at this;exact⟨by omega,this.2⟩
def zP4:∀(l:List GT) (d:Int) (s:Int×Int),dpL l (d+1)=true->d<=200->0<=d->0<=s.1->s.1+szL l<=2000->s.2<=200->(zVr l d s).1=s.1+szL l/\(zVr l d s).2<=200
 | [],d,s,_,_,_,_,_,h=>by simp[zVr,szL,h]
 | t::ts,d,s,h1,h2,h3,h4,h5,h6=>by
  simp only[dpL,xAP] at h1;have hz:=zHd ts;have ef:=zUA t;simp only[szL] at h5 ⊢;simp only[zVr];rw[if_neg (by omega),zDb (show zC1 (d+1) by unfold zC1;omega)];obtain⟨a,b⟩:=zP3 t (d+1) s h1.1 (by omega) h4 (by omega) h6;obtain⟨a',b'⟩:=zP4 ts d (zVq t (d+1) s) h1.2 h2 h3 (by omega) (by omega) b;exact⟨by omega,b'⟩
end
def zjc{t:GT}(h1:szT t<=2000)(h2:dpT t 1=true)(h3:okT t=true):zGa t=true:=by
 obtain⟨a,b⟩:=zP3 t 1 (0,0) h2 (by omega) (by simp) (by simpa using h1) (by simp);simp only[Int.zero_add] at a;unfold zGa zQo;rw[h3,if_neg (by omega)];simp only[Bool.and_true,decide_eq_true_eq];omega
def zlS{h0 k:AH}{v:Value}{l:List GT}(hr:RT h0 v l)(hk:Ext h0 k)(kk nn:Int):∃ x,zAs (zGa (.mk kk nn l)=true) x/\(zV E).call 187 [.agg ⟨[iI kk,iI nn,v]⟩] k=some [(x,k)]:=by
 refine zTS hk.ok (zbH ?_);obtain⟨k1,e1,n1,t1,o1,f1⟩:=nwF k (rO [iI kk,iI nn,v] 173);simp only[zd,zL,zX,zA,e1,za];have a1:=zZ (P:=E) zCZ (o:=0) t1 (by simp);simp only[List.drop_zero,List.take] at a1;have ex:=hk.trans o1.ext;obtain⟨b,bC,hb⟩:=zUI hr kk nn k1 ex;obtain⟨x,⟨n,rfl,hn⟩,hc⟩:=zlI hr ex kk nn;refine zbG ?_;simp only[a1,zA,zS,hb,zO];cases b with
 | true=>simp only[a1,zA,zM,zR,xAO,xAG,zS,hc,zO,zAd,zJ,zAS,zU,true_and];exact⟨⟨rfl,_,rfl,fun h=>by have:=hn (of_decide_eq_true h);exact zjc this.1 this.2 (bC rfl)⟩,o1.wm⟩
 | false=>simp only[a1,zA,zM,zR,show (false==true)=false from rfl,xAH,zL,zJ,zAS,zU,true_and];exact⟨⟨rfl,_,rfl,fun h=>by cases h⟩,o1.wm⟩
end Go.Proofs
namespace Go.Proofs
open Go Go.AM
def nwUp{k l:AH}(o:Own k l)(x y:AObj):∃ m,(l.new x).upd l.qa (some y)=m/\m.qa=l.qa+1/\m.get l.qa=some y/\Own k m/\∀ b,b<l.qa->m.get b=l.get b:=
 ⟨_,rfl,rfl,zN _ _ _,(o.new x).upd o.ext.qa _,fun b hb=>by rw[zP (by omega),zK (by omega)]⟩
def zWU{g:Int}{l:List GT}(c1:¬ g < -3)(c2:¬ 31<g)(c3:¬ (8:Int)<(l.length:Int))(c4:(zTt g&&decide ((0:Int)<(l.length:Int)))=false)(c5:∀(j:Nat) (t:GT),l[j]?=some t->zGa t=true):zBF g l=false:=by
 have h5:zAH (zPP l zGa) l.length 0<0:=(zBv _ _).1 fun j _ _=>by
  unfold zPP;cases ht:l[j]? with
  | none=>rfl
  | some t=>simp[c5 j t ht]
 simp only[zBF,Bool.or_eq_false_iff,decide_eq_false_iff_not];refine⟨⟨⟨⟨c1,by omega⟩,by omega⟩,?_⟩,by omega⟩;cases hb:zTt g with
 | false=>rfl
 | true=>
  rw[hb] at c4;simp only[Bool.true_and,decide_eq_false_iff_not] at c4 ⊢;omega
def zWG(a b:Int):(a<b/\c3 a b=-1)\/(a=b/\c3 a b=0)\/(b<a/\c3 a b=1):=by
 unfold c3;split
 ·exact .inl ⟨by assumption,rfl⟩
 ·split
  ·exact .inr (.inr ⟨by assumption,rfl⟩)
  ·exact .inr (.inl ⟨by omega,rfl⟩)
def zOf(e f:Int×Int×Int):zVt e f<0 ↔ e.1<f.1\/(e.1=f.1/\(e.2.1<f.2.1\/(e.2.1=f.2.1/\e.2.2<f.2.2))):=by
 simp only[zVt,orI];rcases zWG e.1 f.1 with ⟨a,a'⟩|⟨a,a'⟩|⟨a,a'⟩ <;> rcases zWG e.2.1 f.2.1 with ⟨b,b'⟩|⟨b,b'⟩|⟨b,b'⟩ <;> rcases zWG e.2.2 f.2.2 with ⟨c,c'⟩|⟨c,c'⟩|⟨c,c'⟩ <;> rw[a',b',c'] <;> simp <;> omega
def zEz{p:Nat->Bool}:∀ {m i:Nat},(∀ j,i<=j->j<i+m->p j=false)->zAQ p m i=false
 | 0,_,_=>rfl
 | m+1,i,h=>by
  simp only[zAQ,Bool.or_eq_false_iff];exact⟨h i (by omega) (by omega),zEz fun j h1 h2=>h j (by omega) (by omega)⟩
def zWT{L:GL}(h1:zBN L=false)(h2:∀ j,j<L.labs.length->zBO L.labs j=false)(h3:∀ j,j<L.eds.length->zBh L.n L.labs.length L.eds j=false):zx L=false:=by
 unfold zx;rw[h1,zEz fun j _ h=>h2 j (by omega),zEz fun j _ h=>h3 j (by omega)];rfl
def ze1{n m:Int}{es:List (Int×Int×Int)}{i:Nat}{e:Int×Int×Int}(he:es[i]?=some e)(r:0<=e.1/\e.1<n/\0<=e.2.2/\e.2.2<n/\0<=e.2.1/\e.2.1<m)(hp:0<i->∀ f,es[i-1]?=some f->zVt f e<0):zBh n m es i=false:=by
 unfold zBh;obtain⟨a1,a2,a3,a4,a5,a6⟩:=r;simp only[he,a1,a2,a3,a4,a5,a6,decide_true,Bool.and_self,xAL,Bool.false_or];by_cases hi:0<i
 ·rw[xAJ hi];cases hf:es[i-1]? with
  | none=>rfl
  | some f=>exact (Bool.true_and _).trans (xAI (by have:=hp hi f hf;omega))
 ·rw[xAI hi];rfl
def zVD{ls:List (Int×List GT)}{i:Nat}{x:Int×List GT}(he:ls[i]?=some x)(h1:zBF x.1 x.2=false)(hp:0<i->∀ y,ls[i-1]?=some y->zCp y.1 y.2 x.1 x.2<0):zBO ls i=false:=by
 unfold zBO;simp only[he,h1,Bool.false_or];by_cases hi:0<i
 ·rw[xAJ hi];cases hf:ls[i-1]? with
  | none=>rfl
  | some f=>exact (Bool.true_and _).trans (xAI (by have:=hp hi f hf;omega))
 ·rw[xAI hi];rfl
def zlg{h0 k:AH}{g:Int}{v:Value}{l:List GT}(hr:RT h0 v l)(hk:Ext h0 k):∃ x,zAs (zBF g l=false) x/\(zV E).call 138 [.agg ⟨[iI g,v]⟩] k=some [(x,k)]:=by
 have hs:=hr.slice;cases hr with
 | @mk _ els _ ha hn hc=>
 have hlen:=RC.length hc;obtain⟨sa,sc,rfl⟩:=hs;refine zTW hk.ok (zca ?_);obtain⟨k1,e1,n1,t1,o1,f1⟩:=nwF k (rO [iI g,.slice sa l.length sc] 36);simp only[zd,zL,zX,zA,e1,za];have l0:=zF (P:=E) zAa (o:=0) t1;have l1:=zF (P:=E) zDv (o:=1) t1;simp only[lnth] at l0 l1;have ex:=hk.trans o1.ext;have no:zp5 true (KB k [.tmp 2] (zAs (zBF g l=false))) k1:=zcY (by simp only[zA,zAS,zU,true_and];exact⟨⟨rfl,_,rfl,fun h=>by cases h⟩,o1.wm⟩);have no4:zp3 true (KB k [.tmp 2] (zAs (zBF g l=false))) k1:=zcW (by simp only[zA,zAS,zU,true_and];exact⟨⟨rfl,_,rfl,fun h=>by cases h⟩,o1.wm⟩);have no9:zp0 true (KB k [.tmp 2] (zAs (zBF g l=false))) k1:=zcS (by simp only[zA,zAS,zU,true_and];exact⟨⟨rfl,_,rfl,fun h=>by cases h⟩,o1.wm⟩);have yes:zBF g l=false->zmM true (KB k [.tmp 2] (zAs (zBF g l=false))) k1:=fun h=>zSs (by simp only[zA,zAS,zU,true_and];exact⟨⟨rfl,_,rfl,fun _=>h⟩,o1.wm⟩);have loop:¬ g < -3->¬ 31<g->¬ (8:Int)<(l.length:Int)->(zTt g&&decide ((0:Int)<(l.length:Int)))=false->∀(m i:Nat),i+m=l.length->(∀(j:Nat) (t:GT),j<i->l[j]?=some t->zGa t=true)->zp1 true (KB k [.tmp 2] (zAs (zBF g l=false))) (.pointer (some ⟨k.qa,0,none⟩)) (iI (i:Int)) k1:=by
  intro c1 c2 c3 c4 m
  induction m with
  | zero=>
   intro i hi hp;refine zNO ?_;simp only[zCS,xAK,l1,zA,zJa,zY,show decide ((i:Int)<(l.length:Int))=false from xAI (by omega),zi];exact yes (zWU c1 c2 c3 c4 fun j t hj=>hp j t (by have:=(List.getElem?_eq_some_iff.1 hj).1;omega) hj)
  | succ m ih=>
   intro i hi hp;refine zNO ?_;simp only[zCS,xAK,l1,zA,zJa,zY,show decide ((i:Int)<(l.length:Int))=true from xAJ (by omega),zy];refine zcU ?_;obtain⟨x,hx⟩:∃ x,els[i]?=some x:=⟨_,xAA (by omega)⟩;obtain⟨p1,q1,w1⟩:=zLx ha ex hx;obtain⟨ck,cn,cv,cl,rfl,gE,aG⟩:=RC.at hc i x hx;obtain⟨y,⟨b,rfl,bC⟩,hb⟩:=zlS gE ex ck cn;simp only[zCS,xAK,l1,zA,q1,w1,zS,hb,zO];refine zcT ?_;simp only[zA,zAB];cases b with
   | false=>simp only[xAM,zy];exact no9
   | true=>
    simp only[xAL,zi];refine zSt ?_;simp only[zA,zAK _ (zDu (show i<l.length by omega) (by omega))];refine ih (i+1) (by omega) fun j t hj ht=>?_;rcases Nat.lt_succ_iff_lt_or_eq.1 hj with h|h
    ·exact hp j t h ht
    ·subst h;rw[aG] at ht;cases ht;exact bC rfl
 have go:¬ g < -3->¬ 31<g->¬ (8:Int)<(l.length:Int)->(zTt g&&decide ((0:Int)<(l.length:Int)))=false->zp2 true (KB k [.tmp 2] (zAs (zBF g l=false))) (.pointer (some ⟨k.qa,0,none⟩)) k1:=fun c1 c2 c3 c4=>zcV (by exact loop c1 c2 c3 c4 l.length 0 (by omega) fun j t hj=>by omega);have mid:¬ g < -3->¬ 31<g->¬ (8:Int)<(l.length:Int)->zp4 true (KB k [.tmp 2] (zAs (zBF g l=false))) (.pointer (some ⟨k.qa,0,none⟩)) k1:=by
  intro c1 c2 c3;refine zcX ?_;cases h1:decide (g=-3) <;> cases h2:decide (g=-1) <;> cases h3:decide ((0:Int)<(l.length:Int)) <;>
   simp only[zBw,zCS,xAK,Nat.add_zero,l0,l1,zA,zOC,zAd,zAO,h1,h2,h3,zM,xAO,show (true==false)=false from rfl,show (false==true)=false from rfl,xAG,xAH,zJ,zy,zi] <;> first|exact no4|exact go c1 c2 c3 (by simp only[zTt,h1,h2,h3];rfl)
 refine zcZ ?_;cases h1:decide (g < -3) <;> cases h2:decide (31<g) <;> cases h3:decide ((8:Int)<(l.length:Int)) <;>
  simp only[zBw,zCS,xAK,Nat.add_zero,l0,l1,zA,zOD,zY,zAO,h1,h2,h3,zM,xAO,show (true==false)=false from rfl,show (false==true)=false from rfl,xAG,xAH,zJ,zy,zi] <;> first|exact no|exact mid (of_decide_eq_false h1) (of_decide_eq_false h2) (of_decide_eq_false h3)
def zlf{k:AH}{e f:Int×Int×Int}(aa:k.ok):(zV E).call 139 [.agg ⟨zm e⟩,.agg ⟨zm f⟩] k=some [(.bool (decide (zVt e f<0)),k)]:=by
 refine zdx (s:=true) aa rfl (zcR ?_);obtain⟨k1,e1,n1,t1,o1,f1⟩:=nwF k (rO (zm e) 52);obtain⟨k2,e2,n2,t2,o2,f2⟩:=nw o1 (rO (zm f) 52);simp only[zd,zL,zX,zA,e1,e2,za];have g1:=(f2 k.qa (by omega)).trans t1;have l0:=zF (P:=E) zAa (o:=0) g1;have l1:=zF (P:=E) zAa (o:=1) g1;have l2:=zF (P:=E) zAa (o:=2) g1;have m0:=zF (P:=E) zAa (o:=0) t2;have m1:=zF (P:=E) zAa (o:=1) t2;have m2:=zF (P:=E) zAa (o:=2) t2;simp only[lnth,zm] at l0 l1 l2 m0 m1 m2;refine zcQ ?_;simp only[zEb,Nat.add_zero,l0,m0,zA,zA1,zHH];refine⟨fun h1=>zcP ?_,fun h1=>zcO ?_⟩
 ·simp only[zEb,Nat.add_zero,l0,m0,zA,zY,zAS,zU,true_and];exact⟨congrArg Value.bool (decide_eq_decide.2 (by rw[zOf];omega)),o2.wm⟩
 simp only[zEa,xAK,l1,m1,zA,zA1,zHH];refine⟨fun h2=>zcN ?_,fun h2=>zcM ?_⟩
 ·simp only[zEa,xAK,l1,m1,zA,zY,zAS,zU,true_and];exact⟨congrArg Value.bool (decide_eq_decide.2 (by rw[zOf];omega)),o2.wm⟩
 ·simp only[zFO,xAK,l2,m2,zA,zY,zAS,zU,true_and];exact⟨congrArg Value.bool (decide_eq_decide.2 (by rw[zOf];omega)),o2.wm⟩
def zjl{i:Nat}(hi:0<i)(hn:i<=9223372036854775807):zC E .sub 3 (iI (i:Int)) (iI 1)=some (iI ((i-1:Nat):Int)):=by
 rw[zG9 _ (show zC1 ((i:Int)-1) by unfold zC1;omega)]
 congr 2;omega
def zoO{k:AH}{x:Value}{L:GL}(aa:k.ok)(hx:RL k x L):∃ y,zAs (zx L=false) y/\(zV E).call 85 [x] k=some [(y,k)]:=by
 obtain⟨vl,ve,els,rfl,x2,x3,x4⟩:=hx.ex;refine zdA aa (zf9 ?_);obtain⟨k1,e1,n1,t1,o1,f1⟩:=nwF k (rO [iI L.n,vl,ve] 25);simp only[zd,zL,zX,zA,e1,za];have l0:=zF (P:=E) zAa (o:=0) t1;have l1:=zF (P:=E) zHc (o:=1) t1;have l2:=zF (P:=E) zKT (o:=2) t1;simp only[lnth] at l0 l1 l2;have hL:=RLab.length x3;obtain⟨sa,sc,aT⟩:=x2.slice;obtain⟨sb,sd,cH⟩:=x4.slice;rw[List.length_map] at cH;have no:zsG true (KB k [.tmp 2] (zAs (zx L=false))) k1:=zf7 (by simp only[zA,zAS,zU,true_and];exact⟨⟨rfl,_,rfl,fun h=>by cases h⟩,o1.wm⟩);have no7:zsD true (KB k [.tmp 2] (zAs (zx L=false))) k1:=zf3 (by simp only[zA,zAS,zU,true_and];exact⟨⟨rfl,_,rfl,fun h=>by cases h⟩,o1.wm⟩);have no9:zsC true (KB k [.tmp 2] (zAs (zx L=false))) k1:=zf1 (by simp only[zA,zAS,zU,true_and];exact⟨⟨rfl,_,rfl,fun h=>by cases h⟩,o1.wm⟩);have eloop:L.eds.length<=100000->zBN L=false->(∀ j,j<L.labs.length->zBO L.labs j=false)->∀(m i:Nat),i+m=L.eds.length->(∀ j,j<i->zBh L.n L.labs.length L.eds j=false)->∀ l,Own k l->l.get k.qa=some (rO [iI L.n,vl,ve] 25)->k.qa<l.qa->
   zo3 true (KB k [.tmp 2] (zAs (zx L=false))) (.pointer (some ⟨k.qa,0,none⟩)) (iI (i:Int)) l:=by
  intro hb hz hlb m
  induction m with
  | zero=>
   intro i hi hp l ol tl hn;have l2:=zF (P:=E) zKT (o:=2) tl;simp only[lnth] at l2;refine zMU ?_;rw[cH] at l2;simp only[zCT,xAK,l2,zA,zJP,zY,show decide ((i:Int)<(L.eds.length:Int))=false from xAI (by omega),zi];exact zW5 (by simp only[zA,zAS,zU,true_and];exact⟨⟨rfl,_,rfl,fun _=>zWT hz hlb fun j hj=>hp j (by omega)⟩,ol.wm⟩)
  | succ m ih=>
   intro i hi hp l ol tl hn;have l2:=zF (P:=E) zKT (o:=2) tl;simp only[lnth] at l2;have bi:i<L.eds.length:=by omega
   obtain⟨e,he⟩:∃ e,L.eds[i]?=some e:=⟨_,xAA bi⟩;have ej:(L.eds.map zm)[i]?=some (zm e):=by rw[List.getElem?_map,he];rfl
   obtain⟨p1,q1,w1⟩:=zn5 x4 ol.ext ej;refine zMU ?_;have l2':=l2;rw[cH] at l2';simp only[zCT,xAK,l2',zA,zJP,zY,show decide ((i:Int)<(L.eds.length:Int))=true from xAJ (by omega),zy];refine zXB ?_;obtain⟨l1',e3,n3,t3,o3,f3⟩:=nwUp ol (rO [iI 0,iI 0,iI 0] 52) (rO (zm e) 52);simp only[zCT,xAK,l2,zA,q1,w1,zqx,zd,zL,zX,zob,e3];have tl':=(f3 k.qa hn).trans tl;have a0:=zF (P:=E) zAa (o:=0) tl';have a1:=zF (P:=E) zHc (o:=1) tl';have a2:=zF (P:=E) zKT (o:=2) tl';have b0:=zF (P:=E) zAa (o:=0) t3;have b1:=zF (P:=E) zAa (o:=1) t3;have b2:=zF (P:=E) zAa (o:=2) t3;simp only[lnth,zm] at a0 a1 a2 b0 b1 b2;have next:(0<=e.1/\e.1<L.n/\0<=e.2.2/\e.2.2<L.n/\0<=e.2.1/\e.2.1<(L.labs.length:Int))->zo1 true (KB k [.tmp 2] (zAs (zx L=false))) (.pointer (some ⟨k.qa,0,none⟩)) (iI (i:Int)) (.pointer (some ⟨l.qa,0,none⟩)) l1':=by
    intro hrg;have on:(0<i->∀ f,L.eds[i-1]?=some f->zVt f e<0)->zo0 true (KB k [.tmp 2] (zAs (zx L=false))) (.pointer (some ⟨k.qa,0,none⟩)) (iI (i:Int)) l1':=by
     intro hpv;refine zW6 ?_;simp only[zA,zAK _ (zDu bi (by omega))];refine ih (i+1) (by omega) (fun j hj=>?_) l1' o3 tl' (by omega);rcases Nat.lt_succ_iff_lt_or_eq.1 hj with h|h
     ·exact hp j h
     ·subst h;exact ze1 he hrg hpv
    refine zW8 ?_;simp only[zA,zAO];by_cases h0:(0:Int)<(i:Int)
    ·obtain⟨f,hf⟩:∃ f,L.eds[i-1]?=some f:=⟨_,xAA (by omega)⟩;have iP:(L.eds.map zm)[i-1]?=some (zm f):=by rw[List.getElem?_map,hf];rfl
     obtain⟨p2,q2,w2⟩:=zn5 x4 o3.ext iP;have ag:=zZ (P:=E) zQk (o:=0) t3 (by simp[zm]);rw[show ((zm e).drop 0).take 3=zm e from rfl] at ag;have hc:=zlf (e:=f) (f:=e) o3.ext.ok;cases cG:decide (zVt f e<0) <;> rw[cG] at hc
     ·simp only[h0,decide_true,zM,zR,xAO,xAG,zCT,xAK,a2,zA,zjl (show 0<i by omega) (by omega),q2,w2,ag,zS,hc,zO,zAB,zJ];simp only[xAM,zy];exact zW7 (by simp only[zA,zAS,zU,true_and];exact⟨⟨rfl,_,rfl,fun h=>by cases h⟩,o3.wm⟩)
     ·simp only[h0,decide_true,zM,zR,xAO,xAG,zCT,xAK,a2,zA,zjl (show 0<i by omega) (by omega),q2,w2,ag,zS,hc,zO,zAB,zJ];simp only[xAL,zi];exact on fun _ g hg=>by rw[hf] at hg;cases hg;exact of_decide_eq_true cG
    ·simp only[h0,decide_false,zM,zR,show (false==true)=false from rfl,xAH,zA,zL,zJ,zi];exact on fun h=>absurd (by omega) h0
   have no15:zo2 true (KB k [.tmp 2] (zAs (zx L=false))) l1':=zW9 (by simp only[zA,zAS,zU,true_and];exact⟨⟨rfl,_,rfl,fun h=>by cases h⟩,o3.wm⟩);refine zXA ?_;rw[aT] at a1;cases h1:decide (e.1<0) <;> cases h2:decide (L.n<=e.1) <;> cases h3:decide (e.2.2<0) <;> cases h4:decide (L.n<=e.2.2) <;> cases h5:decide (e.2.1<0) <;> cases h6:decide ((els.length:Int)<=e.2.1) <;>
    simp only[zA3,zBf,zEb,zEa,zFO,xAK,Nat.add_zero,a0,a1,b0,b1,b2,zA,zN4,zY,zAZ,h1,h2,h3,h4,h5,h6,zM,xAO,show (true==false)=false from rfl,show (false==true)=false from rfl,xAG,xAH,zJ,zy,zi] <;> first|exact no15|exact next (by have:=of_decide_eq_false h1;have:=of_decide_eq_false h2;have:=of_decide_eq_false h3;have:=of_decide_eq_false h4;have:=of_decide_eq_false h5;have:=of_decide_eq_false h6;omega)
 have lloop:els.length<=4000->L.eds.length<=100000->zBN L=false->∀(m i:Nat),i+m=els.length->(∀ j,j<i->zBO L.labs j=false)->zsE true (KB k [.tmp 2] (zAs (zx L=false))) (.pointer (some ⟨k.qa,0,none⟩)) (iI (i:Int)) k1:=by
  intro hb bz hz m
  induction m with
  | zero=>
   intro i hi hp;refine zQO ?_;have l1':=l1;rw[aT] at l1';simp only[zBf,xAK,l1',zA,zLq,zY,show decide ((i:Int)<(els.length:Int))=false from xAI (by omega),zi];refine zXC ?_;exact eloop bz hz (fun j hj=>hp j (by omega)) L.eds.length 0 (by omega) (fun j hj=>by omega) k1 o1 t1 (by omega)
  | succ m ih=>
   intro i hi hp;have bi:i<els.length:=by omega
   obtain⟨x,hx⟩:∃ x,els[i]?=some x:=⟨_,xAA bi⟩;obtain⟨p1,q1,w1⟩:=zn6 x2 o1.ext hx;obtain⟨g,v,l,rfl,hr,eJ⟩:=RLab.at x3 i x hx;obtain⟨y,⟨b,rfl,bC⟩,aG⟩:=zlg (g:=g) hr o1.ext;refine zQO ?_;have l1':=l1;rw[aT] at l1';simp only[zBf,xAK,l1',zA,zLq,zY,show decide ((i:Int)<(els.length:Int))=true from xAJ (by omega),zy];refine zf5 ?_;simp only[zBf,xAK,l1,zA,q1,w1,zS,aG,zO];refine zf4 ?_;simp only[zA,zAB];have on:zBF g l=false->(0<i->∀ y,L.labs[i-1]?=some y->zCp y.1 y.2 g l<0)->zo4 true (KB k [.tmp 2] (zAs (zx L=false))) (.pointer (some ⟨k.qa,0,none⟩)) (iI (i:Int)) k1:=by
    intro bN bz;refine zXD ?_;simp only[zA,zAK _ (zDu bi (by omega))];refine ih (i+1) (by omega) fun j hj=>?_;rcases Nat.lt_succ_iff_lt_or_eq.1 hj with h|h
    ·exact hp j h
    ·subst h;exact zVD eJ bN bz
   cases b with
   | false=>simp only[xAM,zy];exact no7
   | true=>
    simp only[xAL,zi];refine zf2 ?_;simp only[zA,zAO];by_cases h0:(0:Int)<(i:Int)
    ·obtain⟨z,bB⟩:∃ z,els[i-1]?=some z:=⟨_,xAA (by omega)⟩;obtain⟨p2,q2,w2⟩:=zn6 x2 o1.ext bB;obtain⟨g2,v2,l2',rfl,gX,jk⟩:=RLab.at x3 (i-1) z bB;have hc:=zoM (g:=g2) (g':=g) gX hr o1.ext;simp only[h0,decide_true,zM,zR,xAO,xAG,zBf,xAK,l1,zA,zjl (show 0<i by omega) (by omega),q1,w1,q2,w2,zS,hc,zO,zAZ,zJ,zAN];exact⟨fun _=>no9,fun ab=>on (bC rfl) fun _ y hy=>by rw[jk] at hy;cases hy;simp only;omega⟩
    ·simp only[h0,decide_false,zM,zR,show (false==true)=false from rfl,xAH,zA,zL,zJ,zi];exact on (bC rfl) fun h=>absurd (by omega) h0
 refine zf8 ?_;have go:els.length<=4000->L.eds.length<=100000->zBN L=false->zsF true (KB k [.tmp 2] (zAs (zx L=false))) (.pointer (some ⟨k.qa,0,none⟩)) k1:=fun h1 h2 h3=>zf6 (by exact lloop h1 h2 h3 els.length 0 (by omega) fun j hj=>by omega);rw[aT] at l1;rw[cH] at l2;cases h1:decide (L.n<1) <;> cases h2:decide (20000<L.n) <;> cases h3:decide ((4000:Int)<(els.length:Int)) <;> cases h4:decide ((100000:Int)<(L.eds.length:Int)) <;>
  simp only[zA3,zBf,zCT,xAK,Nat.add_zero,l0,l1,l2,zA,zQ9,zQ8,zY,zAO,h1,h2,h3,h4,zM,xAO,show (true==false)=false from rfl,show (false==true)=false from rfl,xAG,xAH,zJ,zy,zi] <;>
  first|exact no|exact go (by have:=of_decide_eq_false h3;omega) (by have:=of_decide_eq_false h4;omega) (by have:=of_decide_eq_false h1;have:=of_decide_eq_false h2;have:=of_decide_eq_false h3;have:=of_decide_eq_false h4;simp only[zBN,Bool.or_eq_false_iff,decide_eq_false_iff_not];omega)
def zi7{k:AH}{x:Value}{L:GL}(aa:k.ok)(hx:RL k x L):∃ n:Int,(n=0->zx L=false)/\(zV E).call 23 [x] k=some [(iI n,k)]:=by
 obtain⟨vl,ve,els,rfl,x2,x3,x4⟩:=id hx.ex;have key:∃ y,(∃ n:Int,y=iI n/\(n=0->zx L=false))/\(zV E).call 23 [.agg #[iI L.n,vl,ve]] k=some [(y,k)]:=by
  refine zdU aa (zg4 ?_);obtain⟨k1,e1,n1,t1,o1,f1⟩:=nwF k (rO [iI L.n,vl,ve] 25);simp only[zd,zL,zX,zA,e1,za];have a1:=zZ (P:=E) zDh (o:=0) t1 (by simp);simp only[List.drop_zero,List.take] at a1;obtain⟨y,⟨b,rfl,bC⟩,hb⟩:=zoO o1.ext.ok (hx.ext o1.ext);refine zg3 ?_;simp only[a1,zA,zS,hb,zO];refine zg2 ?_;simp only[zA,zAB];cases b with
  | true=>simp only[xAL,zi];refine zg0 ?_;simp only[zA,zAS,zU,true_and];exact⟨⟨rfl,_,rfl,fun _=>bC rfl⟩,o1.wm⟩
  | false=>simp only[xAM,zy];refine zg1 ?_;simp only[zA,zAS,zU,true_and];exact⟨⟨rfl,_,rfl,fun h=>by omega⟩,o1.wm⟩
 obtain⟨y,⟨n,rfl,hn⟩,h⟩:=key;exact⟨n,hn,h⟩
end Go.Proofs
