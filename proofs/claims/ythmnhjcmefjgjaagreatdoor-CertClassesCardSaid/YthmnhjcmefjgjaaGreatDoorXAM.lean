import Derived.Test.YthmnhjcmefjgjaaGreatDoorXAL
import Derived.Test.YthmnhjcmefjgjaaGreatDoorXAJ
set_option linter.all false
set_option linter.unusedSectionVars false
set_option autoImplicit true
set_option relaxedAutoImplicit true
set_option maxRecDepth 100000
set_option maxHeartbeats 1000000
noncomputable section
namespace Go.Proofs
open Go Go.AM Go.Sort
def zB0(st:LoopState)(pend:Option Code)(T:Tm)(d:Nat):AObj:=.loop st pend T [17] zGv zGH d
def zBE{h:AH}{a l:Nat}{vs:List Value}{ty es:Nat}{ro:Bool}{st:LoopState}{pend:Option Code}{T:Tm}{d:Nat}(h1:h.get a=some (.row vs ty es ro))(h2:h.get l=some (zB0 st pend T d)):a≠l:=by
 rintro rfl;rw[h1] at h2;simp[zB0] at h2
def Cell.ne_loop{h:AH}{c:Value}{F:zf}{l:Nat}{st:LoopState}{pend:Option Code}{T:Tm}{d:Nat}(hc:CellOK h c F)(hl:h.get l=some (zB0 st pend T d)):¬ zu c l:=by
 rintro⟨m,q,e⟩;rcases hc with ⟨rfl,_⟩|⟨b,rfl,hb,_⟩
 ·cases e
 ·simp only[Value.slice.injEq,xAN,Addr.mk.injEq] at e;exact zBE (e.1.1 ▸ hb) hl rfl
def Cell.upd{h:AH}{c:Value}{F:zf}{l:Nat}{o:Option AObj}(hc:CellOK h c F)(hl:¬ zu c l):CellOK (h.upd l o) c F:=by
 rcases hc with ⟨e1,e2⟩|⟨b,e1,e2,e3⟩
 ·exact .inl ⟨e1,e2⟩
 ·exact .inr ⟨b,e1,(zP fun e=>hl ⟨_,_,e ▸ e1⟩).trans e2,e3⟩
def GW.upd{h:AH}{bg l:Nat}{SS:List zf}{st:LoopState}{pend:Option Code}{T:Tm}{d:Nat}(g:GW h bg SS)(hl:h.get l=some (zB0 st pend T d))(o:Option AObj):GW (h.upd l o) bg SS:=by
 obtain⟨bs,cells,cp,es,h1,h2,h3,h4,h5,h6⟩:=g.ex;exact⟨bs,cells,cp,es,(zP (zBE h1 hl)).trans h1,h2,(zP (zBE h3 hl)).trans h3,h4,h5,fun i c S hc hS=>Cell.upd (h6 i c S hc hS) (Cell.ne_loop (h6 i c S hc hS) hl)⟩
def Arr.updL{h:AH}{z:Nat}{v:Value}{els:List (List Value)}{l:Nat}{st:LoopState}{pend:Option Code}{T:Tm}{d:Nat}(a:Arr h z v els)(hl:h.get l=some (zB0 st pend T d))(o:Option AObj):Arr (h.upd l o) z v els:=by
 cases a with
 | nil a c=>exact .nil a c
 | row hb ab bc hz=>exact .row ((zP (zBE hb hl)).trans hb) ab bc hz
def zeX{h:AH}{l d b3 b4 b7 b8 bg un:Nat}{SS:List zf}{S F0:zf}{v c0:Value}{cl:List Int}{own:Int}{T:Tm}(aa:h.ok)
  (hl:h.get l=some (zB0 .ready none T d)) (jj:l<h.qa)
  (h3:h.get b3=some (rO [ptr bg] 128)) (h4:h.get b4=some (rO [v] 47)) (h7:h.get b7=some (rO [iI own] 3)) (h8:h.get b8=some (rO [c0] 132)) (l8:b8<h.qa)
  (hg:GW h bg SS) (hS:SS[un]?=some S) (hc:Arr h 1 v (cl.map i1)) (cM:un<cl.length) (hr:∀ y∈S,0<=y.2/\y.2<(cl.length:Int)) (hF:CellOK h c0 F0) (hlen:F0.length+S.length<=900000) (n8:¬ zu c0 b8)
  (hT:∀ y∈[(3,ptr b3),(4,ptr b4),(7,ptr b7),(8,ptr b8)],T.get y.1=y.2) :
  ∃ h',(zV E).round l [iI (un:Int)] h=some [(.bool true,h')]/\h'.ok/\h'.wm<=l/\(∀ w,w<=h.wm->w<=l->w<=b8->(∀ c,zu c0 c->w<=c)->w<=h.qa->w<=h'.wm)/\h.qa<=h'.qa/\(∀ c,c<h.qa->c≠b8->¬ zu c0 c->h'.get c=h.get c) ∧
   ∃ c' F,(∀ p,p∈F ↔ zBU cl un=own/\p∈zIN S cl)/\F.length<=S.length/\h'.get b8=some (rO [c'] 132)/\CellOK h' c' (F0++F)/\∀ x,zu c' x->zu c0 x\/h.qa<=x:=by
 have n3:=zBE h3 hl;have n4:=zBE h4 hl;have n7:=zBE h7 hl;have nb8:=zBE h8 hl;have ncl:=Cell.ne_loop hF hl
 let hb:=h.upd l (some (zB0 .busy none T d))
 have d6:hb.ok:=zB8 aa _ _;have q:∀ {c:Nat},c≠l->hb.get c=h.get c:=fun hc=>zP hc;have ql:hb.get l=some (zB0 .busy none T d):=zN _ _ _;have key:Ev true ((zV E).round l [iI (un:Int)] h) fun y=>∃ g,((zBU cl un≠own/\g=hb)\/(zBU cl un=own/\zot b8 c0 F0 S cl hb g))/\y=(.bool true,g.upd l (some (zB0 .ready none T d))):=by
  rw[round_eq];unfold roundCall;rw[hl];show Ev true (zCx E (zV E) l zGv zGH h (zBj T [17] [iI (un:Int)])) _;show Ev true (AM.R.andThen (evC E (zV E) (some l) zGv ⟨T.put 17 (iI (un:Int)),h,[]⟩) (zDU E (zV E) l zGH)) _;have j6:∀ y∈[(3,ptr b3),(4,ptr b4),(7,ptr b7),(8,ptr b8),(17,iI (un:Int))],(T.put 17 (iI (un:Int))).get y.1=y.2:=by
   intro y hy;rw[Tm.get_put];simp only[xAQ,List.not_mem_nil,or_false] at hy;rcases hy with rfl|rfl|rfl|rfl|rfl
   ·exact hT _ (by simp)
   ·exact hT _ (by simp)
   ·exact hT _ (by simp)
   ·exact hT _ (by simp)
   ·rfl
  have ha:=zh2 (s:=true) (ll:=l) (h:=h) (K:=fun ex vs g=>ex=.normal/\vs=[ptr b3,ptr b4,ptr b7,ptr b8,iI (un:Int)]/\g=h) j6 (zSx (by exact⟨by trivial,by trivial,by trivial⟩));refine Ev.andThen (ha.mono fun o ho=>?_);obtain⟨o1,o2,o3,o4⟩:=ho;have ho1:o.st.defs=[]:=o1;have dW:[o.st.T.get 3,o.st.T.get 4,o.st.T.get 7,o.st.T.get 8,o.st.T.get 9]=[ptr b3,ptr b4,ptr b7,ptr b8,iI (un:Int)]:=o3;simp only[List.cons.injEq,and_true] at dW;unfold zDU;rw[o2,o4,ho1];simp only[zKj,hl,zB0,xAG,zCO,beginRound];have hT2:∀ y∈[(3,ptr b3),(4,ptr b4),(7,ptr b7),(8,ptr b8),(9,iI (un:Int))],o.st.T.get y.1=y.2:=by
   intro y hy;simp only[xAQ,List.not_mem_nil,or_false] at hy;rcases hy with rfl|rfl|rfl|rfl|rfl
   ·exact dW.1
   ·exact dW.2.1
   ·exact dW.2.2.1
   ·exact dW.2.2.2.1
   ·exact dW.2.2.2.2
  have cK:=zls (h:=hb) (l:=l) (T:=o.st.T) d6 ((q n3).trans h3) ((q n4).trans h4) ((q n7).trans h7) ((q nb8).trans h8) l8 (hg.upd hl _) hS (hc.updL hl _) cM hr (Cell.upd hF ncl) hlen n8 hT2;refine Ev.andThen (cK.mono fun p hp=>?_);obtain⟨_,p2⟩:=hp;obtain⟨p4,p5⟩:=p2;have gl:p.st.h.get l=some (zB0 .busy none T d):=by
   rcases p5 with ⟨_,e⟩|⟨_,e⟩
   ·rw[e];exact ql
   ·exact (e.fx.get l jj fun h=>h.elim (fun h=>nb8 h.symm) ncl).trans ql
  unfold endRound;rw[p4];simp only[zEU,zCO,gl,zB0,zC2,Option.isNone,xAG];exact Ev.one ⟨_,p5,rfl⟩
 obtain⟨y,e,g,hy,rfl⟩:=zit key;rcases hy with ⟨hy,rfl⟩|⟨hy,P⟩
 ·refine⟨_,e,zB8 d6 _ _,(zCm _ _ _).2,fun w h1 h2 h3 _ _=>zAA (zAA h1 h2) h2,xAF _,fun c _ _ _=>?_,c0,[],fun p=>⟨fun h=>absurd h (by simp),fun h=>absurd h.1 hy⟩,Nat.zero_le _,?_,?_,fun x hx=>.inl hx⟩
  ·by_cases hc:c=l
   ·subst hc;rw[zN,hl]
   ·rw[zP hc,q hc]
  ·rw[zP nb8];exact (q nb8).trans h8
  ·rw[List.append_nil];exact Cell.upd (Cell.upd hF ncl) ncl
 ·obtain⟨c',F,s1,s2,s3,s4,s5⟩:=P.ex;have hn:hb.qa<=g.qa:=P.fx.qa;have gH:hb.qa=h.qa:=rfl;have nc':¬ zu c' l:=fun hx=>by
   rcases s5 l hx with h|h
   ·exact ncl h
   ·omega
  refine⟨_,e,zB8 P.fx.ok _ _,(zCm _ _ _).2,fun w h1 h2 h3 h4 h5=>zAA (P.fx.wm w (zAA h1 h2) (fun c hc=>hc.elim (fun e=>by omega) (h4 c)) h5) h2,hn,fun c x1 x2 x3=>?_,c',F,fun p=>(s1 p).trans ⟨fun h=>⟨hy,h⟩,fun h=>h.2⟩,s2,(zP nb8).trans s3,Cell.upd s4 nc',s5⟩;by_cases hc:c=l
  ·subst hc;rw[zN,hl]
  ·rw[zP hc];exact (P.fx.get c x1 fun h=>h.elim x2 x3).trans (q hc)
def zfA{k:AH}{cf:Value}(aa:k.ok):(zV E).call 220 [.slice none 0 0,cf] k=some [(iI (-1),k)]:=by
 refine zTP aa rfl (zIe ?_)
 try simp only[zA]
 refine zId ?_;simp only[zA,zEw];refine zEi ?_;simp only[zY,zA,show decide ((0:Int)<((0:Nat):Int))=false from rfl,zi];refine zIc ?_
 try simp only[zA]
 rw[zAS];exact⟨zU ▸ trivial,rfl,by rw[zAm];omega⟩
def zfB{k:AH}{cf:Value}(aa:k.ok):(zV E).call 179 [.slice none 0 0,cf] k=some [(.slice none 0 0,k)]:=by
 refine zTT aa rfl (zIj ?_)
 try simp only[zA]
 refine zIi ?_;simp only[zA,zS,zfA (zAX k),zO];refine zIh ?_;simp only[zA,zAd,decide_true,zy];refine zNC ?_
 try simp only[zA]
 rw[zAS];exact⟨zU ▸ trivial,rfl,by rw[zAm];omega⟩
def znk{a:Int}:zAu E 134 (some [(0,iI 0),(1,iI a)])=some (.agg ⟨zG (0,a)⟩):=by kernel_rfl
def zlT{k:AH}{b:Nat}{p:Int×Int}{own:Int}(aa:k.ok)(hb:k.get b=some (rO [iI own] 3))(ax:b<k.qa) :
  (zV E).call 180 [.agg ⟨zG p⟩,ptr b] k=some [(.bool (decide (p=(0,own))),k)]:=by
 refine zdf (s:=true) aa rfl (zbJ ?_);obtain⟨k1,e1,n1,t1,o1,f1⟩:=nwF k (rO (zG p) 134);simp only[zd,zL,zX,zA,e1,za];refine zbI ?_;have l1:zH E 134 k1 (sP k.qa 0)=some (.agg ⟨zG p⟩):=zZ (P:=E) zEM (o:=0) t1 (by simp[zG]);have l2:=zF (P:=E) zAa (o:=0) ((f1 b ax).trans hb);simp only[lnth] at l2;simp only[l1,l2,znk,zA,zoA,zAS,zU,true_and];exact o1.wm
def zji{h0:AH}{b:Nat}{own:Int}(hb:h0.get b=some (rO [iI own] 3))(ax:b<h0.qa):zWe h0 (.func (.func 180) #[] #[ptr b]) fun p=>decide (p=(0,own)):=
 fun k' p e=>by rw[zjY];exact zlT e.ok ((e.get b ax).trans hb) (xAC ax e.qa)
def zIq(s:Bool)(d:Nat):Cx:=⟨E,s,none,zI9,[([0],[7,8]),([1,0],[8]),([1,1,0],[8])],[6],[d]⟩
section
variable {s:Bool} {K:KF} {h:AH} {v7 v8:Value} {d:Nat}
def zSu(H :
 EvO (zH E 132 h v8) fun x0=>
 EvO (zBB (.func 180) (some []) [v7]) fun x1=>
 Ev s (zT (zV E) (some (.func (.func 179) #[] #[])) [x0,x1] h) fun x2=>
 Ev s (zb E 132 x2.2 v8 x2.1) fun x3=>
 PI (zIq s d) K 1 [v8] x3.2):PI (zIq s d) K 0 [v7,v8] h:=zB H
def zKG(H :
 EvO (zH E 132 h v8) fun x0=>
 Ev s (zT (zV E) (some (.func (.func 175) #[] #[])) (some [x0,(.func (.func 176) #[] #[])]) h) fun x1=>
 PI (zIq s d) K 2 [v8] x1.2):PI (zIq s d) K 1 [v8] h:=zB H
def zKF(H :
 EvO (zH E 132 h v8) fun x0=>
 Ev s (zT (zV E) (some (.func (.func 177) #[] #[])) [x0] h) fun x1=>
 K .ret [x1.1] x1.2):PI (zIq s d) K 2 [v8] h:=zB H
def zhz{T:Tm}(hT:∀ x∈[(7,v7),(8,v8)],T.get x.1=x.2)(H:PI (zIq s d) K 0 [v7,v8] h) :
 Ev s (evC E (zV E) none zI9 ⟨T,h,[d]⟩) (zI4 (zIq s d) K):=
 zBZ (C:=zIq s d) (by kernel_rfl) (by kernel_rfl) hT ((by kernel_rfl:zDP (zIq s d) K 30 (rs zI9 60 (.at [])) (zk [(7,v7),(8,v8)]) h=(PI (zIq s d) K 0 [v7,v8] h)).mpr H)
end
def zqE(b8:Nat)(c:Value)(F:zf)(own:Int)(h:AH):KF:=fun ex vs g=>ex=.ret/\∃ x F',vs=[x]/\zCq F'/\(∀ p,p∈F' ↔ p∈F/\p≠(0,own))/\F'.length<=F.length/\Sl (b8+1) g x F'/\Fx (fun y=>y=b8\/zu c y) h g
def mkF{f b:Nat}:zBB (.func f) (some []) (some [ptr b])=some (.func (.func f) #[] #[ptr b]):=rfl
def zjj{h:AH}{d b7 b8:Nat}{c:Value}{own:Int}{F:zf}{T:Tm}(aa:h.ok)(h7:h.get b7=some (rO [iI own] 3))(h8:h.get b8=some (rO [c] 132))(l78:b7<b8)(l8:b8<h.qa)
  (hc:CellOK h c F) (eb:∀ x,zu c x->b8<x) (hlen:F.length<=1000000) (hT:∀ y∈[(7,ptr b7),(8,ptr b8)],T.get y.1=y.2) :
  Ev true (evC E (zV E) none zI9 ⟨T,h,[d]⟩) (zI4 (zIq true d) (zqE b8 c F own h)):=by
 refine zhz hT (zSu ?_);have lc:=zF (P:=E) zCn (o:=0) h8;simp only[lnth] at lc;simp only[lc,zA,mkF,zS];rcases hc with ⟨rfl,rfl⟩|⟨bl,rfl,hg,ab⟩
 ·simp only[zfB aa,zO];have af:=zAC (P:=E) zPA (o:=0) (x:=.slice none 0 0) (cs:=[.slice none 0 0]) h8 rfl rfl (by simp) (by simp[zq]);simp only[af,zL];have g8:=zN h b8 (some (rO (lput [.slice none 0 0] 0 [.slice none 0 0]) 132));have ok2:(h.upd b8 (some (rO (lput [.slice none 0 0] 0 [.slice none 0 0]) 132))).ok:=zB8 aa _ _;have fx:Fx (fun y=>y=b8\/zu (.slice none 0 0) y) h (h.upd b8 (some (rO (lput [.slice none 0 0] 0 [.slice none 0 0]) 132))):=(Fx.refl aa).upd (.inl (.inl rfl)) _;generalize h.upd b8 (some (rO (lput [.slice none 0 0] 0 [.slice none 0 0]) 132))=h3 at g8 ok2 fx;have lc3:zH E 132 h3 (some (ptr b8))=some (.slice none 0 0):=zF (P:=E) zCn (o:=0) g8;refine zKG ?_;simp only[lc3,zA,zS,zQE ok2,zO];refine zKF ?_;simp only[lc3,zA,zS,zQD ok2,zO];exact⟨rfl,_,[],rfl,List.Pairwise.nil,fun p=>⟨fun h=>absurd h (by simp),fun h=>absurd h.1 (by simp)⟩,xAF _,.inl ⟨rfl,rfl⟩,fx⟩
 ·have ax:=eb bl ⟨_,_,rfl⟩;refine (zlU (k:=h) (h0:=⟨h.t,b8,h.wm⟩) (d:=F.toArray) (f:=fun p=>decide (p=(0,own))) (ty:=134) (es:=2) (RowB.of (by simpa[zHD,stc] using hg)) ab (n:=F.length) (by simp) (by simpa using hlen) ⟨aa,Nat.le_of_lt l8,fun _ _=>rfl⟩ (Nat.le_of_lt ax) (zji h7 l78)).mono ?_;rintro⟨v2,h2⟩ C;have dm:=C.v;obtain⟨rs,az,eO⟩:=C.row;have fx:=C.fx;simp only at dm az fx ⊢;generalize hG:(F.toArray.toList.filter fun p=>!decide (p=(0,own)))=G at dm az;have hGl:G.length<=F.length:=by rw[← hG];simpa using List.length_filter_le _ F
  have hGm:∀ p,p∈G ↔ p∈F/\p≠(0,own):=fun p=>by rw[← hG];simp
  subst dm;have h82:=(fx.get b8 l8 (by omega)).trans h8;have n2:=fx.qa;have af:=zAC (P:=E) zPA (o:=0) (x:=sl bl G.length (UNK+2)) (cs:=[sl bl G.length (UNK+2)]) h82 rfl rfl (by simp) (by simp[zq,sl]);simp only[af,zL];obtain⟨h3,e3⟩:∃ h3,h2.upd b8 (some (.row (lput [.slice (some ⟨bl,0,none⟩) F.length (UNK+2)] 0 [sl bl G.length (UNK+2)]) 132 0 false))=h3:=⟨_,rfl⟩;have g8:h3.get b8=some (rO [sl bl G.length (UNK+2)] 132):=by rw[← e3];exact zN _ _ _
  have fx3:Fx (fun y=>y=b8\/y=bl) h h3:=by rw[← e3];exact (fx.mono (P':=fun y=>y=b8\/y=bl) fun y hy=>.inl (.inr hy)).upd (.inl (.inl rfl)) _
  have row3:h3.get bl=h2.get bl:=by rw[← e3];exact zP (by omega)
  rw[e3];have n3:=fx3.qa;have lc3:zH E 132 h3 (some (ptr b8))=some (sl bl G.length (UNK+2)):=zF (P:=E) zCn (o:=0) g8;refine zKG ?_;simp only[lc3,zA,zS];have cD:G.toArray.size=G.length:=by simp
  refine (zV9 (c:=UNK+2) (d:=G.toArray) (cm:=zME) (ty:=134) (es:=2) ⟨rs,by rw[row3];simpa[zHD] using az,eO⟩ (by omega) fx3.ok (n:=G.length) cD (by omega) zi2 zsf).mono ?_;rintro⟨w1,h4⟩ ⟨d',⟨_,hP,j7⟩,R⟩;simp only at hP j7 R ⊢;have hsz:d'.size=G.length:=by rw[R.sz];simp
  have h84:=(R.fx.get b8 (by omega) (by omega)).trans g8;have lc4:zH E 132 h4 (some (ptr b8))=some (sl bl G.length (UNK+2)):=zF (P:=E) zCn (o:=0) h84;refine zKF ?_;simp only[lc4,zA,zS];refine (zV8 (d:=d') R.g R.l hsz (by omega)).mono ?_;rintro⟨v5,h5⟩ C;have iU:=C.v;obtain⟨rs5,fU,hids5⟩:=C.row;have fx5:=C.fx;simp only at iU fU fx5 ⊢;subst iU;have n4:=R.fx.qa;have n5:=fx5.qa;have fW:PermIn 0 G.toArray.size G.toArray d':=by simpa using hP
  refine⟨rfl,_,dd d' d'.size,rfl,zIM (by rw[hsz];simpa using j7) _ (xAF _),fun p=>(zi0 d' p).trans ((zPN fW p).trans (by simpa using hGm p)),(by have:=zVj d' d'.size;omega),.inr ⟨bl,rs5,rfl,ax,by omega,fU⟩,?_⟩;exact ((fx3.trans R.fx fun c hc=>.inl (.inr hc)).trans fx5 fun c hc=>.inl (.inr hc)).mono fun y hy=>hy.elim (fun e=>.inl (.inl e)) fun e=>.inl (.inr (e ▸ ⟨F.length,UNK+2,rfl⟩))
def zVy{f:FuncId}{fn:Func}{c:Code}{args:List Value}{h:AH}{Q:Value->AH->Prop}(aa:h.ok)(hf:E.tab.fn.get f=some fn)(hb:fn.body=some c)(aF:E.sum f args h=none)(hl:Nat.ble (zBH args) fn.ntmps=true)
  (cP:Ev true (AM.R.andThen (evC E (zV E) none (zc fn) ⟨⟨fn.ntmps,zCB args 0 .e⟩,h.qb,[]⟩) (zAW E fn)) fun x=>Q x.1 x.2) :
  Ev true ((zV E).call f args h) fun x=>∃ k,Q x.1 k/\((h.qa<=k.wm/\zg x.1=true/\x.2=h)\/x.2=⟨k.t,k.qa,cond (Nat.ble h.wm k.wm) h.wm k.wm⟩):=by
 rw[zBT hf hb aF hl];obtain⟨l,e,ah,h1,ct⟩:=cP;rw[e]
 match l,h1 rfl with
 | [x],_=>
  have hq:=ct x (by simp);show Ev true (some [zUU h.wm (zBQ h.qb x)]) _;rw[zO];unfold zBQ;cases hc:(zD9 h.qb x&&zg x.1) with
  | true=>
   have aG:zD9 h.qb x=true/\zg x.1=true:=by simpa only[xAP] using hc
   simp only[xAG];refine⟨x.2,hq,.inl ⟨ble_true.1 aG.1,aG.2,?_⟩⟩;show (⟨h.t,h.qa,cond (Nat.ble h.wm (Nat.add h.qa UNK)) h.wm (Nat.add h.qa UNK)⟩:AH)=h;have:Nat.ble h.wm (Nat.add h.qa UNK)=true:=ble_true.2 aa;rw[this];rfl
  | false=>
   simp only[xAH];exact⟨x.2,hq,.inr rfl⟩
def zmo:zeD=.seq zeC (.seq zTl (.seq zO4 (.seq (.seq zNg (.block 0 (.rangeFunc (.tmp 16) #[17] zGv zGH))) zI9))):=by kernel_rfl
def zoD{T:Tm}{h:AH}{d:Nat}{v:Value}(hT:T.get 6=v)(hd:h.get d=some .defd) :
  zAW E Tryz.f131 ⟨.ret,⟨T,h,[d]⟩⟩=one (v,h.upd d none):=by
 have gV:Tryz.f131.results.toList=[.tmp 6]:=by kernel_rfl
 have:zAW E Tryz.f131 ⟨.ret,⟨T,h,[d]⟩⟩=zCC E Tryz.f131 T (zB9 [d] h):=rfl;rw[this];simp only[zB9,hd,zCC,zEp,gV,zCj,hT,v1]
def zir{k l:AH}(o:Own k l):Fx NoB k.qb l:=⟨o.ext.ok,o.ext.qa,fun c hc _=>o.ext.get c hc,fun m _ _ h3=>Nat.le_trans h3 o.wm⟩
def zqu(b8:Nat)(SS:List zf)(cl:List Int)(own:Int):JT:=fun vis O h=>∃ c F,h.get b8=some (rO [c] 132)/\CellOK h c F/\(∀ x,zu c x->O x)/\(∀ p,p∈F ↔ ∃ u∈vis,zBU cl u=own/\∃ S,SS[u.toNat]?=some S/\p∈zIN S cl)/\F.length<=vis.length*900
def zlh{k:AH}{bg s:Nat}{SS:List zf}{v:Value}{cl:List Int}(aa:k.ok)(hg:GW k bg SS)(bD:zO0 SS)(hc:Arr k 1 v (cl.map i1))(hs:s<SS.length)(aG:cl.length=SS.length)(hn:SS.length<=900)(hS9:∀(i:Nat) (S:zf),SS[i]?=some S->S.length<=900) :
  Ev true ((zV E).call 131 [ptr bg,v,iI (s:Int)] k) fun x=>∃ F,zCq F/\(∀ p,p∈F ↔ (∃ u∈zFU SS SS.length 0 [(s:Int)],zBU cl u=zBU cl s/\∃ S,SS[u.toNat]?=some S/\p∈zIN S cl)/\p≠(0,zBU cl s))/\F.length<=900000/\Sl k.qa x.2 x.1 F/\Fx NoB k x.2:=by
 generalize eF:zBU cl (s:Int)=own;have jF:s<cl.length:=by omega
 have aX:cl[s]=own:=by
  rw[← eF];unfold zBU;rw[show ((s:Int)).toNat=s from rfl,xAA jF];rfl
 have main:Ev true (AM.R.andThen (evC E (zV E) none (zc Tryz.f131) ⟨⟨Tryz.f131.ntmps,zCB [ptr bg,v,iI (s:Int)] 0 .e⟩,k.qb,[]⟩) (zAW E Tryz.f131)) fun x=>
   ∃ F,zCq F/\(∀ p,p∈F ↔ (∃ u∈zFU SS SS.length 0 [(s:Int)],zBU cl u=own/\∃ S,SS[u.toNat]?=some S/\p∈zIN S cl)/\p≠(0,own))/\F.length<=900000/\Sl k.qa x.2 x.1 F/\Fx NoB k.qb x.2:=by
  show Ev true (AM.R.andThen (evC E (zV E) none zeD _) (zAW E Tryz.f131)) _;have jY:∀ y∈[(0,ptr bg),(1,v),(2,iI (s:Int))],(⟨Tryz.f131.ntmps,zCB [ptr bg,v,iI (s:Int)] 0 .e⟩:Tm).get y.1=y.2:=by
   intro y hy;simp only[xAQ,List.not_mem_nil,or_false] at hy;rcases hy with rfl|rfl|rfl <;> kernel_rfl
  generalize (⟨Tryz.f131.ntmps,zCB [ptr bg,v,iI (s:Int)] 0 .e⟩:Tm)=T0 at jY;rw[zmo];refine Ev.andThen ?_;obtain⟨k1,e1,n1,t1,o1,f1⟩:=nwF k (rO [ptr bg] 128);obtain⟨k2,e2,n2,t2,o2,f2⟩:=nw o1 (rO [v] 47);rw[n1] at t2;show Ev true (AM.R.andThen (evC E (zV E) none zeC ⟨T0,k.qb,[]⟩) (thenC (evC E (zV E) none (.seq zTl (.seq zO4 (.seq (.seq zNg (.block 0 (.rangeFunc (.tmp 16) #[17] zGv zGH))) zI9)))))) _;have aT:zq v=true/\zj v=[v]:=by obtain⟨a,c,e⟩:=hc.slice;rw[e];exact⟨rfl,rfl⟩
  have ha:=zh5 (s:=true) (h:=k.qb) (K:=fun ex vs g=>ex=.normal/\vs=[iI (s:Int),ptr k.qa,ptr (k.qa+1)]/\g=k2) jY (zS1 (by
   simp only[zd,zL,zA,aT.2,show zj (ptr bg)=[ptr bg] from rfl,e1,za,e2,n1];exact⟨by trivial,by trivial,by trivial⟩))
  refine Ev.andThen (ha.mono fun o ho=>?_);obtain⟨ex,T,g,ds⟩:=o;obtain⟨p1,p2,p3,p4⟩:=ho;have p1':ds=[]:=p1;have p2':ex=.normal:=p2;have p4':g=k2:=p4;subst p1' p2' p4';clear p1 p2 p4;have p3':[T.get 2,T.get 3,T.get 4]=[iI (s:Int),ptr k.qa,ptr (k.qa+1)]:=p3;simp only[List.cons.injEq,and_true] at p3';have t3:=(f2 k.qa (by omega)).trans t1;have l4:zH E 47 g (some (ptr (k.qa+1)))=some v:=zF (P:=E) znK (o:=0) t2;obtain⟨p,q1,q2⟩:=zHF hc o2.ext (xAA jF);obtain⟨k3,e3,n3,t3',o3,f3⟩:=nw o2 (rO [iI 0] 3);rw[n2,n1] at t3';obtain⟨k4,e4,n4,t4,o4,f4⟩:=up o3 (b:=k.qa+2) (by omega) (rO [iI own] 3);have hst3:zb E 3 k3 (some (ptr (k.qa+2))) (some (iI own))=one (undef,k4):=by
   rw[← e4];exact zAC (P:=E) zT7 (o:=0) (x:=iI own) (cs:=[iI own]) t3' rfl rfl (by simp) rfl
  show Ev true (AM.R.andThen (evC E (zV E) none zTl ⟨T,g,[]⟩) (thenC (evC E (zV E) none (.seq zO4 (.seq (.seq zNg (.block 0 (.rangeFunc (.tmp 16) #[17] zGv zGH))) zI9))))) _;have hf:=zh1 (s:=true) (v2:=iI (s:Int)) (v3:=ptr k.qa) (v4:=ptr (k.qa+1)) (T:=T) (h:=g) (K:=fun ex vs g=>ex=.normal/\vs=[iI (s:Int),ptr k.qa,ptr (k.qa+1),ptr (k.qa+2)]/\g=k4) (by
   intro y hy;simp only[xAQ,List.not_mem_nil,or_false] at hy;rcases hy with rfl|rfl|rfl
   ·exact p3'.1
   ·exact p3'.2.1
   ·exact p3'.2.2) (zSw (by
   simp only[l4,q1,q2,zA,aX,z_3,zd,zL,show zj (iI 0)=[iI 0] from rfl,e3,n2,n1,show k.qa+1+1=k.qa+2 from rfl,hst3];exact⟨by trivial,by trivial,by trivial⟩))
  refine Ev.andThen (hf.mono fun o ho=>?_);obtain⟨ex,T2,g4,ds⟩:=o;obtain⟨p1,p2,p3,p4⟩:=ho;have p1':ds=[]:=p1;have p2':ex=.normal:=p2;have p4':g4=k4:=p4;subst p1' p2' p4';clear p1 p2 p4;have p3'':[T2.get 2,T2.get 3,T2.get 4,T2.get 7]=[iI (s:Int),ptr k.qa,ptr (k.qa+1),ptr (k.qa+2)]:=p3;simp only[List.cons.injEq,and_true] at p3'';obtain⟨k5,e5,n5,t5,o5,f5⟩:=nw o4 (rO [.slice none 0 0] 132);rw[n4,n3,n2,n1] at t5;show Ev true (AM.R.andThen (evC E (zV E) none zO4 ⟨T2,g4,[]⟩) (thenC (evC E (zV E) none (.seq (.seq zNg (.block 0 (.rangeFunc (.tmp 16) #[17] zGv zGH))) zI9)))) _;have hgg:=zh0 (s:=true) (v2:=iI (s:Int)) (v3:=ptr k.qa) (v4:=ptr (k.qa+1)) (v7:=ptr (k.qa+2)) (T:=T2) (h:=g4) (K:=fun ex vs g=>ex=.normal/\vs=[iI (s:Int),ptr k.qa,ptr (k.qa+1),ptr (k.qa+2),ptr (k.qa+3)]/\g=k5) (by
   intro y hy;simp only[xAQ,List.not_mem_nil,or_false] at hy;rcases hy with rfl|rfl|rfl|rfl
   ·exact p3''.1
   ·exact p3''.2.1
   ·exact p3''.2.2.1
   ·exact p3''.2.2.2) (zSv (by
   simp only[zjX,zd,zL,show zj (.slice none 0 0)=[.slice none 0 0] from rfl,e5,n4,n3,n2,n1,show k.qa+1+1+1=k.qa+3 from rfl];exact⟨by trivial,by trivial,by trivial⟩))
  refine Ev.andThen (hgg.mono fun o ho=>?_);obtain⟨ex,T3,g5,ds⟩:=o;obtain⟨p1,p2,p3,p4⟩:=ho;have p1':ds=[]:=p1;have p2':ex=.normal:=p2;have p4':g5=k5:=p4;subst p1' p2' p4';clear p1 p2 p4;have p3g:[T3.get 2,T3.get 3,T3.get 4,T3.get 7,T3.get 8]=[iI (s:Int),ptr k.qa,ptr (k.qa+1),ptr (k.qa+2),ptr (k.qa+3)]:=p3;simp only[List.cons.injEq,and_true] at p3g;have m5:g5.qa=k.qa+4:=by omega
  have b3:g5.get k.qa=some (rO [ptr bg] 128):=(f5 _ (by omega)).trans ((f4 _ (by omega)).trans ((f3 _ (by omega)).trans t3));have b4:g5.get (k.qa+1)=some (rO [v] 47):=(f5 _ (by omega)).trans ((f4 _ (by omega)).trans ((f3 _ (by omega)).trans t2));have b7:g5.get (k.qa+2)=some (rO [iI own] 3):=(f5 _ (by omega)).trans t4;have b8:g5.get (k.qa+3)=some (rO [.slice none 0 0] 132):=t5;show Ev true (AM.R.andThen (AM.R.andThen (evC E (zV E) none zNg ⟨T3,g5,[]⟩) (thenC (evC E (zV E) none (.block 0 (.rangeFunc (.tmp 16) #[17] zGv zGH))))) (thenC (evC E (zV E) none zI9))) _;refine Ev.andThen (Ev.andThen ?_);have lg:=zF (P:=E) zCJ (o:=0) b3;simp only[lnth] at lg;have hb:=zh4 (s:=true) (v2:=iI (s:Int)) (v3:=ptr k.qa) (v4:=ptr (k.qa+1)) (v7:=ptr (k.qa+2)) (v8:=ptr (k.qa+3)) (T:=T3) (h:=g5) (K:=fun ex vs kB=>ex=.normal/\vs=[ptr k.qa,ptr (k.qa+1),ptr (k.qa+2),ptr (k.qa+3),.func (.func 222) #[] #[ptr (g5.qa+1),ptr g5.qa]] ∧
    kB.qa=g5.qa+2/\kB.ok/\(∀ w,w<=g5.wm->w<=g5.qa->w<=kB.wm)/\kB.get g5.qa=some (rO [ptr bg] 128)/\kB.get (g5.qa+1)=some (rO [iI (s:Int)] 3)/\∀ c,c<g5.qa->kB.get c=g5.get c) (by
   intro y hy;simp only[xAQ,List.not_mem_nil,or_false] at hy;rcases hy with rfl|rfl|rfl|rfl|rfl
   ·exact p3g.1
   ·exact p3g.2.1
   ·exact p3g.2.2.1
   ·exact p3g.2.2.2.1
   ·exact p3g.2.2.2.2) (zS0 (by
   simp only[lg,zA,zS];refine call178.mono fun y hy=>?_;obtain⟨y1,y2⟩:=hy;rw[y1];exact⟨trivial,rfl,y2⟩))
  refine hb.mono fun o ho=>?_;obtain⟨ex,T',kB,ds⟩:=o;obtain⟨p1,p2,p3,nB,okB,wB,c4,c5,bo⟩:=ho;have p1':ds=[]:=p1;have p2':ex=.normal:=p2;subst p1' p2';clear p1 p2;have p3b:[T'.get 3,T'.get 4,T'.get 7,T'.get 8,T'.get 16]=[ptr k.qa,ptr (k.qa+1),ptr (k.qa+2),ptr (k.qa+3),.func (.func 222) #[] #[ptr (g5.qa+1),ptr g5.qa]]:=p3;simp only[List.cons.injEq,and_true] at p3b;obtain⟨u3,u4,u7,u8,u16⟩:=p3b;clear p3;simp only at nB okB wB c4 c5 bo;show Ev true (AM.R.andThen (evRange E (zV E) none (some (T'.get 16)) [17] zGv zGH ⟨T',kB,[]⟩) (zDY 0)) _;rw[u16];have hhb:zDF E 222=true:=by kernel_rfl
  have af:evRange E (zV E) none (some (.func (.func 222) #[] #[ptr (g5.qa+1),ptr g5.qa])) [17] zGv zGH ⟨T',kB,[]⟩ =
    AM.R.andThen ((zV E).call 222 [.func (.yield (kB.qa+1)) #[] #[],ptr (g5.qa+1),ptr g5.qa] ((kB.new .defd).new (zB0 .ready none T' kB.qa))) fun x=>zBa (kB.qa+1) T' [kB.qa] x.2:=by
   unfold evRange;simp only[hhb,xAG];rfl
  rw[af];refine Ev.andThen (Ev.andThen ?_);have okC:((kB.new .defd).new (zB0 .ready none T' kB.qa)).ok:=zBd (zBd okB _) _;have cl':((kB.new .defd).new (zB0 .ready none T' kB.qa)).get (kB.qa+1)=some (zB0 .ready none T' kB.qa):=zI (kB.new .defd) _;have cd:((kB.new .defd).new (zB0 .ready none T' kB.qa)).get kB.qa=some .defd:=(zK (by simp)).trans (zI kB _);have co:∀ c,c<kB.qa->((kB.new .defd).new (zB0 .ready none T' kB.qa)).get c=kB.get c:=fun c hc=>(zK (by simp;omega)).trans (zK (by omega));have nC:((kB.new .defd).new (zB0 .ready none T' kB.qa)).qa=kB.qa+2:=rfl;have wC:((kB.new .defd).new (zB0 .ready none T' kB.qa)).wm=kB.wm:=rfl;generalize ((kB.new .defd).new (zB0 .ready none T' kB.qa))=kC at okC cl' cd co nC wC;have cg:∀ c,c<g5.qa->kC.get c=g5.get c:=fun c hc=>(co c (by omega)).trans (bo c hc);have eC:Ext k kC:=⟨okC,by omega,fun c hc=>(cg c (by omega)).trans (o5.ext.get c hc)⟩;have hw0:k.qa<=kC.wm:=by rw[wC];exact wB _ o5.wm (by omega)
  have eX:∀ h,Exb (k.qa+3) kC h->Ext k h:=fun h e=>⟨e.ok,by have:=e.qa;omega,fun c hc=>(e.get c (by omega) (by omega)).trans (eC.get c hc)⟩;have hGB:GWB (k.qa+3) kC bg SS:=by
   obtain⟨bs,cells,cp,es,x1,x2,x3,x4,x5,x6⟩:=hg.ex;obtain⟨bs',cells',cp',es',y1,y2,y3,y4,y5,y6⟩:=(hg.ext eC).ex;have r1:=(eC.get bg x2).trans x1;rw[r1] at y1;simp only[xAN,AObj.row.injEq,List.cons.injEq,Value.slice.injEq,Addr.mk.injEq,and_true,true_and] at y1;obtain⟨rfl,_,_⟩:=y1;have r2:=(eC.get bs x4).trans x3;rw[r2] at y3;simp only[xAN,AObj.row.injEq,and_true,true_and] at y3;obtain⟨rfl,rfl⟩:=y3;refine⟨bs,cells,cp,es,r1,by omega,r2,by omega,x5,y6,by omega,by omega,fun i c x hi hx=>?_⟩;have his:i<SS.length:=by have:=(List.getElem?_eq_some_iff.1 hi).1;omega
   rcases x6 i c _ hi (xAA his) with ⟨e,_⟩|⟨b,e,_,hb⟩
   ·rw[e] at hx;obtain⟨_,_,e'⟩:=hx;cases e'
   ·rw[e] at hx;obtain⟨_,_,e'⟩:=hx;simp only[Value.slice.injEq,xAN,Addr.mk.injEq] at e';omega
  have hY:YdG (k.qa+3) kC (kB.qa+1) k.qa SS.length (zqu (k.qa+3) SS cl own):=by
   intro vis O h hv hJ he hw hO u hu0 huN;obtain⟨c,F,j1,j2,j3,j4,j5⟩:=hJ;obtain⟨un,rfl⟩:=Int.eq_ofNat_of_zero_le hu0;have cM:un<SS.length:=by omega
   have gI:SS[un]?=some SS[un]:=xAA cM;obtain⟨z1,z2⟩:=bD.stp un _ gI;have z9:=hS9 un _ gI;have hk:=eX h he;have dN:=he.qa;have nb:∀ x,zu c x->kC.qa<=x/\x<h.qa:=fun x hx=>hO x (j3 x hx);have hmul:vis.length*900+900<=900*900:=by
    have:(vis.length+1)*900<=900*900:=Nat.mul_le_mul_right _ (by omega);omega
   obtain⟨h',r1,r2,r3,r4,r5,r6,c',F',s1,s2,s3,s4,s5⟩:=zeX (h:=h) (l:=kB.qa+1) (d:=kB.qa) (un:=un) (own:=own) (F0:=F) (T:=T') he.ok ((he.get _ (by omega) (by omega)).trans cl') (by omega)
    ((he.get _ (by omega) (by omega)).trans ((cg _ (by omega)).trans b3)) ((he.get _ (by omega) (by omega)).trans ((cg _ (by omega)).trans b4)) ((he.get _ (by omega) (by omega)).trans ((cg _ (by omega)).trans b7)) j1 (by omega)
    (hg.ext hk) gI (hc.ext hk) (by omega) (fun y hy=>by rw[aG];exact z2 y hy) j2 (by omega) (fun hx=>by have:=(nb _ hx).1;omega) (by
     intro y hy;simp only[xAQ,List.not_mem_nil,or_false] at hy;rcases hy with rfl|rfl|rfl|rfl
     ·exact u3
     ·exact u4
     ·exact u7
     ·exact u8)
   refine⟨h',fun x=>zu c' x,r1,he.step r2 r5 fun x x1 x2=>r6 x (by omega) x2 fun hx=>by have:=(nb x hx).1;omega,r3,r4 _ hw (by omega) (by omega) (fun x hx=>by have:=(nb x hx).1;omega) (by omega),r5,fun x x1 x2 x3=>r6 x x2 (by omega) fun hx=>x3 (j3 x hx),fun x hx=>⟨(s5 x hx).imp (j3 x) id,?_⟩,c',F++F',s3,s4,fun x hx=>hx,fun p=>?_,?_⟩
   ·rcases s4 with ⟨e,_⟩|⟨b,e,_,hb⟩
    ·rw[e] at hx;obtain⟨_,_,e'⟩:=hx;cases e'
    ·rw[e] at hx;obtain⟨_,_,e'⟩:=hx;simp only[Value.slice.injEq,xAN,Addr.mk.injEq] at e';omega
   ·rw[List.mem_append,j4,s1];constructor
    ·rintro (⟨u,a1,a2⟩|⟨a1,a2⟩)
     ·exact⟨u,List.mem_append_left _ a1,a2⟩
     ·exact⟨un,by simp,a1,_,gI,a2⟩
    ·rintro⟨u,a1,a2,S,a3,a4⟩;rcases List.mem_append.1 a1 with a1|a1
     ·exact .inl ⟨u,a1,a2,S,a3,a4⟩
     ·rw[List.mem_singleton.1 a1] at a2 a3;rw[show ((un:Int)).toNat=un from rfl,gI] at a3;cases a3;exact .inr ⟨a2,a4⟩
   ·rw[List.length_append,List.length_append];simp only[List.length_cons,List.length_nil];omega
  have iM:zWf (k.qa+3) (zqu (k.qa+3) SS cl own):=by
   rintro vis O h g ⟨c,F,j1,j2,j3,j4,j5⟩ hn fj;refine⟨c,F,(fj _ (.inr rfl)).trans j1,?_,j3,j4,j5⟩;rcases j2 with e|⟨b,x1,x2,x3⟩
   ·exact .inl e
   ·exact .inr ⟨b,x1,(fj b (.inl (j3 b ⟨_,_,x1⟩))).trans x2,by omega⟩
  have hJ0:zqu (k.qa+3) SS cl own [] (fun _=>False) kC:=⟨_,[],(cg _ (by omega)).trans b8,.inl ⟨rfl,rfl⟩,fun x hx=>(by obtain⟨_,_,e'⟩:=hx;cases e'),fun p=>⟨fun h=>absurd h (by simp),fun ⟨u,h,_⟩=>absurd h (by simp)⟩,xAF _⟩;have jJ:=ze8 (k:=kC) (l:=kB.qa+1) (bs0:=g5.qa+1) (bgp:=g5.qa) (bg:=bg) (w0:=k.qa) (b:=k.qa+3) (SS:=SS) (J:=zqu (k.qa+3) SS cl own) (t:=(s:Int)) okC ((co _ (by omega)).trans c5) (by omega) (by omega) ((co _ (by omega)).trans c4) (by omega) (by omega) (by omega) hGB bD (by omega) (by omega) hw0 (by omega) (by omega) iM hJ0 hY;refine jJ.mono fun y hy=>?_;obtain⟨vv,h⟩:=y;obtain⟨_,O,⟨c,F,j1,j2,j3,j4,j5⟩,he,fa,hO⟩:=hy;simp only at j1 j2 he fa hO ⊢;have cD:h.get (kB.qa+1)=some (zB0 .ready none T' kB.qa):=(he.get _ (by omega) (by omega)).trans cl';have jw:zBa (kB.qa+1) T' [kB.qa] h=one ⟨.normal,⟨T',h.upd (kB.qa+1) (some (zB0 .exhausted none T' kB.qa)),[kB.qa]⟩⟩:=by
   unfold zBa;rw[cD];rfl
  rw[jw,zL];show Ev true (one _) _;rw[zL];have dN:=he.qa;have nb:∀ x,zu c x->kC.qa<=x/\x<h.qa:=fun x hx=>hO x (j3 x hx);have q8:(h.upd (kB.qa+1) (some (zB0 .exhausted none T' kB.qa))).get (k.qa+3)=some (rO [c] 132):=(zP (by omega)).trans j1;have q7:(h.upd (kB.qa+1) (some (zB0 .exhausted none T' kB.qa))).get (k.qa+2)=some (rO [iI own] 3):=(zP (by omega)).trans ((he.get _ (by omega) (by omega)).trans ((cg _ (by omega)).trans b7));have qd:(h.upd (kB.qa+1) (some (zB0 .exhausted none T' kB.qa))).get kB.qa=some .defd:=(zP (by omega)).trans ((he.get _ (by omega) (by omega)).trans cd);have qo:Own k (h.upd (kB.qa+1) (some (zB0 .exhausted none T' kB.qa))):=Own.upd ⟨eX h he,fa⟩ (by omega) _;have qc:CellOK (h.upd (kB.qa+1) (some (zB0 .exhausted none T' kB.qa))) c F:=Cell.upd j2 fun hx=>by have:=(nb _ hx).1;omega
  have qn:(h.upd (kB.qa+1) (some (zB0 .exhausted none T' kB.qa))).qa=h.qa:=rfl;generalize (h.upd (kB.qa+1) (some (zB0 .exhausted none T' kB.qa)))=h1 at q8 q7 qd qo qc qn;obtain⟨hvl2,_⟩:(zFU SS SS.length 0 [(s:Int)]).length<=900/\True:=by
   refine⟨?_,trivial⟩;have aV:=zAp SS.length (zFU SS SS.length 0 [(s:Int)]);have:=zWR bD SS.length 0 [(s:Int)] (by simp) (fun u hu=>by rw[List.mem_singleton.1 hu];omega);have:=aV this.1 this.2;omega
  have hF:F.length<=810000:=Nat.le_trans j5 (by have:=Nat.mul_le_mul_right 900 hvl2;omega);have htl:=zjj (h:=h1) (d:=kB.qa) (b7:=k.qa+2) (b8:=k.qa+3) (c:=c) (own:=own) (F:=F) (T:=T') qo.ext.ok q7 q8 (by omega) (by omega) qc (fun x hx=>by have:=(nb x hx).1;omega) (by omega) (by
   intro y hy;simp only[xAQ,List.not_mem_nil,or_false] at hy;rcases hy with rfl|rfl
   ·exact u7
   ·exact u8)
  show Ev true (evC E (zV E) none zI9 ⟨T',h1,[kB.qa]⟩) _;refine htl.mono fun o ho=>?_;obtain⟨ex,T2',g2,ds⟩:=o;obtain⟨o1',o2',x,F',o3',s1,s2,s3,s4,s5⟩:=ho;have o1'':ds=[kB.qa]:=o1';have o2'':ex=.ret:=o2';have o3'':[T2'.get 6]=[x]:=o3';subst o1'' o2'';simp only at s4 s5;show Ev true (zAW E Tryz.f131 ⟨.ret,⟨T2',g2,[kB.qa]⟩⟩) _;have gd:g2.get kB.qa=some .defd:=(s5.get _ (by omega) fun hx=>hx.elim (fun e=>by omega) fun e=>by have:=(nb _ e).1;omega).trans qd;rw[zoD (List.cons.inj o3'').1 gd,zL];have n2':=s5.qa;have fxg:Fx NoB k.qb (g2.upd kB.qa none):=((zir qo).trans s5 fun y hy=>.inr (by
   show k.qa<=y;rcases hy with e|e
   ·omega
   ·have:=(nb _ e).1;omega)).upd (.inr (by show k.qa<=kB.qa;omega)) none
  refine⟨F',s1,fun p=>(s2 p).trans (and_congr_left fun _=>j4 p),by omega,?_,fxg⟩;rcases s4 with e|⟨b,rest,y1,y2,y3,y4⟩
  ·exact .inl e
  ·refine .inr ⟨b,rest,y1,by omega,y3,(zP fun e=>?_).trans y4⟩;rw[e,gd] at y4;cases y4
 have hbe:zc Tryz.f131=zeD:=rfl;refine (zVy (Q:=fun v m=>∃ F,zCq F/\(∀ p,p∈F ↔ (∃ u∈zFU SS SS.length 0 [(s:Int)],zBU cl u=own/\∃ S,SS[u.toNat]?=some S/\p∈zIN S cl)/\p≠(0,own))/\F.length<=900000/\Sl k.qa m v F/\Fx NoB k.qb m) aa zh7 zdy (zh6 _ _) (by kernel_rfl) main).mono ?_;rintro⟨x,m⟩ ⟨k',⟨F,s1,s2,s3,s4,s5⟩,⟨_,cw,h2⟩|h2⟩
 ·simp only at h2 cw s4 ⊢;subst h2;refine⟨F,s1,s2,s3,?_,Fx.refl aa⟩;rcases s4 with e|⟨b,rest,y1,_⟩
  ·exact .inl e
  ·rw[y1] at cw;cases cw
 ·simp only at h2 s4 s5 ⊢;subst h2;refine⟨F,s1,s2,s3,?_,s5.back⟩;rcases s4 with e|⟨b,rest,y1,y2,y3,y4⟩
  ·exact .inl e
  ·exact .inr ⟨b,rest,y1,y2,y3,zFD y4⟩
def CanL(SS:List zf)(cl:List Int)(kind:Int)(s:Nat)(F:zf):Prop:=zCq F/\∀ p,p∈F ↔ zNe (wst SS) (zBU cl) kind (s:Int) p.1 p.2
def zJE:∀ {F G:zf},zCq F->zCq G->(∀ p,p∈F ↔ p∈G)->F=G
 | [],[],_,_,_=>rfl
 | [],b::G,_,_,h=>absurd ((h b).2 (by simp)) (by simp)
 | a::F,[],_,_,h=>absurd ((h a).1 (by simp)) (by simp)
 | a::F,b::G,hF,hG,h=>by
  obtain⟨f1,f2⟩:=List.pairwise_cons.1 hF;obtain⟨g1,g2⟩:=List.pairwise_cons.1 hG;have e:a=b:=by
   rcases List.mem_cons.1 ((h a).1 (by simp)) with e|h1
   ·exact e
   ·rcases List.mem_cons.1 ((h b).2 (by simp)) with e|h2
    ·exact e.symm
    ·have x:=(zCU _ _).1 (g1 a h1);have y:=(zCU _ _).1 (f1 b h2);omega
  subst e;have irr:∀ {l:zf},(∀ x∈l,zME a x<0)->a ∉ l:=fun h hm=>by have:=(zCU _ _).1 (h a hm);omega
  have:=zJE f2 g2 fun p=>by
   have:=h p;simp only[xAQ] at this;constructor
   ·intro hp;rcases this.1 (.inr hp) with e|e
    ·exact absurd (e ▸ hp) (irr f1)
    ·exact e
   ·intro hp;rcases this.2 (.inr hp) with e|e
    ·exact absurd (e ▸ hp) (irr g1)
    ·exact e
  rw[this]
def CanL.uniq{SS:List zf}{cl:List Int}{kind:Int}{s s':Nat}{F G:zf}(a:CanL SS cl kind s F)(b:CanL SS cl kind s' G):F=G ↔ ∀ n k,zNe (wst SS) (zBU cl) kind s n k ↔ zNe (wst SS) (zBU cl) kind s' n k:=by
 constructor
 ·rintro rfl n k;exact ((a.2 (n,k)).symm.trans (b.2 (n,k)))
 ·intro h;exact zJE a.1 b.1 fun p=>(a.2 p).trans ((h p.1 p.2).trans (b.2 p).symm)
def mem_canL{S:zf}{cl:List Int}{p:Int×Int}:p∈zIN S cl ↔ ∃ v,(p.1,v)∈S/\zBU cl v=p.2:=by
 obtain⟨n,k⟩:=p;unfold zIN;rw[List.mem_map];constructor
 ·rintro⟨⟨a,b⟩,h,e⟩;simp only[Prod.mk.injEq] at e;exact⟨b,e.1 ▸ h,e.2⟩
 ·rintro⟨v,h,e⟩;exact⟨(n,v),h,by simp[show zBU cl v=k from e]⟩
abbrev zqs(kind:Int):Value:=.func (.func (if kind=1 then 129 else 131)) #[] #[]
structure zr7(SS:List zf)(cl:List Int):Prop where
 ss:zO0 SS
 cl:cl.length=SS.length
 n:SS.length<=900
 s9:∀(i:Nat) (S:zf),SS[i]?=some S->S.length<=900
def zk5{k:AH}{bg s:Nat}{SS:List zf}{v:Value}{cl:List Int}{kind:Int}(aa:k.ok)(hg:GW k bg SS)(hW:zr7 SS cl)(hc:Arr k 1 v (cl.map i1))(hs:s<SS.length) :
  Ev true (zT (zV E) (some (zqs kind)) (some [ptr bg,v,iI (s:Int)]) k) fun x=>∃ F,CanL SS cl kind s F/\F.length<=900000/\Sl k.qa x.2 x.1 F/\Fx NoB k x.2:=by
 have hS:SS[s]?=some SS[s]:=xAA hs;have vld:zqt SS:=fun i S h=>(hW.ss.stp i S h).2;rw[zS];by_cases h1:kind=1
 ·rw[if_pos h1];refine (zWD aa hg hS hc (fun y hy=>by rw[hW.cl];exact vld s _ hS y hy) (by have:=hW.s9 s _ hS;omega)).mono ?_;rintro⟨x,m⟩ ⟨F,s1,s2,s3,s4,s5⟩;refine⟨F,⟨s1,fun p=>(s2 p).trans (mem_canL.trans ?_)⟩,by have:=hW.s9 s _ hS;omega,s4,s5⟩;unfold zNe;rw[if_pos h1];constructor
  ·rintro⟨v,a,b⟩;exact⟨v,⟨by omega,_,hS,a⟩,b⟩
  ·rintro⟨v,⟨_,S,a,b⟩,c⟩;rw[show ((s:Int)).toNat=s from rfl,hS] at a;cases a;exact⟨v,b,c⟩
 ·rw[if_neg h1];refine (zlh aa hg hW.ss hc hs hW.cl hW.n hW.s9).mono ?_;rintro⟨x,m⟩ ⟨F,s1,s2,s3,s4,s5⟩;refine⟨F,⟨s1,fun p=>(s2 p).trans ?_⟩,s3,s4,s5⟩;unfold zNe;rw[if_neg h1];obtain⟨n,k⟩:=p;constructor
  ·rintro⟨⟨u,a1,a2,S,a3,a4⟩,a5⟩;obtain⟨v,a6,a7⟩:=mem_canL.1 a4;have hu:=(zPX vld (by omega)).1 a1;refine⟨u,v,hu,a2,⟨?_,S,a3,a6⟩,a7,fun e=>a5 (Prod.ext e.1 e.2)⟩;have:∀ u,SilT (wst SS) s u->0<=u:=fun u hu=>by
    cases hu with
    | refl=>omega
    | step h e=>obtain⟨_,S',h3,h4⟩:=e;exact (vld _ S' h3 _ h4).1
   exact this u hu
  ·rintro⟨w,v,a1,a2,⟨_,S,a3,a4⟩,a5,a6⟩;exact⟨⟨w,(zPX vld (by omega)).2 a1,a2,S,a3,mem_canL.2 ⟨v,a4,a5⟩⟩,fun e=>a6 (by simpa using e)⟩
def zkG:zLo E 135=some (3,132):=by kernel_rfl
def zkL{h:AH}{m ver:Nat}{M:List (Int×Value)}(hm:h.get m=some (.map (zMB M) ver))(hM:(zBI M).Nodup)(q:Int) :
  zBM E 135 true (some (.map (some m))) (some (iI q)) h=some (.tuple #[(lkV q M).getD (.slice none 0 0),.bool (lkV q M).isSome]):=by
 simp only[zBM,zFL,zkG,zDo,hm,zG4,xAG,zOQ hM];cases lkV q M with
 | none=>simp[zEY,zjX,okV]
 | some v=>simp[zEY,okV]
def zil{q:Int}:∀ {M:List (Int×Value)},q∈zBI M->lkV q M≠none
 | [],h=>by cases h
 | p::M,h=>by
  simp only[lkV];split
  ·simp
  ·rename_i e;have h:q=p.1\/q∈zBI M:=by simpa[zBI] using h
   exact zil (h.resolve_left e)
def zm4{h:AH}{m ver:Nat}{M:List (Int×Value)}(hm:h.get m=some (.map (zMB M) ver))(hM:(zBI M).Nodup)(q:Int)(v:Value) :
  ∃ M',zAI E 135 (some (.map (some m))) (some (iI q)) (some v) h=one (undef,h.upd m (some (.map (zMB M') (ver+1))))/\(zBI M').Nodup/\∀ x,lkV x M'=if x=q then some v else lkV x M:=by
 have cw:zg (iI q)=true:=rfl;cases hl:lkV q M with
 | none=>
  have hq:q ∉ zBI M:=fun hq=>zil hq hl;refine⟨zPj q v M,?_,zGb hM hq,fun x=>zOL x M hq⟩;simp only[zAI,zA4,zkG,hm,zG4,cw,Bool.and_self,xAG,zBV,zOQ hM,hl,zKk,u1]
 | some w=>
  refine⟨zeU q v M,?_,by rw[zLY];exact hM,fun x=>?_⟩
  ·simp only[zAI,zA4,zkG,hm,zG4,cw,Bool.and_self,xAG,zBV,zOQ hM,hl,zKV,u1]
  ·rw[zNp];by_cases e:x=q
   ·simp[e,hl]
   ·simp[e]
def zMM{t e z:Nat}(H:Elt t e z){h:AH}{b c n:Nat}{vs us:List Value}{ty es:Nat}{ro:Bool}{ty' es':Nat}{ro':Bool}(hb:h.get b=some (.row vs ty' es' ro'))(bV:vs.length=n*z)(hn:n+1<=1000000)
  (hc:h.get c=some (.row us ty es ro)) (hl:us.length=z) :
  zAJ E .append [t,t] (some [.slice (some ⟨b,0,none⟩) n n,.slice (some ⟨c,0,none⟩) 1 1]) h=one (.slice (some ⟨h.qa,0,none⟩) (n+1) (UNK+z),h.new (.row (vs++us) e z false)):=by
 obtain⟨ti,e1,e2,e3⟩:=H.ti;show v2 (zA8 E [t,t] (.slice (some ⟨b,0,none⟩) n n) (.slice (some ⟨c,0,none⟩) 1 1) h)=_;simp only[zA8,H.el,H.un,zFB,xAH,e1,zCG,zA9,hc,e2,Nat.one_mul,zAo,zAt,zAR,List.drop_zero];rw[xAD (by omega),hl,Nat.beq_refl];have h1:Nat.ble UNK n=false:=ble_false.2 (by have:UNK=18446744073709551616:=rfl;omega);have h2:Nat.ble (n+1) n=false:=ble_false.2 (by omega);simp only[if_true,e3,xAG,zBb,show Nat.beq 1 0=false from rfl,xAH,hb,zCf,h1,h2,zAo,zAt,zAR,List.drop_zero];rw[xAD (by omega),bV,Nat.beq_refl];simp only[xAG,zAx,ble_true.2 hn,v2]
def zr3{a:Option Addr}{n c:Nat}{h:AH}:zh E 129 1 (some [(0,.slice a n c)]) h=one (.slice (some ⟨h.qa,0,none⟩) 1 1,h.new (rO [.slice a n c] 132)):=by kernel_rfl
def zix:Elt 129 132 1:=zJq (by kernel_rfl) zT5 zCn (by kernel_rfl)
structure W30(kL:AH)(bw:Nat)(C:List Value)(SSc:List zf)(h:AH):Prop where
 fx:Fx (fun c=>c=bw) kL h
 row:∃ b cp es,h.get bw=some (rO [.slice (some ⟨b,0,none⟩) C.length cp] 131)/\h.get b=some (.row C 132 es false)/\b<h.qa/\((cp=C.length/\b<kL.qa)\/(cp=UNK+1/\es=1/\kL.qa<=b))
 bl:bw<kL.qa
 len:C.length=SSc.length
 cells:∀(i:Nat) (c:Value) (S:zf),C[i]?=some c->SSc[i]?=some S->CellOK h c S
section
variable {kL h h':AH} {bw:Nat} {C:List Value} {SSc:List zf}
def W30.step(w:W30 kL bw C SSc h)(f:Fx NoB h h'):W30 kL bw C SSc h':=by
 obtain⟨b,cp,es,r1,r2,r3,r4⟩:=w.row;have hn:=w.fx.qa;have hl:=w.bl;exact⟨w.fx.trans f fun c hc=>hc.elim,⟨b,cp,es,(f.get _ (by omega) (fun h=>h)).trans r1,(f.get _ r3 (fun h=>h)).trans r2,xAC r3 f.qa,r4⟩,hl,w.len,fun i c S h1 h2=>(w.cells i c S h1 h2).fx f fun _ _ h=>h⟩
def W30.gw(w:W30 kL bw C SSc h):GW h bw SSc:=by
 obtain⟨b,cp,es,r1,r2,r3,r4⟩:=w.row;exact⟨b,C,cp,es,r1,xAC w.bl w.fx.qa,r2,r3,w.len,w.cells⟩
def W30.add(w:W30 kL bw C SSc h){c:Value}{S:zf}(hc:CellOK h c S)(hn:C.length+1<=1000000) :
  ∃ sl0 sl1 h1 h2 h3,zH E 129 h (sP bw (0+0))=some sl0/\zh E 129 1 (some [(0,c)]) h=one (.slice (some ⟨h.qa,0,none⟩) 1 1,h1)/\zAJ E .append [129,129] (some [sl0,.slice (some ⟨h.qa,0,none⟩) 1 1]) h1=one (sl1,h2) ∧
   zb E 129 h2 (sP bw (0+0)) (some sl1)=one (undef,h3)/\W30 kL bw (C++[c]) (SSc++[S]) h3:=by
 obtain⟨b,cp,es,r1,r2,r3,r4⟩:=w.row;have cA:=w.fx.qa;have hl:=w.bl;have iw:b≠bw:=by rintro rfl;rw[r1] at r2;simp at r2
 obtain⟨ca,cl,cc,bI⟩:∃ ca cl cc,c=.slice ca cl cc:=by rcases hc with ⟨e,_⟩|⟨q,e,_⟩ <;> exact⟨_,_,_,e⟩
 have cne:∀ {x:Value} {T:zf} {q:Nat},CellOK h x T->zu x q->q≠b/\q≠bw:=by
  rintro x T q hx ⟨m,cp',e⟩;rcases hx with ⟨e2,_⟩|⟨q',e2,g,_⟩
  ·rw[e2] at e;cases e
  ·rw[e2] at e;simp only[Value.slice.injEq,xAN,Addr.mk.injEq] at e;obtain⟨rfl,_⟩:=e.1;exact⟨by rintro rfl;rw[r2] at g;simp at g,by rintro rfl;rw[r1] at g;simp at g⟩
 have l0:zH E 129 h (sP bw (0+0))=some (.slice (some ⟨b,0,none⟩) C.length cp):=zF (P:=E) zEN (o:=0+0) r1;have g1:=zI h (rO [c] 132);have gb1:(h.new (rO [c] 132)).get b=some (.row C 132 es false):=(zK (by omega)).trans r2;have aI:zh E 129 1 (some [(0,c)]) h=one (.slice (some ⟨h.qa,0,none⟩) 1 1,h.new (rO [c] 132)):=by rw[bI];exact zr3
 have fin:∀(h2:AH) (fx2:Fx (fun q=>kL.qa<=q/\q=b) h h2) (fG:h2.get (h.qa+1)=some (.row (C++[c]) 132 1 false)) (dy:h2.qa=h.qa+2),
   ∃ h3,zb E 129 h2 (sP bw (0+0)) (some (.slice (some ⟨h.qa+1,0,none⟩) (C.length+1) (UNK+1)))=one (undef,h3)/\W30 kL bw (C++[c]) (SSc++[S]) h3:=by
  intro h2 fx2 fG dy;have gw2:h2.get bw=_:=(fx2.get bw (by omega) (fun e=>iw e.2.symm)).trans r1;refine⟨_,zAC (P:=E) znF (o:=0+0) (x:=.slice (some ⟨h.qa+1,0,none⟩) (C.length+1) (UNK+1)) (cs:=[.slice (some ⟨h.qa+1,0,none⟩) (C.length+1) (UNK+1)]) gw2 rfl rfl (by simp) (by simp[zq]),?_⟩;have fx3:Fx (fun q=>q=bw\/(kL.qa<=q/\q=b)) h (h2.upd bw (some (.row (lput [.slice (some ⟨b,0,none⟩) C.length cp] (0+0) [.slice (some ⟨h.qa+1,0,none⟩) (C.length+1) (UNK+1)]) 131 0 false))):=(fx2.mono (P':=fun q=>q=bw\/(kL.qa<=q/\q=b)) fun q hq=>.inl (.inr hq)).upd (.inl (.inl rfl)) _;have gB:=zN h2 bw (some (.row (lput [.slice (some ⟨b,0,none⟩) C.length cp] (0+0) [.slice (some ⟨h.qa+1,0,none⟩) (C.length+1) (UNK+1)]) 131 0 false));have gN:(h2.upd bw (some (.row (lput [.slice (some ⟨b,0,none⟩) C.length cp] (0+0) [.slice (some ⟨h.qa+1,0,none⟩) (C.length+1) (UNK+1)]) 131 0 false))).get (h.qa+1)=some (.row (C++[c]) 132 1 false):=(zP (by omega)).trans fG;have nN:(h2.upd bw (some (.row (lput [.slice (some ⟨b,0,none⟩) C.length cp] (0+0) [.slice (some ⟨h.qa+1,0,none⟩) (C.length+1) (UNK+1)]) 131 0 false))).qa=h.qa+2:=dy;generalize h2.upd bw (some (.row (lput [.slice (some ⟨b,0,none⟩) C.length cp] (0+0) [.slice (some ⟨h.qa+1,0,none⟩) (C.length+1) (UNK+1)]) 131 0 false))=h3 at fx3 gB gN nN;have keep:∀ {x:Value} {T:zf},CellOK h x T->CellOK h3 x T:=fun hx=>hx.fx fx3 fun q hq hP=>hP.elim (cne hx hq).2 fun e=>(cne hx hq).1 e.2;refine⟨w.fx.trans fx3 fun q hq=>hq.elim .inl fun e=>.inr e.1,⟨h.qa+1,UNK+1,1,?_,gN,by omega,.inr ⟨rfl,rfl,by omega⟩⟩,hl,by simp[w.len],fun i x T h1 h2=>?_⟩
  ·rw[List.length_append];exact gB
  ·by_cases hi:i<C.length
   ·rw[List.getElem?_append_left hi] at h1;rw[List.getElem?_append_left (by rw[← w.len];exact hi)] at h2;exact keep (w.cells i x T h1 h2)
   ·have hie:i=C.length:=by
     have:=(List.getElem?_eq_some_iff.1 h1).1;simp at this;omega
    subst hie;rw[List.getElem?_append_right (xAF _),Nat.sub_self] at h1;rw[List.getElem?_append_right (by rw[w.len];exact xAF _),w.len,Nat.sub_self] at h2;simp at h1 h2;subst h1 h2;exact keep hc
 rcases r4 with ⟨rfl,hb⟩|⟨rfl,rfl,hb⟩
 ·have f0:Fx (fun q=>kL.qa<=q/\q=b) h (h.new (rO [c] 132)):=(Fx.refl (by exact w.fx.ok)).new _;obtain⟨h3,s1,s2⟩:=fin ((h.new (rO [c] 132)).new (.row (C++[c]) 132 1 false)) (f0.new _) (zI (h.new _) _) rfl;exact⟨_,_,_,_,h3,l0,aI,zMM zix gb1 (by omega) hn g1 rfl,s1,s2⟩
 ·have f0:Fx (fun q=>kL.qa<=q/\q=b) h (h.new (rO [c] 132)):=(Fx.refl (by exact w.fx.ok)).new _;obtain⟨h3,s1,s2⟩:=fin (((h.new (rO [c] 132)).upd b none).new (.row (C++[c]) 132 1 false)) ((f0.upd (.inl ⟨hb,rfl⟩) none).new _) (zI ((h.new _).upd b none) _) rfl;exact⟨_,_,_,_,h3,l0,aI,zC4 zix (by omega) gb1 (by omega) hn g1 rfl (by rw[bI];rfl),s1,s2⟩
end
end Go.Proofs
namespace Go.Proofs
open Go Go.AM
abbrev zVE(Q:Prop)(k:AH):KF:=KR E [.tmp 2] (fun x l=>(zg x=true/\∃ b,x=.bool b/\(b=true->Q))/\k.qa<=l.wm)
def zIE{Q:Prop}{k h:AH}(ho:Own k h)(b:Bool)(hb:b=true->Q):zVE Q k .ret [.bool b] h:=by
 simp only[zVE,zAS,zU,true_and];exact⟨⟨rfl,b,rfl,hb⟩,ho.wm⟩
def zQc(L:GL):Prop:=L.n<=60/\L.eds.length<=300/\L.labs.length<=60
def zlb{k:AH}{v:Value}{els:List (List Value)}{Ls:List GL}(aa:k.ok)(ha:Arr k 3 v els)(hlen:els.length=Ls.length)(bc:els.length<=10)(hr:∀(i:Nat) (e:List Value) (L:GL),els[i]?=some e->Ls[i]?=some L->RL k (.agg ⟨e⟩) L) :
  ∃ b,(b=true->∀(i:Nat) (L:GL),Ls[i]?=some L->zQc L)/\(zV E).call 14 [v] k=some [(.bool b,k)]:=by
 have key:∃ w,(∃ b,w=.bool b/\(b=true->∀(i:Nat) (L:GL),Ls[i]?=some L->zQc L))/\(zV E).call 14 [v] k=some [(w,k)]:=by
  obtain⟨ad,cp,hv⟩:=ha.slice;refine zds aa (zhM ?_);refine zhL ?_;have af:=zAC (P:=E) zT7 (o:=0) (zI k.qb (rO [iI 0] 3)) (zDK .i64 2000) rfl (by simp) rfl;simp only[za] at af;simp only[z_3,zd,zL,zj,za,af];refine zhK ?_;have o1:=((Own.qb k).new (rO [iI 0] 3)).upd (b:=k.qa) (xAF _) (some (rO (lput [iI 0] 0 [iI 2000]) 3));have t1:((k.qb.new (rO [iI 0] 3)).upd k.qa (some (rO (lput [iI 0] 0 [iI 2000]) 3))).get k.qa=some (rO [iI 2000] 3):=zN _ _ _;have n1:((k.qb.new (rO [iI 0] 3)).upd k.qa (some (rO (lput [iI 0] 0 [iI 2000]) 3))).qa=k.qa+1:=rfl;generalize ((k.qb.new (rO [iI 0] 3)).upd k.qa (some (rO (lput [iI 0] 0 [iI 2000]) 3)))=k1 at o1 t1 n1;rw[hv];simp only[zA,zVC];have loop:∀(r i:Nat),i+r=els.length->∀(l:Int) (h:AH),Own k h->h.get k.qa=some (rO [iI l] 3)->k.qa<h.qa->0<=l->l<=2000->(∀(j:Nat) (L:GL),j<i->Ls[j]?=some L->zQc L)->
    zsR true (zVE (∀(i:Nat) (L:GL),Ls[i]?=some L->zQc L) k) (ptr k.qa) (.slice ad els.length cp) (iI (els.length:Int)) (iI (i:Int)) h:=by
   intro r
   induction r with
   | zero=>
    intro i hi l h ho hg ab h1 h2 hq;refine zQa ?_;have:¬ ((i:Int)<(els.length:Int)):=by omega
    simp only[zY,zA,this,decide_false,zi];refine zb1 ?_;exact zIE ho true fun _ j L hj=>hq j L (by have:=(List.getElem?_eq_some_iff.1 hj).1;omega) hj
   | succ r ih=>
    intro i hi l h ho hg ab h1 h2 hq;have ai:i<els.length:=by omega
    refine zQa ?_;have:((i:Int)<(els.length:Int)):=by omega
    simp only[zY,zA,this,decide_true,zy];refine zhJ ?_;have iz:=hr i _ _ (xAA ai) (xAA (by omega));have hLi:Ls[i]?=some Ls[i]:=xAA (by omega);generalize Ls[i]=L at iz hLi;obtain⟨vl,ve,elsL,q1,q2,q3,q4⟩:=iz.ex;have he:els[i]=[iI L.n,vl,ve]:=by
     simp only[Value.agg.injEq] at q1;have:=congrArg Array.toList q1;simpa using this
    obtain⟨b,o,c,vs,ty,es,ro,ay,hb,fJ,bt,hz,aZ⟩:=ha.load (xAA ai);rw[he] at hz;rw[hv] at ay;simp only[Value.slice.injEq] at ay;obtain⟨a9,_,_⟩:=ay;subst a9;have gb:=(ho.ext.get b fJ).trans hb;obtain⟨al,cl,aT⟩:=q2.slice;rw[RLab.length q3] at aT;obtain⟨ae,ce,cH⟩:=q4.slice;rw[List.length_map] at cH;have bK:=zlr (k:=h) (e:=[iI L.n,vl,ve]) (by rw[aT,cH];rfl) rfl;simp only[zes ai,zA,zZ zDh gb bt,hz,zql,zd,zL,zX,bK];refine zhI ?_;have f1:Fx NoB h ((h.new (rO [iI 0,.slice none 0 0,.slice none 0 0] 25)).upd h.qa (some (rO [iI L.n,vl,ve] 25))):=((Fx.refl ho.ext.ok).new _).upd (.inr (xAF _)) _;have t1:((h.new (rO [iI 0,.slice none 0 0,.slice none 0 0] 25)).upd h.qa (some (rO [iI L.n,vl,ve] 25))).get h.qa=some (rO [iI L.n,vl,ve] 25):=zN _ _ _;generalize ((h.new (rO [iI 0,.slice none 0 0,.slice none 0 0] 25)).upd h.qa (some (rO [iI L.n,vl,ve] 25)))=k2 at f1 t1;have o2:=f1.own ho (fun _ h=>h.elim);have g2:=(f1.get k.qa ab (fun h=>h)).trans hg;have lt2:=xAC ab f1.qa;have s0:=zF (P:=E) zAa (o:=0) t1;have s1:=zF (P:=E) zHc (o:=1) t1;have s2:=zF (P:=E) zKT (o:=2) t1;simp only[lnth] at s0 s1 s2;have stop:zsQ true (zVE (∀(i:Nat) (L:GL),Ls[i]?=some L->zQc L) k) k2:=by
     refine zhH ?_;exact zIE o2 false (fun h=>Bool.noConfusion h)
    rw[aT] at s1;rw[cH] at s2;simp only[zA3,Nat.add_zero,s0,zA,zAO];by_cases e1:60<L.n
    ·simp only[e1,decide_true,zM,show (true==false)=false from rfl,xAH,xAG,zA,zJ,zy];exact stop
    ·simp only[e1,decide_false,zM,xAO,xAG,zCT,xAK,s2,zA,zVB,zAO,zJ,xAH];by_cases e2:300<(L.eds.length:Int)
     ·simp only[e2,decide_true,zM,show (true==false)=false from rfl,xAH,xAG,zA,zJ,zy];exact stop
     ·simp only[e2,decide_false,zM,xAO,xAG,zBf,xAK,s1,zA,zRP,zAO,zJ,xAH];by_cases e3:60<(L.labs.length:Int)
      ·simp only[e3,decide_true,zy];exact stop
      ·simp only[e3,decide_false,zi];refine zhG ?_;simp only[zBf,xAK,s1,zA,zVA];have inner:∀(r2 j:Nat),j+r2=L.labs.length->∀(l:Int) (h:AH),Own k h->h.get k.qa=some (rO [iI l] 3)->k.qa<h.qa->0<=l->l<=2000->
         zsP true (zVE (∀(i:Nat) (L:GL),Ls[i]?=some L->zQc L) k) (ptr k.qa) (.slice (some ⟨b,o,none⟩) els.length cp) (iI (els.length:Int)) (iI (i:Int)) (.slice al L.labs.length cl) (iI (L.labs.length:Int)) (iI (j:Int)) h:=by
        intro r2
        induction r2 with
        | zero=>
         intro j hj l h ho hg ab h1 h2;refine zQZ ?_;have:¬ ((j:Int)<(L.labs.length:Int)):=by omega
         simp only[zY,zA,this,decide_false,zi];refine zb2 ?_;simp only[zAK _ (zDu ai (by omega)),zA];have:=ih (i+1) (by omega) l h ho hg ab h1 h2 (fun j L' hj hL'=>by
          rcases Nat.lt_succ_iff_lt_or_eq.1 hj with ab|di
          ·exact hq j L' ab hL'
          ·subst di;rw[hLi] at hL';cases hL';exact⟨by omega,by omega,by omega⟩)
         simpa using this
        | succ r2 ih2=>
         intro j hj l h ho hg ab h1 h2;have bM:j<L.labs.length:=by omega
         have dg:j<elsL.length:=by rw[RLab.length q3];exact bM
         refine zQZ ?_;have:((j:Int)<(L.labs.length:Int)):=by omega
         simp only[zY,zA,this,decide_true,zy];refine zhF ?_;obtain⟨g,vt,lt,bv,ba,aX⟩:=RLab.at q3 j _ (xAA dg);obtain⟨b',o',c',vs',ty',es',ro',ay,ao,aD,bt,bB,bE⟩:=q2.load (xAA dg);rw[bv] at bB;rw[aT] at ay;simp only[Value.slice.injEq] at ay;obtain⟨a9,_,_⟩:=ay;subst a9;have gb':=(ho.ext.get b' aD).trans ao;simp only[zON bM,zA,zZ zE0 gb' bt,bB,zqj,zd,zL,zX,zlp (zDz ba)];refine zb5 ?_;have f3:Fx NoB h ((h.new (rO [iI 0,.slice none 0 0] 36)).upd h.qa (some (rO [iI g,vt] 36))):=((Fx.refl ho.ext.ok).new _).upd (.inr (xAF _)) _;have t3:((h.new (rO [iI 0,.slice none 0 0] 36)).upd h.qa (some (rO [iI g,vt] 36))).get h.qa=some (rO [iI g,vt] 36):=zN _ _ _;generalize ((h.new (rO [iI 0,.slice none 0 0] 36)).upd h.qa (some (rO [iI g,vt] 36)))=k3 at f3 t3;have o3:=f3.own ho (fun _ h=>h.elim);have g3:=(f3.get k.qa ab (fun h=>h)).trans hg;have lt3:=xAC ab f3.qa;have u1:=zF (P:=E) zDv (o:=1) t3;simp only[lnth] at u1;simp only[zCS,xAK,u1,zA,zS];refine (zoS 100 ba o3.ext (xAF _) g3 lt3 h1 h2 (by omega) (by omega) (by omega)).mono fun y hy=>?_;obtain⟨bb,l3,y1,y2,y3,y4,y6,y5⟩:=hy;have o4:=y5.own o3 (fun c h=>by rw[h];exact xAF _);rw[y1];simp only[zAB,zA,zCF];refine⟨fun hb=>zb4 ?_,fun hb=>zb3 ?_⟩
         ·skip
          exact zIE o4 false (fun h=>Bool.noConfusion h)
         ·have bC:bb=true:=by simpa using hb
          simp only[zAK _ (zDu bM (by omega)),zA];have:=ih2 (j+1) (by omega) l3 y.2 o4 y4 (xAC lt3 y5.qa) (y2 bC) y3;simpa using this
       exact inner L.labs.length 0 (by omega) l k2 o2 g2 lt2 h1 h2
  exact loop els.length 0 (by omega) 2000 k1 o1 t1 (by omega) (by omega) (by omega) (fun j L hj=>by omega)
 obtain⟨w,⟨b,rfl,hb⟩,hc⟩:=key;exact⟨b,hb,hc⟩
end Go.Proofs
namespace Go.Proofs
open Go Go.AM Go.Sort
def zeh{A B:List (Int×Int)}{K:Nat}(h:∀ q,(toL B q).length<=K):(zJM A B).length<=A.length*K:=by
 induction A with
 | nil=>simp[zJM]
 | cons p A ih=>
  have:=h p.2;have e:zJM (p::A) B=(toL B p.2).map (fun u=>(p.1,u))++zJM A B:=rfl;rw[e,List.length_append,List.length_map,List.length_cons,Nat.add_mul];omega
def zfE(h:AH)(q:Int)(w:Value)(hk:h.ok)(hw:zq w=true):∃ h1,Ev true (zb E 32 (h.new (rO [iI 0,.slice none 0 0] 32)) (sP h.qa 0) (some (.agg ⟨[iI q,w]⟩))) (fun x=>x=(undef,h1))/\Fx NoB h h1/\h1.get h.qa=some (rO [iI q,w] 32)/\h1.qa=h.qa+1:=
 ⟨_,by rw[zlq (zI h _) rfl hw,zL],((Fx.refl hk).new _).upd (.inr (xAF _)) _,zN _ _ _,rfl⟩
section
variable {k h h':AH} {a1 a2 b1 b2 d1 d2 vx vz vw:Value} {L M N:GL} {A B C:GB}
end
def zem{kk h:AH}{kind:Int}{F:List (Int×Int)}{v:Value}(M:Made NoB kk kind F v h)(hk:kk.ok){G:Value->Value->Value->AH->Prop}(H:∀ h1 w,Fx NoB kk h1->zH E 32 h1 (sP h.qa 0)=some (.agg ⟨[iI kind,w]⟩)->RB h1 [iI kind,w] ⟨kind,F⟩->G (iI 0) (ptr h.qa) undef h1) :
  EvO (zt 0 (some v)) fun x4=>EvO (zt 1 (some v)) fun x5=>Ev true (zW 32 h (zAL E 32)) fun x6=>Ev true (zb E 32 x6.2 (some x6.1) (some x4)) fun x7=>G x5 x6.1 x7.1 x7.2:=by
 obtain⟨b,rfl,hb,ar,f⟩:=M;obtain⟨h1,s1,f1,g1,n1⟩:=zfE h kind (sl b F.length (UNK+2)) f.ok rfl;simp only[pe0,pe1,zA,zqk,zd,zL,zX];refine s1.mono ?_;rintro _ rfl;exact H h1 _ (f.trans f1 fun c hc=>hc.elim) (zZ (P:=E) zQl (o:=0) g1 (by simp)) ⟨_,rfl,ar.ext f1.ext0⟩
def zjp(n:Int)(S:zf)(x:Int×Int):shS n (S++[x])=shS n S++[(x.1,x.2+n)]:=by simp[shS]
def zrN{K:KF}{v0 v3 v49 v50 v51:Value}{b5 bw:Nat}{n:Int}{a2 a3:Value}{h0:AH}{c:Value}{S:zf}(aa:h0.ok)(aj:CellOK h0 c S)(h5:h0.get b5=some (rO [iI n,a2,a3] 25))(l5:b5<h0.qa)(cA:0<=n)(hn:n<=100000)(hS:∀ y∈S,0<=y.2/\y.2<=100000)(gJ:S.length<=900000)
  (H:∀ h w,Fx NoB h0 h->CellOK h w (shS n S)->PI (C30 true) K 15 [v0,v3,ptr b5,ptr bw,w,v49,v50,v51] h) :
  PI (C30 true) K 9 [v0,v3,ptr b5,ptr bw,c,v49,v50,v51] h0:=by
 refine zgi (zXf ?_);obtain⟨ca,cc,bI⟩:=(zCE aj).slice;rw[List.length_map] at bI;rw[bI];simp only[zRB,zA];rw[← bI];have loop:∀(m i:Nat),i+m=S.length->∀ h w,Fx NoB h0 h->CellOK h w (shS n (S.take i))->(∀ c,zu w c->h0.qa<=c)->
   PI (C30 true) K 11 [v0,v3,ptr b5,ptr bw,w,v49,v50,v51,c,iI (S.length:Int),iI (i:Int)] h:=by
  intro m
  induction m with
  | zero=>
   intro i hi h w hf hw hb;have hi:i=S.length:=by omega
   subst hi;rw[List.take_length] at hw;refine zMW ?_;simp only[zY,zA,show decide ((S.length:Int)<(S.length:Int))=false from xAI (by omega),zi];exact H h w hf hw
  | succ m ih=>
   intro i hi h w hf hw hb;have ai:i<S.length:=by omega
   refine zMW ?_;simp only[zY,zA,show decide ((i:Int)<(S.length:Int))=true from xAJ (by omega),zy];refine zXe ?_;have ej:(S.map zG)[i]?=some (zG S[i]):=by rw[List.getElem?_map,xAA ai];rfl
   obtain⟨p,q1,q2⟩:=zPm (zCE aj) hf.ext0 ej;obtain⟨h1,e1,f1,g1',n1⟩:∃ h1,(h.new (rO [iI 0,iI 0] 134)).upd h.qa (some (rO (zG S[i]) 134))=h1/\Fx NoB h h1/\h1.get h.qa=some (rO (zG S[i]) 134)/\h1.qa=h.qa+1:=
    ⟨_,rfl,((Fx.refl hf.ok).new _).upd (.inr (xAF _)) _,zN _ _ _,rfl⟩
   simp only[q1,q2,zNj,zd,zL,zX,zA,zWN,e1];refine zXd ?_;have dY:Fx NoB h0 h1:=hf.trans f1 fun c hc=>hc.elim;have m0:zH E 3 h1 (sP h.qa (0+0))=some (iI S[i].1):=zF (P:=E) zAa (o:=0+0) g1';have m1:zH E 3 h1 (sP h.qa (0+1))=some (iI S[i].2):=zF (P:=E) zAa (o:=0+1) g1';have m5:zH E 3 h1 (sP b5 (0+0))=some (iI n):=zF (P:=E) zAa (o:=0+0) ((dY.get b5 l5 (fun h=>h)).trans h5);have d9:=hS S[i] (List.getElem_mem ai);obtain⟨h2,s1,s2,s3,s4⟩:=zFW dY.ok (hw.fx f1 fun _ _ h=>h) (by simp[shS];omega) S[i].1 (S[i].2+n);simp only[zDX,zA6,zA3,m0,m1,m5,zA,zAK _ (show zC1 (S[i].2+n) from ⟨by omega,by omega⟩),zj7,zln,zL,s1];refine zXc ?_;simp only[zA,zAK _ (zDu ai (by omega))];have hh:h1.qa+1<h2.qa:=by omega
   refine ih (i+1) (by omega) h2 _ (dY.trans s4 fun c hc=>.inr (hb c hc)) ?_ ?_
   ·rw[zLP ai,zjp];exact .inr ⟨h1.qa+1,by rw[List.length_append];rfl,s2,hh⟩
   ·rintro c ⟨n,cp,e⟩;simp only[Value.slice.injEq,xAN,Addr.mk.injEq] at e;have:h0.qa<=h1.qa:=dY.qa;omega
 exact loop S.length 0 (by omega) h0 (.slice none 0 0) (Fx.refl aa) (.inl ⟨rfl,rfl⟩) fun c hc=>by obtain⟨n,cp,e⟩:=hc;cases e
def zrW{K:KF}{v0 v3:Value}{b5 bw bs2 es2 cp2 n1:Nat}{n:Int}{a2 a3:Value}{kL:AH}{C2:List Value}{S1 S2:List zf}
  (g2:kL.get bs2=some (.row C2 132 es2 false)) (l2:bs2<kL.qa) (nb2:bs2≠bw) (zsn:C2.length=S2.length) (cell2:∀(i:Nat) (c:Value) (S:zf),C2[i]?=some c->S2[i]?=some S->CellOK kL c S) (nbc:∀(i:Nat) (c:Value) (b:Nat),C2[i]?=some c->zu c b->b≠bw)
  (h5:kL.get b5=some (rO [iI n,a2,a3] 25)) (l5:b5<kL.qa) (n5:b5≠bw) (cA:0<=n) (hn:n<=100000) (hS:∀(i:Nat) (S:zf),S2[i]?=some S->S.length<=900000/\∀ y∈S,0<=y.2/\y.2<=100000) (hC:n1+C2.length<=900000)
  (H:∀ h C,W30 kL bw C (S1++S2.map (shS n)) h->PI (C30 true) K 17 [v0,v3,ptr b5,ptr bw] h) :
  ∀ m j,j+m=C2.length->∀ h C,W30 kL bw C (S1++(S2.take j).map (shS n)) h->C.length=n1+j->PI (C30 true) K 7 [v0,v3,ptr b5,ptr bw,.slice (some ⟨bs2,0,none⟩) C2.length cp2,iI (C2.length:Int),iI (j:Int)] h:=by
 intro m
 induction m with
 | zero=>
  intro j hj h C w hCl;refine zQX ?_;simp only[zY,zA,show decide ((j:Int)<(C2.length:Int))=false from xAI (by omega),zi];rw[xAD (by omega)] at w;exact H h C w
 | succ m ih=>
  intro j hj h C w hCl;have hjc:j<C2.length:=by omega
  refine zQX ?_;simp only[zY,zA,show decide ((j:Int)<(C2.length:Int))=true from xAJ (by omega),zy];refine zgj ?_;have gb:=(w.fx.get bs2 l2 nb2).trans g2;have lc:=zF (P:=E) zCn (o:=0+j*1) gb;have hcj:C2[j]?=some C2[j]:=xAA hjc;have hsj:S2[j]?=some S2[j]:=xAA (by omega);rw[zA2,show 0+j*1=j by omega,hcj] at lc;have ia:=zIC (b:=bs2) (o:=0) (c:=cp2) hjc;rw[show 0+j*1=j by omega] at ia;simp only[ia,lc,zA];have iG:=w.fx.qa;obtain⟨z1,z2⟩:=hS j _ hsj;refine zrN w.fx.ok ((cell2 j _ _ hcj hsj).fx w.fx fun b hb e=>nbc j _ b hcj hb e) ((w.fx.get b5 l5 n5).trans h5) (by omega) cA hn z2 z1 fun h' wv f hw=>?_;refine zXb ?_;obtain⟨sl0,sl1,h1,h2,h3,r1,r2,r3,r4,r5⟩:=(w.step f).add hw (by omega);simp only[zAj,zA,zCY,r1,r2,zL,r3,r4];refine zXa ?_;simp only[zA,zAK _ (zDu hjc (by omega))];refine ih (j+1) (by omega) h3 (C++[wv]) ?_ (by rw[List.length_append,List.length_singleton];omega);rw[List.take_add_one,hsj,Option.toList_some,List.map_append,← List.append_assoc];exact r5
def Sl.fx{lo:Nat}{h h':AH}{v:Value}{F:zf}{P:Nat->Prop}(s:Sl lo h v F)(f:Fx P h h')(hP:∀ c,lo<=c->¬ P c):Sl lo h' v F:=by
 rcases s with e|⟨b,rest,e,h1,h2,h3⟩
 ·exact .inl e
 ·exact .inr ⟨b,rest,e,h1,xAC h2 f.qa,(f.get b h2 (hP b h1)).trans h3⟩
def Sl.lo{lo lo':Nat}{h:AH}{v:Value}{F:zf}(s:Sl lo h v F)(hl:lo'<=lo):Sl lo' h v F:=by
 rcases s with e|⟨b,rest,e,h1,h2,h3⟩
 ·exact .inl e
 ·exact .inr ⟨b,rest,e,Nat.le_trans hl h1,h2,h3⟩
def Sl.arr{lo:Nat}{h:AH}{v:Value}{F:zf}(s:Sl lo h v F):Arr h 2 v (F.map zG):=by
 rcases s with ⟨rfl,rfl⟩|⟨b,rest,rfl,h1,h2,h3⟩
 ·exact .nil _ _
 ·exact zWV h3 h2 rfl
def Sl.leaf{lo:Nat}{h:AH}{v:Value}{F:zf}(s:Sl lo h v F):∃ a n c,v=.slice a n c:=by
 rcases s with ⟨_,rfl⟩|⟨b,rest,rfl,_⟩ <;> exact⟨_,_,_,rfl⟩
structure M30(kM:AH)(m:Nat)(SS:List zf)(cl:List Int)(kind:Int)(i:Nat)(h:AH):Prop where
 fx:Fx (fun c=>c=m) kM h
 ml:m<kM.qa
 ex:∃ M ver,h.get m=some (.map (zMB M) ver)/\(zBI M).Nodup/\(∀ s,s<i->∃ F v,lkV (zBU cl (s:Int)) M=some v/\CanL SS cl kind s F/\F.length<=900000/\Sl kM.qa h v F)/\∀ q,(∀ s:Nat,s<i->zBU cl (s:Int)≠q)->lkV q M=none
 same:∀ s s':Nat,s<i->s'<i->zBU cl (s:Int)=zBU cl (s':Int)->∀ n k,zNe (wst SS) (zBU cl) kind s n k ↔ zNe (wst SS) (zBU cl) kind s' n k
def M30.step{kM h h':AH}{m:Nat}{SS:List zf}{cl:List Int}{kind:Int}{i:Nat}(w:M30 kM m SS cl kind i h)(f:Fx NoB h h'):M30 kM m SS cl kind i h':=by
 obtain⟨M,ver,a1,a2,a3,a4⟩:=w.ex;have hn:=w.fx.qa;have hl:=w.ml;refine⟨w.fx.trans f fun c hc=>hc.elim,hl,⟨M,ver,(f.get m (by omega) (fun h=>h)).trans a1,a2,fun s hs=>?_,a4⟩,w.same⟩;obtain⟨F,v,b1,b2,b3,b4⟩:=a3 s hs;exact⟨F,v,b1,b2,b3,b4.fx f fun _ _ h=>h⟩
abbrev K30(k:AH)(Q:Prop):KF:=KR E [.tmp 8] fun x l=>(zg x=true/\∃ r,x=iI r/\(r=0 ↔ Q))/\k.qa<=l.wm
def zOK{k h:AH}{Q:Prop}(o:Own k h)(r:Int)(hr:r=0 ↔ Q):K30 k Q .ret [iI r] h:=by
 simp only[K30,zAS,zU,true_and];exact⟨⟨rfl,r,rfl,hr⟩,o.wm⟩
def zIV(SS:List zf)(cl:List Int)(kind:Int)(i:Nat):Prop:=∀ s s':Nat,s<i->s'<i->zBU cl (s:Int)=zBU cl (s':Int)->∀ n k,zNe (wst SS) (zBU cl) kind s n k ↔ zNe (wst SS) (zBU cl) kind s' n k
def znv{k kM:AH}{v:Value}{b5 b17 bw m:Nat}{SS:List zf}{cl:List Int}{kind N:Int}{a2 a3:Value}(hW:zr7 SS cl)(hM:Own k kM)(aN:m<kM.qa)(ic:k.qa<=m)(hg:∀ h,Fx (fun c=>c=m) kM h->GW h bw SS)(hc:∀ h,Fx (fun c=>c=m) kM h->Arr h 1 v (cl.map i1))
  (h17:∀ h,Fx (fun c=>c=m) kM h->zH E 110 h (sP b17 (0+1))=some (zqs kind)) (h5:kM.get b5=some (rO [iI N,a2,a3] 25)) (l5:b5<kM.qa) (n5:b5≠m) (hN0:0<=N) (hN:N<(cl.length:Int)) :
  ∀ r i,i+r=cl.length->∀ h,M30 kM m SS cl kind i h->PI (C30 true) (K30 k (zIV SS cl kind cl.length/\zBU cl 0=zBU cl N)) 20 [v,ptr b5,ptr bw,ptr b17,.map (some m),v,iI (cl.length:Int),iI (i:Int)] h:=by
 have own:∀ h,Fx (fun c=>c=m) kM h->Own k h:=fun h f=>f.own hM fun c hc=>by have:c=m:=hc;omega
 intro r
 induction r with
 | zero=>
  intro i hi h w;have hi:i=cl.length:=by omega
  subst hi;refine zMV ?_;simp only[zY,zA,show decide ((cl.length:Int)<(cl.length:Int))=false from xAI (by omega),zi];refine zXP ?_;obtain⟨n,rfl⟩:=Int.eq_ofNat_of_zero_le hN0;have hn:n<cl.length:=by omega
  have h0:0<cl.length:=by omega
  obtain⟨p0,q1,q2⟩:=zHF (hc h w.fx) (Ext.refl w.fx.ok) (xAA h0);obtain⟨p1,q3,q4⟩:=zHF (hc h w.fx) (Ext.refl w.fx.ok) (xAA hn);have m5:zH E 3 h (sP b5 (0+0))=some (iI (n:Int)):=zF (P:=E) zAa (o:=0+0) ((w.fx.get b5 l5 n5).trans h5);rw[show ((0:Nat):Int)=0 from rfl] at q1;have e0:zBU cl 0=cl[0]:=by unfold zBU;rw[show ((0:Int)).toNat=0 from rfl,xAA h0];rfl
  have e1:zBU cl (n:Int)=cl[n]:=by unfold zBU;rw[show ((n:Int)).toNat=n from rfl,xAA hn];rfl
  simp only[q1,q2,zA,zA3,m5,q3,q4,zA1,zHH];refine⟨fun ah=>zXO (zOK (own h w.fx) 360 ?_),fun he=>zXN (zOK (own h w.fx) 0 ?_)⟩
  ·exact⟨fun h=>absurd h (by decide),fun h=>absurd (by rw[← e0,← e1];exact h.2) ah⟩
  ·exact⟨fun _=>⟨w.same,by rw[e0,e1];exact he⟩,fun _=>rfl⟩
 | succ r ih=>
  intro i hi h w;have ii:i<cl.length:=by omega
  have his:i<SS.length:=by rw[← hW.cl];exact ii
  refine zMV ?_;simp only[zY,zA,show decide ((i:Int)<(cl.length:Int))=true from xAJ (by omega),zy];refine zXW ?_;obtain⟨p0,q1,q2⟩:=zHF (hc h w.fx) (Ext.refl w.fx.ok) (xAA ii);have ei:zBU cl (i:Int)=cl[i]:=by unfold zBU;rw[show ((i:Int)).toNat=i from rfl,xAA ii];rfl
  simp only[q1,q2,zA];rw[← ei];refine zXV ?_;simp only[zev,h17 h w.fx,zA];refine (zk5 (kind:=kind) w.fx.ok (hg h w.fx) hW (hc h w.fx) his).mono ?_;rintro⟨x,h1⟩ ⟨F,s1,s2,s3,s4⟩;simp only at s3 s4 ⊢;have w1:=w.step s4;have s3':Sl kM.qa h1 x F:=s3.lo w.fx.qa;obtain⟨M,ver,a1,a2',a3',a4⟩:=w1.ex;refine zXU ?_;simp only[zkL a1 a2',zA,pe0,pe1];refine zXT ?_;obtain⟨M',u1,u2,u3⟩:=zm4 a1 a2' (zBU cl (i:Int)) x;obtain⟨xa,xn,xc,hx⟩:=s3.leaf;have next:(∀ s:Nat,s<i->zBU cl (s:Int)=zBU cl (i:Int)->CanL SS cl kind s F)->PI (C30 true) (K30 k (zIV SS cl kind cl.length/\zBU cl 0=zBU cl N)) 26 [v,ptr b5,ptr bw,ptr b17,.map (some m),iI (zBU cl (i:Int)),x,v,iI (cl.length:Int),iI (i:Int)] h1:=by
   intro jH;refine zXR ?_;simp only[u1,zL];refine zXQ ?_;simp only[zA,zAK _ (zDu ii (by have:=hW.n;have:=hW.cl;omega))];refine ih (i+1) (by omega) _ ⟨w1.fx.upd (.inl rfl) _,aN,⟨M',ver+1,zN _ _ _,u2,fun s hs=>?_,fun q hq=>?_⟩,fun s s' hs aQ he n k=>?_⟩
   ·by_cases hsi:zBU cl (s:Int)=zBU cl (i:Int)
    ·refine⟨F,x,by rw[u3,if_pos hsi],?_,s2,?_⟩
     ·by_cases gU:s<i
      ·exact jH s gU hsi
      ·have:s=i:=by omega
       subst this;exact s1
     ·rcases s3' with e|⟨b,rest,e,y1,y2,y3⟩
      ·exact .inl e
      ·exact .inr ⟨b,rest,e,y1,y2,(zP (by omega)).trans y3⟩
    ·have gU:s<i:=by
      rcases Nat.lt_succ_iff_lt_or_eq.1 hs with h|h
      ·exact h
      ·exact absurd (by rw[h]) hsi
     obtain⟨F',v',b1,b2,b3,b4⟩:=a3' s gU;refine⟨F',v',by rw[u3,if_neg hsi];exact b1,b2,b3,?_⟩;rcases b4 with e|⟨b,rest,e,y1,y2,y3⟩
     ·exact .inl e
     ·exact .inr ⟨b,rest,e,y1,y2,(zP (by omega)).trans y3⟩
   ·have:=hq i (by omega);rw[u3,if_neg (fun e=>this e.symm)];exact a4 q fun s hs=>hq s (by omega)
   ·have key:∀ s:Nat,s<i+1->zBU cl (s:Int)=zBU cl (i:Int)->CanL SS cl kind s F:=fun s hs he=>by
     rcases Nat.lt_succ_iff_lt_or_eq.1 hs with h|h
     ·exact jH s h he
     ·subst h;exact s1
    by_cases hsi:zBU cl (s:Int)=zBU cl (i:Int)
    ·exact ((key s hs hsi).uniq (key s' aQ (he.symm.trans hsi))).1 rfl n k
    ·have d8:s<i:=by
      rcases Nat.lt_succ_iff_lt_or_eq.1 hs with h|h
      ·exact h
      ·exact absurd (by rw[h]) hsi
     have fT:s'<i:=by
      rcases Nat.lt_succ_iff_lt_or_eq.1 aQ with h|h
      ·exact h
      ·exact absurd (by rw[he,h]) hsi
     exact w1.same s s' d8 fT he n k
  by_cases hex:∃ s:Nat,s<i/\zBU cl (s:Int)=zBU cl (i:Int)
  ·obtain⟨s0,jb,dB⟩:=hex;obtain⟨F0,v0,b1,b2,b3,b4⟩:=a3' s0 jb;rw[dB] at b1;have bJ:=zoL (h0:=h1) (k:=h1) s3.arr b4.arr (by omega) (Ext.refl w1.fx.ok);simp only[b1,Option.isSome_some,Option.getD_some,zM,zR,xAO,xAG,zA,zS,bJ,zO,zAB,zJ];by_cases hF:F=F0
   ·simp only[hF,decide_true,xAL,zi];rw[hF] at next;refine next fun s hs he=>?_;have aJ:=w1.same s s0 hs jb (he.trans dB.symm);exact⟨b2.1,fun p=>(b2.2 p).trans (aJ p.1 p.2).symm⟩
   ·simp only[hF,decide_false,xAM,zy];refine zXS (zOK (own h1 w1.fx) 360 ⟨fun h=>absurd h (by decide),fun h=>absurd ((s1.uniq b2).2 (h.1 i s0 ii (by omega) dB.symm)) hF⟩)
  ·have dO:=a4 (zBU cl (i:Int)) fun s hs he=>hex ⟨s,hs,he⟩;simp only[dO,Option.isSome_none,Option.getD_none,zM,zR,show (false==true)=false from rfl,xAH,zA,zL,zJ,zi];exact next fun s hs he=>absurd ⟨s,hs,he⟩ hex
def zG0(nums:List Int):∀(l:List (Int×Int×Int)) (SS:List zf) (b:Nat),(∀(i:Nat) (S:zf),SS[i]?=some S->S.length<=b)->∀(i:Nat) (S:zf),(zC7 nums SS l)[i]?=some S->S.length<=b+l.length
 | [],SS,b,h,i,S,hS=>h i S hS
 | e::l,SS,b,h,i,S,hS=>by
  have:=zG0 nums l _ (b+1) (fun j T hT=>by
   rw[List.getElem?_set] at hT;split at hT
   ·split at hT
    ·cases hT;rw[List.length_append];rename_i h1 h2;have:=h e.1.toNat (SS[e.1.toNat]?.getD []);rw[xAA h2,Option.getD_some] at this ⊢;have:=this rfl;simp;omega
    ·cases hT
   ·have:=h j T hT;omega) i S hS
  simp only[List.length_cons];omega
def zEP{nums:List Int}{L:GL}{i:Nat}{S:zf}(h:(zAT nums L)[i]?=some S):S.length<=L.eds.length:=by
 have:=zG0 nums L.eds (List.replicate L.n.toNat []) 0 (fun j T hT=>by
  rw[List.getElem?_replicate] at hT;split at hT
  ·cases hT;simp
  ·cases hT) i S h
 omega
def zeK{L M:GL}{cs:List CL}{cl:List Int}(hL:zx L=false)(hM:zx M=false)(fL:zQc L)(fM:zQc M)(hn:(cl.length:Int)=L.n+M.n):zr7 (SSW L M cs) cl:=by
 obtain⟨l1,l2,_⟩:=zAV hL;obtain⟨m1,m2,_⟩:=zAV hM;have hlen:(SSW L M cs).length=L.n.toNat+M.n.toNat:=zLH;have h60:=fL.1;have h61:=fM.1;have s9:∀(i:Nat) (S:zf),(SSW L M cs)[i]?=some S->S.length<=900:=by
  intro i S hS;have e1:=fL.2.1;have e2:=fM.2.1;unfold SSW zLI at hS;by_cases h:i<(zAT (L.labs.map (zAh cs)) L).length
  ·rw[List.getElem?_append_left h] at hS;have:=zEP hS;omega
  ·rw[List.getElem?_append_right (by omega),List.getElem?_map] at hS;obtain⟨T,hT,rfl⟩:=Option.map_eq_some_iff.1 hS;have:=zEP hT;simp only[shS,List.length_map];omega
 exact⟨⟨by omega,fun i S hS=>⟨by have:=s9 i S hS;omega,zTw hL hM i S hS⟩⟩,by omega,by omega,s9⟩
def ze5{kind:Int}:lnth (zAF kind) (0+1)=some (zqs kind):=by
 unfold zAF zqs;by_cases h:kind=1
 ·simp only[if_pos h];rfl
 ·simp only[if_neg h];rfl
def zoT{k:AH}{x y v:Value}{L M:GL}{kind:Int}{cl:List Int}(aa:k.ok)(hx:RL k x L)(hy:RL k y M)(hL:zx L=false)(hM:zx M=false)(hk:kind=1\/kind=2)(hc:Arr k 1 v (cl.map i1))(hn:(cl.length:Int)=L.n+M.n)(hl:∀ c∈cl,0<=c/\c<=40000)(fL:zQc L)(fM:zQc M) :
  ∃ r,(r=0 ↔ zIV (SSW L M (zLC L M)) cl kind cl.length/\zBU cl 0=zBU cl L.n)/\(zV E).call 30 [iI kind,x,y,v] k=some [(iI r,k)]:=by
 have hW:=zeK (cs:=zLC L M) hL hM fL fM hn;obtain⟨l1,l2,_⟩:=zAV hL;obtain⟨m1,m2,_⟩:=zAV hM;generalize hQ:(zIV (SSW L M (zLC L M)) cl kind cl.length/\zBU cl 0=zBU cl L.n)=Q
 suffices h:∃ w,(∃ r,w=iI r/\(r=0 ↔ Q))/\(zV E).call 30 [iI kind,x,y,v] k=some [(w,k)] by
  obtain⟨w,⟨r,rfl,h1⟩,h2⟩:=h;exact⟨r,h1,h2⟩
 obtain⟨vl,ve,elsL,rfl,x2,x3,x4⟩:=id hx.ex;obtain⟨wl,we,elsM,rfl,y2,y3,y4⟩:=id hy.ex;refine zdC aa (zgp ?_);obtain⟨k1,e1,n1,t1,o1,f1⟩:=nwF k (rO [iI L.n,vl,ve] 25);obtain⟨k2,e2,n2,t2,o2,f2⟩:=nw o1 (rO [iI M.n,wl,we] 25);obtain⟨k3,e3,n3,t3,o3,f3⟩:=nw o2 (rO [iI L.n,vl,ve,iI M.n,wl,we] 25);rw[n1] at t2;have g0:k2.get k.qa=some (rO [iI L.n,vl,ve] 25):=(f2 _ (by omega)).trans t1;have g0':=(f3 k.qa (by omega)).trans g0;simp only[zd,zL,zX,zA,e1,e2,za,n1];refine zgo ?_;have la:zH E 25 k2 (sP k.qa 0)=some (.agg ⟨[iI L.n,vl,ve]⟩):=zZ (P:=E) zDh (o:=0) g0 (by simp);have lb:zH E 25 k2 (some (.pointer (some ⟨k.qa+1,0,none⟩)))=some (.agg ⟨[iI M.n,wl,we]⟩):=zZ (P:=E) zDh (o:=0) t2 (by simp);have c89:=zi4 (k:=k2) o2.ext.ok (hx.ext o2.ext) (hy.ext o2.ext) hL hM hk (hc.ext o2.ext) hn hl;simp only[la,lb,zA,zS,c89,zO];refine zgn ?_;simp only[zA1,zA,decide_true,xAL,zi];refine zgm ?_;have dj:=zoY (a:=iI L.n) (b:=vl) (c:=ve) (a':=iI M.n) (b':=wl) (c':=we) (h:=k2);rw[e3] at dj;have am:Args k3 (.slice (some ⟨k2.qa,0,none⟩) 2 2) [[iI L.n,vl,ve],[iI M.n,wl,we]] [L,M]:=by
  refine⟨?_,rfl,by simp,fun i ee LL h1 h2=>?_,fun i LL h=>?_⟩
  ·refine Arr.row (els:=[[iI L.n,vl,ve],[iI M.n,wl,we]]) t3 (by omega) (by simp) (fun i ee aP=>?_)
   match i with
   | 0=>simp at aP;subst aP;exact⟨rfl,rfl⟩
   | 1=>simp at aP;subst aP;exact⟨rfl,rfl⟩
   | i+2=>simp at aP
  ·match i with
   | 0=>simp at h1 h2;subst h1 h2;exact hx.ext o3.ext
   | 1=>simp at h1 h2;subst h1 h2;exact hy.ext o3.ext
   | i+2=>simp at h1
  ·match i with
   | 0=>simp at h;subst h;exact hL
   | 1=>simp at h;subst h;exact hM
   | i+2=>simp at h
 simp only[la,lb,zA,dj,zL,zS];refine (zi3 o3.ext.ok (by simp) am).mono fun z hz=>?_;obtain⟨gs,hO,hlen,dA,dx,fx⟩:=hz;obtain⟨out,k4⟩:=z;simp only at hO fx ⊢
 match gs,hlen with
 | [z1,z2],_=>
  have o4:=fx.own o3 (fun _ h=>h.elim);have G1:=hO.gg z1 (by simp);have G2:=hO.gg z2 (by simp);rw[zL0] at dx;simp only[List.map_cons,List.map_nil,List.cons.injEq,and_true] at dx;obtain⟨d8,fT⟩:=dx;rcases hO.sl with ⟨_,h⟩|⟨bo,rfl,fN,dZ,jK⟩
  ·cases h
  ·have dN:=fx.qa;have m0:=zF (P:=E) zCJ (o:=0) fN;simp only[List.map_cons,List.map_nil,lnth] at m0;have i0:zE E 126 (some (.slice (some ⟨bo,0,none⟩) [z1,z2].length (UNK+1))) (some (iI 0))=some (.pointer (some ⟨bo,0,none⟩)):=zPn (k:=0) (by simp);have i1':zE E 126 (some (.slice (some ⟨bo,0,none⟩) [z1,z2].length (UNK+1))) (some (iI 1))=some (.pointer (some ⟨bo,1,none⟩)):=zPn (k:=1) (by simp);have lg1:zH E 129 k4 (sP z1.1 (0+0))=some (.slice (some ⟨z1.2.1,0,none⟩) z1.2.2.1.length z1.2.2.1.length):=zF (P:=E) zEN (o:=0+0) G1.g;obtain⟨kL,e5,n5,t5,o5,f5⟩:=nw o4 (rO [.slice (some ⟨z1.2.1,0,none⟩) z1.2.2.1.length z1.2.2.1.length] 131);refine zgl ?_;simp only[i0,m0,zA,zAj,zCY,lg1,znl,zd,zL,show zj (.agg #[.slice (some ⟨z1.2.1,0,none⟩) z1.2.2.1.length z1.2.2.1.length])=[.slice (some ⟨z1.2.1,0,none⟩) z1.2.2.1.length z1.2.2.1.length] from rfl,e5];refine zgk ?_;have xL:Fx NoB k4 kL:=by rw[← e5];exact (Fx.refl o4.ext.ok).new _
   have m1':=zF (P:=E) zCJ (o:=1) ((f5 bo dZ).trans fN);simp only[List.map_cons,List.map_nil,lnth] at m1';have lg2:zH E 129 kL (sP z2.1 (0+0))=some (.slice (some ⟨z2.2.1,0,none⟩) z2.2.2.1.length z2.2.2.1.length):=zF (P:=E) zEN (o:=0+0) ((f5 _ G2.ltg).trans G2.g);simp only[i1',m1',zA,zAj,zCY,lg2,zU8];have g0L:kL.get k.qa=some (rO [iI L.n,vl,ve] 25):=(f5 _ (by omega)).trans ((fx.get _ (by omega) (fun h=>h)).trans g0');have cO:=G1.len;have dy:=G2.len;have hsl1:=zAw (L.labs.map (zAh (zLC L M))) L;have hsl2:=zAw (M.labs.map (zAh (zLC L M))) M;rw[d8] at cO;rw[fT] at dy;have h60:=fL.1;have h61:=fM.1;have c1:∀(i:Nat) (c:Value) (S:zf),z1.2.2.1[i]?=some c->(zAT (L.labs.map (zAh (zLC L M))) L)[i]?=some S->CellOK kL c S:=fun i c S hc hS=>(G1.cell i c S hc (by rw[d8];exact hS)).fx xL fun _ _ h=>h;have c2:∀(i:Nat) (c:Value) (S:zf),z2.2.2.1[i]?=some c->(zAT (M.labs.map (zAh (zLC L M))) M)[i]?=some S->CellOK kL c S:=fun i c S hc hS=>(G2.cell i c S hc (by rw[fT];exact hS)).fx xL fun _ _ h=>h;have W0:W30 kL k4.qa z1.2.2.1 (zAT (L.labs.map (zAh (zLC L M))) L) kL:=⟨Fx.refl o5.ext.ok,⟨z1.2.1,z1.2.2.1.length,0,t5,(f5 _ G1.lts).trans G1.s,by have:=G1.lts;omega,.inl ⟨rfl,by have:=G1.lts;omega⟩⟩,by omega,cO,c1⟩;refine zrW (bs2:=z2.2.1) (es2:=0) (n1:=z1.2.2.1.length) (n:=L.n) (a2:=vl) (a3:=ve) (kL:=kL) (C2:=z2.2.2.1) (S1:=zAT (L.labs.map (zAh (zLC L M))) L) (S2:=zAT (M.labs.map (zAh (zLC L M))) M) ((f5 _ G2.lts).trans G2.s) (by have:=G2.lts;omega) (by have:=G2.lts;omega) dy c2 (fun i c b aY hb=>?_) g0L (by omega) (by omega) (by omega) (by omega) (fun i S hS=>?_) (by omega) ?_ z2.2.2.1.length 0 (by omega) kL z1.2.2.1 ?_ rfl
   ·have hi:i<z2.2.2.1.length:=(List.getElem?_eq_some_iff.1 aY).1;have:=(G2.cell i c _ aY (xAA (by rw[← G2.len];exact hi))).lt hb;omega
   ·refine⟨by have:=zEP hS;have:=fM.2.1;omega,fun q hq=>?_⟩;obtain⟨e,he,_,rfl⟩:=(zHg hS q).1 hq;obtain⟨j,hj⟩:=List.getElem?_of_mem he;obtain⟨_,d2,_⟩:=zGD hM hj;simp only[zQn];omega
   ·
    intro h C w;have hg:=w.gw;have hfx:=w.fx;have oh:Own k h:=hfx.own o5 fun c hc=>by have:c=k4.qa:=hc;omega
    refine zXZ ?_;have hman:zDd kind=true:=by rcases hk with rfl|rfl <;> rfl
    obtain⟨h1,e6,n6,t6,o6,f6⟩:=nw oh (.row [.nilFunc,.nilFunc,.string ⟨#[]⟩] 112 0 false);obtain⟨h2,e7,n7,t7,o7,f7⟩:=up o6 (b:=h.qa) oh.ext.qa (rO (zAF kind) 112);have bK:=zjB (h:=h) (kind:=kind);rw[e6,e7] at bK;simp only[zS,zV1 oh.ext.ok,zO,pim hman,zA,zm0,zd,zL,zX,e6,bK];refine zXY ?_;obtain⟨kM,e8,n8,t8,o8,f8⟩:=nw o7 (.map [] 0);have fm:=w.bl;have gz:=hfx.qa;have eM:Ext h kM:=⟨o8.ext.ok,by omega,fun b hb=>(f8 b (by omega)).trans ((f7 b (by omega)).trans (f6 b hb))⟩;simp only[zL,e8];refine zXX ?_;obtain⟨ca,cc,hv⟩:=hc.slice;rw[List.length_map] at hv;rw[hv];simp only[zRA,zA];rw[← hv,← hQ];have g17:kM.get h.qa=some (rO (zAF kind) 112):=(f8 _ (by omega)).trans t7;refine znv (kM:=kM) (m:=h2.qa) (SS:=SSW L M (zLC L M)) (a2:=vl) (a3:=ve) hW o8 (by omega) (by have:=o7.ext.qa;omega) (fun g f=>hg.ext (f.ext eM fun c hc=>by have:c=h2.qa:=hc;omega)) (fun g f=>hc.ext (f.ext o8.ext fun c hc=>by have:c=h2.qa:=hc;have:=o7.ext.qa;omega)) (fun g f=>?_) (b5:=k.qa) (N:=L.n) ?_ (by have:=o8.ext.qa;omega) (by have:=o5.ext.qa;omega) (by omega) (by omega) cl.length 0 (by omega) kM ⟨Fx.refl o8.ext.ok,by omega,⟨[],0,t8,List.nodup_nil,fun s hs=>absurd hs (by omega),fun q _=>rfl⟩,fun s s' hs=>absurd hs (by omega)⟩
    ·have:=zF (P:=E) znN (o:=0+1) ((f.get h.qa (by omega) (by omega)).trans g17);rw[this,ze5]
    ·exact (eM.get _ (by omega)).trans ((hfx.get _ (by omega) (by omega)).trans g0L)
   ·rw[List.take_zero,List.map_nil,List.append_nil];exact W0
abbrev loV(b o n c i:Nat):Value:=.slice (cond (Nat.beq c i) (some ⟨b,o,none⟩) (some ⟨b,o+i*1,none⟩)) (n-i) (c-i)
abbrev hiV(b o c i:Nat):Value:=.slice (cond (Nat.beq c 0) (some ⟨b,o,none⟩) (some ⟨b,o+0*1,none⟩)) i (c-0)
def zVl{T:Tm}{p:Oper}{u w b o n c i:Nat}(ho:p.op=.slice 47 (.tmp u) (some (.tmp w)) none none)(h1:T.get u=.slice (some ⟨b,o,none⟩) n c)(h2:T.get w=iI (i:Int))(hn:n<=c)(hc:c<UNK)(hi:i<=n) :
  ze E T p=some (loV b o n c i):=by
 have f1:zl T (.tmp u)=false:=by show zg (T.get u)=false;rw[h1];rfl
 have o1:zAl T (.tmp u)=some (.slice (some ⟨b,o,none⟩) n c):=by show some (T.get u)=_;rw[h1]
 have o2:zBl T [.tmp w]=some [iI (i:Int)]:=by show some [T.get w]=_;rw[h2]
 have e:ze E T p=zEQ E 47 (.slice (some ⟨b,o,none⟩) n c) (some (iI (i:Int))) none none:=by
  simp only[ze,ho,zHv,f1,xAH,Option.isSome_none,Bool.false_and,o1,Option.toList_some,Option.toList_none,o2];rfl
 rw[e];simp only[zEQ,zLK,sliceS,zT7,zFs,zEe];show zeH 1 (some ⟨b,o,none⟩) n c i n=_;have hu:Nat.ble UNK c=false:=ble_false.2 (by omega);simp only[zeH,ble_true.2 hi,xAG,hu,ble_true.2 hn,zF8]
def zVm{T:Tm}{p:Oper}{u w b o n c i:Nat}(ho:p.op=.slice 47 (.tmp u) none (some (.tmp w)) none)(h1:T.get u=.slice (some ⟨b,o,none⟩) n c)(h2:T.get w=iI (i:Int))(hn:n<=c)(hc:c<UNK)(hi:i<=n) :
  ze E T p=some (hiV b o c i):=by
 have f1:zl T (.tmp u)=false:=by show zg (T.get u)=false;rw[h1];rfl
 have o1:zAl T (.tmp u)=some (.slice (some ⟨b,o,none⟩) n c):=by show some (T.get u)=_;rw[h1]
 have o2:zBl T [.tmp w]=some [iI (i:Int)]:=by show some [T.get w]=_;rw[h2]
 have e:ze E T p=zEQ E 47 (.slice (some ⟨b,o,none⟩) n c) none (some (iI (i:Int))) none:=by
  simp only[ze,ho,zHv,f1,xAH,Option.isSome_none,Bool.false_and,o1,Option.toList_some,Option.toList_none,o2];rfl
 rw[e];simp only[zEQ,zLK,sliceS,zT7,zFs,zEe];show zeH 1 (some ⟨b,o,none⟩) n c 0 i=_;have hu:Nat.ble UNK c=false:=ble_false.2 (by omega);simp only[zeH,ble_true.2 (Nat.zero_le i),xAG,hu,ble_true.2 (show i<=c by omega),zF8,Nat.sub_zero];rfl
def zik{h:AH}{b o n c i:Nat}{els:List (List Value)}(A:Arr h 1 (.slice (some ⟨b,o,none⟩) n c) els)(hn:n<=c)(hi:i<=n):Arr h 1 (loV b o n c i) (els.drop i):=by
 generalize hv:Value.slice (some ⟨b,o,none⟩) n c=v at A;cases A with
 | nil a c'=>
  simp only[Value.slice.injEq] at hv;obtain⟨_,rfl,_⟩:=hv;have:i=0:=by omega
  subst this;exact .nil _ _
 | @row b' o' c' vs ty es ro _ hb ab hl hz=>
  simp only[Value.slice.injEq,xAN,Addr.mk.injEq,and_true] at hv;obtain⟨⟨rfl,rfl⟩,rfl,rfl⟩:=hv;unfold loV;cases hbq:Nat.beq c i with
  | true=>
   have e:=Nat.eq_of_beq_eq_true hbq;subst e;have:els.length=c:=by omega
   rw[show els.length-c=0 by omega,List.drop_eq_nil_of_le (by omega)];exact .nil _ _
  | false=>
   have:=Arr.row (h:=h) (z:=1) (b:=b) (o:=o+i*1) (c:=c-i) (els:=els.drop i) hb ab (by rw[List.length_drop];omega) fun j e he=>by
    rw[List.getElem?_drop] at he;obtain⟨a1,a2⟩:=hz (i+j) e he;exact⟨a1,by rw[← a2];congr 2;omega⟩
   rw[List.length_drop] at this;exact this
def ziq{h:AH}{b o n c i:Nat}{els:List (List Value)}(A:Arr h 1 (.slice (some ⟨b,o,none⟩) n c) els)(hi:i<=n)(hn:n<=c):Arr h 1 (hiV b o c i) (els.take i):=by
 generalize hv:Value.slice (some ⟨b,o,none⟩) n c=v at A;cases A with
 | nil a c'=>
  simp only[Value.slice.injEq] at hv;obtain⟨_,rfl,_⟩:=hv;have:i=0:=by omega
  subst this;exact .nil _ _
 | @row b' o' c' vs ty es ro _ hb ab hl hz=>
  simp only[Value.slice.injEq,xAN,Addr.mk.injEq,and_true] at hv;obtain⟨⟨rfl,rfl⟩,rfl,rfl⟩:=hv;unfold hiV;have hlen:(els.take i).length=i:=by rw[List.length_take];omega
  have:=Arr.row (h:=h) (z:=1) (b:=b) (o:=o) (c:=c-0) (els:=els.take i) hb ab (by omega) fun j e he=>by
   rw[List.getElem?_take] at he;split at he
   ·exact hz j e he
   ·cases he
  rw[hlen] at this;rw[show o+0*1=o by omega];cases Nat.beq c 0 <;> exact this
def zDk(l:List Int):List (Int×Int):=l.zipIdx.map fun p=>(p.1,(p.2:Int))
def zFq(l:List Int):(zDk l).length=l.length:=by simp[zDk]
def zEv(l:List Int)(i:Nat):(zDk l)[i]?=(l[i]?).map fun x=>(x,(i:Int)):=by
 simp only[zDk,List.getElem?_map,List.getElem?_zipIdx,Option.map_map];cases l[i]? <;> simp
def numb_mem{l:List Int}{x t:Int}:(x,t)∈zDk l ↔ 0<=t/\l[t.toNat]?=some x:=by
 constructor
 ·intro h;obtain⟨i,hi⟩:=List.getElem?_of_mem h;rw[zEv] at hi;obtain⟨y,hy,e⟩:=Option.map_eq_some_iff.1 hi;simp only[Prod.mk.injEq] at e;obtain⟨rfl,rfl⟩:=e;exact⟨by omega,by simpa using hy⟩
 ·rintro⟨h0,h1⟩;refine List.mem_of_getElem? (i:=t.toNat) ?_;rw[zEv,h1,Option.map_some,show ((t.toNat:Nat):Int)=t by omega]
def zB7(cl:List Int)(N:Nat):List (Int×Int):=zJM ((zDk (cl.take N)).map zBr) (zDk (cl.drop N))
def zUe{cl:List Int}{N:Nat}{s t:Int}:(s,t)∈zB7 cl N ↔ (0<=s/\s<(N:Int))/\0<=t/\∃ c,cl[s.toNat]?=some c/\cl[N+t.toNat]?=some c:=by
 unfold zB7;rw[zj8];constructor
 ·rintro⟨c,h1,h2⟩;obtain⟨⟨a,b⟩,h3,e⟩:=List.mem_map.1 h1;simp only[zBr,Prod.mk.injEq] at e;obtain⟨rfl,rfl⟩:=e;obtain⟨h4,h5⟩:=numb_mem.1 h3;obtain⟨h6,h7⟩:=numb_mem.1 h2;rw[List.getElem?_take] at h5;split at h5
  ·rename_i h8;rw[List.getElem?_drop] at h7;exact⟨⟨h4,by omega⟩,h6,_,h5,h7⟩
  ·cases h5
 ·rintro⟨⟨h1,h2⟩,h3,c,h4,h5⟩;refine⟨c,List.mem_map.2 ⟨(c,s),numb_mem.2 ⟨h1,?_⟩,rfl⟩,numb_mem.2 ⟨h3,?_⟩⟩
  ·rw[List.getElem?_take_of_lt (by omega)];exact h4
  ·rw[List.getElem?_drop];exact h5
def zHx(l:List Int):(zDk l).Pairwise fun p q=>p.2<q.2:=by
 rw[List.pairwise_iff_getElem];intro i j hi hj bH;have a:=zEv l i;have b:=zEv l j;rw[xAA hi] at a;rw[xAA hj] at b;rw[zFq] at hi hj;rw[xAA hi] at a;rw[xAA hj] at b;simp only[Option.map_some,xAN] at a b;rw[a,b];simp;omega
def zNv{A B:List (Int×Int)}(hA:A.Pairwise fun p q=>p.1<q.1)(hB:B.Pairwise fun p q=>p.2<q.2):zCq (zJM A B):=by
 have hT:∀ q,(toL B q).Pairwise fun a b=>a<b:=fun q=>by
  unfold toL;rw[List.pairwise_map];exact hB.filter _
 unfold zJM
 induction A with
 | nil=>exact List.Pairwise.nil
 | cons p A ih=>
  obtain⟨h1,h2⟩:=List.pairwise_cons.1 hA;rw[List.flatMap_cons];refine List.pairwise_append.2 ⟨?_,ih h2,?_⟩
  ·rw[List.pairwise_map];exact List.Pairwise.imp (fun {a b} (h:a<b)=>(zCU (p.1,a) (p.1,b)).2 (.inr ⟨rfl,h⟩)) (hT p.2)
  ·intro a ha b hb;obtain⟨u,_,rfl⟩:=List.mem_map.1 ha;obtain⟨q,hq,hb⟩:=List.mem_flatMap.1 hb;obtain⟨w,_,rfl⟩:=List.mem_map.1 hb;exact (zCU _ _).2 (.inl (h1 q hq))
def zJL(cl:List Int)(N:Nat):zCq (zB7 cl N):=by
 refine zNv ?_ (zHx _);rw[List.pairwise_map];exact (zHx _).imp fun {a b} h=>h
def zrP:(zn B29 [1,1,1,0,0] 3).op=.slice 47 (.tmp 29) (some (.tmp 31)) none none:=by kernel_rfl
def zrO:(zn B29 [1,1,1,1,1,0,0] 3).op=.slice 47 (.tmp 50) none (some (.tmp 52)) none:=by kernel_rfl
def zoI{b o n c i:Nat}(hn:n<=c)(hc:c<UNK)(hi:i<=n):ze E (zk [(29,.slice (some ⟨b,o,none⟩) n c),(31,iI (i:Int))]) (zn B29 [1,1,1,0,0] 3)=some (loV b o n c i):=zVl zrP (by kernel_rfl) (by kernel_rfl) hn hc hi
def zoH{b o n c i:Nat}(hn:n<=c)(hc:c<UNK)(hi:i<=n):ze E (zk [(50,.slice (some ⟨b,o,none⟩) n c),(52,iI (i:Int))]) (zn B29 [1,1,1,1,1,0,0] 3)=some (hiV b o c i):=zVm zrO (by kernel_rfl) (by kernel_rfl) hn hc hi
def zoU{k:AH}{x y:Value}{b o n c:Nat}{L M:GL}{kind:Int}{cl:List Int}(aa:k.ok)(hx:RL k x L)(hy:RL k y M)(hL:zx L=false)(hM:zx M=false)(hk:kind=1\/kind=2)(hc:Arr k 1 (.slice (some ⟨b,o,none⟩) n c) (cl.map i1))(aA:n<=c)(hU:c<UNK)(hn:(cl.length:Int)=L.n+M.n)(hl:∀ c∈cl,0<=c/\c<=40000)(fL:zQc L)(fM:zQc M)(ah:zB7 cl L.n.toNat≠[]) :
  Ev true ((zV E).call 29 [iI kind,x,y,.slice (some ⟨b,o,none⟩) n c] k) fun z=>Made NoB k kind (zB7 cl L.n.toNat) z.1 z.2:=by
 obtain⟨l1,l2,_⟩:=zAV hL;obtain⟨m1,m2,_⟩:=zAV hM;have h60:=fL.1;have h61:=fM.1;obtain⟨ca,cc,bI⟩:=hc.slice;simp only[List.length_map,Value.slice.injEq] at bI;obtain⟨_,jg,_⟩:=bI;obtain⟨N,hN⟩:=Int.eq_ofNat_of_zero_le (show 0<=L.n by omega);have j8:L.n.toNat=N:=by omega
 rw[j8] at ah ⊢;have fQ:N<=n:=by omega
 obtain⟨vl,ve,elsL,rfl,x2,x3,x4⟩:=id hx.ex;obtain⟨wl,we,elsM,rfl,y2,y3,y4⟩:=id hy.ex;refine zhY (Rp:=fun v m=>Made NoB k kind (zB7 cl N) v m) (zgx ?_);obtain⟨k1,e1,n1,t1,o1,f1⟩:=nwF k (rO [iI L.n,vl,ve] 25);obtain⟨k2,e2,n2,t2,o2,f2⟩:=nw o1 (rO [iI M.n,wl,we] 25);obtain⟨k3,e3,n3,t3,o3,f3⟩:=nw o2 (rO [iI 0,.slice none 0 0] 32);rw[n1] at t2;rw[n2,n1] at t3;have g0:k3.get k.qa=some (rO [iI L.n,vl,ve] 25):=(f3 _ (by omega)).trans ((f2 _ (by omega)).trans t1);have g1:k3.get (k.qa+1)=some (rO [iI M.n,wl,we] 25):=(f3 _ (by omega)).trans t2;simp only[zqk,zd,zL,zX,zA,za,e1,n1,e2,n2,e3];refine zgw ?_;have la:zH E 25 k3 (sP k.qa 0)=some (.agg ⟨[iI L.n,vl,ve]⟩):=zZ (P:=E) zDh (o:=0) g0 (by simp);have lb:zH E 25 k3 (some (.pointer (some ⟨k.qa+1,0,none⟩)))=some (.agg ⟨[iI M.n,wl,we]⟩):=zZ (P:=E) zDh (o:=0) g1 (by simp);have c89:=zi4 (k:=k3) o3.ext.ok (hx.ext o3.ext) (hy.ext o3.ext) hL hM hk (hc.ext o3.ext) hn hl;simp only[la,lb,zA,zS,c89,zO];refine zgv ?_;simp only[zA1,zA,decide_true,xAL,zi];refine zgu ?_;obtain⟨kM,e4,n4,t4,o4,f4⟩:=nw o3 (.map [] 0);simp only[zL,e4];refine zgt ?_;have hm:k3.qa<kM.qa:=by omega
 have gN:∀ h,Fx (fun c=>c=k3.qa) kM h->zH E 3 h (sP k.qa (0+0))=some (iI (N:Int)):=fun h f=>by
  rw[← hN];exact zF (P:=E) zAa (o:=0+0) ((f.get _ (by omega) (by omega)).trans ((f4 _ (by omega)).trans g0))
 have exK:∀ h,Fx (fun c=>c=k3.qa) kM h->Ext k h:=fun h f=>f.ext o4.ext fun c hc=>by have:c=k3.qa:=hc;have:=o3.ext.qa;omega
 have alo:=zik hc aA fQ;have ahi:=ziq hc fQ aA;rw[← List.map_drop] at alo;rw[← List.map_take] at ahi;have dl:(cl.drop N).length=n-N:=by rw[List.length_drop];omega
 have tl:(cl.take N).length=N:=by rw[List.length_take];omega
 have hB:∀ q,(toL (zDk (cl.drop N)) q).length<=60:=fun q=>by
  have:=zT8 (zDk (cl.drop N)) q;rw[zFq,dl] at this;omega
 simp only[zA3,gN kM (Fx.refl o4.ext.ok),zA,zoI aA hU fQ,zU9];generalize hK:(KR E [.cell 8 32,.tmp 9] fun x m=>(zg x=false\/m.wm<k.qa)/\(fun v m=>Made NoB k kind (zB7 cl N) v m) x ⟨m.t,m.qa,cond (Nat.ble k.wm m.wm) k.wm m.wm⟩)=K;have second:∀ hE,Fx (fun c=>c=k3.qa) kM hE->MI kM.qa hE k3.qa (toL (zDk (cl.drop N)))->PI (C29 true) K 10 [iI kind,.slice (some ⟨b,o,none⟩) n c,ptr k.qa,ptr (k.qa+2),.map (some k3.qa)] hE:=by
  intro hE fE IE;refine zXp ?_;have nE:=fE.qa;obtain⟨kL,e5,f5,g5,n5⟩:∃ kL,(hE.new (rO [iI 0,.slice none 0 0] 32)).upd hE.qa (some (rO [iI kind,.slice none 0 0] 32))=kL/\Fx NoB hE kL/\kL.get hE.qa=some (rO [iI kind,.slice none 0 0] 32)/\kL.qa=hE.qa+1:=
   ⟨_,rfl,((Fx.refl fE.ok).new _).upd (.inr (xAF _)) _,zN _ _ _,rfl⟩
  have bK:=zlq (m:=hE.new (rO [iI 0,.slice none 0 0] 32)) (b:=hE.qa) (a:=kind) (v:=.slice none 0 0) (zI hE _) rfl rfl;rw[e5] at bK;simp only[zrM,zA,zqk,zd,zL,zX,bK];refine zXo ?_;have fL':Fx (fun c=>c=k3.qa) kM kL:=fE.trans f5 fun c hc=>hc.elim;simp only[zA3,gN kL fL',zA,zoH aA hU fQ,zRE];have eX:∀ h,Fx (fun c=>c=hE.qa) kL h->Ext hE h:=fun h f=>⟨f.ok,by have:=f.qa;omega,fun c hc=>(f.get c (by omega) (by omega)).trans (f5.get c hc (fun h=>h))⟩;have hA:((zDk (cl.take N)).map zBr).length=N:=by rw[List.length_map,zFq,tl]
  have jt:∀ i,i<N->∃ a,(cl.take N)[i]?=some a/\((zDk (cl.take N)).map zBr).take (i+1)=((zDk (cl.take N)).map zBr).take i++[((i:Int),a)]:=by
   intro i hi;have h1:(cl.take N)[i]?=some (cl.take N)[i]:=xAA (by omega);refine⟨_,h1,?_⟩;rw[List.take_add_one,List.getElem?_map,zEv,h1];rfl
  have fin:∀ h w,Fx (fun c=>c=hE.qa) kL h->h.get hE.qa=some (rO [iI kind,w] 32)->Ac kL.qa h w (zB7 cl N)->PI (C29 true) K 22 [ptr (k.qa+2),ptr hE.qa] h:=by
   intro h w f g A;refine zXg ?_;obtain⟨bb,rfl,b1,b2,b3⟩:=A.ne ah;have nh:=f.qa;have l32:zH E 32 h (sP hE.qa 0)=some (.agg ⟨[iI kind,sl bb (zB7 cl N).length (UNK+2)]⟩):=zZ (P:=E) zQl (o:=0) g (by simp);have gR:h.get (k.qa+2)=some (rO [iI 0,.slice none 0 0] 32):=(f.get _ (by omega) (by omega)).trans ((f5.get _ (by omega) (fun h=>h)).trans ((fE.get _ (by omega) (by omega)).trans ((f4 _ (by omega)).trans t3)));have s2:=zlq (a:=kind) (v:=sl bb (zB7 cl N).length (UNK+2)) gR rfl rfl;simp only[l32,zA,s2,zL];have fk:Fx NoB k.qb h:=((zir o4).trans fL' fun c hc=>.inr (by have:c=k3.qa:=hc;have e':k.qb.qa=k.qa:=rfl;have:=o3.ext.qa;omega)).trans f fun c hc=>.inr (by have:c=hE.qa:=hc;have e':k.qb.qa=k.qa:=rfl;have:=o4.ext.qa;omega);have fo:=fk.upd (b:=k.qa+2) (.inr (by show k.qa<=k.qa+2;omega)) (some (rO [iI kind,sl bb (zB7 cl N).length (UNK+2)] 32));have A':=A.arr.upd (c:=k.qa+2) (by have:=o4.ext.qa;omega) (some (rO [iI kind,sl bb (zB7 cl N).length (UNK+2)] 32));have gu:=zN h (k.qa+2) (some (rO [iI kind,sl bb (zB7 cl N).length (UNK+2)] 32));generalize h.upd (k.qa+2) (some (rO [iI kind,sl bb (zB7 cl N).length (UNK+2)] 32))=hh at fo A' gu;rw[← hK,zrZ];have lv:zE2 E 32 (ptr (k.qa+2)) hh=some (.agg ⟨[iI kind,sl bb (zB7 cl N).length (UNK+2)]⟩):=zZ (P:=E) zQl (o:=0) gu (by simp);simp only[lv,zA];exact⟨zU ▸ trivial,.inl rfl,bb,rfl,.inr (by have:=o4.ext.qa;omega),A'.wm _,fo.back⟩
  have lenP:(zB7 cl N).length<=3600:=by
   have:=zeh (A:=(zDk (cl.take N)).map zBr) hB;rw[hA] at this;unfold zB7;have:N*60<=60*60:=Nat.mul_le_mul_right _ (by omega);omega
  have loop2:∀ mm i,i+mm=N->∀ h w,Fx (fun c=>c=hE.qa) kL h->h.get hE.qa=some (rO [iI kind,w] 32)->Ac kL.qa h w (zJM (((zDk (cl.take N)).map zBr).take i) (zDk (cl.drop N)))->
    PI (C29 true) K 12 [ptr (k.qa+2),.map (some k3.qa),ptr hE.qa,hiV b o c N,iI (N:Int),iI (i:Int)] h:=by
   intro mm
   induction mm with
   | zero=>
    intro i hi h w f g A;have hi:i=N:=by omega
    subst hi;refine zMY ?_;simp only[zY,zA,show decide ((i:Int)<(i:Int))=false from xAI (by omega),zi];rw[xAD (by omega)] at A;exact fin h w f g A
   | succ mm ih=>
    intro i hi h w f g A;have ai:i<N:=by omega
    refine zMY ?_;simp only[zY,zA,show decide ((i:Int)<(N:Int))=true from xAJ (by omega),zy];refine zXn ?_;obtain⟨a,ha,iW⟩:=jt i ai;obtain⟨p,q1,q2⟩:=zHF ahi (((exK hE fE)).trans (eX h f)) ha;simp only[q1,q2,zA];refine zXm ?_;obtain⟨wv,I1,I2⟩:=IE.look a;obtain⟨wa,wc,hw⟩:=I1.slice;have gm:∀ h,Fx (fun c=>c=hE.qa) kL h->h.get k3.qa=hE.get k3.qa:=fun h f=>(eX h f).get _ (by omega);simp only[I2 h (gm h f),zA];rw[hw];simp only[zRD,zA];rw[← hw];have hpre:=zeg (A:=(zDk (cl.take N)).map zBr) (B:=zDk (cl.drop N)) (i+1);rw[iW,zPQ,List.length_append,List.length_map] at hpre
    dsimp only at hpre
    have hpr:(zJM ((zDk (cl.take N)).map zBr) (zDk (cl.drop N))).length<=3600:=lenP;have inner:∀ mj j,j+mj=(toL (zDk (cl.drop N)) a).length->∀ h w,Fx (fun c=>c=hE.qa) kL h->h.get hE.qa=some (rO [iI kind,w] 32)->Ac kL.qa h w (zJM (((zDk (cl.take N)).map zBr).take i) (zDk (cl.drop N))++((toL (zDk (cl.drop N)) a).take j).map fun u=>((i:Int),u))->
      PI (C29 true) K 15 [ptr (k.qa+2),.map (some k3.qa),ptr hE.qa,iI (i:Int),hiV b o c N,iI (N:Int),iI (i:Int),wv,iI ((toL (zDk (cl.drop N)) a).length:Int),iI (j:Int)] h:=by
     intro mj
     induction mj with
     | zero=>
      intro j hj h w f g A;have hj:j=(toL (zDk (cl.drop N)) a).length:=by omega
      subst hj;rw[List.take_length] at A;refine zMX ?_;simp only[zY,zA,show decide (((toL (zDk (cl.drop N)) a).length:Int)<((toL (zDk (cl.drop N)) a).length:Int))=false from xAI (by omega),zi];refine zXh ?_;simp only[zA,zAK _ (zDu ai (by omega))];refine ih (i+1) (by omega) h w f g ?_;rw[iW,zPQ];exact A
     | succ mj ihj=>
      intro j hj h w f g A;have bM:j<(toL (zDk (cl.drop N)) a).length:=by omega
      refine zMX ?_;simp only[zY,zA,show decide ((j:Int)<((toL (zDk (cl.drop N)) a).length:Int))=true from xAJ (by omega),zy];refine zXl ?_;obtain⟨pw,r1,r2⟩:=zHF (I1.arr) (eX h f) (xAA bM);simp only[r1,r2,zA];refine zXk ?_;have hbd:(zJM (((zDk (cl.take N)).map zBr).take i) (zDk (cl.drop N))++((toL (zDk (cl.drop N)) a).take j).map fun u=>((i:Int),u)).length+1<=200000:=by
       rw[List.length_append,List.length_map,List.length_take];omega
      have nh:=f.qa;obtain⟨h2,w',s1,A2,fx2,bz⟩:=A.app f.ok nh (by omega) ((i:Int),(toL (zDk (cl.drop N)) a)[j]);have lw:zH E 26 h (sP hE.qa (0+1))=some w:=zF (P:=E) zT9 (o:=0+1) g;have g2:=(fx2.get hE.qa (by omega) fun hc=>by have:=A.blk _ hc;omega).trans g;obtain⟨lf,cf,_⟩:=A2.leaf;have af:=zAC (P:=E) zq9 (o:=0+1) (x:=w') (cs:=[w']) g2 cf rfl (by simp) (by simp[lf]);have g3:=zN h2 hE.qa (some (.row (lput [iI kind,w] (0+1) [w']) 32 0 false));have f3:Fx (fun c=>c=hE.qa) kL (h2.upd hE.qa (some (.row (lput [iI kind,w] (0+1) [w']) 32 0 false))):=(f.trans fx2 fun c hc=>.inr (A.blk c hc)).upd (.inl rfl) _;have A3:Ac kL.qa (h2.upd hE.qa (some (.row (lput [iI kind,w] (0+1) [w']) 32 0 false))) w' _:=A2.fx (P:=fun c=>c=hE.qa) (Fx.upd (P:=fun c=>c=hE.qa) (Fx.refl fx2.ok) (.inl rfl) _) fun c hc e=>by have:=(bz c hc).1;have:c=hE.qa:=e;omega
      simp only[zGj,lw,zA,pbI,zoa,zL,s1,af];generalize h2.upd hE.qa (some (.row (lput [iI kind,w] (0+1) [w']) 32 0 false))=h3 at g3 f3 A3;have g3':h3.get hE.qa=some (rO [iI kind,w'] 32):=g3;refine zXj ?_;have lw3:zH E 26 h3 (sP hE.qa (0+1))=some w':=zF (P:=E) zT9 (o:=0+1) g3';obtain⟨_,_,wa',wc',cY⟩:=A3.leaf;simp only[zGj,lw3,zA];rw[cY];simp only[zRC,zA,zAO];rw[show decide ((200000:Int)<((zJM (((zDk (cl.take N)).map zBr).take i) (zDk (cl.drop N))++((toL (zDk (cl.drop N)) a).take j).map (fun u=>((i:Int),u))++[((i:Int),(toL (zDk (cl.drop N)) a)[j])]).length:Int))=false from xAI (by rw[List.length_append];simp only[List.length_singleton];omega)];simp only[zi];refine zXi ?_;simp only[zA,zAK _ (zDu bM (by have:=hB a;omega))];refine ihj (j+1) (by omega) h3 w' f3 g3' ?_;rw[List.take_add_one,xAA bM,List.map_append,← List.append_assoc];exact A3
    refine inner _ 0 (xAK _) h w f g ?_;rw[List.take_zero,List.map_nil,List.append_nil];exact A
  exact loop2 N 0 (by omega) kL _ (Fx.refl f5.ok) g5 (.inl ⟨rfl,rfl⟩)
 have loop1:∀ mm i,i+mm=n-N->∀ h,Fx (fun c=>c=k3.qa) kM h->MI kM.qa h k3.qa (toL ((zDk (cl.drop N)).take i))->
   PI (C29 true) K 6 [iI kind,.slice (some ⟨b,o,none⟩) n c,ptr k.qa,ptr (k.qa+2),.map (some k3.qa),loV b o n c N,iI ((n-N:Nat):Int),iI (i:Int)] h:=by
  intro mm
  induction mm with
  | zero=>
   intro i hi h f I;have hi:i=n-N:=by omega
   subst hi;refine zQY ?_;simp only[zY,zA,show decide (((n-N:Nat):Int)<((n-N:Nat):Int))=false from xAI (by omega),zi];rw[xAD (by rw[zFq,dl];omega)] at I;exact second h f I
  | succ mm ih=>
   intro i hi h f I;have ai:i<(cl.drop N).length:=by omega
   refine zQY ?_;simp only[zY,zA,show decide ((i:Int)<((n-N:Nat):Int))=true from xAJ (by omega),zy];refine zgs ?_;obtain⟨p,q1,q2⟩:=zHF alo (exK h f) (xAA ai);simp only[q1,q2,zA];refine zgr ?_;have hf:=zT8 ((zDk (cl.drop N)).take i) (cl.drop N)[i];rw[List.length_take,zFq,dl] at hf;obtain⟨v,h1,v',h2,r1,r2,r3,r4,r5,r6,r7,r8⟩:=I.add (Fx.refl f.ok) hm f.qa (q:=(cl.drop N)[i]) (u:=(i:Int)) (by omega);simp only[r1 h rfl,zA,zoZ,zL,r4,r5];refine zgq ?_;simp only[zA,zAK _ (zDu (show i<n-N by omega) (by omega))];refine ih (i+1) (by omega) h2 (f.trans r8 fun c hc=>hc) ?_;rw[List.take_add_one,zEv,xAA ai];simp only[Option.map_some,Option.toList_some];rw[zjh];exact r7
 exact loop1 (n-N) 0 (by omega) kM (Fx.refl o4.ext.ok) ⟨[],0,t4,List.nodup_nil,fun q=>.inl ⟨rfl,rfl⟩,fun q q' bb _ hb=>by obtain⟨_,_,e⟩:=hb;cases e⟩
def zFR{cl:List Int}{i:Nat}{c:Int}(h:cl[i]?=some c):zBU cl (i:Int)=c:=by
 unfold zBU;rw[show ((i:Int)).toNat=i from rfl,h];rfl
def zmj(cl:List Int)(N:Nat)(i:Nat):Prop:=∀ j,j<i->∀ c,cl[j]?=some c->(0<=c/\c<=40000)/\(j<N->c∈cl.drop N)/\(N<=j->c∈cl.take N)
def zOh{L M:GL}{kind:Int}{cl:List Int}(hk:kind=1\/kind=2)(hL:zx L=false)(hM:zx M=false)(fL:zQc L)(fM:zQc M)(hn:(cl.length:Int)=L.n+M.n)(hB:zmj cl L.n.toNat cl.length) :
  zB7 cl L.n.toNat≠[]/\(zB7 cl L.n.toNat).length<=200000/\((zIV (SSW L M (zLC L M)) cl kind cl.length/\zBU cl 0=zBU cl L.n) ↔ zGA L M ⟨kind,zB7 cl L.n.toNat⟩=0):=by
 obtain⟨l1,l2,_⟩:=zAV hL;obtain⟨m1,m2,_⟩:=zAV hM;have h60:=fL.1;have h61:=fM.1;obtain⟨N,hN⟩:=Int.eq_ofNat_of_zero_le (show 0<=L.n by omega);have j8:L.n.toNat=N:=by omega
 rw[j8] at hB ⊢;have hR:∀ s t,(s,t)∈zB7 cl N ↔ (0<=s/\s<L.n)/\(0<=t/\t<M.n)/\zBU cl s=zBU cl (L.n+t):=by
  intro s t;rw[zUe];constructor
  ·rintro⟨h1,h2,c,h3,h4⟩;have h5:=(List.getElem?_eq_some_iff.1 h4).1;have a:=zFR h3;have b:=zFR h4;rw[show ((s.toNat:Nat):Int)=s by omega] at a;rw[show ((N+t.toNat:Nat):Int)=L.n+t by omega] at b;exact⟨by omega,by omega,a.trans b.symm⟩
  ·rintro⟨h1,h2,h3⟩;have i1:s.toNat<cl.length:=by omega
   have i2:N+t.toNat<cl.length:=by omega
   have a:=zFR (xAA i1);have b:=zFR (xAA i2);rw[show ((s.toNat:Nat):Int)=s by omega] at a;rw[show ((N+t.toNat:Nat):Int)=L.n+t by omega] at b;exact⟨by omega,by omega,_,xAA i1,by rw[xAA i2];congr 1;omega⟩
 have hr:InR L M (zB7 cl N):=fun p hp=>by
  have:=(hR p.1 p.2).1 hp;exact⟨this.1,this.2.1⟩
 have hlen:(zB7 cl N).length<=200000:=by
  have:=zQm (N:=L.n.toNat) (M:=M.n.toNat) (zJL cl N) fun p hp=>by have:=hr p hp;omega
  have:L.n.toNat*M.n.toNat<=60*60:=Nat.mul_le_mul (by omega) (by omega);omega
 have hp:∀ u,0<=u->u<L.n+M.n->∃ v,(0<=v/\v<L.n+M.n)/\decide (v<L.n)≠decide (u<L.n)/\zBU cl v=zBU cl u:=by
  intro u h0 h1;have iu:u.toNat<cl.length:=by omega
  have hu:=xAA iu;have a:=zFR hu;rw[show ((u.toNat:Nat):Int)=u by omega] at a;obtain⟨_,h2,h3⟩:=hB u.toNat iu _ hu;by_cases h:u<L.n
  ·obtain⟨j,hj⟩:=List.getElem?_of_mem (h2 (by omega));rw[List.getElem?_drop] at hj;have jn:=(List.getElem?_eq_some_iff.1 hj).1;have b:=zFR hj;exact⟨((N+j:Nat):Int),by omega,by rw[xAJ h,xAI (by omega)];decide,b.trans a.symm⟩
  ·obtain⟨j,hj⟩:=List.getElem?_of_mem (h3 (by omega));rw[List.getElem?_take] at hj;split at hj
   ·have jn:=(List.getElem?_eq_some_iff.1 hj).1;have b:=zFR hj;exact⟨(j:Int),by omega,by rw[xAI h,xAJ (by omega)];decide,b.trans a.symm⟩
   ·cases hj
 obtain⟨c1,c2,c3'⟩:=zOc L M;have law:=zVu (kind:=kind) hL hM (cl:=zBU cl) c1 c2 c3' hR hp;refine⟨fun e=>?_,hlen,?_⟩
 ·have i0:0<cl.length:=by omega
  have h0:=xAA i0;obtain⟨_,h2,_⟩:=hB 0 i0 _ h0;obtain⟨j,hj⟩:=List.getElem?_of_mem (h2 (by omega));rw[List.getElem?_drop] at hj;have:=(zUe (cl:=cl) (N:=N) (s:=0) (t:=(j:Int))).2 ⟨by omega,by omega,_,h0,by simpa using hj⟩;rw[e] at this;cases this
 ·have hck:zGA L M ⟨kind,zB7 cl N⟩=0 ↔ zTn L M ⟨kind,zB7 cl N⟩=true:=by
   unfold zGA;rw[hL,hM,if_neg (by decide),zkM hk hlen (fun p hp=>⟨(hr p hp).1.1,(hr p hp).2.1⟩) (zJL cl N),if_neg (by decide)];cases zTn L M ⟨kind,zB7 cl N⟩ <;> simp
  rw[hck,zj0 hL hM hr,law];have e9:zBU cl 0=zBU cl L.n ↔ ((0:Int),(0:Int))∈zB7 cl N:=by
   rw[hR];simp only[Int.add_zero];exact⟨fun h=>⟨by omega,by omega,h⟩,fun h=>h.2.2⟩
  rw[← e9];constructor
  ·rintro⟨h1,h2⟩;refine⟨h2,fun u v hu hv hc n k=>?_⟩;have:=(h1 u.toNat v.toNat (by omega) (by omega) (by rw[show ((u.toNat:Nat):Int)=u by omega,show ((v.toNat:Nat):Int)=v by omega];exact hc) n k).1;rw[show ((u.toNat:Nat):Int)=u by omega,show ((v.toNat:Nat):Int)=v by omega] at this;exact this
  ·rintro⟨h2,h1⟩;exact⟨fun s s' hs aQ hc n k=>⟨h1 s s' (by omega) (by omega) hc n k,h1 s' s (by omega) (by omega) hc.symm n k⟩,h2⟩
abbrev K6(k:AH):KF:=KR E [.tmp 8] fun x l=>x=.bool true/\k.qa<=l.wm
def op6a:(zn B6 [1,1,1,0,1,0,0,1,1,0,0,1,0] 15).op=.slice 47 (.tmp 67) (some (.tmp 69)) none none:=by kernel_rfl
def op6b:(zn B6 [1,1,1,0,1,0,0,1,1,0,0,1,0] 30).op=.slice 47 (.tmp 82) none (some (.tmp 84)) none:=by kernel_rfl
def zr0{b o n c i:Nat}(hn:n<=c)(hc:c<UNK)(hi:i<=n):ze E (zk [(67,.slice (some ⟨b,o,none⟩) n c),(69,iI (i:Int))]) (zn B6 [1,1,1,0,1,0,0,1,1,0,0,1,0] 15)=some (loV b o n c i):=zVl op6a (by kernel_rfl) (by kernel_rfl) hn hc hi
def zrz{b o n c i:Nat}(hn:n<=c)(hc:c<UNK)(hi:i<=n):ze E (zk [(82,.slice (some ⟨b,o,none⟩) n c),(84,iI (i:Int))]) (zn B6 [1,1,1,0,1,0,0,1,1,0,0,1,0] 30)=some (hiV b o c i):=zVm op6b (by kernel_rfl) (by kernel_rfl) hn hc hi
def eqb6(a b:Bool):ze E (zk [(107,.bool a),(112,.bool b)]) (zn B6 [1,1,1,1,1,1,0] 11)=some (.bool (a==b)):=by cases a <;> cases b <;> kernel_rfl
def ziO{a:Int}{x y:Option Addr}{n c m d:Nat}:veq 100 (.agg ⟨[iI a,.slice x n c,.slice y m d]⟩) (.agg ⟨[iI a,.slice x n c,.slice y m d]⟩)=true:=by
 show zKP 99 [iI a,.slice x n c,.slice y m d] [iI a,.slice x n c,.slice y m d]=true;simp only[zKP,zDc,zB2,Bool.and_self]
def zm3{a:Int}{x:Option Addr}{n c:Nat}:veq 100 (.agg ⟨[iI a,.slice x n c]⟩) (.agg ⟨[iI a,.slice x n c]⟩)=true:=by
 show zKP 99 [iI a,.slice x n c] [iI a,.slice x n c]=true;simp only[zKP,zDc,zB2,Bool.and_self]
def zr2{k:AH}{x y v:Value}{L M:GL}{kind:Int}{cl:List Int}(aa:k.ok)(hx:RL k x L)(hy:RL k y M)(hc:Arr k 1 v (cl.map i1))(aA:∃ ad n c,v=.slice ad n c/\n<=c/\c<UNK) :
  (zV E).call 6 [iI kind,x,y,v] k=some [(.bool true,k)]:=by
 obtain⟨vl,ve,elsL,rfl,x2,x3,x4⟩:=id hx.ex;obtain⟨wl,we,elsM,rfl,y2,y3,y4⟩:=id hy.ex;obtain⟨a1,c1,a9⟩:=x2.slice;obtain⟨a2,c2,dm⟩:=x4.slice;obtain⟨b1,d1,iC⟩:=y2.slice;obtain⟨b2,d2,hw2⟩:=y4.slice;refine zmS (s:=true) aa rfl (zl7 ?_);obtain⟨k1,e1,n1,t1,o1,f1⟩:=nwF k (rO [iI L.n,vl,ve] 25);obtain⟨k2,e2,n2,t2,o2,f2⟩:=nw o1 (rO [iI M.n,wl,we] 25);rw[n1] at t2;have g0:k2.get k.qa=some (rO [iI L.n,vl,ve] 25):=(f2 _ (by omega)).trans t1;simp only[zd,zL,zX,zA,za,e1,n1,e2];refine zl6 ?_;simp only[zS,zoW,zO,zAB,zA,xAL,zi];refine zl5 ?_;obtain⟨k3,e3,n3,t3,o3,f3⟩:=nw o2 (rO [iI L.n,vl,ve,iI M.n,wl,we] 25);have dj:=zoY (a:=iI L.n) (b:=vl) (c:=ve) (a':=iI M.n) (b':=wl) (c':=we) (h:=k2);rw[e3] at dj;have lL:∀ h,Fx NoB k2 h->zH E 25 h (sP k.qa 0)=some (.agg ⟨[iI L.n,vl,ve]⟩):=fun h f=>zZ (P:=E) zDh (o:=0) ((f.get _ (by omega) (fun h=>h)).trans g0) (by simp);have lM:∀ h,Fx NoB k2 h->zH E 25 h (some (.pointer (some ⟨k.qa+1,0,none⟩)))=some (.agg ⟨[iI M.n,wl,we]⟩):=fun h f=>zZ (P:=E) zDh (o:=0) ((f.get _ (by omega) (fun h=>h)).trans t2) (by simp);have nL:∀ h,Fx NoB k2 h->zH E 3 h (sP k.qa (0+0))=some (iI L.n):=fun h f=>zF (P:=E) zAa (o:=0+0) ((f.get _ (by omega) (fun h=>h)).trans g0);have nM:∀ h,Fx NoB k2 h->zH E 3 h (some (.pointer (some ⟨k.qa+1,0+0,none⟩)))=some (iI M.n):=fun h f=>zF (P:=E) zAa (o:=0+0) ((f.get _ (by omega) (fun h=>h)).trans t2);have own:∀ h,Fx NoB k2 h->Own k h:=fun h f=>f.own o2 fun c hc=>hc.elim;have fr:Fx NoB k2 k2:=Fx.refl o2.ext.ok;have fx3:Fx NoB k2 k3:=by rw[← e3];exact fr.new _
 obtain⟨b14,jT,c14⟩:=zlb (k:=k3) (v:=.slice (some ⟨k2.qa,0,none⟩) 2 2) (els:=[[iI L.n,vl,ve],[iI M.n,wl,we]]) (Ls:=[L,M]) o3.ext.ok
  (Arr.row (els:=[[iI L.n,vl,ve],[iI M.n,wl,we]]) t3 (by omega) (by simp) (fun i ee aP=>by
   match i with
   | 0=>simp at aP;subst aP;exact⟨rfl,rfl⟩
   | 1=>simp at aP;subst aP;exact⟨rfl,rfl⟩
   | i+2=>simp at aP)) rfl (by simp) (fun i ee LL h1 h2=>by
   match i with
   | 0=>simp at h1 h2;subst h1 h2;exact hx.ext o3.ext
   | 1=>simp at h1 h2;subst h1 h2;exact hy.ext o3.ext
   | i+2=>simp at h1)
 have ret4:∀ h,Fx NoB k2 h->PI (C6 true) (K6 k) 4 [] h:=fun h f=>zl4 (by simp only[K6,zAS,zU,true_and];exact (own h f).wm);have ret9:∀ h,Fx NoB k2 h->PI (C6 true) (K6 k) 9 [] h:=fun h f=>zl0 (by simp only[K6,zAS,zU,true_and];exact (own h f).wm);have tf:(true==false)=false:=rfl;have ft:(false==true)=false:=rfl;obtain⟨ad,n,c,rfl,g9,hU⟩:=aA;simp only[lL k2 fr,lM k2 fr,zA,dj,zL,zS,c14,zO,zAB];cases b14 with
 | false=>
  simp only[xAM,zM,zR,tf,xAH,zA,zL,zJ,xAG,zy];exact ret4 k3 fx3
 | true=>
 have fewL:=jT rfl 0 L rfl;have fewM:=jT rfl 1 M rfl;obtain⟨r1,iE,c23⟩:=zi7 (k:=k3) o3.ext.ok (hx.ext o3.ext);obtain⟨r2,gX,c23'⟩:=zi7 (k:=k3) o3.ext.ok (hy.ext o3.ext);simp only[xAL,zM,zR,xAO,xAG,lL k3 fx3,zA,c23,zO,zA1,zJ,xAH];by_cases z1:r1=0
 case neg=>
  simp only[z1,decide_false,xAM,zM,zR,tf,xAH,zA,zL,zJ,xAG,zy];exact ret4 k3 fx3
 simp only[z1,decide_true,xAL,zM,zR,xAO,xAG,lM k3 fx3,zA,c23',zO,zA1,zJ,xAH];by_cases z2:r2=0
 case neg=>
  simp only[z2,decide_false,xAM,zM,zR,tf,xAH,zA,zL,zJ,xAG,zy];exact ret4 k3 fx3
 have hL:=iE z1;have hM:=gX z2;obtain⟨l1,l2,_⟩:=zAV hL;obtain⟨m1,m2,_⟩:=zAV hM;simp only[z2,decide_true,xAL,zM,zR,xAO,xAG,zA,zA1,zJ,xAH];by_cases hk:kind=1\/kind=2
 case neg=>
  have z3:kind≠1:=fun e=>hk (.inl e);have z4:kind≠2:=fun e=>hk (.inr e);simp only[z3,decide_false,xAM,zM,zR,tf,xAO,xAH,zA,zL,zJ,xAG,zA1];simp only[z4,decide_false,xAM,zM,zR,tf,xAO,xAH,zA,zL,zJ,xAG,zy];exact ret4 k3 fx3
 have ai:zC1 (L.n+M.n):=⟨by omega,by omega⟩;have main:(cl.length:Int)=L.n+M.n->PI (C6 true) (K6 k) 5 [iI kind,.slice ad n c,ptr k.qa,ptr (k.qa+1)] k3:=by
  intro hn;obtain⟨ca,cc,bI⟩:=hc.slice;simp only[List.length_map,Value.slice.injEq] at bI;obtain⟨_,jg,_⟩:=bI;obtain⟨b,o,rfl⟩:∃ b o,ad=some ⟨b,o,none⟩:=by
   have h0:(cl.map i1)[0]?=some (i1 cl[0]):=by rw[List.getElem?_map,xAA (by omega)];rfl
   obtain⟨b,o,c',_,_,_,_,e,_⟩:=hc.load h0;simp only[Value.slice.injEq] at e;exact⟨b,o,e.1⟩
  obtain⟨N,hN⟩:=Int.eq_ofNat_of_zero_le (show 0<=L.n by omega);have j8:L.n.toNat=N:=by omega
  have fQ:N<=n:=by omega
  have alo:=zik hc g9 fQ;have ahi:=ziq hc fQ g9;rw[← List.map_drop] at alo;rw[← List.map_take] at ahi;have nL':∀ h,Fx NoB k2 h->zH E 3 h (sP k.qa (0+0))=some (iI (N:Int)):=fun h f=>by rw[nL h f,hN]
  refine zl3 ?_;simp only[zen,zA];have tail:zmj cl L.n.toNat cl.length->PI (C6 true) (K6 k) 11 [iI kind,.slice (some ⟨b,o,none⟩) n c,ptr k.qa,ptr (k.qa+1)] k3:=by
   intro hB;obtain⟨p1,p2,p3⟩:=zOh hk hL hM fewL fewM hn hB;have hl:∀ c∈cl,0<=c/\c<=40000:=fun c hc=>by
    obtain⟨j,hj⟩:=List.getElem?_of_mem hc;exact (hB j (List.getElem?_eq_some_iff.1 hj).1 c hj).1
   refine zgc ?_;simp only[lL k3 fx3,lM k3 fx3,zA,zS];refine (zoU (k:=k3) o3.ext.ok (hx.ext o3.ext) (hy.ext o3.ext) hL hM hk (hc.ext o3.ext) g9 hU hn hl fewL fewM p1).mono ?_;rintro⟨z,h4⟩ Md;refine zem (G:=fun x7 b _ h1=>PI (C6 true) (K6 k) 12 [iI kind,.slice (some ⟨_,_,none⟩) n c,ptr k.qa,ptr (k.qa+1),b,x7] h1) Md o3.ext.ok ?_;intro h5 w f5 l5 r5;have fx5:Fx NoB k2 h5:=fx3.trans f5 fun c hc=>hc.elim;have o5:=own h5 fx5;refine zgb ?_;simp only[zA1,zA,decide_true,xAL,zi];refine zga ?_;obtain⟨r,hr,c30⟩:=zoT (k:=h5) o5.ext.ok (hx.ext o5.ext) (hy.ext o5.ext) hL hM hk (hc.ext o5.ext) hn hl fewL fewM;have c15:=zoV o5.ext.ok (hx.ext o5.ext) (hy.ext o5.ext) r5;obtain⟨wx,wA⟩:=r5.ex;obtain⟨wv,wA1,wA2⟩:∃ a d,w=.slice a (zB7 cl L.n.toNat).length d:=by
    obtain⟨e,wA⟩:=wA;obtain⟨a,d,e'⟩:=wA.slice;simp only[List.cons.injEq,and_true,true_and] at e;exact⟨a,d,by rw[e,e',List.length_map]⟩
   have vL:veq 100 (.agg ⟨[iI L.n,vl,ve]⟩) (.agg ⟨[iI L.n,vl,ve]⟩)=true:=by rw[a9,dm];exact ziO
   have vM:veq 100 (.agg ⟨[iI M.n,wl,we]⟩) (.agg ⟨[iI M.n,wl,we]⟩)=true:=by rw[iC,hw2];exact ziO
   have vB:veq 100 (.agg ⟨[iI kind,w]⟩) (.agg ⟨[iI kind,w]⟩)=true:=by rw[wA2];exact zm3
   simp only[lL h5 fx5,lM h5 fx5,l5,zA,zS,c30,zO,vL,vM,vB,true_and,zAd,c15,eqb6,K6,zAS,zU];refine⟨?_,o5.wm⟩
   congr 1
   have:decide (r=0)=decide (zGA L M ⟨kind,zB7 cl L.n.toNat⟩=0):=decide_eq_decide.2 (hr.trans p3);rw[this];simp
  have loop:∀ m i,i+m=cl.length->zmj cl L.n.toNat i->PI (C6 true) (K6 k) 6 [iI kind,.slice (some ⟨b,o,none⟩) n c,ptr k.qa,ptr (k.qa+1),.slice (some ⟨b,o,none⟩) n c,iI (n:Int),iI (i:Int)] k3:=by
   intro m
   induction m with
   | zero=>
    intro i hi hB;have hi:i=cl.length:=by omega
    subst hi;refine zXM ?_;simp only[zY,zA,show decide ((cl.length:Int)<(n:Int))=false from xAI (by omega),zi];exact tail hB
   | succ m ih=>
    intro i hi hB;have ii:i<cl.length:=by omega
    refine zXM ?_;simp only[zY,zA,show decide ((i:Int)<(n:Int))=true from xAJ (by omega),zy];refine zl2 ?_;have hci:=xAA ii;obtain⟨p,q1,q2⟩:=zHF hc o3.ext hci;generalize aY:cl[i]=cv at hci q2;simp only[q1,q2,zA];refine zl1 ?_;have next:(0<=cv/\cv<=40000)->((i<N->cv∈cl.drop N)/\(N<=i->cv∈cl.take N))->PI (C6 true) (K6 k) 10 [iI kind,.slice (some ⟨b,o,none⟩) n c,ptr k.qa,ptr (k.qa+1),.slice (some ⟨b,o,none⟩) n c,iI (n:Int),iI (i:Int)] k3:=by
     intro h1 h2;refine zgd ?_;simp only[zA,zAK _ (zDu (show i<n by omega) (by omega))];refine ih (i+1) (by omega) fun j hj d hd=>?_;rcases Nat.lt_succ_iff_lt_or_eq.1 hj with h|h
     ·exact hB j h d hd
     ·subst h;rw[hci] at hd;cases hd;rw[j8];exact⟨h1,h2⟩
    simp only[zY,zAO,zA];by_cases z5:cv<0
    ·simp only[z5,decide_true,zM,zR,zw,zz,tf,xAH,zA,zL,zJ,xAG,zy];exact ret9 k3 fx3
    simp only[z5,decide_false,zM,zR,xAO,xAG,zA,zAO,zJ,xAH];by_cases z6:40000<cv
    ·simp only[z6,decide_true,zM,zR,zw,zz,tf,xAH,zA,zL,zJ,xAG,zy];exact ret9 k3 fx3
    simp only[z6,decide_false,zM,zR,xAO,xAG,zA,zA3,nL' k3 fx3,zY,zJ,xAH];by_cases z7:(i:Int)<(N:Int)
    ·have c27:=zi6 (x:=cv) alo (by rw[List.length_drop];omega) o3.ext;simp only[z7,decide_true,zM,zR,xAO,xAG,zA,zA3,nL' k3 fx3,zr0 g9 hU fQ,zS,c27,zO,zAB,zJ,xAH];by_cases z8:cv∈cl.drop N
     ·simp only[z8,decide_true,xAL,zM,zR,xAO,xAG,zA,zA3,nL' k3 fx3,zAZ,show decide ((N:Int)<=(i:Int))=false from xAI (by omega),ft,xAH,zL,zJ,zi];exact next (by omega) ⟨fun _=>z8,fun h=>by omega⟩
     ·simp only[z8,decide_false,xAM,zM,zR,zw,zz,tf,xAH,zA,zL,zJ,xAG,zy];exact ret9 k3 fx3
    ·have c27:=zi6 (x:=cv) ahi (by rw[List.length_take];omega) o3.ext;simp only[z7,decide_false,zM,zR,ft,xAO,xAG,xAH,zA,zL,zJ,zA3,nL' k3 fx3,zAZ,show decide ((N:Int)<=(i:Int))=true from xAJ (by omega),zrz g9 hU fQ,zS,c27,zO,zAB];by_cases z8:cv∈cl.take N
     ·simp only[z8,decide_true,xAL,zi];exact next (by omega) ⟨fun h=>by omega,fun _=>z8⟩
     ·simp only[z8,decide_false,xAM,zy];exact ret9 k3 fx3
  exact loop cl.length 0 (by omega) fun j hj=>by omega
 obtain⟨ca,cc,bI⟩:=hc.slice;simp only[List.length_map,Value.slice.injEq] at bI;obtain⟨_,jg,_⟩:=bI;have ge:(!decide (kind=1))=true->decide (kind=2)=true:=by rcases hk with rfl|rfl <;> simp
 by_cases z3:kind=1
 ·simp only[z3,decide_true,xAL,zM,zR,ft,xAO,xAG,xAH,zA,zL,zJ,zLr,zA3,nL k3 fx3,nM k3 fx3,zAK _ ai,zA1,zHH];rw[← z3];exact⟨fun _=>ret4 k3 fx3,fun e=>main (by omega)⟩
 ·have z4:kind=2:=hk.resolve_left z3;simp only[z3,decide_false,xAM,zM,zR,xAO,xAG,xAH,zA,zL,zJ,zA1];simp only[z4,decide_true,xAL,zM,zR,xAO,xAG,xAH,zA,zL,zJ,zLr,zA3,nL k3 fx3,nM k3 fx3,zAK _ ai,zA1,zHH];rw[← z4];exact⟨fun _=>ret4 k3 fx3,fun e=>main (by omega)⟩
end Go.Proofs
