import Derived.Sort.AssemblyPlain
import Derived.Laws.Bits64
import Derived.Test.YthmnhjcmefjgjaaGreatDoorXAF
import Derived.Test.YthmnhjcmefjgjaaGreatDoorXAD
import Derived.Test.YthmnhjcmefjgjaaGreatDoorXAE
set_option linter.all false
set_option linter.unusedSectionVars false
set_option autoImplicit true
set_option relaxedAutoImplicit true
set_option maxRecDepth 100000
set_option maxHeartbeats 1000000
noncomputable section
namespace Go.Proofs
open Go Go.AM
def zGc(R:List Int):List (Value×Value):=R.map λ p=>(iI p,.bool true)
def zsT:zMs E 273=some (3,4):=by kernel_rfl
def zXP(p q:Int):zCJ E 3 (iI p) (iI q)=some (decide (p=q)):=by
 simp only[zCJ,u3];have hk:keq .i64 .i64=true:=rfl;simp only[hk,xAG,zEL];by_cases h:p=q <;> simp[h]
def zHX(p:Int):zEn E 3 (iI p)=true:=by
 simp only[zEn,u3]
def zpI:∀ {R:List Int},R.Nodup->∀ q:Int,zAe E 3 (iI q) (zGc R)=some (if q∈R then some (.bool true) else none)
 | [],_,q=>by simp[zGc,zAe]
 | p::R,h,q=>by
  obtain⟨h1,h2⟩:=xCV.1 h;have ih:=zpI h2 q;simp only[zGc,xCi,zAe] at ih ⊢;rw[zXP,ih];by_cases e:q=p
  ·subst e;simp[h1]
  ·simp[e]
def zG0{h:AH}{m ver:Nat}{R:List Int}(hm:h.get m=some (.map (zGc R) ver))(hR:R.Nodup)(q:Int) :
  zAy E 273 false (some (.map (some m))) (some (iI q)) h=some (.bool (decide (q∈R))):=by
 simp only[zAy,zFm,zsT,zEA,hm,zHX,xAG,zpI hR];by_cases e:q∈R
 ·simp[e,zEt,okV]
 ·simp[e,zEt,z4,okV]
def zF1(q:Int):List Int->List Int
 | []=>[q]
 | p::R=>if klt (iI q) (iI p) then q::p::R else p::zF1 q R
def zRM(q:Int):∀ R:List Int,zBC (iI q) (.bool true) (zGc R)=zGc (zF1 q R)
 | []=>rfl
 | p::R=>by
  have:=zRM q R;simp only[zGc,xCi,zBC,zF1] at this ⊢;split
  ·rfl
  ·rw[this];rfl
def zH6(q:Int):∀(R:List Int) (x:Int),x∈zF1 q R ↔ x=q\/x∈R
 | [],x=>by simp[zF1]
 | p::R,x=>by
  simp only[zF1];split
  ·simp
  ·simp only[xAQ,zH6 q R];constructor
   ·rintro (h|h|h) <;> simp[h]
   ·rintro (h|h|h) <;> simp[h]
def zG6{q:Int}:∀ {R:List Int},R.Nodup->q ∉ R->(zF1 q R).Nodup
 | [],_,_=>by simp[zF1]
 | p::R,h,hq=>by
  obtain⟨h1,h2⟩:=xCV.1 h;simp only[xAQ,not_or] at hq;simp only[zF1];split
  ·exact xCV.2 ⟨by simp[hq.1,hq.2],h⟩
  ·exact xCV.2 ⟨by rw[zH6];simp[h1];exact λ e=>hq.1 e.symm,zG6 h2 hq.2⟩
def zQh{h:AH}{m ver:Nat}{R:List Int}(hm:h.get m=some (.map (zGc R) ver))(hR:R.Nodup){q:Int}(e:q ∉ R) :
  zu E 273 (some (.map (some m))) (some (iI q)) (some (.bool true)) h=one (undef,h.upd m (some (.map (zGc (zF1 q R)) (ver+1)))):=by
 have cM:zm (iI q)=true:=rfl;simp only[zu,zA8,zsT,hm,zHX,cM,xCm,xAG,zBe,zpI hR,e,xDI,zRM,u1]
def zhD{u:Int}{h:AH}:zg E 47 1 (some [(0,iI u)]) h=one (.slice (some ⟨h.qa,0,none⟩) 1 1,h.new (rO [iI u] 3)):=by kernel_rfl
def zh9:Elt 47 3 1:=zGd znQ zMK zAE (by kernel_rfl)
def zQT{t e z:Nat}(H:Elt t e z){h:AH}{b c:Nat}{vs us:List Value}{ty es:Nat}{ro:Bool}{ty' es':Nat}{ro':Bool}(hb:h.get b=some (.row vs ty' es' ro'))(cO:vs.length=z)
  (hc:h.get c=some (.row us ty es ro)) (hl:us.length=z) :
  zy E .append [t,t] (some [.slice (some ⟨b,0,none⟩) 1 1,.slice (some ⟨c,0,none⟩) 1 1]) h=one (.slice (some ⟨h.qa,0,none⟩) 2 (UNK+z),h.new (.row (vs++us) e z false)):=by
 obtain⟨ti,e1,e2,e3⟩:=H.ti;show v2 (zBD E [t,t] (.slice (some ⟨b,0,none⟩) 1 1) (.slice (some ⟨c,0,none⟩) 1 1) h)=_;simp only[zBD,H.el,H.un,zFb,xAH,e1,zCQ,zBG,hc,e2,Nat.one_mul,zAl,zAo,zAL,xCe];rw[xAD (by omega),hl,xCp];simp only[xDM,e3,xAG,zBj,show Nat.beq 1 0=false from rfl,xAH,hb];simp only[zCs,show Nat.ble UNK 1=false from rfl,show Nat.ble (1+1) 1=false from rfl,xAH,Nat.one_mul,zAl,zAo,zAL,xCe];rw[xAD (by omega),cO,xCp];simp only[xAG,zA2,show Nat.ble (1+1) 1000000=true from rfl,v2]
structure LS(lo:Nat)(k:AH)(v:Value)(L:List Int):Prop where
 ex:∃ b c,v=.slice (some ⟨b,0,none⟩) L.length c/\lo<=b/\b<k.qa/\((c=1/\L.length=1/\k.get b=some (rO (ints L) 3))\/(c=UNK+1/\k.get b=some (.row (ints L) 3 1 false)))
def LS.mono{lo:Nat}{k k':AH}{v:Value}{L:List Int}(h:LS lo k v L)(hn:k.qa<=k'.qa)(hg:∀ b,lo<=b->b<k.qa->zY v b->k'.get b=k.get b):LS lo k' v L:=by
 obtain⟨b,c,e,h1,h2,h3⟩:=h;have:=hg b h1 h2 ⟨_,_,e⟩;exact⟨b,c,e,h1,xAC h2 hn,by rw[this];exact h3⟩
def LS.at{lo:Nat}{k:AH}{v:Value}{L:List Int}(h:LS lo k v L){i:Nat}(hi:i<L.length):∃ x3,zV E 47 (some v) (some (iI (i:Int)))=some x3/\∃ x4,zb E 3 k (some x3)=some x4/\x4=iI L[i]:=by
 obtain⟨b,c,rfl,h1,h2,h3⟩:=h;refine⟨_,zXe hi,?_⟩;have aw:∃ es,k.get b=some (.row (ints L) 3 es false):=by
  rcases h3 with ⟨_,_,h⟩|⟨_,h⟩ <;> exact⟨_,h⟩
 obtain⟨es,aw⟩:=aw;rw[zB (P:=E) zAE aw,zAI,show 0+i*1=i by omega];have:(ints L)[i]?=some (iI L[i]):=by simp[ints,hi]
 exact⟨_,this,rfl⟩
def LS.app{lo:Nat}{k:AH}{v:Value}{L:List Int}(h:LS lo k v L)(hL:L.length<=999999){u:Int}{c0:Nat}{ty es:Nat}{ro:Bool}(hc:k.get c0=some (.row [iI u] ty es ro)) :
  ∃ v' k1,zy E .append [47,47] (some [v,.slice (some ⟨c0,0,none⟩) 1 1]) k=one (v',k1)/\v'=.slice (some ⟨k.qa,0,none⟩) (L.length+1) (UNK+1)/\k1.qa=k.qa+1/\k1.get k.qa=some (.row (ints (L++[u])) 3 1 false) ∧
   (∀ b,b<k.qa->¬ zY v b->k1.get b=k.get b)/\(k.ok->k1.ok)/\k1.wm<=k.wm/\∀ w,w<=k.wm->w<=lo->w<=k1.wm:=by
 obtain⟨b,c,rfl,h1,h2,h3⟩:=h;have iA:ints L++[iI u]=ints (L++[u]):=by simp[ints]
 rcases h3 with ⟨rfl,dQ,hb⟩|⟨rfl,hb⟩
 ·refine⟨_,k.new (.row (ints L++[iI u]) 3 1 false),by rw[dQ];exact zQT zh9 hb (by simpa[ints] using dQ) hc rfl,by rw[dQ],rfl,?_,?_,?_,xAF _,?_⟩
  ·rw[← iA];exact zD _ _
  ·intro b' ar _;exact zG (by omega)
  ·intro aa;exact zBb aa _
  ·intro w hw _;exact hw
 ·refine⟨_,_,zB8 zh9 (by omega) hb (by simp[ints]) (by omega) hc rfl rfl,rfl,rfl,?_,?_,?_,(zBr k b none).1,?_⟩
  ·rw[← iA];exact zD (k.upd b none) _
  ·intro b' ar aj;have jU:b'≠b:=λ e=>aj ⟨_,_,by rw[e]⟩;have:k.qa≠b':=by omega
   rw[zG (by show b'≠k.qa;omega),zL jU]
  ·intro aa;exact zBb (zCH aa _ _) _
  ·intro w hw fA;show w<=(k.upd b none).wm;exact zp hw (by omega)
def zDq(L:List Int)(x:Int×Int):List Int:=if x.1=0/\x.2 ∉ L then L++[x.2] else L
def zDf(SS:List za)(L:List Int)(u:Int):List Int:=match SS[u.toNat]? with
 | some S=>S.foldl zDq L
 | none=>L
def bfs(SS:List za)(body:Int->Bool):Nat->Nat->List Int->Bool
 | 0,_,_=>false
 | f+1,i,L=>match L[i]? with
  | none=>false
  | some u=>body u||bfs SS body f (i+1) (zDf SS L u)
def zAB:∀(N:Nat) (L:List Int),L.Nodup->(∀ x∈L,0<=x/\x<(N:Int))->L.length<=N
 | 0,L,_,h=>by
  cases L with
  | nil=>simp
  | cons a l=>have:=h a (by simp);omega
 | N+1,L,hn,h=>by
  by_cases hm:(N:Int)∈L
  ·have h1:=zAB N (L.erase (N:Int)) (hn.erase _) λ x hx=>by
    have:=hn.mem_erase_iff.1 hx;have h2:=h x this.2;have:=this.1;omega
   rw[List.length_erase_of_mem hm] at h1;omega
  ·have h1:=zAB N L hn λ x hx=>by
    have h2:=h x hx;have:x≠(N:Int):=λ e=>hm (e ▸ hx);omega
   omega
def zHJ{L:List Int}(h:L.Nodup)(x:Int×Int):(zDq L x).Nodup:=by
 unfold zDq;split
 ·rename_i hx;rw[xBr];refine⟨h,by simp,λ a ha b hb=>?_⟩;simp only[xAE] at hb;subst hb;exact λ e=>hx.2 (e ▸ ha)
 ·exact h
def ziU{L:List Int}{x:Int×Int}{y:Int}(h:y∈zDq L x):y∈L\/y=x.2:=by
 unfold zDq at h;split at h
 ·simpa using h
 ·exact .inl h
def zFO:∀ {S:za} {L:List Int},L.Nodup->(S.foldl zDq L).Nodup
 | [],_,h=>h
 | x::S,_,h=>zFO (S:=S) (zHJ h x)
def zIA:∀ {S:za} {L:List Int} {y:Int},y∈S.foldl zDq L->y∈L\/∃ x∈S,y=x.2
 | [],_,_,h=>.inl h
 | x::S,L,y,h=>by
  rcases zIA (S:=S) h with h|⟨x',bM,h⟩
  ·rcases ziU h with h|h
   ·exact .inl h
   ·exact .inr ⟨x,by simp,h⟩
  ·exact .inr ⟨x',by simp[bM],h⟩
def Yd(k:AH)(l w0 N:Nat)(body:Int->Bool)(Rt:AH->Prop):Prop:=∀ h,Ext k h->w0<=h.wm->∀ u:Int,0<=u->u<(N:Int)->
 ∃ h',(zc E).round l [iI u] h=some [(.bool (!body u),h')]/\h'.ok/\h'.wm<=l/\w0<=h'.wm/\(body u=false->h'.qa=h.qa/\∀ c,h'.get c=h.get c)/\(body u=true->Rt h')
structure St22(k:AH)(w0 m1 N:Nat)(v5:Value)(L:List Int)(h:AH):Prop where
 ext:Ext k h
 w:w0<=h.wm
 map:∃ R ver,h.get m1=some (.map (zGc R) ver)/\R.Nodup/\∀ x,x∈R ↔ x∈L
 mlt:m1<h.qa
 nd:L.Nodup
 bd:∀ x∈L,0<=x/\x<(N:Int)
 ls:LS (m1+1) h v5 L
def St22.keep{k:AH}{w0 m1 N:Nat}{v5:Value}{L:List Int}{h h':AH}(s:St22 k w0 m1 N v5 L h)(e:Ext k h')(w:w0<=h'.wm)(hn:h.qa<=h'.qa)(hg:∀ c,m1<=c->c<h.qa->h'.get c=h.get c):St22 k w0 m1 N v5 L h':=by
 obtain⟨R,ver,a,b⟩:=s.map;exact⟨e,w,⟨R,ver,(hg m1 (xAF _) s.mlt).trans a,b⟩,xAC s.mlt hn,s.nd,s.bd,s.ls.mono hn λ b h1 h2 _=>hg b (by omega) h2⟩
structure zQX(SS:List za):Prop where
 len:SS.length<=900000
 stp:∀(i:Nat) (S:za),SS[i]?=some S->S.length<=900000/\∀ x∈S,0<=x.2/\x.2<(SS.length:Int)
def zLi{n:Int}(h1:0<=n)(h2:n<=1000000):zC2 n:=⟨by omega,by omega⟩
def zNC{S:za}{L:List Int}{j:Nat}(hj:j<S.length):(S.drop j).foldl zDq L=(S.drop (j+1)).foldl zDq (zDq L S[j]):=by
 rw[xAZ hj];rfl
def zU9(k:AH)(w0:Nat)(Rt:AH->Prop)(b:Bool)(h:AH):Prop:=h.ok/\w0<=h.wm/\(b=false->k.qa<=h.qa/\∀ c,c<k.qa->h.get c=k.get c)/\(b=true->Rt h)
def zpw{k:AH}{l bs0 bgp bg w0:Nat}{SS:List za}{body:Int->Bool}{Rt:AH->Prop}{t:Int}{ty1 es1 ty2 es2:Nat}{ro1 ro2:Bool}(aa:k.ok)
  (hs:k.get bs0=some (.row [iI t] ty1 es1 ro1)) (cT:bs0<k.qa) (hgp:k.get bgp=some (.row [ptr bg] ty2 es2 ro2)) (dE:bgp<k.qa)
  (hg:GV k bg SS) (bY:zQX SS) (kN:0<=t) (fQ:t<(SS.length:Int)) (hw:w0<=k.wm) (dg:w0<=k.qa) (hl:l<k.qa) (hRt:∀ h h':AH,(∀ c,h'.get c=h.get c)->h'.qa=h.qa->Rt h->Rt h')
  (hY:Yd k l w0 SS.length body Rt) :
  Ev true ((zc E).call 222 [.func (.yield l) #[] #[],ptr bs0,ptr bgp] k) λ x=>x.1=.tuple #[]/\zU9 k w0 Rt (bfs SS body SS.length 0 [t]) x.2:=by
 refine zOl (Rp:=λ x k'=>x=.tuple #[]/\zU9 k w0 Rt (bfs SS body SS.length 0 [t]) k') (zN3 ?_);obtain⟨loc,bs,cells,G⟩:=hg.ex;have kS:k.qb.get bs0=_:=hs;have e0:=(Ext.refl aa).qb;simp only[zF];have e1:=e0.new (.map [] 0);have m1g:=zD k.qb (.map [] 0);have fR:(k.qb.new (.map [] 0)).get bs0=_:=(e1.get bs0 cT).trans hs;have ls1:=zB (P:=E) zAE (o:=0) fR;simp only[lnth] at ls1;have hu:=zQh (h:=k.qb.new (.map [] 0)) (R:=[]) (q:=t) m1g List.nodup_nil (by simp);simp only[ls1,zA,zR] at hu ⊢;rw[hu,zF];refine zN2 ?_;have e2:=e1.upd (b:=k.qa) (xAF _) (some (.map (zGc (zF1 t [])) (0+1)));have m2:((k.qb.new (.map [] 0)).upd k.qa (some (.map (zGc (zF1 t [])) (0+1)))).get k.qa=_:=zH _ _ _;have w2:w0<=((k.qb.new (.map [] 0)).upd k.qa (some (.map (zGc (zF1 t [])) (0+1)))).wm:=zp (by rw[zDK,zAN];omega) dg;have n2:((k.qb.new (.map [] 0)).upd k.qa (some (.map (zGc (zF1 t [])) (0+1)))).qa=k.qa+1:=rfl;generalize ((k.qb.new (.map [] 0)).upd k.qa (some (.map (zGc (zF1 t [])) (0+1))))=k2 at e2 m2 w2 n2;have ls2:=zB (P:=E) zAE (o:=0) ((e2.get bs0 cT).trans hs);simp only[lnth] at ls2;simp only[ls2,zA,zhD,zF];refine zN1 ?_;have st0:St22 k w0 k.qa SS.length (.slice (some ⟨k2.qa,0,none⟩) 1 1) [t] (k2.new (rO [iI t] 3)):=by
  refine⟨e2.new _,w2,⟨[t],0+1,(zG (by omega)).trans m2,by simp,by simp⟩,by simp;omega,by simp,by simpa using⟨kN,fQ⟩,⟨k2.qa,1,rfl,by omega,by simp,.inl ⟨rfl,rfl,zD _ _⟩⟩⟩
 generalize (k2.new (rO [iI t] 3))=k3 at st0;have loop:∀(f i:Nat) (L:List Int) (v5:Value) (h:AH),f+i=SS.length->St22 k w0 k.qa SS.length v5 L h->0<L.length->i<=L.length->(i=0\/h.wm<=l)->bfs SS body SS.length 0 [t]=bfs SS body f i L->
   zuX true (KR E [] (λ x k'=>(zm x=false\/k'.wm<k.qa)/\(x=.tuple #[]/\zU9 k w0 Rt (bfs SS body SS.length 0 [t]) ⟨k'.t,k'.qa,cond (Nat.ble k.wm k'.wm) k.wm k'.wm⟩))) (.func (.yield l) #[] #[]) (ptr bgp) (.map (some k.qa)) v5 (iI (i:Int)) h:=by
  intro f
  induction f with
  | zero=>
   intro i L v5 h hf st h0 hi fO hb;have hlen:=zAB _ _ st.nd st.bd;refine zGi ?_;obtain⟨b,c,hv,h1,h2,h3⟩:=st.ls;subst hv;have:¬ ((i:Int)<(L.length:Int)):=by omega
   simp only[zA,zDF,zP,this,xCz,zZ,znF,zEm,xDJ];have hwl':h.wm<=l:=fO.resolve_left (by omega);refine⟨.inr (by omega),?_⟩;rw[hb];refine⟨?_,?_,λ _=>⟨st.ext.qa,λ c hc=>st.ext.get c hc⟩,λ h=>by cases h⟩
   ·have:=st.ext.ok;show cond (Nat.ble k.wm h.wm) k.wm h.wm<=h.qa+UNK;unfold AH.ok at this;cases hc:Nat.ble k.wm h.wm with
    | true=>have:=ble_true.1 hc;simp only[xAG];omega
    | false=>simpa using this
   ·show w0<=cond (Nat.ble k.wm h.wm) k.wm h.wm;cases Nat.ble k.wm h.wm
    ·exact st.w
    ·exact hw
  | succ f ih=>
   intro i L v5 h hf st h0 hi fO hb;have hlen:=zAB _ _ st.nd st.bd;refine zGi ?_;obtain⟨b,c,hv,h1,h2,h3⟩:=id st.ls;have aU:=λ (h':AH) (s':LS (k.qa+1) h' v5 L) (hi:i<L.length)=>s'.at hi;by_cases hiL:i<L.length
   ·have ab:((i:Int)<(L.length:Int)):=by omega
    have hq:zuW true (KR E [] (λ x k'=>(zm x=false\/k'.wm<k.qa)/\(x=.tuple #[]/\zU9 k w0 Rt (bfs SS body SS.length 0 [t]) ⟨k'.t,k'.qa,cond (Nat.ble k.wm k'.wm) k.wm k'.wm⟩))) (.func (.yield l) #[] #[]) (ptr bgp) (.map (some k.qa)) v5 (iI (i:Int)) h:=by
     refine zN0 ?_;obtain⟨x3,e3,x4,e4,rfl⟩:=aU h st.ls hiL;obtain⟨u0,u1⟩:=st.bd L[i] (xCF hiL);obtain⟨h',y1,y2,y3,y4,y5,y6⟩:=hY h st.ext st.w L[i] u0 u1;simp only[zA,e3,e4,zIN,xCa,y1,zJ,zq,Bool.not_not,zAq];have hbf:bfs SS body (f+1) i L=(body L[i]||bfs SS body f (i+1) (zDf SS L L[i])):=by
      simp only[bfs,xAA hiL]
     refine⟨λ bF=>?_,λ l9=>?_⟩
     ·simp only[znF,zO,xDJ];refine⟨.inr (by omega),?_⟩;rw[hb,hbf,bF];refine⟨?_,?_,(λ h=>by cases h),λ _=>hRt h' _ (λ _=>rfl) rfl (y6 bF)⟩
      ·unfold AH.ok at y2;show cond (Nat.ble k.wm h'.wm) k.wm h'.wm<=h'.qa+UNK;cases hc:Nat.ble k.wm h'.wm with
       | true=>have:=ble_true.1 hc;simp only[xAG];omega
       | false=>simpa using y2
      ·show w0<=cond (Nat.ble k.wm h'.wm) k.wm h'.wm;cases Nat.ble k.wm h'.wm
       ·exact y4
       ·exact hw
     ·obtain⟨z1,z2⟩:=y5 l9;have st1:St22 k w0 k.qa SS.length v5 L h':=st.keep ⟨y2,by rw[z1];exact st.ext.qa,λ c hc=>(z2 c).trans (st.ext.get c hc)⟩ y4 (by omega) (λ c _ _=>z2 c);refine zNz ?_;have jG:=(st1.ext.get bgp dE).trans hgp;obtain⟨x3,e3,x4,e4,rfl⟩:=aU h' st1.ls hiL;obtain⟨s,aV⟩:=xAp u0;have jk:s<SS.length:=by omega
      have d9:s<cells.length:=by rw[G.len];exact jk
      have aT:cells[s]?=some cells[s]:=xAA d9;have gT:SS[s]?=some SS[s]:=xAA jk;have q0:=zB (P:=E) zCU (o:=0) jG;have q1:=zB (P:=E) zEh (o:=0) ((st1.ext.get bg G.ltg).trans G.g);have q3:=zB (P:=E) zC3 (o:=0+s*1) ((st1.ext.get bs G.lts).trans G.s);simp only[lnth] at q0 q1;rw[zAI,show 0+s*1=s by omega,aT] at q3;have ia:=zI0 (b:=bs) (o:=0) (c:=cells.length) d9;rw[show 0+s*1=s by omega] at ia;have ac:=G.cell s _ _ aT gT;obtain⟨ca,cc,bv⟩:=(zCO ac).slice;rw[xCY] at bv;have ay:=zCO ac;rw[bv] at q3 ay;rw[aV] at e4;obtain⟨hZ,eE⟩:=bY.stp s _ gT;simp only[q0,zA,zx,zCj,q1,e3,e4,xCu,ia,q3,zIt];have dO:zDf SS L L[i]=(SS[s]).foldl zDq L:=by
       unfold zDf;rw[aV];simp[gT]
      have steps:∀(r j:Nat) (L':List Int) (v5':Value) (g:AH),r+j=(SS[s]).length->St22 k w0 k.qa SS.length v5' L' g->L.length<=L'.length->g.wm<=l->((SS[s]).drop j).foldl zDq L'=(SS[s]).foldl zDq L->
        zuV true (KR E [] (λ x k'=>(zm x=false\/k'.wm<k.qa)/\(x=.tuple #[]/\zU9 k w0 Rt (bfs SS body SS.length 0 [t]) ⟨k'.t,k'.qa,cond (Nat.ble k.wm k'.wm) k.wm k'.wm⟩))) (.func (.yield l) #[] #[]) (ptr bgp) (.map (some k.qa)) v5' (iI (i:Int)) (.slice ca (SS[s]).length cc) (iI ((SS[s]).length:Int)) (iI (j:Int)) g:=by
       intro r
       induction r with
       | zero=>
        intro j L' v5' g hr sg hLL hgw au;refine zGh ?_;have:¬ ((j:Int)<((SS[s]).length:Int)):=by omega
        simp only[zP,zA,this,xCz,zZ];refine zKy ?_;have jD:zC2 ((i:Int)+1):=zLi (by omega) (by have:=bY.len;omega);simp only[zA,zk _ jD];have:=ih (i+1) L' v5' g (by omega) sg (by omega) (by omega) (.inr hgw) (by
         rw[hb,hbf,l9,dO,← au,xAs (by omega)];rfl)
        simpa using this
       | succ r ihr=>
        intro j L' v5' g hr sg hLL hgw au;have iu:j<(SS[s]).length:=by omega
        refine zGh ?_;have:((j:Int)<((SS[s]).length:Int)):=by omega
        simp only[zP,zA,this,xDG,ze];refine zNy ?_;have gQ:((SS[s]).map zC)[j]?=some (zC (SS[s])[j]):=by simp[iu]
        obtain⟨b',o',c',vs',ty',es',ro',aH,ar,aI,cy,cK,cF⟩:=ay.load gQ;simp only[xBu] at aH;obtain⟨bP,_,_⟩:=aH;subst bP;have gb':=(sg.ext.get b' aI).trans ar;obtain⟨xt0,xtN⟩:=eE (SS[s])[j] (xCF iu);have hdr:=zNC (L:=L') iu;rw[hdr] at au;generalize (SS[s])[j]=x at cK xt0 xtN au;simp only[zD8 iu,zA,zN zEg gb' cy,cK,zO6,zU,zF,zK,zNX];refine zNx ?_;have e5:=(sg.ext.new (rO [iI 0,iI 0] 134)).upd (b:=g.qa) sg.ext.qa (some (rO (zC x) 134));have x5:((g.new (rO [iI 0,iI 0] 134)).upd g.qa (some (rO (zC x) 134))).get g.qa=some (rO (zC x) 134):=zH _ _ _;have w5:w0<=((g.new (rO [iI 0,iI 0] 134)).upd g.qa (some (rO (zC x) 134))).wm:=zp sg.w (by have:=sg.ext.qa;omega);have v5w:((g.new (rO [iI 0,iI 0] 134)).upd g.qa (some (rO (zC x) 134))).wm<=l:=xCx (zBr _ _ _).1 hgw;have n5:((g.new (rO [iI 0,iI 0] 134)).upd g.qa (some (rO (zC x) 134))).qa=g.qa+1:=rfl;have s5:St22 k w0 k.qa SS.length v5' L' ((g.new (rO [iI 0,iI 0] 134)).upd g.qa (some (rO (zC x) 134))):=sg.keep e5 w5 (by omega) (λ c _ hc=>(zL (by omega)).trans (zG (by omega)));generalize ((g.new (rO [iI 0,iI 0] 134)).upd g.qa (some (rO (zC x) 134)))=g5 at e5 x5 w5 v5w n5 s5;have y0:=zB (P:=E) zAE (o:=0) x5;have y1:=zB (P:=E) zAE (o:=1) x5;simp only[lnth,zC] at y0 y1;obtain⟨R,ver,mg,mnd,mmem⟩:=s5.map;have du:decide (x.2∈R)=decide (x.2∈L'):=xCO.2 (mmem x.2);simp only[zDn,zBB,xCu,xAK,y0,y1,zA,zAD,zI,zG0 mg mnd,du];have jC:zC2 ((j:Int)+1):=zLi (by omega) (by omega);have skip:∀ g' v6 L'',St22 k w0 k.qa SS.length v6 L'' g'->L.length<=L''.length->g'.wm<=l->((SS[s]).drop (j+1)).foldl zDq L''=(SS[s]).foldl zDq L->
          zqn true (KR E [] (λ x k'=>(zm x=false\/k'.wm<k.qa)/\(x=.tuple #[]/\zU9 k w0 Rt (bfs SS body SS.length 0 [t]) ⟨k'.t,k'.qa,cond (Nat.ble k.wm k'.wm) k.wm k'.wm⟩))) (.func (.yield l) #[] #[]) (ptr bgp) (.map (some k.qa)) v6 (iI (i:Int)) (.slice (some ⟨b',o',none⟩) (SS[s]).length cc) (iI ((SS[s]).length:Int)) (iI (j:Int)) g':=by
         intro g' v6 L'' s6 hl6 hw6 hf6;refine zKz ?_;simp only[zk _ jC,zA];have:=ihr (j+1) L'' v6 g' (by omega) s6 hl6 hw6 hf6;simpa using this
        by_cases hx0:x.1=0
        ·by_cases dZ:x.2∈L'
         ·have:zDq L' x=L':=by unfold zDq;simp[dZ]
          rw[this] at au;simp only[hx0,dZ,xDG,xAO,xAG,zA,zBB,xAK,y1,zG0 mg mnd,du,zq,zE,xAL,zZ];exact skip g5 v5' L' s5 hLL v5w au
         ·have gS:zDq L' x=L'++[x.2]:=by unfold zDq;simp[dZ,hx0]
          rw[gS] at au;simp only[hx0,dZ,xDG,xCz,xAO,xAG,zA,zBB,xAK,y1,zG0 mg mnd,du,zq,zE,xAM,ze];refine zNw ?_;have kw:x.2 ∉ R:=λ h=>dZ ((mmem _).1 h);simp only[zBB,xAK,y1,zA,zQh mg mnd kw,zF];refine zK0 ?_;have e6:=s5.ext.upd (b:=k.qa) (xAF _) (some (.map (zGc (zF1 x.2 R)) (ver+1)));have m6:(g5.upd k.qa (some (.map (zGc (zF1 x.2 R)) (ver+1)))).get k.qa=_:=zH _ _ _;have x6:(g5.upd k.qa (some (.map (zGc (zF1 x.2 R)) (ver+1)))).get g.qa=_:=(zL (by have:=sg.mlt;omega)).trans x5;have w6:w0<=(g5.upd k.qa (some (.map (zGc (zF1 x.2 R)) (ver+1)))).wm:=zp s5.w dg;have v6w:(g5.upd k.qa (some (.map (zGc (zF1 x.2 R)) (ver+1)))).wm<=l:=xCx (zBr _ _ _).1 v5w;have n6:(g5.upd k.qa (some (.map (zGc (zF1 x.2 R)) (ver+1)))).qa=g5.qa:=rfl;have l6:LS (k.qa+1) (g5.upd k.qa (some (.map (zGc (zF1 x.2 R)) (ver+1)))) v5' L':=s5.ls.mono (xCr n6.symm) (λ b h1 h2 _=>zL (by omega));generalize (g5.upd k.qa (some (.map (zGc (zF1 x.2 R)) (ver+1))))=g6 at e6 m6 x6 w6 v6w n6 l6;have y6:=zB (P:=E) zAE (o:=1) x6;simp only[lnth,zC] at y6;have l7:LS (k.qa+1) (g6.new (rO [iI x.2] 3)) v5' L':=l6.mono (by simp) (λ b h1 h2 _=>zG (by omega));have e7:=e6.new (rO [iI x.2] 3);have r7:=zD g6 (rO [iI x.2] 3);have m7:(g6.new (rO [iI x.2] 3)).get k.qa=_:=(zG (by have:=sg.mlt;omega)).trans m6;have hL9:L'.length<=999999:=by have:=zAB _ _ s5.nd s5.bd;have:=bY.len;omega
          obtain⟨v8,g8,a1,a2,a3,a4,a5,a6,a7,a8⟩:=l7.app hL9 r7;simp only[zBB,xAK,y6,zA,zhD,zF,a1];have n7:(g6.new (rO [iI x.2] 3)).qa=g6.qa+1:=rfl;obtain⟨bl,cl,aP,dQ,fh,_⟩:=l7.ex;have dr:k.qa<g.qa:=sg.mlt;have bZ:∀ c,c<=k.qa->¬ zY v5' c:=by
           rintro c hc ⟨n',c',he⟩;rw[aP] at he;simp only[xBu,xAN,xCo] at he;omega
          have eA:∀ c,c<=k.qa->g8.get c=(g6.new (rO [iI x.2] 3)).get c:=λ c hc=>a5 c (by omega) (bZ c hc);have s8:St22 k w0 k.qa SS.length v8 (L'++[x.2]) g8:=by
           refine⟨⟨a6 e7.ok,by omega,λ c hc=>(eA c (by omega)).trans (e7.get c hc)⟩,a8 w0 (by rw[zDK];exact w6) (by omega),⟨zF1 x.2 R,ver+1,(eA _ (xAF _)).trans m7,zG6 mnd kw,λ y=>?_⟩,by omega,?_,?_,?_⟩
           ·rw[zH6,mmem];simp only[xCU,xAE];exact Or.comm
           ·rw[← gS];exact zHJ s5.nd x
           ·intro y hy;rcases xCU.1 hy with hy|hy
            ·exact s5.bd y hy
            ·rw[xBV.1 hy];exact⟨xt0,xtN⟩
           ·refine⟨_,UNK+1,?_,?_,?_,.inr ⟨rfl,a4⟩⟩
            ·rw[a2];simp
            ·omega
            ·omega
          exact skip g8 v8 _ s8 (by simp;omega) (xCx a7 (by rw[zDK];exact v6w)) au
        ·have:zDq L' x=L':=by unfold zDq;simp[hx0]
         rw[this] at au;simp only[hx0,xCz,show (false==true)=false from rfl,xAH,zA,zE,zZ];exact skip g5 v5' L' s5 hLL v5w au
      exact steps (SS[s]).length 0 L v5 h' (by omega) st1 (xAF _) y3 (by simp)
    subst hv;simp only[zA,zDF,zP,ab,xDG,ze];exact hq
   ·subst hv;have:¬ ((i:Int)<(L.length:Int)):=by omega
    simp only[zA,zDF,zP,this,xCz,zZ,znF,zEm,xDJ];have hwl':h.wm<=l:=fO.resolve_left (by omega);refine⟨.inr (by omega),?_⟩;rw[hb];have:bfs SS body (f+1) i L=false:=by
     simp only[bfs,xAx (by omega:L.length<=i)]
    rw[this];refine⟨?_,?_,λ _=>⟨st.ext.qa,λ c hc=>st.ext.get c hc⟩,λ h=>by cases h⟩
    ·have:=st.ext.ok;show cond (Nat.ble k.wm h.wm) k.wm h.wm<=h.qa+UNK;unfold AH.ok at this;cases hc:Nat.ble k.wm h.wm with
     | true=>have:=ble_true.1 hc;simp only[xAG];omega
     | false=>simpa using this
    ·show w0<=cond (Nat.ble k.wm h.wm) k.wm h.wm;cases Nat.ble k.wm h.wm
     ·exact st.w
     ·exact hw
 exact loop SS.length 0 [t] _ _ (by omega) st0 (by simp) (by simp) (.inl rfl) rfl
def zgz(s:Bool)(d:Nat):Cx:=⟨E,s,none,zQc,[([],[8])],[8],[d]⟩
def zmQ{s:Bool}{d:Nat}{v8:Value}{T:Tm}{h:AH}{K:KF}(hT:∀ x∈[(8,v8)],T.get x.1=x.2)(H:zQY s K v8 h) :
  Ev s (evC E (zc E) none zQc ⟨T,h,[d]⟩) (zJm (zgz s d) K):=
 zBh (C:=zgz s d) (by kernel_rfl) (by kernel_rfl) hT ((by kernel_rfl:zDY (zgz s d) K 30 (rs zQc 60 (.at [])) (zAc [(8,v8)]) h=(SP (zgz s d) K [] [(8,v8)] h)).mpr
  (zWC (p:=[]) (by kernel_rfl) rfl ((by kernel_rfl:zhT (zgz s d) K [] (zAc [(8,v8)]) h=zQY s K v8 h).mpr H)))
def zrG:zn6=.seq zQd (.seq (.seq zOv (.block 0 (.rangeFunc (.tmp 14) #[15] zHL zFz))) (.seq zQc .ret)):=by kernel_rfl
def zCf(R:Rel)(SS:List za)(u:Int)(x:Int×Int):Bool:=match SS[u.toNat]? with
 | some S=>zEi R S x
 | none=>false
def zEC(R:Rel)(SS:List za)(s:Int)(x:Int×Int)(u:Int):Bool:=
 decide ((s,u)∈R)&&((decide (x.1=0)&&decide ((x.2,u)∈R))||zCf R SS u x)
def zEU(R:Rel)(SS:List za)(s t:Int)(x:Int×Int):Bool:=bfs SS (zEC R SS s x) SS.length 0 [t]
def call178{k:AH}{bg:Nat}{t:Int} :
  Ev true ((zc E).call 178 [ptr bg,iI t] k) λ x=>x.1=.func (.func 222) #[] #[ptr (k.qa+1),ptr k.qa]/\x.2.qa=k.qa+2/\x.2.ok/\(∀ w,w<=k.wm->w<=k.qa->w<=x.2.wm) ∧
   x.2.get k.qa=some (rO [ptr bg] 128)/\x.2.get (k.qa+1)=some (rO [iI t] 3)/\∀ c,c<k.qa->x.2.get c=k.get c:=by
 refine zgD (Rp:=λ v k'=>v=.func (.func 222) #[] #[ptr (k.qa+1),ptr k.qa]/\k'.qa=k.qa+2/\k'.ok/\(∀ w,w<=k.wm->w<=k.qa->w<=k'.wm) ∧
   k'.get k.qa=some (rO [ptr bg] 128)/\k'.get (k.qa+1)=some (rO [iI t] 3)/\∀ c,c<k.qa->k'.get c=k.get c) (zco ?_)
 simp only[zU,zF,zA,zd];refine zcn ?_;have g0:((k.qb.new (rO [ptr bg] 128)).new (rO [iI t] 3)).get k.qa=some (rO [ptr bg] 128):=(zG (by simp)).trans (zD k.qb _);have g1:((k.qb.new (rO [ptr bg] 128)).new (rO [iI t] 3)).get (k.qa+1)=some (rO [iI t] 3):=zD (k.qb.new _) _;have g2:∀ c,c<k.qa->((k.qb.new (rO [ptr bg] 128)).new (rO [iI t] 3)).get c=k.get c:=λ c hc=>(zG (by simp;omega)).trans ((zG (by simp;omega)).trans rfl);have n1:((k.qb.new (rO [ptr bg] 128)).new (rO [iI t] 3)).qa=k.qa+2:=rfl;have w1:((k.qb.new (rO [ptr bg] 128)).new (rO [iI t] 3)).wm=k.qa+UNK:=rfl;simp only[zR,AH.next_new];generalize ((k.qb.new (rO [ptr bg] 128)).new (rO [iI t] 3))=k1 at g0 g1 g2 n1 w1;simp only[zAX,zA,zAC,zO,xDJ];refine⟨.inl rfl,n1,?_,λ w h1 h2=>?_,g0,g1,g2⟩
 ·show cond (Nat.ble k.wm k1.wm) k.wm k1.wm<=k1.qa+UNK;cases hc:Nat.ble k.wm k1.wm with
  | true=>have:=ble_true.1 hc;simp only[xAG];omega
  | false=>simp only[xAH];omega
 ·show w<=cond (Nat.ble k.wm k1.wm) k.wm k1.wm;cases Nat.ble k.wm k1.wm
  ·simp only[xAH];omega
  ·exact h1
def znO{α:Type}{x:R α}{Q:α->Prop}(h:Ev true x Q):∃ a,x=some [a]/\Q a:=by
 obtain⟨l,e,_,h1,h2⟩:=h
 match l,h1 rfl with
 | [a],_=>exact⟨a,e,h2 a (by simp)⟩
def zqv(R:Rel)(SS:List za)(s:Int)(x:Int×Int)(un:Int)(h:AH)(b8:Nat):KF:=λ ex _ g=>(zEC R SS s x un=false/\ex=.normal/\g=h)\/(zEC R SS s x un=true/\ex=.ret/\g=h.upd b8 (some (rO [.bool true] 4)))
def zqX{h:AH}{l b4 b5 b7 b8 m ver bg un:Nat}{gx:Value}{R:Rel}{SS:List za}{S:za}{s:Int}{x:Int×Int}{v:Value}{T:Tm}(aa:h.ok)
  (h4:h.get b4=some (.row (zA5 gx (ptr bg) m) 178 0 false)) (h5:h.get b5=some (rO [iI s] 3)) (h7:h.get b7=some (rO (zC x) 134)) (h8:h.get b8=some (rO [v] 4))
  (hm:h.get m=some (.map (ent R) ver)) (aW:m<h.qa) (hR:R.Nodup) (hg:GV h bg SS) (hS:SS[un]?=some S) (gZ:S.length<=1000000)
  (hT:∀ y∈[(4,ptr b4),(5,ptr b5),(7,ptr b7),(8,ptr b8),(9,iI (un:Int))],T.get y.1=y.2) :
  Ev true (evC E (zc E) (some l) zFz ⟨T,h,[]⟩) (zJm (zMA true l) (zqv R SS s x un h b8)):=by
 refine zmS hT (zUc ?_);have la:=zN (P:=E) zMR (o:=0) h4 (by simp[zA5]);rw[xCe,xAD (by simp[zA5])] at la;have lf:=zN (P:=E) zmr (o:=0) h4 (by simp[zA5]);rw[xCe,xAD (by simp[zA5])] at lf;have l5:=zB (P:=E) zAE (o:=0) h5;have x0:=zB (P:=E) zAE (o:=0) h7;have x1:=zB (P:=E) zAE (o:=1) h7;have lx:=zN (P:=E) zEg (o:=0) h7 (by simp[zC]);rw[xCe,xAD (by simp[zC])] at lx;simp only[lnth,zC] at l5 x0 x1;have eW:zCf R SS (un:Int) x=zEi R S x:=by
  unfold zCf;simp[hS]
 have fin:∀ b:Bool,zEC R SS s x un=b->BrK (some (.bool b)) (zqr true l (zqv R SS s x un h b8) (ptr b8) h) (zqv R SS s x un h b8 .normal [] h):=by
  intro b hb;rw[zAq];refine⟨λ e=>?_,λ e=>.inl ⟨by rw[hb,e],rfl,rfl⟩⟩;refine zUb ?_;have af:=zi (P:=E) zrH (o:=0) (x:=.bool true) (cs:=[.bool true]) h8 rfl rfl (by simp) (by simp[zl]);simp only[af,zF];exact .inr ⟨by rw[hb,e],rfl,rfl⟩
 simp only[zEN,xCu,la,l5,zA,zM,zL0 aa hm aW hR,zJ];by_cases e1:(s,(un:Int))∈R
 ·simp only[e1,xDG,zI,xAO,xAG,zDn,zBB,xCu,xAK,x0,x1,zA,zAD];by_cases e2:x.1=0
  ·simp only[e2,xDG,zI,zS,xAO,xAG,zEN,zDn,zBB,xCu,xAK,la,x1,zA,zM,zL0 aa hm aW hR,zJ,zE];by_cases e3:(x.2,(un:Int))∈R
   ·simp only[e3,xDG,zI,zS,show (true==false)=false from rfl,xAH,zA,zF,zE,xAG];exact fin true (by simp[zEC,e1,e2,e3])
   ·simp only[e3,xCz,zI,zS,xAO,xAG,lf,l5,lx,zA,zM,zQK aa hm aW hR hg hS gZ,zJ,zE,xAH];exact fin _ (by simp[zEC,e1,e2,e3,eW])
  ·simp only[e2,xCz,zI,zS,show (false==true)=false from rfl,xAO,xAH,xAG,zA,zF,zE,lf,l5,lx,zM,zQK aa hm aW hR hg hS gZ,zJ];exact fin _ (by simp[zEC,e1,e2,eW])
 ·simp only[e1,xCz,zI,zS,zt,zv,show (false==true)=false from rfl,xAH,zA,zF,zE];exact fin false (by simp[zEC,e1])
def zBn(st:LoopState)(pend:Option Code)(T:Tm)(d:Nat):AObj:=.loop st pend T [15] zHL zFz d
def zB1{h:AH}{a l:Nat}{vs:List Value}{ty es:Nat}{ro:Bool}{st:LoopState}{pend:Option Code}{T:Tm}{d:Nat}(h1:h.get a=some (.row vs ty es ro))(h2:h.get l=some (zBn st pend T d)):a≠l:=by
 rintro rfl;rw[h1] at h2;simp[zBn] at h2
def zPP{h:AH}{a l:Nat}{es:List (Value×Value)}{ver:Nat}{st:LoopState}{pend:Option Code}{T:Tm}{d:Nat}(h1:h.get a=some (.map es ver))(h2:h.get l=some (zBn st pend T d)):a≠l:=by
 rintro rfl;rw[h1] at h2;simp[zBn] at h2
def GV.upd_loop{h:AH}{bg l:Nat}{SS:List za}{st:LoopState}{pend:Option Code}{T:Tm}{d:Nat}(g:GV h bg SS)(hl:h.get l=some (zBn st pend T d))(o:Option AObj):GV (h.upd l o) bg SS:=by
 obtain⟨loc,bs,cells,G⟩:=g.ex;refine⟨loc,bs,cells,(zL (zB1 G.g hl)).trans G.g,(zL (zB1 G.s hl)).trans G.s,G.len,G.ne,G.ltg,G.lts,G.locg,G.locs,λ i c S hc hS=>?_,G.blk,G.dis⟩;rcases G.cell i c S hc hS with a|⟨b,a1,a2,a3⟩
 ·exact .inl a
 ·exact .inr ⟨b,a1,(zL (zB1 a2 hl)).trans a2,a3⟩
def zhc{h:AH}{l d b4 b5 b7 b8 m ver bg un:Nat}{gx:Value}{R:Rel}{SS:List za}{S:za}{s:Int}{x:Int×Int}{v:Value}{T:Tm}(aa:h.ok)
  (hl:h.get l=some (zBn .ready none T d))
  (h4:h.get b4=some (.row (zA5 gx (ptr bg) m) 178 0 false)) (h5:h.get b5=some (rO [iI s] 3)) (h7:h.get b7=some (rO (zC x) 134)) (h8:h.get b8=some (rO [v] 4))
  (hm:h.get m=some (.map (ent R) ver)) (aW:m<h.qa) (hR:R.Nodup) (hg:GV h bg SS) (hS:SS[un]?=some S) (gZ:S.length<=1000000)
  (hT:∀ y∈[(4,ptr b4),(5,ptr b5),(7,ptr b7),(8,ptr b8)],T.get y.1=y.2) :
  ∃ h',(zc E).round l [iI (un:Int)] h=some [(.bool (!zEC R SS s x un),h')]/\h'.ok/\h'.wm<=l/\(∀ w,w<=h.wm->w<=l->w<=b8->w<=h'.wm)/\h'.qa=h.qa/\(zEC R SS s x un=false->∀ c,h'.get c=h.get c) ∧
   (zEC R SS s x un=true->h'.get l=some (zBn .done (some .ret) T d)/\h'.get b8=some (rO [.bool true] 4)/\∀ c,c≠l->c≠b8->h'.get c=h.get c):=by
 have n4:=zB1 h4 hl;have n5:=zB1 h5 hl;have n7:=zB1 h7 hl;have n8:=zB1 h8 hl;have nm:=zPP hm hl
 let hb:=h.upd l (some (zBn .busy none T d))
 have fJ:hb.ok:=zCH aa _ _;have q:∀ {c:Nat},c≠l->hb.get c=h.get c:=λ hc=>zL hc;have ql:hb.get l=some (zBn .busy none T d):=zH _ _ _;have key:Ev true ((zc E).round l [iI (un:Int)] h) λ y=>(zEC R SS s x un=false/\y=(.bool true,hb.upd l (some (zBn .ready none T d))))\/(zEC R SS s x un=true/\y=(.bool false,(hb.upd b8 (some (rO [.bool true] 4))).upd l (some (zBn .done (some .ret) T d)))):=by
  rw[zQw];unfold roundCall;rw[hl];show Ev true (zDC E (zc E) l zHL zFz h (zBs T [15] [iI (un:Int)])) _;show Ev true (AM.R.andThen (evC E (zc E) (some l) zHL ⟨T.put 15 (iI (un:Int)),h,[]⟩) (zDk E (zc E) l zFz)) _;have mq:∀ y∈[(4,ptr b4),(5,ptr b5),(7,ptr b7),(8,ptr b8),(15,iI (un:Int))],(T.put 15 (iI (un:Int))).get y.1=y.2:=by
   intro y hy;rw[Tm.get_put];simp only[xAQ,xCN,xDK] at hy;rcases hy with rfl|rfl|rfl|rfl|rfl
   ·exact hT _ (by simp)
   ·exact hT _ (by simp)
   ·exact hT _ (by simp)
   ·exact hT _ (by simp)
   ·rfl
  have ha:=zmR (s:=true) (ll:=l) (h:=h) (K:=λ ex vs g=>ex=.normal/\vs=[ptr b4,ptr b5,ptr b7,ptr b8,iI (un:Int)]/\g=h) mq (zUa (by exact⟨by trivial,by trivial,by trivial⟩));refine Ev.andThen (ha.mono λ o ho=>?_);obtain⟨o1,o2,o3,o4⟩:=ho;have kh:o.st.defs=[]:=o1;have dz:[o.st.T.get 4,o.st.T.get 5,o.st.T.get 7,o.st.T.get 8,o.st.T.get 9]=[ptr b4,ptr b5,ptr b7,ptr b8,iI (un:Int)]:=o3;simp only[xCd,xDL] at dz;unfold zDk;rw[o2,o4,kh];simp only[zLe,hl,zBn,xAG,zCW,beginRound];have hT2:∀ y∈[(4,ptr b4),(5,ptr b5),(7,ptr b7),(8,ptr b8),(9,iI (un:Int))],o.st.T.get y.1=y.2:=by
   intro y hy;simp only[xAQ,xCN,xDK] at hy;rcases hy with rfl|rfl|rfl|rfl|rfl
   ·exact dz.1
   ·exact dz.2.1
   ·exact dz.2.2.1
   ·exact dz.2.2.2.1
   ·exact dz.2.2.2.2
  have df:=zqX (h:=hb) (l:=l) (s:=s) (T:=o.st.T) fJ ((q n4).trans h4) ((q n5).trans h5) ((q n7).trans h7) ((q n8).trans h8) ((q nm).trans hm) aW hR (hg.upd_loop hl _) hS gZ hT2;refine Ev.andThen (df.mono λ p hp=>?_);obtain⟨_,p2⟩:=hp;rcases p2 with ⟨p3,p4,p5⟩|⟨p3,p4,p5⟩
  ·unfold endRound;rw[p4,p5];simp only[zEo,zCW,ql,zBn,zDG,Option.isNone,xAG];exact Ev.one (.inl ⟨p3,rfl⟩)
  ·unfold endRound;rw[p4,p5];have:(hb.upd b8 (some (rO [.bool true] 4))).get l=some (zBn .busy none T d):=(zL (Ne.symm n8)).trans ql;simp only[zEo,zCW,this,zBn,zDG,Option.isNone,xAH];exact Ev.one (.inr ⟨p3,rfl⟩)
 obtain⟨y,e,hy⟩:=znO key;rcases hy with ⟨hy,rfl⟩|⟨hy,rfl⟩
 ·refine⟨_,by rw[e,hy];rfl,zCH fJ _ _,(zBr _ _ _).2,λ w h1 h2 h3=>zp (zp h1 h2) h2,rfl,λ _ c=>?_,(λ h=>by rw[hy] at h;cases h)⟩;by_cases hc:c=l
  ·subst hc;rw[zH,hl]
  ·rw[zL hc,q hc]
 ·refine⟨_,by rw[e,hy];rfl,zCH (zCH fJ _ _) _ _,(zBr _ _ _).2,λ w h1 h2 h3=>zp (zp (zp h1 h2) h3) h2,rfl,(λ h=>by rw[hy] at h;cases h),λ _=>⟨zH _ _ _,(zL n8).trans (zH _ _ _),λ c h1 h2=>?_⟩⟩;rw[zL h1,zL h2,q h1]
def znP{T:Tm}{h:AH}{d b8:Nat}{b:Bool}{ex:Ex}(hex:ex=.ret\/ex=.normal)(hT:T.get 8=ptr b8)(hd:h.get d=some .defd)(h8:h.get b8=some (rO [.bool b] 4)) :
  zAU E Tryz.f130 ⟨ex,⟨T,h,[d]⟩⟩=one (.bool b,h.upd d none):=by
 have aj:b8≠d:=by rintro rfl;rw[hd] at h8;cases h8
 have h8':(h.upd d none).get b8=some (rO [.bool b] 4):=(zL aj).trans h8;have jl:Tryz.f130.results.toList=[.cell 8 4]:=by kernel_rfl
 have hld:=zB (P:=E) zrm (o:=0) h8';simp only[lnth] at hld;have hld':zC1 E 4 (ptr b8) (h.upd d none)=some (.bool b):=hld;have:zAU E Tryz.f130 ⟨ex,⟨T,h,[d]⟩⟩=zCM E Tryz.f130 T (zCI [d] h):=by
  rcases hex with rfl|rfl <;> rfl
 rw[this];simp only[zCI,hd,zCM,zFD,jl,zCy,hT,hld',v1]
def zqK{k:AH}{m ver bg:Nat}{gx:Value}{R:Rel}{SS:List za}{s t:Int}{x:Int×Int}(aa:k.ok)
  (hm:k.get m=some (.map (ent R) ver)) (aW:m<k.qa) (hR:R.Nodup) (hg:GV k bg SS) (bY:zQX SS) (kN:0<=t) (fQ:t<(SS.length:Int)) :
  (zc E).call 130 [.agg ⟨zA5 gx (ptr bg) m⟩,iI s,iI t,.agg ⟨zC x⟩] k=some [(.bool (zEU R SS s t x),k)]:=by
 refine zNU (s:=true) aa zmW zgb (zmV _ _) (by kernel_rfl) rfl ?_;show Ev true (AM.R.andThen (evC E (zc E) none zn6 ⟨⟨Tryz.f130.ntmps,zCp [.agg ⟨zA5 gx (ptr bg) m⟩,iI s,iI t,.agg ⟨zC x⟩] 0 .e⟩,k.qb,[]⟩) (zAU E Tryz.f130)) _;have mp:∀ y∈[(0,Value.agg ⟨zA5 gx (ptr bg) m⟩),(1,iI s),(2,iI t),(3,.agg ⟨zC x⟩)],(⟨Tryz.f130.ntmps,zCp [.agg ⟨zA5 gx (ptr bg) m⟩,iI s,iI t,.agg ⟨zC x⟩] 0 .e⟩:Tm).get y.1=y.2:=by
  intro y hy;simp only[xAQ,xCN,xDK] at hy;rcases hy with rfl|rfl|rfl|rfl <;> kernel_rfl
 generalize (⟨Tryz.f130.ntmps,zCp [.agg ⟨zA5 gx (ptr bg) m⟩,iI s,iI t,.agg ⟨zC x⟩] 0 .e⟩:Tm)=T0 at mp;rw[zrG];refine Ev.andThen ?_;show Ev true (AM.R.andThen (evC E (zc E) none zQd ⟨T0,k.qb,[]⟩) (thenC (evC E (zc E) none (.seq (.seq zOv (.block 0 (.rangeFunc (.tmp 14) #[15] zHL zFz))) (.seq zQc .ret))))) _;obtain⟨kA,hkA,oA,a4,a5,a7,a8,nA⟩:∃ kA,kA=(((k.qb.new (.row (zA5 gx (ptr bg) m) 178 0 false)).new (rO [iI s] 3)).new (rO (zC x) 134)).new (rO [.bool false] 4)/\Own k kA/\kA.get k.qa=some (.row (zA5 gx (ptr bg) m) 178 0 false) ∧
   kA.get (k.qa+1)=some (rO [iI s] 3)/\kA.get (k.qa+2)=some (rO (zC x) 134)/\kA.get (k.qa+3)=some (rO [.bool false] 4)/\kA.qa=k.qa+4:=by
  refine⟨_,rfl,((((Own.qb k).new _).new _).new _).new _,?_,?_,?_,?_,rfl⟩
  ·exact (zG (by simp;omega)).trans ((zG (by simp;omega)).trans ((zG (by simp)).trans (zD k.qb _)))
  ·exact (zG (by simp)).trans ((zG (by simp)).trans (zD (k.qb.new _) _))
  ·exact (zG (by simp)).trans (zD ((k.qb.new _).new _) _)
  ·exact zD (((k.qb.new _).new _).new _) _
 have ha:=zmU (s:=true) (h:=k.qb) (K:=λ ex vs g=>ex=.normal/\vs=[iI t,ptr k.qa,ptr (k.qa+1),ptr (k.qa+2),ptr (k.qa+3)]/\g=kA) mp (zUe (by
  simp only[zU,zF,zA,zK,zd,z4];exact⟨trivial,rfl,hkA.symm⟩))
 refine Ev.andThen (ha.mono λ o ho=>?_);obtain⟨ex,T,g,ds⟩:=o;obtain⟨o1,o2,o3,o4⟩:=ho;have o1':ds=[]:=o1;have o2':ex=.normal:=o2;have o4':g=kA:=o4;subst o1' o2' o4';clear o1 o2 o4;have o3':[T.get 2,T.get 4,T.get 5,T.get 7,T.get 8]=[iI t,ptr k.qa,ptr (k.qa+1),ptr (k.qa+2),ptr (k.qa+3)]:=o3;simp only[xCd,xDL] at o3';show Ev true (AM.R.andThen (AM.R.andThen (evC E (zc E) none zOv ⟨T,g,[]⟩) (thenC (evC E (zc E) none (.block 0 (.rangeFunc (.tmp 14) #[15] zHL zFz))))) (thenC (evC E (zc E) none (.seq zQc .ret)))) _;refine Ev.andThen (Ev.andThen ?_);have hTb:∀ y∈[(2,iI t),(4,ptr k.qa),(5,ptr (k.qa+1)),(7,ptr (k.qa+2)),(8,ptr (k.qa+3))],T.get y.1=y.2:=by
  intro y hy;simp only[xAQ,xCN,xDK] at hy;rcases hy with rfl|rfl|rfl|rfl|rfl
  ·exact o3'.1
  ·exact o3'.2.1
  ·exact o3'.2.2.1
  ·exact o3'.2.2.2.1
  ·exact o3'.2.2.2.2
 have lg:=zB (P:=E) zCU (o:=1) a4;simp only[lnth,zA5] at lg;have hb:=zmT (s:=true) (h:=g) (K:=λ ex vs kB=>ex=.normal/\vs=[ptr k.qa,ptr (k.qa+1),ptr (k.qa+2),ptr (k.qa+3),.func (.func 222) #[] #[ptr (g.qa+1),ptr g.qa]] ∧
   kB.qa=g.qa+2/\kB.ok/\(∀ w,w<=g.wm->w<=g.qa->w<=kB.wm)/\kB.get g.qa=some (rO [ptr bg] 128)/\kB.get (g.qa+1)=some (rO [iI t] 3)/\∀ c,c<g.qa->kB.get c=g.get c) hTb (zUd (by
  simp only[zEN,zLr,xCu,xAK,lg,zA,zM];refine call178.mono λ y hy=>?_;obtain⟨y1,y2⟩:=hy;rw[y1];exact⟨trivial,rfl,y2⟩))
 refine hb.mono λ o ho=>?_;obtain⟨ex,T',kB,ds⟩:=o;obtain⟨p1,p2,p3,nB,okB,wB,b4,b5,bo⟩:=ho;have p1':ds=[]:=p1;have p2':ex=.normal:=p2;subst p1' p2';clear p1 p2;have p3':[T'.get 4,T'.get 5,T'.get 7,T'.get 8,T'.get 14]=[ptr k.qa,ptr (k.qa+1),ptr (k.qa+2),ptr (k.qa+3),.func (.func 222) #[] #[ptr (g.qa+1),ptr g.qa]]:=p3;simp only[xCd,xDL] at p3';obtain⟨t4,t5,t7,t8,t14⟩:=p3';clear p3;simp only at nB okB wB b4 b5 bo;show Ev true (AM.R.andThen (evRange E (zc E) none (some (T'.get 14)) [15] zHL zFz ⟨T',kB,[]⟩) (zDo 0)) _;rw[t14];have hhb:zDQ E 222=true:=by kernel_rfl
 have af:evRange E (zc E) none (some (.func (.func 222) #[] #[ptr (g.qa+1),ptr g.qa])) [15] zHL zFz ⟨T',kB,[]⟩ =
   AM.R.andThen ((zc E).call 222 [.func (.yield (kB.qa+1)) #[] #[],ptr (g.qa+1),ptr g.qa] ((kB.new .defd).new (zBn .ready none T' kB.qa))) λ x=>zBi (kB.qa+1) T' [kB.qa] x.2:=by
  unfold evRange;simp only[hhb,xAG];rfl
 rw[af];refine Ev.andThen (Ev.andThen ?_);have okC:((kB.new .defd).new (zBn .ready none T' kB.qa)).ok:=zBb (zBb okB _) _;have cl:((kB.new .defd).new (zBn .ready none T' kB.qa)).get (kB.qa+1)=some (zBn .ready none T' kB.qa):=zD (kB.new .defd) _;have cd:((kB.new .defd).new (zBn .ready none T' kB.qa)).get kB.qa=some .defd:=(zG (by simp)).trans (zD kB _);have co:∀ c,c<kB.qa->((kB.new .defd).new (zBn .ready none T' kB.qa)).get c=kB.get c:=λ c hc=>(zG (by simp;omega)).trans (zG (by omega));have nC:((kB.new .defd).new (zBn .ready none T' kB.qa)).qa=kB.qa+2:=rfl;have wC:((kB.new .defd).new (zBn .ready none T' kB.qa)).wm=kB.wm:=rfl;generalize ((kB.new .defd).new (zBn .ready none T' kB.qa))=kC at okC cl cd co nC wC;have cg:∀ c,c<g.qa->kC.get c=g.get c:=λ c hc=>(co c (by omega)).trans (bo c hc);have eC:Ext k kC:=⟨okC,by omega,λ c hc=>(cg c (by omega)).trans (oA.ext.get c hc)⟩;have hw0:k.qa<=kC.wm:=by rw[wC];exact wB _ oA.wm (by omega)
 have hY:Yd kC (kB.qa+1) k.qa SS.length (zEC R SS s x) (λ h'=>h'.get (kB.qa+1)=some (zBn .done (some .ret) T' kB.qa)/\h'.get (k.qa+3)=some (rO [.bool true] 4)/\h'.get kB.qa=some .defd):=by
  intro h he hw u hu0 huN;obtain⟨un,rfl⟩:=xAp hu0;have dL:un<SS.length:=by omega
  have ja:SS[un]?=some SS[un]:=xAA dL;have hek:=eC.trans he;obtain⟨h',r1,r2,r3,r4,r5,r6,r7⟩:=zhc (h:=h) (un:=un) (s:=s) (x:=x) he.ok ((he.get _ (by omega)).trans cl) ((he.get _ (by omega)).trans ((cg _ (by omega)).trans a4)) ((he.get _ (by omega)).trans ((cg _ (by omega)).trans a5)) ((he.get _ (by omega)).trans ((cg _ (by omega)).trans a7)) ((he.get _ (by omega)).trans ((cg _ (by omega)).trans a8))
   ((hek.get m aW).trans hm) (xAC aW hek.qa) hR (hg.ext hek) ja (by have:=(bY.stp un _ ja).1;omega) (by
    intro y hy;simp only[xAQ,xCN,xDK] at hy;rcases hy with rfl|rfl|rfl|rfl
    ·exact t4
    ·exact t5
    ·exact t7
    ·exact t8)
  refine⟨h',r1,r2,r3,r4 _ hw (by omega) (by omega),λ e=>⟨r5,r6 e⟩,λ e=>?_⟩;obtain⟨z1,z2,z3⟩:=r7 e;exact⟨z1,z2,(z3 _ (by omega) (by omega)).trans ((he.get _ (by omega)).trans cd)⟩
 have hc:=zpw (k:=kC) (l:=kB.qa+1) (bs0:=g.qa+1) (bgp:=g.qa) (bg:=bg) (w0:=k.qa) (SS:=SS) (t:=t) okC ((co _ (by omega)).trans b5) (by omega) ((co _ (by omega)).trans b4) (by omega) (hg.ext eC) bY kN fQ hw0 (by omega) (by omega) (λ h h' eA hn hr=>by
  rw[eA,eA,eA];exact hr) hY
 refine hc.mono λ y hy=>?_;obtain⟨v,h⟩:=y;obtain⟨_,f1,f2,f3,f4⟩:=hy;simp only at f1 f2 f3 f4 ⊢;have au:bfs SS (zEC R SS s x) SS.length 0 [t]=zEU R SS s t x:=rfl;rw[au] at f3 f4;cases hb:zEU R SS s t x with
 | true=>
  obtain⟨r1,r2,r3⟩:=f4 hb;have lN:zBi (kB.qa+1) T' [kB.qa] h=one ⟨.ret,⟨T',h.upd (kB.qa+1) (some (zBn .exhausted (some .ret) T' kB.qa)),[kB.qa]⟩⟩:=by
   unfold zBi;rw[r1];rfl
  rw[lN,zF];show Ev true (one _) _;rw[zF];show Ev true (one _) _;rw[zF];show Ev true (zAU E Tryz.f130 ⟨.ret,⟨T',h.upd (kB.qa+1) (some (zBn .exhausted (some .ret) T' kB.qa)),[kB.qa]⟩⟩) _;rw[znP (.inl rfl) t8 ((zL (by omega)).trans r3) ((zL (by omega)).trans r2),zF];exact⟨rfl,zp (zp f2 (by omega)) (by omega)⟩
 | false=>
  obtain⟨r1,r2⟩:=f3 hb;have dE:h.get (kB.qa+1)=some (zBn .ready none T' kB.qa):=(r2 _ (by omega)).trans cl;have lN:zBi (kB.qa+1) T' [kB.qa] h=one ⟨.normal,⟨T',h.upd (kB.qa+1) (some (zBn .exhausted none T' kB.qa)),[kB.qa]⟩⟩:=by
   unfold zBi;rw[dE];rfl
  rw[lN,zF];show Ev true (one _) _;rw[zF];have q8:(h.upd (kB.qa+1) (some (zBn .exhausted none T' kB.qa))).get (k.qa+3)=some (rO [.bool false] 4):=(zL (by omega)).trans ((r2 _ (by omega)).trans ((cg _ (by omega)).trans a8));have qd:(h.upd (kB.qa+1) (some (zBn .exhausted none T' kB.qa))).get kB.qa=some .defd:=(zL (by omega)).trans ((r2 _ (by omega)).trans cd);have qw:k.qa<=(h.upd (kB.qa+1) (some (zBn .exhausted none T' kB.qa))).wm:=zp f2 (by omega);generalize (h.upd (kB.qa+1) (some (zBn .exhausted none T' kB.qa)))=h1 at q8 qd qw;show Ev true (AM.R.andThen (evC E (zc E) none zQc ⟨T',h1,[kB.qa]⟩) (thenC (evC E (zc E) none .ret))) _;have af:=zi (P:=E) zrH (o:=0) (x:=.bool false) (cs:=[.bool false]) q8 rfl rfl (by simp) (by simp[zl]);have he:=zmQ (s:=true) (d:=kB.qa) (v8:=ptr (k.qa+3)) (T:=T') (h:=h1) (K:=λ ex vs g=>ex=.normal/\vs=[ptr (k.qa+3)]/\g=h1.upd (k.qa+3) (some (rO [.bool false] 4))) (by
   intro y hy;simp only[xAQ,xCN,xDK] at hy;subst hy;exact t8) (by
   simp only[zQY,af,zF];exact⟨trivial,trivial,rfl⟩)
  refine Ev.andThen (he.mono λ o ho=>?_);obtain⟨ex,T2,g2,ds⟩:=o;obtain⟨o1,o2,o3,o4⟩:=ho;have o1':ds=[kB.qa]:=o1;have o2':ex=.normal:=o2;have o4':g2=h1.upd (k.qa+3) (some (rO [.bool false] 4)):=o4;have o3':[T2.get 8]=[ptr (k.qa+3)]:=o3;subst o1' o2' o4';show Ev true (one _) _;rw[zF];show Ev true (zAU E Tryz.f130 ⟨.ret,⟨T2,h1.upd (k.qa+3) (some (rO [.bool false] 4)),[kB.qa]⟩⟩) _;rw[znP (.inl rfl) (List.cons.inj o3').1 ((zL (by omega)).trans qd) (zH _ _ _),zF];exact⟨rfl,zp (zp qw (by omega)) (by omega)⟩
def SameR(R R':Rel):Prop:=∀ p,p∈R ↔ p∈R'
def SameR.dec{R R':Rel}(h:SameR R R')(p:Int×Int):decide (p∈R)=decide (p∈R'):=xCO.2 (h p)
def zMT{R R':Rel}(h:SameR R R')(S:za)(x:Int×Int):zEi R S x=zEi R' S x:=by
 have:zF6 R x=zF6 R' x:=by funext y;unfold zF6;rw[h.dec]
 unfold zEi;simp only[this]
def zF5{R R':Rel}(h:SameR R R')(SS:List za)(u:Int)(x:Int×Int):zCf R SS u x=zCf R' SS u x:=by
 unfold zCf;split
 ·exact zMT h _ _
 ·rfl
def zTw{R R':Rel}(h:SameR R R')(SS:List za)(s:Int)(x:Int×Int):zEC R SS s x=zEC R' SS s x:=by
 funext u
 unfold zEC;rw[h.dec,h.dec,zF5 h]
def zNW{R R':Rel}(h:SameR R R')(SS:List za)(s t:Int)(x:Int×Int):zEU R SS s t x=zEU R' SS s t x:=by
 unfold zEU;rw[zTw h]
def zDT(kind:Int)(R:Rel)(TT:List za)(p x:Int×Int):Bool:=if kind=1 then zCf R TT p.2 x else zEU R TT p.1 p.2 x
def zNA{R R':Rel}(h:SameR R R')(kind:Int)(TT:List za):zDT kind R TT=zDT kind R' TT:=by
 funext p x
 unfold zDT;rw[zF5 h,zNW h]
def all_same{α:Type}{l l':List α}(h:∀ a,a∈l ↔ a∈l')(f:α->Bool):l.all f=l'.all f:=by
 rw[xCT,xCB,xCB];exact⟨λ H a ha=>H a ((h a).2 ha),λ H a ha=>H a ((h a).1 ha)⟩
def zRx(kind:Int)(R:Rel)(SS TT:List za):Bool:=zYn R SS (zDT kind R TT)
def zJK{R R':Rel}(h:SameR R R')(kind:Int)(SS TT:List za):zRx kind R SS TT=zRx kind R' SS TT:=by
 unfold zRx zYn;rw[zNA h];exact all_same h _
def inB(n m:Int)(p:Int×Int):Bool:=decide (p.1<n)&&decide (p.2<m)
def zoe(kind:Int)(prs:Rel)(SS TT:List za)(n m:Int):Bool:=
 prs.all (inB n m)&&(decide ((0,0)∈prs)&&zRx kind prs SS TT&&zRx kind (prs.map zB9) TT SS)
def z7(kind:Int):List Value:=
 if kind=1 then [.func (.func 128) #[] #[],.func (.func 129) #[] #[],.string ⟨#[115,116,114,111,110,103]⟩]
 else [.func (.func 130) #[] #[],.func (.func 131) #[] #[],.string ⟨#[98,114,97,110,99,104,105,110,103]⟩]
def zPQ:Value:=.agg ⟨[.nilFunc,.nilFunc,.string ⟨#[]⟩]++z7 1++z7 2⟩
def pbm1:zAT E 112 (some [(0,(.func (.func 128) #[] #[])),(1,(.func (.func 129) #[] #[])),(2,(.string ⟨#[115,116,114,111,110,103]⟩))])=some (.agg ⟨z7 1⟩):=by kernel_rfl
def pbm2:zAT E 112 (some [(0,(.func (.func 130) #[] #[])),(1,(.func (.func 131) #[] #[])),(2,(.string ⟨#[98,114,97,110,99,104,105,110,103]⟩))])=some (.agg ⟨z7 2⟩):=by kernel_rfl
def pbm:zAT E 113 (some [(1,.agg ⟨z7 1⟩),(2,.agg ⟨z7 2⟩)])=some zPQ:=by kernel_rfl
def pim1:zBl E 113 (some zPQ) (some (iI 1))=some (.agg ⟨z7 1⟩):=by kernel_rfl
def pim2:zBl E 113 (some zPQ) (some (iI 2))=some (.agg ⟨z7 2⟩):=by kernel_rfl
def pim{kind:Int}(h:zBV kind=true):zBl E 113 (some zPQ) (some (iI kind))=some (.agg ⟨z7 kind⟩):=by
 simp only[zBV,xCZ,xBl] at h;rcases h with rfl|rfl
 ·exact pim1
 ·exact pim2
def zX6{k:AH}(aa:k.ok):(zc E).call 79 [] k=some [(zPQ,k)]:=by
 refine zfs aa (by kernel_rfl) (zjt ?_);simp only[zv3,zU,zF,zK];refine zjs ?_;have o1:=(Own.qb k).new (.row [.nilFunc,.nilFunc,.string ⟨#[]⟩,.nilFunc,.nilFunc,.string ⟨#[]⟩,.nilFunc,.nilFunc,.string ⟨#[]⟩] 113 0 false);have t1:=zD k.qb (.row [.nilFunc,.nilFunc,.string ⟨#[]⟩,.nilFunc,.nilFunc,.string ⟨#[]⟩,.nilFunc,.nilFunc,.string ⟨#[]⟩] 113 0 false);generalize k.qb.new (.row [.nilFunc,.nilFunc,.string ⟨#[]⟩,.nilFunc,.nilFunc,.string ⟨#[]⟩,.nilFunc,.nilFunc,.string ⟨#[]⟩] 113 0 false)=k1 at o1 t1;simp only[zR] at t1 ⊢;have af:=zi (P:=E) zrj (o:=0) (x:=zPQ) (cs:=[.nilFunc,.nilFunc,.string ⟨#[]⟩]++z7 1++z7 2) t1 rfl rfl (by simp) (by rfl);simp only[pbm1,pbm2,pbm,zA,af,zF,zwn,zO,xDJ];have g1:(k1.upd k.qa (some (.row (lput [.nilFunc,.nilFunc,.string ⟨#[]⟩,.nilFunc,.nilFunc,.string ⟨#[]⟩,.nilFunc,.nilFunc,.string ⟨#[]⟩] 0 ([.nilFunc,.nilFunc,.string ⟨#[]⟩]++z7 1++z7 2)) 113 0 false))).get k.qa=some (rO ([.nilFunc,.nilFunc,.string ⟨#[]⟩]++z7 1++z7 2) 113):=zH _ _ _;have la:=zN (P:=E) zrp (o:=0) g1 (by decide);have:zC1 E 113 (ptr k.qa) (k1.upd k.qa (some (.row (lput [.nilFunc,.nilFunc,.string ⟨#[]⟩,.nilFunc,.nilFunc,.string ⟨#[]⟩,.nilFunc,.nilFunc,.string ⟨#[]⟩] 0 ([.nilFunc,.nilFunc,.string ⟨#[]⟩]++z7 1++z7 2)) 113 0 false)))=some zPQ:=la;rw[this,zA];exact⟨rfl,zp o1.wm (xAF _)⟩
def GV.fx{k l:AH}{bg:Nat}{SS:List za}(g:GV k bg SS)(f:Fx NoB k l):GV l bg SS:=g.ext ⟨f.ok,f.qa,λ c hc=>f.get c hc (λ h=>h)⟩
def Fx.ext0{k l:AH}(f:Fx NoB k l):Ext k l:=⟨f.ok,f.qa,λ c hc=>f.get c hc (λ h=>h)⟩
def zsH{a b:Option Addr}{m:Nat}:zAT E 178 (some [(0,.agg ⟨zA5 (.pointer a) (.pointer b) m⟩)])=some (.agg ⟨zA5 (.pointer a) (.pointer b) m⟩):=by kernel_rfl
def zpH(kind:Int):FuncId:=if kind=1 then 128 else 130
def ztA(kind:Int):FuncId:=if kind=1 then 129 else 131
def zyo(kind:Int):ByteArray:=if kind=1 then ⟨#[115,116,114,111,110,103]⟩ else ⟨#[98,114,97,110,99,104,105,110,103]⟩
def zGM(kind:Int):z7 kind=[.func (.func (zpH kind)) #[] #[],.func (.func (ztA kind)) #[] #[],.string (zyo kind)]:=by
 unfold z7 zpH ztA zyo;by_cases h:kind=1 <;> simp[h]
def zoC{kind:Int}(h:zBV kind=true):veq 100 (.agg ⟨z7 kind⟩) (.agg ⟨z7 kind⟩)=true:=by
 simp only[zBV,xCZ,xBl] at h;rcases h with rfl|rfl <;> kernel_rfl
def znM{h0 k':AH}{kind:Int}{gx:Value}{bg m ver:Nat}{R:Rel}{SS:List za}(bt:zBV kind=true)(e:Ext h0 k')(hm:h0.get m=some (.map (ent R) ver))(aW:m<h0.qa)(hR:R.Nodup)(hg:GV h0 bg SS)(bY:zQX SS)
  {p x:Int×Int} (h0':0<=p.2) (hN:p.2<(SS.length:Int)):(zc E).call (zpH kind) [.agg ⟨zA5 gx (ptr bg) m⟩,iI p.1,iI p.2,.agg ⟨zC x⟩] k'=some [(.bool (zDT kind R SS p x),k')]:=by
 have eO:=(e.get m aW).trans hm;have dA:=xAC aW e.qa;simp only[zBV,xCZ,xBl] at bt;rcases bt with rfl|rfl
 ·obtain⟨t,ht⟩:=xAp h0';have fQ:t<SS.length:=by omega
  have hS:SS[t]?=some SS[t]:=xAA fQ;have hf:zDT 1 R SS p x=zEi R SS[t] x:=by
   unfold zDT zCf;rw[ht];simp[hS]
  rw[hf,ht];exact zQK e.ok eO dA hR (hg.ext e) hS (by have:=(bY.stp t _ hS).1;omega)
 ·have hf:zDT 2 R SS p x=zEU R SS p.1 p.2 x:=by
   unfold zDT;simp
  rw[hf];exact zqK e.ok eO dA hR (hg.ext e) bY h0' hN
def zwH{k h:AH}{kind:Int}{b1 b2 m ver b8 b11:Nat}{R:Rel}{SS TT:List za}(ho:Own k h)(bt:zBV kind=true)
  (h8:h.get b8=some (.row (zA5 (ptr b1) (ptr b2) m) 176 0 false)) (j7:b8<h.qa) (h11:h.get b11=some (rO (z7 kind) 112)) (h11l:b11<h.qa) (hm:h.get m=some (.map (ent R) ver)) (aW:m<h.qa) (hR:R.Nodup)
  (iU:GV h b1 SS) (fV:GV h b2 TT) (cj:b1<h.qa) (aN:b2<h.qa) (bY:zQX SS) (kr:zQX TT) (ai:∀ p∈R,(0<=p.1/\p.1<(SS.length:Int))/\(0<=p.2/\p.2<(TT.length:Int))) {V:Bool}
  (hV:V=(decide ((0,0)∈R)&&zRx kind R SS TT&&zRx kind (R.map zB9) TT SS)) :
  znw false (KR E [.tmp 6] (λ x l=>x=.bool V/\k.qa<=l.wm)) (ptr b8) (ptr b11) h:=by
 refine zZU ?_;have la:=zN (P:=E) zMR (o:=0) h8 (by simp[zA5]);rw[xCe,xAD (by simp[zA5])] at la;have lm:=zN (P:=E) zmt (o:=0) h11 (by rw[zGM];simp);rw[xCe,xAD (by rw[zGM];simp)] at lm;have hsz:∀(SS:List za),zQX SS->∀(i:Nat) (S:za),SS[i]?=some S->S.length<=1000000:=λ SS hS i S h=>by have:=(hS.stp i S h).1;omega
 have c1:(zc E).call 124 [.agg ⟨zA5 (ptr b1) (ptr b2) m⟩,.agg ⟨z7 kind⟩] h=some [(.bool (zRx kind R SS TT),h)]:=by
  rw[zGM];exact zYK (h0:=h) (Ext.refl ho.ext.ok) hm aW iU (λ p hp=>(ai p hp).1) (hsz SS bY) (λ k' eH p hp x S hS hx=>znM bt eH hm aW hR fV kr (ai p hp).2.1 (ai p hp).2.2)
 simp only[la,lm,zA,zM,zL0 ho.ext.ok hm aW hR,zJ];by_cases e0:((0:Int),(0:Int))∈R
 ·simp only[e0,xDG,zI,zS,xAO,xAG,la,lm,zA,zsH,zM,c1,zJ,zE];cases e1:zRx kind R SS TT with
  | true=>
   simp only[zI,zS,xAO,xAG,la,lm,zA,zM];refine (zqM ho.ext.ok cj aN hm aW).mono λ y hy=>?_;obtain⟨v,h2⟩:=y;obtain⟨m',ver',R',rfl,g1,g2,g3,g4,g5,g6⟩:=hy;simp only at g1 g2 g3 g4 g5 g6;have o2:=g6.own ho (λ _ h=>h.elim);have lm2:=zN (P:=E) zmt (o:=0) ((g6.get b11 h11l (λ h=>h)).trans h11) (by rw[zGM];simp);rw[xCe,xAD (by rw[zGM];simp)] at lm2;have aZ:∀ p∈R',(0<=p.1/\p.1<(TT.length:Int))/\(0<=p.2/\p.2<(SS.length:Int)):=λ p hp=>by
    have:=ai _ ((g5 p).1 hp);exact⟨this.2,this.1⟩
   have c2:(zc E).call 124 [.agg ⟨zA5 (ptr b2) (ptr b1) m'⟩,.agg ⟨z7 kind⟩] h2=some [(.bool (zRx kind R' TT SS),h2)]:=by
    rw[zGM];exact zYK (h0:=h2) (Ext.refl o2.ext.ok) g1 g3 (fV.fx g6) (λ p hp=>(aZ p hp).1) (hsz TT kr) (λ k' eH p hp x S hS hx=>znM bt eH g1 g3 g4 (iU.fx g6) bY (aZ p hp).2.1 (aZ p hp).2.2)
   have aA:SameR R' (R.map zB9):=λ p=>by
    rw[g5,xCv];constructor
    ·intro h;exact⟨_,h,rfl⟩
    ·rintro⟨q,hq,rfl⟩;exact hq
   simp only[zI,zS,xAO,xAG,lm2,zA,zoC bt,zsH,zM,c2,zJ,zE,zAC,zO,xDJ];refine⟨?_,o2.wm⟩;rw[hV,e1,zJK aA];simp[e0]
  | false=>
   simp only[zI,zS,zt,zv,show (false==true)=false from rfl,xAH,zA,zF,zE,show veq 100 undef undef=true from by kernel_rfl,zAC,zO,xDJ];exact⟨by rw[hV,e1];simp,ho.wm⟩
 ·simp only[e0,xCz,zI,zS,zt,zv,show (false==true)=false from rfl,xAH,zA,zF,zE,show veq 100 undef undef=true from by kernel_rfl,zAC,zO,xDJ];exact⟨by rw[hV];simp[e0],ho.wm⟩
def zni{h:AH}{kind:Int}:zAM E 112 (h.new (.row [.nilFunc,.nilFunc,.string ⟨#[]⟩] 112 0 false)) (some (ptr h.qa)) (some (.agg ⟨z7 kind⟩))=one (undef,(h.new (.row [.nilFunc,.nilFunc,.string ⟨#[]⟩] 112 0 false)).upd h.qa (some (rO (z7 kind) 112))):=by
 rw[zi (P:=E) zrk (x:=.agg ⟨z7 kind⟩) (cs:=z7 kind) (zD h _) rfl (by rw[zGM];rfl) (by simp) (by rw[zGM];rfl)];rw[zGM];rfl
def zwI{k h:AH}{kind:Int}{vp:Value}{b1 b2 m ver b5 b8:Nat}{R:Rel}{SS TT:List za}(ho:Own k h)(bt:zBV kind=true)
  (h5:h.get b5=some (rO [iI kind,vp] 32)) (h5l:b5<h.qa)
  (h8:h.get b8=some (.row (zA5 (ptr b1) (ptr b2) m) 176 0 false)) (j7:b8<h.qa) (hm:h.get m=some (.map (ent R) ver)) (aW:m<h.qa) (hR:R.Nodup)
  (iU:GV h b1 SS) (fV:GV h b2 TT) (cj:b1<h.qa) (aN:b2<h.qa) (bY:zQX SS) (kr:zQX TT) (ai:∀ p∈R,(0<=p.1/\p.1<(SS.length:Int))/\(0<=p.2/\p.2<(TT.length:Int))) {V:Bool}
  (hV:V=(decide ((0,0)∈R)&&zRx kind R SS TT&&zRx kind (R.map zB9) TT SS)) :
  zuA false (KR E [.tmp 6] (λ x l=>x=.bool V/\k.qa<=l.wm)) (ptr b5) (ptr b8) h:=by
 refine zZV ?_;have l5:=zB (P:=E) zAE (o:=0) h5;simp only[lnth] at l5;have l5n:zb E 3 (h.new (.row [.nilFunc,.nilFunc,.string ⟨#[]⟩] 112 0 false)) (some (ptr b5))=some (iI kind):=by
  have:=zB (P:=E) zAE (o:=0) ((zG (o:=.row [.nilFunc,.nilFunc,.string ⟨#[]⟩] 112 0 false) (by omega)).trans h5);simpa only[lnth] using this
 have fxf:Fx NoB h ((h.new (.row [.nilFunc,.nilFunc,.string ⟨#[]⟩] 112 0 false)).upd h.qa (some (rO (z7 kind) 112))):=((Fx.refl ho.ext.ok).new _).upd (.inr (xAF _)) _;have ez:∀ c,c<h.qa->((h.new (.row [.nilFunc,.nilFunc,.string ⟨#[]⟩] 112 0 false)).upd h.qa (some (rO (z7 kind) 112))).get c=h.get c:=λ c hc=>fxf.get c hc (λ h=>h);have dO:((h.new (.row [.nilFunc,.nilFunc,.string ⟨#[]⟩] 112 0 false)).upd h.qa (some (rO (z7 kind) 112))).qa=h.qa+1:=rfl;have fin:znw false (KR E [.tmp 6] (λ x l=>x=.bool V/\k.qa<=l.wm)) (ptr b8) (ptr h.qa) ((h.new (.row [.nilFunc,.nilFunc,.string ⟨#[]⟩] 112 0 false)).upd h.qa (some (rO (z7 kind) 112))):=
  zwH (fxf.own ho (λ _ h=>h.elim)) bt ((ez _ j7).trans h8) (by omega) (zH _ _ _) (by omega) ((ez _ aW).trans hm) (by omega) hR (iU.fx fxf) (fV.fx fxf) (by omega) (by omega) bY kr ai hV
 have hok1:(h.new (.row [.nilFunc,.nilFunc,.string ⟨#[]⟩] 112 0 false)).ok:=zBb ho.ext.ok _;simp only[zDV,xCu,l5,zA,zM,zX6 ho.ext.ok,zX6 hok1,zJ,zBF,xDJ,pim bt,zrV,zU,zF,zK,l5n,zni];exact⟨fin,fin⟩
def GV.fxm{k l:AH}{bg m ver:Nat}{SS:List za}{es:List (Value×Value)}(g:GV k bg SS)(f:Fx (λ c=>c=m) k l)(hm:k.get m=some (.map es ver)):GV l bg SS:=by
 obtain⟨loc,bs,cells,G⟩:=g.ex;have aj:∀ {a:Nat} {vs:List Value} {ty es:Nat} {ro:Bool},k.get a=some (.row vs ty es ro)->a≠m:=by
  rintro a vs ty es ro h rfl;rw[hm] at h;cases h
 refine⟨loc,bs,cells,(f.get bg G.ltg (aj G.g)).trans G.g,(f.get bs G.lts (aj G.s)).trans G.s,G.len,G.ne,xAC G.ltg f.qa,xAC G.lts f.qa,G.locg,G.locs,λ i c S hc hS=>?_,G.blk,G.dis⟩;rcases G.cell i c S hc hS with a|⟨b,a1,a2,a3⟩
 ·exact .inl a
 ·exact .inr ⟨b,a1,(f.get b a3 (aj a2)).trans a2,xAC a3 f.qa⟩
def zMq{k:AH}{a m ver:Nat}{vs:List Value}{ty es:Nat}{ro:Bool}{en:List (Value×Value)}(h:k.get a=some (.row vs ty es ro))(hm:k.get m=some (.map en ver)):a≠m:=by
 rintro rfl;rw[hm] at h;cases h
def rel4{k h1:AH}{kind n1 n2:Int}{vp vl ve wl we:Value}{prs:Rel}{b1 b2 m b3 b4 b5 b8 ver0:Nat}{es0:List (Value×Value)}{SS TT:List za}(bt:zBV kind=true)
  (iq:h1.get m=some (.map es0 ver0)) (aW:m<h1.qa) (jy:k.qa<=m)
  (h3:h1.get b3=some (rO [iI n1,vl,ve] 25)) (h3l:b3<h1.qa) (h4:h1.get b4=some (rO [iI n2,wl,we] 25)) (h4l:b4<h1.qa)
  (h5:h1.get b5=some (rO [iI kind,vp] 32)) (h5l:b5<h1.qa)
  (h8:h1.get b8=some (.row (zA5 (ptr b1) (ptr b2) m) 176 0 false)) (j7:b8<h1.qa)
  (iU:GV h1 b1 SS) (fV:GV h1 b2 TT) (cj:b1<h1.qa) (aN:b2<h1.qa) (bY:zQX SS) (kr:zQX TT) (hn1:n1=(SS.length:Int)) (iL:n2=(TT.length:Int))
  {ap:Option Addr} {cp:Nat} (c9:vp=.slice ap prs.length cp) (ha:Arr k 2 vp (prs.map zC)) (iH:prs.length<=200000) (cP:∀ p∈prs,0<=p.1/\0<=p.2) {V:Bool} (hV:V=zoe kind prs SS TT n1 n2) :
  ∀(r i:Nat),i+r=prs.length->∀ h Rn ver,Own k h->Fx (λ c=>c=m) h1 h->h.get m=some (.map (ent Rn) ver)->Rn.Nodup->(∀ p,p∈Rn ↔ p∈prs.take i)->(prs.take i).all (inB n1 n2)=true->
   zxf false (KR E [.tmp 6] (λ x l=>x=.bool V/\k.qa<=l.wm)) (ptr b3) (ptr b4) (ptr b5) (ptr b8) vp (iI (prs.length:Int)) (iI (i:Int)) h:=by
 intro r
 induction r with
 | zero=>
  intro i hi h Rn ver ho f hm bp aO aD;refine zSA ?_;have:¬ ((i:Int)<(prs.length:Int)):=by omega
  simp only[zP,zA,this,xCz,zZ];rw[xAD (by omega)] at aO aD;have ai:∀ p∈Rn,(0<=p.1/\p.1<(SS.length:Int))/\(0<=p.2/\p.2<(TT.length:Int)):=λ p hp=>by
   have hp':=(aO p).1 hp;have mv:=xCB.1 aD p hp';simp only[inB,xAP,xBl] at mv;have h2':=cP p hp';omega
  have dO:=f.qa;refine zwI ho bt ((f.get b5 h5l (zMq h5 iq)).trans h5) (by omega) ((f.get b8 j7 (zMq h8 iq)).trans h8) (by omega) hm (by omega) bp (iU.fxm f iq) (fV.fxm f iq) (by omega) (by omega) bY kr ai ?_;rw[hV];unfold zoe;rw[aD,SameR.dec aO,zJK aO,zJK (R:=Rn.map zB9) (R':=prs.map zB9) (λ p=>by
   simp only[xCv];exact⟨λ ⟨q,a,b⟩=>⟨q,(aO q).1 a,b⟩,λ ⟨q,a,b⟩=>⟨q,(aO q).2 a,b⟩⟩)]
  rfl
 | succ r ih=>
  intro i hi h Rn ver ho f hm bp aO aD;have ai:i<prs.length:=by omega
  refine zSA ?_;have ab:((i:Int)<(prs.length:Int)):=by omega
  simp only[zP,zA,ab,xDG,ze];refine zj2 ?_;have aU:(prs.map zC)[i]?=some (zC prs[i]):=by simp[ai]
  obtain⟨b,o,c,vs,ty,es,ro,hv,hb,aI,bK,hz,bN⟩:=ha.load aU;have hp:=cP prs[i] (xCF ai);have gW:prs.take (i+1)=prs.take i++[prs[i]]:=by rw[xBw];simp[ai]
  have jn:prs[i]∈prs:=xCF ai;generalize prs[i]=p at hz hp gW jn;rw[c9] at hv;simp only[xBu] at hv;obtain⟨bP,_,_⟩:=hv;subst bP;have gb:=(ho.ext.get b aI).trans hb;simp only[c9,zXg ai,zA,zN zLL gb bK,hz,zvH,zU,zF,zK,zqU];refine zj1 ?_;have fb:Fx NoB h ((h.new (rO [iI 0,iI 0] 54)).upd h.qa (some (rO (zC p) 54))):=((Fx.refl ho.ext.ok).new _).upd (.inr (xAF _)) _;have tb:((h.new (rO [iI 0,iI 0] 54)).upd h.qa (some (rO (zC p) 54))).get h.qa=some (rO (zC p) 54):=zH _ _ _;have nb:((h.new (rO [iI 0,iI 0] 54)).upd h.qa (some (rO (zC p) 54))).qa=h.qa+1:=rfl;generalize ((h.new (rO [iI 0,iI 0] 54)).upd h.qa (some (rO (zC p) 54)))=k1 at fb tb nb;have o1:=fb.own ho (λ _ h=>h.elim);have f1:Fx (λ c=>c=m) h1 k1:=f.trans fb (λ _ h=>h.elim);have ip:k1.get m=_:=(fb.get m (by have:=f.qa;omega) (λ h=>h)).trans hm;have c0:=zB (P:=E) zAE (o:=0) tb;have c1:=zB (P:=E) zAE (o:=1) tb;have x0:=zB (P:=E) zAE (o:=0) ((f1.get b3 h3l (zMq h3 iq)).trans h3);have y0:=zB (P:=E) zAE (o:=0) ((f1.get b4 h4l (zMq h4 iq)).trans h4);simp only[lnth,zC] at c0 c1 x0 y0;simp only[zD9,zEb,c0,zAP,xCu,x0,zA,zBY];have bad:inB n1 n2 p=false->zxe false (KR E [.tmp 6] (λ x l=>x=.bool V/\k.qa<=l.wm)) k1:=by
   intro hb;refine zj0 ?_;simp only[zA,zAC,zO,xDJ];refine⟨?_,o1.wm⟩;rw[hV];have:prs.all (inB n1 n2)=false:=by
    rw[List.all_eq_false];exact⟨p,jn,by rw[hb];simp⟩
   unfold zoe;rw[this];rfl
  by_cases e1:n1<=p.1
  ·simp only[e1,xDG,zI,show (true==false)=false from rfl,xAH,zA,zE,xAG,ze];exact bad (by simp[inB];omega)
  ·simp only[e1,xCz,zI,xAO,xAG,c1,zAP,xCu,y0,zA,zBY,zE,xAH];by_cases e2:n2<=p.2
   ·simp only[e2,xDG,ze];exact bad (by simp[inB];omega)
   ·simp only[e2,xCz,zZ];refine zjz ?_;have l8:=zB (P:=E) zMS (o:=2) ((f1.get b8 j7 (zMq h8 iq)).trans h8);simp only[lnth,zA5] at l8;have lp:=zN (P:=E) zLL (o:=0) tb (by simp[zC]);rw[xCe,xAD (by simp[zC])] at lp;obtain⟨R',u1,u2,u3⟩:=zmm ip bp p;simp only[zGW,xAK,l8,lp,zA,u1,zF];refine zjy ?_;simp only[zk _ (zCS ai (by omega)),zA];have f2:Fx (λ c=>c=m) h1 (k1.upd m (some (.map (ent R') (ver+1)))):=f1.upd (.inl rfl) _;have f3:Fx (λ c=>c=m) k1 (k1.upd m (some (.map (ent R') (ver+1)))):=Fx.upd (P:=λ c=>c=m) (Fx.refl o1.ext.ok) (.inl rfl) _;have:=ih (i+1) (by omega) _ R' (ver+1) (f3.own o1 (λ c h=>by rw[h];exact jy)) f2 (zH _ _ _) u2 (λ q=>by
     rw[u3,aO,gW,xCU,xAE];exact Or.comm) (by
     rw[gW,List.all_append,aD];simp[inB];omega)
    rw[c9] at this;simpa using this
def zVy(n:Nat)(a:Option Addr):veq n (.pointer a) (.pointer a)=true:=by cases n <;> (show decide (a=a)=true;simp)
def ztX{a b c a' b' c':Value}{h:AH}:zg E 82 2 (some [(0,.agg #[a,b,c]),(1,.agg #[a',b',c'])]) h=one (.slice (some ⟨h.qa,0,none⟩) 2 2,h.new (rO [a,b,c,a',b',c'] 25)):=by kernel_rfl
def zVe(L M:GL)(B:GB):Bool:=match zGP [L,M] with
 | [SS,TT]=>zoe B.kind B.prs SS TT L.n M.n
 | _=>false
def GrOf.ss{L:GL}{x:Gr}{loc:Nat}{h:AH}(g:GrOf L x)(G:GG loc h x.1 x.2.1 x.2.2.1 x.2.2.2)(hL:zT L=false):zQX x.2.2.2/\L.n=(x.2.2.2.length:Int):=by
 have hs:=zf hL;have h1:=g.1;have h2:=G.len;refine⟨⟨by omega,λ i S hS=>?_⟩,by omega⟩;obtain⟨a,b⟩:=g.2 i S hS;refine⟨by omega,λ y hy=>?_⟩;have:=(a y hy).1;omega
def znB{B:GB}(h:zAt B=0):zBV B.kind=true/\B.prs.length<=200000/\∀ p∈B.prs,0<=p.1/\0<=p.2:=by
 unfold zAt at h;cases h1:zBV B.kind with
 | false=>rw[h1] at h;simp at h
 | true=>
  rw[h1] at h;simp only[Bool.true_eq_false,xDI] at h;by_cases h2:200000<B.prs.length
  ·rw[xDO h2] at h;omega
  ·rw[xDN h2] at h;cases h3:zn (zA6 B.prs) B.prs.length 0 with
   | true=>rw[h3] at h;simp at h
   | false=>
    refine⟨rfl,by omega,λ p hp=>?_⟩;obtain⟨i,hi⟩:=xAy.1 hp;have:=zAr h3 i (xDF _) (by have:=(xAc.1 hi).1;omega);unfold zA6 at this;rw[hi] at this;simp only[xBJ,xAk] at this;omega
def ztJ{k:AH}{x y:Value}{e:List Value}{L M:GL}{B:GB}(aa:k.ok)(hx:RL k x L)(hy:RL k y M)(hL:zT L=false)(hM:zT M=false)(he:RB k e B)(hB:zAt B=0) :
  (zc E).call 72 [x,y,.agg ⟨e⟩] k=some [(.bool (zVe L M B),k)]:=by
 obtain⟨vl,ve,elsL,rfl,x2,x3,x4⟩:=hx.ex;obtain⟨wl,we,elsM,rfl,y2,y3,y4⟩:=hy.ex;obtain⟨vp,rfl,e2⟩:=he.ex;obtain⟨bt,iH,cP⟩:=znB hB;refine zly (s:=false) aa rfl (zj6 ?_);simp only[zU,zF,zK,zA];refine zj5 ?_;have o1:=(((Own.qb k).new (rO [iI L.n,vl,ve] 25)).new (rO [iI M.n,wl,we] 25)).new (rO [iI B.kind,vp] 32);have g3:(((k.qb.new (rO [iI L.n,vl,ve] 25)).new (rO [iI M.n,wl,we] 25)).new (rO [iI B.kind,vp] 32)).get k.qa=some (rO [iI L.n,vl,ve] 25):=
  (zG (by simp;omega)).trans ((zG (by simp)).trans (zD k.qb _))
 have g4:(((k.qb.new (rO [iI L.n,vl,ve] 25)).new (rO [iI M.n,wl,we] 25)).new (rO [iI B.kind,vp] 32)).get (k.qa+1)=some (rO [iI M.n,wl,we] 25):=
  (zG (by simp)).trans (zD (k.qb.new _) _)
 have g5:(((k.qb.new (rO [iI L.n,vl,ve] 25)).new (rO [iI M.n,wl,we] 25)).new (rO [iI B.kind,vp] 32)).get (k.qa+2)=some (rO [iI B.kind,vp] 32):=zD ((k.qb.new _).new _) _;have n1:(((k.qb.new (rO [iI L.n,vl,ve] 25)).new (rO [iI M.n,wl,we] 25)).new (rO [iI B.kind,vp] 32)).qa=k.qa+3:=rfl;simp only[zR,AH.next_new];generalize (((k.qb.new (rO [iI L.n,vl,ve] 25)).new (rO [iI M.n,wl,we] 25)).new (rO [iI B.kind,vp] 32))=k1 at o1 g3 g4 g5 n1;have la:=zN (P:=E) zBT (o:=0) g3 (by simp);have lb:=zN (P:=E) zBT (o:=0) g4 (by simp);simp only[xCe,List.take] at la lb;simp only[la,lb,zA,ztX,zF,zM];have o2:=o1.new (rO [iI L.n,vl,ve,iI M.n,wl,we] 25);have t2:=zD k1 (rO [iI L.n,vl,ve,iI M.n,wl,we] 25);have g3':(k1.new (rO [iI L.n,vl,ve,iI M.n,wl,we] 25)).get k.qa=_:=(zG (by omega)).trans g3;have g4':(k1.new (rO [iI L.n,vl,ve,iI M.n,wl,we] 25)).get (k.qa+1)=_:=(zG (by omega)).trans g4;have g5':(k1.new (rO [iI L.n,vl,ve,iI M.n,wl,we] 25)).get (k.qa+2)=_:=(zG (by omega)).trans g5;have n2:(k1.new (rO [iI L.n,vl,ve,iI M.n,wl,we] 25)).qa=k1.qa+1:=rfl;generalize (k1.new (rO [iI L.n,vl,ve,iI M.n,wl,we] 25))=k2 at o2 t2 g3' g4' g5' n2;have ao:Args k2 (.slice (some ⟨k1.qa,0,none⟩) 2 2) [[iI L.n,vl,ve],[iI M.n,wl,we]] [L,M]:=by
  refine⟨?_,rfl,by simp,λ i ee LL h1 h2=>?_,λ i LL h=>?_⟩
  ·refine Arr.row (els:=[[iI L.n,vl,ve],[iI M.n,wl,we]]) t2 (by omega) (by simp) (λ i ee aC=>?_)
   match i with
   | 0=>simp at aC;subst aC;exact⟨rfl,rfl⟩
   | 1=>simp at aC;subst aC;exact⟨rfl,rfl⟩
   | i+2=>simp at aC
  ·match i with
   | 0=>simp at h1 h2;subst h1 h2;exact hx.ext o2.ext
   | 1=>simp at h1 h2;subst h1 h2;exact hy.ext o2.ext
   | i+2=>simp at h1
  ·match i with
   | 0=>simp at h;subst h;exact hL
   | 1=>simp at h;subst h;exact hM
   | i+2=>simp at h
 refine ((znZ o2.ext.ok (by simp) ao).weak).mono λ z hz=>?_;obtain⟨gs,hO,hlen,eS,eN,fx⟩:=hz;obtain⟨out,k3⟩:=z;simp only at hO fx ⊢
 match gs,hlen with
 | [x1,x2],_=>
  have o3:=fx.own o2 (λ _ h=>h.elim);have G1:=hO.gg x1 (by simp);have G2:=hO.gg x2 (by simp);obtain⟨s1,s2⟩:=(eS 0 x1 L rfl rfl).ss G1 hL;obtain⟨r1,r2⟩:=(eS 1 x2 M rfl rfl).ss G2 hM;have V1:GV k3 x1.1 x1.2.2.2:=⟨_,_,_,G1⟩;have V2:GV k3 x2.1 x2.2.2.2:=⟨_,_,_,G2⟩;have hrv:zVe L M B=zoe B.kind B.prs x1.2.2.2 x2.2.2.2 L.n M.n:=by
   unfold zVe;rw[← eN];rfl
  rcases hO.sl with ⟨_,h⟩|⟨bo,rfl,iy,fI,lY⟩
  ·cases h
  ·have p3:k3.get k.qa=_:=(fx.get _ (by omega) (λ h=>h)).trans g3';have p4:k3.get (k.qa+1)=_:=(fx.get _ (by omega) (λ h=>h)).trans g4';have p5:k3.get (k.qa+2)=_:=(fx.get _ (by omega) (λ h=>h)).trans g5';have dO:=fx.qa;refine zj4 ?_;have m0:=zB (P:=E) zCU (o:=0) iy;have m1:=zB (P:=E) zCU (o:=1) iy;simp only[xCi,xCy,lnth] at m0 m1;have i0:zV E 126 (some (.slice (some ⟨bo,0,none⟩) [x1,x2].length (UNK+1))) (some (iI 0))=some (.pointer (some ⟨bo,0,none⟩)):=zRP (k:=0) (by simp);have i1:zV E 126 (some (.slice (some ⟨bo,0,none⟩) [x1,x2].length (UNK+1))) (some (iI 1))=some (.pointer (some ⟨bo,1,none⟩)):=zRP (k:=1) (by simp);have rest:∀(h:AH) (m b8 ver:Nat),Fx NoB k3 h->h.get m=some (.map (ent []) ver)->m<h.qa->k3.qa<=m->h.get b8=some (.row (zA5 (ptr x1.1) (ptr x2.1) m) 176 0 false)->b8<h.qa->
     zxg false (KR E [.tmp 6] (λ x l=>x=.bool (zVe L M B)/\k.qa<=l.wm)) (ptr k.qa) (ptr (k.qa+1)) (ptr (k.qa+2)) (ptr b8) h:=by
    intro h m b8 ver f hm aW jy h8 j7;refine zj3 ?_;have fn:=f.qa;have w3:=(f.get k.qa (by omega) (λ h=>h)).trans p3;have w4:=(f.get (k.qa+1) (by omega) (λ h=>h)).trans p4;have w5:=(f.get (k.qa+2) (by omega) (λ h=>h)).trans p5;have l1:=zB (P:=E) zEc (o:=1) w5;simp only[lnth] at l1;obtain⟨ap,cp,c9⟩:=e2.slice;rw[xCY] at c9;rw[c9] at l1;simp only[zAZ,xAK,l1,zA,zXC];have:=rel4 (k:=k) (h1:=h) (kind:=B.kind) (prs:=B.prs) (V:=zVe L M B) bt hm aW (by omega) w3 (by omega) w4 (by omega) w5 (by omega) h8 j7 (V1.fx f) (V2.fx f) (by have:=G1.ltg;omega) (by have:=G2.ltg;omega) s1 r1 s2 r2 c9 e2 iH cP hrv
     B.prs.length 0 (by omega) h [] ver (f.own o3 (λ _ h=>h.elim)) (Fx.refl f.ok) hm (by simp) (by simp) (by simp)
    rw[c9] at this;simpa using this
   have aj:∀ {o:AObj} {c:Nat},c<k3.qa->(k3.new o).get c=k3.get c:=λ hc=>zG (by omega);have fz:∀ {o o':AObj} {c:Nat},c<k3.qa->((k3.new o).new o').get c=k3.get c:=λ hc=>(zG (by simp;omega)).trans (zG (by omega));have a0:∀ {o:AObj},zb E 128 (k3.new o) (sP bo 0)=some (ptr x1.1):=λ {o}=>by
    have:=zB (P:=E) zCU (o:=0) ((aj (o:=o) fI).trans iy);simpa only[xCi,xCy,lnth] using this
   have a1:∀ {o:AObj},zb E 128 (k3.new o) (some (.pointer (some ⟨bo,1,none⟩)))=some (ptr x2.1):=λ {o}=>by
    have:=zB (P:=E) zCU (o:=1) ((aj (o:=o) fI).trans iy);simpa only[xCi,xCy,lnth] using this
   have b0:∀ {o o':AObj},zb E 128 ((k3.new o).new o') (sP bo 0)=some (ptr x1.1):=λ {o o'}=>by
    have:=zB (P:=E) zCU (o:=0) ((fz (o:=o) (o':=o') fI).trans iy);simpa only[xCi,xCy,lnth] using this
   have b1:∀ {o o':AObj},zb E 128 ((k3.new o).new o') (some (.pointer (some ⟨bo,1,none⟩)))=some (ptr x2.1):=λ {o o'}=>by
    have:=zB (P:=E) zCU (o:=1) ((fz (o:=o) (o':=o') fI).trans iy);simpa only[xCi,xCy,lnth] using this
   have hst2:=zi (P:=E) zQj (o:=0) (h:=(k3.new (rO [.pointer none,.pointer none,.map none] 176)).new (.map [] 0)) (x:=.agg ⟨zA5 (ptr x1.1) (ptr x2.1) (k3.qa+1)⟩) (cs:=zA5 (ptr x1.1) (ptr x2.1) (k3.qa+1)) ((zG (by simp)).trans (zD k3 _)) rfl rfl (by simp) (by simp[zA5,zl]);have hst1:=zi (P:=E) zQj (o:=0) (h:=(k3.new (.map [] 0)).new (rO [.pointer none,.pointer none,.map none] 176)) (b:=k3.qa+1) (x:=.agg ⟨zA5 (ptr x1.1) (ptr x2.1) k3.qa⟩) (cs:=zA5 (ptr x1.1) (ptr x2.1) k3.qa) (zD (k3.new _) _) rfl rfl (by simp) (by simp[zA5,zl]);simp only[zA,i0,i1,m0,m1,zF,a0,a1,b0,b1,zVy,xDJ,zsI,zn7,zU,zK,AH.next_new,hst1,hst2];refine⟨?_,?_⟩
   ·have ff:Fx NoB k3 (((k3.new (.map [] 0)).new (rO [.pointer none,.pointer none,.map none] 176)).upd (k3.qa+1) (some (.row (zA5 (ptr x1.1) (ptr x2.1) k3.qa) 176 0 false))):=(((Fx.refl o3.ext.ok).new _).new _).upd (.inr (by omega)) _;exact rest _ k3.qa (k3.qa+1) 0 ff ((zL (by omega)).trans ((zG (by simp)).trans (zD k3 _))) (by show k3.qa<k3.qa+2;omega) (xAF _) (zH _ _ _) (by show k3.qa+1<k3.qa+2;omega)
   ·have ff:Fx NoB k3 (((k3.new (rO [.pointer none,.pointer none,.map none] 176)).new (.map [] 0)).upd k3.qa (some (.row (zA5 (ptr x1.1) (ptr x2.1) (k3.qa+1)) 176 0 false))):=(((Fx.refl o3.ext.ok).new _).new _).upd (.inr (xAF _)) _;exact rest _ (k3.qa+1) k3.qa 0 ff ((zL (by omega)).trans (zD (k3.new _) _)) (by show k3.qa+1<k3.qa+2;omega) (by omega) (zH _ _ _) (by show k3.qa<k3.qa+2;omega)
def bs83{a b:Value}{h:AH}:zg E 83 1 (some [(0,.agg #[a,b])]) h=one (.slice (some ⟨h.qa,0,none⟩) 1 1,h.new (rO [a,b] 32)):=by kernel_rfl
def zJD(L M:GL)(B:GB):Int:=if zT L||zT M then 8 else if zAt B≠0 then zAt B else if zVe L M B then 0 else 360
def ztT{k:AH}{x y:Value}{e:List Value}{L M:GL}{B:GB}(aa:k.ok)(hx:RL k x L)(hy:RL k y M)(he:RB k e B) :
  (zc E).call 15 [x,y,.agg ⟨e⟩] k=some [(iI (zJD L M B),k)]:=by
 obtain⟨vl,ve,elsL,rfl,x2,x3,x4⟩:=id hx.ex;obtain⟨wl,we,elsM,rfl,y2,y3,y4⟩:=id hy.ex;obtain⟨vp,rfl,e2⟩:=id he.ex;refine zmG (s:=true) aa rfl (zld ?_);simp only[zU,zF,zK,zA];refine zlc ?_;have o1:=(((Own.qb k).new (rO [iI L.n,vl,ve] 25)).new (rO [iI M.n,wl,we] 25)).new (rO [iI B.kind,vp] 32);have g3:(((k.qb.new (rO [iI L.n,vl,ve] 25)).new (rO [iI M.n,wl,we] 25)).new (rO [iI B.kind,vp] 32)).get k.qa=some (rO [iI L.n,vl,ve] 25):=
  (zG (by simp;omega)).trans ((zG (by simp)).trans (zD k.qb _))
 have g4:(((k.qb.new (rO [iI L.n,vl,ve] 25)).new (rO [iI M.n,wl,we] 25)).new (rO [iI B.kind,vp] 32)).get (k.qa+1)=some (rO [iI M.n,wl,we] 25):=
  (zG (by simp)).trans (zD (k.qb.new _) _)
 have g5:(((k.qb.new (rO [iI L.n,vl,ve] 25)).new (rO [iI M.n,wl,we] 25)).new (rO [iI B.kind,vp] 32)).get (k.qa+2)=some (rO [iI B.kind,vp] 32):=zD ((k.qb.new _).new _) _;have n1:(((k.qb.new (rO [iI L.n,vl,ve] 25)).new (rO [iI M.n,wl,we] 25)).new (rO [iI B.kind,vp] 32)).qa=k.qa+3:=rfl;simp only[zR,AH.next_new];generalize (((k.qb.new (rO [iI L.n,vl,ve] 25)).new (rO [iI M.n,wl,we] 25)).new (rO [iI B.kind,vp] 32))=k1 at o1 g3 g4 g5 n1;have la:=zN (P:=E) zBT (o:=0) g3 (by simp);have lb:=zN (P:=E) zBT (o:=0) g4 (by simp);simp only[xCe,List.take] at la lb;have o2:=o1.new (rO [iI L.n,vl,ve,iI M.n,wl,we] 25);have t2:=zD k1 (rO [iI L.n,vl,ve,iI M.n,wl,we] 25);have n2:(k1.new (rO [iI L.n,vl,ve,iI M.n,wl,we] 25)).qa=k1.qa+1:=rfl;have g3':(k1.new (rO [iI L.n,vl,ve,iI M.n,wl,we] 25)).get k.qa=_:=(zG (by omega)).trans g3;have g4':(k1.new (rO [iI L.n,vl,ve,iI M.n,wl,we] 25)).get (k.qa+1)=_:=(zG (by omega)).trans g4;have g5':(k1.new (rO [iI L.n,vl,ve,iI M.n,wl,we] 25)).get (k.qa+2)=_:=(zG (by omega)).trans g5;simp only[la,lb,zA,ztX,zF,zM];generalize (k1.new (rO [iI L.n,vl,ve,iI M.n,wl,we] 25))=k2 at o2 t2 n2 g3' g4' g5';have c7:=zRp (h0:=k2) (k:=k2) (v:=.slice (some ⟨k1.qa,0,none⟩) 2 2) (els:=[[iI L.n,vl,ve],[iI M.n,wl,we]]) (Ls:=[L,M])
  (Arr.row (els:=[[iI L.n,vl,ve],[iI M.n,wl,we]]) t2 (by omega) (by simp) (λ i ee aC=>by
   match i with
   | 0=>simp at aC;subst aC;exact⟨rfl,rfl⟩
   | 1=>simp at aC;subst aC;exact⟨rfl,rfl⟩
   | i+2=>simp at aC)) rfl (by simp) (λ i ee LL h1 h2=>by
   match i with
   | 0=>simp at h1 h2;subst h1 h2;exact hx.ext o2.ext
   | 1=>simp at h1 h2;subst h1 h2;exact hy.ext o2.ext
   | i+2=>simp at h1) (Ext.refl o2.ext.ok)
 have bD:zn (zHt [L,M]) 2 0=(zT L||zT M):=by
  simp[zn,zHt]
 simp only[xCG,xCR,bD] at c7;simp only[c7,zJ];refine zlb ?_;cases hb:(zT L||zT M) with
 | true=>
  simp only[xDM,zA,zAS,show decide ((8:Int)=0)=false from rfl,xAM,ze];refine zla ?_;simp only[zA,zAC,zO,xDJ];exact⟨by simp[zJD,hb],o2.wm⟩
 | false=>
  obtain⟨hL,hM⟩:=xBJ.1 hb;simp only[xBX,xDI,zA,zAS,xDG,xAL,zZ];refine zlZ ?_;have lc:=zN (P:=E) zD1 (o:=0) g5' (by simp);simp only[xCe,List.take] at lc;simp only[lc,zA,bs83,zF,zM];have o3:=o2.new (rO [iI B.kind,vp] 32);have t3:=zD k2 (rO [iI B.kind,vp] 32);have g3'':(k2.new (rO [iI B.kind,vp] 32)).get k.qa=_:=(zG (by omega)).trans g3';have g4'':(k2.new (rO [iI B.kind,vp] 32)).get (k.qa+1)=_:=(zG (by omega)).trans g4';have g5'':(k2.new (rO [iI B.kind,vp] 32)).get (k.qa+2)=_:=(zG (by omega)).trans g5';have n3:(k2.new (rO [iI B.kind,vp] 32)).qa=k2.qa+1:=rfl;generalize (k2.new (rO [iI B.kind,vp] 32))=k3 at o3 t3 g3'' g4'' g5'' n3;have jQ:=ztK (h0:=k3) (k:=k3) (v:=.slice (some ⟨k2.qa,0,none⟩) 1 1) (els:=[[iI B.kind,vp]]) (Bs:=[B])
   (Arr.row (els:=[[iI B.kind,vp]]) t3 (by omega) (by simp) (λ i ee aC=>by
    match i with
    | 0=>simp at aC;subst aC;exact⟨rfl,rfl⟩
    | i+1=>simp at aC)) rfl (by simp) (λ i ee BB h1 h2=>by
    match i with
    | 0=>simp at h1 h2;subst h1 h2;exact he.ext o3.ext
    | i+1=>simp at h1) (Ext.refl o3.ext.ok)
  have herr:zBq [B] 1 0=zAt B:=by
   simp only[zBq,zPy,xAl];by_cases h:zAt B=0 <;> simp[h]
  simp only[xCG,xCR] at jQ;rw[show (0+1:Nat)=1 from rfl,herr] at jQ;simp only[jQ,zJ];refine zlY ?_;by_cases bK:zAt B=0
  ·simp only[zA,zAS,bK,xDG,xAL,zZ];refine zlW ?_;have la:=zN (P:=E) zBT (o:=0) g3'' (by simp);have lb:=zN (P:=E) zBT (o:=0) g4'' (by simp);have lc:=zN (P:=E) zD1 (o:=0) g5'' (by simp);simp only[xCe,List.take] at la lb lc;simp only[la,lb,lc,zA,zM,ztJ o3.ext.ok (hx.ext o3.ext) (hy.ext o3.ext) hL hM (he.ext o3.ext) bK,zJ,zq,zAq];refine⟨λ h=>zlV ?_,λ h=>zlU ?_⟩
   ·simp only[zA,zAC,zO,xDJ];have:zVe L M B=false:=by simpa using h
    exact⟨by simp[zJD,hb,bK,this],o3.wm⟩
   ·simp only[zA,zAC,zO,xDJ];have:zVe L M B=true:=by simpa using h
    exact⟨by simp[zJD,hb,bK,this],o3.wm⟩
  ·simp only[zA,zAS,bK,xCz,xAM,ze];refine zlX ?_;simp only[zA,zAC,zO,xDJ];exact⟨by simp[zJD,hb,bK],o3.wm⟩
def zIS{nums:List Int}:∀ {l:List (Int×Int×Int)} {SS:List za},(zDN nums SS l).length=SS.length
 | [],_=>rfl
 | e::l,SS=>by simp only[zDN];rw[zIS];simp
def zAx(nums:List Int)(L:GL):(zAO nums L).length=L.n.toNat:=by
 unfold zAO;rw[zIS,xBC]
def Fx.back{P:Nat->Prop}{k h:AH}(f:Fx P k.qb h):Fx P k ⟨h.t,h.qa,cond (Nat.ble k.wm h.wm) k.wm h.wm⟩:=by
 refine⟨?_,f.qa,λ c hc hn=>f.get c hc hn,λ m h1 h2 h3=>?_⟩
 ·have:=f.ok;unfold AH.ok at this;show cond (Nat.ble k.wm h.wm) k.wm h.wm<=h.qa+UNK;cases hc:Nat.ble k.wm h.wm with
  | true=>have:=ble_true.1 hc;simp only[xAG];omega
  | false=>simpa using this
 ·have:=f.wm m (by rw[zAN];omega) h2 h3;show m<=cond (Nat.ble k.wm h.wm) k.wm h.wm;cases Nat.ble k.wm h.wm
  ·exact this
  ·exact h1
def Fx.ext1{h0 k l:AH}{b:Nat}(f:Fx (λ c=>c=b) k l)(e:Ext h0 k)(hb:h0.qa<=b):Ext h0 l:=
 ⟨f.ok,xCx e.qa f.qa,λ c hc=>(f.get c (xAC hc e.qa) (by omega)).trans (e.get c hc)⟩
def ztb{h:AH}{a b:Int}{v:Value}(hl:zl v=true):zAM E 173 (h.new (rO [iI 0,iI 0,.slice none 0 0] 173)) (some (ptr h.qa)) (some (.agg ⟨[iI a,iI b,v]⟩))=one (undef,(h.new (rO [iI 0,iI 0,.slice none 0 0] 173)).upd h.qa (some (rO [iI a,iI b,v] 173))):=by
 rw[zi (P:=E) zMM (x:=.agg ⟨[iI a,iI b,v]⟩) (cs:=[iI a,iI b,v]) (zD h _) rfl rfl (by simp) (by simp[zl] at hl ⊢;exact hl)];rfl
def Nd(k:AH)(bL:Nat)(x:Value)(k':AH):Prop:=∃ b left,x=.bool b/\(b=true->0<=left)/\left<=2000/\k'.get bL=some (rO [iI left] 3)/\k'.wm<=k.wm/\Fx (λ c=>c=bL) k k'
def zJ7{h0 k:AH}{v:Value}{ts:List GT}{bL:Nat}{left deep:Int}(hr:RT h0 v ts)(hk:Ext h0 k)(df:h0.qa<=bL)(kq:k.get bL=some (rO [iI left] 3))(gP:bL<k.qa)(kj:0<=left)(dQ:left<=2000)(kn:1<=deep)(hd2:deep<=102)
  (ah:deep<=100->∀ {k':AH} {v':Value} {ts':List GT} {left':Int},RT h0 v' ts'->Ext h0 k'->k'.get bL=some (rO [iI left'] 3)->bL<k'.qa->0<=left'->left'<=2000->Ev true ((zc E).call 69 [v',ptr bL,iI (deep+1)] k') λ x=>Nd k' bL x.1 x.2) :
  Ev true ((zc E).call 69 [v,ptr bL,iI deep] k) λ x=>Nd k bL x.1 x.2:=by
 obtain⟨ad,cp,hv⟩:=hr.slice;cases hr with
 | @mk _ els _ ha hn hc=>
 have hlen:=RC.length hc;by_cases dX:ts.length=0
 ·have:(zc E).call 69 [v,ptr bL,iI deep] k=some [(.bool true,k)]:=by
   refine zl4 (s:=true) hk.ok rfl (zSH ?_);refine zSG ?_;rw[hv,dX];simp only[zA,zMw];refine zL9 ?_;simp only[zP,zA,zAV];refine⟨λ h=>by omega,λ _=>zSE ?_⟩;simp only[zA,zAC,zO,xDJ];show k.qa<=k.qa+UNK;omega
  rw[this,zJ];exact⟨true,left,rfl,λ _=>kj,dQ,kq,xAF _,Fx.refl hk.ok⟩
 ·refine zl3 (Rp:=λ x k'=>Nd k bL x k') (zSH ?_);refine zSG ?_;rw[hv];simp only[zA,zMw];have fin:∀(b:Bool) (l:Int) (h:AH),(b=true->0<=l)->l<=2000->h.get bL=some (rO [iI l] 3)->Fx (λ c=>c=bL) k.qb h->h.wm<=bL->KR E [.tmp 6] (λ x k'=>(zm x=false\/k'.wm<k.qa)/\Nd k bL x ⟨k'.t,k'.qa,cond (Nat.ble k.wm k'.wm) k.wm k'.wm⟩) .ret [.bool b] h:=by
   intro b l h h1 h2 h3 f hw;simp only[zAC,zO,xDJ];refine⟨.inr (by omega),b,l,rfl,h1,h2,h3,?_,f.back⟩;show cond (Nat.ble k.wm h.wm) k.wm h.wm<=k.wm;cases hc:Nat.ble k.wm h.wm with
   | true=>exact xAF _
   | false=>have:=ble_false.1 hc;simp only[xAH];omega
  have loop:∀(r i:Nat),i+r=ts.length->∀(l:Int) (h:AH),Fx (λ c=>c=bL) k.qb h->h.get bL=some (rO [iI l] 3)->0<=l->l<=2000->(i≠0->h.wm<=bL)->
    zxl true (KR E [.tmp 6] (λ x k'=>(zm x=false\/k'.wm<k.qa)/\Nd k bL x ⟨k'.t,k'.qa,cond (Nat.ble k.wm k'.wm) k.wm k'.wm⟩)) (ptr bL) (iI deep) (.slice ad ts.length cp) (iI (ts.length:Int)) (iI (i:Int)) h:=by
   intro r
   induction r with
   | zero=>
    intro i hi l h f hg h1 h2 hw;refine zL9 ?_;have:¬ ((i:Int)<(ts.length:Int)):=by omega
    simp only[zP,zA,this,xCz,zZ];refine zSE ?_;exact fin true l h (λ _=>h1) h2 hg f (hw (by omega))
   | succ r ih=>
    intro i hi l h f hg h1 h2 hw;have ai:i<ts.length:=by omega
    have dD:i<els.length:=by omega
    refine zL9 ?_;have:((i:Int)<(ts.length:Int)):=by omega
    simp only[zP,zA,this,xDG,ze];refine zkP ?_;obtain⟨kk,nn,vv,lv,aS,bS,_⟩:=RC.at hc i _ (xAA dD);obtain⟨b,o,c,vs,ty,es,ro,aH,hb,ab,bK,hz,bN⟩:=ha.load (xAA dD);rw[aS] at hz;rw[hv] at aH;simp only[xBu] at aH;obtain⟨bP,_,_⟩:=aH;subst bP;have ek:Ext h0 h:=f.ext1 hk.qb df;have gb:=(ek.get b ab).trans hb;have aP:zl vv=true:=zDt bS;simp only[zXf ai,zA,zN zCl gb bK,hz,zhK,zU,zF,zK,ztb aP];refine zkO ?_;have hbh:bL<h.qa:=xAC gP f.qa;have f1:Fx (λ c=>c=bL) k.qb ((h.new (rO [iI 0,iI 0,.slice none 0 0] 173)).upd h.qa (some (rO [iI kk,iI nn,vv] 173))):=(f.new _).upd (.inr f.qa) _;have t1:((h.new (rO [iI 0,iI 0,.slice none 0 0] 173)).upd h.qa (some (rO [iI kk,iI nn,vv] 173))).get h.qa=some (rO [iI kk,iI nn,vv] 173):=zH _ _ _;have g1:((h.new (rO [iI 0,iI 0,.slice none 0 0] 173)).upd h.qa (some (rO [iI kk,iI nn,vv] 173))).get bL=_:=((zL (by omega)).trans (zG (by omega))).trans hg;have n1:((h.new (rO [iI 0,iI 0,.slice none 0 0] 173)).upd h.qa (some (rO [iI kk,iI nn,vv] 173))).qa=h.qa+1:=rfl;generalize ((h.new (rO [iI 0,iI 0,.slice none 0 0] 173)).upd h.qa (some (rO [iI kk,iI nn,vv] 173)))=k1 at f1 t1 g1 n1;have lg:=zB (P:=E) zAE (o:=0) g1;simp only[lnth] at lg;have af:=zi (P:=E) zg8 (o:=0) g1 (zEw .i64 (l-1)) rfl (by simp) rfl;have dN:lput [iI l] 0 [iI (l-1)]=[iI (l-1)]:=rfl;rw[dN] at af;simp only[zA,zx,lg,zKt _ (show zC2 (l-1) by unfold zC2;omega),af,zF];refine zkN ?_;have f2:Fx (λ c=>c=bL) k.qb (k1.upd bL (some (rO [iI (l-1)] 3))):=f1.upd (.inl rfl) _;have g2:(k1.upd bL (some (rO [iI (l-1)] 3))).get bL=some (rO [iI (l-1)] 3):=zH _ _ _;have t2:(k1.upd bL (some (rO [iI (l-1)] 3))).get h.qa=_:=(zL (by omega)).trans t1;have w2:(k1.upd bL (some (rO [iI (l-1)] 3))).wm<=bL:=(zBr _ _ _).2;have n2:(k1.upd bL (some (rO [iI (l-1)] 3))).qa=k1.qa:=rfl;generalize (k1.upd bL (some (rO [iI (l-1)] 3)))=k2 at f2 g2 t2 w2 n2;have lg2:=zB (P:=E) zAE (o:=0) g2;have lv2:=zB (P:=E) zD0 (o:=2) t2;simp only[lnth] at lg2 lv2;have stop:zxk true (KR E [.tmp 6] (λ x k'=>(zm x=false\/k'.wm<k.qa)/\Nd k bL x ⟨k'.t,k'.qa,cond (Nat.ble k.wm k'.wm) k.wm k'.wm⟩)) k2:=by
     refine zSF ?_;exact fin false _ k2 (λ h=>by cases h) (by omega) g2 f2 w2
    simp only[zA,zx,lg2,zP];by_cases e1:l-1<0
    ·simp only[e1,xDG,zI,zS,show (true==false)=false from rfl,xAH,xAG,zA,zF,zE,ze];exact stop
    ·simp only[e1,xCz,zI,xAO,xAG,zA,zAK,zE,xAH];by_cases e2:100<deep
     ·simp only[e2,xDG,zI,zS,show (true==false)=false from rfl,xAH,xAG,zA,zF,zE,ze];exact stop
     ·simp only[e2,xCz,zI,zS,xAO,xAG,zA,zAf,xAK,lv2,zk _ (show zC2 (deep+1) by unfold zC2;omega),zM];refine (ah (by omega) bS (f2.ext1 hk.qb df) g2 (by omega) (by omega) (by omega)).mono λ y hy=>?_;obtain⟨bb,l3,y1,y2,y3,y4,y6,y5⟩:=hy;rw[y1];have f3:Fx (λ c=>c=bL) k.qb y.2:=f2.trans y5 (λ c h=>.inl h);have w3:y.2.wm<=bL:=by omega
      simp only[zq,zA,zE,xAH,zAq];refine⟨λ hb=>zSF ?_,λ hb=>zkM ?_⟩
      ·skip
       exact fin false l3 y.2 (λ h=>by cases h) y3 y4 f3 w3
      ·have bF:bb=true:=by simpa using hb
       simp only[zk _ (zCS ai (by omega)),zA];have:=ih (i+1) (by omega) l3 y.2 f3 y4 (y2 bF) y3 (λ _=>w3);simpa using this
  exact loop ts.length 0 (by omega) left k.qb (Fx.refl (zAR k)) kq kj dQ (λ h=>absurd rfl h)
def ztL:∀(d:Nat) {h0 k:AH} {v:Value} {ts:List GT} {bL:Nat} {left deep:Int},RT h0 v ts->Ext h0 k->h0.qa<=bL->k.get bL=some (rO [iI left] 3)->bL<k.qa->0<=left->left<=2000->1<=deep->deep<=102->101<=deep+d->
  Ev true ((zc E).call 69 [v,ptr bL,iI deep] k) λ x=>Nd k bL x.1 x.2:=by
 intro d
 induction d with
 | zero=>
  intro h0 k v ts bL left deep hr hk df kq gP kj dQ kn hd2 hd3;exact zJ7 hr hk df kq gP kj dQ kn hd2 (λ h=>by omega)
 | succ d ihd=>
  intro h0 k v ts bL left deep hr hk df kq gP kj dQ kn hd2 hd3;exact zJ7 hr hk df kq gP kj dQ kn hd2 (λ h k' v' ts' left' a b c d e f=>ihd a b df c d e f (by omega) (by omega) (by omega))
def zpJ:E.tab.fn.get 13=some Tryz.f13:=by kernel_rfl
def zh4:Tryz.f13.body=some (zW Tryz.f13):=by kernel_rfl
def ztU{k:AH}:(zc E).call 13 [] k=some [(.bool true,k)]:=zLy zpJ zh4 (by kernel_rfl)
def zSp{n:Int}{a b:Option Addr}{m c m' c':Nat}:veq 100 (.agg #[iI n,.slice a m c,.slice b m' c']) (.agg #[iI n,.slice a m c,.slice b m' c'])=true:=by
 show zHl 99 [iI n,.slice a m c,.slice b m' c'] [iI n,.slice a m c,.slice b m' c']=true;simp only[zHl,zBF,zAw,xCm]
end Go.Proofs
namespace Go.Proofs
open Go Go.AM
def nwF(k:AH)(x:AObj):∃ m,k.qb.new x=m/\m.qa=k.qa+1/\m.get k.qa=some x/\Own k m/\∀ b,b<k.qa->m.get b=k.get b:=
 ⟨_,rfl,rfl,zD k.qb x,(Own.qb k).new x,λ b hb=>by rw[zG (by simp;omega)];rfl⟩
def nw{k l:AH}(o:Own k l)(x:AObj):∃ m,l.new x=m/\m.qa=l.qa+1/\m.get l.qa=some x/\Own k m/\∀ b,b<l.qa->m.get b=l.get b:=
 ⟨_,rfl,rfl,zD l x,o.new x,λ b hb=>zG (by omega)⟩
def up{k l:AH}(o:Own k l){b:Nat}(hb:k.qa<=b)(x:AObj):∃ m,l.upd b (some x)=m/\m.qa=l.qa/\m.get b=some x/\Own k m/\∀ c,c≠b->m.get c=l.get c:=
 ⟨_,rfl,rfl,zH _ _ _,o.upd hb _,λ c hc=>zL hc⟩
def zEs{T et z:Nat}(hT:und E T=some (.slice et))(hz:zAW E et=some z)(hta:tAS E et=some (true,z)){h k:AH}{v:Value}{els:List (List Value)}(ha:Arr h z v els)(e:Ext h k){i:Nat}{x:List Value}(hi:els[i]?=some x) :
  ∃ p,zV E T (some v) (some (iI (i:Int)))=some p/\zb E et k (some p)=some (.agg ⟨x⟩):=by
 obtain⟨b,o,c,vs,ty,es,ro,rfl,hb,ab,bK,hx,hl⟩:=ha.load hi;have ax:i<els.length:=(xAc.1 hi).1;refine⟨_,zAA hT hz ax,?_⟩;rw[zN hta ((e.get b ab).trans hb) bK,hx]
def zM5{h k:AH}{v:Value}{els:List (List Value)}(ha:Arr h 3 v els)(e:Ext h k){i:Nat}{x:List Value}(hi:els[i]?=some x) :
  ∃ p,zV E 34 (some v) (some (iI (i:Int)))=some p/\zb E 173 k (some p)=some (.agg ⟨x⟩):=zEs zV1 zMM zCl ha e hi
def zM6{h k:AH}{v:Value}{els:List (List Value)}(ha:Arr h 2 v els)(e:Ext h k){i:Nat}{x:List Value}(hi:els[i]?=some x) :
  ∃ p,zV E 22 (some v) (some (iI (i:Int)))=some p/\zb E 36 k (some p)=some (.agg ⟨x⟩):=zEs zML zoK zC7 ha e hi
def zJk{h k:AH}{v:Value}{els:List (List Value)}(ha:Arr h 3 v els)(e:Ext h k){i:Nat}{x:List Value}(hi:els[i]?=some x) :
  ∃ p,zV E 23 (some v) (some (iI (i:Int)))=some p/\zb E 52 k (some p)=some (.agg ⟨x⟩):=zEs zQi zoJ zMQ ha e hi
def zQ2(a b:Int):Int:=if a<b then -1 else if b<a then 1 else 0
def zQF{k:AH}{a b:Int}(aa:k.ok):(zc E).call 232 [iI a,iI b] k=some [(iI (zQ2 a b),k)]:=by
 refine zf4 (s:=true) aa rfl (zbb ?_);refine zba ?_;simp only[zA,zP,zAV];refine⟨λ h1=>zbZ ?_,λ h1=>zbY ?_⟩
 ·simp[zA,zAC,zO,zQ2,h1]
 simp only[zA,zAK,zAV];refine⟨λ h2=>zbX ?_,λ h2=>zbW ?_⟩
 ·simp[zA,zAC,zO,zQ2,h1,h2]
 ·simp[zA,zAC,zO,zQ2,h1,h2]
mutual
def zpj:GT->GT->Int
 | .mk k n l,.mk k' n' l'=>if zQ2 k k'=0 then (if zQ2 n n'=0 then (if zQ2 l.length l'.length=0 then zTs l l' else zQ2 l.length l'.length) else zQ2 n n') else zQ2 k k'
def zTs:List GT->List GT->Int
 | t::ts,u::us=>if zpj t u=0 then zTs ts us else zpj t u
 | [],_=>0
 | _::_,[]=>0
end
def zYv(h0:AH)(kk nn:Int)(v:Value)(l:List GT):Prop:=∀(k:AH) (kk' nn':Int) (v':Value) (l':List GT),RT h0 v' l'->Ext h0 k->
 (zc E).call 188 [.agg #[iI kk,iI nn,v],.agg #[iI kk',iI nn',v']] k=some [(iI (zpj (.mk kk nn l) (.mk kk' nn' l')),k)]
def zQ1{a b:Nat}(h:zQ2 (a:Int) (b:Int)=0):a=b:=by
 unfold zQ2 at h;split at h
 ·cases h
 ·split at h
  ·cases h
  ·omega
mutual
def zoT{h0:AH}:∀ {v:Value} {l:List GT},RT h0 v l->∀(kk nn:Int),zYv h0 kk nn v l
 | v,l,.mk (els:=els) ha hn hc,kk,nn=>by
  intro k kk' nn' v' l' cu hk;have bS:RT h0 v l:=.mk ha hn hc;have fH:=zLO hc;have hlen:=RC.length hc;obtain⟨sa,sc,rfl⟩:=bS.slice;obtain⟨sa',sc',rfl⟩:=cu.slice;refine zgB (s:=true) hk.ok rfl (zcd ?_);obtain⟨k1,e1,n1,t1,o1,f1⟩:=nwF k (rO [iI kk,iI nn,.slice sa l.length sc] 173);obtain⟨k2,e2,n2,t2,o2,f2⟩:=nw o1 (rO [iI kk',iI nn',.slice sa' l'.length sc'] 173);simp only[zU,zF,zK,zA,e1,e2,zR];have g1:=(f2 k.qa (by omega)).trans t1;have l0:=zB (P:=E) zAE (o:=0) g1;have l1:=zB (P:=E) zAE (o:=1) g1;have l2:=zB (P:=E) zD0 (o:=2) g1;have m0:=zB (P:=E) zAE (o:=0) t2;have m1:=zB (P:=E) zAE (o:=1) t2;have m2:=zB (P:=E) zD0 (o:=2) t2;simp only[lnth] at l0 l1 l2 m0 m1 m2;have ex2:=hk.trans o2.ext;have stop:∀ c:Int,zqo true (KR E [.tmp 4] λ x m=>x=iI c/\k.qa<=m.wm) (iI c) k2:=by
   intro c;refine zT8 ?_;simp only[zA,zAC,zO,xDJ];exact o2.wm
  have quit:∀(c i:Int),c≠0->zny true (KR E [.tmp 4] λ x m=>x=iI c/\k.qa<=m.wm) (.pointer (some ⟨k.qa,0,none⟩)) (.pointer (some ⟨k1.qa,0,none⟩)) (iI c) (iI i) k2:=by
   intro c i eB;refine zJR ?_;simp only[zAf,xAK,l2,zA,zG2,zP,zI,zAD,eB,xCz];by_cases hi:i<(l.length:Int)
   ·simp only[hi,xDG,xAO,xAG,zA,zE,zI,zAD,eB,xCz,zZ];exact stop c
   ·simp only[hi,xCz,show (false==true)=false from rfl,xAH,zA,zE,zZ];exact stop c
  have loop:∀(m i:Nat),i+m=l.length->l.length=l'.length->zny true (KR E [.tmp 4] λ x m=>x=iI (zTs (l.drop i) (l'.drop i))/\k.qa<=m.wm) (.pointer (some ⟨k.qa,0,none⟩)) (.pointer (some ⟨k1.qa,0,none⟩)) (iI 0) (iI (i:Int)) k2:=by
   intro m
   induction m with
   | zero=>
    intro i hi hl;have:l.drop i=[]:=xAs (by omega);rw[this];refine zJR ?_;simp only[zAf,xAK,l2,zA,zG2,zP,show decide ((i:Int)<(l.length:Int))=false from xAI (by omega),zI,show (false==true)=false from rfl,xAH,zE,zZ];exact stop 0
   | succ m ih=>
    intro i hi hl;have ax:i<l.length:=by omega
    have hil':i<l'.length:=by omega
    refine zJR ?_;simp only[zAf,xAK,l2,zA,zG2,zP,show decide ((i:Int)<(l.length:Int))=true from xAJ (by omega),zI,xAO,xAG,zAD,xDG,zE,ze];refine zcY ?_;cases cu with
    | @mk _ els' _ cR jr am=>
     have ej:=RC.length am;obtain⟨x,hx⟩:∃ x,els[i]?=some x:=⟨_,xAA (by omega)⟩;obtain⟨y,hy⟩:∃ y,els'[i]?=some y:=⟨_,xAA (by omega)⟩;obtain⟨p1,q1,w1⟩:=zM5 ha ex2 hx;obtain⟨p2,q2,w2⟩:=zM5 cR ex2 hy;obtain⟨ck,cn,cv,cl,rfl,r1,r2,r3⟩:=fH i x hx;obtain⟨dk,dn,dv,dl,rfl,s1,s2⟩:=RC.at am i y hy;have bT:=r3 k2 dk dn dv dl s1 ex2;have e3:l.drop i=GT.mk ck cn cl::l.drop (i+1):=by rw[xAZ ax,(xAc.1 r2).2]
     have e4:l'.drop i=GT.mk dk dn dl::l'.drop (i+1):=by rw[xAZ hil',(xAc.1 s2).2]
     simp only[zAf,xAK,l2,m2,zA,q1,w1,q2,w2,zM,bT,zJ];refine zcX ?_;simp only[zA,zk _ (zCS ax (by omega))];rw[e3,e4];simp only[zTs];by_cases hz:zpj (GT.mk ck cn cl) (GT.mk dk dn dl)=0
     ·rw[xDO hz,hz];exact ih (i+1) (by omega) hl
     ·rw[xDN hz];exact quit _ _ hz
  refine zcc ?_;simp only[zGY,xCu,l0,m0,zA,zM,zQF o2.ext.ok,zJ];refine zcb ?_;simp only[zA,zAD,zAV,zpj];refine⟨λ h1=>?_,λ h1=>?_⟩;rotate_left
  ·rw[xDN h1];refine zOB ?_;simp only[zA,zAD,h1,xCz,zZ];refine zJS ?_;exact quit _ _ h1
  rw[xDO h1];refine zca ?_;simp only[zGX,xAK,l1,m1,zA,zM,zQF o2.ext.ok,zJ];refine zOB ?_;simp only[zA,zAD,zAV];refine⟨λ h2=>?_,λ h2=>?_⟩;rotate_left
  ·rw[xDN h2];refine zJS ?_;exact quit _ _ h2
  rw[xDO h2];refine zcZ ?_;simp only[zAf,xAK,l2,m2,zA,zTW,zTV,zM,zQF o2.ext.ok,zJ];refine zJS ?_;by_cases h3:zQ2 (l.length:Int) (l'.length:Int)=0
  ·rw[xDO h3,h3];have:=loop l.length 0 (by omega) (zQ1 h3);simpa using this
  ·rw[xDN h3];exact quit _ _ h3
def zLO{h0:AH}:∀ {els:List (List Value)} {ts:List GT},RC h0 els ts->∀(i:Nat) (e:List Value),els[i]?=some e->
  ∃(k n:Int) (v:Value) (l:List GT),e=[iI k,iI n,v]/\RT h0 v l/\ts[i]?=some (.mk k n l)/\zYv h0 k n v l
 | _,_,.nil,i,e,h=>by simp at h
 | _,_,.cons hv hs,0,e,h=>by simp at h;exact⟨_,_,_,_,h.symm,hv,rfl,zoT hv _ _⟩
 | _,_,.cons hv hs,i+1,e,h=>by
  simp only[xAj] at h;obtain⟨k,n,v,l,a,b,c,d⟩:=zLO hs i e h;exact⟨k,n,v,l,a,b,by simpa using c,d⟩
end
end Go.Proofs
namespace Go.Proofs
open Go Go.AM
abbrev Dt:=Array (Int×Int)
def zFT(d:Dt):List Value:=d.toList.flatMap zC
def zBW:∀ l:List (Int×Int),(l.flatMap zC).length=l.length*2
 | []=>rfl
 | x::l=>by simp only[xBv,xBY,xCG,zBW l];simp[zC];omega
def zD3(d:Dt):(zFT d).length=d.size*2:=zBW d.toList
def zHw:∀(l:List (Int×Int)) (i:Nat) (x:Int×Int),l[i]?=some x->((l.flatMap zC).drop (i*2)).take 2=zC x
 | [],i,x,h=>by simp at h
 | y::l,0,x,h=>by simp at h;subst h;rfl
 | y::l,i+1,x,h=>by
  have:=zHw l i x (by simpa using h);rw[show (i+1)*2=i*2+2 by omega];exact this
def zQv:∀(l:List (Int×Int)) (i:Nat) (x:Int×Int),i<l.length->lput (l.flatMap zC) (i*2) (zC x)=(l.set i x).flatMap zC
 | [],i,x,h=>by simp at h
 | y::l,0,x,h=>by
  show iI x.1::iI x.2::lput (l.flatMap zC) 0 []=_;have:lput (l.flatMap zC) 0 []=l.flatMap zC:=by cases l.flatMap zC <;> rfl
  rw[this];rfl
 | y::l,i+1,x,h=>by
  have:=zQv l i x (by simpa using h);rw[show (i+1)*2=i*2+2 by omega];show iI y.1::iI y.2::lput (l.flatMap zC) (i*2) (zC x)=_;rw[this];rfl
def zm8(x:Int×Int):(zC x).all zl=true:=by simp[zC,zl]
section
variable {b ty es:Nat} {k0 k:AH} {d0 d:Dt}
def zVr(h:AH)(b:Nat)(o:Option AObj):(h.upd b o).wm<=b/\(h.upd b o).wm<=h.wm:=by
 show cond (Nat.ble h.wm b) h.wm b<=b/\cond (Nat.ble h.wm b) h.wm b<=h.wm;cases hc:Nat.ble h.wm b with
 | true=>have:=ble_true.1 hc;simp only[xAG];omega
 | false=>have:=ble_false.1 hc;simp only[xAH];omega
end
def zu9(cf:Value)(cm:Int×Int->Int×Int->Int):Prop:=∀ k x y,k.ok->zAs (zc E) (some cf) (some [.agg ⟨zC x⟩,.agg ⟨zC y⟩]) k=some [(iI (cm x y),k)]
abbrev ltQ(cm:Int×Int->Int×Int->Int):Int×Int->Int×Int->Bool:=λ x y=>decide (cm x y<0)
def zyu{a c:Nat}(h:a+c<=9223372036854775807)(t:TypeId):zAJ E .add t (iI (a:Int)) (iI (c:Int))=some (iI ((a+c:Nat):Int)):=by
 rw[zk t (by unfold zC2;omega)];rfl
def zL8{a:Nat}(h:a+1<=9223372036854775807)(t:TypeId):zAJ E .add t (iI (a:Int)) (iI 1)=some (iI ((a+1:Nat):Int)):=zyu (c:=1) h t
def subN{a c:Nat}(h:c<=a)(ha:a<=9223372036854775807)(t:TypeId):zAJ E .sub t (iI (a:Int)) (iI (c:Int))=some (iI ((a-c:Nat):Int)):=by
 rw[zKt t (by unfold zC2;omega)]
 congr 2;omega
def zrt{a:Nat}(h:1<=a)(ha:a<=9223372036854775807)(t:TypeId):zAJ E .sub t (iI (a:Int)) (iI 1)=some (iI ((a-1:Nat):Int)):=subN (c:=1) h ha t
abbrev sl(b n c:Nat):Value:=.slice (some ⟨b,0,none⟩) n c
section
variable {b ty es c:Nat} {k:AH} {d:Dt}
end
end Go.Proofs
namespace Go.Proofs
open Go Go.AM Go.Sort
def ft:(false==true)=false:=rfl
section
variable {b ty es c:Nat} {k:AH} {d:Dt} {cf:Value} {cm:Int×Int->Int×Int->Int}
end
def zHZ{m:AH}{w b:Nat}{o:Option AObj}(h:m.get b=o):AH.get ⟨m.t,m.qa,w⟩ b=o:=h
section
variable {b ty es c:Nat} {k:AH} {d:Dt} {cf:Value} {cm:Int×Int->Int×Int->Int}
end
def zv4{a:Nat}(h:a<18446744073709551616):IntKind.u64.wrap (a:Int)=(a:Int):=by rw[IntKind.wrap_u64];omega
def zv5{a:Nat}(h:a<=9223372036854775807):IntKind.i64.wrap (a:Int)=(a:Int):=by rw[← zLF];exact zCu (by unfold zC2;omega)
def zoQ:((List.range 256).all λ i=>match zBl E 9 (some (.string ⟨#[0,1,2,2,3,3,3,3,4,4,4,4,4,4,4,4,5,5,5,5,5,5,5,5,5,5,5,5,5,5,5,5,6,6,6,6,6,6,6,6,6,6,6,6,6,6,6,6,6,6,6,6,6,6,6,6,6,6,6,6,6,6,6,6,7,7,7,7,7,7,7,7,7,7,7,7,7,7,7,7,7,7,7,7,7,7,7,7,7,7,7,7,7,7,7,7,7,7,7,7,7,7,7,7,7,7,7,7,7,7,7,7,7,7,7,7,7,7,7,7,7,7,7,7,7,7,7,7,8,8,8,8,8,8,8,8,8,8,8,8,8,8,8,8,8,8,8,8,8,8,8,8,8,8,8,8,8,8,8,8,8,8,8,8,8,8,8,8,8,8,8,8,8,8,8,8,8,8,8,8,8,8,8,8,8,8,8,8,8,8,8,8,8,8,8,8,8,8,8,8,8,8,8,8,8,8,8,8,8,8,8,8,8,8,8,8,8,8,8,8,8,8,8,8,8,8,8,8,8,8,8,8,8,8,8,8,8,8,8,8,8,8,8,8,8,8,8,8,8,8,8,8,8,8,8,8]⟩)) (some (.int .u8 (i:Int))) with
 | some (.int .u8 (.ofNat t))=>Nat.ble t 8&&(Nat.beq i 0||Nat.ble (2 ^ t) (2*i))
 | _=>false)=true:=by kernel_rfl
def zrl{i:Nat}(h:i<256):∃ t:Nat,zBl E 9 (some (.string ⟨#[0,1,2,2,3,3,3,3,4,4,4,4,4,4,4,4,5,5,5,5,5,5,5,5,5,5,5,5,5,5,5,5,6,6,6,6,6,6,6,6,6,6,6,6,6,6,6,6,6,6,6,6,6,6,6,6,6,6,6,6,6,6,6,6,7,7,7,7,7,7,7,7,7,7,7,7,7,7,7,7,7,7,7,7,7,7,7,7,7,7,7,7,7,7,7,7,7,7,7,7,7,7,7,7,7,7,7,7,7,7,7,7,7,7,7,7,7,7,7,7,7,7,7,7,7,7,7,7,8,8,8,8,8,8,8,8,8,8,8,8,8,8,8,8,8,8,8,8,8,8,8,8,8,8,8,8,8,8,8,8,8,8,8,8,8,8,8,8,8,8,8,8,8,8,8,8,8,8,8,8,8,8,8,8,8,8,8,8,8,8,8,8,8,8,8,8,8,8,8,8,8,8,8,8,8,8,8,8,8,8,8,8,8,8,8,8,8,8,8,8,8,8,8,8,8,8,8,8,8,8,8,8,8,8,8,8,8,8,8,8,8,8,8,8,8,8,8,8,8,8,8,8,8,8,8,8]⟩)) (some (.int .u8 (i:Int)))=some (.int .u8 (t:Int))/\t<=8/\(1<=i->2 ^ t<=2*i):=by
 have:=xCB.1 zoQ i (List.mem_range.2 h);split at this
 ·rename_i t he;simp only[xAP,xCZ] at this;refine⟨t,he,ble_true.1 this.1,λ h1=>?_⟩;rcases this.2 with h2|h2
  ·have:=xAw h2;omega
  ·exact ble_true.1 h2
 ·cases this
def zph(a:Int)(h:AH):zh E (zAc [(20,.int .u64 a)]) (zA4 zO5 [1,1,1,1,0] 2) h=some (.int .u8 (IntKind.u8.wrap a)):=by kernel_rfl
def ziE(a:Int)(h:AH):zh E (zAc [(22,.int .u8 a)]) (zA4 zO5 [1,1,1,1,0] 4) h=some (iI (IntKind.i64.wrap a)):=by kernel_rfl
def zru(a:Int):zw E (zAc [(15,.int .u64 a)]) (zA4 zO5 [1,1,1,0,1,0,0] 1)=some (.int .u64 (a.fdiv (2 ^ (8:Nat)))):=by kernel_rfl
def zoU(a:Int):zw E (zAc [(9,.int .u64 a)]) (zA4 zO5 [1,1,0,1,0,0] 1)=some (.int .u64 (a.fdiv (2 ^ (16:Nat)))):=by kernel_rfl
def zEW(t:TypeId)(a b:Int):zAJ E .geq t (.int .u64 a) (.int .u64 b)=some (.bool (decide (b<=a))):=by
 show some (Value.bool (ile b a))=_;rw[zG7]
def zqC{k:AH}(aa:k.ok){x:Nat}(h2:x<16777216):∃ l:Nat,((1<=x->2 ^ l<=2*x)/\l<=24)/\(zc E).call 153 [.int .u64 (x:Int)] k=some [(iI (l:Int),k)]:=by
 have tail:∀ {y:Nat} {m:Nat} {F:Nat->Prop} {K:KF},y<256->m<=16->(∀ t:Nat,t<=8->(1<=y->2 ^ t<=2*y)->K .ret [iI ((m+t:Nat):Int)] k.qb)->zqp true K (.int .u64 (y:Int)) (iI (m:Int)) k.qb:=by
  intro y m F K hy hm hK;refine zUP ?_;obtain⟨t,t1,t2,t3⟩:=zrl hy;have e1:IntKind.u8.wrap (y:Int)=(y:Int):=by
   have:IntKind.u8.wrap (y:Int)=(y:Int) % 256:=by simp[IntKind.wrap,IntKind.bits,IntKind.signed]
   rw[this];omega
  simp only[zA,zph,e1,t1,ziE,zv5 (show t<=9223372036854775807 by omega),zyu (show m+t<=9223372036854775807 by omega)];exact hK t t2 t3
 by_cases jT:65536<=x
 ·have main:∃ v,(∃ l:Nat,((1<=x->2 ^ l<=2*x)/\l<=24)/\v=iI (l:Int))/\(zc E).call 153 [.int .u64 (x:Int)] k=some [(v,k)]:=by
   refine zHK aa (zJZ (zJY ?_));simp only[zA,zEW,show decide ((4294967296:Int)<=(x:Int))=false from xAI (by omega),zZ];refine zJX ?_;simp only[zA,zEW,show decide ((65536:Int)<=(x:Int))=true from xAJ (by omega),ze];refine zdm ?_;have e2:(x:Int).fdiv (2 ^ (16:Nat))=((x / 65536:Nat):Int):=by
    rw[xAY _ (by decide)];rfl
   simp only[zA,zoU,e2];refine zdl ?_;rw[zk 3 (a:=0) (b:=16) (by unfold zC2;omega)]
   try simp only[zA]
   refine zJW ?_;simp only[zA,zEW,show decide ((256:Int)<=((x / 65536:Nat):Int))=false from xAI (by omega),zZ];refine tail (m:=16) (F:=λ _=>True) (by omega) (by omega) λ t ht h3=>?_;rw[zAC];refine⟨zO ▸ trivial,⟨rfl,16+t,⟨?_,by omega⟩,rfl⟩,xCP _ _⟩;intro _;have:=h3 (by omega);rw[Nat.pow_add];omega
  obtain⟨v,⟨l,hl,rfl⟩,h⟩:=main;exact⟨l,hl,h⟩
 by_cases hx:x<256
 ·have main:∃ v,(∃ l:Nat,((1<=x->2 ^ l<=2*x)/\l<=24)/\v=iI (l:Int))/\(zc E).call 153 [.int .u64 (x:Int)] k=some [(v,k)]:=by
   refine zHK aa (zJZ ?_)
   try simp only[zA]
   refine zJY ?_;simp only[zA,zEW,show decide ((4294967296:Int)<=(x:Int))=false from xAI (by omega),zZ];refine zJX ?_;simp only[zA,zEW,show decide ((65536:Int)<=(x:Int))=false from xAI (by omega),zZ];refine zJW ?_;simp only[zA,zEW,show decide ((256:Int)<=(x:Int))=false from xAI (by omega),zZ];refine tail (m:=0) (F:=λ _=>True) hx (by omega) λ t ht h3=>?_;rw[zAC,xAK];exact⟨zO ▸ trivial,⟨rfl,t,⟨h3,by omega⟩,rfl⟩,xCP _ _⟩
  obtain⟨v,⟨l,hl,rfl⟩,h⟩:=main;exact⟨l,hl,h⟩
 ·have main:∃ v,(∃ l:Nat,((1<=x->2 ^ l<=2*x)/\l<=24)/\v=iI (l:Int))/\(zc E).call 153 [.int .u64 (x:Int)] k=some [(v,k)]:=by
   refine zHK aa (zJZ ?_)
   try simp only[zA]
   refine zJY ?_;simp only[zA,zEW,show decide ((4294967296:Int)<=(x:Int))=false from xAI (by omega),zZ];refine zJX ?_;simp only[zA,zEW,show decide ((65536:Int)<=(x:Int))=false from xAI (by omega),zZ];refine zJW ?_;simp only[zA,zEW,show decide ((256:Int)<=(x:Int))=true from xAJ (by omega),ze];refine zdk ?_;have e2:(x:Int).fdiv (2 ^ (8:Nat))=((x / 256:Nat):Int):=by
    rw[xAY _ (by decide)];rfl
   simp only[zA,zru,e2];refine zdj ?_
   try simp only[zA]
   rw[zk 3 (a:=0) (b:=8) (by unfold zC2;omega)]
   try simp only[zA]
   refine tail (m:=8) (F:=λ _=>True) (by omega) (by omega) λ t ht h3=>?_;rw[zAC];refine⟨zO ▸ trivial,⟨rfl,8+t,⟨?_,by omega⟩,rfl⟩,xCP _ _⟩;intro _;have:=h3 (by omega);rw[Nat.pow_add];omega
  obtain⟨v,⟨l,hl,rfl⟩,h⟩:=main;exact⟨l,hl,h⟩
def ztD{k:AH}(aa:k.ok){x:Nat}(h2:x<16777216):∃ l:Nat,((1<=x->2 ^ l<=2*x)/\l<=24)/\(zc E).call 93 [.int .u64 (x:Int)] k=some [(iI (l:Int),k)]:=by
 obtain⟨l,hl,h⟩:=zqC (zAR k) h2;refine⟨l,hl,zfq aa rfl (ziy ?_)⟩;simp only[zA,zZ];refine zix ?_;simp only[zA,zM,h,zJ,zAC,zO,xDJ];exact xCP _ _
section
variable {b ty es c:Nat} {k:AH} {d:Dt} {cf:Value} {cm:Int×Int->Int×Int->Int}
abbrev QP(cm:Int×Int->Int×Int->Int)(a e:Nat)(d:Dt):Value->Dt->Prop:=λ v d'=>v=.tuple #[]/\PermIn a e d d'/\SortedIn (ltQ cm) a e d'
end
def zs0:Elt 26 54 2:=zGd (by kernel_rfl) zJt zLL (by kernel_rfl)
def zRu{h:AH}{p:Int×Int}:zg E 26 1 (some [(0,.agg ⟨zC p⟩)]) h=one (.slice (some ⟨h.qa,0,none⟩) 1 1,h.new (rO (zC p) 54)):=by kernel_rfl
def c3_zero'{a b:Int}:c3 a b=0 ↔ a=b:=by
 unfold c3;split
 ·constructor
  ·intro h;cases h
  ·intro h;omega
 ·split
  ·constructor
   ·intro h;cases h
   ·intro h;omega
  ·constructor
   ·intro;omega
   ·intro;rfl
def zYP{a b:Int}:c3 a b<0 ↔ a<b:=by
 unfold c3;split
 ·constructor <;> intro <;> omega
 ·split <;> constructor <;> intro h <;> first|omega|(exfalso;revert h;decide)
def zAp(x y:Int×Int):zDH x y<0 ↔ x.1<y.1\/(x.1=y.1/\x.2<y.2):=by
 simp only[zDH,orI];by_cases h:c3 x.1 y.1=0
 ·have e:=c3_zero'.1 h;simp only[h,ne_eq,xBk,xDI];by_cases h2:c3 x.2 y.2=0
  ·have e2:=c3_zero'.1 h2;simp only[h2,ne_eq,xBk,xDI];omega
  ·simp only[h2,ne_eq,xBx,xDM];have:=zYP (a:=x.2) (b:=y.2);omega
 ·have h0:x.1≠y.1:=λ e=>h (c3_zero'.2 e);simp only[h,ne_eq,xBx,xDM];have:=zYP (a:=x.1) (b:=y.1);omega
def zrs:SWO (ltQ zDH) where
 irrefl x:=by simp only[xAk,zAp];omega
 trans x y z h1 h2:=by simp only[xBl,zAp] at *;omega
 ntrans x y z h1 h2:=by simp only[xAk,zAp] at *;omega
def zYs(h0:AH)(cf:Value)(f:Int×Int->Bool):Prop:=∀ k' p,Ext h0 k'->zAs (zc E) (some cf) (some [.agg ⟨zC p⟩]) k'=some [(.bool (f p),k')]
section
variable {b ty es c:Nat} {k h0:AH} {d:Dt} {cf:Value} {f:Int×Int->Bool}
end
def zLY{α:Type}:∀(x y z:List α),y.length=z.length->lput (x++y) x.length z=x++z
 | [],[],[],_=>rfl
 | [],a::y,b::z,h=>by
  have:=zLY [] y z (by simpa using h);show b::lput y 0 z=b::z;rw[show lput y 0 z=z from this]
 | [],[],_::_,h=>by simp at h
 | [],_::_,[],h=>by simp at h
 | a::x,y,[],h=>by
  have:y=[]:=xAm.1 (by simpa using h);subst this;cases x <;> rfl
 | a::x,y,b::z,h=>by
  have:=zLY x y (b::z) h;show a::lput (x++y) x.length (b::z)=_;rw[this];rfl
def zYe{h:AH}{b c:Nat}{vs rest:List Value}{ty es:Nat}{ro:Bool}{l:List (Int×Int)}(hb:h.get b=some (.row vs ty es ro))(hl:b<h.qa)(hv:vs=l.flatMap zC++rest):Arr h 2 (sl b l.length c) (l.map zC):=by
 have:=Arr.row (els:=l.map zC) (z:=2) (o:=0) (c:=c) hb hl (by rw[hv,xBY,zBW,xCY];omega) λ i e he=>by
  rw[xBi] at he;obtain⟨p,hp,rfl⟩:=xAu.1 he;refine⟨rfl,?_⟩;have hi:=(xAc.1 hp).1;have h2:=zHw l i p hp;rw[xAK,hv,List.drop_append_of_le_length (by rw[zBW];omega),xAR (by rw[xCE,zBW];omega)];exact h2
 rw[xCY] at this;exact this
def zPH{α:Type}(l:List α):∀ n,(rep n l).length=n*l.length
 | 0=>by simp[rep]
 | n+1=>by simp only[rep,xBY,zPH l n,xDE];omega
end Go.Proofs
namespace Go.Proofs
open Go Go.AM
def zoo(a b:Int):zQ2 a b=c3 a b:=rfl
mutual
def zX1:∀ t u:GT,zpj t u=zLw t u
 | .mk k n l,.mk k' n' l'=>by
  have h:=zRk l l';simp only[zpj,zLw,orI,zoo];by_cases h1:c3 k k'=0
  ·by_cases h2:c3 n n'=0
   ·by_cases h3:c3 (l.length:Int) (l'.length:Int)=0
    ·simp[h1,h2,h3,h (zQ1 h3)]
    ·simp[h1,h2,h3]
   ·simp[h1,h2]
  ·simp[h1]
def zRk:∀ l l':List GT,l.length=l'.length->zTs l l'=zEf l l'
 | [],[],_=>rfl
 | t::ts,u::us,h=>by
  simp only[zTs,zEf,zX1 t u,zRk ts us (by simpa using h)];by_cases e:zLw t u=0 <;> simp[e]
 | [],_::_,h=>by simp at h
 | _::_,[],h=>by simp at h
end
def zRm{l l':List GT}{i:Nat}(h1:i<=l.length)(h2:i<=l'.length)(h:i=l.length\/i=l'.length):zEf (l.drop i) (l'.drop i)=c3 l.length l'.length:=by
 cases e:l.drop i with
 | nil=>
  have e1:l.length<=i:=by simpa using e
  cases e':l'.drop i with
  | nil=>
   have e2:l'.length<=i:=by simpa using e'
   have:l.length=l'.length:=by omega
   simp[zEf,c3,this]
  | cons y ys=>
   have e2:i<l'.length:=by
    rcases xCq i l'.length with h|h
    ·exact h
    ·rw[xAs h] at e';cases e'
   simp only[zEf,c3];rw[xDO (by omega)]
 | cons x xs=>
  have e1:i<l.length:=by
   rcases xCq i l.length with h|h
   ·exact h
   ·rw[xAs h] at e;cases e
  have e2:l'.drop i=[]:=xAs (by omega);rw[e2];simp only[zEf,c3];rw[xDN (by omega),xDO (by omega)]
def znE(g:Int)(l:List GT)(g':Int)(l':List GT):zBd g l g' l'=if c3 g g'=0 then zEf l l' else c3 g g':=by
 simp only[zBd,orI];by_cases h:c3 g g'=0 <;> by_cases h2:zEf l l'=0 <;> simp[h,h2]
def zhU{h0 k:AH}{e e':List Value}{els els':List (List Value)}{ts ts':List GT}(hc:RC h0 els ts)(am:RC h0 els' ts'){i:Nat}(he:els[i]?=some e)(he':els'[i]?=some e')(hk:Ext h0 k) :
  ∃ t u,ts[i]?=some t/\ts'[i]?=some u/\(zc E).call 188 [.agg ⟨e⟩,.agg ⟨e'⟩] k=some [(iI (zLw t u),k)]:=by
 obtain⟨ck,cn,cv,cl,rfl,r1,r2,r3⟩:=zLO hc i e he;obtain⟨dk,dn,dv,dl,rfl,s1,s2⟩:=RC.at am i e' he';exact⟨_,_,r2,s2,by rw[← zX1];exact r3 k dk dn dv dl s1 hk⟩
def zqG{h0 k:AH}{v v':Value}{l l':List GT}(hr:RT h0 v l)(cu:RT h0 v' l')(hk:Ext h0 k):(zc E).call 140 [v,v'] k=some [(iI (zEf l l'),k)]:=by
 have hs:=hr.slice;have aV:=cu.slice;cases hr with
 | @mk _ els _ ha hn hc=>
 cases cu with
 | @mk _ els' _ cR jr am=>
 have hlen:=RC.length hc;have ej:=RC.length am;obtain⟨sa,sc,rfl⟩:=hs;obtain⟨sa',sc',rfl⟩:=aV;refine zgY (s:=true) hk.ok rfl (zd7 ?_);refine zd6 ?_;have iP:=hk.qb;have fin:c3 l.length l'.length=zEf l l'->zum true (KR E [.tmp 2] λ x m=>x=iI (zEf l l')/\k.qa<=m.wm) (.slice sa l.length sc) (.slice sa' l'.length sc') k.qb:=by
  intro hc;refine zd1 ?_;simp only[zA,zTd,zTc,zM,zJF iP.ok,zJ,zAC,zO,xDJ];exact⟨congrArg (Value.int .i64) hc,by rw[zAN];omega⟩
 have loop:∀(m i:Nat),i+m=l.length->i<=l'.length->zEf (l.drop i) (l'.drop i)=zEf l l'->zun true (KR E [.tmp 2] λ x m=>x=iI (zEf l l')/\k.qa<=m.wm) (.slice sa l.length sc) (.slice sa' l'.length sc') (iI (i:Int)) k.qb:=by
  intro m
  induction m with
  | zero=>
   intro i hi eR hV;refine zOP ?_;simp only[zA,zKO,zP,show decide ((i:Int)<(l.length:Int))=false from xAI (by omega),zI,show (false==true)=false from rfl,xAH,zE,zZ];exact fin (by rw[← hV,zRm (by omega) eR (by omega)])
  | succ m ih=>
   intro i hi eR hV;refine zOP ?_;simp only[zA,zKO,zP,show decide ((i:Int)<(l.length:Int))=true from xAJ (by omega),zI,xAO,xAG,zTe,zE,zAV];refine⟨λ cV=>zd5 ?_,λ hni=>fin (by rw[← hV,zRm (by omega) eR (by omega)])⟩;have cV:i<l'.length:=by omega
   have ax:i<l.length:=by omega
   obtain⟨x,hx⟩:∃ x,els[i]?=some x:=⟨_,xAA (by omega)⟩;obtain⟨y,hy⟩:∃ y,els'[i]?=some y:=⟨_,xAA (by omega)⟩;obtain⟨p1,q1,w1⟩:=zM5 ha iP hx;obtain⟨p2,q2,w2⟩:=zM5 cR iP hy;obtain⟨t,u,ht,hu,bT⟩:=zhU hc am hx hy iP;have e3:l.drop i=t::l.drop (i+1):=by rw[xAZ ax,(xAc.1 ht).2]
   have e4:l'.drop i=u::l'.drop (i+1):=by rw[xAZ cV,(xAc.1 hu).2]
   rw[e3,e4] at hV;simp only[zEf] at hV;simp only[zA,q1,w1,q2,w2,zM,bT,zJ];refine zd4 ?_;simp only[zA,zAS,zJn];refine⟨λ aj=>zd3 ?_,λ he=>zd2 ?_⟩
   ·simp only[zA,zAC,zO,xDJ];rw[xDO aj] at hV;exact⟨by rw[hV],by rw[zAN];omega⟩
   ·simp only[zA,zk _ (zCS (show i<l.length by omega) (by omega))];rw[xDN (by simp[he])] at hV;exact ih (i+1) (by omega) (by omega) hV
 have:=loop l.length 0 (by omega) (by omega) (by simp);exact this
def znb{h0 k:AH}{g g':Int}{v v':Value}{l l':List GT}(hr:RT h0 v l)(cu:RT h0 v' l')(hk:Ext h0 k) :
  (zc E).call 88 [.agg ⟨[iI g,v]⟩,.agg ⟨[iI g',v']⟩] k=some [(iI (zBd g l g' l'),k)]:=by
 refine zlt (s:=true) hk.ok rfl (zjS ?_);obtain⟨k1,e1,n1,t1,o1,f1⟩:=nwF k (rO [iI g,v] 36);obtain⟨k2,e2,n2,t2,o2,f2⟩:=nw o1 (rO [iI g',v'] 36);simp only[zU,zF,zK,zA,e1,e2,zR];have g1:=(f2 k.qa (by omega)).trans t1;have l0:=zB (P:=E) zAE (o:=0) g1;have l1:=zB (P:=E) zD0 (o:=1) g1;have m0:=zB (P:=E) zAE (o:=0) t2;have m1:=zB (P:=E) zD0 (o:=1) t2;simp only[lnth] at l0 l1 m0 m1;have ex2:=hk.trans o2.ext;refine zjR ?_;simp only[zBp,xCu,l0,m0,zA,zM,zJF ex2.ok,zJ];refine zjQ ?_;simp only[zA,zAS,zJn];refine⟨λ aj=>zjP ?_,λ he=>zjO ?_⟩
 ·simp only[zA,zAC,zO,xDJ];have aj:¬ c3 g g'=0:=aj;exact⟨congrArg (Value.int .i64) (show c3 g g'=_ by rw[znE,xDN aj]),o2.wm⟩
 ·simp only[zCL,xAK,l1,m1,zA,zM,zqG hr cu ex2,zJ,zAC,zO,xDJ];have he:c3 g g'=0:=he;exact⟨by rw[znE,xDO he],o2.wm⟩
def zX7{h0 k:AH}{g g':Int}{v v':Value}{l l':List GT}(hr:RT h0 v l)(cu:RT h0 v' l')(hk:Ext h0 k) :
  (zc E).call 28 [.agg ⟨[iI g,v]⟩,.agg ⟨[iI g',v']⟩] k=some [(.bool (decide (zBd g l g' l'=0)),k)]:=by
 refine zmB (s:=true) hk.ok rfl (zlD ?_);obtain⟨k1,e1,n1,t1,o1,f1⟩:=nwF k (rO [iI g,v] 36);obtain⟨k2,e2,n2,t2,o2,f2⟩:=nw o1 (rO [iI g',v'] 36);simp only[zU,zF,zK,zA,e1,e2,zR];refine zlC ?_;have g1:=(f2 k.qa (by omega)).trans t1;have a1:=zN (P:=E) zC7 (o:=0) g1 (by simp);have a2:=zN (P:=E) zC7 (o:=0) t2 (by simp);simp only[xCe,List.take] at a1 a2;have ex2:=hk.trans o2.ext;simp only[a1,a2,zA,zM,znb (g:=g) (g':=g') hr cu ex2,zJ,zAD,zAC,zO,xDJ];exact o2.wm
end Go.Proofs
