import Derived.Test.YthmnhjcmefjgjaaGreatDoorXAH
import Derived.Test.YthmnhjcmefjgjaaGreatDoorXAD
import Derived.Test.YthmnhjcmefjgjaaGreatDoorXAE
set_option linter.all false
set_option linter.unusedSectionVars false
set_option autoImplicit true
set_option relaxedAutoImplicit true
set_option maxRecDepth 100000
set_option maxHeartbeats 1000000
noncomputable section
namespace Go.Proofs
open Go Go.AM
def zib{α:Type}(a:α):∀ n:Nat,rep n [a]=List.replicate n a
 | 0=>rfl
 | n+1=>by simp only[rep,zib a n,List.replicate_succ];rfl
def zUr{t e:TypeId}{z:Value}(H:∃ i,zEc E t=some e/\zCs E e=some i/\i.zero=some z/\i.bytes<=1000000/\i.size=1)(hz:zj z=[z]){n:Nat}(hn:n<=1000000){h:AH} :
  zBL E t (some (iI (n:Int))) (some (iI (n:Int))) h=one (.slice (some ⟨h.qa,0,none⟩) n n,h.new (rO (List.replicate n z) e)):=by
 obtain⟨i,h1,h2,h3,h4,h5⟩:=H;have ha:zEe (iI (n:Int))=some n:=rfl;simp only[zBL,h1,ha,h2,h3,ble_true.2 (xAF n),ble_true.2 hn,ble_true.2 h4,hz,zBH,h5,zib];rfl
def znI{t:TypeId}{b:Bool}{n:Nat}{z:Value}(h1:tAS E t=some (b,n))(h2:zAL E t=some z)(h3:(match zCs E t with|some i=>Nat.ble i.bytes 1000000|none=>false)=true):∃ i,zCs E t=some i/\i.zero=some z/\i.bytes<=1000000/\i.size=n:=by
 cases ht:zCs E t with
 | none=>unfold tAS at h1;rw[ht] at h1;cases h1
 | some i=>
  refine⟨i,rfl,?_,?_,?_⟩
  ·have:zAL E t=i.zero:=by unfold zAL;unfold zCs at ht;rw[ht]
   rw[← this];exact h2
  ·rw[ht] at h3;exact ble_true.1 h3
  ·unfold tAS at h1;rw[ht] at h1;simp at h1;exact h1.2
def zrV{n:Nat}(hn:n<=1000000){h:AH}:zBL E 129 (some (iI (n:Int))) (some (iI (n:Int))) h=one (.slice (some ⟨h.qa,0,none⟩) n n,h.new (.row (List.replicate n (.slice none 0 0)) 132 0 false)):=
 zUr (by obtain⟨i,a⟩:=znI zCn zjX (by kernel_rfl);exact⟨i,zkn,a⟩) rfl hn
def mk47{n:Nat}(hn:n<=1000000){h:AH}:zBL E 47 (some (iI (n:Int))) (some (iI (n:Int))) h=one (.slice (some ⟨h.qa,0,none⟩) n n,h.new (.row (List.replicate n (iI 0)) 3 0 false)):=
 zUr (by obtain⟨i,a⟩:=znI zAa z_3 (by kernel_rfl);exact⟨i,ziv,a⟩) rfl hn
def znl{a:Option Addr}{n c:Nat}:zAu E 131 (some [(0,.slice a n c)])=some (.agg #[.slice a n c]):=by kernel_rfl
def zr4{a:Option Addr}{h:AH}:zh E 126 1 (some [(0,.pointer a)]) h=one (.slice (some ⟨h.qa,0,none⟩) 1 1,h.new (rO [.pointer a] 128)):=by kernel_rfl
abbrev Gr:=Nat×Nat×List Value×List zf
def inG(x:Gr)(c:Nat):Prop:=c=x.1\/c=x.2.1\/∃(i:Nat) (y:Value),x.2.2.1[i]?=some y/\zu y c
def zUo(L:GL):Prop:=∀(j:Nat) (g:Int) (l:List GT),L.labs[j]?=some (g,l)->g≠-1
def GrOf(L:GL)(x:Gr):Prop:=((x.2.2.1.length:Nat):Int)=L.n/\∀(i:Nat) (S:zf),x.2.2.2[i]?=some S->zr8 x.2.2.1.length (zUo L) S/\S.length<=100000
abbrev ptr(b:Nat):Value:=.pointer (some ⟨b,0,none⟩)
structure Outs(loc:Nat)(h:AH)(out:Value)(gs:List Gr):Prop where
 sl:(out=.slice none 0 0/\gs=[])\/∃ bo,out=.slice (some ⟨bo,0,none⟩) gs.length (UNK+1)/\h.get bo=some (.row (gs.map fun x=>ptr x.1) 128 1 false)/\bo<h.qa/\loc<=bo
 gg:∀ x∈gs,GG loc h x.1 x.2.1 x.2.2.1 x.2.2.2
 sep:∀ x∈gs,∀ c,inG x c->¬ zu out c
def Outs.fx{P:Nat->Prop}{loc:Nat}{h h':AH}{out:Value}{gs:List Gr}(O:Outs loc h out gs)(f:Fx P h h')(h1:∀ c,zu out c->¬ P c)(h2:∀ x∈gs,∀ c,inG x c->¬ P c):Outs loc h' out gs:=by
 refine⟨?_,fun x hx=>(O.gg x hx).fx f (h2 x hx _ (.inl rfl)) (h2 x hx _ (.inr (.inl rfl))) (fun i c b hc hb=>h2 x hx b (.inr (.inr ⟨i,c,hc,hb⟩))),O.sep⟩;rcases O.sl with e|⟨bo,e1,e2,e3,e4⟩
 ·exact .inl e
 ·exact .inr ⟨bo,e1,(f.get bo e3 (h1 bo ⟨_,_,e1⟩)).trans e2,xAC e3 f.qa,e4⟩
def Outs.lt{loc:Nat}{h:AH}{out:Value}{gs:List Gr}(O:Outs loc h out gs){c:Nat}(hc:zu out c\/∃ x∈gs,inG x c):c<h.qa/\loc<=c:=by
 rcases hc with ⟨n,cap,hc⟩|⟨x,hx,hc⟩
 ·rcases O.sl with ⟨e,_⟩|⟨bo,e1,e2,e3,e4⟩
  ·rw[e] at hc;cases hc
  ·rw[e1] at hc;simp only[Value.slice.injEq,xAN,Addr.mk.injEq] at hc;rw[← hc.1.1];exact⟨e3,e4⟩
 ·have G:=O.gg x hx;rcases hc with rfl|rfl|⟨i,y,hy,hb⟩
  ·exact⟨G.ltg,G.locg⟩
  ·exact⟨G.lts,G.locs⟩
  ·have hi:i<x.2.2.2.length:=by rw[← G.len];exact (List.getElem?_eq_some_iff.1 hy).1
   exact⟨(G.cell i y _ hy (xAA hi)).lt hb,(G.blk i y c hy hb).2.2⟩
def zef{loc:Nat}{h:AH}(aa:h.ok)(hloc:loc<=h.qa){out:Value}{gs:List Gr}(O:Outs loc h out gs)(hn:gs.length<=1000)(x:Gr)(hx:GG loc h x.1 x.2.1 x.2.2.1 x.2.2.2)(dV:∀ c,inG x c->¬ zu out c) :
  ∃ out' h3,zAJ E .append [126,126] (some [out,.slice (some ⟨h.qa,0,none⟩) 1 1]) (h.new (rO [ptr x.1] 128))=one (out',h3)/\Outs loc h3 out' (gs++[x])/\Fx (fun c=>zu out c) h h3/\(∀ c,zu out' c->h.qa<=c):=by
 have az:=zI h (rO [ptr x.1] 128);have hlx:∀ c,inG x c->c<h.qa:=by
  intro c hc;rcases hc with rfl|rfl|⟨i,y,hy,hb⟩
  ·exact hx.ltg
  ·exact hx.lts
  ·have hi:i<x.2.2.2.length:=by rw[← hx.len];exact (List.getElem?_eq_some_iff.1 hy).1
   exact (hx.cell i y _ hy (xAA hi)).lt hb
 have b9:∀(n cap c:Nat),zu (.slice (some ⟨h.qa+1,0,none⟩) n cap) c->c=h.qa+1:=by
  rintro n cap c ⟨m,cap',e⟩;simp only[Value.slice.injEq,xAN,Addr.mk.injEq] at e;exact e.1.1.symm
 have fin:∀ {h3:AH} {cap:Nat},cap=UNK+1->h3.qa=h.qa+2->Fx (fun c=>zu out c) h h3->h3.get (h.qa+1)=some (.row ((gs++[x]).map fun x=>ptr x.1) 128 1 false)->Outs loc h3 (.slice (some ⟨h.qa+1,0,none⟩) (gs.length+1) cap) (gs++[x]):=by
  rintro h3 cap rfl e1 f e2;refine⟨.inr ⟨h.qa+1,by simp,e2,by omega,by omega⟩,?_,?_⟩
  ·intro y hy;rcases List.mem_append.1 hy with hy|hy
   ·exact (O.gg y hy).fx f (O.sep y hy _ (.inl rfl)) (O.sep y hy _ (.inr (.inl rfl))) (fun i c b hc hb=>O.sep y hy b (.inr (.inr ⟨i,c,hc,hb⟩)))
   ·simp only[xAE] at hy;subst hy;exact hx.fx f (dV _ (.inl rfl)) (dV _ (.inr (.inl rfl))) (fun i c b hc hb=>dV b (.inr (.inr ⟨i,c,hc,hb⟩)))
  ·intro y hy c hc hb;have hc1:=b9 _ _ c hb;rcases List.mem_append.1 hy with hy|hy
   ·have:=(O.lt (.inr ⟨y,hy,hc⟩)).1;omega
   ·simp only[xAE] at hy;subst hy;have:=hlx c hc;omega
 rcases O.sl with ⟨rfl,rfl⟩|⟨bo,rfl,e2,e3,e4⟩
 ·refine⟨_,_,append_nil ziy az rfl,fin rfl rfl (((Fx.refl aa).new _).new _) ?_,((Fx.refl aa).new _).new _,fun c hc=>by rw[b9 _ _ c hc];omega⟩;exact zI (h.new _) _
 ·have hb:(h.new (rO [ptr x.1] 128)).get bo=some (.row (gs.map fun x=>ptr x.1) 128 1 false):=by rw[zK (by omega)];exact e2
  have f1:Fx (fun c=>zu (.slice (some ⟨bo,0,none⟩) gs.length (UNK+1)) c) h (h.new (rO [ptr x.1] 128)):=(Fx.refl aa).new _;have f2:=(f1.upd (b:=bo) (.inl ⟨_,_,rfl⟩) none).new (.row ((gs.map fun x=>ptr x.1)++[ptr x.1]) 128 1 false);refine⟨_,_,zC4 ziy (by omega) hb (by simp) (by omega) az rfl rfl,fin rfl rfl f2 ?_,f2,fun c hc=>by rw[b9 _ _ c hc];omega⟩;rw[List.map_append];exact zI ((h.new _).upd bo none) _
def zAT(nums:List Int)(L:GL):List zf:=zC7 nums (List.replicate L.n.toNat []) L.eds
def zEA:List CL->List GL->List (List zf)
 | _,[]=>[]
 | cs,L::Ls=>zAT (zBy cs L.labs).1 L::zEA (zBy cs L.labs).2 Ls
def zkY{k:AH}{v0:Value}{els:List (List Value)}{Ls:List GL}(a:Args k v0 els Ls){bn:Nat}(gH:k.qa<=bn){K:KF}{ad:Option Addr}{cp:Nat}(fu:v0=.slice ad els.length cp){G:List (List zf)}
  (hK:∀ kk out gs,Own k kk->Outs k.qa kk out gs->gs.length=els.length->(∀(i:Nat) (x:Gr) (L:GL),gs[i]?=some x->Ls[i]?=some L->GrOf L x)->gs.map (fun x=>x.2.2.2)=G->K .ret [out] kk) :
  ∀(m i:Nat),i+m=els.length->∀ kk v n out gs,Own k kk->NM k kk bn v n->(∀ c,zu v c->k.qa<=c)->n.length<=4000*els.length+4000*i->gs.map (fun x=>x.2.2.2)++zEA n (Ls.drop i)=G->Outs k.qa kk out gs->gs.length=i->
   (∀(i:Nat) (x:Gr) (L:GL),gs[i]?=some x->Ls[i]?=some L->GrOf L x)->(∀ c,(zu out c\/∃ x∈gs,inG x c)->c≠bn/\¬ zu v c)->
   zoy true K (ptr bn) out v0 (iI (els.length:Int)) (iI (i:Int)) kk:=by
 have hfew:=a.few;intro m
 induction m with
 | zero=>
  intro i hi kk v n out gs ho hm hb hn hGG hO cD dA dV;refine zMT ?_;simp only[zY,zA,zAN];refine⟨fun h=>by omega,fun _=>zWo ?_⟩;exact hK kk out gs ho hO (by omega) dA (by rw[List.drop_eq_nil_of_le (by have:=a.len;omega)] at hGG;simpa[zEA] using hGG)
 | succ m ih=>
  intro i hi kk v n out gs ho hm hb hn hGG hO cD dA dV;have ai:i<els.length:=by omega
  refine zMT ?_;simp only[zY,zA,zAN];refine⟨fun _=>zW1 ?_,fun h=>by omega⟩;obtain⟨L,b,o,c,vs,ty,es,ro,vl,ve,elsL,q0,q1,q2,q3,q4,q5,q6,q7,q8,q9,q10,q11⟩:=a.at ai;have gb:kk.get b=some (.row vs ty es ro):=(ho.ext.get b q3).trans q2;rw[fu] at q1;simp only[Value.slice.injEq] at q1;obtain⟨q11',_,_⟩:=q1;subst q11';obtain⟨s1,s2,s3,s4⟩:=zAV q11;obtain⟨N,hN⟩:=Int.eq_ofNat_of_zero_le (show 0<=L.n by omega);obtain⟨al,cl,aT⟩:=q8.slice;rw[RLab.length q9] at aT;obtain⟨ae,ce,cH⟩:=q10.slice;rw[List.length_map] at cH;have bK:=zlr (k:=kk) (e:=[iI L.n,vl,ve]) (by simp[zq];exact⟨q6,q7⟩) rfl;simp only[fu,zes ai,zA,zZ zDh gb q4,q5,zql,zd,zL,zX,bK];refine zW0 ?_;have df:=ho.ext.qa;have f1:Fx NoB kk ((kk.new (rO [iI 0,.slice none 0 0,.slice none 0 0] 25)).upd kk.qa (some (rO [iI L.n,vl,ve] 25))):=((Fx.refl ho.ext.ok).new _).upd (.inr (xAF _)) _;have t1:((kk.new (rO [iI 0,.slice none 0 0,.slice none 0 0] 25)).upd kk.qa (some (rO [iI L.n,vl,ve] 25))).get kk.qa=some (rO [iI L.n,vl,ve] 25):=zN _ _ _;have n1:((kk.new (rO [iI 0,.slice none 0 0,.slice none 0 0] 25)).upd kk.qa (some (rO [iI L.n,vl,ve] 25))).qa=kk.qa+1:=rfl;generalize ((kk.new (rO [iI 0,.slice none 0 0,.slice none 0 0] 25)).upd kk.qa (some (rO [iI L.n,vl,ve] 25)))=k1 at f1 t1 n1;have l0:=zF (P:=E) zAa (o:=0) t1;simp only[lnth] at l0;rw[hN] at l0;simp only[zA3,Nat.add_zero,l0,zA,zrV (show N<=1000000 by omega),zL,znl,zd,zX];refine zWz ?_;have f2:Fx NoB kk ((k1.new (.row (List.replicate N (.slice none 0 0)) 132 0 false)).new (rO [.slice (some ⟨k1.qa,0,none⟩) N N] 131)):=(f1.new _).new _;have t2:((k1.new (.row (List.replicate N (.slice none 0 0)) 132 0 false)).new (rO [.slice (some ⟨k1.qa,0,none⟩) N N] 131)).get kk.qa=some (rO [iI L.n,vl,ve] 25):=by
   rw[zK (by simp;omega),zK (by omega)];exact t1
  have ts2:((k1.new (.row (List.replicate N (.slice none 0 0)) 132 0 false)).new (rO [.slice (some ⟨k1.qa,0,none⟩) N N] 131)).get k1.qa=some (.row (List.replicate N (.slice none 0 0)) 132 0 false):=by
   rw[zK (by simp)];exact zI _ _
  have tg2:((k1.new (.row (List.replicate N (.slice none 0 0)) 132 0 false)).new (rO [.slice (some ⟨k1.qa,0,none⟩) N N] 131)).get (k1.qa+1)=some (rO [.slice (some ⟨k1.qa,0,none⟩) N N] 131):=zI (k1.new _) _;have n2:((k1.new (.row (List.replicate N (.slice none 0 0)) 132 0 false)).new (rO [.slice (some ⟨k1.qa,0,none⟩) N N] 131)).qa=k1.qa+2:=rfl;simp only[AH.next_new];generalize ((k1.new (.row (List.replicate N (.slice none 0 0)) 132 0 false)).new (rO [.slice (some ⟨k1.qa,0,none⟩) N N] 131))=k2 at f2 t2 ts2 tg2 n2;have l1:=zF (P:=E) zHc (o:=1) t2;simp only[lnth] at l1;rw[aT] at l1;simp only[zBf,xAK,l1,zA,zQ6,mk47 (show L.labs.length<=1000000 by omega),zL];refine zWy ?_;have f3:Fx NoB kk (k2.new (.row (List.replicate L.labs.length (iI 0)) 3 0 false)):=f2.new _;have t3:(k2.new (.row (List.replicate L.labs.length (iI 0)) 3 0 false)).get kk.qa=_:=(zK (by omega)).trans t2;have ts3:(k2.new (.row (List.replicate L.labs.length (iI 0)) 3 0 false)).get k1.qa=_:=(zK (by omega)).trans ts2;have tg3:(k2.new (.row (List.replicate L.labs.length (iI 0)) 3 0 false)).get (k1.qa+1)=_:=(zK (by omega)).trans tg2;have tm3:(k2.new (.row (List.replicate L.labs.length (iI 0)) 3 0 false)).get k2.qa=some (.row (ints (List.replicate L.labs.length 0)) 3 0 false):=by
   rw[zI];simp[ints]
  have n3:(k2.new (.row (List.replicate L.labs.length (iI 0)) 3 0 false)).qa=k2.qa+1:=rfl;generalize (k2.new (.row (List.replicate L.labs.length (iI 0)) 3 0 false))=k3 at f3 t3 ts3 tg3 tm3 n3;have l3:=zF (P:=E) zHc (o:=1) t3;simp only[lnth] at l3;rw[aT] at l3;simp only[zBf,xAK,l3,zA,zQ5];have o3:=f3.own ho (fun _ h=>h.elim);have hm3:=hm.fx f3 (fun h=>h) (fun _ _ h=>h);have hbnlt:=hm.lt;have fp:∀ c,zu v c->c<kk.qa:=fun c hc=>zK3 hm hc;have key:=zka (k:=k) gH (K:=K) (vl:=vl) aT q8 q9 s3 (v8:=out) (v10:=ptr kk.qa) (v11:=ptr (k1.qa+1)) (v34:=.slice (some ⟨b,o,none⟩) els.length cp) (v35:=iI (els.length:Int)) (v36:=iI (i:Int))
   (bm:=k2.qa) (base:=n.length) (by omega) (by omega) (k0:=k3) (w0:=v) (by omega) (N1:=(zBy n L.labs).1) (cs1:=(zBy n L.labs).2) ?_ L.labs.length 0 (by omega) k3 v n (List.replicate L.labs.length 0) o3 hm3 hb (by omega) rfl (by simp) (Fx.refl o3.ext.ok) (fun c hc=>.inl hc) (by omega) (fun h=>by have:=fp _ h;omega) (by omega) tm3 (by simp) (fun i h=>by omega)
  ·rw[aT] at key;simpa using key
  ·intro kk4 v4 n4 nums o4 hm4 hb4 hn4 hcs4 hnums4 f4 hbl4 hne4 hnb4 hrow4 hlen4 hok4;refine zWu ?_;have eB:∀ c,k3.qa<=kk.qa+10->c<k3.qa->kk.qa<=c->c≠k2.qa->¬ ((c=bn\/zu v c)\/c=k2.qa):=by
    intro c _ h1 h2 h3;rintro ((h|h)|h)
    ·omega
    ·have:=fp c h;omega
    ·exact h3 h
   have t4:=(f4.get kk.qa (by omega) (eB _ (by omega) (by omega) (by omega) (by omega))).trans t3;have ts4:=(f4.get k1.qa (by omega) (eB _ (by omega) (by omega) (by omega) (by omega))).trans ts3;have tg4:=(f4.get (k1.qa+1) (by omega) (eB _ (by omega) (by omega) (by omega) (by omega))).trans tg3;have l4:=zF (P:=E) zKT (o:=2) t4;simp only[lnth] at l4;rw[cH] at l4;simp only[zCT,xAK,l4,zA,zQ4];have hkk4:=f4.qa;have hG4:GG k.qa kk4 (k1.qa+1) k1.qa (List.replicate N (.slice none 0 0)) (List.replicate N []):=by
    refine⟨?_,ts4,by simp,by omega,by omega,by omega,by omega,by omega,?_,?_,?_⟩
    ·rw[List.length_replicate];exact tg4
    ·intro i c S hc hS;have:=List.getElem?_replicate (a:=Value.slice none 0 0) (n:=N) (i:=i);rw[hc] at this;have h2:=List.getElem?_replicate (a:=([]:zf)) (n:=N) (i:=i);rw[hS] at h2;split at this
     ·rename_i hi;rw[if_pos hi] at h2;cases this;cases h2;exact .inl ⟨rfl,rfl⟩
     ·cases this
    ·intro i c b hc hb;obtain⟨n,cap,rfl⟩:=hb;have:=List.getElem?_replicate (a:=Value.slice none 0 0) (n:=N) (i:=i);rw[hc] at this;split at this <;> cases this
    ·intro i j c d b hc hd hb;obtain⟨n,cap,rfl⟩:=hb;have:=List.getElem?_replicate (a:=Value.slice none 0 0) (n:=N) (i:=i);rw[hc] at this;split at this <;> cases this
   have dJ:∀(i:Nat) (x:Value) (c:Nat),(List.replicate N (Value.slice none 0 0))[i]?=some x->¬ zu x c:=by
    rintro i x c hx ⟨n,cap,rfl⟩;have:=List.getElem?_replicate (a:=Value.slice none 0 0) (n:=N) (i:=i);rw[hx] at this;split at this <;> cases this
   have key3:=zkZ (k:=k) (K:=K) (L:=L) cH q10 q11 hN (v3:=ptr bn) (v8:=out) (v34:=.slice (some ⟨b,o,none⟩) els.length cp) (v35:=iI (els.length:Int)) (v36:=iI (i:Int)) (bm:=k2.qa) (bg:=k1.qa+1) (bs:=k1.qa) hlen4 hok4
    (k0:=kk4) (cells0:=List.replicate N (.slice none 0 0)) (SS1:=zAT nums L) (vis:=zUo L) (fun h=>h) ?_ L.eds.length 0 (by omega) kk4 (List.replicate N (.slice none 0 0)) (List.replicate N []) o4 hG4 (by simp) (fun i S hS=>by
     have h2:=List.getElem?_replicate (a:=([]:zf)) (n:=N) (i:=i);rw[hS] at h2;split at h2
     ·cases h2;exact⟨(fun x hx=>by cases hx),by simp⟩
     ·cases h2) (by unfold zAT;rw[hN];rfl) (Fx.refl o4.ext.ok) (fun i x c hx hc=>absurd hc (dJ i x c hx)) hrow4 (by omega) (by omega) (fun i x hx=>dJ i x _ hx) (by omega)
   ·rw[cH] at key3;simpa using key3
   ·intro kk5 cells SS o5 hG5 hNc af hSS5 f5 hcb5;refine zWq ?_;have f5':Fx (fun c=>c=k1.qa) kk4 kk5:=f5.mono (fun c hc=>hc.elim (fun h=>.inl h) fun ⟨i,x,hx,hb⟩=>absurd hb (dJ i x c hx));have hold:∀ c,(zu out c\/∃ x∈gs,inG x c)->c<kk.qa/\c≠bn/\¬ zu v c:=fun c hc=>⟨(hO.lt hc).1,dV c hc⟩;have hO3:=hO.fx f3 (fun _ _ h=>h) (fun _ _ _ _ h=>h);have hO4:=hO3.fx f4 (fun c hc h=>by
     have:=hold c (.inl hc);rcases h with (h|h)|h
     ·exact this.2.1 h
     ·exact this.2.2 h
     ·omega) (fun x hx c hc h=>by
     have:=hold c (.inr ⟨x,hx,hc⟩);rcases h with (h|h)|h
     ·exact this.2.1 h
     ·exact this.2.2 h
     ·omega)
    have hO5:=hO4.fx f5' (fun c hc h=>by have:=hold c (.inl hc);omega) (fun x hx c hc h=>by have:=hold c (.inr ⟨x,hx,hc⟩);omega);have gi:∀ c,inG (k1.qa+1,k1.qa,cells,SS) c->(c=k1.qa+1\/c=k1.qa\/kk4.qa<=c):=by
     intro c hc;rcases hc with h|h|⟨i',y,hy,hb⟩
     ·exact .inl h
     ·exact .inr (.inl h)
     ·exact .inr (.inr ((hcb5 i' y c hy hb).elim (fun ⟨i2,x2,h1,h2⟩=>absurd h2 (dJ i2 x2 c h1)) fun h=>h))
    have hm5:NM k kk5 bn v4 n4:=hm4.fx f5' (fun h=>by omega) (fun c hc h=>by
     rcases hbl4 c hc with h'|h'
     ·have:=fp c h';omega
     ·omega)
    obtain⟨out',h3,r1,r2,r3,r4⟩:=zef o5.ext.ok (by have:=o5.ext.qa;exact this) hO5 (by omega) (k1.qa+1,k1.qa,cells,SS) hG5 (fun c hc h=>by
     have:=hold c (.inl h);rcases gi c hc with h'|h'|h' <;> omega)
    simp only[zA,zr4,zL,r1];refine zWp ?_;simp only[zAK _ (zDu ai (by omega)),zA];have fY:∀ c,zu out c->c≠bn/\¬ zu v4 c:=fun c hc=>by
     have:=hold c (.inl hc);refine⟨this.2.1,fun h=>?_⟩;rcases hbl4 c h with h'|h'
     ·exact this.2.2 h'
     ·omega
    have hm6:NM k h3 bn v4 n4:=hm5.fx r3 (fun h=>(fY bn h).1 rfl) (fun c hc h=>(fY c h).2 hc);have:=ih (i+1) (by omega) h3 v4 n4 out' (gs++[(k1.qa+1,k1.qa,cells,SS)]) (r3.own o5 (fun c hc=>(hO.lt (.inl hc)).2)) hm6 hb4 (by omega) (by rw[zIL q0] at hGG;simp only[zEA] at hGG;rw[List.map_append,List.append_assoc,hcs4,← hGG,hSS5,hnums4];rfl) r2 (by simp[cD]) (fun j x L' hx hL'=>by
     rcases Nat.lt_or_ge j gs.length with hj|hj
     ·rw[List.getElem?_append_left hj] at hx;exact dA j x L' hx hL'
     ·rw[List.getElem?_append_right hj] at hx;have hj0:j=gs.length:=by
       have:=(List.getElem?_eq_some_iff.1 hx).1;simp at this;omega
      subst hj0;simp only[Nat.sub_self,List.getElem?_cons_zero,xAN] at hx;subst hx;rw[cD,q0] at hL';cases hL';exact⟨by simp only;rw[hNc,hN],fun i S hS=>by simp only;rw[hNc];exact af i S hS⟩) (fun c hc=>by
     rcases hc with hc|⟨x,hx,hc⟩
     ·have h1:=r4 c hc;have h2:=hm5.lt;refine⟨by omega,fun h=>by have:=zK3 hm5 h;omega⟩
     ·rcases List.mem_append.1 hx with hx|hx
      ·have:=hold c (.inr ⟨x,hx,hc⟩);refine⟨this.2.1,fun h=>?_⟩;rcases hbl4 c h with h'|h'
       ·exact this.2.2 h'
       ·omega
      ·simp only[xAE] at hx;subst hx;have aH:=gi c hc;refine⟨by rcases aH with h'|h'|h' <;> omega,fun h=>?_⟩;have h4:=zK3 hm4 h;rcases hbl4 c h with h5|h5
       ·have:=fp c h5;rcases aH with h'|h'|h' <;> omega
       ·rcases aH with h'|h'|h' <;> omega)
    rw[fu] at this;simpa using this
def GG.same{loc bg bs:Nat}{h:AH}{cells:List Value}{SS:List zf}(G:GG loc h bg bs cells SS)(w:Nat):GG loc ⟨h.t,h.qa,w⟩ bg bs cells SS:=
 ⟨G.g,G.s,G.len,G.ne,G.ltg,G.lts,G.locg,G.locs,fun i c S hc hS=>G.cell i c S hc hS,G.blk,G.dis⟩
def zFy(Ls:List GL):List (List zf):=zEA (zHu Ls []) Ls
def zi3{k:AH}{v0:Value}{els:List (List Value)}{Ls:List GL}(aa:k.ok)(ah:els.length≠0)(a:Args k v0 els Ls) :
  Ev true ((zV E).call 90 [v0] k) fun x=>∃ gs,Outs k.qa x.2 x.1 gs/\gs.length=els.length/\(∀(i:Nat) (y:Gr) (L:GL),gs[i]?=some y->Ls[i]?=some L->GrOf L y)/\gs.map (fun x=>x.2.2.2)=zFy Ls/\Fx NoB k x.2:=by
 obtain⟨ad,cp,hv⟩:=a.arr.slice;refine zhP (Rp:=fun x k'=>∃ gs,Outs k.qa k' x gs/\gs.length=els.length/\(∀(i:Nat) (y:Gr) (L:GL),gs[i]?=some y->Ls[i]?=some L->GrOf L y)/\gs.map (fun x=>x.2.2.2)=zFy Ls/\Fx NoB k k') (zfi ?_);refine zfh ?_;simp only[zq1,zd,zL,zX];refine zfg ?_;have o1:=(Own.qb k).new (rO [.slice none 0 0] 197);have t1:=zI k.qb (rO [.slice none 0 0] 197);have n1:(k.qb.new (rO [.slice none 0 0] 197)).qa=k.qa+1:=rfl;simp only[za] at t1 ⊢;generalize k.qb.new (rO [.slice none 0 0] 197)=k1 at o1 t1 n1;have hm:NM k k1 k.qa (.slice none 0 0) []:=⟨t1,by omega,.inl ⟨rfl,rfl⟩⟩;have bR:∀ c,¬ zu (.slice none 0 0) c:=by rintro c ⟨n,cap,h⟩;cases h
 rw[hv];simp only[zA,zU0];rw[← hv];have a':Args k v0 els Ls:=a;refine zkb a' (bn:=k.qa) (xAF _) hv (fin:=zHu Ls []) (fun kk v n ho hm hb hn bU=>zW3 ?_) els.length 0 (by omega) k1 (.slice none 0 0) [] o1 hm (fun c h=>absurd h (bR c)) (by simp) (by simp);refine zW2 ?_;rw[hv];simp only[zA,zQ7];rw[← hv];refine zkY a' (bn:=k.qa) (xAF _) hv (G:=zFy Ls) (fun kk out gs ho hO hl hg hGe=>?_) els.length 0 (by omega) kk v n (.slice none 0 0) [] ho hm hb (by omega) (by rw[bU];rfl) ⟨.inl ⟨rfl,rfl⟩,by simp,by simp⟩ rfl (by simp) (fun c h=>by
  rcases h with h|⟨x,hx,_⟩
  ·exact absurd h (bR c)
  ·cases hx)
 simp only[zAS,zU,true_and];have cw:zg out=false:=by
  rcases hO.sl with ⟨_,h⟩|⟨bo,h,_⟩
  ·rw[h] at hl;simp at hl;omega
  ·rw[h];rfl
 refine⟨.inl cw,gs,?_,hl,hg,hGe,?_⟩
 ·exact⟨hO.sl,fun x hx=>(hO.gg x hx).same _,hO.sep⟩
 ·refine⟨?_,ho.ext.qa,fun c hc _=>ho.ext.get c hc,fun m h1 _ h3=>?_⟩
  ·show cond (Nat.ble k.wm kk.wm) k.wm kk.wm<=kk.qa+UNK;have:=ho.ext.ok;unfold AH.ok at this;cases aY:Nat.ble k.wm kk.wm with
   | true=>rw[ble_true] at aY;simp only[xAG];omega
   | false=>exact this
  ·show m<=cond (Nat.ble k.wm kk.wm) k.wm kk.wm;have:=ho.wm;cases aY:Nat.ble k.wm kk.wm with
   | true=>exact h1
   | false=>simp only[xAH];omega
abbrev Rel:=List (Int×Int)
def ent(R:Rel):List (Value×Value):=R.map fun p=>(.agg ⟨zG p⟩,.bool true)
def u54:und E 54=some (.array 2 3):=ziR
def u3:und E 3=some (.int .i64):=by kernel_rfl
def zkF:zLo E 174=some (54,4):=by kernel_rfl
def z4:zAL E 4=some (.bool false):=by kernel_rfl
def zfG(a b c d:Int):zBG [iI a,iI b] [iI c,iI d]=some (decide ((a,b)=(c,d))):=by
 have hb:zBG [iI b] [iI d]=some (decide (b=d)):=by
  simp only[zBG];have:keq .i64 .i64=true:=rfl;simp only[this,if_true,zEW];by_cases h:b=d
  ·simp[h]
  ·have:(b==d)=false:=by simpa using h
   simp[this,h]
 simp only[zBG] at hb ⊢;have hk:keq .i64 .i64=true:=rfl;simp only[hk,if_true,zEW] at hb ⊢;rw[hb];by_cases h:a=c
 ·simp[h]
 ·have:(a==c)=false:=by simpa using h
  simp[this,h]
def zVF(p q:Int×Int):zCA E 54 (.agg ⟨zG p⟩) (.agg ⟨zG q⟩)=some (decide (p=q)):=by
 simp only[zCA,u54,u3,zT7,zG,zBH];show cond (Nat.beq (0+1+1) 2) (zBG [iI p.1,iI p.2] [iI q.1,iI q.2]) none=_;rw[zfG];rfl
def zOI(p:Int×Int):zET E 54 (.agg ⟨zG p⟩)=true:=by
 simp only[zET,u54,u3,zT7,zG];rfl
def zPu:∀ {R:Rel},R.Nodup->∀ q:Int×Int,zAf E 54 (.agg ⟨zG q⟩) (ent R)=some (if q∈R then some (.bool true) else none)
 | [],_,q=>by simp[ent,zAf]
 | p::R,h,q=>by
  obtain⟨h1,h2⟩:=List.nodup_cons.1 h;have ih:=zPu h2 q;simp only[ent,List.map_cons,zAf] at ih ⊢;rw[zVF,ih];by_cases e:q=p
  ·subst e;simp[h1]
  ·simp[e]
def zkK{h:AH}{m ver:Nat}{R:Rel}(hm:h.get m=some (.map (ent R) ver))(hR:R.Nodup)(q:Int×Int) :
  zBM E 174 false (some (.map (some m))) (some (.agg ⟨zG q⟩)) h=some (.bool (decide (q∈R))):=by
 simp only[zBM,zFL,zkF,zDo,hm,zOI,xAG,zPu hR];by_cases e:q∈R
 ·simp[e,zEY,okV]
 ·simp[e,zEY,z4,okV]
def zsl{a b:Int}:zAu E 54 (some [(0,iI a),(1,iI b)])=some (.agg ⟨zG (a,b)⟩):=by kernel_rfl
abbrev zA0(x y:Value)(m:Nat):List Value:=[x,y,.map (some m)]
def zK1{k:AH}{x y:Value}{m ver:Nat}{R:Rel}(aa:k.ok)(hm:k.get m=some (.map (ent R) ver))(aN:m<k.qa)(hR:R.Nodup)(s t:Int) :
  (zV E).call 123 [.agg ⟨zA0 x y m⟩,iI s,iI t] k=some [(.bool (decide ((s,t)∈R)),k)]:=by
 refine zd4 (s:=true) aa rfl (zcv ?_);simp only[zd,zL,zX,zA];refine zcu ?_;have o1:=(Own.qb k).new (rO (zA0 x y m) 176);have t1:=zI k.qb (rO (zA0 x y m) 176);simp only[za] at t1 ⊢;generalize k.qb.new (rO (zA0 x y m) 176)=k1 at o1 t1;have l2:=zF (P:=E) zLR (o:=2) t1;simp only[lnth,zA0] at l2;have eH:=(o1.ext.get m aN).trans hm;simp only[zF3,xAK,l2,zA,zsl,zkK eH hR,zAS,zU,true_and];exact o1.wm
def zFf(R:Rel)(x y:Int×Int):Bool:=decide (y.1=x.1)&&decide ((x.2,y.2)∈R)
def zlW{k:AH}{gx gy:Value}{m ver:Nat}{R:Rel}{x y:Int×Int}{bx bf ty1 ty2:Nat}(aa:k.ok)(hm:k.get m=some (.map (ent R) ver))(aN:m<k.qa)(hR:R.Nodup)(hx:k.get bx=some (rO (zG x) ty1))(hxl:bx<k.qa)(hf:k.get bf=some (rO (zA0 gx gy m) ty2))(cw:bf<k.qa) :
  (zV E).call 174 [.agg ⟨zG y⟩,ptr bx,ptr bf] k=some [(.bool (zFf R x y),k)]:=by
 refine zdk (s:=true) aa rfl (zbZ ?_);simp only[zd,zL,zX,zA];refine zbY ?_;have o1:=(Own.qb k).new (rO (zG y) 134);have t1:=zI k.qb (rO (zG y) 134);simp only[za] at t1 ⊢;generalize k.qb.new (rO (zG y) 134)=k1 at o1 t1;have hx1:=(o1.ext.get bx hxl).trans hx;have dY:=(o1.ext.get bf cw).trans hf;have eH:=(o1.ext.get m aN).trans hm;have y0:=zF (P:=E) zAa (o:=0) t1;have y1:=zF (P:=E) zAa (o:=1) t1;have x0:=zF (P:=E) zAa (o:=0) hx1;have x1:=zF (P:=E) zAa (o:=1) hx1;have lf:=zZ (P:=E) zLQ (o:=0) dY (by simp[zA0]);rw[List.drop_zero,xAD (by simp[zA0])] at lf;simp only[lnth,zG] at y0 y1 x0 x1;simp only[zDX,zA6,Nat.add_zero,xAK,y0,x0,zA,zAd];by_cases e:y.1=x.1
 ·simp only[e,decide_true,zM,zR,xAO,xAG,zD4,zA6,Nat.add_zero,xAK,lf,x1,y1,zA,zS,zK1 o1.ext.ok eH (xAC aN o1.ext.qa) hR,zO,zJ,zAS,zU,true_and,zFf,Bool.true_and];exact o1.wm
 ·simp only[e,decide_false,zM,zR,zw,zz,show (false==true)=false from rfl,xAH,zA,zL,zJ,zAS,zU,true_and,zFf,Bool.false_and];exact o1.wm
def zCE{h:AH}{c:Value}{S:zf}(k:CellOK h c S):Arr h 2 c (S.map zG):=by
 rcases k with ⟨rfl,rfl⟩|⟨b,rfl,hg,ab⟩
 ·exact .nil _ _
 ·have:=Arr.row (h:=h) (z:=2) (b:=b) (o:=0) (c:=UNK+2) (els:=S.map zG) hg ab (by simp[zHj]) (fun i e he=>by
   simp only[List.getElem?_map] at he;cases hx:S[i]? with
   | none=>rw[hx] at he;cases he
   | some x=>
    rw[hx] at he;simp only[Option.map_some,xAN] at he;subst he;refine⟨rfl,?_⟩;rw[xAK];have:∀(S:zf) (i:Nat),S[i]?=some x->((stc S).drop (i*2)).take 2=zG x:=by
     intro S
     induction S with
     | nil=>intro i h;simp at h
     | cons y S ih=>
      intro i h;cases i with
      | zero=>simp at h;subst h;rfl
      | succ i=>
       rw[show (i+1)*2=i*2+2 by omega];have:=ih i (by simpa using h);rw[← this];rfl
    exact this S i hx)
  simpa using this
def zkT(p:Nat->Bool)(n:Nat):decide (0<=zAH p n 0)=(List.range n).any p:=by
 have h:=zBv (p:=p) n 0;cases hb:(List.range n).any p with
 | true=>
  have:¬ zAH p n 0<0:=by
   intro c7;have:=h.2 c7;obtain⟨j,hj,hp⟩:=List.any_eq_true.1 hb;rw[this j (Nat.zero_le _) (by have:=List.mem_range.1 hj;omega)] at hp;cases hp
  exact xAJ (by omega)
 | false=>
  have:zAH p n 0<0:=h.1 fun j _ hj=>by
   have:=List.any_eq_false.1 hb j (List.mem_range.2 (by omega));simpa using this
  exact xAI (by omega)
structure GV(h:AH)(bg:Nat)(SS:List zf):Prop where
 ex:∃ loc bs cells,GG loc h bg bs cells SS
def GV.ext{h k:AH}{bg:Nat}{SS:List zf}(g:GV h bg SS)(e:Ext h k):GV k bg SS:=by
 obtain⟨loc,bs,cells,G⟩:=g.ex;refine⟨loc,bs,cells,(e.get bg G.ltg).trans G.g,(e.get bs G.lts).trans G.s,G.len,G.ne,xAC G.ltg e.qa,xAC G.lts e.qa,G.locg,G.locs,fun i c S hc hS=>?_,G.blk,G.dis⟩;rcases G.cell i c S hc hS with a|⟨b,a1,a2,a3⟩
 ·exact .inl a
 ·exact .inr ⟨b,a1,(e.get b a3).trans a2,xAC a3 e.qa⟩
def zEO(R:Rel)(S:zf)(x:Int×Int):Bool:=S.any fun y=>zFf R x y
def pAt(S:zf)(f:Int×Int->Bool)(i:Nat):Bool:=match S[i]? with
 | some y=>f y
 | none=>false
def zlz(S:zf)(f:Int×Int->Bool):(List.range S.length).any (pAt S f)=S.any f:=by
 rw[Bool.eq_iff_iff];simp only[List.any_eq_true,List.mem_range];constructor
 ·rintro⟨i,hi,h⟩;unfold pAt at h;rw[xAA hi] at h;exact⟨_,List.getElem_mem hi,h⟩
 ·rintro⟨y,hy,h⟩;obtain⟨i,hi⟩:=List.mem_iff_getElem?.1 hy;refine⟨i,(List.getElem?_eq_some_iff.1 hi).1,?_⟩;unfold pAt;rw[hi];exact h
def zOq{k:AH}{gx:Value}{bg m ver t:Nat}{R:Rel}{SS:List zf}{S:zf}{x:Int×Int}{v1:Value}(aa:k.ok)(hm:k.get m=some (.map (ent R) ver))(aN:m<k.qa)(hR:R.Nodup)(hg:GV k bg SS)(hS:SS[t]?=some S)(gJ:S.length<=1000000) :
  (zV E).call 128 [.agg ⟨zA0 gx (ptr bg) m⟩,v1,iI (t:Int),.agg ⟨zG x⟩] k=some [(.bool (zEO R S x),k)]:=by
 refine zd1 (s:=true) aa rfl (zcf ?_);simp only[zd,zL,zX,zA];refine zce ?_;have o1:=((Own.qb k).new (.row (zA0 gx (ptr bg) m) 178 0 false)).new (rO (zG x) 134);have tf:((k.qb.new (.row (zA0 gx (ptr bg) m) 178 0 false)).new (rO (zG x) 134)).get k.qa=some (.row (zA0 gx (ptr bg) m) 178 0 false):=by
  rw[zK (by simp)];exact zI k.qb _
 have tx:((k.qb.new (.row (zA0 gx (ptr bg) m) 178 0 false)).new (rO (zG x) 134)).get (k.qa+1)=some (rO (zG x) 134):=zI (k.qb.new _) _;have n1:((k.qb.new (.row (zA0 gx (ptr bg) m) 178 0 false)).new (rO (zG x) 134)).qa=k.qa+2:=rfl;simp only[za,AH.next_new];generalize ((k.qb.new (.row (zA0 gx (ptr bg) m) 178 0 false)).new (rO (zG x) 134))=k1 at o1 tf tx n1;obtain⟨loc,bs,cells,G⟩:=(hg.ext o1.ext).ex;have eH:=(o1.ext.get m aN).trans hm;have lf:=zF (P:=E) zCJ (o:=1) tf;have lg:=zF (P:=E) zEN (o:=0) G.g;simp only[lnth,zA0] at lf lg;have ht:t<cells.length:=by rw[G.len];exact (List.getElem?_eq_some_iff.1 hS).1
 have hc:cells[t]?=some cells[t]:=xAA ht;have ls:=zF (P:=E) zCn (o:=0+t*1) G.s;rw[zA2,show 0+t*1=t by omega,hc] at ls;have ia:=zIC (b:=bs) (o:=0) (c:=cells.length) ht;rw[show 0+t*1=t by omega] at ia;have aj:=G.cell t _ _ hc hS;have gF:=zlX (h0:=k1) (v:=cells[t]) (f:=.func (.func 174) #[] #[ptr (k.qa+1),ptr k.qa]) (p:=pAt S (zFf R x)) (zCE aj) (by simp;omega) (fun k2 hk2 i e he=>by
  simp only[List.getElem?_map] at he;cases hy:S[i]? with
  | none=>rw[hy] at he;cases he
  | some y=>
   rw[hy] at he;simp only[Option.map_some,xAN] at he;subst he;have:=zlW (k:=k2) (y:=y) (gx:=gx) (gy:=ptr bg) hk2.ok ((hk2.get m (xAC aN o1.ext.qa)).trans eH) (xAC (xAC aN o1.ext.qa) hk2.qa) hR ((hk2.get _ (by omega)).trans tx) (by have:=hk2.qa;omega) ((hk2.get _ (by omega)).trans tf) (by have:=hk2.qa;omega);simp only[zEk,List.nil_append,List.cons_append,pAt,hy];exact this) (Ext.refl o1.ext.ok)
 simp only[zD4,zKv,Nat.add_zero,xAK,lf,zA,zAj,zCY,lg,ia,ls,zBB,zS,gF,zO,zAS,zU,true_and];refine⟨?_,o1.wm⟩;rw[zkT,List.length_map,zlz];rfl
def zkh{α:Type}{l:List α}{Q:α->Prop}(h1:l≠[])(h2:∀ a∈l,Q a):Ev false (some l) Q:=⟨l,rfl,h1,(fun h=>by cases h),h2⟩
def zLN{α:Type}:∀(l pre:List α) (x:α×List α),x∈zKR pre l->∃ l1 l2,l=l1++x.1::l2/\x.2=pre++l1++l2
 | [],_,x,h=>by cases h
 | a::l,pre,x,h=>by
  simp only[zKR,xAQ] at h;rcases h with rfl|h
  ·exact⟨[],l,rfl,by simp⟩
  ·obtain⟨l1,l2,e1,e2⟩:=zLN l (pre++[a]) x h;exact⟨a::l1,l2,by rw[e1];rfl,by rw[e2];simp⟩
def zLf{h:AH}{m ver:Nat}{es:List (Value×Value)}(hm:h.get m=some (.map es ver)):zGx (some (.map (some m))) h=one (ptr h.qa,h.new (.iter (some m) ver es none)):=by
 simp only[zGx,hm]
def zPU{h:AH}{b m ver:Nat}{es:List (Value×Value)}{cur:Option (Value×Value)}(hb:h.get b=some (.iter (some m) ver [] cur))(hm:h.get m=some (.map es ver)) :
  zHB false (some (ptr b)) h=one (.tuple #[.bool false],h):=by
 simp only[zHB,zUp,hb,hm,Nat.beq_refl,xAL,Bool.false_eq_true,if_false]
def zLk{h:AH}{b m ver:Nat}{es left:List (Value×Value)}{cur:Option (Value×Value)}{Q:Value×AH->Prop}(hb:h.get b=some (.iter (some m) ver left cur))(hm:h.get m=some (.map es ver))(hl:left≠[])
  (hQ:∀ e l1 l2,left=l1++e::l2->Q (.tuple #[.bool true,e.1,e.2],h.upd b (some (.iter (some m) ver (l1++l2) (some e))))):Ev false (zHB false (some (ptr b)) h) Q:=by
 cases left with
 | nil=>exact absurd rfl hl
 | cons a l=>
  have:zHB false (some (ptr b)) h=some ((zKR [] (a::l)).map fun x=>(.tuple #[.bool true,x.1.1,x.1.2],h.upd b (some (.iter (some m) ver x.2 (some x.1))))):=by
   simp only[zHB,zUp,hb,hm,Nat.beq_refl,xAL,Bool.false_eq_true,if_false]
  rw[this];refine zkh (by simp[zKR]) fun y hy=>?_;obtain⟨x,hx,rfl⟩:=List.mem_map.1 hy;obtain⟨l1,l2,e1,e2⟩:=zLN _ _ _ hx;rw[e2];exact hQ x.1 l1 l2 e1
def zPy{h:AH}{b m ver:Nat}{es left:List (Value×Value)}{e:Value×Value}(hb:h.get b=some (.iter (some m) ver left (some e)))(hm:h.get m=some (.map es ver)):zHr (some (ptr b)) h=some (.tuple #[e.1,e.2]):=by
 simp only[zHr,zPz,hb,hm,Nat.beq_refl,if_true]
def zMA{R:Rel}{e:Value×Value}{l1 l2:List (Value×Value)}(h:ent R=l1++e::l2):∃ R1 p R2,R=R1++p::R2/\l1=ent R1/\e=(.agg ⟨zG p⟩,.bool true)/\l2=ent R2:=by
 unfold ent at h;obtain⟨R1,R3,e1,e2,e3⟩:=List.map_eq_append_iff.1 h;obtain⟨p,R2,e4,e5,e6⟩:=List.map_eq_cons_iff.1 e3;exact⟨R1,p,R2,by rw[e1,e4],e2.symm,e5.symm,e6.symm⟩
def zJp(R1 R2:Rel):ent R1++ent R2=ent (R1++R2):=by simp[ent]
def zlo{k:AH}{p:Int×Int} :
  zb E 54 (k.new (rO [iI 0,iI 0] 54)) (some (ptr k.qa)) (some (.agg ⟨zG p⟩))=one (undef,(k.new (rO [iI 0,iI 0] 54)).upd k.qa (some (rO (zG p) 54))):=by
 rw[zAC (P:=E) znA (x:=.agg ⟨zG p⟩) (cs:=zG p) (zI k _) rfl rfl (by simp) (by simp[zG,zq])];rfl
def zMI{k:AH}{p:Int×Int} :
  zb E 134 (k.new (rO [iI 0,iI 0] 134)) (some (ptr k.qa)) (some (.agg ⟨zG p⟩))=one (undef,(k.new (rO [iI 0,iI 0] 134)).upd k.qa (some (rO (zG p) 134))):=by
 rw[zAC (P:=E) zJC (x:=.agg ⟨zG p⟩) (cs:=zG p) (zI k _) rfl rfl (by simp) (by simp[zG,zq])];rfl
def zWa(R:Rel)(SS:List zf)(fB:Int×Int->Int×Int->Bool):Bool:=R.all fun p=>match SS[p.1.toNat]? with
 | some S=>S.all (fB p)
 | none=>true
def zWE{h0 k:AH}{b1 b2 m ver:Nat}{R:Rel}{SS:List zf}{fol can:FuncId}{nm:ByteArray}{fB:Int×Int->Int×Int->Bool}(hh:Ext h0 k)(hm:h0.get m=some (.map (ent R) ver))(aN:m<h0.qa)(hg:GV h0 b1 SS)
  (ai:∀ p∈R,0<=p.1/\p.1<SS.length) (hsz:∀(i:Nat) (S:zf),SS[i]?=some S->S.length<=1000000)
  (hfol:∀ k',Ext h0 k'->∀ p∈R,∀ x S,SS[p.1.toNat]?=some S->x∈S->(zV E).call fol [.agg ⟨zA0 (ptr b1) (ptr b2) m⟩,iI p.1,iI p.2,.agg ⟨zG x⟩] k'=some [(.bool (fB p x),k')]) :
  (zV E).call 124 [.agg ⟨zA0 (ptr b1) (ptr b2) m⟩,.agg ⟨[.func (.func fol) #[] #[],.func (.func can) #[] #[],.string nm]⟩] k=some [(.bool (zWa R SS fB),k)]:=by
 refine zd3 (s:=false) hh.ok rfl (zct ?_);simp only[zd,zL,zX,zA];refine zcs ?_;have o1:=((Own.qb k).new (.row (zA0 (ptr b1) (ptr b2) m) 178 0 false)).new (.row [.func (.func fol) #[] #[],.func (.func can) #[] #[],.string nm] 112 0 false);have tf:((k.qb.new (.row (zA0 (ptr b1) (ptr b2) m) 178 0 false)).new (.row [.func (.func fol) #[] #[],.func (.func can) #[] #[],.string nm] 112 0 false)).get k.qa=some (.row (zA0 (ptr b1) (ptr b2) m) 178 0 false):=by
  rw[zK (by simp)];exact zI k.qb _
 have tm:((k.qb.new (.row (zA0 (ptr b1) (ptr b2) m) 178 0 false)).new (.row [.func (.func fol) #[] #[],.func (.func can) #[] #[],.string nm] 112 0 false)).get (k.qa+1)=some (.row [.func (.func fol) #[] #[],.func (.func can) #[] #[],.string nm] 112 0 false):=zI (k.qb.new _) _;have n1:((k.qb.new (.row (zA0 (ptr b1) (ptr b2) m) 178 0 false)).new (.row [.func (.func fol) #[] #[],.func (.func can) #[] #[],.string nm] 112 0 false)).qa=k.qa+2:=rfl;simp only[za,AH.next_new];generalize ((k.qb.new (.row (zA0 (ptr b1) (ptr b2) m) 178 0 false)).new (.row [.func (.func fol) #[] #[],.func (.func can) #[] #[],.string nm] 112 0 false))=k1 at o1 tf tm n1;have e1:=hh.trans o1.ext;have l2:=zF (P:=E) zLR (o:=2) tf;simp only[lnth,zA0] at l2;have eH:=(e1.get m aN).trans hm;simp only[zD4,zF3,Nat.add_zero,xAK,l2,zA,zLf eH,zL];have loop:∀(n:Nat) (Lf:Rel),Lf.length=n->(∀ p∈Lf,p∈R)->zWa R SS fB=zWa Lf SS fB->∀ l cur,Own k l->l.get k.qa=some (.row (zA0 (ptr b1) (ptr b2) m) 178 0 false)->l.get (k.qa+1)=some (.row [.func (.func fol) #[] #[],.func (.func can) #[] #[],.string nm] 112 0 false)->
   l.get k1.qa=some (.iter (some m) ver (ent Lf) cur)->k1.qa<l.qa->
   zp8 false (KR E [.tmp 4] (fun x l=>x=.bool (zWa R SS fB)/\k.qa<=l.wm)) (ptr k.qa) (ptr (k.qa+1)) (ptr k1.qa) l:=by
  intro n
  induction n with
  | zero=>
   intro Lf hLf au di l cur ho hf hmm hit ab;have:Lf=[]:=List.length_eq_zero_iff.1 hLf;subst this;refine zNW ?_;have cB:=((hh.trans ho.ext).get m aN).trans hm;simp only[zPU hit cB,zL,zt,lnth,zA,zi];refine zS7 ?_;simp only[zA,zAS,zU,true_and];exact⟨by rw[di];rfl,ho.wm⟩
  | succ n ih=>
   intro Lf hLf au di l cur ho hf hmm hit ab;refine zNW ?_;have he:=hh.trans ho.ext;have cB:=(he.get m aN).trans hm;refine zLk hit cB (by cases Lf with|nil=>simp at hLf|cons a l=>simp[ent]) fun e l1 l2 dr=>?_;obtain⟨R1,p,R2,hR,cO,hep,dy⟩:=zMA dr;subst hep;rw[cO,dy,zJp];simp only[zt,lnth,zA,zy];refine zcr ?_;have eK:=ho.ext.qa;have o2:=ho.upd (b:=k1.qa) (by omega) (some (.iter (some m) ver (ent (R1++R2)) (some (.agg ⟨zG p⟩,.bool true))));have i2:(l.upd k1.qa (some (.iter (some m) ver (ent (R1++R2)) (some (.agg ⟨zG p⟩,.bool true))))).get k1.qa=_:=zN _ _ _;have f2:(l.upd k1.qa (some (.iter (some m) ver (ent (R1++R2)) (some (.agg ⟨zG p⟩,.bool true))))).get k.qa=_:=(zP (by omega)).trans hf;have m2:(l.upd k1.qa (some (.iter (some m) ver (ent (R1++R2)) (some (.agg ⟨zG p⟩,.bool true))))).get (k.qa+1)=_:=(zP (by omega)).trans hmm;have n2:(l.upd k1.qa (some (.iter (some m) ver (ent (R1++R2)) (some (.agg ⟨zG p⟩,.bool true))))).qa=l.qa:=rfl;generalize (l.upd k1.qa (some (.iter (some m) ver (ent (R1++R2)) (some (.agg ⟨zG p⟩,.bool true)))))=l2 at o2 i2 f2 m2 n2;have hml2:=((hh.trans o2.ext).get m aN).trans hm;simp only[zPy i2 hml2,zA,zt,lnth,zqi,zd,zL,zX,zlo];refine zcq ?_;have o3:=(o2.new (rO [iI 0,iI 0] 54)).upd (b:=l2.qa) (by omega) (some (rO (zG p) 54));have p3:((l2.new (rO [iI 0,iI 0] 54)).upd l2.qa (some (rO (zG p) 54))).get l2.qa=some (rO (zG p) 54):=zN _ _ _;have i3:((l2.new (rO [iI 0,iI 0] 54)).upd l2.qa (some (rO (zG p) 54))).get k1.qa=_:=((zP (by omega)).trans (zK (by omega))).trans i2;have f3:((l2.new (rO [iI 0,iI 0] 54)).upd l2.qa (some (rO (zG p) 54))).get k.qa=_:=((zP (by omega)).trans (zK (by omega))).trans f2;have m3:((l2.new (rO [iI 0,iI 0] 54)).upd l2.qa (some (rO (zG p) 54))).get (k.qa+1)=_:=((zP (by omega)).trans (zK (by omega))).trans m2;have n3:((l2.new (rO [iI 0,iI 0] 54)).upd l2.qa (some (rO (zG p) 54))).qa=l2.qa+1:=rfl;generalize ((l2.new (rO [iI 0,iI 0] 54)).upd l2.qa (some (rO (zG p) 54)))=l3 at o3 p3 i3 f3 m3 n3;have hpR:p∈R:=au p (by rw[hR];simp);obtain⟨hp1,hp2⟩:=ai p hpR;obtain⟨s,hs⟩:=Int.eq_ofNat_of_zero_le hp1;have hsS:s<SS.length:=by omega
   have eZ:SS[s]?=some SS[s]:=xAA hsS;have hSp:SS[p.1.toNat]?=some SS[s]:=by rw[hs];exact eZ
   obtain⟨loc,bs,cells,G⟩:=(hg.ext (hh.trans o3.ext)).ex;have cZ:s<cells.length:=by rw[G.len];exact hsS
   have aM:cells[s]?=some cells[s]:=xAA cZ;have q0:=zF (P:=E) zCJ (o:=0) f3;have q1:=zF (P:=E) zEN (o:=0) G.g;have q2:=zF (P:=E) zAa (o:=0) p3;have q3:=zF (P:=E) zCn (o:=0+s*1) G.s;simp only[lnth,zA0,zG] at q0 q1 q2;rw[zA2,show 0+s*1=s by omega,aM] at q3;rw[hs] at q2;have ia:=zIC (b:=bs) (o:=0) (c:=cells.length) cZ;rw[show 0+s*1=s by omega] at ia;have aj:=G.cell s _ _ aM eZ;obtain⟨ca,cc,aY⟩:=(zCE aj).slice;rw[List.length_map] at aY;have av:=zCE aj;rw[aY] at q3 av;simp only[zD4,zPw,Nat.add_zero,q0,zA,zAj,zCY,q1,zJg,q2,ia,q3,zOE];have gp:zWa Lf SS fB=((SS[s]).all (fB p)&&zWa (R1++R2) SS fB):=by
    rw[hR];simp only[zWa,List.all_append,List.all_cons,hSp];cases (SS[s]).all (fB p) <;> simp
   have steps:∀(j i:Nat),i+j=(SS[s]).length->((SS[s]).drop i).all (fB p)=(SS[s]).all (fB p)->∀ l4,Ext l3 l4->k.qa<=l4.wm->
     zp7 false (KR E [.tmp 4] (fun x l=>x=.bool (zWa R SS fB)/\k.qa<=l.wm)) (ptr k.qa) (ptr (k.qa+1)) (ptr l2.qa) (ptr k1.qa) (.slice ca (SS[s]).length cc) (iI ((SS[s]).length:Int)) (iI (i:Int)) l4:=by
    intro j
    induction j with
    | zero=>
     intro i hi aB l4 he4 hw4;have hx:=he4.qa;refine zNV ?_;simp only[zY,zA,zAN];refine⟨fun h=>by omega,fun _=>?_⟩;have ht:(SS[s]).all (fB p)=true:=by rw[← aB,List.drop_eq_nil_of_le (by omega)];rfl
     exact ih (R1++R2) (by rw[hR] at hLf;simp at hLf ⊢;omega) (fun q hq=>au q (by rw[hR];rcases List.mem_append.1 hq with h|h <;> simp[h])) (by rw[di,gp,ht];rfl) l4 _ ⟨o3.ext.trans he4,hw4⟩
      ((he4.get _ (by omega)).trans f3) ((he4.get _ (by omega)).trans m3) ((he4.get _ (by omega)).trans i3) (by omega)
    | succ j ihj=>
     intro i hi aB l4 he4 hw4;have hx:=he4.qa;have aO:i<(SS[s]).length:=by omega
     refine zNV ?_;simp only[zY,zA,zAN];refine⟨fun _=>zcp ?_,fun h=>by omega⟩;have aX:((SS[s]).map zG)[i]?=some (zG (SS[s])[i]):=by simp[aO]
     obtain⟨b',o',c',vs',ty',es',ro',ay,ao,aD,bt,bB,bE⟩:=av.load aX;simp only[Value.slice.injEq] at ay;obtain⟨a9,_,_⟩:=ay;subst a9;have gb':=(he4.get b' aD).trans ao;simp only[zv aO,zA,zZ zEM gb' bt,bB,zNj,zd,zL,zX,zMI];refine zco ?_;have e5:=(he4.new (rO [iI 0,iI 0] 134)).upd (b:=l4.qa) hx (some (.row (zG (SS[s])[i]) 134 0 false));have x5:((l4.new (rO [iI 0,iI 0] 134)).upd l4.qa (some (.row (zG (SS[s])[i]) 134 0 false))).get l4.qa=some (.row (zG (SS[s])[i]) 134 0 false):=zN _ _ _;have w5:k.qa<=((l4.new (rO [iI 0,iI 0] 134)).upd l4.qa (some (.row (zG (SS[s])[i]) 134 0 false))).wm:=zAA (by rw[zCl];exact hw4) (by omega);generalize ((l4.new (rO [iI 0,iI 0] 134)).upd l4.qa (some (.row (zG (SS[s])[i]) 134 0 false)))=l5 at e5 x5 w5;have f5:=(e5.get _ (by omega)).trans f3;have m5:=(e5.get _ (by omega)).trans m3;have p5:=(e5.get _ (by omega)).trans p3;have r0:=zF (P:=E) znO (o:=0) m5;have r1:=zZ (P:=E) ziU (o:=0) f5 (by simp[zA0]);have r2:=zF (P:=E) zAa (o:=0) p5;have r3:=zF (P:=E) zAa (o:=1) p5;have r4:=zZ (P:=E) zEM (o:=0) x5 (by simp[zG]);rw[List.drop_zero,xAD (by simp[zA0])] at r1;rw[List.drop_zero,xAD (by simp[zG])] at r4;simp only[lnth,zG] at r0 r2 r3;have bJ:=hfol l5 ((hh.trans o3.ext).trans e5) p hpR (SS[s])[i] _ hSp (List.getElem_mem aO);simp only[zew,Nat.add_zero,xAK,r0,r1,r2,r3,r4,zA,zJg,zLy,zS,bJ,zO,zAB];have gC:((SS[s]).drop i).all (fB p)=(fB p (SS[s])[i]&&((SS[s]).drop (i+1)).all (fB p)):=by rw[List.drop_eq_getElem_cons aO,List.all_cons]
     cases hq:fB p (SS[s])[i] with
     | false=>
      simp only[xAM,zy];refine zcn ?_;simp only[zA,zAS,zU,true_and];exact⟨by rw[di,gp,← aB,gC,hq];rfl,w5⟩
     | true=>
      simp only[xAL,zi];refine zcm ?_;simp only[zAK _ (zDu aO (by have:=hsz s _ eZ;omega)),zA];have:=ihj (i+1) (by omega) (by rw[← aB,gC,hq];rfl) l5 e5 w5;simpa using this
   exact steps (SS[s]).length 0 (by omega) rfl l3 (Ext.refl o3.ext.ok) o3.wm
 exact loop R.length R rfl (fun p h=>h) rfl _ none (o1.new _) ((zK (by omega)).trans tf) ((zK (by omega)).trans tm) (zI _ _) (by simp)
def zeG(q:Int×Int):Rel->Rel
 | []=>[q]
 | p::R=>if klt (.agg ⟨zG q⟩) (.agg ⟨zG p⟩) then q::p::R else p::zeG q R
def zPk(q:Int×Int):∀ R:Rel,zA7 (.agg ⟨zG q⟩) (.bool true) (ent R)=ent (zeG q R)
 | []=>rfl
 | p::R=>by
  have:=zPk q R;simp only[ent,List.map_cons,zA7,zeG] at this ⊢;split
  ·rfl
  ·rw[this];rfl
def zKl(q:Int×Int):∀(R:Rel) (x:Int×Int),x∈zeG q R ↔ x=q\/x∈R
 | [],x=>by simp[zeG]
 | p::R,x=>by
  simp only[zeG];split
  ·simp
  ·simp only[xAQ,zKl q R];constructor
   ·rintro (h|h|h) <;> simp[h]
   ·rintro (h|h|h) <;> simp[h]
def zJe{q:Int×Int}:∀ {R:Rel},R.Nodup->q ∉ R->(zeG q R).Nodup
 | [],_,_=>by simp[zeG]
 | p::R,h,hq=>by
  obtain⟨h1,h2⟩:=List.nodup_cons.1 h;simp only[xAQ,not_or] at hq;simp only[zeG];split
  ·exact List.nodup_cons.2 ⟨by simp[hq.1,hq.2],h⟩
  ·exact List.nodup_cons.2 ⟨by rw[zKl];simp[h1];exact fun e=>hq.1 e.symm,zJe h2 hq.2⟩
def zm2(q:Int×Int):veq 3 (.agg ⟨zG q⟩) (.agg ⟨zG q⟩)=true:=by
 show zKP 2 [iI q.1,iI q.2] [iI q.1,iI q.2]=true;simp only[zKP,zDc,Bool.and_self]
def zsg(q:Int×Int):∀ {R:Rel},R.Nodup->zBo E 54 (.agg ⟨zG q⟩) (.bool true) (ent R)=some (ent R)
 | [],_=>rfl
 | p::R,h=>by
  obtain⟨h1,h2⟩:=List.nodup_cons.1 h;have ih:=zsg q h2;simp only[ent,List.map_cons,zBo] at ih ⊢;rw[zVF,ih];by_cases e:q=p
  ·subst e;simp[zm2]
  ·simp[e]
def ziP{h:AH}{m ver:Nat}{R:Rel}(hm:h.get m=some (.map (ent R) ver))(hR:R.Nodup)(q:Int×Int) :
  ∃ R',zAI E 174 (some (.map (some m))) (some (.agg ⟨zG q⟩)) (some (.bool true)) h=one (undef,h.upd m (some (.map (ent R') (ver+1))))/\R'.Nodup/\∀ x,x∈R' ↔ x=q\/x∈R:=by
 have cw:zg (.agg ⟨zG q⟩)=true:=rfl;by_cases e:q∈R
 ·refine⟨R,?_,hR,fun x=>⟨.inr,fun h=>h.elim (fun h=>h ▸ e) id⟩⟩;simp only[zAI,zA4,zkF,hm,zOI,cw,Bool.and_self,xAG,zBV,zPu hR,e,if_true,zsg q hR,u1]
 ·refine⟨zeG q R,?_,zJe hR e,fun x=>zKl q R x⟩;simp only[zAI,zA4,zkF,hm,zOI,cw,Bool.and_self,xAG,zBV,zPu hR,e,if_false,zPk,u1]
def znj{a b:Option Addr}{m:Nat}:zAu E 176 (some [(0,.pointer a),(1,.pointer b),(2,.map (some m))])=some (.agg ⟨zA0 (.pointer a) (.pointer b) m⟩):=by kernel_rfl
def zoc{k:AH}{a b:Option Addr}{m:Nat} :
  zb E 176 (k.new (rO [.pointer none,.pointer none,.map none] 176)) (some (ptr k.qa)) (some (.agg ⟨zA0 (.pointer a) (.pointer b) m⟩))=one (undef,(k.new (rO [.pointer none,.pointer none,.map none] 176)).upd k.qa (some (.row (zA0 (.pointer a) (.pointer b) m) 176 0 false))):=by
 rw[zAC (P:=E) zO9 (x:=.agg ⟨zA0 (.pointer a) (.pointer b) m⟩) (cs:=zA0 (.pointer a) (.pointer b) m) (zI k _) rfl rfl (by simp) (by simp[zA0,zq])];rfl
def zBr(p:Int×Int):Int×Int:=(p.2,p.1)
def zUY{h:AH}{lo b1 b2 m ver:Nat}{es:List (Value×Value)}(bN:b1<lo)(bz:b2<lo)(hm:lo<=m)(hg:h.get m=some (.map es ver))(bu:es.flatMap (fun e=>zDm 4 e.2)=[]) :
  zEJ h lo 1000 (zDm 4 (.agg ⟨zA0 (ptr b1) (ptr b2) m⟩)) []=[m]:=by
 have e0:zDm 4 (.agg ⟨zA0 (ptr b1) (ptr b2) m⟩)=[b1,b2,m]:=rfl;rw[e0];have s1:zEJ h lo 1000 [b1,b2,m] []=zEJ h lo 999 [b2,m] []:=by
  show (if Nat.ble (b1+1) lo||[].any (Nat.beq b1) then _ else _)=_;rw[ble_true.2 (by omega)];rfl
 have s2:zEJ h lo 999 [b2,m] []=zEJ h lo 998 [m] []:=by
  show (if Nat.ble (b2+1) lo||[].any (Nat.beq b2) then _ else _)=_;rw[ble_true.2 (by omega)];rfl
 have s3:zEJ h lo 998 [m] []=zEJ h lo 997 (zer (.map es ver)++[]) [m]:=by
  show (if Nat.ble (m+1) lo||[].any (Nat.beq m) then _ else (match h.get m with|some o=>zEJ h lo 997 (zer o++[]) [m]|none=>_))=_;rw[ble_false.2 (by omega),hg];rfl
 rw[s1,s2,s3];simp only[zer,bu,List.append_nil];rfl
def zTv{k l:AH}(o:Own k l):Fx NoB k (l.wmTo k.wm):=by
 refine⟨?_,o.ext.qa,fun c hc _=>o.ext.get c hc,fun m h1 _ h3=>?_⟩
 ·show cond (Nat.ble k.wm l.wm) k.wm l.wm<=l.qa+UNK;have:=o.ext.ok;unfold AH.ok at this;cases aY:Nat.ble k.wm l.wm with
  | true=>rw[ble_true] at aY;simp only[xAG];omega
  | false=>exact this
 ·show m<=cond (Nat.ble k.wm l.wm) k.wm l.wm;have:=o.wm;cases aY:Nat.ble k.wm l.wm with
  | true=>exact h1
  | false=>simp only[xAH];omega
def zlj{k:AH}{b1 b2 m ver:Nat}{R:Rel}(aa:k.ok)(bN:b1<k.qa)(bz:b2<k.qa)(hm:k.get m=some (.map (ent R) ver))(aN:m<k.qa) :
  Ev false ((zV E).call 125 [.agg ⟨zA0 (ptr b1) (ptr b2) m⟩] k) fun x=>∃ m' ver' R',x.1=.agg ⟨zA0 (ptr b2) (ptr b1) m'⟩/\x.2.get m'=some (.map (ent R') ver')/\k.qa<=m'/\m'<x.2.qa/\R'.Nodup/\(∀ p,p∈R' ↔ zBr p∈R)/\Fx NoB k x.2:=by
 refine zVw (s:=false) (Rp:=fun v k'=>∃ m' ver' R',v=.agg ⟨zA0 (ptr b2) (ptr b1) m'⟩/\k'.get m'=some (.map (ent R') ver')/\k.qa<=m'/\m'<k'.qa/\R'.Nodup/\(∀ p,p∈R' ↔ zBr p∈R)/\Fx NoB k k') ziG zd2 (ziF _ _) (by kernel_rfl) ?_;have key:Ev false (AM.R.andThen (evC E (zV E) none (zc Tryz.f125) ⟨⟨Tryz.f125.ntmps,zCB [.agg ⟨zA0 (ptr b1) (ptr b2) m⟩] 0 .e⟩,k.qb,[]⟩) (zAW E Tryz.f125)) fun x=>
   ∃ m' ver' R',x.1=.agg ⟨zA0 (ptr b2) (ptr b1) m'⟩/\x.2.get m'=some (.map (ent R') ver')/\k.qa<=m'/\m'<x.2.qa/\R'.Nodup/\(∀ p,p∈R' ↔ zBr p∈R)/\Own k x.2:=by
  refine zmg (Rp:=fun v k'=>∃ m' ver' R',v=.agg ⟨zA0 (ptr b2) (ptr b1) m'⟩/\k'.get m'=some (.map (ent R') ver')/\k.qa<=m'/\m'<k'.qa/\R'.Nodup/\(∀ p,p∈R' ↔ zBr p∈R)/\Own k k') (zcl ?_);simp only[zjM,zd,zL,zX,zjW];refine zck ?_;have o1:=((Own.qb k).new (.row (zA0 (ptr b1) (ptr b2) m) 176 0 false)).new (rO [.pointer none,.pointer none,.map none] 176);have t1:((k.qb.new (.row (zA0 (ptr b1) (ptr b2) m) 176 0 false)).new (rO [.pointer none,.pointer none,.map none] 176)).get k.qa=some (.row (zA0 (ptr b1) (ptr b2) m) 176 0 false):=by
   rw[zK (by simp)];exact zI k.qb _
  have r1:((k.qb.new (.row (zA0 (ptr b1) (ptr b2) m) 176 0 false)).new (rO [.pointer none,.pointer none,.map none] 176)).get (k.qa+1)=some (rO [.pointer none,.pointer none,.map none] 176):=zI (k.qb.new _) _;have n1:((k.qb.new (.row (zA0 (ptr b1) (ptr b2) m) 176 0 false)).new (rO [.pointer none,.pointer none,.map none] 176)).qa=k.qa+2:=rfl;simp only[za,AH.next_new];generalize ((k.qb.new (.row (zA0 (ptr b1) (ptr b2) m) 176 0 false)).new (rO [.pointer none,.pointer none,.map none] 176))=k1 at o1 t1 r1 n1;have l0:=zF (P:=E) zCJ (o:=0) t1;have l1:=zF (P:=E) zCJ (o:=1) t1;simp only[lnth,zA0] at l0 l1;simp only[zjL,zPw,zKv,Nat.add_zero,xAK,l0,l1,zA,zL,znj,zjW,zd,zX,zoc];refine zcj ?_;have o2:=((o1.new (.map [] 0)).new (rO [.pointer none,.pointer none,.map none] 176)).upd (b:=(k1.new (.map [] 0)).qa) (by simp;omega) (some (.row (zA0 (ptr b2) (ptr b1) k1.qa) 176 0 false));have q1:(((k1.new (.map [] 0)).new (rO [.pointer none,.pointer none,.map none] 176)).upd (k1.new (.map [] 0)).qa (some (.row (zA0 (ptr b2) (ptr b1) k1.qa) 176 0 false))).get k1.qa=some (.map [] 0):=by
   rw[zP (by simp),zK (by simp)];exact zI _ _
  have q2:(((k1.new (.map [] 0)).new (rO [.pointer none,.pointer none,.map none] 176)).upd (k1.new (.map [] 0)).qa (some (.row (zA0 (ptr b2) (ptr b1) k1.qa) 176 0 false))).get (k1.qa+1)=some (.row (zA0 (ptr b2) (ptr b1) k1.qa) 176 0 false):=zN _ _ _;have q3:(((k1.new (.map [] 0)).new (rO [.pointer none,.pointer none,.map none] 176)).upd (k1.new (.map [] 0)).qa (some (.row (zA0 (ptr b2) (ptr b1) k1.qa) 176 0 false))).get k.qa=some (.row (zA0 (ptr b1) (ptr b2) m) 176 0 false):=by
   rw[zP (by simp;omega),zK (by simp;omega),zK (by omega)];exact t1
  have q4:(((k1.new (.map [] 0)).new (rO [.pointer none,.pointer none,.map none] 176)).upd (k1.new (.map [] 0)).qa (some (.row (zA0 (ptr b2) (ptr b1) k1.qa) 176 0 false))).get (k.qa+1)=some (rO [.pointer none,.pointer none,.map none] 176):=by
   rw[zP (by simp;omega),zK (by simp;omega),zK (by omega)];exact r1
  have q5:(((k1.new (.map [] 0)).new (rO [.pointer none,.pointer none,.map none] 176)).upd (k1.new (.map [] 0)).qa (some (.row (zA0 (ptr b2) (ptr b1) k1.qa) 176 0 false))).qa=k1.qa+2:=rfl;simp only[zA0] at q1 q2 q3 q4 q5 o2 ⊢;simp only[AH.next_new] at q1 q2 q3 q4 q5 o2 ⊢;generalize (((k1.new (.map [] 0)).new (rO [.pointer none,.pointer none,.map none] 176)).upd (k1.qa+1) (some (rO [ptr b2,ptr b1,.map (some k1.qa)] 176)))=k2 at o2 q1 q2 q3 q4 q5;have l2:=zF (P:=E) zLR (o:=2) q3;simp only[lnth] at l2;have ji:=(o2.ext.get m aN).trans hm;simp only[zjK,zF3,xAK,l2,zA,zLf ji,zL];have loop:∀(n:Nat) (Lf Rn:Rel) (vr:Nat),Lf.length=n->Rn.Nodup->(∀ p,p∈Rn\/zBr p∈Lf ↔ zBr p∈R)->∀ l cur,Own k l->k2.qa<l.qa->l.get k1.qa=some (.map (ent Rn) vr)->l.get (k1.qa+1)=some (rO [ptr b2,ptr b1,.map (some k1.qa)] 176)->l.get (k.qa+1)=some (rO [.pointer none,.pointer none,.map none] 176)->
    l.get k2.qa=some (.iter (some m) ver (ent Lf) cur)->
    zp6 false (KR E [.cell 2 176] (fun v k'=>∃ m' ver' R',v=.agg ⟨[ptr b2,ptr b1,.map (some m')]⟩/\k'.get m'=some (.map (ent R') ver')/\k.qa<=m'/\m'<k'.qa/\R'.Nodup/\(∀ p,p∈R' ↔ zBr p∈R)/\Own k k')) (ptr (k.qa+1)) (ptr (k1.qa+1)) (ptr k2.qa) l:=by
   intro n
   induction n with
   | zero=>
    intro Lf Rn vr hLf aV aW l cur ho ab hmp hcp d9 hit;have:Lf=[]:=List.length_eq_zero_iff.1 hLf;subst this;refine zNU ?_;have cB:=(ho.ext.get m aN).trans hm;simp only[zWj,zPU hit cB,zL,zt,lnth,zA,zi];refine zcg ?_;have la:=zZ (P:=E) zLQ (o:=0) hcp (by simp);simp only[List.drop_zero,List.take] at la;have af:=zAC (P:=E) zO9 (o:=0) (x:=.agg ⟨[ptr b2,ptr b1,.map (some k1.qa)]⟩) (cs:=[ptr b2,ptr b1,.map (some k1.qa)]) d9 rfl rfl (by simp) (by simp[zq]);simp only[zjH,la,zA,af,zL,zso,zU,true_and];have g1:(l.upd (k.qa+1) (some (.row (lput [.pointer none,.pointer none,.map none] 0 [ptr b2,ptr b1,.map (some k1.qa)]) 176 0 false))).get (k.qa+1)=some (rO [ptr b2,ptr b1,.map (some k1.qa)] 176):=zN _ _ _;have lb:=zZ (P:=E) zLQ (o:=0) g1 (by simp);simp only[List.drop_zero,List.take] at lb;have:zE2 E 176 (ptr (k.qa+1)) (l.upd (k.qa+1) (some (.row (lput [.pointer none,.pointer none,.map none] 0 [ptr b2,ptr b1,.map (some k1.qa)]) 176 0 false)))=some (.agg ⟨[ptr b2,ptr b1,.map (some k1.qa)]⟩):=lb;rw[this,zA];refine⟨k1.qa,vr,Rn,rfl,(zP (by omega)).trans hmp,by omega,by show k1.qa<l.qa;omega,aV,fun p=>by have:=aW p;simpa using this,ho.upd (by omega) _⟩
   | succ n ih=>
    intro Lf Rn vr hLf aV aW l cur ho ab hmp hcp d9 hit;refine zNU ?_;have cB:=(ho.ext.get m aN).trans hm;simp only[zWj];refine zLk hit cB (by cases Lf with|nil=>simp at hLf|cons a l=>simp[ent]) fun e l1 l2 dr=>?_;obtain⟨R1,p,R2,hR,cO,hep,dy⟩:=zMA dr;subst hep;rw[cO,dy,zJp];simp only[zt,lnth,zA,zy];refine zci ?_;have eK:=ho.ext.qa;have o3:=ho.upd (b:=k2.qa) (by omega) (some (.iter (some m) ver (ent (R1++R2)) (some (.agg ⟨zG p⟩,.bool true))));have i3:(l.upd k2.qa (some (.iter (some m) ver (ent (R1++R2)) (some (.agg ⟨zG p⟩,.bool true))))).get k2.qa=_:=zN _ _ _;have a3:(l.upd k2.qa (some (.iter (some m) ver (ent (R1++R2)) (some (.agg ⟨zG p⟩,.bool true))))).get k1.qa=_:=(zP (by omega)).trans hmp;have c3:(l.upd k2.qa (some (.iter (some m) ver (ent (R1++R2)) (some (.agg ⟨zG p⟩,.bool true))))).get (k1.qa+1)=_:=(zP (by omega)).trans hcp;have d3:(l.upd k2.qa (some (.iter (some m) ver (ent (R1++R2)) (some (.agg ⟨zG p⟩,.bool true))))).get (k.qa+1)=_:=(zP (by omega)).trans d9;have n3:(l.upd k2.qa (some (.iter (some m) ver (ent (R1++R2)) (some (.agg ⟨zG p⟩,.bool true))))).qa=l.qa:=rfl;generalize (l.upd k2.qa (some (.iter (some m) ver (ent (R1++R2)) (some (.agg ⟨zG p⟩,.bool true)))))=l3 at o3 i3 a3 c3 d3 n3;have hml3:=(o3.ext.get m aN).trans hm;simp only[zjJ,zPy i3 hml3,zA,zt,lnth,zqi,zd,zL,zX,zlo];refine zch ?_;have o4:=(o3.new (rO [iI 0,iI 0] 54)).upd (b:=l3.qa) (by omega) (some (rO (zG p) 54));have p4:((l3.new (rO [iI 0,iI 0] 54)).upd l3.qa (some (rO (zG p) 54))).get l3.qa=some (rO (zG p) 54):=zN _ _ _;have i4:((l3.new (rO [iI 0,iI 0] 54)).upd l3.qa (some (rO (zG p) 54))).get k2.qa=_:=((zP (by omega)).trans (zK (by omega))).trans i3;have a4:((l3.new (rO [iI 0,iI 0] 54)).upd l3.qa (some (rO (zG p) 54))).get k1.qa=_:=((zP (by omega)).trans (zK (by omega))).trans a3;have c4:((l3.new (rO [iI 0,iI 0] 54)).upd l3.qa (some (rO (zG p) 54))).get (k1.qa+1)=_:=((zP (by omega)).trans (zK (by omega))).trans c3;have d4:((l3.new (rO [iI 0,iI 0] 54)).upd l3.qa (some (rO (zG p) 54))).get (k.qa+1)=_:=((zP (by omega)).trans (zK (by omega))).trans d3;have n4:((l3.new (rO [iI 0,iI 0] 54)).upd l3.qa (some (rO (zG p) 54))).qa=l3.qa+1:=rfl;generalize ((l3.new (rO [iI 0,iI 0] 54)).upd l3.qa (some (rO (zG p) 54)))=l4 at o4 p4 i4 a4 c4 d4 n4;have g0:=zF (P:=E) zLR (o:=2) c4;have g1:=zF (P:=E) zAa (o:=0) p4;have g2:=zF (P:=E) zAa (o:=1) p4;simp only[lnth,zG] at g0 g1 g2;obtain⟨R',u1,u2,u3⟩:=ziP a4 aV (p.2,p.1);simp only[zjI,zF3,xAK,Nat.add_zero,g0,g1,g2,zA,zJg,zLy,zsl,u1,zL];refine ih (R1++R2) R' (vr+1) (by rw[hR] at hLf;simp at hLf ⊢;omega) u2 (fun x=>?_) _ _ (o4.upd (by omega) _) (by show k2.qa<l4.qa;omega) (zN _ _ _) ((zP (by omega)).trans c4) ((zP (by omega)).trans d4) ((zP (by omega)).trans i4);rw[← aW x,u3 x,hR];have dq:x=(p.2,p.1) ↔ zBr x=p:=by
     constructor
     ·rintro rfl;rfl
     ·intro h;rw[← h];rfl
    rw[dq];simp only[List.mem_append,xAQ];constructor
    ·rintro ((h|h)|h|h) <;> simp[h]
    ·rintro (h|h|h|h) <;> simp[h]
  refine loop R.length R [] 0 rfl (by simp) (fun p=>by simp) _ none (o2.new _) (by simp) ((zK (by omega)).trans q1) ((zK (by omega)).trans q2) ((zK (by omega)).trans q4) (zI _ _)
 refine key.mono fun x hx=>?_;obtain⟨m',ver',R',h1,h2,h3,h4,h5,h6,h7⟩:=hx;have eO:zEJ x.2 k.qb.qa 1000 (zDm 4 x.1) []=[m']:=by
  rw[h1];exact zUY bz bN h3 h2 (by simp[ent,List.flatMap_map,zDm])
 refine⟨by rw[h1];rfl,⟨m',ver',R',h1,h2,h3,h4,h5,h6,zTv h7⟩,m',ver',R',h1,?_,h3,h4,h5,h6,zTv ?_⟩
 ·show (AH.kept k.qb x.1 x.2).get m'=_;unfold AH.kept;rw[eO,zCd,if_pos (by simp)];exact h2
 ·refine⟨⟨?_,h7.ext.qa,fun c hc=>?_⟩,?_⟩
  ·exact h7.ext.ok
  ·unfold AH.kept;rw[eO,zCd];split
   ·exact h7.ext.get c hc
   ·rfl
  ·exact h7.wm
def zF7(R:List Int):List (Value×Value):=R.map fun p=>(iI p,.bool true)
def zns:zLo E 273=some (3,4):=by kernel_rfl
def zVG(p q:Int):zCA E 3 (iI p) (iI q)=some (decide (p=q)):=by
 simp only[zCA,u3];have hk:keq .i64 .i64=true:=rfl;simp only[hk,xAG,zEW];by_cases h:p=q <;> simp[h]
def zG4(p:Int):zET E 3 (iI p)=true:=by
 simp only[zET,u3]
def zkf:∀ {R:List Int},R.Nodup->∀ q:Int,zAf E 3 (iI q) (zF7 R)=some (if q∈R then some (.bool true) else none)
 | [],_,q=>by simp[zF7,zAf]
 | p::R,h,q=>by
  obtain⟨h1,h2⟩:=List.nodup_cons.1 h;have ih:=zkf h2 q;simp only[zF7,List.map_cons,zAf] at ih ⊢;rw[zVG,ih];by_cases e:q=p
  ·subst e;simp[h1]
  ·simp[e]
def zGT{h:AH}{m ver:Nat}{R:List Int}(hm:h.get m=some (.map (zF7 R) ver))(hR:R.Nodup)(q:Int) :
  zBM E 273 false (some (.map (some m))) (some (iI q)) h=some (.bool (decide (q∈R))):=by
 simp only[zBM,zFL,zns,zDo,hm,zG4,xAG,zkf hR];by_cases e:q∈R
 ·simp[e,zEY,okV]
 ·simp[e,zEY,z4,okV]
def zFa(q:Int):List Int->List Int
 | []=>[q]
 | p::R=>if klt (iI q) (iI p) then q::p::R else p::zFa q R
def zPl(q:Int):∀ R:List Int,zA7 (iI q) (.bool true) (zF7 R)=zF7 (zFa q R)
 | []=>rfl
 | p::R=>by
  have:=zPl q R;simp only[zF7,List.map_cons,zA7,zFa] at this ⊢;split
  ·rfl
  ·rw[this];rfl
def zHQ(q:Int):∀(R:List Int) (x:Int),x∈zFa q R ↔ x=q\/x∈R
 | [],x=>by simp[zFa]
 | p::R,x=>by
  simp only[zFa];split
  ·simp
  ·simp only[xAQ,zHQ q R];constructor
   ·rintro (h|h|h) <;> simp[h]
   ·rintro (h|h|h) <;> simp[h]
def zGc{q:Int}:∀ {R:List Int},R.Nodup->q ∉ R->(zFa q R).Nodup
 | [],_,_=>by simp[zFa]
 | p::R,h,hq=>by
  obtain⟨h1,h2⟩:=List.nodup_cons.1 h;simp only[xAQ,not_or] at hq;simp only[zFa];split
  ·exact List.nodup_cons.2 ⟨by simp[hq.1,hq.2],h⟩
  ·exact List.nodup_cons.2 ⟨by rw[zHQ];simp[h1];exact fun e=>hq.1 e.symm,zGc h2 hq.2⟩
def zO8{h:AH}{m ver:Nat}{R:List Int}(hm:h.get m=some (.map (zF7 R) ver))(hR:R.Nodup){q:Int}(e:q ∉ R) :
  zAI E 273 (some (.map (some m))) (some (iI q)) (some (.bool true)) h=one (undef,h.upd m (some (.map (zF7 (zFa q R)) (ver+1)))):=by
 have cw:zg (iI q)=true:=rfl;simp only[zAI,zA4,zns,hm,zG4,cw,Bool.and_self,xAG,zBV,zkf hR,e,if_false,zPl,u1]
def zoZ{u:Int}{h:AH}:zh E 47 1 (some [(0,iI u)]) h=one (.slice (some ⟨h.qa,0,none⟩) 1 1,h.new (rO [iI u] 3)):=by kernel_rfl
def zkp:Elt 47 3 1:=zJq ziv zLK zAa (by kernel_rfl)
def zOv{t e z:Nat}(H:Elt t e z){h:AH}{b c:Nat}{vs us:List Value}{ty es:Nat}{ro:Bool}{ty' es':Nat}{ro':Bool}(hb:h.get b=some (.row vs ty' es' ro'))(bV:vs.length=z)
  (hc:h.get c=some (.row us ty es ro)) (hl:us.length=z) :
  zAJ E .append [t,t] (some [.slice (some ⟨b,0,none⟩) 1 1,.slice (some ⟨c,0,none⟩) 1 1]) h=one (.slice (some ⟨h.qa,0,none⟩) 2 (UNK+z),h.new (.row (vs++us) e z false)):=by
 obtain⟨ti,e1,e2,e3⟩:=H.ti;show v2 (zA8 E [t,t] (.slice (some ⟨b,0,none⟩) 1 1) (.slice (some ⟨c,0,none⟩) 1 1) h)=_;simp only[zA8,H.el,H.un,zFB,xAH,e1,zCG,zA9,hc,e2,Nat.one_mul,zAo,zAt,zAR,List.drop_zero];rw[xAD (by omega),hl,Nat.beq_refl];simp only[if_true,e3,xAG,zBb,show Nat.beq 1 0=false from rfl,xAH,hb];simp only[zCf,show Nat.ble UNK 1=false from rfl,show Nat.ble (1+1) 1=false from rfl,xAH,Nat.one_mul,zAo,zAt,zAR,List.drop_zero];rw[xAD (by omega),bV,Nat.beq_refl];simp only[xAG,zAx,show Nat.ble (1+1) 1000000=true from rfl,v2]
structure LS(lo:Nat)(k:AH)(v:Value)(L:List Int):Prop where
 ex:∃ b c,v=.slice (some ⟨b,0,none⟩) L.length c/\lo<=b/\b<k.qa/\((c=1/\L.length=1/\k.get b=some (rO (ints L) 3))\/(c=UNK+1/\k.get b=some (.row (ints L) 3 1 false)))
def LS.mono{lo:Nat}{k k':AH}{v:Value}{L:List Int}(h:LS lo k v L)(hn:k.qa<=k'.qa)(hg:∀ b,lo<=b->b<k.qa->zu v b->k'.get b=k.get b):LS lo k' v L:=by
 obtain⟨b,c,e,h1,h2,h3⟩:=h;have:=hg b h1 h2 ⟨_,_,e⟩;exact⟨b,c,e,h1,xAC h2 hn,by rw[this];exact h3⟩
def LS.at{lo:Nat}{k:AH}{v:Value}{L:List Int}(h:LS lo k v L){i:Nat}(hi:i<L.length):∃ x3,zE E 47 (some v) (some (iI (i:Int)))=some x3/\∃ x4,zH E 3 k (some x3)=some x4/\x4=iI L[i]:=by
 obtain⟨b,c,rfl,h1,h2,h3⟩:=h;refine⟨_,zVQ hi,?_⟩;have az:∃ es,k.get b=some (.row (ints L) 3 es false):=by
  rcases h3 with ⟨_,_,h⟩|⟨_,h⟩ <;> exact⟨_,h⟩
 obtain⟨es,az⟩:=az;rw[zF (P:=E) zAa az,zA2,show 0+i*1=i by omega];have:(ints L)[i]?=some (iI L[i]):=by simp[ints,hi]
 exact⟨_,this,rfl⟩
def LS.app{lo:Nat}{k:AH}{v:Value}{L:List Int}(h:LS lo k v L)(hL:L.length<=999999){u:Int}{c0:Nat}{ty es:Nat}{ro:Bool}(hc:k.get c0=some (.row [iI u] ty es ro)) :
  ∃ v' k1,zAJ E .append [47,47] (some [v,.slice (some ⟨c0,0,none⟩) 1 1]) k=one (v',k1)/\v'=.slice (some ⟨k.qa,0,none⟩) (L.length+1) (UNK+1)/\k1.qa=k.qa+1/\k1.get k.qa=some (.row (ints (L++[u])) 3 1 false) ∧
   (∀ b,b<k.qa->¬ zu v b->k1.get b=k.get b)/\(k.ok->k1.ok)/\k1.wm<=k.wm/\∀ w,w<=k.wm->w<=lo->w<=k1.wm:=by
 obtain⟨b,c,rfl,h1,h2,h3⟩:=h;have fP:ints L++[iI u]=ints (L++[u]):=by simp[ints]
 rcases h3 with ⟨rfl,cO,hb⟩|⟨rfl,hb⟩
 ·refine⟨_,k.new (.row (ints L++[iI u]) 3 1 false),by rw[cO];exact zOv zkp hb (by simpa[ints] using cO) hc rfl,by rw[cO],rfl,?_,?_,?_,xAF _,?_⟩
  ·rw[← fP];exact zI _ _
  ·intro b' ao _;exact zK (by omega)
  ·intro aa;exact zBd aa _
  ·intro w hw _;exact hw
 ·refine⟨_,_,zC4 zkp (by omega) hb (by simp[ints]) (by omega) hc rfl rfl,rfl,rfl,?_,?_,?_,(zCm k b none).1,?_⟩
  ·rw[← fP];exact zI (k.upd b none) _
  ·intro b' ao ah;have iw:b'≠b:=fun e=>ah ⟨_,_,by rw[e]⟩;have:k.qa≠b':=by omega
   rw[zK (by show b'≠k.qa;omega),zP iw]
  ·intro aa;exact zBd (zB8 aa _ _) _
  ·intro w hw f9;show w<=(k.upd b none).wm;exact zAA hw (by omega)
def zDa(L:List Int)(x:Int×Int):List Int:=if x.1=0/\x.2 ∉ L then L++[x.2] else L
def zDN(SS:List zf)(L:List Int)(u:Int):List Int:=match SS[u.toNat]? with
 | some S=>S.foldl zDa L
 | none=>L
def bfs(SS:List zf)(body:Int->Bool):Nat->Nat->List Int->Bool
 | 0,_,_=>false
 | f+1,i,L=>match L[i]? with
  | none=>false
  | some u=>body u||bfs SS body f (i+1) (zDN SS L u)
def zAp:∀(N:Nat) (L:List Int),L.Nodup->(∀ x∈L,0<=x/\x<(N:Int))->L.length<=N
 | 0,L,_,h=>by
  cases L with
  | nil=>simp
  | cons a l=>have:=h a (by simp);omega
 | N+1,L,hn,h=>by
  by_cases hm:(N:Int)∈L
  ·have h1:=zAp N (L.erase (N:Int)) (hn.erase _) fun x hx=>by
    have:=hn.mem_erase_iff.1 hx;have h2:=h x this.2;have:=this.1;omega
   rw[List.length_erase_of_mem hm] at h1;omega
  ·have h1:=zAp N L hn fun x hx=>by
    have h2:=h x hx;have:x≠(N:Int):=fun e=>hm (e ▸ hx);omega
   omega
def zGq{L:List Int}(h:L.Nodup)(x:Int×Int):(zDa L x).Nodup:=by
 unfold zDa;split
 ·rename_i hx;rw[List.nodup_append];refine⟨h,by simp,fun a ha b hb=>?_⟩;simp only[xAE] at hb;subst hb;exact fun e=>hx.2 (e ▸ ha)
 ·exact h
def zfI{L:List Int}{x:Int×Int}{y:Int}(h:y∈zDa L x):y∈L\/y=x.2:=by
 unfold zDa at h;split at h
 ·simpa using h
 ·exact .inl h
def zEx:∀ {S:zf} {L:List Int},L.Nodup->(S.foldl zDa L).Nodup
 | [],_,h=>h
 | x::S,_,h=>zEx (S:=S) (zGq h x)
def zHU:∀ {S:zf} {L:List Int} {y:Int},y∈S.foldl zDa L->y∈L\/∃ x∈S,y=x.2
 | [],_,_,h=>.inl h
 | x::S,L,y,h=>by
  rcases zHU (S:=S) h with h|⟨x',ej,h⟩
  ·rcases zfI h with h|h
   ·exact .inl h
   ·exact .inr ⟨x,by simp,h⟩
  ·exact .inr ⟨x',by simp[ej],h⟩
def Yd(k:AH)(l w0 N:Nat)(body:Int->Bool)(Rt:AH->Prop):Prop:=∀ h,Ext k h->w0<=h.wm->∀ u:Int,0<=u->u<(N:Int)->
 ∃ h',(zV E).round l [iI u] h=some [(.bool (!body u),h')]/\h'.ok/\h'.wm<=l/\w0<=h'.wm/\(body u=false->h'.qa=h.qa/\∀ c,h'.get c=h.get c)/\(body u=true->Rt h')
structure St22(k:AH)(w0 m1 N:Nat)(v5:Value)(L:List Int)(h:AH):Prop where
 ext:Ext k h
 w:w0<=h.wm
 map:∃ R ver,h.get m1=some (.map (zF7 R) ver)/\R.Nodup/\∀ x,x∈R ↔ x∈L
 mlt:m1<h.qa
 nd:L.Nodup
 bd:∀ x∈L,0<=x/\x<(N:Int)
 ls:LS (m1+1) h v5 L
def St22.keep{k:AH}{w0 m1 N:Nat}{v5:Value}{L:List Int}{h h':AH}(s:St22 k w0 m1 N v5 L h)(e:Ext k h')(w:w0<=h'.wm)(hn:h.qa<=h'.qa)(hg:∀ c,m1<=c->c<h.qa->h'.get c=h.get c):St22 k w0 m1 N v5 L h':=by
 obtain⟨R,ver,a,b⟩:=s.map;exact⟨e,w,⟨R,ver,(hg m1 (xAF _) s.mlt).trans a,b⟩,xAC s.mlt hn,s.nd,s.bd,s.ls.mono hn fun b h1 h2 _=>hg b (by omega) h2⟩
structure zO0(SS:List zf):Prop where
 len:SS.length<=900000
 stp:∀(i:Nat) (S:zf),SS[i]?=some S->S.length<=900000/\∀ x∈S,0<=x.2/\x.2<(SS.length:Int)
def zKn{n:Int}(h1:0<=n)(h2:n<=1000000):zC1 n:=⟨by omega,by omega⟩
def zL3{S:zf}{L:List Int}{j:Nat}(hj:j<S.length):(S.drop j).foldl zDa L=(S.drop (j+1)).foldl zDa (zDa L S[j]):=by
 rw[List.drop_eq_getElem_cons hj];rfl
def zTE(k:AH)(w0:Nat)(Rt:AH->Prop)(b:Bool)(h:AH):Prop:=h.ok/\w0<=h.wm/\(b=false->k.qa<=h.qa/\∀ c,c<k.qa->h.get c=k.get c)/\(b=true->Rt h)
def zlJ{k:AH}{l bs0 bgp bg w0:Nat}{SS:List zf}{body:Int->Bool}{Rt:AH->Prop}{t:Int}{ty1 es1 ty2 es2:Nat}{ro1 ro2:Bool}(aa:k.ok)
  (hs:k.get bs0=some (.row [iI t] ty1 es1 ro1)) (iD:bs0<k.qa) (hgp:k.get bgp=some (.row [ptr bg] ty2 es2 ro2)) (cD:bgp<k.qa)
  (hg:GV k bg SS) (bD:zO0 SS) (iX:0<=t) (gP:t<(SS.length:Int)) (hw:w0<=k.wm) (cY:w0<=k.qa) (hl:l<k.qa) (hRt:∀ h h':AH,(∀ c,h'.get c=h.get c)->h'.qa=h.qa->Rt h->Rt h')
  (hY:Yd k l w0 SS.length body Rt) :
  Ev true ((zV E).call 222 [.func (.yield l) #[] #[],ptr bs0,ptr bgp] k) fun x=>x.1=.tuple #[]/\zTE k w0 Rt (bfs SS body SS.length 0 [t]) x.2:=by
 refine zNY (Rp:=fun x k'=>x=.tuple #[]/\zTE k w0 Rt (bfs SS body SS.length 0 [t]) k') (zM2 ?_);obtain⟨loc,bs,cells,G⟩:=hg.ex;have jb:k.qb.get bs0=_:=hs;have e0:=(Ext.refl aa).qb;simp only[zL];have e1:=e0.new (.map [] 0);have m1g:=zI k.qb (.map [] 0);have d8:(k.qb.new (.map [] 0)).get bs0=_:=(e1.get bs0 iD).trans hs;have ls1:=zF (P:=E) zAa (o:=0) d8;simp only[lnth] at ls1;have hu:=zO8 (h:=k.qb.new (.map [] 0)) (R:=[]) (q:=t) m1g List.nodup_nil (by simp);simp only[ls1,zA,za] at hu ⊢;rw[hu,zL];refine zM1 ?_;have e2:=e1.upd (b:=k.qa) (xAF _) (some (.map (zF7 (zFa t [])) (0+1)));have m2:((k.qb.new (.map [] 0)).upd k.qa (some (.map (zF7 (zFa t [])) (0+1)))).get k.qa=_:=zN _ _ _;have w2:w0<=((k.qb.new (.map [] 0)).upd k.qa (some (.map (zF7 (zFa t [])) (0+1)))).wm:=zAA (by rw[zCl,zAm];omega) cY;have n2:((k.qb.new (.map [] 0)).upd k.qa (some (.map (zF7 (zFa t [])) (0+1)))).qa=k.qa+1:=rfl;generalize ((k.qb.new (.map [] 0)).upd k.qa (some (.map (zF7 (zFa t [])) (0+1))))=k2 at e2 m2 w2 n2;have ls2:=zF (P:=E) zAa (o:=0) ((e2.get bs0 iD).trans hs);simp only[lnth] at ls2;simp only[ls2,zA,zoZ,zL];refine zM0 ?_;have st0:St22 k w0 k.qa SS.length (.slice (some ⟨k2.qa,0,none⟩) 1 1) [t] (k2.new (rO [iI t] 3)):=by
  refine⟨e2.new _,w2,⟨[t],0+1,(zK (by omega)).trans m2,by simp,by simp⟩,by simp;omega,by simp,by simpa using⟨iX,gP⟩,⟨k2.qa,1,rfl,by omega,by simp,.inl ⟨rfl,rfl,zI _ _⟩⟩⟩
 generalize (k2.new (rO [iI t] 3))=k3 at st0;have loop:∀(f i:Nat) (L:List Int) (v5:Value) (h:AH),f+i=SS.length->St22 k w0 k.qa SS.length v5 L h->0<L.length->i<=L.length->(i=0\/h.wm<=l)->bfs SS body SS.length 0 [t]=bfs SS body f i L->
   zpi true (KR E [] (fun x k'=>(zg x=false\/k'.wm<k.qa)/\(x=.tuple #[]/\zTE k w0 Rt (bfs SS body SS.length 0 [t]) ⟨k'.t,k'.qa,cond (Nat.ble k.wm k'.wm) k.wm k'.wm⟩))) (.func (.yield l) #[] #[]) (ptr bgp) (.map (some k.qa)) v5 (iI (i:Int)) h:=by
  intro f
  induction f with
  | zero=>
   intro i L v5 h hf st h0 hi fm hb;have hlen:=zAp _ _ st.nd st.bd;refine zGF ?_;obtain⟨b,c,hv,h1,h2,h3⟩:=st.ls;subst hv;have:¬ ((i:Int)<(L.length:Int)):=by omega
   simp only[zA,zC0,zY,this,decide_false,zi,zNi,zCc,true_and];have hwl':h.wm<=l:=fm.resolve_left (by omega);refine⟨.inr (by omega),?_⟩;rw[hb];refine⟨?_,?_,fun _=>⟨st.ext.qa,fun c hc=>st.ext.get c hc⟩,fun h=>by cases h⟩
   ·have:=st.ext.ok;show cond (Nat.ble k.wm h.wm) k.wm h.wm<=h.qa+UNK;unfold AH.ok at this;cases hc:Nat.ble k.wm h.wm with
    | true=>have:=ble_true.1 hc;simp only[xAG];omega
    | false=>simpa using this
   ·show w0<=cond (Nat.ble k.wm h.wm) k.wm h.wm;cases Nat.ble k.wm h.wm
    ·exact st.w
    ·exact hw
  | succ f ih=>
   intro i L v5 h hf st h0 hi fm hb;have hlen:=zAp _ _ st.nd st.bd;refine zGF ?_;obtain⟨b,c,hv,h1,h2,h3⟩:=id st.ls;have aX:=fun (h':AH) (s':LS (k.qa+1) h' v5 L) (hi:i<L.length)=>s'.at hi;by_cases hiL:i<L.length
   ·have ab:((i:Int)<(L.length:Int)):=by omega
    have hq:zph true (KR E [] (fun x k'=>(zg x=false\/k'.wm<k.qa)/\(x=.tuple #[]/\zTE k w0 Rt (bfs SS body SS.length 0 [t]) ⟨k'.t,k'.qa,cond (Nat.ble k.wm k'.wm) k.wm k'.wm⟩))) (.func (.yield l) #[] #[]) (ptr bgp) (.map (some k.qa)) v5 (iI (i:Int)) h:=by
     refine zMz ?_;obtain⟨x3,e3,x4,e4,rfl⟩:=aX h st.ls hiL;obtain⟨u0,u1⟩:=st.bd L[i] (List.getElem_mem hiL);obtain⟨h',y1,y2,y3,y4,y5,y6⟩:=hY h st.ext st.w L[i] u0 u1;simp only[zA,e3,e4,zHa,List.nil_append,y1,zO,zAB,Bool.not_not,zCF];have hbf:bfs SS body (f+1) i L=(body L[i]||bfs SS body f (i+1) (zDN SS L L[i])):=by
      simp only[bfs,xAA hiL]
     refine⟨fun bC=>?_,fun jQ=>?_⟩
     ·simp only[zNi,zU,true_and];refine⟨.inr (by omega),?_⟩;rw[hb,hbf,bC];refine⟨?_,?_,(fun h=>by cases h),fun _=>hRt h' _ (fun _=>rfl) rfl (y6 bC)⟩
      ·unfold AH.ok at y2;show cond (Nat.ble k.wm h'.wm) k.wm h'.wm<=h'.qa+UNK;cases hc:Nat.ble k.wm h'.wm with
       | true=>have:=ble_true.1 hc;simp only[xAG];omega
       | false=>simpa using y2
      ·show w0<=cond (Nat.ble k.wm h'.wm) k.wm h'.wm;cases Nat.ble k.wm h'.wm
       ·exact y4
       ·exact hw
     ·obtain⟨z1,z2⟩:=y5 jQ;have st1:St22 k w0 k.qa SS.length v5 L h':=st.keep ⟨y2,by rw[z1];exact st.ext.qa,fun c hc=>(z2 c).trans (st.ext.get c hc)⟩ y4 (by omega) (fun c _ _=>z2 c);refine zMy ?_;have ik:=(st1.ext.get bgp cD).trans hgp;obtain⟨x3,e3,x4,e4,rfl⟩:=aX h' st1.ls hiL;obtain⟨s,aQ⟩:=Int.eq_ofNat_of_zero_le u0;have ja:s<SS.length:=by omega
      have cZ:s<cells.length:=by rw[G.len];exact ja
      have aM:cells[s]?=some cells[s]:=xAA cZ;have eZ:SS[s]?=some SS[s]:=xAA ja;have q0:=zF (P:=E) zCJ (o:=0) ik;have q1:=zF (P:=E) zEN (o:=0) ((st1.ext.get bg G.ltg).trans G.g);have q3:=zF (P:=E) zCn (o:=0+s*1) ((st1.ext.get bs G.lts).trans G.s);simp only[lnth] at q0 q1;rw[zA2,show 0+s*1=s by omega,aM] at q3;have ia:=zIC (b:=bs) (o:=0) (c:=cells.length) cZ;rw[show 0+s*1=s by omega] at ia;have aj:=G.cell s _ _ aM eZ;obtain⟨ca,cc,aY⟩:=(zCE aj).slice;rw[List.length_map] at aY;have av:=zCE aj;rw[aY] at q3 av;rw[aQ] at e4;obtain⟨gK,hS2⟩:=bD.stp s _ eZ;simp only[q0,zA,zAj,zCY,q1,e3,e4,Nat.add_zero,ia,q3,zH9];have dN:zDN SS L L[i]=(SS[s]).foldl zDa L:=by
       unfold zDN;rw[aQ];simp[eZ]
      have steps:∀(r j:Nat) (L':List Int) (v5':Value) (g:AH),r+j=(SS[s]).length->St22 k w0 k.qa SS.length v5' L' g->L.length<=L'.length->g.wm<=l->((SS[s]).drop j).foldl zDa L'=(SS[s]).foldl zDa L->
        zpg true (KR E [] (fun x k'=>(zg x=false\/k'.wm<k.qa)/\(x=.tuple #[]/\zTE k w0 Rt (bfs SS body SS.length 0 [t]) ⟨k'.t,k'.qa,cond (Nat.ble k.wm k'.wm) k.wm k'.wm⟩))) (.func (.yield l) #[] #[]) (ptr bgp) (.map (some k.qa)) v5' (iI (i:Int)) (.slice ca (SS[s]).length cc) (iI ((SS[s]).length:Int)) (iI (j:Int)) g:=by
       intro r
       induction r with
       | zero=>
        intro j L' v5' g hr sg hLL hgw an;refine zGE ?_;have:¬ ((j:Int)<((SS[s]).length:Int)):=by omega
        simp only[zY,zA,this,decide_false,zi];refine zKA ?_;have ij:zC1 ((i:Int)+1):=zKn (by omega) (by have:=bD.len;omega);simp only[zA,zAK _ ij];have:=ih (i+1) L' v5' g (by omega) sg (by omega) (by omega) (.inr hgw) (by
         rw[hb,hbf,jQ,dN,← an,List.drop_eq_nil_of_le (by omega)];rfl)
        simpa using this
       | succ r ihr=>
        intro j L' v5' g hr sg hLL hgw an;have fK:j<(SS[s]).length:=by omega
        refine zGE ?_;have:((j:Int)<((SS[s]).length:Int)):=by omega
        simp only[zY,zA,this,decide_true,zy];refine zMx ?_;have eW:((SS[s]).map zG)[j]?=some (zG (SS[s])[j]):=by simp[fK]
        obtain⟨b',o',c',vs',ty',es',ro',ay,ao,aD,bt,bB,bE⟩:=av.load eW;simp only[Value.slice.injEq] at ay;obtain⟨a9,_,_⟩:=ay;subst a9;have gb':=(sg.ext.get b' aD).trans ao;obtain⟨xt0,xtN⟩:=hS2 (SS[s])[j] (List.getElem_mem fK);have hdr:=zL3 (L:=L') fK;rw[hdr] at an;generalize (SS[s])[j]=x at bB xt0 xtN an;simp only[zv fK,zA,zZ zEM gb' bt,bB,zNj,zd,zL,zX,zMI];refine zMw ?_;have e5:=(sg.ext.new (rO [iI 0,iI 0] 134)).upd (b:=g.qa) sg.ext.qa (some (rO (zG x) 134));have x5:((g.new (rO [iI 0,iI 0] 134)).upd g.qa (some (rO (zG x) 134))).get g.qa=some (rO (zG x) 134):=zN _ _ _;have w5:w0<=((g.new (rO [iI 0,iI 0] 134)).upd g.qa (some (rO (zG x) 134))).wm:=zAA sg.w (by have:=sg.ext.qa;omega);have v5w:((g.new (rO [iI 0,iI 0] 134)).upd g.qa (some (rO (zG x) 134))).wm<=l:=Nat.le_trans (zCm _ _ _).1 hgw;have n5:((g.new (rO [iI 0,iI 0] 134)).upd g.qa (some (rO (zG x) 134))).qa=g.qa+1:=rfl;have s5:St22 k w0 k.qa SS.length v5' L' ((g.new (rO [iI 0,iI 0] 134)).upd g.qa (some (rO (zG x) 134))):=sg.keep e5 w5 (by omega) (fun c _ hc=>(zP (by omega)).trans (zK (by omega)));generalize ((g.new (rO [iI 0,iI 0] 134)).upd g.qa (some (rO (zG x) 134)))=g5 at e5 x5 w5 v5w n5 s5;have y0:=zF (P:=E) zAa (o:=0) x5;have y1:=zF (P:=E) zAa (o:=1) x5;simp only[lnth,zG] at y0 y1;obtain⟨R,ver,mg,mnd,mmem⟩:=s5.map;have cG:decide (x.2∈R)=decide (x.2∈L'):=decide_eq_decide.2 (mmem x.2);simp only[zDX,zA6,Nat.add_zero,xAK,y0,y1,zA,zAd,zM,zGT mg mnd,cG];have ig:zC1 ((j:Int)+1):=zKn (by omega) (by omega);have skip:∀ g' v6 L'',St22 k w0 k.qa SS.length v6 L'' g'->L.length<=L''.length->g'.wm<=l->((SS[s]).drop (j+1)).foldl zDa L''=(SS[s]).foldl zDa L->
          zmE true (KR E [] (fun x k'=>(zg x=false\/k'.wm<k.qa)/\(x=.tuple #[]/\zTE k w0 Rt (bfs SS body SS.length 0 [t]) ⟨k'.t,k'.qa,cond (Nat.ble k.wm k'.wm) k.wm k'.wm⟩))) (.func (.yield l) #[] #[]) (ptr bgp) (.map (some k.qa)) v6 (iI (i:Int)) (.slice (some ⟨b',o',none⟩) (SS[s]).length cc) (iI ((SS[s]).length:Int)) (iI (j:Int)) g':=by
         intro g' v6 L'' s6 hl6 hw6 hf6;refine zKB ?_;simp only[zAK _ ig,zA];have:=ihr (j+1) L'' v6 g' (by omega) s6 hl6 hw6 hf6;simpa using this
        by_cases dS:x.1=0
        ·by_cases cX:x.2∈L'
         ·have:zDa L' x=L':=by unfold zDa;simp[cX]
          rw[this] at an;simp only[dS,cX,decide_true,xAO,xAG,zA,zA6,xAK,y1,zGT mg mnd,cG,zAB,zJ,xAL,zi];exact skip g5 v5' L' s5 hLL v5w an
         ·have eY:zDa L' x=L'++[x.2]:=by unfold zDa;simp[cX,dS]
          rw[eY] at an;simp only[dS,cX,decide_true,decide_false,xAO,xAG,zA,zA6,xAK,y1,zGT mg mnd,cG,zAB,zJ,xAM,zy];refine zMv ?_;have iQ:x.2 ∉ R:=fun h=>cX ((mmem _).1 h);simp only[zA6,xAK,y1,zA,zO8 mg mnd iQ,zL];refine zKC ?_;have e6:=s5.ext.upd (b:=k.qa) (xAF _) (some (.map (zF7 (zFa x.2 R)) (ver+1)));have m6:(g5.upd k.qa (some (.map (zF7 (zFa x.2 R)) (ver+1)))).get k.qa=_:=zN _ _ _;have x6:(g5.upd k.qa (some (.map (zF7 (zFa x.2 R)) (ver+1)))).get g.qa=_:=(zP (by have:=sg.mlt;omega)).trans x5;have w6:w0<=(g5.upd k.qa (some (.map (zF7 (zFa x.2 R)) (ver+1)))).wm:=zAA s5.w cY;have v6w:(g5.upd k.qa (some (.map (zF7 (zFa x.2 R)) (ver+1)))).wm<=l:=Nat.le_trans (zCm _ _ _).1 v5w;have n6:(g5.upd k.qa (some (.map (zF7 (zFa x.2 R)) (ver+1)))).qa=g5.qa:=rfl;have l6:LS (k.qa+1) (g5.upd k.qa (some (.map (zF7 (zFa x.2 R)) (ver+1)))) v5' L':=s5.ls.mono (Nat.le_of_eq n6.symm) (fun b h1 h2 _=>zP (by omega));generalize (g5.upd k.qa (some (.map (zF7 (zFa x.2 R)) (ver+1))))=g6 at e6 m6 x6 w6 v6w n6 l6;have y6:=zF (P:=E) zAa (o:=1) x6;simp only[lnth,zG] at y6;have l7:LS (k.qa+1) (g6.new (rO [iI x.2] 3)) v5' L':=l6.mono (by simp) (fun b h1 h2 _=>zK (by omega));have e7:=e6.new (rO [iI x.2] 3);have r7:=zI g6 (rO [iI x.2] 3);have m7:(g6.new (rO [iI x.2] 3)).get k.qa=_:=(zK (by have:=sg.mlt;omega)).trans m6;have hL9:L'.length<=999999:=by have:=zAp _ _ s5.nd s5.bd;have:=bD.len;omega
          obtain⟨v8,g8,a1,a2,a3,a4,a5,a6,a7,a8⟩:=l7.app hL9 r7;simp only[zA6,xAK,y6,zA,zoZ,zL,a1];have n7:(g6.new (rO [iI x.2] 3)).qa=g6.qa+1:=rfl;obtain⟨bl,cl,aT,cO,dy,_⟩:=l7.ex;have df:k.qa<g.qa:=sg.mlt;have bR:∀ c,c<=k.qa->¬ zu v5' c:=by
           rintro c hc ⟨n',c',he⟩;rw[aT] at he;simp only[Value.slice.injEq,xAN,Addr.mk.injEq] at he;omega
          have cW:∀ c,c<=k.qa->g8.get c=(g6.new (rO [iI x.2] 3)).get c:=fun c hc=>a5 c (by omega) (bR c hc);have s8:St22 k w0 k.qa SS.length v8 (L'++[x.2]) g8:=by
           refine⟨⟨a6 e7.ok,by omega,fun c hc=>(cW c (by omega)).trans (e7.get c hc)⟩,a8 w0 (by rw[zCl];exact w6) (by omega),⟨zFa x.2 R,ver+1,(cW _ (xAF _)).trans m7,zGc mnd iQ,fun y=>?_⟩,by omega,?_,?_,?_⟩
           ·rw[zHQ,mmem];simp only[List.mem_append,xAE];exact Or.comm
           ·rw[← eY];exact zGq s5.nd x
           ·intro y hy;rcases List.mem_append.1 hy with hy|hy
            ·exact s5.bd y hy
            ·rw[List.mem_singleton.1 hy];exact⟨xt0,xtN⟩
           ·refine⟨_,UNK+1,?_,?_,?_,.inr ⟨rfl,a4⟩⟩
            ·rw[a2];simp
            ·omega
            ·omega
          exact skip g8 v8 _ s8 (by simp;omega) (Nat.le_trans a7 (by rw[zCl];exact v6w)) an
        ·have:zDa L' x=L':=by unfold zDa;simp[dS]
         rw[this] at an;simp only[dS,decide_false,show (false==true)=false from rfl,xAH,zA,zJ,zi];exact skip g5 v5' L' s5 hLL v5w an
      exact steps (SS[s]).length 0 L v5 h' (by omega) st1 (xAF _) y3 (by simp)
    subst hv;simp only[zA,zC0,zY,ab,decide_true,zy];exact hq
   ·subst hv;have:¬ ((i:Int)<(L.length:Int)):=by omega
    simp only[zA,zC0,zY,this,decide_false,zi,zNi,zCc,true_and];have hwl':h.wm<=l:=fm.resolve_left (by omega);refine⟨.inr (by omega),?_⟩;rw[hb];have:bfs SS body (f+1) i L=false:=by
     simp only[bfs,List.getElem?_eq_none (by omega:L.length<=i)]
    rw[this];refine⟨?_,?_,fun _=>⟨st.ext.qa,fun c hc=>st.ext.get c hc⟩,fun h=>by cases h⟩
    ·have:=st.ext.ok;show cond (Nat.ble k.wm h.wm) k.wm h.wm<=h.qa+UNK;unfold AH.ok at this;cases hc:Nat.ble k.wm h.wm with
     | true=>have:=ble_true.1 hc;simp only[xAG];omega
     | false=>simpa using this
    ·show w0<=cond (Nat.ble k.wm h.wm) k.wm h.wm;cases Nat.ble k.wm h.wm
     ·exact st.w
     ·exact hw
 exact loop SS.length 0 [t] _ _ (by omega) st0 (by simp) (by simp) (.inl rfl) rfl
def zeB(s:Bool)(d:Nat):Cx:=⟨E,s,none,zO5,[([],[8])],[8],[d]⟩
def zh8{s:Bool}{d:Nat}{v8:Value}{T:Tm}{h:AH}{K:KF}(hT:∀ x∈[(8,v8)],T.get x.1=x.2)(H:zO1 s K v8 h) :
  Ev s (evC E (zV E) none zO5 ⟨T,h,[d]⟩) (zI4 (zeB s d) K):=
 zBZ (C:=zeB s d) (by kernel_rfl) (by kernel_rfl) hT ((by kernel_rfl:zDP (zeB s d) K 30 (rs zO5 60 (.at [])) (zk [(8,v8)]) h=(SP (zeB s d) K [] [(8,v8)] h)).mpr
  (zUE (p:=[]) (by kernel_rfl) rfl ((by kernel_rfl:zeQ (zeB s d) K [] (zk [(8,v8)]) h=zO1 s K v8 h).mpr H)))
def zmp:zjV=.seq zeE (.seq (.seq zTm (.block 0 (.rangeFunc (.tmp 14) #[15] zIs zHJ))) (.seq zO5 .ret)):=by kernel_rfl
def zCV(R:Rel)(SS:List zf)(u:Int)(x:Int×Int):Bool:=match SS[u.toNat]? with
 | some S=>zEO R S x
 | none=>false
def zDq(R:Rel)(SS:List zf)(s:Int)(x:Int×Int)(u:Int):Bool:=
 decide ((s,u)∈R)&&((decide (x.1=0)&&decide ((x.2,u)∈R))||zCV R SS u x)
def zEB(R:Rel)(SS:List zf)(s t:Int)(x:Int×Int):Bool:=bfs SS (zDq R SS s x) SS.length 0 [t]
def call178{k:AH}{bg:Nat}{t:Int} :
  Ev true ((zV E).call 178 [ptr bg,iI t] k) fun x=>x.1=.func (.func 222) #[] #[ptr (k.qa+1),ptr k.qa]/\x.2.qa=k.qa+2/\x.2.ok/\(∀ w,w<=k.wm->w<=k.qa->w<=x.2.wm) ∧
   x.2.get k.qa=some (rO [ptr bg] 128)/\x.2.get (k.qa+1)=some (rO [iI t] 3)/\∀ c,c<k.qa->x.2.get c=k.get c:=by
 refine zdg (Rp:=fun v k'=>v=.func (.func 222) #[] #[ptr (k.qa+1),ptr k.qa]/\k'.qa=k.qa+2/\k'.ok/\(∀ w,w<=k.wm->w<=k.qa->w<=k'.wm) ∧
   k'.get k.qa=some (rO [ptr bg] 128)/\k'.get (k.qa+1)=some (rO [iI t] 3)/\∀ c,c<k.qa->k'.get c=k.get c) (zbQ ?_)
 simp only[zd,zL,zA,zj];refine zbP ?_;have g0:((k.qb.new (rO [ptr bg] 128)).new (rO [iI t] 3)).get k.qa=some (rO [ptr bg] 128):=(zK (by simp)).trans (zI k.qb _);have g1:((k.qb.new (rO [ptr bg] 128)).new (rO [iI t] 3)).get (k.qa+1)=some (rO [iI t] 3):=zI (k.qb.new _) _;have g2:∀ c,c<k.qa->((k.qb.new (rO [ptr bg] 128)).new (rO [iI t] 3)).get c=k.get c:=fun c hc=>(zK (by simp;omega)).trans ((zK (by simp;omega)).trans rfl);have n1:((k.qb.new (rO [ptr bg] 128)).new (rO [iI t] 3)).qa=k.qa+2:=rfl;have w1:((k.qb.new (rO [ptr bg] 128)).new (rO [iI t] 3)).wm=k.qa+UNK:=rfl;simp only[za,AH.next_new];generalize ((k.qb.new (rO [ptr bg] 128)).new (rO [iI t] 3))=k1 at g0 g1 g2 n1 w1;simp only[zBB,zA,zAS,zU,true_and];refine⟨.inl rfl,n1,?_,fun w h1 h2=>?_,g0,g1,g2⟩
 ·show cond (Nat.ble k.wm k1.wm) k.wm k1.wm<=k1.qa+UNK;cases hc:Nat.ble k.wm k1.wm with
  | true=>have:=ble_true.1 hc;simp only[xAG];omega
  | false=>simp only[xAH];omega
 ·show w<=cond (Nat.ble k.wm k1.wm) k.wm k1.wm;cases Nat.ble k.wm k1.wm
  ·simp only[xAH];omega
  ·exact h1
def zit{α:Type}{x:R α}{Q:α->Prop}(h:Ev true x Q):∃ a,x=some [a]/\Q a:=by
 obtain⟨l,e,_,h1,h2⟩:=h
 match l,h1 rfl with
 | [a],_=>exact⟨a,e,h2 a (by simp)⟩
def zmR(R:Rel)(SS:List zf)(s:Int)(x:Int×Int)(un:Int)(h:AH)(b8:Nat):KF:=fun ex _ g=>(zDq R SS s x un=false/\ex=.normal/\g=h)\/(zDq R SS s x un=true/\ex=.ret/\g=h.upd b8 (some (rO [.bool true] 4)))
def zlt{h:AH}{l b4 b5 b7 b8 m ver bg un:Nat}{gx:Value}{R:Rel}{SS:List zf}{S:zf}{s:Int}{x:Int×Int}{v:Value}{T:Tm}(aa:h.ok)
  (h4:h.get b4=some (.row (zA0 gx (ptr bg) m) 178 0 false)) (h5:h.get b5=some (rO [iI s] 3)) (h7:h.get b7=some (rO (zG x) 134)) (h8:h.get b8=some (rO [v] 4))
  (hm:h.get m=some (.map (ent R) ver)) (aN:m<h.qa) (hR:R.Nodup) (hg:GV h bg SS) (hS:SS[un]?=some S) (gJ:S.length<=1000000)
  (hT:∀ y∈[(4,ptr b4),(5,ptr b5),(7,ptr b7),(8,ptr b8),(9,iI (un:Int))],T.get y.1=y.2) :
  Ev true (evC E (zV E) (some l) zHJ ⟨T,h,[]⟩) (zI4 (zI8 true l) (zmR R SS s x un h b8)):=by
 refine ziA hT (zS4 ?_);have la:=zZ (P:=E) zLQ (o:=0) h4 (by simp[zA0]);rw[List.drop_zero,xAD (by simp[zA0])] at la;have lf:=zZ (P:=E) ziU (o:=0) h4 (by simp[zA0]);rw[List.drop_zero,xAD (by simp[zA0])] at lf;have l5:=zF (P:=E) zAa (o:=0) h5;have x0:=zF (P:=E) zAa (o:=0) h7;have x1:=zF (P:=E) zAa (o:=1) h7;have lx:=zZ (P:=E) zEM (o:=0) h7 (by simp[zG]);rw[List.drop_zero,xAD (by simp[zG])] at lx;simp only[lnth,zG] at l5 x0 x1;have dI:zCV R SS (un:Int) x=zEO R S x:=by
  unfold zCV;simp[hS]
 have fin:∀ b:Bool,zDq R SS s x un=b->BrK (some (.bool b)) (zmN true l (zmR R SS s x un h b8) (ptr b8) h) (zmR R SS s x un h b8 .normal [] h):=by
  intro b hb;rw[zCF];refine⟨fun e=>?_,fun e=>.inl ⟨by rw[hb,e],rfl,rfl⟩⟩;refine zS3 ?_;have af:=zAC (P:=E) zse (o:=0) (x:=.bool true) (cs:=[.bool true]) h8 rfl rfl (by simp) (by simp[zq]);simp only[af,zL];exact .inr ⟨by rw[hb,e],rfl,rfl⟩
 simp only[zD4,Nat.add_zero,la,l5,zA,zS,zK1 aa hm aN hR,zO];by_cases e1:(s,(un:Int))∈R
 ·simp only[e1,decide_true,zM,xAO,xAG,zDX,zA6,Nat.add_zero,xAK,x0,x1,zA,zAd];by_cases e2:x.1=0
  ·simp only[e2,decide_true,zM,zR,xAO,xAG,zD4,zDX,zA6,Nat.add_zero,xAK,la,x1,zA,zS,zK1 aa hm aN hR,zO,zJ];by_cases e3:(x.2,(un:Int))∈R
   ·simp only[e3,decide_true,zM,zR,show (true==false)=false from rfl,xAH,zA,zL,zJ,xAG];exact fin true (by simp[zDq,e1,e2,e3])
   ·simp only[e3,decide_false,zM,zR,xAO,xAG,lf,l5,lx,zA,zS,zOq aa hm aN hR hg hS gJ,zO,zJ,xAH];exact fin _ (by simp[zDq,e1,e2,e3,dI])
  ·simp only[e2,decide_false,zM,zR,show (false==true)=false from rfl,xAO,xAH,xAG,zA,zL,zJ,lf,l5,lx,zS,zOq aa hm aN hR hg hS gJ,zO];exact fin _ (by simp[zDq,e1,e2,dI])
 ·simp only[e1,decide_false,zM,zR,zw,zz,show (false==true)=false from rfl,xAH,zA,zL,zJ];exact fin false (by simp[zDq,e1])
def zBe(st:LoopState)(pend:Option Code)(T:Tm)(d:Nat):AObj:=.loop st pend T [15] zIs zHJ d
def zBs{h:AH}{a l:Nat}{vs:List Value}{ty es:Nat}{ro:Bool}{st:LoopState}{pend:Option Code}{T:Tm}{d:Nat}(h1:h.get a=some (.row vs ty es ro))(h2:h.get l=some (zBe st pend T d)):a≠l:=by
 rintro rfl;rw[h1] at h2;simp[zBe] at h2
def zNz{h:AH}{a l:Nat}{es:List (Value×Value)}{ver:Nat}{st:LoopState}{pend:Option Code}{T:Tm}{d:Nat}(h1:h.get a=some (.map es ver))(h2:h.get l=some (zBe st pend T d)):a≠l:=by
 rintro rfl;rw[h1] at h2;simp[zBe] at h2
def GV.upd_loop{h:AH}{bg l:Nat}{SS:List zf}{st:LoopState}{pend:Option Code}{T:Tm}{d:Nat}(g:GV h bg SS)(hl:h.get l=some (zBe st pend T d))(o:Option AObj):GV (h.upd l o) bg SS:=by
 obtain⟨loc,bs,cells,G⟩:=g.ex;refine⟨loc,bs,cells,(zP (zBs G.g hl)).trans G.g,(zP (zBs G.s hl)).trans G.s,G.len,G.ne,G.ltg,G.lts,G.locg,G.locs,fun i c S hc hS=>?_,G.blk,G.dis⟩;rcases G.cell i c S hc hS with a|⟨b,a1,a2,a3⟩
 ·exact .inl a
 ·exact .inr ⟨b,a1,(zP (zBs a2 hl)).trans a2,a3⟩
def zeY{h:AH}{l d b4 b5 b7 b8 m ver bg un:Nat}{gx:Value}{R:Rel}{SS:List zf}{S:zf}{s:Int}{x:Int×Int}{v:Value}{T:Tm}(aa:h.ok)
  (hl:h.get l=some (zBe .ready none T d))
  (h4:h.get b4=some (.row (zA0 gx (ptr bg) m) 178 0 false)) (h5:h.get b5=some (rO [iI s] 3)) (h7:h.get b7=some (rO (zG x) 134)) (h8:h.get b8=some (rO [v] 4))
  (hm:h.get m=some (.map (ent R) ver)) (aN:m<h.qa) (hR:R.Nodup) (hg:GV h bg SS) (hS:SS[un]?=some S) (gJ:S.length<=1000000)
  (hT:∀ y∈[(4,ptr b4),(5,ptr b5),(7,ptr b7),(8,ptr b8)],T.get y.1=y.2) :
  ∃ h',(zV E).round l [iI (un:Int)] h=some [(.bool (!zDq R SS s x un),h')]/\h'.ok/\h'.wm<=l/\(∀ w,w<=h.wm->w<=l->w<=b8->w<=h'.wm)/\h'.qa=h.qa/\(zDq R SS s x un=false->∀ c,h'.get c=h.get c) ∧
   (zDq R SS s x un=true->h'.get l=some (zBe .done (some .ret) T d)/\h'.get b8=some (rO [.bool true] 4)/\∀ c,c≠l->c≠b8->h'.get c=h.get c):=by
 have n4:=zBs h4 hl;have n5:=zBs h5 hl;have n7:=zBs h7 hl;have n8:=zBs h8 hl;have nm:=zNz hm hl
 let hb:=h.upd l (some (zBe .busy none T d))
 have d6:hb.ok:=zB8 aa _ _;have q:∀ {c:Nat},c≠l->hb.get c=h.get c:=fun hc=>zP hc;have ql:hb.get l=some (zBe .busy none T d):=zN _ _ _;have key:Ev true ((zV E).round l [iI (un:Int)] h) fun y=>(zDq R SS s x un=false/\y=(.bool true,hb.upd l (some (zBe .ready none T d))))\/(zDq R SS s x un=true/\y=(.bool false,(hb.upd b8 (some (rO [.bool true] 4))).upd l (some (zBe .done (some .ret) T d)))):=by
  rw[round_eq];unfold roundCall;rw[hl];show Ev true (zCx E (zV E) l zIs zHJ h (zBj T [15] [iI (un:Int)])) _;show Ev true (AM.R.andThen (evC E (zV E) (some l) zIs ⟨T.put 15 (iI (un:Int)),h,[]⟩) (zDU E (zV E) l zHJ)) _;have j6:∀ y∈[(4,ptr b4),(5,ptr b5),(7,ptr b7),(8,ptr b8),(15,iI (un:Int))],(T.put 15 (iI (un:Int))).get y.1=y.2:=by
   intro y hy;rw[Tm.get_put];simp only[xAQ,List.not_mem_nil,or_false] at hy;rcases hy with rfl|rfl|rfl|rfl|rfl
   ·exact hT _ (by simp)
   ·exact hT _ (by simp)
   ·exact hT _ (by simp)
   ·exact hT _ (by simp)
   ·rfl
  have ha:=zh9 (s:=true) (ll:=l) (h:=h) (K:=fun ex vs g=>ex=.normal/\vs=[ptr b4,ptr b5,ptr b7,ptr b8,iI (un:Int)]/\g=h) j6 (zS2 (by exact⟨by trivial,by trivial,by trivial⟩));refine Ev.andThen (ha.mono fun o ho=>?_);obtain⟨o1,o2,o3,o4⟩:=ho;have ho1:o.st.defs=[]:=o1;have dW:[o.st.T.get 4,o.st.T.get 5,o.st.T.get 7,o.st.T.get 8,o.st.T.get 9]=[ptr b4,ptr b5,ptr b7,ptr b8,iI (un:Int)]:=o3;simp only[List.cons.injEq,and_true] at dW;unfold zDU;rw[o2,o4,ho1];simp only[zKj,hl,zBe,xAG,zCO,beginRound];have hT2:∀ y∈[(4,ptr b4),(5,ptr b5),(7,ptr b7),(8,ptr b8),(9,iI (un:Int))],o.st.T.get y.1=y.2:=by
   intro y hy;simp only[xAQ,List.not_mem_nil,or_false] at hy;rcases hy with rfl|rfl|rfl|rfl|rfl
   ·exact dW.1
   ·exact dW.2.1
   ·exact dW.2.2.1
   ·exact dW.2.2.2.1
   ·exact dW.2.2.2.2
  have cK:=zlt (h:=hb) (l:=l) (s:=s) (T:=o.st.T) d6 ((q n4).trans h4) ((q n5).trans h5) ((q n7).trans h7) ((q n8).trans h8) ((q nm).trans hm) aN hR (hg.upd_loop hl _) hS gJ hT2;refine Ev.andThen (cK.mono fun p hp=>?_);obtain⟨_,p2⟩:=hp;rcases p2 with ⟨p3,p4,p5⟩|⟨p3,p4,p5⟩
  ·unfold endRound;rw[p4,p5];simp only[zEU,zCO,ql,zBe,zC2,Option.isNone,xAG];exact Ev.one (.inl ⟨p3,rfl⟩)
  ·unfold endRound;rw[p4,p5];have:(hb.upd b8 (some (rO [.bool true] 4))).get l=some (zBe .busy none T d):=(zP (Ne.symm n8)).trans ql;simp only[zEU,zCO,this,zBe,zC2,Option.isNone,xAH];exact Ev.one (.inr ⟨p3,rfl⟩)
 obtain⟨y,e,hy⟩:=zit key;rcases hy with ⟨hy,rfl⟩|⟨hy,rfl⟩
 ·refine⟨_,by rw[e,hy];rfl,zB8 d6 _ _,(zCm _ _ _).2,fun w h1 h2 h3=>zAA (zAA h1 h2) h2,rfl,fun _ c=>?_,(fun h=>by rw[hy] at h;cases h)⟩;by_cases hc:c=l
  ·subst hc;rw[zN,hl]
  ·rw[zP hc,q hc]
 ·refine⟨_,by rw[e,hy];rfl,zB8 (zB8 d6 _ _) _ _,(zCm _ _ _).2,fun w h1 h2 h3=>zAA (zAA (zAA h1 h2) h3) h2,rfl,(fun h=>by rw[hy] at h;cases h),fun _=>⟨zN _ _ _,(zP n8).trans (zN _ _ _),fun c h1 h2=>?_⟩⟩;rw[zP h1,zP h2,q h1]
def ziu{T:Tm}{h:AH}{d b8:Nat}{b:Bool}{ex:Ex}(hex:ex=.ret\/ex=.normal)(hT:T.get 8=ptr b8)(hd:h.get d=some .defd)(h8:h.get b8=some (rO [.bool b] 4)) :
  zAW E Tryz.f130 ⟨ex,⟨T,h,[d]⟩⟩=one (.bool b,h.upd d none):=by
 have ah:b8≠d:=by rintro rfl;rw[hd] at h8;cases h8
 have h8':(h.upd d none).get b8=some (rO [.bool b] 4):=(zP ah).trans h8;have gV:Tryz.f130.results.toList=[.cell 8 4]:=by kernel_rfl
 have hld:=zF (P:=E) ta_4 (o:=0) h8';simp only[lnth] at hld;have hld':zE2 E 4 (ptr b8) (h.upd d none)=some (.bool b):=hld;have:zAW E Tryz.f130 ⟨ex,⟨T,h,[d]⟩⟩=zCC E Tryz.f130 T (zB9 [d] h):=by
  rcases hex with rfl|rfl <;> rfl
 rw[this];simp only[zB9,hd,zCC,zEp,gV,zCj,hT,hld',v1]
def zli{k:AH}{m ver bg:Nat}{gx:Value}{R:Rel}{SS:List zf}{s t:Int}{x:Int×Int}(aa:k.ok)
  (hm:k.get m=some (.map (ent R) ver)) (aN:m<k.qa) (hR:R.Nodup) (hg:GV k bg SS) (bD:zO0 SS) (iX:0<=t) (gP:t<(SS.length:Int)) :
  (zV E).call 130 [.agg ⟨zA0 gx (ptr bg) m⟩,iI s,iI t,.agg ⟨zG x⟩] k=some [(.bool (zEB R SS s t x),k)]:=by
 refine zMG (s:=true) aa ziE zdz (ziD _ _) (by kernel_rfl) rfl ?_;show Ev true (AM.R.andThen (evC E (zV E) none zjV ⟨⟨Tryz.f130.ntmps,zCB [.agg ⟨zA0 gx (ptr bg) m⟩,iI s,iI t,.agg ⟨zG x⟩] 0 .e⟩,k.qb,[]⟩) (zAW E Tryz.f130)) _;have jY:∀ y∈[(0,Value.agg ⟨zA0 gx (ptr bg) m⟩),(1,iI s),(2,iI t),(3,.agg ⟨zG x⟩)],(⟨Tryz.f130.ntmps,zCB [.agg ⟨zA0 gx (ptr bg) m⟩,iI s,iI t,.agg ⟨zG x⟩] 0 .e⟩:Tm).get y.1=y.2:=by
  intro y hy;simp only[xAQ,List.not_mem_nil,or_false] at hy;rcases hy with rfl|rfl|rfl|rfl <;> kernel_rfl
 generalize (⟨Tryz.f130.ntmps,zCB [.agg ⟨zA0 gx (ptr bg) m⟩,iI s,iI t,.agg ⟨zG x⟩] 0 .e⟩:Tm)=T0 at jY;rw[zmp];refine Ev.andThen ?_;show Ev true (AM.R.andThen (evC E (zV E) none zeE ⟨T0,k.qb,[]⟩) (thenC (evC E (zV E) none (.seq (.seq zTm (.block 0 (.rangeFunc (.tmp 14) #[15] zIs zHJ))) (.seq zO5 .ret))))) _;obtain⟨kA,hkA,oA,a4,a5,a7,a8,nA⟩:∃ kA,kA=(((k.qb.new (.row (zA0 gx (ptr bg) m) 178 0 false)).new (rO [iI s] 3)).new (rO (zG x) 134)).new (rO [.bool false] 4)/\Own k kA/\kA.get k.qa=some (.row (zA0 gx (ptr bg) m) 178 0 false) ∧
   kA.get (k.qa+1)=some (rO [iI s] 3)/\kA.get (k.qa+2)=some (rO (zG x) 134)/\kA.get (k.qa+3)=some (rO [.bool false] 4)/\kA.qa=k.qa+4:=by
  refine⟨_,rfl,((((Own.qb k).new _).new _).new _).new _,?_,?_,?_,?_,rfl⟩
  ·exact (zK (by simp;omega)).trans ((zK (by simp;omega)).trans ((zK (by simp)).trans (zI k.qb _)))
  ·exact (zK (by simp)).trans ((zK (by simp)).trans (zI (k.qb.new _) _))
  ·exact (zK (by simp)).trans (zI ((k.qb.new _).new _) _)
  ·exact zI (((k.qb.new _).new _).new _) _
 have ha:=ziC (s:=true) (h:=k.qb) (K:=fun ex vs g=>ex=.normal/\vs=[iI t,ptr k.qa,ptr (k.qa+1),ptr (k.qa+2),ptr (k.qa+3)]/\g=kA) jY (zS6 (by
  simp only[zd,zL,zA,zX,zj,z4];exact⟨trivial,rfl,hkA.symm⟩))
 refine Ev.andThen (ha.mono fun o ho=>?_);obtain⟨ex,T,g,ds⟩:=o;obtain⟨o1,o2,o3,o4⟩:=ho;have o1':ds=[]:=o1;have o2':ex=.normal:=o2;have o4':g=kA:=o4;subst o1' o2' o4';clear o1 o2 o4;have o3':[T.get 2,T.get 4,T.get 5,T.get 7,T.get 8]=[iI t,ptr k.qa,ptr (k.qa+1),ptr (k.qa+2),ptr (k.qa+3)]:=o3;simp only[List.cons.injEq,and_true] at o3';show Ev true (AM.R.andThen (AM.R.andThen (evC E (zV E) none zTm ⟨T,g,[]⟩) (thenC (evC E (zV E) none (.block 0 (.rangeFunc (.tmp 14) #[15] zIs zHJ))))) (thenC (evC E (zV E) none (.seq zO5 .ret)))) _;refine Ev.andThen (Ev.andThen ?_);have hTb:∀ y∈[(2,iI t),(4,ptr k.qa),(5,ptr (k.qa+1)),(7,ptr (k.qa+2)),(8,ptr (k.qa+3))],T.get y.1=y.2:=by
  intro y hy;simp only[xAQ,List.not_mem_nil,or_false] at hy;rcases hy with rfl|rfl|rfl|rfl|rfl
  ·exact o3'.1
  ·exact o3'.2.1
  ·exact o3'.2.2.1
  ·exact o3'.2.2.2.1
  ·exact o3'.2.2.2.2
 have lg:=zF (P:=E) zCJ (o:=1) a4;simp only[lnth,zA0] at lg;have hb:=ziB (s:=true) (h:=g) (K:=fun ex vs kB=>ex=.normal/\vs=[ptr k.qa,ptr (k.qa+1),ptr (k.qa+2),ptr (k.qa+3),.func (.func 222) #[] #[ptr (g.qa+1),ptr g.qa]] ∧
   kB.qa=g.qa+2/\kB.ok/\(∀ w,w<=g.wm->w<=g.qa->w<=kB.wm)/\kB.get g.qa=some (rO [ptr bg] 128)/\kB.get (g.qa+1)=some (rO [iI t] 3)/\∀ c,c<g.qa->kB.get c=g.get c) hTb (zS5 (by
  simp only[zD4,zKv,Nat.add_zero,xAK,lg,zA,zS];refine call178.mono fun y hy=>?_;obtain⟨y1,y2⟩:=hy;rw[y1];exact⟨trivial,rfl,y2⟩))
 refine hb.mono fun o ho=>?_;obtain⟨ex,T',kB,ds⟩:=o;obtain⟨p1,p2,p3,nB,okB,wB,b4,b5,bo⟩:=ho;have p1':ds=[]:=p1;have p2':ex=.normal:=p2;subst p1' p2';clear p1 p2;have p3':[T'.get 4,T'.get 5,T'.get 7,T'.get 8,T'.get 14]=[ptr k.qa,ptr (k.qa+1),ptr (k.qa+2),ptr (k.qa+3),.func (.func 222) #[] #[ptr (g.qa+1),ptr g.qa]]:=p3;simp only[List.cons.injEq,and_true] at p3';obtain⟨t4,t5,t7,t8,t14⟩:=p3';clear p3;simp only at nB okB wB b4 b5 bo;show Ev true (AM.R.andThen (evRange E (zV E) none (some (T'.get 14)) [15] zIs zHJ ⟨T',kB,[]⟩) (zDY 0)) _;rw[t14];have hhb:zDF E 222=true:=by kernel_rfl
 have af:evRange E (zV E) none (some (.func (.func 222) #[] #[ptr (g.qa+1),ptr g.qa])) [15] zIs zHJ ⟨T',kB,[]⟩ =
   AM.R.andThen ((zV E).call 222 [.func (.yield (kB.qa+1)) #[] #[],ptr (g.qa+1),ptr g.qa] ((kB.new .defd).new (zBe .ready none T' kB.qa))) fun x=>zBa (kB.qa+1) T' [kB.qa] x.2:=by
  unfold evRange;simp only[hhb,xAG];rfl
 rw[af];refine Ev.andThen (Ev.andThen ?_);have okC:((kB.new .defd).new (zBe .ready none T' kB.qa)).ok:=zBd (zBd okB _) _;have cl:((kB.new .defd).new (zBe .ready none T' kB.qa)).get (kB.qa+1)=some (zBe .ready none T' kB.qa):=zI (kB.new .defd) _;have cd:((kB.new .defd).new (zBe .ready none T' kB.qa)).get kB.qa=some .defd:=(zK (by simp)).trans (zI kB _);have co:∀ c,c<kB.qa->((kB.new .defd).new (zBe .ready none T' kB.qa)).get c=kB.get c:=fun c hc=>(zK (by simp;omega)).trans (zK (by omega));have nC:((kB.new .defd).new (zBe .ready none T' kB.qa)).qa=kB.qa+2:=rfl;have wC:((kB.new .defd).new (zBe .ready none T' kB.qa)).wm=kB.wm:=rfl;generalize ((kB.new .defd).new (zBe .ready none T' kB.qa))=kC at okC cl cd co nC wC;have cg:∀ c,c<g.qa->kC.get c=g.get c:=fun c hc=>(co c (by omega)).trans (bo c hc);have eC:Ext k kC:=⟨okC,by omega,fun c hc=>(cg c (by omega)).trans (oA.ext.get c hc)⟩;have hw0:k.qa<=kC.wm:=by rw[wC];exact wB _ oA.wm (by omega)
 have hY:Yd kC (kB.qa+1) k.qa SS.length (zDq R SS s x) (fun h'=>h'.get (kB.qa+1)=some (zBe .done (some .ret) T' kB.qa)/\h'.get (k.qa+3)=some (rO [.bool true] 4)/\h'.get kB.qa=some .defd):=by
  intro h he hw u hu0 huN;obtain⟨un,rfl⟩:=Int.eq_ofNat_of_zero_le hu0;have cM:un<SS.length:=by omega
  have gI:SS[un]?=some SS[un]:=xAA cM;have hek:=eC.trans he;obtain⟨h',r1,r2,r3,r4,r5,r6,r7⟩:=zeY (h:=h) (un:=un) (s:=s) (x:=x) he.ok ((he.get _ (by omega)).trans cl) ((he.get _ (by omega)).trans ((cg _ (by omega)).trans a4)) ((he.get _ (by omega)).trans ((cg _ (by omega)).trans a5)) ((he.get _ (by omega)).trans ((cg _ (by omega)).trans a7)) ((he.get _ (by omega)).trans ((cg _ (by omega)).trans a8))
   ((hek.get m aN).trans hm) (xAC aN hek.qa) hR (hg.ext hek) gI (by have:=(bD.stp un _ gI).1;omega) (by
    intro y hy;simp only[xAQ,List.not_mem_nil,or_false] at hy;rcases hy with rfl|rfl|rfl|rfl
    ·exact t4
    ·exact t5
    ·exact t7
    ·exact t8)
  refine⟨h',r1,r2,r3,r4 _ hw (by omega) (by omega),fun e=>⟨r5,r6 e⟩,fun e=>?_⟩;obtain⟨z1,z2,z3⟩:=r7 e;exact⟨z1,z2,(z3 _ (by omega) (by omega)).trans ((he.get _ (by omega)).trans cd)⟩
 have hc:=zlJ (k:=kC) (l:=kB.qa+1) (bs0:=g.qa+1) (bgp:=g.qa) (bg:=bg) (w0:=k.qa) (SS:=SS) (t:=t) okC ((co _ (by omega)).trans b5) (by omega) ((co _ (by omega)).trans b4) (by omega) (hg.ext eC) bD iX gP hw0 (by omega) (by omega) (fun h h' cW hn hr=>by
  rw[cW,cW,cW];exact hr) hY
 refine hc.mono fun y hy=>?_;obtain⟨v,h⟩:=y;obtain⟨_,f1,f2,f3,f4⟩:=hy;simp only at f1 f2 f3 f4 ⊢;have an:bfs SS (zDq R SS s x) SS.length 0 [t]=zEB R SS s t x:=rfl;rw[an] at f3 f4;cases hb:zEB R SS s t x with
 | true=>
  obtain⟨r1,r2,r3⟩:=f4 hb;have jw:zBa (kB.qa+1) T' [kB.qa] h=one ⟨.ret,⟨T',h.upd (kB.qa+1) (some (zBe .exhausted (some .ret) T' kB.qa)),[kB.qa]⟩⟩:=by
   unfold zBa;rw[r1];rfl
  rw[jw,zL];show Ev true (one _) _;rw[zL];show Ev true (one _) _;rw[zL];show Ev true (zAW E Tryz.f130 ⟨.ret,⟨T',h.upd (kB.qa+1) (some (zBe .exhausted (some .ret) T' kB.qa)),[kB.qa]⟩⟩) _;rw[ziu (.inl rfl) t8 ((zP (by omega)).trans r3) ((zP (by omega)).trans r2),zL];exact⟨rfl,zAA (zAA f2 (by omega)) (by omega)⟩
 | false=>
  obtain⟨r1,r2⟩:=f3 hb;have cD:h.get (kB.qa+1)=some (zBe .ready none T' kB.qa):=(r2 _ (by omega)).trans cl;have jw:zBa (kB.qa+1) T' [kB.qa] h=one ⟨.normal,⟨T',h.upd (kB.qa+1) (some (zBe .exhausted none T' kB.qa)),[kB.qa]⟩⟩:=by
   unfold zBa;rw[cD];rfl
  rw[jw,zL];show Ev true (one _) _;rw[zL];have q8:(h.upd (kB.qa+1) (some (zBe .exhausted none T' kB.qa))).get (k.qa+3)=some (rO [.bool false] 4):=(zP (by omega)).trans ((r2 _ (by omega)).trans ((cg _ (by omega)).trans a8));have qd:(h.upd (kB.qa+1) (some (zBe .exhausted none T' kB.qa))).get kB.qa=some .defd:=(zP (by omega)).trans ((r2 _ (by omega)).trans cd);have qw:k.qa<=(h.upd (kB.qa+1) (some (zBe .exhausted none T' kB.qa))).wm:=zAA f2 (by omega);generalize (h.upd (kB.qa+1) (some (zBe .exhausted none T' kB.qa)))=h1 at q8 qd qw;show Ev true (AM.R.andThen (evC E (zV E) none zO5 ⟨T',h1,[kB.qa]⟩) (thenC (evC E (zV E) none .ret))) _;have af:=zAC (P:=E) zse (o:=0) (x:=.bool false) (cs:=[.bool false]) q8 rfl rfl (by simp) (by simp[zq]);have he:=zh8 (s:=true) (d:=kB.qa) (v8:=ptr (k.qa+3)) (T:=T') (h:=h1) (K:=fun ex vs g=>ex=.normal/\vs=[ptr (k.qa+3)]/\g=h1.upd (k.qa+3) (some (rO [.bool false] 4))) (by
   intro y hy;simp only[xAQ,List.not_mem_nil,or_false] at hy;subst hy;exact t8) (by
   simp only[zO1,af,zL];exact⟨trivial,trivial,rfl⟩)
  refine Ev.andThen (he.mono fun o ho=>?_);obtain⟨ex,T2,g2,ds⟩:=o;obtain⟨o1,o2,o3,o4⟩:=ho;have o1':ds=[kB.qa]:=o1;have o2':ex=.normal:=o2;have o4':g2=h1.upd (k.qa+3) (some (rO [.bool false] 4)):=o4;have o3':[T2.get 8]=[ptr (k.qa+3)]:=o3;subst o1' o2' o4';show Ev true (one _) _;rw[zL];show Ev true (zAW E Tryz.f130 ⟨.ret,⟨T2,h1.upd (k.qa+3) (some (rO [.bool false] 4)),[kB.qa]⟩⟩) _;rw[ziu (.inl rfl) (List.cons.inj o3').1 ((zP (by omega)).trans qd) (zN _ _ _),zL];exact⟨rfl,zAA (zAA qw (by omega)) (by omega)⟩
def SameR(R R':Rel):Prop:=∀ p,p∈R ↔ p∈R'
def SameR.dec{R R':Rel}(h:SameR R R')(p:Int×Int):decide (p∈R)=decide (p∈R'):=decide_eq_decide.2 (h p)
def zLS{R R':Rel}(h:SameR R R')(S:zf)(x:Int×Int):zEO R S x=zEO R' S x:=by
 have:zFf R x=zFf R' x:=by funext y;unfold zFf;rw[h.dec]
 unfold zEO;simp only[this]
def zFe{R R':Rel}(h:SameR R R')(SS:List zf)(u:Int)(x:Int×Int):zCV R SS u x=zCV R' SS u x:=by
 unfold zCV;split
 ·exact zLS h _ _
 ·rfl
def zRf{R R':Rel}(h:SameR R R')(SS:List zf)(s:Int)(x:Int×Int):zDq R SS s x=zDq R' SS s x:=by
 funext u
 unfold zDq;rw[h.dec,h.dec,zFe h]
def zMH{R R':Rel}(h:SameR R R')(SS:List zf)(s t:Int)(x:Int×Int):zEB R SS s t x=zEB R' SS s t x:=by
 unfold zEB;rw[zRf h]
def zDG(kind:Int)(R:Rel)(TT:List zf)(p x:Int×Int):Bool:=if kind=1 then zCV R TT p.2 x else zEB R TT p.1 p.2 x
def zL1{R R':Rel}(h:SameR R R')(kind:Int)(TT:List zf):zDG kind R TT=zDG kind R' TT:=by
 funext p x
 unfold zDG;rw[zFe h,zMH h]
def all_same{α:Type}{l l':List α}(h:∀ a,a∈l ↔ a∈l')(f:α->Bool):l.all f=l'.all f:=by
 rw[Bool.eq_iff_iff,List.all_eq_true,List.all_eq_true];exact⟨fun H a ha=>H a ((h a).2 ha),fun H a ha=>H a ((h a).1 ha)⟩
def zQH(kind:Int)(R:Rel)(SS TT:List zf):Bool:=zWa R SS (zDG kind R TT)
def zIS{R R':Rel}(h:SameR R R')(kind:Int)(SS TT:List zf):zQH kind R SS TT=zQH kind R' SS TT:=by
 unfold zQH zWa;rw[zL1 h];exact all_same h _
def inB(n m:Int)(p:Int×Int):Bool:=decide (p.1<n)&&decide (p.2<m)
def zms(kind:Int)(prs:Rel)(SS TT:List zf)(n m:Int):Bool:=
 prs.all (inB n m)&&(decide ((0,0)∈prs)&&zQH kind prs SS TT&&zQH kind (prs.map zBr) TT SS)
def zAF(kind:Int):List Value:=
 if kind=1 then [.func (.func 128) #[] #[],.func (.func 129) #[] #[],.string ⟨#[115,116,114,111,110,103]⟩]
 else [.func (.func 130) #[] #[],.func (.func 131) #[] #[],.string ⟨#[98,114,97,110,99,104,105,110,103]⟩]
def zN0:Value:=.agg ⟨[.nilFunc,.nilFunc,.string ⟨#[]⟩]++zAF 1++zAF 2⟩
def pbm1:zAu E 112 (some [(0,(.func (.func 128) #[] #[])),(1,(.func (.func 129) #[] #[])),(2,(.string ⟨#[115,116,114,111,110,103]⟩))])=some (.agg ⟨zAF 1⟩):=by kernel_rfl
def pbm2:zAu E 112 (some [(0,(.func (.func 130) #[] #[])),(1,(.func (.func 131) #[] #[])),(2,(.string ⟨#[98,114,97,110,99,104,105,110,103]⟩))])=some (.agg ⟨zAF 2⟩):=by kernel_rfl
def pbm:zAu E 113 (some [(1,.agg ⟨zAF 1⟩),(2,.agg ⟨zAF 2⟩)])=some zN0:=by kernel_rfl
def pim1:zDC E 113 (some zN0) (some (iI 1))=some (.agg ⟨zAF 1⟩):=by kernel_rfl
def pim2:zDC E 113 (some zN0) (some (iI 2))=some (.agg ⟨zAF 2⟩):=by kernel_rfl
def pim{kind:Int}(h:zDd kind=true):zDC E 113 (some zN0) (some (iI kind))=some (.agg ⟨zAF kind⟩):=by
 simp only[zDd,Bool.or_eq_true,decide_eq_true_eq] at h;rcases h with rfl|rfl
 ·exact pim1
 ·exact pim2
def zV1{k:AH}(aa:k.ok):(zV E).call 79 [] k=some [(zN0,k)]:=by
 refine zdB aa (by kernel_rfl) (zgB ?_);simp only[zq2,zd,zL,zX];refine zgA ?_;have o1:=(Own.qb k).new (.row [.nilFunc,.nilFunc,.string ⟨#[]⟩,.nilFunc,.nilFunc,.string ⟨#[]⟩,.nilFunc,.nilFunc,.string ⟨#[]⟩] 113 0 false);have t1:=zI k.qb (.row [.nilFunc,.nilFunc,.string ⟨#[]⟩,.nilFunc,.nilFunc,.string ⟨#[]⟩,.nilFunc,.nilFunc,.string ⟨#[]⟩] 113 0 false);generalize k.qb.new (.row [.nilFunc,.nilFunc,.string ⟨#[]⟩,.nilFunc,.nilFunc,.string ⟨#[]⟩,.nilFunc,.nilFunc,.string ⟨#[]⟩] 113 0 false)=k1 at o1 t1;simp only[za] at t1 ⊢;have af:=zAC (P:=E) znG (o:=0) (x:=zN0) (cs:=[.nilFunc,.nilFunc,.string ⟨#[]⟩]++zAF 1++zAF 2) t1 rfl rfl (by simp) (by rfl);simp only[pbm1,pbm2,pbm,zA,af,zL,zso,zU,true_and];have g1:(k1.upd k.qa (some (.row (lput [.nilFunc,.nilFunc,.string ⟨#[]⟩,.nilFunc,.nilFunc,.string ⟨#[]⟩,.nilFunc,.nilFunc,.string ⟨#[]⟩] 0 ([.nilFunc,.nilFunc,.string ⟨#[]⟩]++zAF 1++zAF 2)) 113 0 false))).get k.qa=some (rO ([.nilFunc,.nilFunc,.string ⟨#[]⟩]++zAF 1++zAF 2) 113):=zN _ _ _;have la:=zZ (P:=E) znM (o:=0) g1 (by decide);have:zE2 E 113 (ptr k.qa) (k1.upd k.qa (some (.row (lput [.nilFunc,.nilFunc,.string ⟨#[]⟩,.nilFunc,.nilFunc,.string ⟨#[]⟩,.nilFunc,.nilFunc,.string ⟨#[]⟩] 0 ([.nilFunc,.nilFunc,.string ⟨#[]⟩]++zAF 1++zAF 2)) 113 0 false)))=some zN0:=la;rw[this,zA];exact⟨rfl,zAA o1.wm (xAF _)⟩
def GV.fx{k l:AH}{bg:Nat}{SS:List zf}(g:GV k bg SS)(f:Fx NoB k l):GV l bg SS:=g.ext ⟨f.ok,f.qa,fun c hc=>f.get c hc (fun h=>h)⟩
def Fx.ext0{k l:AH}(f:Fx NoB k l):Ext k l:=⟨f.ok,f.qa,fun c hc=>f.get c hc (fun h=>h)⟩
def zni{a b:Option Addr}{m:Nat}:zAu E 178 (some [(0,.agg ⟨zA0 (.pointer a) (.pointer b) m⟩)])=some (.agg ⟨zA0 (.pointer a) (.pointer b) m⟩):=by kernel_rfl
def zke(kind:Int):FuncId:=if kind=1 then 128 else 130
def zoK(kind:Int):FuncId:=if kind=1 then 129 else 131
def zsm(kind:Int):ByteArray:=if kind=1 then ⟨#[115,116,114,111,110,103]⟩ else ⟨#[98,114,97,110,99,104,105,110,103]⟩
def zFu(kind:Int):zAF kind=[.func (.func (zke kind)) #[] #[],.func (.func (zoK kind)) #[] #[],.string (zsm kind)]:=by
 unfold zAF zke zoK zsm;by_cases h:kind=1 <;> simp[h]
def zjb{kind:Int}(h:zDd kind=true):veq 100 (.agg ⟨zAF kind⟩) (.agg ⟨zAF kind⟩)=true:=by
 simp only[zDd,Bool.or_eq_true,decide_eq_true_eq] at h;rcases h with rfl|rfl <;> kernel_rfl
def zis{h0 k':AH}{kind:Int}{gx:Value}{bg m ver:Nat}{R:Rel}{SS:List zf}(aR:zDd kind=true)(e:Ext h0 k')(hm:h0.get m=some (.map (ent R) ver))(aN:m<h0.qa)(hR:R.Nodup)(hg:GV h0 bg SS)(bD:zO0 SS)
  {p x:Int×Int} (h0':0<=p.2) (hN:p.2<(SS.length:Int)):(zV E).call (zke kind) [.agg ⟨zA0 gx (ptr bg) m⟩,iI p.1,iI p.2,.agg ⟨zG x⟩] k'=some [(.bool (zDG kind R SS p x),k')]:=by
 have fg:=(e.get m aN).trans hm;have cB:=xAC aN e.qa;simp only[zDd,Bool.or_eq_true,decide_eq_true_eq] at aR;rcases aR with rfl|rfl
 ·obtain⟨t,ht⟩:=Int.eq_ofNat_of_zero_le h0';have gP:t<SS.length:=by omega
  have hS:SS[t]?=some SS[t]:=xAA gP;have hf:zDG 1 R SS p x=zEO R SS[t] x:=by
   unfold zDG zCV;rw[ht];simp[hS]
  rw[hf,ht];exact zOq e.ok fg cB hR (hg.ext e) hS (by have:=(bD.stp t _ hS).1;omega)
 ·have hf:zDG 2 R SS p x=zEB R SS p.1 p.2 x:=by
   unfold zDG;simp
  rw[hf];exact zli e.ok fg cB hR (hg.ext e) bD h0' hN
def zrG{k h:AH}{kind:Int}{b1 b2 m ver b8 b11:Nat}{R:Rel}{SS TT:List zf}(ho:Own k h)(aR:zDd kind=true)
  (h8:h.get b8=some (.row (zA0 (ptr b1) (ptr b2) m) 176 0 false)) (iA:b8<h.qa) (h11:h.get b11=some (rO (zAF kind) 112)) (h11l:b11<h.qa) (hm:h.get m=some (.map (ent R) ver)) (aN:m<h.qa) (hR:R.Nodup)
  (gt:GV h b1 SS) (gq:GV h b2 TT) (bN:b1<h.qa) (bz:b2<h.qa) (bD:zO0 SS) (iL:zO0 TT) (ai:∀ p∈R,(0<=p.1/\p.1<(SS.length:Int))/\(0<=p.2/\p.2<(TT.length:Int))) {V:Bool}
  (hV:V=(decide ((0,0)∈R)&&zQH kind R SS TT&&zQH kind (R.map zBr) TT SS)) :
  zjN false (KR E [.tmp 6] (fun x l=>x=.bool V/\k.qa<=l.wm)) (ptr b8) (ptr b11) h:=by
 refine zXE ?_;have la:=zZ (P:=E) zLQ (o:=0) h8 (by simp[zA0]);rw[List.drop_zero,xAD (by simp[zA0])] at la;have lm:=zZ (P:=E) ziV (o:=0) h11 (by rw[zFu];simp);rw[List.drop_zero,xAD (by rw[zFu];simp)] at lm;have hsz:∀(SS:List zf),zO0 SS->∀(i:Nat) (S:zf),SS[i]?=some S->S.length<=1000000:=fun SS hS i S h=>by have:=(hS.stp i S h).1;omega
 have c1:(zV E).call 124 [.agg ⟨zA0 (ptr b1) (ptr b2) m⟩,.agg ⟨zAF kind⟩] h=some [(.bool (zQH kind R SS TT),h)]:=by
  rw[zFu];exact zWE (h0:=h) (Ext.refl ho.ext.ok) hm aN gt (fun p hp=>(ai p hp).1) (hsz SS bD) (fun k' dQ p hp x S hS hx=>zis aR dQ hm aN hR gq iL (ai p hp).2.1 (ai p hp).2.2)
 simp only[la,lm,zA,zS,zK1 ho.ext.ok hm aN hR,zO];by_cases e0:((0:Int),(0:Int))∈R
 ·simp only[e0,decide_true,zM,zR,xAO,xAG,la,lm,zA,zni,zS,c1,zO,zJ];cases e1:zQH kind R SS TT with
  | true=>
   simp only[zM,zR,xAO,xAG,la,lm,zA,zS];refine (zlj ho.ext.ok bN bz hm aN).mono fun y hy=>?_;obtain⟨v,h2⟩:=y;obtain⟨m',ver',R',rfl,g1,g2,g3,g4,g5,g6⟩:=hy;simp only at g1 g2 g3 g4 g5 g6;have o2:=g6.own ho (fun _ h=>h.elim);have lm2:=zZ (P:=E) ziV (o:=0) ((g6.get b11 h11l (fun h=>h)).trans h11) (by rw[zFu];simp);rw[List.drop_zero,xAD (by rw[zFu];simp)] at lm2;have aO:∀ p∈R',(0<=p.1/\p.1<(TT.length:Int))/\(0<=p.2/\p.2<(SS.length:Int)):=fun p hp=>by
    have:=ai _ ((g5 p).1 hp);exact⟨this.2,this.1⟩
   have c2:(zV E).call 124 [.agg ⟨zA0 (ptr b2) (ptr b1) m'⟩,.agg ⟨zAF kind⟩] h2=some [(.bool (zQH kind R' TT SS),h2)]:=by
    rw[zFu];exact zWE (h0:=h2) (Ext.refl o2.ext.ok) g1 g3 (gq.fx g6) (fun p hp=>(aO p hp).1) (hsz TT iL) (fun k' dQ p hp x S hS hx=>zis aR dQ g1 g3 g4 (gt.fx g6) bD (aO p hp).2.1 (aO p hp).2.2)
   have aJ:SameR R' (R.map zBr):=fun p=>by
    rw[g5,List.mem_map];constructor
    ·intro h;exact⟨_,h,rfl⟩
    ·rintro⟨q,hq,rfl⟩;exact hq
   simp only[zM,zR,xAO,xAG,lm2,zA,zjb aR,zni,zS,c2,zO,zJ,zAS,zU,true_and];refine⟨?_,o2.wm⟩;rw[hV,e1,zIS aJ];simp[e0]
  | false=>
   simp only[zM,zR,zw,zz,show (false==true)=false from rfl,xAH,zA,zL,zJ,show veq 100 undef undef=true from by kernel_rfl,zAS,zU,true_and];exact⟨by rw[hV,e1];simp,ho.wm⟩
 ·simp only[e0,decide_false,zM,zR,zw,zz,show (false==true)=false from rfl,xAH,zA,zL,zJ,show veq 100 undef undef=true from by kernel_rfl,zAS,zU,true_and];exact⟨by rw[hV];simp[e0],ho.wm⟩
end Go.Proofs
