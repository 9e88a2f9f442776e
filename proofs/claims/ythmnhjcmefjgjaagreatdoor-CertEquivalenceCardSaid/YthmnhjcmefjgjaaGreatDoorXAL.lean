import Derived.Test.YthmnhjcmefjgjaaGreatDoorXAK
import Derived.Test.YthmnhjcmefjgjaaGreatDoorXAI
set_option linter.all false
set_option linter.unusedSectionVars false
set_option autoImplicit true
set_option relaxedAutoImplicit true
namespace Go.Proofs
open Go Go.AM Go.Sort
set_option maxRecDepth 100000
set_option maxHeartbeats 1000000
theorem zmJ:zCV (.func (.func 122) #[] #[]) zKC:=fun k x y aa=>by rw [zQ];exact zUo aa
theorem zLX {d:Dt} (hs:SortedIn (zAY zKC) 0 d.size d):∀ j,j<=d.size->zAV (dd d j)
 | 0,_=>List.Pairwise.nil
 | j+1,hj=>by
  have ih:=zLX hs j (by omega)
  simp only [dd]
  split
  ·exact ih
  ·rename_i ah
   refine List.pairwise_append.2 ⟨ih,List.pairwise_singleton _ _,fun p hp q hq=>?_⟩
   rw [List.mem_singleton.1 hq]
   obtain ⟨i,hi,rfl⟩:=zO1 d j p hp
   have h1:=hs (j-1) j (Nat.zero_le _) (by omega) (by omega)
   have h2:i=j-1\/zAY zKC d[j-1]! d[i]! = false:=by
    by_cases e:i=j-1
    ·exact .inl e
    ·exact .inr (hs i (j-1) (Nat.zero_le _) (by omega) (by omega))
   have h3:d[j]!≠d[j-1]!:=fun e=>ah ⟨by omega,e⟩
   have h4:zKC d[j-1]! d[j]! < 0:=by
    simp only [decide_eq_false_iff_not,zCy] at h1
    rw [zCy]
    have:¬ (d[j]!.1=d[j-1]!.1/\d[j]!.2=d[j-1]!.2):=fun e=>h3 (Prod.ext e.1 e.2)
    omega
   rcases h2 with h2|h2
   ·rw [h2];exact h4
   ·simp only [decide_eq_false_iff_not,zCy] at h2
    rw [zCy] at h4 ⊢
    omega
theorem zmD (d:Dt) (p:Int×Int):p∈dd d d.size ↔ p∈d.toList:=by
 constructor
 ·intro h
  obtain ⟨q,hq,e⟩:=zO1 d d.size p h
  exact e ▸ List.mem_of_getElem? (zJz hq)
 ·intro h
  obtain ⟨q,hq⟩:=List.getElem?_of_mem h
  have gj:q<d.size:=by simpa using (List.getElem?_eq_some_iff.1 hq).1
  rw [zJz gj] at hq
  cases hq
  exact zUQ d d.size q gj
theorem zdY {d d':Dt} (h:PermIn 0 d.size d d') (p:Int×Int):p∈d'.toList ↔ p∈d.toList:=by
 have hp:=h.2.2
 have e1:(d'.extract 0 d.size).toList=d'.toList:=by rw [← h.1,Array.extract_size]
 rw [e1,Array.extract_size] at hp
 exact hp.mem_iff
def Made (P:Nat->Prop) (k:AH) (kind:Int) (F:List (Int×Int)) (v:Value) (m:AH):Prop:=∃ b,v=.tuple #[.agg ⟨[iI kind,sl b F.length (UNK+2)]⟩,iI 0]/\(P b\/k.next<=b)/\Arr m 2 (sl b F.length (UNK+2)) (F.map zH)/\Fx P k m
theorem Made.fx {P Q:Nat->Prop} {k l m:AH} {kind:Int} {F:List (Int×Int)} {v:Value} (M:Made P l kind F v m) (f:Fx Q k l) (hP:∀ c,P c->Q c\/k.next<=c):Made Q k kind F v m:=
 let ⟨b,h1,h2,h3,h4⟩:=M;⟨b,h1,h2.elim (hP b) fun h=>.inr (Nat.le_trans f.next h),h3,f.trans h4 hP⟩
theorem Arr.upd {m:AH} {b c n cp:Nat} {z:Nat} {els:List (List Value)} (A:Arr m z (sl b n cp) els) (h:b≠c) (o:Option AObj):Arr (m.upd c o) z (sl b n cp) els:=by
 generalize hv:sl b n cp=v at A
 cases A with
 | nil a c=>exact .nil a c
 | row h1 h2 h3 h4=>
  simp only [sl,Value.slice.injEq,Option.some.injEq,Addr.mk.injEq] at hv
  exact .row ((zW (by rw [← hv.1.1];exact h)).trans h1) h2 h3 h4
theorem Arr.wm {m:AH} {v:Value} {z:Nat} {els:List (List Value)} (A:Arr m z v els) (w:Nat):Arr ⟨m.t,m.next,w⟩ z v els:=by
 cases A with
 | nil a c=>exact .nil a c
 | row h1 h2 h3 h4=>exact .row (zEy h1) h2 h3 h4
theorem Made.outP {P:Nat->Prop} {ex:Ex} {l k:AH} {kind:Int} {F:List (Int×Int)} {v:Value} {h:AH} {c:Nat} {a u:Nat} {K:Value->AH->Prop} (M:Made P k kind F v h) (hl:Fx NoB l.fresh k) (hP:∀ b,P b\/k.next<=b->l.next<=b/\b≠c) (hc:l.next<=c) (g:h.get c=some (rO [iI 0,.slice none 0 0] 32)) (hex:zBt ex=true)
  (hK:∀ x m,Made NoB l kind F x m->K x m) :
  EvO (ze 0 (some v)) fun x4=>EvO (ze 1 (some v)) fun x5=>Ev true (zf E 32 h (some (ptr c)) (some x4)) fun x6=>KR E [.cell a 32,.tmp u] (fun x m=>(zi x=false\/m.wm<l.next)/\K x ⟨m.t,m.next,cond (Nat.ble l.wm m.wm) l.wm m.wm⟩) ex [ptr c,x5] x6.2:=by
 obtain ⟨b,rfl,hb,q2,q3⟩:=M
 have hb:=hP b hb
 have s2:=zKL (a:=kind) (v:=sl b F.length (UNK+2)) g rfl rfl
 rw [show ze 0 (some (.tuple #[.agg ⟨[iI kind,sl b F.length (UNK+2)]⟩,iI 0]))=some (.agg ⟨[iI kind,sl b F.length (UNK+2)]⟩) from by kernel_rfl,show ze 1 (some (.tuple #[.agg ⟨[iI kind,sl b F.length (UNK+2)]⟩,iI 0]))=some (iI 0) from by kernel_rfl]
 simp only [zA,s2,zK]
 have fo:=(hl.trans q3 fun c hc=>.inr (hP c (.inl hc)).1).upd (b:=c) (.inr hc) (some (rO [iI kind,sl b F.length (UNK+2)] 32))
 have A':=q2.upd (c:=c) hb.2 (some (rO [iI kind,sl b F.length (UNK+2)] 32))
 have gu:=zO h c (some (rO [iI kind,sl b F.length (UNK+2)] 32))
 generalize h.upd c (some (rO [iI kind,sl b F.length (UNK+2)] 32))=hh at fo A' gu
 rw [zi0]
 have la:zDF E 32 (ptr c) hh=some (.agg ⟨[iI kind,sl b F.length (UNK+2)]⟩):=zV (P:=E) zB0 (o:=0) gu (by simp)
 rw [la,zA]
 exact ⟨hex,.inl rfl,hK _ _ ⟨b,rfl,.inr hb.1,A'.wm _,fo.back⟩⟩
theorem Made.out {ex:Ex} {l k:AH} {kind:Int} {F:List (Int×Int)} {v:Value} {h:AH} {c:Nat} {a u:Nat} {K:Value->AH->Prop} (M:Made NoB k kind F v h) (hl:Fx NoB l.fresh k) (hc:l.next<=c) (hck:c<k.next) (g:h.get c=some (rO [iI 0,.slice none 0 0] 32)) (hex:zBt ex=true)
  (hK:∀ x m,Made NoB l kind F x m->K x m) :
  EvO (ze 0 (some v)) fun x4=>EvO (ze 1 (some v)) fun x5=>Ev true (zf E 32 h (some (ptr c)) (some x4)) fun x6=>KR E [.cell a 32,.tmp u] (fun x m=>(zi x=false\/m.wm<l.next)/\K x ⟨m.t,m.next,cond (Nat.ble l.wm m.wm) l.wm m.wm⟩) ex [ptr c,x5] x6.2:=
 M.outP hl (fun b hb=>by have hn:l.next<=k.next:=hl.next;have:=hb.resolve_left fun h=>h;omega) hc g hex hK
theorem zpW {a:Int} {ad:Option Addr} {n c:Nat}:zAo E 32 (some [(0,iI a),(1,.slice ad n c)])=some (.agg ⟨[iI a,.slice ad n c]⟩):=by kernel_rfl
theorem zKH {k:AH} {b:Nat} {kind:Int} {l:List (Int×Int)} (aa:k.ok) (hg:k.get b=some (.row (l.flatMap zH) 54 2 false)) (aB:b<k.next) (hn:l.length<=1000000) (hF:∀ F,zAV F->(∀ p,p∈F ↔ p∈l)->F.length<=200000) :
  Ev true ((zY E).call 108 [iI kind,sl b l.length (UNK+2)] k) fun x=>∃ F,zAV F/\(∀ p,p∈F ↔ p∈l)/\Made (fun c=>c=b) k kind F x.1 x.2:=by
 refine zc6 (Rp:=fun v m=>∃ F,zAV F/\(∀ p,p∈F ↔ p∈l)/\Made (fun c=>c=b) k kind F v m) (zb1 ?_)
 obtain ⟨k1,e1,n1,t1,o1,f1⟩:=nwF k (rO [iI 0,.slice none 0 0] 32)
 have x1:Fx (fun c=>c=b) k.fresh k1:=by rw [← e1];exact (Fx.refl (zAT k)).new _
 simp only [zKb,zg,zK,zT,e1,zb]
 refine zb0 ?_
 simp only [zQ]
 have hsz:l.toArray.size=l.length:=by simp
 refine (zmX (c:=UNK+2) (d:=l.toArray) (cm:=zKC) ((f1 b aB).trans hg) (show b<k1.next by omega) x1.ok (n:=l.length) hsz (by simpa using hn) zmJ swoP).mono ?_
 rintro ⟨v,h2⟩ ⟨d',⟨_,hP,hS⟩,R⟩
 simp only at hP hS R ⊢
 have iG:d'.size=l.length:=by rw [R.sz];exact hsz
 refine zbz ?_
 simp only [zQ]
 refine (zmW (d:=d') R.g R.l iG (by omega)).mono ?_
 rintro ⟨v2,h3⟩ C
 have dO:=C.v
 obtain ⟨rs,aG,gJ⟩:=C.row
 have fx3:=C.fx
 simp only at dO aG fx3 ⊢
 subst dO
 have f3:Fx (fun c=>c=b) k.fresh h3:=(x1.trans R.fx fun c hc=>.inl hc).trans fx3 fun c hc=>.inl hc
 have eO:k1.next<=h2.next:=R.fx.next
 have hnx3:h2.next<=h3.next:=fx3.next
 have g3:h3.get k.next=some (rO [iI 0,.slice none 0 0] 32):=(fx3.get _ (by omega) (by omega)).trans ((R.fx.get _ (by omega) (by omega)).trans t1)
 have st:zAV (dd d' d'.size):=zLX (by rw [iG];rw [← hsz] at hS ⊢;exact hS) _ (Nat.le_refl _)
 have mm:∀ p,p∈dd d' d'.size ↔ p∈l:=fun p=>(zmD d' p).trans ((zdY (by rw [hsz];exact hP) p).trans (by simp))
 have aU:=hF _ st mm
 refine zby ?_
 simp only [sl,zQW,zAK,zA,show decide ((200000:Int)<((dd d' d'.size).length:Int))=false from decide_eq_false (by omega),zj]
 refine zbx ?_
 have s2:=zKL (a:=kind) (v:=sl b (dd d' d'.size).length (UNK+2)) g3 rfl rfl
 simp only [sl] at s2
 simp only [zpW,zA,s2,zK]
 have fu:=f3.upd (.inr (Nat.le_refl _:k.next<=k.next)) (some (rO [iI kind,.slice (some ⟨b,0,none⟩) (dd d' d'.size).length (UNK+2)] 32))
 have gu:=zO h3 k.next (some (rO [iI kind,.slice (some ⟨b,0,none⟩) (dd d' d'.size).length (UNK+2)] 32))
 have gb:(h3.upd k.next (some (rO [iI kind,.slice (some ⟨b,0,none⟩) (dd d' d'.size).length (UNK+2)] 32))).get b=some (.row ((dd d' d'.size).flatMap zH++rs) 54 2 false):=(zW (by omega)).trans aG
 have nu:(h3.upd k.next (some (rO [iI kind,.slice (some ⟨b,0,none⟩) (dd d' d'.size).length (UNK+2)] 32))).next=h3.next:=rfl
 generalize h3.upd k.next (some (rO [iI kind,.slice (some ⟨b,0,none⟩) (dd d' d'.size).length (UNK+2)] 32))=hh at fu gu gb nu
 rw [zi0]
 have la:zDF E 32 (ptr k.next) hh=some (.agg ⟨[iI kind,.slice (some ⟨b,0,none⟩) (dd d' d'.size).length (UNK+2)]⟩):=zV (P:=E) zB0 (o:=0) gu (by simp)
 rw [la,zA]
 exact ⟨zX ▸ trivial,.inl rfl,_,st,mm,b,rfl,.inl rfl,zU5 (b:=b) (zEy gb) (by show b<hh.next;omega) rfl,fu.back⟩
theorem Ac.ne {lo:Nat} {m:AH} {v:Value} {l:List (Int×Int)} (A:Ac lo m v l) (h:l≠[]):∃ b,v=sl b l.length (UNK+2)/\lo<=b/\b<m.next/\m.get b=some (.row (l.flatMap zH) 54 2 false):=A.resolve_left fun e=>h e.1
theorem Ac.blk {lo:Nat} {m:AH} {v:Value} {l:List (Int×Int)} (A:Ac lo m v l) (c:Nat) (hc:zAE v c):lo<=c:=by
 obtain ⟨n,cp,e⟩:=hc
 rcases A with ⟨_,rfl⟩|⟨b,rfl,h1,_⟩
 ·cases e
 ·simp only [Value.slice.injEq,Option.some.injEq,Addr.mk.injEq] at e
  exact e.1.1 ▸ h1
theorem zqH {a b c:Value} {h:AH}:zd E 82 1 (some [(0,.agg ⟨[a,b,c]⟩)]) h=one (.slice (some ⟨h.next,0,none⟩) 1 1,h.new (rO [a,b,c] 25)):=by kernel_rfl
theorem pe0 {a b:Value}:ze 0 (some (.tuple #[a,b]))=some a:=by kernel_rfl
theorem pe1 {a b:Value}:ze 1 (some (.tuple #[a,b]))=some b:=by kernel_rfl
theorem zmV {k:AH} {x:Value} {L:GL} {kind:Int} (aa:k.ok) (hx:RL k x L) (hL:zy L=false) (hk:kind=1\/kind=2) (hn:L.n<=200000) :
  Ev true ((zY E).call 53 [iI kind,x] k) fun y=>Made NoB k kind (idl L.n.toNat) y.1 y.2:=by
 obtain ⟨l1,l2,_,_⟩:=zBX hL
 obtain ⟨vl,ve,elsL,rfl,x2,x3,x4⟩:=id hx.ex
 refine zga (Rp:=fun v m=>Made NoB k kind (idl L.n.toNat) v m) (zfc ?_)
 obtain ⟨k1,e1,n1,t1,o1,f1⟩:=nwF k (rO [iI L.n,vl,ve] 25)
 obtain ⟨k2,e2,n2,t2,o2,f2⟩:=nw o1 (rO [iI 0,.slice none 0 0] 32)
 have x2:Fx NoB k.fresh k2:=by rw [← e2,← e1];exact ((Fx.refl (zAT k)).new _).new _
 simp only [zKb,zg,zK,zT,zA,e1,zb,e2,n1]
 refine zfb ?_
 have ga:∀ h,Fx NoB k2 h->h.get k.next=some (rO [iI L.n,vl,ve] 25):=fun h f=>(f.get _ (by omega) (fun h=>h)).trans ((f2 _ (by omega)).trans t1)
 have la:∀ h,Fx NoB k2 h->zG E 25 h (sP k.next 0)=some (.agg ⟨[iI L.n,vl,ve]⟩):=fun h f=>zV (P:=E) zDe (o:=0) (ga h f) (by simp)
 have ln:∀ h,Fx NoB k2 h->zG E 3 h (sP k.next (0+0))=some (iI L.n):=fun h f=>zF (P:=E) zAb (o:=0) (ga h f)
 obtain ⟨k3,e3,n3,t3,o3,f3⟩:=nw o2 (rO [iI L.n,vl,ve] 25)
 have x3':Fx NoB k2 k3:=by rw [← e3];exact (Fx.refl x2.ok).new _
 have cH:=zUd (h0:=k3) (k:=k3) (v:=.slice (some ⟨k2.next,0,none⟩) 1 1) (els:=[[iI L.n,vl,ve]]) (Ls:=[L])
  (Arr.row (els:=[[iI L.n,vl,ve]]) t3 (by omega) (by simp) (fun i ee aI=>by
   match i with
   | 0=>simp at aI;subst aI;exact ⟨rfl,rfl⟩
   | i+1=>simp at aI)) rfl (by simp) (fun i ee LL h1 h2=>by
   match i with
   | 0=>simp at h1 h2;subst h1 h2;exact hx.ext o3.ext
   | i+1=>simp at h1) (Ext.refl o3.ext.ok)
 have a9:zAI (zII [L]) 1 0=false:=by simp [zAI,zII,hL]
 simp only [List.length_cons,List.length_nil,Nat.zero_add,a9,Bool.false_eq_true,if_false] at cH
 simp only [la k2 (Fx.refl x2.ok),zA,zqH,zK,e3,zQ,cH,zP]
 refine zfa ?_
 simp only [zAp,zA,decide_true,Bool.not_true,zj]
 refine zfZ ?_
 have hm:zDG kind=true:=by rcases hk with rfl|rfl <;> rfl
 simp only [zQ,zUr (a:=kind) o3.ext.ok,hm,zP,z6,zA,Bool.not_true,zj]
 refine zfY ?_
 have hN:L.n=((L.n.toNat:Nat):Int):=by omega
 have c6:=zUq (k:=k3) (kind:=kind) (n:=L.n.toNat) o3.ext.ok (by omega) (by omega)
 rw [← hN] at c6
 simp only [zCD,ln k3 x3',zA,zQ]
 refine c6.mono ?_
 rintro ⟨v,h⟩ ⟨vs,rfl,A,f⟩
 simp only at A f ⊢
 have ah:idl L.n.toNat≠[]:=fun e'=>by have:=congrArg List.length e';rw [zJx] at this;simp at this;omega
 have ff:Fx NoB k2 h:=x3'.trans f fun c hc=>hc.elim
 have g5:h.get (k.next+1)=some (rO [iI 0,.slice none 0 0] 32):=(ff.get _ (by omega) (fun h=>h)).trans (by rw [← n1];exact t2)
 obtain ⟨b,rfl,h1,h2,h3⟩:=A.ne ah
 exact Made.out (l:=k) (k:=k3) (K:=fun v m=>Made NoB k kind (idl L.n.toNat) v m) ⟨b,rfl,.inr h1,A.arr,f⟩ (x2.trans x3' fun c hc=>hc.elim) (by omega) (by omega) g5 (zX ▸ trivial) fun x m h=>h
theorem zlw {kind:Int} {vp:Value} {B:GB} {k:AH} {c:Nat} (he:RB k [iI B.kind,vp] B) (hg:k.get c=some (rO [iI B.kind,vp] 32)) (aN:c<k.next) (aa:k.ok) (hB:zAd B=0) :
  (zY E).call 71 [.slice (some ⟨c,0,none⟩) 1 1] k=some [(iI 0,k)]:=by
 have bF:=zUc (h0:=k) (k:=k) (v:=.slice (some ⟨c,0,none⟩) 1 1) (els:=[[iI B.kind,vp]]) (Bs:=[B])
  (Arr.row (els:=[[iI B.kind,vp]]) hg aN (by simp) (fun i ee aI=>by
   match i with
   | 0=>simp at aI;subst aI;exact ⟨rfl,rfl⟩
   | i+1=>simp at aI)) rfl (by simp) (fun i ee BB h1 h2=>by
   match i with
   | 0=>simp at h1 h2;subst h1 h2;exact he
   | i+1=>simp at h1) (Ext.refl aa)
 have eF:zA4 [B] 1 0=0:=by simp [zA4,zJ9,hB]
 simp only [List.length_cons,List.length_nil,Nat.zero_add,eF] at bF
 exact bF
theorem zmU {k:AH} {e:List Value} {B:GB} (aa:k.ok) (he:RB k e B) (hB:zAd B=0) (ah:B.prs≠[]) (hF:∀ F,zAV F->(∀ p,p∈F ↔ p∈B.prs.map zBP)->F.length<=200000) :
  Ev true ((zY E).call 55 [.agg ⟨e⟩] k) fun y=>∃ F,zAV F/\(∀ p,p∈F ↔ p∈B.prs.map zBP)/\Made NoB k B.kind F y.1 y.2:=by
 obtain ⟨vp,rfl,ap⟩:=id he.ex
 obtain ⟨ad,cp,hv⟩:=ap.slice
 rw [List.length_map] at hv
 have hlen:B.prs.length<=200000:=(zGZ hB).2.1
 refine zgZ (Rp:=fun v m=>∃ F,zAV F/\(∀ p,p∈F ↔ p∈B.prs.map zBP)/\Made NoB k B.kind F v m) (zfX ?_)
 obtain ⟨k1,e1,n1,t1,o1,f1⟩:=nwF k (rO [iI B.kind,vp] 32)
 obtain ⟨k2,e2,n2,t2,o2,f2⟩:=nw o1 (rO [iI 0,.slice none 0 0] 32)
 obtain ⟨k3,e3,n3,t3,o3,f3⟩:=nw o2 (rO [iI B.kind,vp] 32)
 have x3:Fx NoB k.fresh k3:=by rw [← e3,← e2,← e1];exact (((Fx.refl (zAT k)).new _).new _).new _
 have t1':k2.get k.next=some (rO [iI B.kind,vp] 32):=(f2 _ (by omega)).trans t1
 have a1:k3.get k.next=some (rO [iI B.kind,vp] 32):=(f3 _ (by omega)).trans t1'
 have a2:k3.get (k.next+1)=some (rO [iI 0,.slice none 0 0] 32):=(f3 _ (by omega)).trans (by rw [← n1];exact t2)
 simp only [zKb,zg,zK,zT,zA,e1,zb,e2,n1]
 refine zfW ?_
 have la:zG E 32 k2 (sP k.next 0)=some (.agg ⟨[iI B.kind,vp]⟩):=zV (P:=E) zB0 (o:=0) t1' (by simp)
 have bF:=zlw (kind:=0) (he.ext o3.ext) t3 (by omega) o3.ext.ok hB
 have b83:=zqG (a:=iI B.kind) (b:=vp) (h:=k2)
 rw [e3] at b83
 simp only [la,zA,b83,zK,zQ,bF,zP]
 refine zfV ?_
 simp only [zAp,zA,decide_true,Bool.not_true,zj]
 refine zfU (zfT ?_)
 have l1:∀ h,Fx NoB k3 h->zG E 26 h (sP k.next (0+1))=some vp:=fun h f=>zF (P:=E) zFw (o:=0+1) ((f.get _ (by omega) (fun h=>h)).trans a1)
 have lk:∀ h,Fx NoB k3 h->zG E 3 h (sP k.next (0+0))=some (iI B.kind):=fun h f=>zF (P:=E) zAb (o:=0+0) ((f.get _ (by omega) (fun h=>h)).trans a1)
 simp only [zCU,l1 k3 (Fx.refl x3.ok),zA]
 rw [hv]
 simp only [zTn,zA]
 rw [← hv]
 have loop:∀ (m i:Nat),i+m=B.prs.length->∀ h v,Fx NoB k3 h->Ac k3.next h v ((B.prs.take i).map zBP)->
   PI (C55 true) (KR E [.cell 2 32,.tmp 3] fun x m=>(zi x=false\/m.wm<k.next)/\(fun v m=>∃ F,zAV F/\(∀ p,p∈F ↔ p∈B.prs.map zBP)/\Made NoB k B.kind F v m) x ⟨m.t,m.next,cond (Nat.ble k.wm m.wm) k.wm m.wm⟩) 6 [ptr k.next,ptr (k.next+1),v,vp,iI (B.prs.length:Int),iI (i:Int)] h:=by
  intro m
  induction m with
  | zero=>
   intro i hi h v hf A
   have hi:i=B.prs.length:=by omega
   subst hi
   rw [List.take_length] at A
   refine zPX ?_
   simp only [zZ,zA,show decide ((B.prs.length:Int)<(B.prs.length:Int))=false from decide_eq_false (by omega),zj]
   refine zWK ?_
   obtain ⟨b,rfl,h1,h2,h3⟩:=A.ne (by simpa using ah)
   simp only [zGI,lk h hf,zA,zQ]
   refine (zKH (kind:=B.kind) (l:=B.prs.map zBP) hf.ok h3 h2 (by simp;omega) hF).mono ?_
   rintro ⟨v,h4⟩ ⟨F,s1,s2,M⟩
   have M:=M.fx hf fun c hc=>.inr (hc ▸ h1)
   obtain ⟨_,_,_,_,f4⟩:=id M
   simp only at f4 M ⊢
   have g5:h4.get (k.next+1)=some (rO [iI 0,.slice none 0 0] 32):=(f4.get _ (by omega) (fun h=>h)).trans a2
   exact M.out (K:=fun v m=>∃ F,zAV F/\(∀ p,p∈F ↔ p∈B.prs.map zBP)/\Made NoB k B.kind F v m) x3 (by omega) (by omega) g5 (zX ▸ trivial) fun x m h=>⟨F,s1,s2,h⟩
  | succ m ih=>
   intro i hi h v hf A
   have ai:i<B.prs.length:=by omega
   refine zPX ?_
   simp only [zZ,zA,show decide ((i:Int)<(B.prs.length:Int))=true from decide_eq_true (by omega),zz]
   refine zfS ?_
   have dw:(B.prs.map zH)[i]?=some (zH B.prs[i]):=by rw [List.getElem?_map,List.getElem?_eq_getElem ai];rfl
   obtain ⟨p,q1,q2⟩:=zdk ap ((Ext.refl aa).trans ((x3.trans hf fun c hc=>hc.elim).own (Own.fresh k) fun c hc=>hc.elim).ext) dw
   simp only [q1,q2,zdI,zg,zK,zT,zA,zNu]
   refine zfR ?_
   have fn:Fx NoB h ((h.new (rO [iI 0,iI 0] 54)).upd h.next (some (rO (zH B.prs[i]) 54))):=((Fx.refl hf.ok).new _).upd (.inr (Nat.le_refl _)) _
   have gn:=zO (h.new (rO [iI 0,iI 0] 54)) h.next (some (rO (zH B.prs[i]) 54))
   have nn:((h.new (rO [iI 0,iI 0] 54)).upd h.next (some (rO (zH B.prs[i]) 54))).next=h.next+1:=rfl
   generalize (h.new (rO [iI 0,iI 0] 54)).upd h.next (some (rO (zH B.prs[i]) 54))=h1 at fn gn nn
   have m0:zG E 3 h1 (sP h.next (0+0))=some (iI B.prs[i].1):=zF (P:=E) zAb (o:=0+0) gn
   have m1:zG E 3 h1 (sP h.next (0+1))=some (iI B.prs[i].2):=zF (P:=E) zAb (o:=0+1) gn
   have f1:Fx NoB k3 h1:=hf.trans fn fun c hc=>hc.elim
   obtain ⟨h2,v',r1,A1,fx1,bp⟩:=(A.fx fn fun c _ hc=>hc).app f1.ok f1.next (by simp;omega) (zBP B.prs[i])
   have pbs:zAo E 54 (some [(0,iI B.prs[i].2),(1,iI B.prs[i].1)])=some (.agg ⟨zH (zBP B.prs[i])⟩):=pbI
   simp only [zFd,zFc,m0,m1,zA,pbs,zUz,zK,r1]
   refine zfQ ?_
   simp only [zA,zAD _ (zEA ai (by omega))]
   refine ih (i+1) (by omega) h2 v' (f1.trans fx1 fun c hc=>.inr ?_) ?_
   ·exact A.blk c hc
   ·rw [List.take_add_one,List.getElem?_eq_getElem ai,List.map_append]
    exact A1
 exact loop B.prs.length 0 (by omega) k3 (.slice none 0 0) (Fx.refl x3.ok) (.inl ⟨rfl,rfl⟩)
theorem zNz {t e z:Nat} (H:Elt t e z) (hz:0<z) {h:AH} {b c n m o cp:Nat} {vs us ws:List Value} {ty es:Nat} {ro:Bool} (hb:h.get b=some (.row vs e z false)) (bV:vs.length=n*z) (hm:0<m) (hn:n+m<=1000000)
  (hc:h.get c=some (.row ws ty es ro)) (hl:o+m*z<=ws.length) (hu:(ws.drop o).take (m*z)=us) (iT:us.all zq=true) :
  zAH E .append [t,t] (some [.slice (some ⟨b,0,none⟩) n (UNK+z),.slice (some ⟨c,o,none⟩) m cp]) h=one (.slice (some ⟨h.next,0,none⟩) (n+m) (UNK+z),(h.upd b none).new (.row (vs++us) e z false)):=by
 obtain ⟨ti,e1,e2,e3⟩:=H.ti
 show v2 (zAz E [t,t] (.slice (some ⟨b,0,none⟩) n (UNK+z)) (.slice (some ⟨c,o,none⟩) m cp) h)=_
 have hlen:us.length=m*z:=by rw [← hu,List.length_take,List.length_drop];omega
 have gz:Nat.beq m 0=false:=by cases m with|zero=>omega|succ n=>rfl
 simp only [zAz,H.el,H.un,zEw,cond_false,e1,zBx,zA9,hc,e2,zAn,zAt,zAO,hu,hlen,Nat.beq_refl,if_true,e3,cond_true,zBw,gz,hb]
 have h1:Nat.ble UNK (UNK+z)=true:=ble_true.2 (by omega)
 simp only [zCP,h1,Nat.beq_refl,Bool.and_self,Bool.not_false,cond_true,zDY,Nat.zero_add,zAO]
 have h2:Nat.ble ((n+m)*z) vs.length=false:=ble_false.2 (by
  rw [bV,Nat.add_mul]
  have:1*z<=m*z:=Nat.mul_le_mul_right z hm
  omega)
 have h3:Nat.beq (n*z) vs.length=true:=by rw [bV];exact Nat.beq_refl _
 simp only [h2,cond_false,h3,cond_true,zDZ,iT,zAn,zAt,List.drop_zero]
 rw [List.take_of_length_le (by omega)]
 simp only [zAx,ble_true.2 hn,cond_true,v2]
 rfl
theorem zdg (l:List (Int×Int)):(l.flatMap zH).all zq=true:=by
 induction l with
 | nil=>rfl
 | cons a l ih=>rw [List.flatMap_cons,List.all_append,ih];rfl
theorem Gat.app {lo:Nat} {m:AH} {b:Nat} {l l2:List (Int×Int)} {v2:Value} (aa:m.ok) (gG:lo<=b) (hb:b<m.next) (g:m.get b=some (.row (l.flatMap zH) 54 2 false)) (A2:Arr m 2 v2 (l2.map zH)) (ah:l2≠[]) (hn:l.length+l2.length<=1000000) :
  ∃ m',zAH E .append [26,26] (some [sl b l.length (UNK+2),v2]) m=one (sl m.next (l++l2).length (UNK+2),m')/\m'.next=m.next+1/\m'.get m.next=some (.row ((l++l2).flatMap zH) 54 2 false)/\Fx (fun c=>c=b) m m':=by
 generalize hels:l2.map zH=els at A2
 have hlen:els.length=l2.length:=by rw [← hels,List.length_map]
 cases A2 with
 | nil a c=>rw [List.length_nil] at hlen;exact absurd (List.length_eq_zero_iff.1 hlen.symm) ah
 | @row b2 o c vs ty es ro _ aW ab aU hz=>
  have dg:=zKP els o aU hz
  have ez:0<l2.length:=List.length_pos_iff.2 ah
  have hu:(vs.drop o).take (l2.length*2)=l2.flatMap zH:=by rw [← zOr,hels,← dg,hlen]
  refine ⟨_,by rw [hlen,zNz elt26 (by omega) g (zCF l) ez hn aW (by rw [← hlen];exact aU) hu (zdg l2),List.length_append],rfl,?_,((Fx.refl (P:=fun c=>c=b) aa).upd (.inl rfl) none).new _⟩
  rw [List.flatMap_append]
  exact zI (m.upd b none) _
theorem zjB {n:Nat} (h0:0<n) (hn:n<=1000000) (k:AH):(zY E).call 160 [.slice none 0 0,iI (n:Int)] k=some [(sl k.next 0 (UNK+2),k.new (.row [] 54 2 false))]:=by
 refine zKE (P:=E) (fn:=Tryz.f160) (c:=zh Tryz.f160) (by kernel_rfl) (by kernel_rfl) ?_
 show zLK [.slice none 0 0,iI (.ofNat n)] k=_
 simp only [zLK,show Nat.beq n 0=false from by cases n with|zero=>omega|succ n=>rfl,cond_false,ble_true.2 hn,cond_true]
theorem zkE {k:AH} {c:Nat} {v1 v2:Value} {l1 l2:List (Int×Int)} {ty es:Nat} {ro:Bool} (aa:k.ok) (hc:k.get c=some (.row [v1,v2] ty es ro)) (aN:c<k.next) (A1:Arr k 2 v1 (l1.map zH)) (A2:Arr k 2 v2 (l2.map zH)) (h1:l1≠[]) (h2:l2≠[]) (hn:l1.length+l2.length<=1000000) :
  Ev true ((zY E).call 110 [.slice (some ⟨c,0,none⟩) 2 2] k) fun x=>∃ b,x.1=sl b (l1++l2).length (UNK+2)/\k.next<=b/\b<x.2.next/\x.2.get b=some (.row ((l1++l2).flatMap zH) 54 2 false)/\Fx NoB k x.2:=by
 refine zc4 (Rp:=fun v m=>∃ b,v=sl b (l1++l2).length (UNK+2)/\k.next<=b/\b<m.next/\m.get b=some (.row ((l1++l2).flatMap zH) 54 2 false)/\Fx NoB k m) (zbc (zbb (zba ?_)))
 obtain ⟨a1,c1,bk⟩:=A1.slice
 obtain ⟨a2,c2,dO⟩:=A2.slice
 rw [List.length_map] at bk dO
 have c9:0<l1.length:=List.length_pos_iff.2 h1
 have fe:0<l2.length:=List.length_pos_iff.2 h2
 have ld:∀ h,Fx NoB k.fresh h->zG E 26 h (sP c (0+0*1))=some v1/\zG E 26 h (sP c (0+1*1))=some v2:=fun h f=>
  ⟨zF (P:=E) zFw (o:=0+0*1) ((f.get c aN (fun h=>h)).trans hc),zF (P:=E) zFw (o:=0+1*1) ((f.get c aN (fun h=>h)).trans hc)⟩
 have i0:zE E 219 (some (.slice (some ⟨c,0,none⟩) 2 2)) (some (iI 0))=some (.pointer (some ⟨c,0+0*1,none⟩)):=zhg (k:=0) (by omega)
 have i1:zE E 219 (some (.slice (some ⟨c,0,none⟩) 2 2)) (some (iI 1))=some (.pointer (some ⟨c,0+1*1,none⟩)):=zhg (k:=1) (by omega)
 have x0:=Fx.refl (P:=NoB) (zAT k)
 simp only [zQT,zA]
 refine zH3 ?_
 simp only [zZ,zA,show decide ((0:Int)<((2:Nat):Int))=true from rfl,zz]
 refine zMV ?_
 simp only [i0,(ld _ x0).1,zA]
 refine zMU ?_
 simp only [bk,zIi,zA]
 rw [zAD _ (a:=0) (b:=(l1.length:Int)) ⟨by omega,by omega⟩]
 simp only [zA,Int.zero_add]
 refine zMT ?_
 simp only [zZ,zA,show decide ((l1.length:Int)<0)=false from decide_eq_false (by omega),zj]
 refine zMS ?_
 rw [zAD _ (a:=0) (b:=1) ⟨by omega,by omega⟩]
 simp only [zA,Int.zero_add]
 refine zH3 ?_
 simp only [zZ,zA,show decide ((1:Int)<((2:Nat):Int))=true from rfl,zz]
 refine zMV ?_
 simp only [i1,(ld _ x0).2,zA]
 refine zMU ?_
 simp only [dO,zIi,zA]
 rw [zAD _ (a:=(l1.length:Int)) (b:=(l2.length:Int)) ⟨by omega,by omega⟩]
 simp only [zA]
 refine zMT ?_
 simp only [zZ,zA,show decide ((l1.length:Int)+(l2.length:Int)<0)=false from decide_eq_false (by omega),zj]
 refine zMS ?_
 rw [zAD _ (a:=1) (b:=1) ⟨by omega,by omega⟩]
 simp only [zA]
 refine zH3 ?_
 simp only [zZ,zA,show decide ((1:Int)+1<((2:Nat):Int))=false from rfl,zj]
 refine zbZ ?_
 have gr:=zjB (n:=l1.length+l2.length) (by omega) (by omega) k.fresh
 rw [show ((l1.length:Int)+(l2.length:Int))=((l1.length+l2.length:Nat):Int) by omega]
 simp only [zQ,gr,zP]
 refine zRo ?_
 obtain ⟨k1,e1,n1,t1,o1,f1⟩:=nwF k (.row [] 54 2 false)
 have x1:Fx NoB k.fresh k1:=by rw [← e1];exact x0.new _
 simp only [e1,zNI,zA,zb]
 refine zGN ?_
 simp only [zZ,zA,show decide ((0:Int)<((2:Nat):Int))=true from rfl,zz]
 refine zJQ ?_
 simp only [i0,(ld _ x1).1,zA]
 refine zJP ?_
 obtain ⟨m1,q1,q2,q3,q4⟩:=Gat.app (l:=[]) (lo:=k.next) x1.ok (Nat.le_refl _) (by omega) t1 (A1.ext o1.ext) h1 (by simp;omega)
 simp only [List.length_nil] at q1
 simp only [q1,zK]
 refine zJO ?_
 rw [zAD _ (a:=0) (b:=1) ⟨by omega,by omega⟩]
 simp only [zA,Int.zero_add]
 have x2:Fx NoB k.fresh m1:=x1.trans q4 fun c hc=>.inr (by have:c=k.next:=hc;show k.next<=c;omega)
 refine zGN ?_
 simp only [zZ,zA,show decide ((1:Int)<((2:Nat):Int))=true from rfl,zz]
 refine zJQ ?_
 simp only [i1,(ld _ x2).2,zA]
 refine zJP ?_
 obtain ⟨m2,r1,r2,r3,r4⟩:=Gat.app (l:=[]++l1) (lo:=k.next) x2.ok (by omega) (by omega) q3 (A2.ext (x2.own (Own.fresh k) fun c hc=>hc.elim).ext) h2 (by simp;omega)
 simp only [r1,zK]
 refine zJO ?_
 rw [zAD _ (a:=1) (b:=1) ⟨by omega,by omega⟩]
 simp only [zA]
 have x3:Fx NoB k.fresh m2:=x2.trans r4 fun c hc=>.inr (by have:c=k1.next:=hc;show k.next<=c;omega)
 refine zGN ?_
 simp only [zZ,zA,show decide ((1:Int)+1<((2:Nat):Int))=false from rfl,zj]
 refine zRn ?_
 rw [zAS]
 exact ⟨zX ▸ trivial,.inl rfl,m1.next,by simp,by omega,by show m1.next<m2.next;omega,zEy r3,x3.back⟩
theorem zqJ {a b:Option Addr} {n m c d:Nat} {h:AH}:zd E 219 2 (some [(0,.slice a n c),(1,.slice b m d)]) h=one (.slice (some ⟨h.next,0,none⟩) 2 2,h.new (rO [.slice a n c,.slice b m d] 26)):=by kernel_rfl
theorem zpj {a b:Int} {h:AH}:zN E (zk [(16,iI a),(18,iI b)]) (zo B58 [1,1,0] 4) h=some (iI (zDc a b)):=by
 have:zN E (zk [(16,iI a),(18,iI b)]) (zo B58 [1,1,0] 4) h=some (iI (if b > a then b else a)):=by kernel_rfl
 exact this
theorem zme {a b c d:Value} {h:AH}:zd E 83 2 (some [(0,.agg ⟨[a,b]⟩),(1,.agg ⟨[c,d]⟩)]) h=one (.slice (some ⟨h.next,0,none⟩) 2 2,h.new (rO [a,b,c,d] 32)):=by kernel_rfl
theorem zlv {v w:Value} {A B:GB} {k:AH} {c:Nat} (ha:RB k [iI A.kind,v] A) (hb:RB k [iI B.kind,w] B) (hg:k.get c=some (rO [iI A.kind,v,iI B.kind,w] 32)) (aN:c<k.next) (aa:k.ok) (hA:zAd A=0) (hB:zAd B=0) :
  (zY E).call 71 [.slice (some ⟨c,0,none⟩) 2 2] k=some [(iI 0,k)]:=by
 have bF:=zUc (h0:=k) (k:=k) (v:=.slice (some ⟨c,0,none⟩) 2 2) (els:=[[iI A.kind,v],[iI B.kind,w]]) (Bs:=[A,B])
  (Arr.row (els:=[[iI A.kind,v],[iI B.kind,w]]) hg aN (by simp) (fun i ee aI=>by
   match i with
   | 0=>simp at aI;subst aI;exact ⟨rfl,rfl⟩
   | 1=>simp at aI;subst aI;exact ⟨rfl,rfl⟩
   | i+2=>simp at aI)) rfl (by simp) (fun i ee BB h1 h2=>by
   match i with
   | 0=>simp at h1 h2;subst h1 h2;exact ha
   | 1=>simp at h1 h2;subst h1 h2;exact hb
   | i+2=>simp at h1) (Ext.refl aa)
 have eF:zA4 [A,B] 2 0=0:=by simp [zA4,zJ9,hA,hB]
 simp only [List.length_cons,List.length_nil,Nat.zero_add] at bF
 rw [show (1+1:Nat)=2 from rfl,eF] at bF
 exact bF
structure Two (k:AH) (vx vz:Value) (A B:GB) (k3 k4:AH):Prop where
 fx3:Fx NoB k.fresh k3
 fx:Fx NoB k.fresh k4
 n3:k3.next=k.next+3
 n4:k4.next=k.next+4
 a:k4.get k.next=some (rO [iI A.kind,vx] 32)
 b:k4.get (k.next+1)=some (rO [iI B.kind,vz] 32)
 a3:k3.get k.next=some (rO [iI A.kind,vx] 32)
 b3:k3.get (k.next+1)=some (rO [iI B.kind,vz] 32)
 o:k4.get (k.next+2)=some (rO [iI 0,.slice none 0 0] 32)
 bs:zd E 83 2 (some [(0,.agg ⟨[iI A.kind,vx]⟩),(1,.agg ⟨[iI B.kind,vz]⟩)]) k3=one (.slice (some ⟨k3.next,0,none⟩) 2 2,k4)
 ck:(zY E).call 71 [.slice (some ⟨k3.next,0,none⟩) 2 2] k4=some [(iI 0,k4)]
theorem zhN {k:AH} {vx vz:Value} {A B:GB} (aa:k.ok) (ha:RB k [iI A.kind,vx] A) (hb:RB k [iI B.kind,vz] B) (hA:zAd A=0) (hB:zAd B=0) :
  ∃ k3 k4,((k.fresh.new (rO [iI A.kind,vx] 32)).new (rO [iI B.kind,vz] 32)).new (rO [iI 0,.slice none 0 0] 32)=k3/\Two k vx vz A B k3 k4:=by
 obtain ⟨k1,e1,n1,t1,o1,f1⟩:=nwF k (rO [iI A.kind,vx] 32)
 obtain ⟨k2,e2,n2,t2,o2,f2⟩:=nw o1 (rO [iI B.kind,vz] 32)
 obtain ⟨k3,e3,n3,t3,o3,f3⟩:=nw o2 (rO [iI 0,.slice none 0 0] 32)
 obtain ⟨k4,e4,n4,t4,o4,f4⟩:=nw o3 (rO [iI A.kind,vx,iI B.kind,vz] 32)
 have x3:Fx NoB k.fresh k3:=by rw [← e3,← e2,← e1];exact (((Fx.refl (zAT k)).new _).new _).new _
 have x4:Fx NoB k.fresh k4:=by rw [← e4];exact x3.new _
 have b83:=zme (a:=iI A.kind) (b:=vx) (c:=iI B.kind) (d:=vz) (h:=k3)
 rw [e4] at b83
 rw [n1] at t2
 rw [n2,n1] at t3
 have a3:k3.get k.next=some (rO [iI A.kind,vx] 32):=(f3 _ (by omega)).trans ((f2 _ (by omega)).trans t1)
 have b3:k3.get (k.next+1)=some (rO [iI B.kind,vz] 32):=(f3 _ (by omega)).trans t2
 exact ⟨k3,k4,by rw [e1,e2,e3],x3,x4,by omega,by omega,(f4 _ (by omega)).trans a3,(f4 _ (by omega)).trans b3,a3,b3,(f4 _ (by omega)).trans t3,b83,zlv (ha.ext o4.ext) (hb.ext o4.ext) t4 (by omega) o4.ext.ok hA hB⟩
theorem zmR {k:AH} {e e':List Value} {A B:GB} (aa:k.ok) (ha:RB k e A) (hb:RB k e' B) (hA:zAd A=0) (hB:zAd B=0) (h1:A.prs≠[]) (h2:B.prs≠[]) (hF:∀ F,zAV F->(∀ p,p∈F ↔ p∈A.prs++B.prs)->F.length<=200000) :
  Ev true ((zY E).call 58 [.agg ⟨e⟩,.agg ⟨e'⟩] k) fun y=>∃ F,zAV F/\(∀ p,p∈F ↔ p∈A.prs++B.prs)/\Made NoB k (zDc A.kind B.kind) F y.1 y.2:=by
 obtain ⟨vx,rfl,ax⟩:=id ha.ex
 obtain ⟨vz,rfl,az⟩:=id hb.ex
 obtain ⟨xa,xc,gc⟩:=ax.slice
 obtain ⟨za,zc,iy⟩:=az.slice
 have lA:=(zGZ hA).2.1
 have lB:=(zGZ hB).2.1
 refine zgW (Rp:=fun v m=>∃ F,zAV F/\(∀ p,p∈F ↔ p∈A.prs++B.prs)/\Made NoB k (zDc A.kind B.kind) F v m) (zfF ?_)
 obtain ⟨k3,k4,e3,T⟩:=zhN aa ha hb hA hB
 have n3:=T.n3
 have n4:=T.n4
 simp only [zKb,zg,zK,zT,zA,zb,AH.next_new,e3]
 refine zfE ?_
 have la:zG E 32 k3 (sP k.next 0)=some (.agg ⟨[iI A.kind,vx]⟩):=zV (P:=E) zB0 (o:=0) T.a3 (by simp)
 have lb:zG E 32 k3 (some (.pointer (some ⟨k.next+1,0,none⟩)))=some (.agg ⟨[iI B.kind,vz]⟩):=zV (P:=E) zB0 (o:=0) T.b3 (by simp)
 simp only [la,lb,zA,T.bs,zK,zQ,T.ck,zP]
 refine zfD ?_
 simp only [zAp,zA,decide_true,Bool.not_true,zj]
 refine zfC ?_
 have ga:∀ h,Fx NoB k4 h->h.get k.next=some (rO [iI A.kind,vx] 32):=fun h f=>(f.get _ (by omega) (fun h=>h)).trans T.a
 have gb:∀ h,Fx NoB k4 h->h.get (k.next+1)=some (rO [iI B.kind,vz] 32):=fun h f=>(f.get _ (by omega) (fun h=>h)).trans T.b
 have la0:∀ h,Fx NoB k4 h->zG E 3 h (sP k.next (0+0))=some (iI A.kind):=fun h f=>zF (P:=E) zAb (o:=0+0) (ga h f)
 have la1:∀ h,Fx NoB k4 h->zG E 26 h (sP k.next (0+1))=some vx:=fun h f=>zF (P:=E) zFw (o:=0+1) (ga h f)
 have lb0:∀ h,Fx NoB k4 h->zG E 3 h (some (.pointer (some ⟨k.next+1,0+0,none⟩)))=some (iI B.kind):=fun h f=>zF (P:=E) zAb (o:=0+0) (gb h f)
 have lb1:∀ h,Fx NoB k4 h->zG E 26 h (some (.pointer (some ⟨k.next+1,0+1,none⟩)))=some vz:=fun h f=>zF (P:=E) zFw (o:=0+1) (gb h f)
 have r4:=Fx.refl (P:=NoB) T.fx.ok
 have aW:=zqJ (a:=xa) (n:=(A.prs.map zH).length) (c:=xc) (b:=za) (m:=(B.prs.map zH).length) (d:=zc) (h:=k4)
 rw [← gc,← iy] at aW
 have f5:Fx NoB k4 (k4.new (rO [vx,vz] 26)):=r4.new _
 have t5:=zI k4 (rO [vx,vz] 26)
 have n5:(k4.new (rO [vx,vz] 26)).next=k4.next+1:=rfl
 generalize (k4.new (rO [vx,vz] 26))=k5 at aW f5 t5 n5
 have o5:Ext k k5:=((T.fx.trans f5 fun c hc=>hc.elim).own (Own.fresh k) fun c hc=>hc.elim).ext
 simp only [zGI,zCU,la0 k4 r4,la1 k4 r4,lb0 k4 r4,lb1 k4 r4,zA,zpj,aW,zK,zCm,true_and,la0 k5 f5,lb0 k5 f5,zQ]
 refine (zkE f5.ok t5 (by omega) (ax.ext o5) (az.ext o5) h1 h2 (by omega)).mono ?_
 rintro ⟨v,h⟩ ⟨b,rfl,b1,b2,b3,b4⟩
 simp only at b1 b2 b3 b4 ⊢
 have f6:Fx NoB k4 h:=f5.trans b4 fun c hc=>hc.elim
 simp only [la0 h f6,lb0 h f6,zA,zCm,true_and]
 refine (zKH (kind:=zDc A.kind B.kind) (l:=A.prs++B.prs) f6.ok b3 b2 (by simp;omega) hF).mono ?_
 rintro ⟨v,h4⟩ ⟨F,s1,s2,M⟩
 have M:=M.fx f6 fun c hc=>.inr (by have:c=b:=hc;omega)
 obtain ⟨_,_,_,_,f4⟩:=id M
 simp only at f4 M ⊢
 have g5:h4.get (k.next+2)=some (rO [iI 0,.slice none 0 0] 32):=(f4.get _ (by omega) (fun h=>h)).trans T.o
 exact M.out (K:=fun v m=>∃ F,zAV F/\(∀ p,p∈F ↔ p∈A.prs++B.prs)/\Made NoB k (zDc A.kind B.kind) F v m) T.fx (by omega) (by omega) g5 (zX ▸ trivial) fun x m h=>⟨F,s1,s2,h⟩
def zQe (M:List (Int×Value)):List (Value×Value):=M.map fun p=>(iI p.1,p.2)
def lkV (q:Int):List (Int×Value)->Option Value
 | []=>none
 | p::M=>if q=p.1 then some p.2 else lkV q M
def zhU (q:Int) (v:Value) (M:List (Int×Value)):List (Int×Value):=M.map fun p=>if q=p.1 then (p.1,v) else p
def zQY (q:Int) (v:Value):List (Int×Value)->List (Int×Value)
 | []=>[(q,v)]
 | p::M=>if klt (iI q) (iI p.1) then (q,v)::p::M else p::zQY q v M
def zBl (M:List (Int×Value)):List Int:=M.map (·.1)
theorem zOa {q:Int}:∀ {M:List (Int×Value)},q ∉ zBl M->lkV q M=none
 | [],_=>rfl
 | p::M,h=>by
  simp only [zBl,List.map_cons,List.mem_cons,not_or] at h
  simp only [lkV,if_neg h.1]
  exact zOa h.2
theorem zdp:∀ {M:List (Int×Value)},(zBl M).Nodup->∀ q,zAZ E 3 (iI q) (zQe M)=some (lkV q M)
 | [],_,q=>rfl
 | p::M,h,q=>by
  obtain ⟨h1,h2⟩:=List.nodup_cons.1 (show (p.1::zBl M).Nodup from h)
  have ih:=zdp h2 q
  simp only [zQe,List.map_cons,zAZ,lkV] at ih ⊢
  rw [zTx,ih]
  by_cases e:q=p.1
  ·subst e
   simp [zOa h1]
  ·simp [e]
theorem zOK {q:Int} {v:Value}:∀ M:List (Int×Value),zBY E 3 (iI q) v (zQe M)=some (zQe (zhU q v M))
 | []=>rfl
 | p::M=>by
  have ih:=zOK (q:=q) (v:=v) M
  simp only [zQe,List.map_cons,zBY,zhU] at ih ⊢
  rw [zTx,ih]
  by_cases e:q=p.1
  ·subst e
   simp [zCm]
  ·simp [e]
theorem zOi {q:Int} {v:Value}:∀ M:List (Int×Value),zAy (iI q) v (zQe M)=zQe (zQY q v M)
 | []=>rfl
 | p::M=>by
  have:=zOi (q:=q) (v:=v) M
  simp only [zQe,List.map_cons,zAy,zQY] at this ⊢
  split
  ·rfl
  ·rw [this];rfl
theorem zS7 {q:Int} {v:Value} (M:List (Int×Value)):zBl (zhU q v M)=zBl M:=by
 simp only [zBl,zhU,List.map_map]
 refine List.map_congr_left fun p _=>?_
 simp only [Function.comp_apply]
 split <;> rfl
theorem zLG {q:Int} {v:Value}:∀ M:List (Int×Value),∀ x,x∈zBl (zQY q v M) ↔ x=q\/x∈zBl M
 | [],x=>by simp [zBl,zQY]
 | p::M,x=>by
  have ih:=zLG (q:=q) (v:=v) M x
  simp only [zQY]
  split
  ·simp [zBl]
  ·simp only [zBl,List.map_cons,List.mem_cons] at ih ⊢
   rw [ih]
   constructor
   ·rintro (h|h|h) <;> simp [h]
   ·rintro (h|h|h) <;> simp [h]
theorem zIm {q:Int} {v:Value}:∀ {M:List (Int×Value)},(zBl M).Nodup->q ∉ zBl M->(zBl (zQY q v M)).Nodup
 | [],_,_=>by simp [zBl,zQY]
 | p::M,h,hq=>by
  obtain ⟨h1,h2⟩:=List.nodup_cons.1 (show (p.1::zBl M).Nodup from h)
  have eY:q≠p.1/\q ∉ zBl M:=by simpa [zBl] using hq
  simp only [zQY]
  split
  ·exact List.nodup_cons.2 ⟨hq,h⟩
  ·refine List.nodup_cons.2 ⟨fun hm=>?_,zIm h2 eY.2⟩
   rcases (zLG M p.1).1 hm with e|e
   ·exact eY.1 e.symm
   ·exact h1 e
theorem zS6 {q:Int} {v:Value} (x:Int):∀ M:List (Int×Value),lkV x (zhU q v M)=if x=q then (lkV x M).map fun _=>v else lkV x M
 | []=>by simp [zhU,lkV]
 | p::M=>by
  have ih:=zS6 (q:=q) (v:=v) x M
  simp only [zhU,List.map_cons] at ih ⊢
  by_cases e:q=p.1
  ·rw [if_pos e]
   simp only [lkV]
   by_cases h:x=p.1
   ·simp [h,e]
   ·simp only [if_neg h,ih]
  ·rw [if_neg e]
   simp only [lkV]
   by_cases h:x=p.1
   ·simp only [if_pos h];rw [if_neg (by omega)]
   ·simp only [if_neg h,ih]
theorem zT4 {q:Int} {v:Value} (x:Int):∀ M:List (Int×Value),q ∉ zBl M->lkV x (zQY q v M)=if x=q then some v else lkV x M
 | [],_=>by simp [zQY,lkV]
 | p::M,hq=>by
  have eY:q≠p.1/\q ∉ zBl M:=by simpa [zBl] using hq
  have ih:=zT4 (q:=q) (v:=v) x M eY.2
  simp only [zQY]
  split
  ·simp only [lkV]
  ·simp only [lkV,ih]
   by_cases h:x=p.1
   ·simp only [if_pos h];rw [if_neg (by omega)]
   ·simp only [if_neg h]
theorem ziw:zMx E 125=some (3,47):=by kernel_rfl
theorem zTb {h:AH} {m ver:Nat} {M:List (Int×Value)} (hm:h.get m=some (.map (zQe M) ver)) (hM:(zBl M).Nodup) (q:Int) :
  zBI E 125 false (some (.map (some m))) (some (iI q)) h=some ((lkV q M).getD (.slice none 0 0)):=by
 simp only [zBI,zF4,ziw,zEK,hm,zLF,cond_true,zdp hM]
 cases lkV q M with
 | none=>simp [zFh,z_47,okV]
 | some v=>simp [zFh,okV]
theorem zlE {h:AH} {m ver:Nat} {M:List (Int×Value)} (hm:h.get m=some (.map (zQe M) ver)) (hM:(zBl M).Nodup) (q:Int) (v:Value) :
  ∃ M',zAP E 125 (some (.map (some m))) (some (iI q)) (some v) h=one (undef,h.upd m (some (.map (zQe M') (ver+1))))/\(zBl M').Nodup/\∀ x,lkV x M'=if x=q then some v else lkV x M:=by
 have dg:zi (iI q)=true:=rfl
 cases hl:lkV q M with
 | none=>
  have hq:q ∉ zBl M:=fun hq=>by
   have:∀ M:List (Int×Value),q∈zBl M->lkV q M≠none:=by
    intro M
    induction M with
    | nil=>intro h;cases h
    | cons p M ih=>
     intro h
     simp only [lkV]
     split
     ·simp
     ·rename_i e
      have h:q=p.1\/q∈zBl M:=by simpa [zBl] using h
      exact ih (h.resolve_left e)
   exact this M hq hl
  refine ⟨zQY q v M,?_,zIm hM hq,fun x=>zT4 x M hq⟩
  simp only [zAP,zBA,ziw,hm,zLF,dg,Bool.and_self,cond_true,zB5,zdp hM,hl,zOi,u1]
 | some w=>
  refine ⟨zhU q v M,?_,by rw [zS7];exact hM,fun x=>?_⟩
  ·simp only [zAP,zBA,ziw,hm,zLF,dg,Bool.and_self,cond_true,zB5,zdp hM,hl,zOK,u1]
  ·rw [zS6]
   by_cases e:x=q
   ·simp [e,hl]
   ·simp [e]
structure MI (lo:Nat) (h:AH) (m:Nat) (f:Int->List Int):Prop where
 ex:∃ M ver,h.get m=some (.map (zQe M) ver)/\(zBl M).Nodup/\(∀ q,IS lo h ((lkV q M).getD (.slice none 0 0)) (f q))/\∀ q q' b,q≠q'->zAE ((lkV q M).getD (.slice none 0 0)) b->¬ zAE ((lkV q' M).getD (.slice none 0 0)) b
def zm4 (f:Int->List Int) (q u:Int):Int->List Int:=fun x=>if x=q then f x++[u] else f x
theorem MI.add {lo:Nat} {h0 h:AH} {m:Nat} {f:Int->List Int} (I0:MI lo h0 m f) (x0:Fx NoB h0 h) (hm:m<lo) (hlo0:lo<=h0.next) {q u:Int} (hn:(f q).length<=999998) :
  ∃ v m1 v' m2,(∀ h',h'.get m=h.get m->zBI E 125 false (some (.map (some m))) (some (iI q)) h'=some v)/\zq v=true/\veq 100 v v=true ∧
   zAH E .append [47,47] (some [v,.slice (some ⟨h.next,0,none⟩) 1 1]) (h.new (rO [iI u] 3))=one (v',m1) ∧
   zAP E 125 (some (.map (some m))) (some (iI q)) (some v') m1=one (undef,m2)/\(∀ b,b<lo\/h0.next<=b->b<h.next->m1.get b=h.get b)/\MI lo m2 m (zm4 f q u)/\Fx (fun c=>c=m\/lo<=c) h m2:=by
 obtain ⟨M,ver,h1,h2,h30,h4⟩:=I0.ex
 have eO:=x0.next
 have gG:lo<=h.next:=Nat.le_trans hlo0 eO
 have h1:h.get m=some (.map (zQe M) ver):=(x0.get m (by omega) (fun h=>h)).trans h1
 have h3:∀ q,IS lo h ((lkV q M).getD (.slice none 0 0)) (f q):=fun q=>(h30 q).mono eO fun b hb _=>x0.get b hb (fun h=>h)
 obtain ⟨m1,a1,a2,a3,a4⟩:=(h3 q).app gG hn u
 have a4:=a4 x0.ok
 have hg:∀ b,b<lo\/h0.next<=b->b<h.next->m1.get b=h.get b:=fun b hb aW=>a4.get b aW fun hk=>by have:=(h30 q).blk hk;omega
 obtain ⟨M',u1,u2,u3⟩:=zlE (v:=.slice (some ⟨h.next+1,0,none⟩) ((f q).length+1) (UNK+1)) ((hg m (.inl hm) (by omega)).trans h1) h2 q
 obtain ⟨sa,sc,hs⟩:=(h3 q).slice
 refine ⟨_,m1,_,_,fun h' e=>zTb (e.trans h1) h2 q,by rw [hs];rfl,by rw [hs];exact zDM _ _ _ _,a1,u1,hg,⟨M',ver+1,zO _ _ _,u2,fun x=>?_,fun x y b du hx hy=>?_⟩,?_⟩
 ·rw [u3]
  by_cases e:x=q
  ·simp only [if_pos e,Option.getD_some,zm4]
   rw [e]
   exact .inr (a2.mono (Nat.le_refl _) fun b hb _ _=>zW (by omega))
  ·simp only [if_neg e,zm4]
   refine (h3 x).mono (by show h.next<=m1.next;omega) fun b hb hk=>?_
   have:=(h3 x).blk hk
   rw [zW (by omega)]
   exact a4.get b hb fun dm=>h4 x q b e hk dm
 ·rw [u3] at hx hy
  have key:∀ z,z≠q->zAE ((lkV z M).getD (.slice none 0 0)) b->b<h.next:=fun z _ hz=>((h3 z).blk hz).2
  have own:zAE (.slice (some ⟨h.next+1,0,none⟩) ((f q).length+1) (UNK+1)) b->b=h.next+1:=fun ⟨n,cp,e⟩=>by
   simp only [Value.slice.injEq,Option.some.injEq,Addr.mk.injEq] at e
   exact e.1.1.symm
  by_cases ex:x=q
  ·have ey:y≠q:=fun e=>du (ex.trans e.symm)
   rw [if_pos ex] at hx
   rw [if_neg ey] at hy
   have:=own hx
   have:=key y ey hy
   omega
  ·rw [if_neg ex] at hx
   by_cases ey:y=q
   ·rw [if_pos ey] at hy
    have:=own hy
    have:=key x ex hx
    omega
   ·rw [if_neg ey] at hy
    exact h4 x y b du hx hy
 ·exact (a4.mono (P':=fun c=>c=m\/lo<=c) fun c hc=>.inl (.inr ((h3 q).blk hc).1)).upd (.inl (.inl rfl)) _
def toL (B:List (Int×Int)) (q:Int):List Int:=(B.filter fun p=>decide (p.1=q)).map (·.2)
def zCb (A B:List (Int×Int)):List (Int×Int):=A.flatMap fun p=>(toL B p.2).map fun u=>(p.1,u)
theorem ziT (B:List (Int×Int)) (p:Int×Int):toL (B++[p])=zm4 (toL B) p.1 p.2:=by
 funext q
 unfold toL zm4
 rw [List.filter_append,List.map_append]
 by_cases h:p.1=q
 ·rw [if_pos h.symm];simp [h]
 ·rw [if_neg (fun e=>h e.symm)];simp [h]
theorem zSl (B:List (Int×Int)) (q:Int):(toL B q).length<=B.length:=by
 unfold toL
 rw [List.length_map]
 exact List.length_filter_le _ _
theorem zJk (A B:List (Int×Int)) (p:Int×Int):zCb (A++[p]) B=zCb A B++(toL B p.2).map fun u=>(p.1,u):=by
 simp [zCb]
theorem zOQ {A B:List (Int×Int)} (i:Nat):(zCb (A.take i) B).length<=(zCb A B).length:=by
 conv=>rhs;rw [← List.take_append_drop i A]
 unfold zCb
 rw [List.flatMap_append,List.length_append]
 omega
theorem zJj {A B:List (Int×Int)} (p:Int×Int):p∈zCb A B ↔ ∃ t,(p.1,t)∈A/\(t,p.2)∈B:=by
 obtain ⟨s,u⟩:=p
 simp only [zCb,toL,List.mem_flatMap,List.mem_map,List.mem_filter,decide_eq_true_eq]
 constructor
 ·rintro ⟨⟨a,t⟩,ha,v,⟨⟨b,c⟩,⟨hb,e⟩,rfl⟩,e2⟩
  simp only at e e2
  simp only [Prod.mk.injEq] at e2
  exact ⟨t,e2.1 ▸ ha,by rw [← e,← e2.2];exact hb⟩
 ·rintro ⟨t,ha,hb⟩
  exact ⟨(s,t),ha,u,⟨(t,u),⟨hb,rfl⟩,rfl⟩,rfl⟩
theorem MI.look {lo:Nat} {h:AH} {m:Nat} {f:Int->List Int} (I:MI lo h m f) (q:Int):∃ v,IS lo h v (f q)/\∀ h',h'.get m=h.get m->zBI E 125 false (some (.map (some m))) (some (iI q)) h'=some v:=by
 obtain ⟨M,ver,h1,h2,h3,h4⟩:=I.ex
 exact ⟨_,h3 q,fun h' e=>zTb (e.trans h1) h2 q⟩
theorem zls {a b:Int} {h:AH}:zN E (zk [(81,iI a),(83,iI b)]) (zo zPi [1,1,1,1,1,1,1,0] 4) h=some (iI (zDc a b)):=by
 have:zN E (zk [(81,iI a),(83,iI b)]) (zo zPi [1,1,1,1,1,1,1,0] 4) h=some (iI (if b > a then b else a)):=by kernel_rfl
 exact this
theorem zFL {l:List (Int×Int)} {i:Nat} (h:i<l.length):l.take (i+1)=l.take i++[l[i]]:=by
 rw [List.take_add_one,List.getElem?_eq_getElem h];rfl
theorem zUp {k:AH} {e e':List Value} {A B:GB} (aa:k.ok) (ha:RB k e A) (hb:RB k e' B) (hA:A.prs.length<=200000) (hB:B.prs.length<=200000) (hO:(zCb A.prs B.prs).length<=999000) (ah:zCb A.prs B.prs≠[]) (hF:∀ F,zAV F->(∀ p,p∈F ↔ p∈zCb A.prs B.prs)->F.length<=200000) :
  Ev true ((zY E).call 109 [.agg ⟨e⟩,.agg ⟨e'⟩] k) fun y=>∃ F,zAV F/\(∀ p,p∈F ↔ p∈zCb A.prs B.prs)/\Made NoB k (zDc A.kind B.kind) F y.1 y.2:=by
 obtain ⟨vx,rfl,ax⟩:=id ha.ex
 obtain ⟨vz,rfl,az⟩:=id hb.ex
 obtain ⟨xa,xc,gc⟩:=ax.slice
 obtain ⟨za,zc,iy⟩:=az.slice
 rw [List.length_map] at gc iy
 refine zc5 (Rp:=fun v m=>∃ F,zAV F/\(∀ p,p∈F ↔ p∈zCb A.prs B.prs)/\Made NoB k (zDc A.kind B.kind) F v m) (zbw ?_)
 obtain ⟨k1,e1,n1,t1,o1,f1⟩:=nwF k (rO [iI A.kind,vx] 32)
 obtain ⟨k2,e2,n2,t2,o2,f2⟩:=nw o1 (rO [iI B.kind,vz] 32)
 obtain ⟨k3,e3,n3,t3,o3,f3⟩:=nw o2 (rO [iI 0,.slice none 0 0] 32)
 obtain ⟨k4,e4,n4,t4,o4,f4⟩:=nw o3 (.map [] 0)
 rw [n1] at t2
 rw [n2,n1] at t3
 rw [show k3.next=k.next+3 by omega] at t4
 have x4:Fx NoB k.fresh k4:=by rw [← e4,← e3,← e2,← e1];exact ((((Fx.refl (zAT k)).new _).new _).new _).new _
 have gA4:k4.get k.next=some (rO [iI A.kind,vx] 32):=(f4 _ (by omega)).trans ((f3 _ (by omega)).trans ((f2 _ (by omega)).trans t1))
 have gB4:k4.get (k.next+1)=some (rO [iI B.kind,vz] 32):=(f4 _ (by omega)).trans ((f3 _ (by omega)).trans t2)
 have gO4:k4.get (k.next+2)=some (rO [iI 0,.slice none 0 0] 32):=(f4 _ (by omega)).trans t3
 simp only [zKb,zg,zK,zT,zA,zb,AH.next_new,e1,e2,n1,e3]
 refine zbv ?_
 simp only [zK,e4,show k3.next=k.next+3 by omega]
 have xx:∀ h,Fx (fun c=>c=k.next+3) k4 h->Fx NoB k.fresh h:=fun h f=>x4.trans f fun c hc=>.inr (by have:c=k.next+3:=hc;show k.next<=c;omega)
 have ex:∀ h,Fx (fun c=>c=k.next+3) k4 h->Ext k h:=fun h f=>((xx h f).own (Own.fresh k) fun c hc=>hc.elim).ext
 have gA:∀ h,Fx (fun c=>c=k.next+3) k4 h->h.get k.next=some (rO [iI A.kind,vx] 32):=fun h f=>(f.get _ (by omega) (by omega)).trans gA4
 have gB:∀ h,Fx (fun c=>c=k.next+3) k4 h->h.get (k.next+1)=some (rO [iI B.kind,vz] 32):=fun h f=>(f.get _ (by omega) (by omega)).trans gB4
 have gO:∀ h,Fx (fun c=>c=k.next+3) k4 h->h.get (k.next+2)=some (rO [iI 0,.slice none 0 0] 32):=fun h f=>(f.get _ (by omega) (by omega)).trans gO4
 have lA0:∀ h,Fx (fun c=>c=k.next+3) k4 h->zG E 3 h (sP k.next (0+0))=some (iI A.kind):=fun h f=>zF (P:=E) zAb (o:=0+0) (gA h f)
 have lA1:∀ h,Fx (fun c=>c=k.next+3) k4 h->zG E 26 h (sP k.next (0+1))=some vx:=fun h f=>zF (P:=E) zFw (o:=0+1) (gA h f)
 have lB0:∀ h,Fx (fun c=>c=k.next+3) k4 h->zG E 3 h (some (.pointer (some ⟨k.next+1,0+0,none⟩)))=some (iI B.kind):=fun h f=>zF (P:=E) zAb (o:=0+0) (gB h f)
 have lB1:∀ h,Fx (fun c=>c=k.next+3) k4 h->zG E 26 h (some (.pointer (some ⟨k.next+1,0+1,none⟩)))=some vz:=fun h f=>zF (P:=E) zFw (o:=0+1) (gB h f)
 generalize hK:(KR E [.cell 4 32,.tmp 5] fun x m=>(zi x=false\/m.wm<k.next)/\(fun v m=>∃ F,zAV F/\(∀ p,p∈F ↔ p∈zCb A.prs B.prs)/\Made NoB k (zDc A.kind B.kind) F v m) x ⟨m.t,m.next,cond (Nat.ble k.wm m.wm) k.wm m.wm⟩)=K
 have hnx4:k4.next=k.next+4:=by omega
 have fin:∀ kL h v,Fx (fun c=>c=k.next+3) k4 kL->Fx NoB kL h->Ac kL.next h v (zCb A.prs B.prs)->PI (zBm true) K 25 [ptr k.next,ptr (k.next+1),ptr (k.next+2),v] h:=by
  intro kL h v fL f Ac1
  have fh:Fx (fun c=>c=k.next+3) k4 h:=fL.trans f fun c hc=>hc.elim
  refine zRp ?_
  obtain ⟨b,rfl,b1,b2,b3⟩:=Ac1.ne ah
  simp only [zGI,lA0 h fh,lB0 h fh,zA,zls,zQ]
  have hL4:=fL.next
  refine (zKH (kind:=zDc A.kind B.kind) (l:=zCb A.prs B.prs) f.ok b3 b2 (by omega) hF).mono ?_
  rintro ⟨v,h4⟩ ⟨F,s1,s2,M⟩
  obtain ⟨bb,q1,q2,q3,f4⟩:=id M
  simp only at f4 M ⊢
  have f5:Fx (fun c=>c=k.next+3) k4 h4:=fh.trans f4 fun c hc=>.inr (by have:c=b:=hc;omega)
  have hhn:=(xx h fh).next
  rw [← hK]
  exact M.outP (K:=fun v m=>∃ F,zAV F/\(∀ p,p∈F ↔ p∈zCb A.prs B.prs)/\Made NoB k (zDc A.kind B.kind) F v m) (xx h fh) (fun c hc=>by have:=fh.next;have e:k.fresh.next=k.next:=rfl;rcases hc with h|h <;> omega) (by omega) (gO h4 f5) (zX ▸ trivial) fun x m h=>⟨F,s1,s2,h⟩
 have iR:k.next+3<k4.next:=by omega
 have bx:∀ h (p:Int×Int),h.ok->∃ h1,(h.new (rO [iI 0,iI 0] 54)).upd h.next (some (rO (zH p) 54))=h1/\Fx NoB h h1/\h1.get h.next=some (rO (zH p) 54)/\h1.next=h.next+1:=fun h p hk=>
  ⟨_,rfl,((Fx.refl hk).new _).upd (.inr (Nat.le_refl _)) _,zO _ _ _,rfl⟩
 have b0:∀ (h:AH) (b:Nat) (p:Int×Int),h.get b=some (rO (zH p) 54)->zG E 3 h (sP b (0+0))=some (iI p.1):=fun h b p g=>zF (P:=E) zAb (o:=0+0) g
 have b1:∀ (h:AH) (b:Nat) (p:Int×Int),h.get b=some (rO (zH p) 54)->zG E 3 h (sP b (0+1))=some (iI p.2):=fun h b p g=>zF (P:=E) zAb (o:=0+1) g
 have loop3:∀ kL,Fx (fun c=>c=k.next+3) k4 kL->MI k4.next kL (k.next+3) (toL B.prs)->∀ mm i,i+mm=A.prs.length->∀ h v,Fx NoB kL h->Ac kL.next h v (zCb (A.prs.take i) B.prs)->
   PI (zBm true) K 17 [ptr k.next,ptr (k.next+1),ptr (k.next+2),.map (some (k.next+3)),v,vx,iI (A.prs.length:Int),iI (i:Int)] h:=by
  intro kL fL IL mm
  have hL4:=fL.next
  have gm:∀ h,Fx NoB kL h->h.get (k.next+3)=kL.get (k.next+3):=fun h f=>f.get _ (by omega) (fun h=>h)
  induction mm with
  | zero=>
   intro i hi h v f A1
   have hi:i=A.prs.length:=by omega
   subst hi
   refine zJS ?_
   simp only [zZ,zA,show decide ((A.prs.length:Int)<(A.prs.length:Int))=false from decide_eq_false (by omega),zj]
   rw [List.take_length] at A1
   exact fin kL h v fL f A1
  | succ mm ih=>
   intro i hi h v f A1
   have ai:i<A.prs.length:=by omega
   have fh:Fx (fun c=>c=k.next+3) k4 h:=fL.trans f fun c hc=>hc.elim
   refine zJS ?_
   simp only [zZ,zA,show decide ((i:Int)<(A.prs.length:Int))=true from decide_eq_true (by omega),zz]
   refine zRv ?_
   have dw:(A.prs.map zH)[i]?=some (zH A.prs[i]):=by rw [List.getElem?_map,List.getElem?_eq_getElem ai];rfl
   obtain ⟨p,q1,q2⟩:=zdk ax (ex h fh) dw
   obtain ⟨h1,e1,f1,g1,n1⟩:=bx h A.prs[i] f.ok
   simp only [q1,q2,zdI,zg,zK,zT,zA,zNu,e1]
   refine zRu ?_
   have f2:Fx NoB kL h1:=f.trans f1 fun c hc=>hc.elim
   obtain ⟨w,I1,I2⟩:=IL.look A.prs[i].2
   obtain ⟨wa,wc,hw⟩:=I1.slice
   simp only [zFc,b1 h1 h.next _ g1,zA,I2 h1 (gm h1 f2)]
   rw [hw]
   simp only [zNJ,zA]
   rw [← hw]
   have hpre:=zOQ (A:=A.prs) (B:=B.prs) (i+1)
   rw [zFL ai,zJk,List.length_append,List.length_map] at hpre
   have inner:∀ mj j,j+mj=(toL B.prs A.prs[i].2).length->∀ h v,Fx NoB kL h->Ac kL.next h v (zCb (A.prs.take i) B.prs++((toL B.prs A.prs[i].2).take j).map fun u=>(A.prs[i].1,u))->∀ b14,h.get b14=some (rO (zH A.prs[i]) 54)->b14<h.next->(∀ c,zAE v c->c≠b14)->
     PI (zBm true) K 20 [ptr k.next,ptr (k.next+1),ptr (k.next+2),.map (some (k.next+3)),v,ptr b14,vx,iI (A.prs.length:Int),iI (i:Int),w,iI ((toL B.prs A.prs[i].2).length:Int),iI (j:Int)] h:=by
    intro mj
    induction mj with
    | zero=>
     intro j hj h v f A1 b14 g14 l14 s14
     have hj:j=(toL B.prs A.prs[i].2).length:=by omega
     subst hj
     rw [List.take_length,← zJk,← zFL ai] at A1
     refine zJR ?_
     simp only [zZ,zA,show decide (((toL B.prs A.prs[i].2).length:Int)<((toL B.prs A.prs[i].2).length:Int))=false from decide_eq_false (by omega),zj]
     refine zRq ?_
     simp only [zA,zAD _ (zEA ai (by omega))]
     exact ih (i+1) (by omega) h v f A1
    | succ mj ihj=>
     intro j hj h v f A1 b14 g14 l14 s14
     have bG:j<(toL B.prs A.prs[i].2).length:=by omega
     refine zJR ?_
     simp only [zZ,zA,show decide ((j:Int)<((toL B.prs A.prs[i].2).length:Int))=true from decide_eq_true (by omega),zz]
     refine zRt ?_
     obtain ⟨pw,r1,r2⟩:=zqB (I1.arr) f.ext0 (List.getElem?_eq_getElem bG)
     simp only [r1,r2,zA]
     refine zRs ?_
     have hbd:(zCb (A.prs.take i) B.prs++((toL B.prs A.prs[i].2).take j).map fun u=>(A.prs[i].1,u)).length+1<=1000000:=by
      rw [List.length_append,List.length_map,List.length_take];omega
     obtain ⟨h2,v',s1,A2,fx2,aW⟩:=A1.app f.ok f.next hbd (A.prs[i].1,(toL B.prs A.prs[i].2)[j])
     have eQ:=f.next
     simp only [zFd,b0 h b14 _ g14,zA,pbI,zUz,zK,s1]
     refine zRr ?_
     simp only [zA,zAD _ (zEA bG (by have:=zSl B.prs A.prs[i].2;omega))]
     refine ihj (j+1) (by omega) h2 v' (f.trans fx2 fun c hc=>.inr (A1.blk c hc)) ?_ b14 ((fx2.get b14 l14 fun hc=>s14 _ hc rfl).trans g14) (Nat.lt_of_lt_of_le l14 fx2.next) fun c hc=>by have:=aW c hc;omega
     rw [List.take_add_one,List.getElem?_eq_getElem bG,List.map_append,← List.append_assoc]
     exact A2
   refine inner _ 0 (Nat.zero_add _) h1 v f2 ?_ h.next g1 (by omega) fun c hc e=>?_
   ·rw [List.take_zero,List.map_nil,List.append_nil]
    exact A1.fx f1 fun c _ hc=>hc
   ·obtain ⟨n,cp,e'⟩:=hc
    rcases A1 with ⟨_,e2⟩|⟨b,e2,_,e4,_⟩
    ·rw [e2] at e';cases e'
    ·rw [e2] at e'
     simp only [Value.slice.injEq,Option.some.injEq,Addr.mk.injEq] at e'
     omega
 have loop2:∀ kL,Fx (fun c=>c=k.next+3) k4 kL->MI k4.next kL (k.next+3) (toL B.prs)->∀ mm i,i+mm=A.prs.length->∀ h,Fx NoB kL h->
   PI (zBm true) K 9 [ptr k.next,ptr (k.next+1),ptr (k.next+2),.map (some (k.next+3)),iI ((zCb (A.prs.take i) B.prs).length:Int),vx,iI (A.prs.length:Int),iI (i:Int)] h:=by
  intro kL fL IL mm
  have hL4:=fL.next
  have gm:∀ h,Fx NoB kL h->h.get (k.next+3)=kL.get (k.next+3):=fun h f=>f.get _ (by omega) (fun h=>h)
  induction mm with
  | zero=>
   intro i hi h f
   have hi:i=A.prs.length:=by omega
   subst hi
   have fh:Fx (fun c=>c=k.next+3) k4 h:=fL.trans f fun c hc=>hc.elim
   refine zMY ?_
   simp only [zZ,zA,show decide ((A.prs.length:Int)<(A.prs.length:Int))=false from decide_eq_false (by omega),zj]
   refine zRx (zRw ?_)
   simp only [zCU,lA1 h fh,zA]
   rw [gc]
   simp only [zNK,zA]
   rw [← gc]
   exact loop3 kL fL IL A.prs.length 0 (by omega) h (.slice none 0 0) f (.inl ⟨rfl,rfl⟩)
  | succ mm ih=>
   intro i hi h f
   have ai:i<A.prs.length:=by omega
   have fh:Fx (fun c=>c=k.next+3) k4 h:=fL.trans f fun c hc=>hc.elim
   refine zMY ?_
   simp only [zZ,zA,show decide ((i:Int)<(A.prs.length:Int))=true from decide_eq_true (by omega),zz]
   refine zR1 ?_
   have dw:(A.prs.map zH)[i]?=some (zH A.prs[i]):=by rw [List.getElem?_map,List.getElem?_eq_getElem ai];rfl
   obtain ⟨p,q1,q2⟩:=zdk ax (ex h fh) dw
   obtain ⟨h1,e1,f1,g1,n1⟩:=bx h A.prs[i] f.ok
   simp only [q1,q2,zdI,zg,zK,zT,zA,zNu,e1]
   refine zR0 ?_
   have f2:Fx NoB kL h1:=f.trans f1 fun c hc=>hc.elim
   obtain ⟨w,I1,I2⟩:=IL.look A.prs[i].2
   obtain ⟨wa,wc,hw⟩:=I1.slice
   simp only [zFc,b1 h1 h.next _ g1,zA,I2 h1 (gm h1 f2)]
   rw [hw]
   have hpre:=zOQ (A:=A.prs) (B:=B.prs) (i+1)
   have hlen:(zCb (A.prs.take (i+1)) B.prs).length=(zCb (A.prs.take i) B.prs).length+(toL B.prs A.prs[i].2).length:=by
    rw [zFL ai,zJk,List.length_append,List.length_map]
   simp only [zNL,zA]
   rw [zAD _ (show zC3 _ from ⟨by omega,by omega⟩)]
   rw [show ((zCb (A.prs.take i) B.prs).length:Int)+((toL B.prs A.prs[i].2).length:Int)=((zCb (A.prs.take (i+1)) B.prs).length:Int) by omega]
   simp only [zA]
   refine zRz ?_
   simp only [zAK,zA,show decide ((2000000:Int)<((zCb (A.prs.take (i+1)) B.prs).length:Int))=false from decide_eq_false (by omega),zj]
   refine zRy ?_
   simp only [zA,zAD _ (zEA ai (by omega))]
   exact ih (i+1) (by omega) h1 f2
 have loop1:∀ mm i,i+mm=B.prs.length->∀ h,Fx (fun c=>c=k.next+3) k4 h->MI k4.next h (k.next+3) (toL (B.prs.take i))->
   PI (zBm true) K 3 [ptr k.next,ptr (k.next+1),ptr (k.next+2),.map (some (k.next+3)),vz,iI (B.prs.length:Int),iI (i:Int)] h:=by
  intro mm
  induction mm with
  | zero=>
   intro i hi h f I
   have hi:i=B.prs.length:=by omega
   subst hi
   rw [List.take_length] at I
   refine zMZ ?_
   simp only [zZ,zA,show decide ((B.prs.length:Int)<(B.prs.length:Int))=false from decide_eq_false (by omega),zj]
   refine zbq (zbp ?_)
   simp only [zCU,lA1 h f,zA]
   rw [gc]
   simp only [zQU,zA]
   rw [← gc]
   exact loop2 h f I A.prs.length 0 (by omega) h (Fx.refl f.ok)
  | succ mm ih=>
   intro i hi h f I
   have ai:i<B.prs.length:=by omega
   refine zMZ ?_
   simp only [zZ,zA,show decide ((i:Int)<(B.prs.length:Int))=true from decide_eq_true (by omega),zz]
   refine zbt ?_
   have dw:(B.prs.map zH)[i]?=some (zH B.prs[i]):=by rw [List.getElem?_map,List.getElem?_eq_getElem ai];rfl
   obtain ⟨p,q1,q2⟩:=zdk az (ex h f) dw
   obtain ⟨h1,e1,f1,g1,n1⟩:=bx h B.prs[i] f.ok
   simp only [q1,q2,zdI,zg,zK,zT,zA,zNu,e1]
   refine zbs ?_
   have eQ:=f.next
   obtain ⟨v,m1,v',m2,a1,a2,a3,a4,a5,a6,a7,a8⟩:=I.add (q:=B.prs[i].1) (u:=B.prs[i].2) f1 (by omega) eQ (by have:=zSl (B.prs.take i) B.prs[i].1;have:=List.length_take_le i B.prs;omega)
   have hg5:(h1.new (.row [iI B.prs[i].2] 3 0 false)).get h.next=some (rO (zH B.prs[i]) 54):=(zL (by omega)).trans g1
   have hg6:m1.get h.next=some (rO (zH B.prs[i]) 54):=(a6 _ (.inr (Nat.le_refl _)) (by omega)).trans g1
   have hgm:h1.get (k.next+3)=h.get (k.next+3):=f1.get _ (by omega) (fun h=>h)
   have hgm':(h1.new (.row [iI B.prs[i].2] 3 0 false)).get (k.next+3)=h1.get (k.next+3):=zL (by omega)
   simp only [zFd,zFc,b0 h1 h.next _ g1,b1 h1 h.next _ g1,zA,a1 h1 rfl,zmg,zK,a1 _ hgm',b0 _ h.next _ hg5,a3,zCm,true_and,a4,b0 m1 h.next _ hg6,a5]
   refine zbr ?_
   simp only [zA,zAD _ (zEA ai (by omega))]
   refine ih (i+1) (by omega) m2 ?_ ?_
   ·exact (f.trans f1 fun c hc=>hc.elim).trans a8 fun c hc=>by rcases hc with h|h;exact .inl h;exact .inr h
   ·rw [zFL ai,ziT]
    exact a7
 refine zbu ?_
 have r4:Fx (fun c=>c=k.next+3) k4 k4:=Fx.refl x4.ok
 simp only [zCU,lB1 k4 r4,zA]
 rw [iy]
 simp only [zQV,zA]
 rw [← iy]
 exact loop1 B.prs.length 0 (by omega) k4 r4 ⟨[],0,t4,List.nodup_nil,fun q=>.inl ⟨rfl,rfl⟩,fun q q' b _ h=>by obtain ⟨n,c,e⟩:=h;cases e⟩
theorem zmT {k:AH} {e e':List Value} {A B:GB} (aa:k.ok) (ha:RB k e A) (hb:RB k e' B) (hA:zAd A=0) (hB:zAd B=0) (hO:(zCb A.prs B.prs).length<=999000) (ah:zCb A.prs B.prs≠[]) (hF:∀ F,zAV F->(∀ p,p∈F ↔ p∈zCb A.prs B.prs)->F.length<=200000) :
  Ev true ((zY E).call 56 [.agg ⟨e⟩,.agg ⟨e'⟩] k) fun y=>∃ F,zAV F/\(∀ p,p∈F ↔ p∈zCb A.prs B.prs)/\Made NoB k (zDc A.kind B.kind) F y.1 y.2:=by
 obtain ⟨vx,rfl,ax⟩:=id ha.ex
 obtain ⟨vz,rfl,az⟩:=id hb.ex
 have lA:=(zGZ hA).2.1
 have lB:=(zGZ hB).2.1
 refine zgY (Rp:=fun v m=>∃ F,zAV F/\(∀ p,p∈F ↔ p∈zCb A.prs B.prs)/\Made NoB k (zDc A.kind B.kind) F v m) (zfP ?_)
 obtain ⟨k3,k4,e3,T⟩:=zhN aa ha hb hA hB
 have n3:=T.n3
 have n4:=T.n4
 simp only [zKb,zg,zK,zT,zA,zb,AH.next_new,e3]
 refine zfO ?_
 have la:zG E 32 k3 (sP k.next 0)=some (.agg ⟨[iI A.kind,vx]⟩):=zV (P:=E) zB0 (o:=0) T.a3 (by simp)
 have lb:zG E 32 k3 (some (.pointer (some ⟨k.next+1,0,none⟩)))=some (.agg ⟨[iI B.kind,vz]⟩):=zV (P:=E) zB0 (o:=0) T.b3 (by simp)
 have la4:zG E 32 k4 (sP k.next 0)=some (.agg ⟨[iI A.kind,vx]⟩):=zV (P:=E) zB0 (o:=0) T.a (by simp)
 have lb4:zG E 32 k4 (some (.pointer (some ⟨k.next+1,0,none⟩)))=some (.agg ⟨[iI B.kind,vz]⟩):=zV (P:=E) zB0 (o:=0) T.b (by simp)
 simp only [la,lb,zA,T.bs,zK,zQ,T.ck,zP]
 refine zfN ?_
 simp only [zAp,zA,decide_true,Bool.not_true,zj]
 refine zfM ?_
 simp only [la4,lb4,zA,zQ]
 have o4:Ext k k4:=(T.fx.own (Own.fresh k) fun c hc=>hc.elim).ext
 refine (zUp T.fx.ok (ha.ext o4) (hb.ext o4) lA lB hO ah hF).mono ?_
 rintro ⟨v,h4⟩ ⟨F,s1,s2,M⟩
 obtain ⟨_,_,_,_,f4⟩:=id M
 simp only at f4 M ⊢
 have g5:h4.get (k.next+2)=some (rO [iI 0,.slice none 0 0] 32):=(f4.get _ (by omega) (fun h=>h)).trans T.o
 exact M.out (K:=fun v m=>∃ F,zAV F/\(∀ p,p∈F ↔ p∈zCb A.prs B.prs)/\Made NoB k (zDc A.kind B.kind) F v m) T.fx (by omega) (by omega) g5 (zX ▸ trivial) fun x m h=>⟨F,s1,s2,h⟩
def zkd (k:AH) (kind:Int) (F:List (Int×Int)) (v:Value) (m:AH):Prop:=∃ b,v=.tuple #[.agg ⟨[iI kind,sl b F.length (UNK+2)]⟩,iI 2,iI 0]/\k.next<=b/\Arr m 2 (sl b F.length (UNK+2)) (F.map zH)/\Fx NoB k m
theorem zl0 {t a u w:Nat} {Rp:Value->AH->Prop} {ex:Ex} {v x y:Value} {h:AH}:KR E [.cell a t,.tmp u,.tmp w] Rp ex [v,x,y] h=(zBt ex=true/\EvO (zDF E t v h) fun z=>Rp (.tuple #[z,x,y]) h):=by
 simp only [KR,zGj]
 cases zDF E t v h with
 | none=>simp only [zJ8]
 | some z=>simp only [zA,zdV]
theorem zmS {k:AH} {c0 c1:Nat} {a1 a2 b1 b2 d1 d2 vx vz:Value} {L M N:GL} {A B:GB} (aa:k.ok) (g0:k.get c0=some (rO [iI L.n,a1,a2,iI M.n,b1,b2,iI N.n,d1,d2] 25)) (fS:c0<k.next) (g1:k.get c1=some (rO [iI A.kind,vx,iI B.kind,vz] 32)) (hc1:c1<k.next)
  (hL:RL k (.agg ⟨[iI L.n,a1,a2]⟩) L) (hM:RL k (.agg ⟨[iI M.n,b1,b2]⟩) M) (hN:RL k (.agg ⟨[iI N.n,d1,d2]⟩) N) (ha:RB k [iI A.kind,vx] A) (hb:RB k [iI B.kind,vz] B) (bL:zy L=false) (bM:zy M=false) (bN:zy N=false) (hA:zAd A=0) (hB:zAd B=0) (rA:zMq L M A=true) (rB:zMq M N B=true) (hn:L.n<=200000) (hneA:A.prs≠[]) (hFA:∀ F,zAV F->(∀ p,p∈F ↔ p∈A.prs)->F.length<=200000)
  (hO:∀ F:List (Int×Int),zAV F->(∀ p,p∈F ↔ p∈A.prs)->(zCb F B.prs).length<=999000) (ah:zCb A.prs B.prs≠[]) (hF:∀ F,zAV F->(∀ p,p∈F ↔ p∈zCb A.prs B.prs)->F.length<=200000) :
  Ev true ((zY E).call 57 [.slice (some ⟨c0,0,none⟩) 3 3,.slice (some ⟨c1,0,none⟩) 2 2] k) fun y=>∃ F,zAV F/\(∀ p,p∈F ↔ p∈zCb A.prs B.prs)/\zkd k (zDc A.kind B.kind) F y.1 y.2:=by
 refine zgX (Rp:=fun v m=>∃ F,zAV F/\(∀ p,p∈F ↔ p∈zCb A.prs B.prs)/\zkd k (zDc A.kind B.kind) F v m) (zfL ?_)
 obtain ⟨vl,ve,elsL,c9,fe,ie,hl4⟩:=id hL.ex
 obtain ⟨k1,e1,n1,t1,o1,f1⟩:=nwF k (rO [iI 0,.slice none 0 0] 32)
 have x1:Fx NoB k.fresh k1:=by rw [← e1];exact (Fx.refl (zAT k)).new _
 simp only [zKb,zg,zK,zT,zA,zb,e1]
 refine zfK ?_
 have ex:∀ h,Fx NoB k.fresh h->Ext k h:=fun h f=>(f.own (Own.fresh k) fun c hc=>hc.elim).ext
 have gc0:∀ h,Fx NoB k.fresh h->h.get c0=some (rO [iI L.n,a1,a2,iI M.n,b1,b2,iI N.n,d1,d2] 25):=fun h f=>(f.get _ fS (fun h=>h)).trans g0
 have gc1:∀ h,Fx NoB k.fresh h->h.get c1=some (rO [iI A.kind,vx,iI B.kind,vz] 32):=fun h f=>(f.get _ hc1 (fun h=>h)).trans g1
 have cH:=zUd (h0:=k1) (k:=k1) (v:=.slice (some ⟨c0,0,none⟩) 3 3) (els:=[[iI L.n,a1,a2],[iI M.n,b1,b2],[iI N.n,d1,d2]]) (Ls:=[L,M,N])
  (Arr.row (els:=[[iI L.n,a1,a2],[iI M.n,b1,b2],[iI N.n,d1,d2]]) (gc0 k1 x1) (by omega) (by simp) (fun i ee aI=>by
   match i with
   | 0=>simp at aI;subst aI;exact ⟨rfl,rfl⟩
   | 1=>simp at aI;subst aI;exact ⟨rfl,rfl⟩
   | 2=>simp at aI;subst aI;exact ⟨rfl,rfl⟩
   | i+3=>simp at aI)) rfl (by simp) (fun i ee LL h1 h2=>by
   match i with
   | 0=>simp at h1 h2;subst h1 h2;exact hL.ext o1.ext
   | 1=>simp at h1 h2;subst h1 h2;exact hM.ext o1.ext
   | 2=>simp at h1 h2;subst h1 h2;exact hN.ext o1.ext
   | i+3=>simp at h1) (Ext.refl o1.ext.ok)
 have a9:zAI (zII [L,M,N]) 3 0=false:=by simp [zAI,zII,bL,bM,bN]
 simp only [List.length_cons,List.length_nil,Nat.zero_add] at cH
 rw [show (1+1+1:Nat)=3 from rfl,a9] at cH
 simp only [Bool.false_eq_true,if_false] at cH
 simp only [zQ,cH,zP]
 refine zfJ ?_
 simp only [zAp,zA,decide_true,Bool.not_true,zj]
 refine zfI ?_
 have am:=zGf (P:=E) 3 (a:=((3:Nat):Int)) (b:=1) ⟨by omega,by omega⟩
 simp only [zTm,zA,zZ,show decide (((3:Nat):Int)<1)=false from rfl,zM,beq_self_eq_true,cond_true,cond_false,zTl,zAK,show decide ((20:Int)<((3:Nat):Int))=false from rfl,zJ,zQB,zQA,am,zAp,show decide (((2:Nat):Int)=((3:Nat):Int)-1)=true from rfl,Bool.not_true,zj]
 refine zfH ?_
 simp only [zTk,zA]
 generalize hK:(KR E [.cell 4 32,.tmp 5,.tmp 6] fun x m=>(zi x=false\/m.wm<k.next)/\(fun v m=>∃ F,zAV F/\(∀ p,p∈F ↔ p∈zCb A.prs B.prs)/\zkd k (zDc A.kind B.kind) F v m) x ⟨m.t,m.next,cond (Nat.ble k.wm m.wm) k.wm m.wm⟩)=K
 have i0:zE E 83 (some (.slice (some ⟨c1,0,none⟩) 2 2)) (some (iI 0))=some (.pointer (some ⟨c1,0+0*2,none⟩)):=zi7 (k:=0) (by omega)
 have i1:zE E 83 (some (.slice (some ⟨c1,0,none⟩) 2 2)) (some (iI 1))=some (.pointer (some ⟨c1,0+1*2,none⟩)):=zi7 (k:=1) (by omega)
 have j0:zE E 82 (some (.slice (some ⟨c0,0,none⟩) 3 3)) (some (iI 0))=some (.pointer (some ⟨c0,0+0*3,none⟩)):=zNQ (k:=0) (by omega)
 have j1:zE E 82 (some (.slice (some ⟨c0,0,none⟩) 3 3)) (some (iI 1))=some (.pointer (some ⟨c0,0+1*3,none⟩)):=zNQ (k:=1) (by omega)
 have j2:zE E 82 (some (.slice (some ⟨c0,0,none⟩) 3 3)) (some (iI 2))=some (.pointer (some ⟨c0,0+2*3,none⟩)):=zNQ (k:=2) (by omega)
 have lx:∀ h,Fx NoB k.fresh h->zG E 32 h (sP c1 (0+0*2))=some (.agg ⟨[iI A.kind,vx]⟩):=fun h f=>zV (P:=E) zB0 (o:=0+0*2) (gc1 h f) (by simp)
 have lz:∀ h,Fx NoB k.fresh h->zG E 32 h (sP c1 (0+1*2))=some (.agg ⟨[iI B.kind,vz]⟩):=fun h f=>zV (P:=E) zB0 (o:=0+1*2) (gc1 h f) (by simp)
 have ll:∀ h,Fx NoB k.fresh h->zG E 25 h (sP c0 (0+0*3))=some (.agg ⟨[iI L.n,a1,a2]⟩):=fun h f=>zV (P:=E) zDe (o:=0+0*3) (gc0 h f) (by simp)
 have lm:∀ h,Fx NoB k.fresh h->zG E 25 h (sP c0 (0+1*3))=some (.agg ⟨[iI M.n,b1,b2]⟩):=fun h f=>zV (P:=E) zDe (o:=0+1*3) (gc0 h f) (by simp)
 have ln:∀ h,Fx NoB k.fresh h->zG E 25 h (sP c0 (0+2*3))=some (.agg ⟨[iI N.n,d1,d2]⟩):=fun h f=>zV (P:=E) zDe (o:=0+2*3) (gc0 h f) (by simp)
 have ln0:∀ h,Fx NoB k.fresh h->zG E 3 h (sP c0 (0+0*3+0))=some (iI L.n):=fun h f=>zF (P:=E) zAb (o:=0+0*3+0) (gc0 h f)
 have vxl:zq vx=true:=by obtain ⟨_,hv,hA⟩:=ha.ex;obtain ⟨x,c,e⟩:=hA.slice;simp only [List.cons.injEq] at hv;rw [hv.2.1,e];rfl
 have vzl:zq vz=true:=by obtain ⟨_,hv,hA⟩:=hb.ex;obtain ⟨x,c,e⟩:=hA.slice;simp only [List.cons.injEq] at hv;rw [hv.2.1,e];rfl
 have bx:∀ (h:AH) (q:Int) (w:Value),h.ok->zq w=true->∃ h1,Ev true (zf E 32 (h.new (rO [iI 0,.slice none 0 0] 32)) (sP h.next 0) (some (.agg ⟨[iI q,w]⟩))) (fun x=>x=(undef,h1))/\Fx NoB h h1/\h1.get h.next=some (rO [iI q,w] 32)/\h1.next=h.next+1:=fun h q w hk hw=>
  ⟨_,by rw [zKL (zI h _) rfl hw,zK],((Fx.refl hk).new _).upd (.inr (Nat.le_refl _)) _,zO _ _ _,rfl⟩
 have chk:∀ (i:Int) (p q:Value) (X Y:Value) (L' M':GL) (q':Int) (w:Value) (C:GB),C.kind=q'->RL k X L'->RL k Y M'->RB k [iI q',w] C->zy L'=false->zy M'=false->zAd C=0->zMq L' M' C=true->zq w=true->
   zC3 (i+1)->zE E 82 (some (.slice (some ⟨c0,0,none⟩) 3 3)) (some (iI i))=some p->zE E 82 (some (.slice (some ⟨c0,0,none⟩) 3 3)) (some (iI (i+1)))=some q->
   (∀ h,Fx NoB k.fresh h->zG E 25 h (some p)=some X)->(∀ h,Fx NoB k.fresh h->zG E 25 h (some q)=some Y)->∀ h b9,Fx NoB k.fresh h->h.get b9=some (rO [iI q',w] 32)->b9<h.next->
   (∀ h',Fx NoB h h'->PI (C57 true) K 11 [.slice (some ⟨c0,0,none⟩) 3 3,.slice (some ⟨c1,0,none⟩) 2 2,ptr k.next,.slice (some ⟨c1,0,none⟩) 2 2,iI ((2:Nat):Int),iI i] h')->
   PI (C57 true) K 9 [.slice (some ⟨c0,0,none⟩) 3 3,.slice (some ⟨c1,0,none⟩) 2 2,ptr k.next,iI i,ptr b9,.slice (some ⟨c1,0,none⟩) 2 2,iI ((2:Nat):Int),iI i] h:=by
  intro i p q X Y L' M' q' w C hq hX hY hC bp aW hl hr hw hi hp hp2 hpX hpY h b9 f g9 hb9 H
  subst hq
  refine zfG ?_
  have l9:zG E 32 h (sP b9 0)=some (.agg ⟨[iI C.kind,w]⟩):=zV (P:=E) zB0 (o:=0) g9 (by simp)
  have b83:=zqG (a:=iI C.kind) (b:=w) (h:=h)
  have fn:Fx NoB h (h.new (rO [iI C.kind,w] 32)):=(Fx.refl f.ok).new _
  have gn:=zI h (rO [iI C.kind,w] 32)
  have nn:(h.new (rO [iI C.kind,w] 32)).next=h.next+1:=rfl
  generalize h.new (rO [iI C.kind,w] 32)=h1 at b83 fn gn nn
  have f1:Fx NoB k.fresh h1:=f.trans fn fun c hc=>hc.elim
  have g9':=(fn.get b9 hb9 (fun h=>h)).trans g9
  have l9':zG E 32 h1 (sP b9 0)=some (.agg ⟨[iI C.kind,w]⟩):=zV (P:=E) zB0 (o:=0) g9' (by simp)
  have bF:=zlw (kind:=0) (hC.ext (ex h1 f1)) gn (by omega) f1.ok hl
  have hc72:=zhs (k:=h1) f1.ok (hX.ext (ex h1 f1)) (hY.ext (ex h1 f1)) bp aW (hC.ext (ex h1 f1)) hl
  simp only [l9,b83,zK,zA,zQ,bF,zP,zAp,decide_true,Bool.not_true,zM,zU,beq_self_eq_true,cond_true,cond_false,hp,hpX h1 f1,zAD _ hi,hp2,hpY h1 f1,l9',hc72,hr,z6,zJ,zj]
  exact H h1 fn
 refine zKU ?_
 simp only [zZ,zA,show decide ((0:Int)<((2:Nat):Int))=true from rfl,zz]
 refine zPW ?_
 obtain ⟨h1,s1,f1',g1',n1'⟩:=bx k1 A.kind vx x1.ok vxl
 simp only [i0,lx k1 x1,zA,zKb,zg,zK,zT]
 refine s1.mono ?_
 rintro _ rfl
 have y1:Fx NoB k.fresh h1:=x1.trans f1' fun c hc=>hc.elim
 refine chk 0 _ _ _ _ L M _ _ A rfl hL hM ha bL bM hA rA vxl ⟨by omega,by omega⟩ j0 j1 ll lm h1 k1.next y1 g1' (by omega) fun h2 f2=>?_
 have y2:Fx NoB k.fresh h2:=y1.trans f2 fun c hc=>hc.elim
 refine zLo ?_
 rw [zAD _ (a:=0) (b:=1) ⟨by omega,by omega⟩]
 simp only [zA,Int.zero_add]
 refine zKU ?_
 simp only [zZ,zA,show decide ((1:Int)<((2:Nat):Int))=true from rfl,zz]
 refine zPW ?_
 obtain ⟨h3,s3,f3',g3',n3'⟩:=bx h2 B.kind vz y2.ok vzl
 simp only [i1,lz h2 y2,zA,zKb,zg,zK,zT]
 refine s3.mono ?_
 rintro _ rfl
 have y3:Fx NoB k.fresh h3:=y2.trans f3' fun c hc=>hc.elim
 refine chk 1 _ _ _ _ M N _ _ B rfl hM hN hb bM bN hB rB vzl ⟨by omega,by omega⟩ j1 j2 lm ln h3 h2.next y3 g3' (by omega) fun h4 f4=>?_
 have y4:Fx NoB k.fresh h4:=y3.trans f4 fun c hc=>hc.elim
 refine zLo ?_
 rw [zAD _ (a:=1) (b:=1) ⟨by omega,by omega⟩]
 simp only [zA]
 refine zKU ?_
 simp only [zZ,zA,show decide ((1:Int)+1<((2:Nat):Int))=false from rfl,zj]
 refine zWJ ?_
 have hN0:L.n=((L.n.toNat:Nat):Int):=by obtain ⟨l1,l2,_⟩:=zBX bL;omega
 have c6:=zUq (k:=h4) (kind:=1) (n:=L.n.toNat) y4.ok (by obtain ⟨l1,l2,_⟩:=zBX bL;omega) (by omega)
 rw [← hN0] at c6
 simp only [j0,zCD,ln0 h4 y4,zA,zQ]
 refine c6.mono ?_
 rintro ⟨v,h5⟩ ⟨vs,rfl,A5,f5⟩
 simp only at A5 f5 ⊢
 have y5:Fx NoB k.fresh h5:=y4.trans f5 fun c hc=>hc.elim
 obtain ⟨h6,s6,f6',g6',n6'⟩:=bx h5 1 vs y5.ok A5.leaf.1
 simp only [pe0,pe1,zA,zKb,zg,zK,zT]
 refine s6.mono ?_
 rintro _ rfl
 have y6:Fx NoB k.fresh h6:=y5.trans f6' fun c hc=>hc.elim
 have dM:k1.next<=h5.next:=by have:=f5.next;have:=f4.next;have:=f2.next;omega
 refine zWI ?_
 simp only [zQD,zA]
 refine zHw ?_
 simp only [zZ,zA,show decide ((0:Int)<((2:Nat):Int))=true from rfl,zz]
 refine zLn ?_
 obtain ⟨h7,s7,f7',g7',n7'⟩:=bx h6 A.kind vx y6.ok vxl
 simp only [i0,lx h6 y6,zA,zKb,zg,zK,zT]
 refine s7.mono ?_
 rintro _ rfl
 have y7:Fx NoB k.fresh h7:=y6.trans f7' fun c hc=>hc.elim
 refine zLm ?_
 simp only [zAg,zA,decide_true,zz]
 refine zWH ?_
 have ax:Arr k 2 vx (A.prs.map zH):=by obtain ⟨_,hv,hA⟩:=ha.ex;simp only [List.cons.injEq] at hv;rw [hv.2.1];exact hA
 have lA:=(zGZ hA).2.1
 have m0:∀ h,Fx NoB h7 h->zG E 3 h (sP h6.next (0+0))=some (iI A.kind):=fun h f=>zF (P:=E) zAb (o:=0+0) ((f.get _ (by omega) (fun h=>h)).trans g7')
 have m1:zG E 26 h7 (sP h6.next (0+1))=some vx:=zF (P:=E) zFw (o:=0+1) g7'
 simp only [zGI,zCU,m0 h7 (Fx.refl y7.ok),m1,zA,zQ]
 refine (zmY y7.ok (ax.ext (ex h7 y7)) hneA (by omega)).mono ?_
 rintro ⟨v,h8⟩ ⟨b,rfl,q1,q2,q3,f8⟩
 simp only at q1 q2 q3 f8 ⊢
 have y8:Fx NoB k.fresh h8:=y7.trans f8 fun c hc=>hc.elim
 simp only [m0 h8 f8,zA,zCm,true_and]
 refine (zKH (kind:=A.kind) (l:=A.prs) y8.ok q3 q2 (by omega) hFA).mono ?_
 rintro ⟨v,h9⟩ ⟨F1,s1,s2,b9,rfl,r1,r2,r3⟩
 simp only at r1 r2 r3 ⊢
 have y9:Fx NoB k.fresh h9:=y8.trans r3 fun c hc=>.inr (by have:c=b:=hc;have:k.fresh.next<=h7.next:=y7.next;omega)
 have hb9:h7.next<=b9:=by have:=f8.next;rcases r1 with h|h <;> omega
 have hb7:h5.next<h7.next:=by omega
 have n89:h8.next<=h9.next:=r3.next
 have n78:h7.next<=h8.next:=f8.next
 have g10:h9.get h5.next=some (rO [iI 1,vs] 32):=(r3.get _ (by omega) (by omega)).trans ((f8.get _ (by omega) (fun h=>h)).trans ((f7'.get _ (by omega) (fun h=>h)).trans g6'))
 have st:=zKL (a:=A.kind) (v:=sl b9 F1.length (UNK+2)) g10 rfl rfl
 simp only [pe0,pe1,zA,st,zK]
 have y10:=y9.upd (b:=h5.next) (.inr (by have:k.fresh.next<=h5.next:=y5.next;exact this)) (some (rO [iI A.kind,sl b9 F1.length (UNK+2)] 32))
 have tr:∀ {a b c:AH},Fx NoB a b->Fx NoB b c->Fx NoB a c:=fun f g=>f.trans g fun c hc=>hc.elim
 have z9:Fx NoB k1 h9:=(tr (tr (tr (tr (tr (tr (tr f1' f2) f3') f4) f5) f6') f7') f8).trans r3 fun c hc=>.inr (by have:c=b:=hc;omega)
 have z10:=z9.upd (b:=h5.next) (.inr dM) (some (rO [iI A.kind,sl b9 F1.length (UNK+2)] 32))
 have ar10:=r2.upd (c:=h5.next) (by omega) (some (rO [iI A.kind,sl b9 F1.length (UNK+2)] 32))
 have g11:=zO h9 h5.next (some (rO [iI A.kind,sl b9 F1.length (UNK+2)] 32))
 have n10:(h9.upd h5.next (some (rO [iI A.kind,sl b9 F1.length (UNK+2)] 32))).next=h9.next:=rfl
 generalize h9.upd h5.next (some (rO [iI A.kind,sl b9 F1.length (UNK+2)] 32))=h10 at y10 z10 ar10 g11 n10
 refine zLl ?_
 simp only [zAp,zA,decide_true,Bool.not_true,zj]
 refine zLk ?_
 rw [zAD _ (a:=0) (b:=1) ⟨by omega,by omega⟩]
 simp only [zA,Int.zero_add]
 refine zHw ?_
 simp only [zZ,zA,show decide ((1:Int)<((2:Nat):Int))=true from rfl,zz]
 refine zLn ?_
 obtain ⟨eR,s11,f11',g11',n11'⟩:=bx h10 B.kind vz y10.ok vzl
 simp only [i1,lz h10 y10,zA,zKb,zg,zK,zT]
 refine s11.mono ?_
 rintro _ rfl
 have y11:Fx NoB k.fresh eR:=y10.trans f11' fun c hc=>hc.elim
 refine zLm ?_
 simp only [zAg,zA,show decide ((1:Int)=0)=false from rfl,zj]
 refine zWG ?_
 have g12:eR.get h5.next=some (rO [iI A.kind,sl b9 F1.length (UNK+2)] 32):=(f11'.get _ (by omega) (fun h=>h)).trans g11
 have l10:zG E 32 eR (sP h5.next 0)=some (.agg ⟨[iI A.kind,sl b9 F1.length (UNK+2)]⟩):=zV (P:=E) zB0 (o:=0) g12 (by simp)
 have l13:zG E 32 eR (sP h10.next 0)=some (.agg ⟨[iI B.kind,vz]⟩):=zV (P:=E) zB0 (o:=0) g11' (by simp)
 simp only [l10,l13,zA,zQ]
 have rb1:RB eR [iI (⟨A.kind,F1⟩:GB).kind,sl b9 F1.length (UNK+2)] ⟨A.kind,F1⟩:=⟨_,rfl,ar10.ext f11'.ext0⟩
 have om:∀ p,p∈zCb F1 B.prs ↔ p∈zCb A.prs B.prs:=fun p=>by
  rw [zJj,zJj]
  exact ⟨fun ⟨t,h1,h2⟩=>⟨t,(s2 _).1 h1,h2⟩,fun ⟨t,h1,h2⟩=>⟨t,(s2 _).2 h1,h2⟩⟩
 have one:zCb F1 B.prs≠[]:=fun e=>by
  obtain ⟨p,hp⟩:=List.exists_mem_of_ne_nil _ ah
  have:=(om p).2 hp
  rw [e] at this
  cases this
 refine (zUp (A:=⟨A.kind,F1⟩) (B:=B) y11.ok rb1 (hb.ext (ex eR y11)) (hFA F1 s1 s2) (zGZ hB).2.1 (hO F1 s1 s2) one (fun F h1 h2=>hF F h1 fun p=>(h2 p).trans (om p))).mono ?_
 rintro ⟨v,fW⟩ ⟨F2,u1,u2,b12,rfl,w1,w2,w3⟩
 simp only at w1 w2 w3 ⊢
 have y12:Fx NoB k.fresh fW:=y11.trans w3 fun c hc=>hc.elim
 have g13:fW.get h5.next=some (rO [iI A.kind,sl b9 F1.length (UNK+2)] 32):=(w3.get _ (by omega) (fun h=>h)).trans g12
 have st:=zKL (a:=zDc A.kind B.kind) (v:=sl b12 F2.length (UNK+2)) g13 rfl rfl
 simp only [pe0,pe1,zA,st,zK]
 have hb12:eR.next<=b12:=w1.resolve_left fun h=>h
 have y13:=y12.upd (b:=h5.next) (.inr (by have:k.fresh.next<=h5.next:=y5.next;exact this)) (some (rO [iI (zDc A.kind B.kind),sl b12 F2.length (UNK+2)] 32))
 have ar13:=w2.upd (c:=h5.next) (by omega) (some (rO [iI (zDc A.kind B.kind),sl b12 F2.length (UNK+2)] 32))
 have g14:=zO fW h5.next (some (rO [iI (zDc A.kind B.kind),sl b12 F2.length (UNK+2)] 32))
 have n12:=w3.next
 have gk:fW.get k.next=some (rO [iI 0,.slice none 0 0] 32):=by
  exact ((tr (tr z10 f11') w3).get k.next (by omega) (fun h=>h)).trans t1
 have gk':(fW.upd h5.next (some (rO [iI (zDc A.kind B.kind),sl b12 F2.length (UNK+2)] 32))).get k.next=some (rO [iI 0,.slice none 0 0] 32):=(zW (by omega)).trans gk
 generalize fW.upd h5.next (some (rO [iI (zDc A.kind B.kind),sl b12 F2.length (UNK+2)] 32))=fV at y13 ar13 g14 gk'
 refine zLl ?_
 simp only [zAp,zA,decide_true,Bool.not_true,zj]
 refine zLk ?_
 rw [zAD _ (a:=1) (b:=1) ⟨by omega,by omega⟩]
 simp only [zA]
 refine zHw ?_
 simp only [zZ,zA,show decide ((1:Int)+1<((2:Nat):Int))=false from rfl,zj]
 refine zWF ?_
 have l14:zG E 32 fV (sP h5.next 0)=some (.agg ⟨[iI (zDc A.kind B.kind),sl b12 F2.length (UNK+2)]⟩):=zV (P:=E) zB0 (o:=0) g14 (by simp)
 have st:=zKL (a:=zDc A.kind B.kind) (v:=sl b12 F2.length (UNK+2)) gk' rfl rfl
 simp only [l14,zQC,zA,st,zK]
 have y14:=y13.upd (b:=k.next) (.inr (Nat.le_refl _)) (some (rO [iI (zDc A.kind B.kind),sl b12 F2.length (UNK+2)] 32))
 have ar14:=ar13.upd (c:=k.next) (by omega) (some (rO [iI (zDc A.kind B.kind),sl b12 F2.length (UNK+2)] 32))
 have g15:=zO fV k.next (some (rO [iI (zDc A.kind B.kind),sl b12 F2.length (UNK+2)] 32))
 generalize fV.upd k.next (some (rO [iI (zDc A.kind B.kind),sl b12 F2.length (UNK+2)] 32))=ir at y14 ar14 g15
 rw [← hK,zl0]
 have la:zDF E 32 (ptr k.next) ir=some (.agg ⟨[iI (zDc A.kind B.kind),sl b12 F2.length (UNK+2)]⟩):=zV (P:=E) zB0 (o:=0) g15 (by simp)
 rw [la,zA]
 exact ⟨zX ▸ trivial,.inl rfl,F2,u1,fun p=>(u2 p).trans (om p),b12,rfl,by omega,ar14.wm _,y14.back⟩
end Go.Proofs
namespace Go.Proofs
open Go Go.AM
set_option maxRecDepth 100000
set_option maxHeartbeats 1000000
abbrev zTv (Q:Prop) (k:AH):KF:=KR E [.tmp 2] (fun x l=>(zi x=true/\∃ b,x=.bool b/\(b=true->Q))/\k.next<=l.wm)
theorem zHf {Q:Prop} {k h:AH} (ho:Own k h) (b:Bool) (hb:b=true->Q):zTv Q k .ret [.bool b] h:=by
 simp only [zTv,zAS,zX,true_and]
 exact ⟨⟨rfl,b,rfl,hb⟩,ho.wm⟩
theorem zj1 {k:AH} {v:Value} {els:List (List Value)} {Ls:List GL} (aa:k.ok) (ha:Arr k 3 v els) (hlen:els.length=Ls.length) (aU:els.length<=10) (hr:∀ (i:Nat) (e:List Value) (L:GL),els[i]?=some e->Ls[i]?=some L->RL k (.agg ⟨e⟩) L) :
  ∃ b,(b=true->∀ (i:Nat) (L:GL),Ls[i]?=some L->L.n<=60)/\(zY E).call 14 [v] k=some [(.bool b,k)]:=by
 have key:∃ w,(∃ b,w=.bool b/\(b=true->∀ (i:Nat) (L:GL),Ls[i]?=some L->L.n<=60))/\(zY E).call 14 [v] k=some [(w,k)]:=by
  obtain ⟨ad,cp,hv⟩:=ha.slice
  refine zcn aa (zgE ?_)
  refine zgD ?_
  have af:=z7 (P:=E) zhO (o:=0) (zI k.fresh (rO [iI 0] 3)) (zC0 .i64 2000) rfl (by simp) rfl
  simp only [zb] at af
  simp only [z_3,zg,zK,zl,zb,af]
  refine zgC ?_
  have o1:=((Own.fresh k).new (rO [iI 0] 3)).upd (b:=k.next) (Nat.le_refl _) (some (rO (lput [iI 0] 0 [iI 2000]) 3))
  have t1:((k.fresh.new (rO [iI 0] 3)).upd k.next (some (rO (lput [iI 0] 0 [iI 2000]) 3))).get k.next=some (rO [iI 2000] 3):=zO _ _ _
  have n1:((k.fresh.new (rO [iI 0] 3)).upd k.next (some (rO (lput [iI 0] 0 [iI 2000]) 3))).next=k.next+1:=rfl
  generalize ((k.fresh.new (rO [iI 0] 3)).upd k.next (some (rO (lput [iI 0] 0 [iI 2000]) 3)))=k1 at o1 t1 n1
  rw [hv]
  simp only [zA,zTs]
  have loop:∀ (r i:Nat),i+r=els.length->∀ (l:Int) (h:AH),Own k h->h.get k.next=some (rO [iI l] 3)->k.next<h.next->0<=l->l<=2000->(∀ (j:Nat) (L:GL),j<i->Ls[j]?=some L->L.n<=60)->
    zql true (zTv (∀ (i:Nat) (L:GL),Ls[i]?=some L->L.n<=60) k) (ptr k.next) (.slice ad els.length cp) (iI (els.length:Int)) (iI (i:Int)) h:=by
   intro r
   induction r with
   | zero=>
    intro i hi l h ho hg ab h1 h2 hq
    refine zPb ?_
    have:¬ ((i:Int)<(els.length:Int)):=by omega
    simp only [zZ,zA,this,decide_false,zj]
    refine zZi ?_
    exact zHf ho true fun _ j L hj=>hq j L (by have:=(List.getElem?_eq_some_iff.1 hj).1;omega) hj
   | succ r ih=>
    intro i hi l h ho hg ab h1 h2 hq
    have ai:i<els.length:=by omega
    refine zPb ?_
    have:((i:Int)<(els.length:Int)):=by omega
    simp only [zZ,zA,this,decide_true,zz]
    refine zgB ?_
    have gW:=hr i _ _ (List.getElem?_eq_getElem ai) (List.getElem?_eq_getElem (by omega))
    have hLi:Ls[i]?=some Ls[i]:=List.getElem?_eq_getElem (by omega)
    generalize Ls[i]=L at gW hLi
    obtain ⟨vl,ve,elsL,q1,q2,q3,q4⟩:=gW.ex
    have he:els[i]=[iI L.n,vl,ve]:=by
     simp only [Value.agg.injEq] at q1
     have:=congrArg Array.toList q1
     simpa using this
    obtain ⟨b,o,c,vs,ty,es,ro,aC,hb,fc,bO,hz,ba⟩:=ha.load (List.getElem?_eq_getElem ai)
    rw [he] at hz
    rw [hv] at aC
    simp only [Value.slice.injEq] at aC
    obtain ⟨bk,_,_⟩:=aC
    subst bk
    have gb:=(ho.ext.get b fc).trans hb
    obtain ⟨al,cl,bc⟩:=q2.slice
    rw [RLab.length q3] at bc
    obtain ⟨ae,ce,cI⟩:=q4.slice
    rw [List.length_map] at cI
    have eJ:=zkH (k:=h) (e:=[iI L.n,vl,ve]) (by rw [bc,cI];rfl) rfl
    simp only [zNQ ai,zA,zV zDe gb bO,hz,zoy,zg,zK,zT,eJ]
    refine zgA ?_
    have f1:Fx NoB h ((h.new (rO [iI 0,.slice none 0 0,.slice none 0 0] 25)).upd h.next (some (rO [iI L.n,vl,ve] 25))):=((Fx.refl ho.ext.ok).new _).upd (.inr (Nat.le_refl _)) _
    have t1:((h.new (rO [iI 0,.slice none 0 0,.slice none 0 0] 25)).upd h.next (some (rO [iI L.n,vl,ve] 25))).get h.next=some (rO [iI L.n,vl,ve] 25):=zO _ _ _
    generalize ((h.new (rO [iI 0,.slice none 0 0,.slice none 0 0] 25)).upd h.next (some (rO [iI L.n,vl,ve] 25)))=k2 at f1 t1
    have o2:=f1.own ho (fun _ h=>h.elim)
    have g2:=(f1.get k.next ab (fun h=>h)).trans hg
    have lt2:=Nat.lt_of_lt_of_le ab f1.next
    have s0:=zF (P:=E) zAb (o:=0) t1
    have s1:=zF (P:=E) zG7 (o:=1) t1
    have s2:=zF (P:=E) zJc (o:=2) t1
    simp only [lnth] at s0 s1 s2
    have stop:zqk true (zTv (∀ (i:Nat) (L:GL),Ls[i]?=some L->L.n<=60) k) k2:=by
     refine zf9 ?_
     exact zHf o2 false (fun h=>Bool.noConfusion h)
    rw [bc] at s1
    rw [cI] at s2
    simp only [zCD,Nat.add_zero,s0,zA,zAK]
    by_cases e1:60<L.n
    ·simp only [e1,decide_true,zM,show (true==false)=false from rfl,cond_false,cond_true,zA,zJ,zz]
     exact stop
    ·simp only [e1,decide_false,zM,beq_self_eq_true,cond_true,zCC,Nat.zero_add,s2,zA,zTr,zAK,zJ,cond_false]
     by_cases e2:300<(L.eds.length:Int)
     ·simp only [e2,decide_true,zM,show (true==false)=false from rfl,cond_false,cond_true,zA,zJ,zz]
      exact stop
     ·simp only [e2,decide_false,zM,beq_self_eq_true,cond_true,zBR,Nat.zero_add,s1,zA,zQN,zAK,zJ,cond_false]
      by_cases e3:60<(L.labs.length:Int)
      ·simp only [e3,decide_true,zz]
       exact stop
      ·simp only [e3,decide_false,zj]
       refine zf8 ?_
       simp only [zBR,Nat.zero_add,s1,zA,zTq]
       have inner:∀ (r2 j:Nat),j+r2=L.labs.length->∀ (l:Int) (h:AH),Own k h->h.get k.next=some (rO [iI l] 3)->k.next<h.next->0<=l->l<=2000->
         zqj true (zTv (∀ (i:Nat) (L:GL),Ls[i]?=some L->L.n<=60) k) (ptr k.next) (.slice (some ⟨b,o,none⟩) els.length cp) (iI (els.length:Int)) (iI (i:Int)) (.slice al L.labs.length cl) (iI (L.labs.length:Int)) (iI (j:Int)) h:=by
        intro r2
        induction r2 with
        | zero=>
         intro j hj l h ho hg ab h1 h2
         refine zPa ?_
         have:¬ ((j:Int)<(L.labs.length:Int)):=by omega
         simp only [zZ,zA,this,decide_false,zj]
         refine zZj ?_
         simp only [zAD _ (zEA ai (by omega)),zA]
         have:=ih (i+1) (by omega) l h ho hg ab h1 h2 (fun j L' hj hL'=>by
          rcases Nat.lt_succ_iff_lt_or_eq.1 hj with ab|dq
          ·exact hq j L' ab hL'
          ·subst dq;rw [hLi] at hL';cases hL';omega)
         simpa using this
        | succ r2 ih2=>
         intro j hj l h ho hg ab h1 h2
         have bG:j<L.labs.length:=by omega
         have de:j<elsL.length:=by rw [RLab.length q3];exact bG
         refine zPa ?_
         have:((j:Int)<(L.labs.length:Int)):=by omega
         simp only [zZ,zA,this,decide_true,zz]
         refine zf7 ?_
         obtain ⟨g,vt,lt,bz,be,bA⟩:=RLab.at q3 j _ (List.getElem?_eq_getElem de)
         obtain ⟨b',o',c',vs',ty',es',ro',aC,ao,aD,bO,bI,bH⟩:=q2.load (List.getElem?_eq_getElem de)
         rw [bz] at bI
         rw [bc] at aC
         simp only [Value.slice.injEq] at aC
         obtain ⟨bk,_,_⟩:=aC
         subst bk
         have gb':=(ho.ext.get b' aD).trans ao
         simp only [zNS bG,zA,zV zEk gb' bO,bI,zox,zg,zK,zT,zkG (zDi be)]
         refine zZm ?_
         have f3:Fx NoB h ((h.new (rO [iI 0,.slice none 0 0] 36)).upd h.next (some (rO [iI g,vt] 36))):=((Fx.refl ho.ext.ok).new _).upd (.inr (Nat.le_refl _)) _
         have t3:((h.new (rO [iI 0,.slice none 0 0] 36)).upd h.next (some (rO [iI g,vt] 36))).get h.next=some (rO [iI g,vt] 36):=zO _ _ _
         generalize ((h.new (rO [iI 0,.slice none 0 0] 36)).upd h.next (some (rO [iI g,vt] 36)))=k3 at f3 t3
         have o3:=f3.own ho (fun _ h=>h.elim)
         have g3:=(f3.get k.next ab (fun h=>h)).trans hg
         have lt3:=Nat.lt_of_lt_of_le ab f3.next
         have u1:=zF (P:=E) zDd (o:=1) t3
         simp only [lnth] at u1
         simp only [zCB,Nat.zero_add,u1,zA,zQ]
         refine (zmQ 100 be o3.ext (Nat.le_refl _) g3 lt3 h1 h2 (by omega) (by omega) (by omega)).mono fun y hy=>?_
         obtain ⟨bb,l3,y1,y2,y3,y4,y6,y5⟩:=hy
         have o4:=y5.own o3 (fun c h=>by rw [h];exact Nat.le_refl _)
         rw [y1]
         simp only [z6,zA,zBa]
         refine ⟨fun hb=>zZl ?_,fun hb=>zZk ?_⟩
         ·skip
          exact zHf o4 false (fun h=>Bool.noConfusion h)
         ·have bC:bb=true:=by simpa using hb
          simp only [zAD _ (zEA bG (by omega)),zA]
          have:=ih2 (j+1) (by omega) l3 y.2 o4 y4 (Nat.lt_of_lt_of_le lt3 y5.next) (y2 bC) y3
          simpa using this
       exact inner L.labs.length 0 (by omega) l k2 o2 g2 lt2 h1 h2
  exact loop els.length 0 (by omega) 2000 k1 o1 t1 (by omega) (by omega) (by omega) (fun j L hj=>by omega)
 obtain ⟨w,⟨b,rfl,hb⟩,hc⟩:=key
 exact ⟨b,hb,hc⟩
end Go.Proofs
namespace Go.Proofs
open Go Go.AM Go.Sort
set_option maxRecDepth 100000
set_option maxHeartbeats 1000000
theorem zIZ {B:GB} (h:zAd B=0):zAV B.prs:=by
 refine zSp fun j p q hp hq=>?_
 have gj:=(List.getElem?_eq_some_iff.1 hq).1
 unfold zAd at h
 split at h
 ·omega
 ·split at h
  ·omega
  ·split at h
   ·omega
   ·rename_i h3
    have:=zBO (Bool.not_eq_true _ ▸ h3) (j+1) (Nat.zero_le _) (by omega)
    unfold zB8 at this
    simp only [hq,Nat.add_sub_cancel,hp,Nat.succ_pos,decide_true,Bool.true_and,Bool.or_eq_false_iff,decide_eq_false_iff_not] at this
    omega
theorem zMn {kind:Int} {L M:GL} {P:Int->Int->Prop} {F:List (Int×Int)} (h:Bis kind L M P) (hl:L.n<=60) (hm:M.n<=60) (hs:zAV F) (hF:∀ p∈F,P p.1 p.2):F.length<=3600:=
 zPm (N:=60) (M:=60) hs fun p hp=>by have:=h.rg p.1 p.2 (hF p hp);omega
theorem zSk {B:List (Int×Int)} (hs:zAV B) (hr:∀ p∈B,0<=p.2/\p.2<60) (q:Int):(toL B q).length<=60:=by
 refine zBK 60 _ ?_ fun x hx=>?_
 ·unfold toL
  rw [List.nodup_iff_pairwise_ne,List.pairwise_map]
  refine List.Pairwise.imp_of_mem (fun {x y} hx hy h=>?_) (hs.filter _)
  have h1:=(List.mem_filter.1 hx).2
  have h2:=(List.mem_filter.1 hy).2
  simp only [decide_eq_true_eq] at h1 h2
  rw [zCy] at h
  omega
 ·unfold toL at hx
  obtain ⟨p,hp,rfl⟩:=List.mem_map.1 hx
  exact hr p (List.mem_filter.1 hp).1
theorem zdc {A B:List (Int×Int)} {K:Nat} (h:∀ q,(toL B q).length<=K):(zCb A B).length<=A.length*K:=by
 induction A with
 | nil=>simp [zCb]
 | cons p A ih=>
  have:=h p.2
  have e:zCb (p::A) B=(toL B p.2).map (fun u=>(p.1,u))++zCb A B:=rfl
  rw [e,List.length_append,List.length_map,List.length_cons,Nat.add_mul]
  omega
theorem zHa {a b:Int} (ha:a=1\/a=2) (hb:b=1\/b=2):zDc a b=1\/zDc a b=2:=by
 rcases zHZ ha hb with ⟨h,_⟩|h <;> simp [h]
theorem zi6 {L:GL} (h:0<=L.n) (s t:Int):(s,t)∈idl L.n.toNat ↔ s=t/\0<=s/\s<L.n:=by
 simp only [idl,List.mem_map,List.mem_range,Prod.mk.injEq]
 constructor
 ·rintro ⟨i,hi,rfl,rfl⟩;omega
 ·rintro ⟨rfl,h1,h2⟩;exact ⟨s.toNat,by omega,by omega,by omega⟩
theorem zQZ (n:Nat):zAV (idl n):=by
 unfold zAV idl
 rw [List.pairwise_map]
 refine List.Pairwise.imp_of_mem (fun {a b} _ _ h=>?_) (List.pairwise_lt_range (n:=n))
 rw [zCy]
 simp only
 omega
theorem zO9 (h:AH) (q:Int) (w:Value) (hk:h.ok) (hw:zq w=true):∃ h1,Ev true (zf E 32 (h.new (rO [iI 0,.slice none 0 0] 32)) (sP h.next 0) (some (.agg ⟨[iI q,w]⟩))) (fun x=>x=(undef,h1))/\Fx NoB h h1/\h1.get h.next=some (rO [iI q,w] 32)/\h1.next=h.next+1:=
 ⟨_,by rw [zKL (zI h _) rfl hw,zK],((Fx.refl hk).new _).upd (.inr (Nat.le_refl _)) _,zO _ _ _,rfl⟩
theorem zmf {a b c a' b' c' a2 b2 c2:Value} {h:AH}:zd E 82 3 (some [(0,.agg ⟨[a,b,c]⟩),(1,.agg ⟨[a',b',c']⟩),(2,.agg ⟨[a2,b2,c2]⟩)]) h=one (.slice (some ⟨h.next,0,none⟩) 3 3,h.new (rO [a,b,c,a',b',c',a2,b2,c2] 25)):=by kernel_rfl
theorem zqF {a b a' b' a2 b2:Value} {h:AH}:zd E 83 3 (some [(0,.agg ⟨[a,b]⟩),(1,.agg ⟨[a',b']⟩),(2,.agg ⟨[a2,b2]⟩)]) h=one (.slice (some ⟨h.next,0,none⟩) 3 3,h.new (rO [a,b,a',b',a2,b2] 32)):=by kernel_rfl
theorem zqI {a b:Int} {h:AH}:zd E 47 2 (some [(0,iI a),(1,iI b)]) h=one (.slice (some ⟨h.next,0,none⟩) 2 2,h.new (rO [iI a,iI b] 3)):=by kernel_rfl
theorem zqN {k:AH} {b:Nat} {a1 a2 a3 b1 b2 b3 c1 c2 c3:Value} {ty:TypeId} (h:k.get b=some (rO [a1,a2,a3,b1,b2,b3,c1,c2,c3] ty)) (hl:b<k.next):Arr k 3 (.slice (some ⟨b,0,none⟩) 3 3) [[a1,a2,a3],[b1,b2,b3],[c1,c2,c3]]:=
 Arr.row (els:=[[a1,a2,a3],[b1,b2,b3],[c1,c2,c3]]) h hl (by simp) fun i x hx=>by
  match i with
  | 0=>simp at hx;subst hx;exact ⟨rfl,rfl⟩
  | 1=>simp at hx;subst hx;exact ⟨rfl,rfl⟩
  | 2=>simp at hx;subst hx;exact ⟨rfl,rfl⟩
  | i+3=>simp at hx
theorem zqM {k:AH} {b:Nat} {a1 a2 b1 b2 c1 c2:Value} {ty:TypeId} (h:k.get b=some (rO [a1,a2,b1,b2,c1,c2] ty)) (hl:b<k.next):Arr k 2 (.slice (some ⟨b,0,none⟩) 3 3) [[a1,a2],[b1,b2],[c1,c2]]:=
 Arr.row (els:=[[a1,a2],[b1,b2],[c1,c2]]) h hl (by simp) fun i x hx=>by
  match i with
  | 0=>simp at hx;subst hx;exact ⟨rfl,rfl⟩
  | 1=>simp at hx;subst hx;exact ⟨rfl,rfl⟩
  | 2=>simp at hx;subst hx;exact ⟨rfl,rfl⟩
  | i+3=>simp at hx
theorem pe2 {a b c:Value}:ze 0 (some (.tuple #[a,b,c]))=some a/\ze 1 (some (.tuple #[a,b,c]))=some b/\ze 2 (some (.tuple #[a,b,c]))=some c:=⟨by kernel_rfl,by kernel_rfl,by kernel_rfl⟩
abbrev K10 (k:AH):KF:=KR E [.tmp 12] fun x l=>x=.bool true/\k.next<=l.wm
structure St10 (k h:AH) (a1 a2 b1 b2 d1 d2 vx vz vw:Value) (L M N:GL) (A B C:GB):Prop where
 fx:Fx NoB k.fresh h
 lt:k.next+6<=h.next
 g6:h.get k.next=some (rO [iI L.n,a1,a2] 25)
 g7:h.get (k.next+1)=some (rO [iI M.n,b1,b2] 25)
 g8:h.get (k.next+2)=some (rO [iI N.n,d1,d2] 25)
 g9:h.get (k.next+3)=some (rO [iI A.kind,vx] 32)
 g10:h.get (k.next+4)=some (rO [iI B.kind,vz] 32)
 g11:h.get (k.next+5)=some (rO [iI C.kind,vw] 32)
section
variable {k h h':AH} {a1 a2 b1 b2 d1 d2 vx vz vw:Value} {L M N:GL} {A B C:GB}
theorem St10.step (S:St10 k h a1 a2 b1 b2 d1 d2 vx vz vw L M N A B C) (f:Fx NoB h h'):St10 k h' a1 a2 b1 b2 d1 d2 vx vz vw L M N A B C:=by
 have:=S.lt
 have nb:∀ c,¬ NoB c:=fun c h=>h
 exact ⟨S.fx.trans f fun c hc=>hc.elim,Nat.le_trans S.lt f.next,(f.get _ (by omega) (nb _)).trans S.g6,(f.get _ (by omega) (nb _)).trans S.g7,(f.get _ (by omega) (nb _)).trans S.g8,(f.get _ (by omega) (nb _)).trans S.g9,(f.get _ (by omega) (nb _)).trans S.g10,(f.get _ (by omega) (nb _)).trans S.g11⟩
theorem St10.own (S:St10 k h a1 a2 b1 b2 d1 d2 vx vz vw L M N A B C):Own k h:=S.fx.own (Own.fresh k) fun c hc=>hc.elim
theorem St10.l6 (S:St10 k h a1 a2 b1 b2 d1 d2 vx vz vw L M N A B C):zG E 25 h (sP k.next 0)=some (.agg ⟨[iI L.n,a1,a2]⟩):=zV (P:=E) zDe (o:=0) S.g6 (by simp)
theorem St10.l7 (S:St10 k h a1 a2 b1 b2 d1 d2 vx vz vw L M N A B C):zG E 25 h (some (.pointer (some ⟨k.next+1,0,none⟩)))=some (.agg ⟨[iI M.n,b1,b2]⟩):=zV (P:=E) zDe (o:=0) S.g7 (by simp)
theorem St10.l8 (S:St10 k h a1 a2 b1 b2 d1 d2 vx vz vw L M N A B C):zG E 25 h (some (.pointer (some ⟨k.next+2,0,none⟩)))=some (.agg ⟨[iI N.n,d1,d2]⟩):=zV (P:=E) zDe (o:=0) S.g8 (by simp)
theorem St10.l9 (S:St10 k h a1 a2 b1 b2 d1 d2 vx vz vw L M N A B C):zG E 32 h (some (.pointer (some ⟨k.next+3,0,none⟩)))=some (.agg ⟨[iI A.kind,vx]⟩):=zV (P:=E) zB0 (o:=0) S.g9 (by simp)
theorem St10.l10 (S:St10 k h a1 a2 b1 b2 d1 d2 vx vz vw L M N A B C):zG E 32 h (some (.pointer (some ⟨k.next+4,0,none⟩)))=some (.agg ⟨[iI B.kind,vz]⟩):=zV (P:=E) zB0 (o:=0) S.g10 (by simp)
theorem St10.l11 (S:St10 k h a1 a2 b1 b2 d1 d2 vx vz vw L M N A B C):zG E 32 h (some (.pointer (some ⟨k.next+5,0,none⟩)))=some (.agg ⟨[iI C.kind,vw]⟩):=zV (P:=E) zB0 (o:=0) S.g11 (by simp)
theorem fin10 (S:St10 k h a1 a2 b1 b2 d1 d2 vx vz vw L M N A B C):K10 k .ret [.bool true] h:=by
 simp only [K10,zAS,zX,true_and]
 exact S.own.wm
end
theorem zGw {kk h:AH} {kind:Int} {F:List (Int×Int)} {v:Value} (M:Made NoB kk kind F v h) (hk:kk.ok) {G:Value->Value->Value->AH->Prop} (H:∀ h1 w,Fx NoB kk h1->zG E 32 h1 (sP h.next 0)=some (.agg ⟨[iI kind,w]⟩)->RB h1 [iI kind,w] ⟨kind,F⟩->G (iI 0) (ptr h.next) undef h1) :
  EvO (ze 0 (some v)) fun x4=>EvO (ze 1 (some v)) fun x5=>Ev true (zS 32 h (z8 E 32)) fun x6=>Ev true (zf E 32 x6.2 (some x6.1) (some x4)) fun x7=>G x5 x6.1 x7.1 x7.2:=by
 obtain ⟨b,rfl,hb,ar,f⟩:=M
 obtain ⟨h1,s1,f1,g1,n1⟩:=zO9 h kind (sl b F.length (UNK+2)) f.ok rfl
 simp only [pe0,pe1,zA,zKb,zg,zK,zT]
 refine s1.mono ?_
 rintro _ rfl
 exact H h1 _ (f.trans f1 fun c hc=>hc.elim) (zV (P:=E) zB0 (o:=0) g1 (by simp)) ⟨_,rfl,ar.ext f1.ext0⟩
theorem zmc {k:AH} {x y z:Value} {e1 e2 e3:List Value} {L M N:GL} {A B C:GB} (aa:k.ok) (hx:RL k x L) (hy:RL k y M) (hz:RL k z N) (ha:RB k e1 A) (hb:RB k e2 B) (hc:RB k e3 C) :
  (zY E).call 10 [x,y,z,.agg ⟨e1⟩,.agg ⟨e2⟩,.agg ⟨e3⟩] k=some [(.bool true,k)]:=by
 obtain ⟨a1,a2,elsL,rfl,xl,xl2,xl3⟩:=id hx.ex
 obtain ⟨b1,b2,elsM,rfl,ym,ym2,ym3⟩:=id hy.ex
 obtain ⟨d1,d2,elsN,rfl,zn,zn2,zn3⟩:=id hz.ex
 obtain ⟨vx,rfl,ax⟩:=id ha.ex
 obtain ⟨vz,rfl,az⟩:=id hb.ex
 obtain ⟨vw,rfl,aw⟩:=id hc.ex
 refine zhB (s:=true) aa rfl (zgL ?_)
 obtain ⟨k1,q1,n1,t1,o1,f1⟩:=nwF k (rO [iI L.n,a1,a2] 25)
 obtain ⟨k2,q2,n2,t2,o2,f2⟩:=nw o1 (rO [iI M.n,b1,b2] 25)
 obtain ⟨k3,q3,n3,t3,o3,f3⟩:=nw o2 (rO [iI N.n,d1,d2] 25)
 obtain ⟨k4,q4,n4,t4,o4,f4⟩:=nw o3 (rO [iI A.kind,vx] 32)
 obtain ⟨k5,q5,n5,t5,o5,f5⟩:=nw o4 (rO [iI B.kind,vz] 32)
 obtain ⟨k6,q6,n6,t6,o6,f6⟩:=nw o5 (rO [iI C.kind,vw] 32)
 have m1:k1.next=k.next+1:=n1
 have m2:k2.next=k.next+2:=by omega
 have m3:k3.next=k.next+3:=by omega
 have m4:k4.next=k.next+4:=by omega
 have m5:k5.next=k.next+5:=by omega
 rw [m1] at t2
 rw [m2] at t3
 rw [m3] at t4
 rw [m4] at t5
 rw [m5] at t6
 have S6:St10 k k6 a1 a2 b1 b2 d1 d2 vx vz vw L M N A B C:=⟨by rw [← q6,← q5,← q4,← q3,← q2,← q1];exact ((((((Fx.refl (zAT k)).new _).new _).new _).new _).new _).new _,by omega,
  (f6 _ (by omega)).trans ((f5 _ (by omega)).trans ((f4 _ (by omega)).trans ((f3 _ (by omega)).trans ((f2 _ (by omega)).trans t1)))),(f6 _ (by omega)).trans ((f5 _ (by omega)).trans ((f4 _ (by omega)).trans ((f3 _ (by omega)).trans t2))),(f6 _ (by omega)).trans ((f5 _ (by omega)).trans ((f4 _ (by omega)).trans t3)),(f6 _ (by omega)).trans ((f5 _ (by omega)).trans t4),(f6 _ (by omega)).trans t5,t6⟩
 simp only [zg,zK,zT,zA,q1,q2,q3,q4,q5,q6,zb,m1,m2,m3,m4,m5]
 refine zgK ?_
 simp only [zQ,zmb,zP,z6,zA,Bool.not_true,zj]
 refine zgJ ?_
 have X:∀ {h},St10 k h a1 a2 b1 b2 d1 d2 vx vz vw L M N A B C->Ext k h:=fun S=>S.own.ext
 obtain ⟨k7,q7,n7,t7,o7,f7⟩:=nw o6 (rO [iI L.n,a1,a2,iI M.n,b1,b2,iI N.n,d1,d2] 25)
 have S7:=S6.step (h':=k7) (by rw [← q7];exact (Fx.refl S6.fx.ok).new _)
 have fj:=zmf (a:=iI L.n) (b:=a1) (c:=a2) (a':=iI M.n) (b':=b1) (c':=b2) (a2:=iI N.n) (b2:=d1) (c2:=d2) (h:=k6)
 rw [q7] at fj
 obtain ⟨b14,hb14,c14⟩:=zj1 (k:=k7) (v:=.slice (some ⟨k6.next,0,none⟩) 3 3) (els:=[[iI L.n,a1,a2],[iI M.n,b1,b2],[iI N.n,d1,d2]]) (Ls:=[L,M,N]) S7.fx.ok (zqN t7 (by omega)) rfl (by simp) (fun i ee LL h1 h2=>by
  match i with
  | 0=>simp at h1 h2;subst h1 h2;exact hx.ext (X S7)
  | 1=>simp at h1 h2;subst h1 h2;exact hy.ext (X S7)
  | 2=>simp at h1 h2;subst h1 h2;exact hz.ext (X S7)
  | i+3=>simp at h1)
 have bq:∀ {h},St10 k h a1 a2 b1 b2 d1 d2 vx vz vw L M N A B C->PI (C10 true) (K10 k) 4 [] h:=fun S=>zgI (fin10 S)
 have rx:∀ {h},St10 k h a1 a2 b1 b2 d1 d2 vx vz vw L M N A B C->RL h (.agg ⟨[iI L.n,a1,a2]⟩) L:=fun S=>hx.ext (X S)
 have ry:∀ {h},St10 k h a1 a2 b1 b2 d1 d2 vx vz vw L M N A B C->RL h (.agg ⟨[iI M.n,b1,b2]⟩) M:=fun S=>hy.ext (X S)
 have rz:∀ {h},St10 k h a1 a2 b1 b2 d1 d2 vx vz vw L M N A B C->RL h (.agg ⟨[iI N.n,d1,d2]⟩) N:=fun S=>hz.ext (X S)
 have rA:∀ {h},St10 k h a1 a2 b1 b2 d1 d2 vx vz vw L M N A B C->RB h [iI A.kind,vx] A:=fun S=>ha.ext (X S)
 have rB:∀ {h},St10 k h a1 a2 b1 b2 d1 d2 vx vz vw L M N A B C->RB h [iI B.kind,vz] B:=fun S=>hb.ext (X S)
 have rC:∀ {h},St10 k h a1 a2 b1 b2 d1 d2 vx vz vw L M N A B C->RB h [iI C.kind,vw] C:=fun S=>hc.ext (X S)
 have go:zy L=false->L.n<=60->M.n<=60->N.n<=60->∀ h,St10 k h a1 a2 b1 b2 d1 d2 vx vz vw L M N A B C->PI (C10 true) (K10 k) 5 [ptr k.next,ptr (k.next+1),ptr (k.next+2),ptr (k.next+3),ptr (k.next+4),ptr (k.next+5)] h:=by
  intro bL hL hM hN h S
  obtain ⟨lp,_⟩:=zBX bL
  have tail:zD4 L M A=0->∀ h,St10 k h a1 a2 b1 b2 d1 d2 vx vz vw L M N A B C->PI (C10 true) (K10 k) 24 [ptr k.next,ptr (k.next+1),ptr (k.next+3),ptr (k.next+5)] h:=by
   intro cA h S
   obtain ⟨kA,_,bM,biA⟩:=zPA cA
   refine zbf ?_
   have c15:=zGe S.fx.ok (rx S) (ry S) (rC S)
   simp only [S.l6,S.l7,S.l11,zA,zQ,c15,zP,zAg,zAM]
   refine ⟨fun cC=>zbe ?_,fun _=>zMW (fin10 S)⟩
   obtain ⟨kC,_,_,biC⟩:=zPA cC
   have bi:=biA.or kA kC biC
   have mem:∀ {F:List (Int×Int)},(∀ p,p∈F ↔ p∈A.prs++C.prs)->∀ s t,(s,t)∈F ↔ (s,t)∈A.prs\/(s,t)∈C.prs:=fun h s t=>(h _).trans List.mem_append
   simp only [S.l9,S.l11,zA,zQ]
   refine (zmR S.fx.ok (rA S) (rC S) (zGd cA).2.2.1 (zGd cC).2.2.1 (fun e=>by have:=biA.z;rw [e] at this;cases this) (fun e=>by have:=biC.z;rw [e] at this;cases this) (fun F s h=>by have:=zMn bi hL hM s fun p hp=>(mem h p.1 p.2).1 hp;omega)).mono ?_
   rintro ⟨v,h2⟩ ⟨F,s1,s2,Md⟩
   refine zGw (G:=fun x5 b _ h1=>PI (C10 true) (K10 k) 26 [ptr k.next,ptr (k.next+1),b,x5] h1) Md S.fx.ok ?_
   intro h3 w f3 l3 r3
   have S3:=S.step f3
   have hn:=zMn bi hL hM s1 fun p hp=>(mem s2 p.1 p.2).1 hp
   have c0:=zFp (F:=F) (zHa kA kC) bL bM (by omega) s1 (mem s2) bi
   have c15:=zGe S3.fx.ok (rx S3) (ry S3) r3
   rw [c0] at c15
   refine zbd ?_
   simp only [zAp,zA,decide_true,Bool.not_true,zM,zU,beq_self_eq_true,cond_true,cond_false,S3.l6,S3.l7,l3,zQ,c15,zP,zJ,zj]
   exact zMW (fin10 S3)
  have mid:∀ h,St10 k h a1 a2 b1 b2 d1 d2 vx vz vw L M N A B C->PI (C10 true) (K10 k) 12 [ptr k.next,ptr (k.next+1),ptr (k.next+2),ptr (k.next+3),ptr (k.next+4),ptr (k.next+5)] h:=by
   intro h S
   refine zbo ?_
   have c15:=zGe S.fx.ok (rx S) (ry S) (rA S)
   simp only [S.l6,S.l7,S.l9,zA,zQ,c15,zP,zAp,zKK]
   refine ⟨fun _=>zbn (fin10 S),fun cA=>zbm ?_⟩
   obtain ⟨kA,_,bM,biA⟩:=zPA cA
   have bi:=biA.inv
   have mem:∀ {F:List (Int×Int)},(∀ p,p∈F ↔ p∈A.prs.map zBP)->∀ t s,(t,s)∈F ↔ (s,t)∈A.prs:=fun h t s=>(h _).trans (by
    rw [List.mem_map]
    constructor
    ·rintro ⟨q,hq,e⟩
     obtain ⟨q1,q2⟩:=q
     simp only [zBP,Prod.mk.injEq] at e
     rw [← e.1,← e.2];exact hq
    ·exact fun h=>⟨_,h,rfl⟩)
   simp only [S.l9,zA,zQ]
   have lkA:=(zGd cA).2.2.1
   have neA:A.prs≠[]:=fun e=>by have:=biA.z;rw [e] at this;cases this
   refine (zmU S.fx.ok (rA S) lkA neA (fun F s h=>by have:=zMn bi hM hL s fun p hp=>(mem h p.1 p.2).1 hp;omega)).mono ?_
   rintro ⟨v,h2⟩ ⟨F,s1,s2,Md⟩
   refine zGw (G:=fun x5 b _ h1=>PI (C10 true) (K10 k) 15 [ptr k.next,ptr (k.next+1),ptr (k.next+2),ptr (k.next+3),ptr (k.next+4),ptr (k.next+5),b,x5] h1) Md S.fx.ok ?_
   intro h3 w f3 l3 r3
   have S3:=S.step f3
   have hn:=zMn bi hM hL s1 fun p hp=>(mem s2 p.1 p.2).1 hp
   have c0:=zFp (F:=F) kA bM bL (by omega) s1 (mem s2) bi
   have c15:=zGe S3.fx.ok (ry S3) (rx S3) r3
   rw [c0] at c15
   refine zbl ?_
   simp only [zAp,zA,decide_true,Bool.not_true,zM,zU,beq_self_eq_true,cond_true,cond_false,S3.l6,S3.l7,l3,zQ,c15,zP,zJ,zj]
   refine zbk ?_
   have c15:=zGe S3.fx.ok (ry S3) (rz S3) (rB S3)
   simp only [S3.l7,S3.l8,S3.l10,zA,zQ,c15,zP,zAg,zAM]
   refine ⟨fun cB=>zbj ?_,fun _=>tail cA h3 S3⟩
   obtain ⟨kB,_,bN,biB⟩:=zPA cB
   have bi:=biA.comp kA kB biB
   have mem:∀ {F:List (Int×Int)},(∀ p,p∈F ↔ p∈zCb A.prs B.prs)->∀ s w,(s,w)∈F ↔ ∃ t,(s,t)∈A.prs/\(t,w)∈B.prs:=fun h s w=>(h _).trans (zJj _)
   have lkB:=(zGd cB).2.2.1
   have hO:∀ F:List (Int×Int),zAV F->(∀ p,p∈F ↔ p∈A.prs)->(zCb F B.prs).length<=999000:=fun F s h=>by
    have h1:=zMn biA hL hM s fun p hp=>(h p).1 hp
    have h2:=zdc (A:=F) (zSk (zIZ lkB) fun p hp=>by have:=biB.rg p.1 p.2 hp;omega)
    omega
   have ne:zCb A.prs B.prs≠[]:=fun e=>by
    have:=(zJj (A:=A.prs) (B:=B.prs) (0,0)).2 ⟨0,biA.z,biB.z⟩
    rw [e] at this
    cases this
   have hF:∀ F,zAV F->(∀ p,p∈F ↔ p∈zCb A.prs B.prs)->F.length<=200000:=fun F s h=>by have:=zMn bi hL hN s fun p hp=>(mem h p.1 p.2).1 hp;omega
   simp only [S3.l9,S3.l10,zA,zQ]
   refine (zmT S3.fx.ok (rA S3) (rB S3) lkA lkB (hO _ (zIZ lkA) fun p=>Iff.rfl) ne hF).mono ?_
   rintro ⟨v,h4⟩ ⟨F,s1,s2,Md⟩
   refine zGw (G:=fun x5 b _ h1=>PI (C10 true) (K10 k) 19 [ptr k.next,ptr (k.next+1),ptr (k.next+2),ptr (k.next+3),ptr (k.next+4),ptr (k.next+5),b,x5] h1) Md S3.fx.ok ?_
   intro h5 w f5 l5 r5
   have S5:=S3.step f5
   have hn:=hF F s1 s2
   have c0:=zFp (F:=F) (zHa kA kB) bL bN (by omega) s1 (mem s2) bi
   have c15:=zGe S5.fx.ok (rx S5) (rz S5) r5
   rw [c0] at c15
   refine zbi ?_
   simp only [zAp,zA,decide_true,Bool.not_true,zM,zU,beq_self_eq_true,cond_true,cond_false,S5.l6,S5.l8,l5,zQ,c15,zP,zJ,zj]
   refine zbh ?_
   have fj:=zmf (a:=iI L.n) (b:=a1) (c:=a2) (a':=iI M.n) (b':=b1) (c':=b2) (a2:=iI N.n) (b2:=d1) (c2:=d2) (h:=h5)
   have g6:=zI h5 (rO [iI L.n,a1,a2,iI M.n,b1,b2,iI N.n,d1,d2] 25)
   have f6:Fx NoB h5 (h5.new (rO [iI L.n,a1,a2,iI M.n,b1,b2,iI N.n,d1,d2] 25)):=(Fx.refl S5.fx.ok).new _
   have n6:(h5.new (rO [iI L.n,a1,a2,iI M.n,b1,b2,iI N.n,d1,d2] 25)).next=h5.next+1:=rfl
   simp only [S5.l6,S5.l7,S5.l8,zA,fj,zK]
   generalize h5.new (rO [iI L.n,a1,a2,iI M.n,b1,b2,iI N.n,d1,d2] 25)=h6 at g6 f6 n6
   have S6:=S5.step f6
   have fi:=zme (a:=iI A.kind) (b:=vx) (c:=iI B.kind) (d:=vz) (h:=h6)
   have g7:=zI h6 (rO [iI A.kind,vx,iI B.kind,vz] 32)
   have f7:Fx NoB h6 (h6.new (rO [iI A.kind,vx,iI B.kind,vz] 32)):=(Fx.refl S6.fx.ok).new _
   have n7:(h6.new (rO [iI A.kind,vx,iI B.kind,vz] 32)).next=h6.next+1:=rfl
   simp only [S6.l9,S6.l10,zA,fi,zK,zQ]
   generalize h6.new (rO [iI A.kind,vx,iI B.kind,vz] 32)=h7 at g7 f7 n7
   have S7:=S6.step f7
   have hFA:∀ F,zAV F->(∀ p,p∈F ↔ p∈A.prs)->F.length<=200000:=fun F s h=>by have:=zMn biA hL hM s fun p hp=>(h p).1 hp;omega
   refine (zmS S7.fx.ok ((f7.get _ (by omega) (fun h=>h)).trans g6) (by omega) g7 (by omega) (rx S7) (ry S7) (rz S7) (rA S7) (rB S7) bL bM bN lkA lkB (zGd cA).2.2.2 (zGd cB).2.2.2 (by omega) neA hFA hO ne hF).mono ?_
   rintro ⟨v,h8⟩ ⟨F2,u1,u2,b8,rfl,hb8,ar8,f8⟩
   obtain ⟨h9,s9,f9,g9,n9⟩:=zO9 h8 (zDc A.kind B.kind) (sl b8 F2.length (UNK+2)) f8.ok rfl
   simp only [pe2.1,pe2.2.1,pe2.2.2,zA,zKb,zg,zK,zT]
   refine s9.mono ?_
   rintro _ rfl
   have S9:=S7.step (f8.trans f9 fun c hc=>hc.elim)
   have l9:zG E 32 h9 (sP h8.next 0)=some (.agg ⟨[iI (zDc A.kind B.kind),sl b8 F2.length (UNK+2)]⟩):=zV (P:=E) zB0 (o:=0) g9 (by simp)
   have e8:=hF F2 u1 u2
   have c02:=zFp (F:=F2) (zHa kA kB) bL bN (by omega) u1 (mem u2) bi
   have c152:=zGe (B:=⟨zDc A.kind B.kind,F2⟩) S9.fx.ok (rx S9) (rz S9) ⟨_,rfl,ar8.ext f9.ext0⟩
   rw [c02] at c152
   refine zbg ?_
   simp only [zAp,zA,decide_true,Bool.not_true,zM,zU,beq_self_eq_true,cond_true,cond_false,S9.l6,S9.l8,l9,zQ,c152,zP,zJ,zj]
   exact tail cA h9 S9
  refine zgH ?_
  have g1:=zI h (rO [iI 1,iI 2] 3)
  have f1:Fx NoB h (h.new (rO [iI 1,iI 2] 3)):=(Fx.refl S.fx.ok).new _
  have ab:h.next<(h.new (rO [iI 1,iI 2] 3)).next:=Nat.lt_succ_self _
  simp only [zqI,zK,zTt,zA]
  generalize h.new (rO [iI 1,iI 2] 3)=h1 at g1 f1 ab
  have S1:=S.step f1
  have idn:∀ (i kind:Int),kind=1\/kind=2->∀ h2,Fx NoB h1 h2->(∀ h3,Fx NoB h1 h3->PI (C10 true) (K10 k) 11 [ptr k.next,ptr (k.next+1),ptr (k.next+2),ptr (k.next+3),ptr (k.next+4),ptr (k.next+5),.slice (some ⟨h.next,0,none⟩) 2 2,iI ((2:Nat):Int),iI i] h3)->
    PI (C10 true) (K10 k) 8 [ptr k.next,ptr (k.next+1),ptr (k.next+2),ptr (k.next+3),ptr (k.next+4),ptr (k.next+5),iI kind,.slice (some ⟨h.next,0,none⟩) 2 2,iI ((2:Nat):Int),iI i] h2:=by
   intro i kind hk h2 f2 H
   have S2:=S1.step f2
   refine zgG ?_
   simp only [S2.l6,zA,zQ]
   refine (zmV (kind:=kind) S2.fx.ok (rx S2) bL hk (by omega)).mono ?_
   rintro ⟨v,h3⟩ Md
   refine zGw (G:=fun x5 b _ h1=>PI (C10 true) (K10 k) 9 [ptr k.next,ptr (k.next+1),ptr (k.next+2),ptr (k.next+3),ptr (k.next+4),ptr (k.next+5),b,x5,.slice (some ⟨h.next,0,none⟩) 2 2,iI ((2:Nat):Int),iI i] h1) Md S2.fx.ok ?_
   intro h4 w f4 l4 r4
   have S4:=S2.step f4
   have c0:=zFp (F:=idl L.n.toNat) hk bL bL (by rw [zJx];omega) (zQZ _) (zi6 (by omega)) (zmm bL kind)
   have c15:=zGe S4.fx.ok (rx S4) (rx S4) r4
   rw [c0] at c15
   refine zgF ?_
   simp only [zAp,zA,decide_true,Bool.not_true,zM,zU,beq_self_eq_true,cond_true,cond_false,S4.l6,l4,zQ,c15,zP,zJ,zj]
   exact H h4 (f2.trans f4 fun c hc=>hc.elim)
  have i0:zE E 47 (some (.slice (some ⟨h.next,0,none⟩) 2 2)) (some (iI 0))=some (.pointer (some ⟨h.next,0+0*1,none⟩)):=zNR (k:=0) (by omega)
  have i1:zE E 47 (some (.slice (some ⟨h.next,0,none⟩) 2 2)) (some (iI 1))=some (.pointer (some ⟨h.next,0+1*1,none⟩)):=zNR (k:=1) (by omega)
  have e0:zG E 3 h1 (sP h.next (0+0*1))=some (iI 1):=zF (P:=E) zAb (o:=0+0*1) g1
  refine zKV ?_
  simp only [zZ,zA,show decide ((0:Int)<((2:Nat):Int))=true from rfl,zz]
  refine zPc ?_
  simp only [i0,e0,zA]
  refine idn 0 1 (.inl rfl) h1 (Fx.refl S1.fx.ok) fun h3 f3=>zMX ?_
  rw [zAD _ (a:=0) (b:=1) ⟨by omega,by omega⟩]
  simp only [zA,Int.zero_add]
  refine zKV ?_
  simp only [zZ,zA,show decide ((1:Int)<((2:Nat):Int))=true from rfl,zz]
  refine zPc ?_
  have e1:zG E 3 h3 (sP h.next (0+1*1))=some (iI 2):=zF (P:=E) zAb (o:=0+1*1) ((f3.get _ ab (fun h=>h)).trans g1)
  simp only [i1,e1,zA]
  refine idn 1 2 (.inr rfl) h3 f3 fun h4 f4=>zMX ?_
  rw [zAD _ (a:=1) (b:=1) ⟨by omega,by omega⟩]
  simp only [zA]
  refine zKV ?_
  simp only [zZ,zA,show decide ((1:Int)+1<((2:Nat):Int))=false from rfl,zj]
  exact mid h4 (S1.step f4)
 simp only [S6.l6,S6.l7,S6.l8,zA,fj,zK,zQ,c14,zP,z6]
 cases b14 with
 | false=>
  simp only [Bool.not_false,zA,zM,zU,show (true==false)=false from rfl,cond_false,zK,zJ,cond_true,zz]
  exact bq S7
 | true=>
 have hn:=hb14 rfl
 obtain ⟨k8,q8,n8,t8,o8,f8⟩:=nw o7 (rO [iI A.kind,vx,iI B.kind,vz,iI C.kind,vw] 32)
 have S8:=S7.step (h':=k8) (by rw [← q8];exact (Fx.refl S7.fx.ok).new _)
 have fi:=zqF (a:=iI A.kind) (b:=vx) (a':=iI B.kind) (b':=vz) (a2:=iI C.kind) (b2:=vw) (h:=k7)
 rw [q8] at fi
 have c19:=zma (h0:=k8) (k:=k8) (v:=.slice (some ⟨k7.next,0,none⟩) 3 3) (els:=[[iI A.kind,vx],[iI B.kind,vz],[iI C.kind,vw]]) (Bs:=[A,B,C]) (zqM t8 (by omega)) rfl (by simp) (fun i ee BB h1 h2=>by
  match i with
  | 0=>simp at h1 h2;subst h1 h2;exact rA S8
  | 1=>simp at h1 h2;subst h1 h2;exact rB S8
  | 2=>simp at h1 h2;subst h1 h2;exact rC S8
  | i+3=>simp at h1) (Ext.refl S8.fx.ok)
 generalize (!decide (0<=zAQ (zK6 [A,B,C]) [[iI A.kind,vx],[iI B.kind,vz],[iI C.kind,vw]].length 0))=b19 at c19
 simp only [Bool.not_true,zA,zM,zU,beq_self_eq_true,cond_true,cond_false,S7.l9,S7.l10,S7.l11,fi,zK,zQ,c19,zP,z6,zJ]
 cases b19 with
 | false=>
  simp only [Bool.not_false,zA,zM,zU,show (true==false)=false from rfl,cond_false,zK,zJ,cond_true,zz]
  exact bq S8
 | true=>
 obtain ⟨r1,gZ,c23⟩:=zmZ S8.fx.ok (rx S8)
 simp only [Bool.not_true,zA,zM,zU,beq_self_eq_true,cond_true,cond_false,S8.l6,c23,zP,zAp,zJ,zKK]
 refine ⟨fun _=>bq S8,fun h0=>?_⟩
 exact go (gZ h0) (hn 0 L rfl) (hn 1 M rfl) (hn 2 N rfl) k8 S8
end Go.Proofs
