import Derived.Test.YthmnhjcmefjgjaaGreatDoorXAG
import Derived.Test.YthmnhjcmefjgjaaGreatDoorXAD
import Derived.Test.YthmnhjcmefjgjaaGreatDoorXAE
set_option linter.all false
set_option linter.unusedSectionVars false
set_option autoImplicit true
set_option relaxedAutoImplicit true
namespace Go.Proofs
open Go Go.AM
set_option maxRecDepth 100000
set_option maxHeartbeats 1000000
theorem rep_eq {α:Type} (a:α):∀ n:Nat,rep n [a]=List.replicate n a
 | 0=>rfl
 | n+1=>by simp only [rep,rep_eq a n,List.replicate_succ];rfl
theorem mkSlice {t e:TypeId} {z:Value} (H:∃ i,zDP E t=some e/\zCG E e=some i/\i.zero=some z/\i.bytes<=1000000/\i.size=1) (hz:zf z=[z]) {n:Nat} (hn:n<=1000000) {h:AH} :
  zAn E t (some (.int .i64 (n:Int))) (some (.int .i64 (n:Int))) h=one (.slice (some ⟨h.next,0,none⟩) n n,h.new (.row (List.replicate n z) e 0 false)):=by
 obtain ⟨i,h1,h2,h3,h4,h5⟩:=H
 have ha:asNat (.int .i64 (n:Int))=some n:=rfl
 simp only [zAn,h1,ha,h2,h3,ble_true.2 (Nat.le_refl n),ble_true.2 hn,ble_true.2 h4,hz,zA4,h5,rep_eq]
 rfl
theorem ti_of {t:TypeId} {b:Bool} {n:Nat} {z:Value} (h1:tAS E t=some (b,n)) (h2:zv E t=some z) (h3:(match zCG E t with|some i=>Nat.ble i.bytes 1000000|none=>false)=true):∃ i,zCG E t=some i/\i.zero=some z/\i.bytes<=1000000/\i.size=n:=by
 cases ht:zCG E t with
 | none=>unfold tAS at h1;rw [ht] at h1;cases h1
 | some i=>
  refine ⟨i,rfl,?_,?_,?_⟩
  ·have:zv E t=i.zero:=by unfold zv;unfold zCG at ht;rw [ht]
   rw [← this];exact h2
  ·rw [ht] at h3;exact ble_true.1 h3
  ·unfold tAS at h1;rw [ht] at h1;simp at h1;exact h1.2
theorem mk129 {n:Nat} (hn:n<=1000000) {h:AH}:zAn E 129 (some (.int .i64 (n:Int))) (some (.int .i64 (n:Int))) h=one (.slice (some ⟨h.next,0,none⟩) n n,h.new (.row (List.replicate n (.slice none 0 0)) 132 0 false)):=
 mkSlice (by obtain ⟨i,a⟩:=ti_of ta_132 z_132 (by kernel_rfl);exact ⟨i,elt_129,a⟩) rfl hn
theorem mk47 {n:Nat} (hn:n<=1000000) {h:AH}:zAn E 47 (some (.int .i64 (n:Int))) (some (.int .i64 (n:Int))) h=one (.slice (some ⟨h.next,0,none⟩) n n,h.new (.row (List.replicate n (.int .i64 0)) 3 0 false)):=
 mkSlice (by obtain ⟨i,a⟩:=ti_of zAQ z_3 (by kernel_rfl);exact ⟨i,elt_47,a⟩) rfl hn
theorem pb131 {a:Option Addr} {n c:Nat}:zAg E 131 (some [(0,.slice a n c)])=some (.agg #[.slice a n c]):=by kernel_rfl
theorem bs126 {a:Option Addr} {h:AH}:zi E 126 1 (some [(0,.pointer a)]) h=one (.slice (some ⟨h.next,0,none⟩) 1 1,h.new (.row [.pointer a] 128 0 false)):=by kernel_rfl
abbrev Gr:=Nat×Nat×List Value×List zAF
def inG (x:Gr) (c:Nat):Prop:=c=x.1\/c=x.2.1\/∃ (i:Nat) (y:Value),x.2.2.1[i]?=some y/\zo y c
def noInner (L:GL):Prop:=∀ (j:Nat) (g:Int) (l:List GT),L.labs[j]?=some (g,l)->g≠-1
def GrOf (L:GL) (x:Gr):Prop:=((x.2.2.1.length:Nat):Int)=L.n/\∀ (i:Nat) (S:zAF),x.2.2.2[i]?=some S->StOK x.2.2.1.length (noInner L) S/\S.length<=100000
abbrev ptr (b:Nat):Value:=.pointer (some ⟨b,0,none⟩)
structure Outs (loc:Nat) (h:AH) (out:Value) (gs:List Gr):Prop where
 sl:(out=.slice none 0 0/\gs=[])\/∃ bo,out=.slice (some ⟨bo,0,none⟩) gs.length (UNK+1)/\h.get bo=some (.row (gs.map fun x=>ptr x.1) 128 1 false)/\bo<h.next/\loc<=bo
 gg:∀ x∈gs,GG loc h x.1 x.2.1 x.2.2.1 x.2.2.2
 sep:∀ x∈gs,∀ c,inG x c->¬ zo out c
theorem Outs.fx {P:Nat->Prop} {loc:Nat} {h h':AH} {out:Value} {gs:List Gr} (O:Outs loc h out gs) (f:Fx P h h') (h1:∀ c,zo out c->¬ P c) (h2:∀ x∈gs,∀ c,inG x c->¬ P c):Outs loc h' out gs:=by
 refine ⟨?_,fun x hx=>(O.gg x hx).fx f (h2 x hx _ (.inl rfl)) (h2 x hx _ (.inr (.inl rfl))) (fun i c b hc hb=>h2 x hx b (.inr (.inr ⟨i,c,hc,hb⟩))),O.sep⟩
 rcases O.sl with e|⟨bo,e1,e2,e3,e4⟩
 ·exact .inl e
 ·exact .inr ⟨bo,e1,(f.get bo e3 (h1 bo ⟨_,_,e1⟩)).trans e2,Nat.lt_of_lt_of_le e3 f.next,e4⟩
theorem Outs.lt {loc:Nat} {h:AH} {out:Value} {gs:List Gr} (O:Outs loc h out gs) {c:Nat} (hc:zo out c\/∃ x∈gs,inG x c):c<h.next/\loc<=c:=by
 rcases hc with ⟨n,cap,hc⟩|⟨x,hx,hc⟩
 ·rcases O.sl with ⟨e,_⟩|⟨bo,e1,e2,e3,e4⟩
  ·rw [e] at hc;cases hc
  ·rw [e1] at hc
   simp only [Value.slice.injEq,Option.some.injEq,Addr.mk.injEq] at hc
   rw [← hc.1.1];exact ⟨e3,e4⟩
 ·have G:=O.gg x hx
  rcases hc with rfl|rfl|⟨i,y,hy,hb⟩
  ·exact ⟨G.ltg,G.locg⟩
  ·exact ⟨G.lts,G.locs⟩
  ·have hi:i<x.2.2.2.length:=by rw [← G.len];exact (List.getElem?_eq_some_iff.1 hy).1
   exact ⟨(G.cell i y _ hy (List.getElem?_eq_getElem hi)).lt hb,(G.blk i y c hy hb).2.2⟩
theorem outs_app {loc:Nat} {h:AH} (hok:h.ok) (hloc:loc<=h.next) {out:Value} {gs:List Gr} (O:Outs loc h out gs) (hn:gs.length<=1000) (x:Gr) (hx:GG loc h x.1 x.2.1 x.2.2.1 x.2.2.2) (hsep:∀ c,inG x c->¬ zo out c) :
  ∃ out' h3,zAC E .append [126,126] (some [out,.slice (some ⟨h.next,0,none⟩) 1 1]) (h.new (.row [ptr x.1] 128 0 false))=one (out',h3)/\Outs loc h3 out' (gs++[x])/\Fx (fun c=>zo out c) h h3/\(∀ c,zo out' c->h.next<=c):=by
 have hrow:=zI h (.row [ptr x.1] 128 0 false)
 have hlx:∀ c,inG x c->c<h.next:=by
  intro c hc
  rcases hc with rfl|rfl|⟨i,y,hy,hb⟩
  ·exact hx.ltg
  ·exact hx.lts
  ·have hi:i<x.2.2.2.length:=by rw [← hx.len];exact (List.getElem?_eq_some_iff.1 hy).1
   exact (hx.cell i y _ hy (List.getElem?_eq_getElem hi)).lt hb
 have hnew:∀ (n cap c:Nat),zo (.slice (some ⟨h.next+1,0,none⟩) n cap) c->c=h.next+1:=by
  rintro n cap c ⟨m,cap',e⟩
  simp only [Value.slice.injEq,Option.some.injEq,Addr.mk.injEq] at e
  exact e.1.1.symm
 have fin:∀ {h3:AH} {cap:Nat},cap=UNK+1->h3.next=h.next+2->Fx (fun c=>zo out c) h h3->h3.get (h.next+1)=some (.row ((gs++[x]).map fun x=>ptr x.1) 128 1 false)->Outs loc h3 (.slice (some ⟨h.next+1,0,none⟩) (gs.length+1) cap) (gs++[x]):=by
  rintro h3 cap rfl e1 f e2
  refine ⟨.inr ⟨h.next+1,by simp,e2,by omega,by omega⟩,?_,?_⟩
  ·intro y hy
   rcases List.mem_append.1 hy with hy|hy
   ·exact (O.gg y hy).fx f (O.sep y hy _ (.inl rfl)) (O.sep y hy _ (.inr (.inl rfl))) (fun i c b hc hb=>O.sep y hy b (.inr (.inr ⟨i,c,hc,hb⟩)))
   ·simp only [List.mem_singleton] at hy
    subst hy
    exact hx.fx f (hsep _ (.inl rfl)) (hsep _ (.inr (.inl rfl))) (fun i c b hc hb=>hsep b (.inr (.inr ⟨i,c,hc,hb⟩)))
  ·intro y hy c hc hb
   have hc1:=hnew _ _ c hb
   rcases List.mem_append.1 hy with hy|hy
   ·have:=(O.lt (.inr ⟨y,hy,hc⟩)).1
    omega
   ·simp only [List.mem_singleton] at hy
    subst hy
    have:=hlx c hc
    omega
 rcases O.sl with ⟨rfl,rfl⟩|⟨bo,rfl,e2,e3,e4⟩
 ·refine ⟨_,_,append_nil elt126 hrow rfl,fin rfl rfl (((Fx.refl hok).new _).new _) ?_,((Fx.refl hok).new _).new _,fun c hc=>by rw [hnew _ _ c hc];omega⟩
  exact zI (h.new _) _
 ·have hb:(h.new (.row [ptr x.1] 128 0 false)).get bo=some (.row (gs.map fun x=>ptr x.1) 128 1 false):=by rw [zK (by omega)];exact e2
  have f1:Fx (fun c=>zo (.slice (some ⟨bo,0,none⟩) gs.length (UNK+1)) c) h (h.new (.row [ptr x.1] 128 0 false)):=(Fx.refl hok).new _
  have f2:=(f1.upd (b:=bo) (.inl ⟨_,_,rfl⟩) none).new (.row ((gs.map fun x=>ptr x.1)++[ptr x.1]) 128 1 false)
  refine ⟨_,_,zDA elt126 (by omega) hb (by simp) (by omega) hrow rfl rfl,fin rfl rfl f2 ?_,f2,fun c hc=>by rw [hnew _ _ c hc];omega⟩
  rw [List.map_append]
  exact zI ((h.new _).upd bo none) _
def zAz (nums:List Int) (L:GL):List zAF:=zCr nums (List.replicate L.n.toNat []) L.eds
def zDT:List CL->List GL->List (List zAF)
 | _,[]=>[]
 | cs,L::Ls=>zAz (zBV cs L.labs).1 L::zDT (zBV cs L.labs).2 Ls
theorem graphs4 {k:AH} {v0:Value} {els:List (List Value)} {Ls:List GL} (a:Args k v0 els Ls) {bn:Nat} (hbn:k.next<=bn) {K:KF} {ad:Option Addr} {cp:Nat} (hv0:v0=.slice ad els.length cp) {G:List (List zAF)}
  (hK:∀ kk out gs,Own k kk->Outs k.next kk out gs->gs.length=els.length->(∀ (i:Nat) (x:Gr) (L:GL),gs[i]?=some x->Ls[i]?=some L->GrOf L x)->gs.map (fun x=>x.2.2.2)=G->K .ret [out] kk) :
  ∀ (m i:Nat),i+m=els.length->∀ kk v n out gs,Own k kk->NM k kk bn v n->(∀ c,zo v c->k.next<=c)->n.length<=4000*els.length+4000*i->gs.map (fun x=>x.2.2.2)++zDT n (Ls.drop i)=G->Outs k.next kk out gs->gs.length=i->
   (∀ (i:Nat) (x:Gr) (L:GL),gs[i]?=some x->Ls[i]?=some L->GrOf L x)->(∀ c,(zo out c\/∃ x∈gs,inG x c)->c≠bn/\¬ zo v c)->
   P90_13 true K (ptr bn) out v0 (.int .i64 (els.length:Int)) (.int .i64 (i:Int)) kk:=by
 have hfew:=a.few
 intro m
 induction m with
 | zero=>
  intro i hi kk v n out gs ho hm hb hn hGG hO hgl hgr hsep
  refine P90_13_of ?_
  simp only [zb,zA,zAK]
  refine ⟨fun h=>by omega,fun _=>P90_29_of ?_⟩
  exact hK kk out gs ho hO (by omega) hgr (by rw [List.drop_eq_nil_of_le (by have:=a.len;omega)] at hGG;simpa [zDT] using hGG)
 | succ m ih=>
  intro i hi kk v n out gs ho hm hb hn hGG hO hgl hgr hsep
  have hin:i<els.length:=by omega
  refine P90_13_of ?_
  simp only [zb,zA,zAK]
  refine ⟨fun _=>P90_14_of ?_,fun h=>by omega⟩
  obtain ⟨L,b,o,c,vs,ty,es,ro,vl,ve,elsL,q0,q1,q2,q3,q4,q5,q6,q7,q8,q9,q10,q11⟩:=a.at hin
  have gb:kk.get b=some (.row vs ty es ro):=(ho.ext.get b q3).trans q2
  rw [hv0] at q1
  simp only [Value.slice.injEq] at q1
  obtain ⟨q11',_,_⟩:=q1
  subst q11'
  obtain ⟨s1,s2,s3,s4⟩:=zC9 q11
  obtain ⟨N,hN⟩:=Int.eq_ofNat_of_zero_le (show 0<=L.n by omega)
  obtain ⟨al,cl,hvl⟩:=q8.slice
  rw [RLab.length q9] at hvl
  obtain ⟨ae,ce,hve⟩:=q10.slice
  rw [List.length_map] at hve
  have hbox:=box25 (k:=kk) (e:=[.int .i64 L.n,vl,ve]) (by simp [zn];exact ⟨q6,q7⟩) rfl
  simp only [hv0,ia_82 hin,zA,za ta_25 gb q4,q5,z_25,zd,zL,zS,hbox]
  refine P90_15_of ?_
  have hkn:=ho.ext.next
  have f1:Fx NoB kk ((kk.new (.row [.int .i64 0,.slice none 0 0,.slice none 0 0] 25 0 false)).upd kk.next (some (.row [.int .i64 L.n,vl,ve] 25 0 false))):=((Fx.refl ho.ext.ok).new _).upd (.inr (Nat.le_refl _)) _
  have t1:((kk.new (.row [.int .i64 0,.slice none 0 0,.slice none 0 0] 25 0 false)).upd kk.next (some (.row [.int .i64 L.n,vl,ve] 25 0 false))).get kk.next=some (.row [.int .i64 L.n,vl,ve] 25 0 false):=zQ _ _ _
  have n1:((kk.new (.row [.int .i64 0,.slice none 0 0,.slice none 0 0] 25 0 false)).upd kk.next (some (.row [.int .i64 L.n,vl,ve] 25 0 false))).next=kk.next+1:=rfl
  generalize ((kk.new (.row [.int .i64 0,.slice none 0 0,.slice none 0 0] 25 0 false)).upd kk.next (some (.row [.int .i64 L.n,vl,ve] 25 0 false)))=k1 at f1 t1 n1
  have l0:=zD (P:=E) zAQ (o:=0) t1
  simp only [lnth] at l0
  rw [hN] at l0
  simp only [zBT,Nat.add_zero,l0,zA,mk129 (show N<=1000000 by omega),zL,pb131,zd,zS]
  refine P90_16_of ?_
  have f2:Fx NoB kk ((k1.new (.row (List.replicate N (.slice none 0 0)) 132 0 false)).new (.row [.slice (some ⟨k1.next,0,none⟩) N N] 131 0 false)):=(f1.new _).new _
  have t2:((k1.new (.row (List.replicate N (.slice none 0 0)) 132 0 false)).new (.row [.slice (some ⟨k1.next,0,none⟩) N N] 131 0 false)).get kk.next=some (.row [.int .i64 L.n,vl,ve] 25 0 false):=by
   rw [zK (by simp;omega),zK (by omega)];exact t1
  have ts2:((k1.new (.row (List.replicate N (.slice none 0 0)) 132 0 false)).new (.row [.slice (some ⟨k1.next,0,none⟩) N N] 131 0 false)).get k1.next=some (.row (List.replicate N (.slice none 0 0)) 132 0 false):=by
   rw [zK (by simp)];exact zI _ _
  have tg2:((k1.new (.row (List.replicate N (.slice none 0 0)) 132 0 false)).new (.row [.slice (some ⟨k1.next,0,none⟩) N N] 131 0 false)).get (k1.next+1)=some (.row [.slice (some ⟨k1.next,0,none⟩) N N] 131 0 false):=zI (k1.new _) _
  have n2:((k1.new (.row (List.replicate N (.slice none 0 0)) 132 0 false)).new (.row [.slice (some ⟨k1.next,0,none⟩) N N] 131 0 false)).next=k1.next+2:=rfl
  simp only [AH.next_new]
  generalize ((k1.new (.row (List.replicate N (.slice none 0 0)) 132 0 false)).new (.row [.slice (some ⟨k1.next,0,none⟩) N N] 131 0 false))=k2 at f2 t2 ts2 tg2 n2
  have l1:=zD (P:=E) ta_22 (o:=1) t2
  simp only [lnth] at l1
  rw [hvl] at l1
  simp only [zBB,Nat.zero_add,l1,zA,len90_16_2,mk47 (show L.labs.length<=1000000 by omega),zL]
  refine P90_17_of ?_
  have f3:Fx NoB kk (k2.new (.row (List.replicate L.labs.length (.int .i64 0)) 3 0 false)):=f2.new _
  have t3:(k2.new (.row (List.replicate L.labs.length (.int .i64 0)) 3 0 false)).get kk.next=_:=(zK (by omega)).trans t2
  have ts3:(k2.new (.row (List.replicate L.labs.length (.int .i64 0)) 3 0 false)).get k1.next=_:=(zK (by omega)).trans ts2
  have tg3:(k2.new (.row (List.replicate L.labs.length (.int .i64 0)) 3 0 false)).get (k1.next+1)=_:=(zK (by omega)).trans tg2
  have tm3:(k2.new (.row (List.replicate L.labs.length (.int .i64 0)) 3 0 false)).get k2.next=some (.row (ints (List.replicate L.labs.length 0)) 3 0 false):=by
   rw [zI];simp [ints]
  have n3:(k2.new (.row (List.replicate L.labs.length (.int .i64 0)) 3 0 false)).next=k2.next+1:=rfl
  generalize (k2.new (.row (List.replicate L.labs.length (.int .i64 0)) 3 0 false))=k3 at f3 t3 ts3 tg3 tm3 n3
  have l3:=zD (P:=E) ta_22 (o:=1) t3
  simp only [lnth] at l3
  rw [hvl] at l3
  simp only [zBB,Nat.zero_add,l3,zA,len90_17_2]
  have o3:=f3.own ho (fun _ h=>h.elim)
  have hm3:=hm.fx f3 (fun h=>h) (fun _ _ h=>h)
  have hbnlt:=hm.lt
  have hvlt:∀ c,zo v c->c<kk.next:=fun c hc=>blkOf_lt hm hc
  have key:=graphs2 (k:=k) hbn (K:=K) (vl:=vl) hvl q8 q9 s3 (v8:=out) (v10:=ptr kk.next) (v11:=ptr (k1.next+1)) (v34:=.slice (some ⟨b,o,none⟩) els.length cp) (v35:=.int .i64 (els.length:Int)) (v36:=.int .i64 (i:Int))
   (bm:=k2.next) (base:=n.length) (by omega) (by omega) (k0:=k3) (w0:=v) (by omega) (N1:=(zBV n L.labs).1) (cs1:=(zBV n L.labs).2) ?_ L.labs.length 0 (by omega) k3 v n (List.replicate L.labs.length 0) o3 hm3 hb (by omega) rfl (by simp) (Fx.refl o3.ext.ok) (fun c hc=>.inl hc) (by omega) (fun h=>by have:=hvlt _ h;omega) (by omega) tm3 (by simp) (fun i h=>by omega)
  ·rw [hvl] at key
   simpa using key
  ·intro kk4 v4 n4 nums o4 hm4 hb4 hn4 hcs4 hnums4 f4 hbl4 hne4 hnb4 hrow4 hlen4 hok4
   refine P90_22_of ?_
   have hsafe:∀ c,k3.next<=kk.next+10->c<k3.next->kk.next<=c->c≠k2.next->¬ ((c=bn\/zo v c)\/c=k2.next):=by
    intro c _ h1 h2 h3
    rintro ((h|h)|h)
    ·omega
    ·have:=hvlt c h;omega
    ·exact h3 h
   have t4:=(f4.get kk.next (by omega) (hsafe _ (by omega) (by omega) (by omega) (by omega))).trans t3
   have ts4:=(f4.get k1.next (by omega) (hsafe _ (by omega) (by omega) (by omega) (by omega))).trans ts3
   have tg4:=(f4.get (k1.next+1) (by omega) (hsafe _ (by omega) (by omega) (by omega) (by omega))).trans tg3
   have l4:=zD (P:=E) ta_23 (o:=2) t4
   simp only [lnth] at l4
   rw [hve] at l4
   simp only [zBA,Nat.zero_add,l4,zA,len90_22_2]
   have hkk4:=f4.next
   have hG4:GG k.next kk4 (k1.next+1) k1.next (List.replicate N (.slice none 0 0)) (List.replicate N []):=by
    refine ⟨?_,ts4,by simp,by omega,by omega,by omega,by omega,by omega,?_,?_,?_⟩
    ·rw [List.length_replicate];exact tg4
    ·intro i c S hc hS
     have:=List.getElem?_replicate (a:=Value.slice none 0 0) (n:=N) (i:=i)
     rw [hc] at this
     have h2:=List.getElem?_replicate (a:=([]:zAF)) (n:=N) (i:=i)
     rw [hS] at h2
     split at this
     ·rename_i hi
      rw [if_pos hi] at h2
      cases this;cases h2
      exact .inl ⟨rfl,rfl⟩
     ·cases this
    ·intro i c b hc hb
     obtain ⟨n,cap,rfl⟩:=hb
     have:=List.getElem?_replicate (a:=Value.slice none 0 0) (n:=N) (i:=i)
     rw [hc] at this
     split at this <;> cases this
    ·intro i j c d b hc hd hb
     obtain ⟨n,cap,rfl⟩:=hb
     have:=List.getElem?_replicate (a:=Value.slice none 0 0) (n:=N) (i:=i)
     rw [hc] at this
     split at this <;> cases this
   have hrepl:∀ (i:Nat) (x:Value) (c:Nat),(List.replicate N (Value.slice none 0 0))[i]?=some x->¬ zo x c:=by
    rintro i x c hx ⟨n,cap,rfl⟩
    have:=List.getElem?_replicate (a:=Value.slice none 0 0) (n:=N) (i:=i)
    rw [hx] at this
    split at this <;> cases this
   have key3:=graphs3 (k:=k) (K:=K) (L:=L) hve q10 q11 hN (v3:=ptr bn) (v8:=out) (v34:=.slice (some ⟨b,o,none⟩) els.length cp) (v35:=.int .i64 (els.length:Int)) (v36:=.int .i64 (i:Int)) (bm:=k2.next) (bg:=k1.next+1) (bs:=k1.next) hlen4 hok4
    (k0:=kk4) (cells0:=List.replicate N (.slice none 0 0)) (SS1:=zAz nums L) (vis:=noInner L) (fun h=>h) ?_ L.eds.length 0 (by omega) kk4 (List.replicate N (.slice none 0 0)) (List.replicate N []) o4 hG4 (by simp) (fun i S hS=>by
     have h2:=List.getElem?_replicate (a:=([]:zAF)) (n:=N) (i:=i)
     rw [hS] at h2
     split at h2
     ·cases h2;exact ⟨(fun x hx=>by cases hx),by simp⟩
     ·cases h2) (by unfold zAz;rw [hN];rfl) (Fx.refl o4.ext.ok) (fun i x c hx hc=>absurd hc (hrepl i x c hx)) hrow4 (by omega) (by omega) (fun i x hx=>hrepl i x _ hx) (by omega)
   ·rw [hve] at key3
    simpa using key3
   ·intro kk5 cells SS o5 hG5 hNc hst hSS5 f5 hcb5
    refine P90_27_of ?_
    have f5':Fx (fun c=>c=k1.next) kk4 kk5:=f5.mono (fun c hc=>hc.elim (fun h=>.inl h) fun ⟨i,x,hx,hb⟩=>absurd hb (hrepl i x c hx))
    have hold:∀ c,(zo out c\/∃ x∈gs,inG x c)->c<kk.next/\c≠bn/\¬ zo v c:=fun c hc=>⟨(hO.lt hc).1,hsep c hc⟩
    have hO3:=hO.fx f3 (fun _ _ h=>h) (fun _ _ _ _ h=>h)
    have hO4:=hO3.fx f4 (fun c hc h=>by
     have:=hold c (.inl hc)
     rcases h with (h|h)|h
     ·exact this.2.1 h
     ·exact this.2.2 h
     ·omega) (fun x hx c hc h=>by
     have:=hold c (.inr ⟨x,hx,hc⟩)
     rcases h with (h|h)|h
     ·exact this.2.1 h
     ·exact this.2.2 h
     ·omega)
    have hO5:=hO4.fx f5' (fun c hc h=>by have:=hold c (.inl hc);omega) (fun x hx c hc h=>by have:=hold c (.inr ⟨x,hx,hc⟩);omega)
    have hinew:∀ c,inG (k1.next+1,k1.next,cells,SS) c->(c=k1.next+1\/c=k1.next\/kk4.next<=c):=by
     intro c hc
     rcases hc with h|h|⟨i',y,hy,hb⟩
     ·exact .inl h
     ·exact .inr (.inl h)
     ·exact .inr (.inr ((hcb5 i' y c hy hb).elim (fun ⟨i2,x2,h1,h2⟩=>absurd h2 (hrepl i2 x2 c h1)) fun h=>h))
    have hm5:NM k kk5 bn v4 n4:=hm4.fx f5' (fun h=>by omega) (fun c hc h=>by
     rcases hbl4 c hc with h'|h'
     ·have:=hvlt c h';omega
     ·omega)
    obtain ⟨out',h3,r1,r2,r3,r4⟩:=outs_app o5.ext.ok (by have:=o5.ext.next;exact this) hO5 (by omega) (k1.next+1,k1.next,cells,SS) hG5 (fun c hc h=>by
     have:=hold c (.inl h)
     rcases hinew c hc with h'|h'|h' <;> omega)
    simp only [zA,bs126,zL,r1]
    refine P90_28_of ?_
    simp only [zAM _ (add1 hin (by omega)),zA]
    have houtb:∀ c,zo out c->c≠bn/\¬ zo v4 c:=fun c hc=>by
     have:=hold c (.inl hc)
     refine ⟨this.2.1,fun h=>?_⟩
     rcases hbl4 c h with h'|h'
     ·exact this.2.2 h'
     ·omega
    have hm6:NM k h3 bn v4 n4:=hm5.fx r3 (fun h=>(houtb bn h).1 rfl) (fun c hc h=>(houtb c h).2 hc)
    have:=ih (i+1) (by omega) h3 v4 n4 out' (gs++[(k1.next+1,k1.next,cells,SS)]) (r3.own o5 (fun c hc=>(hO.lt (.inl hc)).2)) hm6 hb4 (by omega) (by rw [drop_at q0] at hGG;simp only [zDT] at hGG;rw [List.map_append,List.append_assoc,hcs4,← hGG,hSS5,hnums4];rfl) r2 (by simp [hgl]) (fun j x L' hx hL'=>by
     rcases Nat.lt_or_ge j gs.length with hj|hj
     ·rw [List.getElem?_append_left hj] at hx
      exact hgr j x L' hx hL'
     ·rw [List.getElem?_append_right hj] at hx
      have hj0:j=gs.length:=by
       have:=(List.getElem?_eq_some_iff.1 hx).1
       simp at this;omega
      subst hj0
      simp only [Nat.sub_self,List.getElem?_cons_zero,Option.some.injEq] at hx
      subst hx
      rw [hgl,q0] at hL'
      cases hL'
      exact ⟨by simp only;rw [hNc,hN],fun i S hS=>by simp only;rw [hNc];exact hst i S hS⟩) (fun c hc=>by
     rcases hc with hc|⟨x,hx,hc⟩
     ·have h1:=r4 c hc
      have h2:=hm5.lt
      refine ⟨by omega,fun h=>by have:=blkOf_lt hm5 h;omega⟩
     ·rcases List.mem_append.1 hx with hx|hx
      ·have:=hold c (.inr ⟨x,hx,hc⟩)
       refine ⟨this.2.1,fun h=>?_⟩
       rcases hbl4 c h with h'|h'
       ·exact this.2.2 h'
       ·omega
      ·simp only [List.mem_singleton] at hx
       subst hx
       have hc':=hinew c hc
       refine ⟨by rcases hc' with h'|h'|h' <;> omega,fun h=>?_⟩
       have h4:=blkOf_lt hm4 h
       rcases hbl4 c h with h5|h5
       ·have:=hvlt c h5
        rcases hc' with h'|h'|h' <;> omega
       ·rcases hc' with h'|h'|h' <;> omega)
    rw [hv0] at this
    simpa using this
theorem GG.same {loc bg bs:Nat} {h:AH} {cells:List Value} {SS:List zAF} (G:GG loc h bg bs cells SS) (w:Nat):GG loc ⟨h.t,h.next,w⟩ bg bs cells SS:=
 ⟨G.g,G.s,G.len,G.ne,G.ltg,G.lts,G.locg,G.locs,fun i c S hc hS=>G.cell i c S hc hS,G.blk,G.dis⟩
def graphsOf (Ls:List GL):List (List zAF):=zDT (passAll Ls []) Ls
theorem call90 {k:AH} {v0:Value} {els:List (List Value)} {Ls:List GL} (hok:k.ok) (hne:els.length≠0) (a:Args k v0 els Ls) :
  Ev true ((zX E).call 90 [v0] k) fun x=>∃ gs,Outs k.next x.2 x.1 gs/\gs.length=els.length/\(∀ (i:Nat) (y:Gr) (L:GL),gs[i]?=some y->Ls[i]?=some L->GrOf L y)/\gs.map (fun x=>x.2.2.2)=graphsOf Ls/\Fx NoB k x.2:=by
 obtain ⟨ad,cp,hv⟩:=a.arr.slice
 refine F90_some (Rp:=fun x k'=>∃ gs,Outs k.next k' x gs/\gs.length=els.length/\(∀ (i:Nat) (y:Gr) (L:GL),gs[i]?=some y->Ls[i]?=some L->GrOf L y)/\gs.map (fun x=>x.2.2.2)=graphsOf Ls/\Fx NoB k k') (P90_0_of ?_)
 refine P90_1_of ?_
 simp only [z_197,zd,zL,zS]
 refine P90_2_of ?_
 have o1:=(Own.fresh k).new (.row [.slice none 0 0] 197 0 false)
 have t1:=zI k.fresh (.row [.slice none 0 0] 197 0 false)
 have n1:(k.fresh.new (.row [.slice none 0 0] 197 0 false)).next=k.next+1:=rfl
 simp only [zZ] at t1 ⊢
 generalize k.fresh.new (.row [.slice none 0 0] 197 0 false)=k1 at o1 t1 n1
 have hm:NM k k1 k.next (.slice none 0 0) []:=⟨t1,by omega,.inl ⟨rfl,rfl⟩⟩
 have hnb:∀ c,¬ zo (.slice none 0 0) c:=by rintro c ⟨n,cap,h⟩;cases h
 rw [hv]
 simp only [zA,len90_2_1]
 rw [← hv]
 have a':Args k v0 els Ls:=a
 refine graphs1 a' (bn:=k.next) (Nat.le_refl _) hv (fin:=passAll Ls []) (fun kk v n ho hm hb hn hfin=>P90_11_of ?_) els.length 0 (by omega) k1 (.slice none 0 0) [] o1 hm (fun c h=>absurd h (hnb c)) (by simp) (by simp)
 refine P90_12_of ?_
 rw [hv]
 simp only [zA,len90_12_1]
 rw [← hv]
 refine graphs4 a' (bn:=k.next) (Nat.le_refl _) hv (G:=graphsOf Ls) (fun kk out gs ho hO hl hg hGe=>?_) els.length 0 (by omega) kk v n (.slice none 0 0) [] ho hm hb (by omega) (by rw [hfin];rfl) ⟨.inl ⟨rfl,rfl⟩,by simp,by simp⟩ rfl (by simp) (fun c h=>by
  rcases h with h|⟨x,hx,_⟩
  ·exact absurd h (hnb c)
  ·cases hx)
 simp only [zAD,zT,true_and]
 have hfl:zj out=false:=by
  rcases hO.sl with ⟨_,h⟩|⟨bo,h,_⟩
  ·rw [h] at hl;simp at hl;omega
  ·rw [h];rfl
 refine ⟨.inl hfl,gs,?_,hl,hg,hGe,?_⟩
 ·exact ⟨hO.sl,fun x hx=>(hO.gg x hx).same _,hO.sep⟩
 ·refine ⟨?_,ho.ext.next,fun c hc _=>ho.ext.get c hc,fun m h1 _ h3=>?_⟩
  ·show cond (Nat.ble k.wm kk.wm) k.wm kk.wm<=kk.next+UNK
   have:=ho.ext.ok
   unfold AH.ok at this
   cases hcc:Nat.ble k.wm kk.wm with
   | true=>rw [ble_true] at hcc;simp only [cond_true];omega
   | false=>exact this
  ·show m<=cond (Nat.ble k.wm kk.wm) k.wm kk.wm
   have:=ho.wm
   cases hcc:Nat.ble k.wm kk.wm with
   | true=>exact h1
   | false=>simp only [cond_false];omega
abbrev Rel:=List (Int×Int)
def ent (R:Rel):List (Value×Value):=R.map fun p=>(.agg ⟨zE p⟩,.bool true)
theorem u54:und E 54=some (.array 2 3):=und_54
theorem u3:und E 3=some (.int .i64):=by kernel_rfl
theorem mk174:mapKE E 174=some (54,4):=by kernel_rfl
theorem z4:zv E 4=some (.bool false):=by kernel_rfl
theorem allInts2 (a b c d:Int):zAm [.int .i64 a,.int .i64 b] [.int .i64 c,.int .i64 d]=some (decide ((a,b)=(c,d))):=by
 have hb:zAm [.int .i64 b] [.int .i64 d]=some (decide (b=d)):=by
  simp only [zAm]
  have:keq .i64 .i64=true:=rfl
  simp only [this,if_true,zCt]
  by_cases h:b=d
  ·simp [h]
  ·have:(b==d)=false:=by simpa using h
   simp [this,h]
 simp only [zAm] at hb ⊢
 have hk:keq .i64 .i64=true:=rfl
 simp only [hk,if_true,zCt] at hb ⊢
 rw [hb]
 by_cases h:a=c
 ·simp [h]
 ·have:(a==c)=false:=by simpa using h
  simp [this,h]
theorem keyEq54 (p q:Int×Int):zBe E 54 (.agg ⟨zE p⟩) (.agg ⟨zE q⟩)=some (decide (p=q)):=by
 simp only [zBe,u54,u3,ts_3,zE,zA4]
 show cond (Nat.beq (0+1+1) 2) (zAm [.int .i64 p.1,.int .i64 p.2] [.int .i64 q.1,.int .i64 q.2]) none=_
 rw [allInts2]
 rfl
theorem keyOk54 (p:Int×Int):keyOk E 54 (.agg ⟨zE p⟩)=true:=by
 simp only [keyOk,u54,u3,ts_3,zE];rfl
theorem find54:∀ {R:Rel},R.Nodup->∀ q:Int×Int,zAe E 54 (.agg ⟨zE q⟩) (ent R)=some (if q∈R then some (.bool true) else none)
 | [],_,q=>by simp [ent,zAe]
 | p::R,h,q=>by
  obtain ⟨h1,h2⟩:=List.nodup_cons.1 h
  have ih:=find54 h2 q
  simp only [ent,List.map_cons,zAe] at ih ⊢
  rw [keyEq54,ih]
  by_cases e:q=p
  ·subst e
   simp [h1]
  ·simp [e]
theorem look174 {h:AH} {m ver:Nat} {R:Rel} (hm:h.get m=some (.map (ent R) ver)) (hR:R.Nodup) (q:Int×Int) :
  zDG E 174 false (some (.map (some m))) (some (.agg ⟨zE q⟩)) h=some (.bool (decide (q∈R))):=by
 simp only [zDG,lookupV,mk174,entriesOf,hm,keyOk54,cond_true,find54 hR]
 by_cases e:q∈R
 ·simp [e,foundV,okV]
 ·simp [e,foundV,z4,okV]
theorem pb54 {a b:Int}:zAg E 54 (some [(0,.int .i64 a),(1,.int .i64 b)])=some (.agg ⟨zE (a,b)⟩):=by kernel_rfl
abbrev zAk (x y:Value) (m:Nat):List Value:=[x,y,.map (some m)]
theorem call123 {k:AH} {x y:Value} {m ver:Nat} {R:Rel} (hok:k.ok) (hm:k.get m=some (.map (ent R) ver)) (hml:m<k.next) (hR:R.Nodup) (s t:Int) :
  (zX E).call 123 [.agg ⟨zAk x y m⟩,.int .i64 s,.int .i64 t] k=some [(.bool (decide ((s,t)∈R)),k)]:=by
 refine F123_flat (s:=true) hok rfl (P123_0_of ?_)
 simp only [zd,zL,zS,zA]
 refine P123_1_of ?_
 have o1:=(Own.fresh k).new (.row (zAk x y m) 176 0 false)
 have t1:=zI k.fresh (.row (zAk x y m) 176 0 false)
 simp only [zZ] at t1 ⊢
 generalize k.fresh.new (.row (zAk x y m) 176 0 false)=k1 at o1 t1
 have l2:=zD (P:=E) ta_174 (o:=2) t1
 simp only [lnth,zAk] at l2
 have hm1:=(o1.ext.get m hml).trans hm
 simp only [fa_176_2,Nat.zero_add,l2,zA,pb54,look174 hm1 hR,zAD,zT,true_and]
 exact o1.wm
def stepIs (R:Rel) (x y:Int×Int):Bool:=decide (y.1=x.1)&&decide ((x.2,y.2)∈R)
theorem call174 {k:AH} {gx gy:Value} {m ver:Nat} {R:Rel} {x y:Int×Int} {bx bf ty1 ty2:Nat} (hok:k.ok) (hm:k.get m=some (.map (ent R) ver)) (hml:m<k.next) (hR:R.Nodup) (hx:k.get bx=some (.row (zE x) ty1 0 false)) (hxl:bx<k.next) (hf:k.get bf=some (.row (zAk gx gy m) ty2 0 false)) (hfl:bf<k.next) :
  (zX E).call 174 [.agg ⟨zE y⟩,ptr bx,ptr bf] k=some [(.bool (stepIs R x y),k)]:=by
 refine F174_flat (s:=true) hok rfl (P174_0_of ?_)
 simp only [zd,zL,zS,zA]
 refine P174_1_of ?_
 have o1:=(Own.fresh k).new (.row (zE y) 134 0 false)
 have t1:=zI k.fresh (.row (zE y) 134 0 false)
 simp only [zZ] at t1 ⊢
 generalize k.fresh.new (.row (zE y) 134 0 false)=k1 at o1 t1
 have hx1:=(o1.ext.get bx hxl).trans hx
 have hf1:=(o1.ext.get bf hfl).trans hf
 have hm1:=(o1.ext.get m hml).trans hm
 have y0:=zD (P:=E) zAQ (o:=0) t1
 have y1:=zD (P:=E) zAQ (o:=1) t1
 have x0:=zD (P:=E) zAQ (o:=0) hx1
 have x1:=zD (P:=E) zAQ (o:=1) hx1
 have lf:=za (P:=E) ta_176 (o:=0) hf1 (by simp [zAk])
 rw [List.drop_zero,List.take_of_length_le (by simp [zAk])] at lf
 simp only [lnth,zE] at y0 y1 x0 x1
 simp only [fa_134_0,zCL,Nat.add_zero,Nat.zero_add,y0,x0,zA,zAV]
 by_cases e:y.1=x.1
 ·simp only [e,decide_true,zN,zY,beq_self_eq_true,cond_true,zDM,zCL,Nat.add_zero,Nat.zero_add,lf,x1,y1,zA,zR,call123 o1.ext.ok hm1 (Nat.lt_of_lt_of_le hml o1.ext.next) hR,zO,zJ,zAD,zT,true_and,stepIs,Bool.true_and]
  exact o1.wm
 ·simp only [e,decide_false,zN,zY,zt,zu,show (false==true)=false from rfl,cond_false,zA,zL,zJ,zAD,zT,true_and,stepIs,Bool.false_and]
  exact o1.wm
theorem cell_arr {h:AH} {c:Value} {S:zAF} (k:CellOK h c S):Arr h 2 c (S.map zE):=by
 rcases k with ⟨rfl,rfl⟩|⟨b,rfl,hg,hlt⟩
 ·exact .nil _ _
 ·have:=Arr.row (h:=h) (z:=2) (b:=b) (o:=0) (c:=UNK+2) (els:=S.map zE) hg hlt (by simp [stc_len]) (fun i e he=>by
   simp only [List.getElem?_map] at he
   cases hx:S[i]? with
   | none=>rw [hx] at he;cases he
   | some x=>
    rw [hx] at he
    simp only [Option.map_some,Option.some.injEq] at he
    subst he
    refine ⟨rfl,?_⟩
    rw [Nat.zero_add]
    have:∀ (S:zAF) (i:Nat),S[i]?=some x->((stc S).drop (i*2)).take 2=zE x:=by
     intro S
     induction S with
     | nil=>intro i h;simp at h
     | cons y S ih=>
      intro i h
      cases i with
      | zero=>simp at h;subst h;rfl
      | succ i=>
       rw [show (i+1)*2=i*2+2 by omega]
       have:=ih i (by simpa using h)
       rw [← this]
       rfl
    exact this S i hx)
  simpa using this
theorem idx_any (p:Nat->Bool) (n:Nat):decide (0<=zl p n 0)=(List.range n).any p:=by
 have h:=zA9 (p:=p) n 0
 cases hb:(List.range n).any p with
 | true=>
  have:¬ zl p n 0<0:=by
   intro hneg
   have:=h.2 hneg
   obtain ⟨j,hj,hp⟩:=List.any_eq_true.1 hb
   rw [this j (Nat.zero_le _) (by have:=List.mem_range.1 hj;omega)] at hp
   cases hp
  exact decide_eq_true (by omega)
 | false=>
  have:zl p n 0<0:=h.1 fun j _ hj=>by
   have:=List.any_eq_false.1 hb j (List.mem_range.2 (by omega))
   simpa using this
  exact decide_eq_false (by omega)
structure GV (h:AH) (bg:Nat) (SS:List zAF):Prop where
 ex:∃ loc bs cells,GG loc h bg bs cells SS
theorem GV.ext {h k:AH} {bg:Nat} {SS:List zAF} (g:GV h bg SS) (e:Ext h k):GV k bg SS:=by
 obtain ⟨loc,bs,cells,G⟩:=g.ex
 refine ⟨loc,bs,cells,(e.get bg G.ltg).trans G.g,(e.get bs G.lts).trans G.s,G.len,G.ne,Nat.lt_of_lt_of_le G.ltg e.next,Nat.lt_of_lt_of_le G.lts e.next,G.locg,G.locs,fun i c S hc hS=>?_,G.blk,G.dis⟩
 rcases G.cell i c S hc hS with a|⟨b,a1,a2,a3⟩
 ·exact .inl a
 ·exact .inr ⟨b,a1,(e.get b a3).trans a2,Nat.lt_of_lt_of_le a3 e.next⟩
def strongB (R:Rel) (S:zAF) (x:Int×Int):Bool:=S.any fun y=>stepIs R x y
def pAt (S:zAF) (f:Int×Int->Bool) (i:Nat):Bool:=match S[i]? with
 | some y=>f y
 | none=>false
theorem any_pAt (S:zAF) (f:Int×Int->Bool):(List.range S.length).any (pAt S f)=S.any f:=by
 rw [Bool.eq_iff_iff]
 simp only [List.any_eq_true,List.mem_range]
 constructor
 ·rintro ⟨i,hi,h⟩
  unfold pAt at h
  rw [List.getElem?_eq_getElem hi] at h
  exact ⟨_,List.getElem_mem hi,h⟩
 ·rintro ⟨y,hy,h⟩
  obtain ⟨i,hi⟩:=List.mem_iff_getElem?.1 hy
  refine ⟨i,(List.getElem?_eq_some_iff.1 hi).1,?_⟩
  unfold pAt
  rw [hi];exact h
theorem call128 {k:AH} {gx:Value} {bg m ver t:Nat} {R:Rel} {SS:List zAF} {S:zAF} {x:Int×Int} {v1:Value} (hok:k.ok) (hm:k.get m=some (.map (ent R) ver)) (hml:m<k.next) (hR:R.Nodup) (hg:GV k bg SS) (hS:SS[t]?=some S) (hSl:S.length<=1000000) :
  (zX E).call 128 [.agg ⟨zAk gx (ptr bg) m⟩,v1,.int .i64 (t:Int),.agg ⟨zE x⟩] k=some [(.bool (strongB R S x),k)]:=by
 refine F128_flat (s:=true) hok rfl (P128_0_of ?_)
 simp only [zd,zL,zS,zA]
 refine P128_1_of ?_
 have o1:=((Own.fresh k).new (.row (zAk gx (ptr bg) m) 178 0 false)).new (.row (zE x) 134 0 false)
 have tf:((k.fresh.new (.row (zAk gx (ptr bg) m) 178 0 false)).new (.row (zE x) 134 0 false)).get k.next=some (.row (zAk gx (ptr bg) m) 178 0 false):=by
  rw [zK (by simp)];exact zI k.fresh _
 have tx:((k.fresh.new (.row (zAk gx (ptr bg) m) 178 0 false)).new (.row (zE x) 134 0 false)).get (k.next+1)=some (.row (zE x) 134 0 false):=zI (k.fresh.new _) _
 have n1:((k.fresh.new (.row (zAk gx (ptr bg) m) 178 0 false)).new (.row (zE x) 134 0 false)).next=k.next+2:=rfl
 simp only [zZ,AH.next_new]
 generalize ((k.fresh.new (.row (zAk gx (ptr bg) m) 178 0 false)).new (.row (zE x) 134 0 false))=k1 at o1 tf tx n1
 obtain ⟨loc,bs,cells,G⟩:=(hg.ext o1.ext).ex
 have hm1:=(o1.ext.get m hml).trans hm
 have lf:=zD (P:=E) zCz (o:=1) tf
 have lg:=zD (P:=E) ta_129 (o:=0) G.g
 simp only [lnth,zAk] at lf lg
 have ht:t<cells.length:=by rw [G.len];exact (List.getElem?_eq_some_iff.1 hS).1
 have hc:cells[t]?=some cells[t]:=List.getElem?_eq_getElem ht
 have ls:=zD (P:=E) ta_132 (o:=0+t*1) G.s
 rw [zAl,show 0+t*1=t by omega,hc] at ls
 have ia:=ia_129 (b:=bs) (o:=0) (c:=cells.length) ht
 rw [show 0+t*1=t by omega] at ia
 have hcell:=G.cell t _ _ hc hS
 have hcf:=call173 (h0:=k1) (v:=cells[t]) (f:=.func (.func 174) #[] #[ptr (k.next+1),ptr k.next]) (p:=pAt S (stepIs R x)) (cell_arr hcell) (by simp;omega) (fun k2 hk2 i e he=>by
  simp only [List.getElem?_map] at he
  cases hy:S[i]? with
  | none=>rw [hy] at he;cases he
  | some y=>
   rw [hy] at he
   simp only [Option.map_some,Option.some.injEq] at he
   subst he
   have:=call174 (k:=k2) (y:=y) (gx:=gx) (gy:=ptr bg) hk2.ok ((hk2.get m (Nat.lt_of_lt_of_le hml o1.ext.next)).trans hm1) (Nat.lt_of_lt_of_le (Nat.lt_of_lt_of_le hml o1.ext.next) hk2.next) hR ((hk2.get _ (by omega)).trans tx) (by have:=hk2.next;omega) ((hk2.get _ (by omega)).trans tf) (by have:=hk2.next;omega)
   simp only [zCl,List.nil_append,List.cons_append,pAt,hy]
   exact this) (Ext.refl o1.ext.ok)
 simp only [zDM,fa_176_1,Nat.add_zero,Nat.zero_add,lf,zA,zBQ,fa_131_0,lg,ia,ls,zAR,zR,hcf,zO,zAD,zT,true_and]
 refine ⟨?_,o1.wm⟩
 rw [idx_any,List.length_map,any_pAt]
 rfl
theorem ev_list {α:Type} {l:List α} {Q:α->Prop} (h1:l≠[]) (h2:∀ a∈l,Q a):Ev false (some l) Q:=⟨l,rfl,h1,(fun h=>by cases h),h2⟩
theorem takes_mem {α:Type}:∀ (l pre:List α) (x:α×List α),x∈takes pre l->∃ l1 l2,l=l1++x.1::l2/\x.2=pre++l1++l2
 | [],_,x,h=>by cases h
 | a::l,pre,x,h=>by
  simp only [takes,List.mem_cons] at h
  rcases h with rfl|h
  ·exact ⟨[],l,rfl,by simp⟩
  ·obtain ⟨l1,l2,e1,e2⟩:=takes_mem l (pre++[a]) x h
   exact ⟨a::l1,l2,by rw [e1];rfl,by rw [e2];simp⟩
theorem range_map {h:AH} {m ver:Nat} {es:List (Value×Value)} (hm:h.get m=some (.map es ver)):wRange (some (.map (some m))) h=one (ptr h.next,h.new (.iter (some m) ver es none)):=by
 simp only [wRange,hm]
theorem next_nil {h:AH} {b m ver:Nat} {es:List (Value×Value)} {cur:Option (Value×Value)} (hb:h.get b=some (.iter (some m) ver [] cur)) (hm:h.get m=some (.map es ver)) :
  wNext false (some (ptr b)) h=one (.tuple #[.bool false],h):=by
 simp only [wNext,nextV,hb,hm,Nat.beq_refl,Bool.not_true,Bool.false_eq_true,if_false]
theorem next_cons {h:AH} {b m ver:Nat} {es left:List (Value×Value)} {cur:Option (Value×Value)} {Q:Value×AH->Prop} (hb:h.get b=some (.iter (some m) ver left cur)) (hm:h.get m=some (.map es ver)) (hl:left≠[])
  (hQ:∀ e l1 l2,left=l1++e::l2->Q (.tuple #[.bool true,e.1,e.2],h.upd b (some (.iter (some m) ver (l1++l2) (some e))))):Ev false (wNext false (some (ptr b)) h) Q:=by
 cases left with
 | nil=>exact absurd rfl hl
 | cons a l=>
  have:wNext false (some (ptr b)) h=some ((takes [] (a::l)).map fun x=>(.tuple #[.bool true,x.1.1,x.1.2],h.upd b (some (.iter (some m) ver x.2 (some x.1))))):=by
   simp only [wNext,nextV,hb,hm,Nat.beq_refl,Bool.not_true,Bool.false_eq_true,if_false]
  rw [this]
  refine ev_list (by simp [takes]) fun y hy=>?_
  obtain ⟨x,hx,rfl⟩:=List.mem_map.1 hy
  obtain ⟨l1,l2,e1,e2⟩:=takes_mem _ _ _ hx
  rw [e2]
  exact hQ x.1 l1 l2 e1
theorem entry_of {h:AH} {b m ver:Nat} {es left:List (Value×Value)} {e:Value×Value} (hb:h.get b=some (.iter (some m) ver left (some e))) (hm:h.get m=some (.map es ver)):rEntry (some (ptr b)) h=some (.tuple #[e.1,e.2]):=by
 simp only [rEntry,entryV,hb,hm,Nat.beq_refl,if_true]
theorem ent_split {R:Rel} {e:Value×Value} {l1 l2:List (Value×Value)} (h:ent R=l1++e::l2):∃ R1 p R2,R=R1++p::R2/\l1=ent R1/\e=(.agg ⟨zE p⟩,.bool true)/\l2=ent R2:=by
 unfold ent at h
 obtain ⟨R1,R3,e1,e2,e3⟩:=List.map_eq_append_iff.1 h
 obtain ⟨p,R2,e4,e5,e6⟩:=List.map_eq_cons_iff.1 e3
 exact ⟨R1,p,R2,by rw [e1,e4],e2.symm,e5.symm,e6.symm⟩
theorem ent_append (R1 R2:Rel):ent R1++ent R2=ent (R1++R2):=by simp [ent]
theorem box54 {k:AH} {p:Int×Int} :
  zh E 54 (k.new (.row [.int .i64 0,.int .i64 0] 54 0 false)) (some (ptr k.next)) (some (.agg ⟨zE p⟩))=one (undef,(k.new (.row [.int .i64 0,.int .i64 0] 54 0 false)).upd k.next (some (.row (zE p) 54 0 false))):=by
 rw [zw (P:=E) ts_54 (x:=.agg ⟨zE p⟩) (cs:=zE p) (zI k _) rfl rfl (by simp) (by simp [zE,zn])]
 rfl
theorem box134 {k:AH} {p:Int×Int} :
  zh E 134 (k.new (.row [.int .i64 0,.int .i64 0] 134 0 false)) (some (ptr k.next)) (some (.agg ⟨zE p⟩))=one (undef,(k.new (.row [.int .i64 0,.int .i64 0] 134 0 false)).upd k.next (some (.row (zE p) 134 0 false))):=by
 rw [zw (P:=E) ts_134 (x:=.agg ⟨zE p⟩) (cs:=zE p) (zI k _) rfl rfl (by simp) (by simp [zE,zn])]
 rfl
def allB (R:Rel) (SS:List zAF) (fB:Int×Int->Int×Int->Bool):Bool:=R.all fun p=>match SS[p.1.toNat]? with
 | some S=>S.all (fB p)
 | none=>true
theorem call124 {h0 k:AH} {b1 b2 m ver:Nat} {R:Rel} {SS:List zAF} {fol can:FuncId} {nm:ByteArray} {fB:Int×Int->Int×Int->Bool} (hh:Ext h0 k) (hm:h0.get m=some (.map (ent R) ver)) (hml:m<h0.next) (hg:GV h0 b1 SS)
  (hin:∀ p∈R,0<=p.1/\p.1<SS.length) (hsz:∀ (i:Nat) (S:zAF),SS[i]?=some S->S.length<=1000000)
  (hfol:∀ k',Ext h0 k'->∀ p∈R,∀ x S,SS[p.1.toNat]?=some S->x∈S->(zX E).call fol [.agg ⟨zAk (ptr b1) (ptr b2) m⟩,.int .i64 p.1,.int .i64 p.2,.agg ⟨zE x⟩] k'=some [(.bool (fB p x),k')]) :
  (zX E).call 124 [.agg ⟨zAk (ptr b1) (ptr b2) m⟩,.agg ⟨[.func (.func fol) #[] #[],.func (.func can) #[] #[],.string nm]⟩] k=some [(.bool (allB R SS fB),k)]:=by
 refine F124_flat (s:=false) hh.ok rfl (P124_0_of ?_)
 simp only [zd,zL,zS,zA]
 refine P124_1_of ?_
 have o1:=((Own.fresh k).new (.row (zAk (ptr b1) (ptr b2) m) 178 0 false)).new (.row [.func (.func fol) #[] #[],.func (.func can) #[] #[],.string nm] 112 0 false)
 have tf:((k.fresh.new (.row (zAk (ptr b1) (ptr b2) m) 178 0 false)).new (.row [.func (.func fol) #[] #[],.func (.func can) #[] #[],.string nm] 112 0 false)).get k.next=some (.row (zAk (ptr b1) (ptr b2) m) 178 0 false):=by
  rw [zK (by simp)];exact zI k.fresh _
 have tm:((k.fresh.new (.row (zAk (ptr b1) (ptr b2) m) 178 0 false)).new (.row [.func (.func fol) #[] #[],.func (.func can) #[] #[],.string nm] 112 0 false)).get (k.next+1)=some (.row [.func (.func fol) #[] #[],.func (.func can) #[] #[],.string nm] 112 0 false):=zI (k.fresh.new _) _
 have n1:((k.fresh.new (.row (zAk (ptr b1) (ptr b2) m) 178 0 false)).new (.row [.func (.func fol) #[] #[],.func (.func can) #[] #[],.string nm] 112 0 false)).next=k.next+2:=rfl
 simp only [zZ,AH.next_new]
 generalize ((k.fresh.new (.row (zAk (ptr b1) (ptr b2) m) 178 0 false)).new (.row [.func (.func fol) #[] #[],.func (.func can) #[] #[],.string nm] 112 0 false))=k1 at o1 tf tm n1
 have e1:=hh.trans o1.ext
 have l2:=zD (P:=E) ta_174 (o:=2) tf
 simp only [lnth,zAk] at l2
 have hm1:=(e1.get m hml).trans hm
 simp only [zDM,fa_176_2,Nat.add_zero,Nat.zero_add,l2,zA,range_map hm1,zL]
 have loop:∀ (n:Nat) (Lf:Rel),Lf.length=n->(∀ p∈Lf,p∈R)->allB R SS fB=allB Lf SS fB->∀ l cur,Own k l->l.get k.next=some (.row (zAk (ptr b1) (ptr b2) m) 178 0 false)->l.get (k.next+1)=some (.row [.func (.func fol) #[] #[],.func (.func can) #[] #[],.string nm] 112 0 false)->
   l.get k1.next=some (.iter (some m) ver (ent Lf) cur)->k1.next<l.next->
   P124_2 false (KR E [.tmp 4] (fun x l=>x=.bool (allB R SS fB)/\k.next<=l.wm)) (ptr k.next) (ptr (k.next+1)) (ptr k1.next) l:=by
  intro n
  induction n with
  | zero=>
   intro Lf hLf hsub heq l cur ho hf hmm hit hlt
   have:Lf=[]:=List.length_eq_zero_iff.1 hLf
   subst this
   refine P124_2_of ?_
   have hml':=((hh.trans ho.ext).get m hml).trans hm
   simp only [next_nil hit hml',zL,zAJ,lnth,zA,zAA]
   refine P124_10_of ?_
   simp only [zA,zAD,zT,true_and]
   exact ⟨by rw [heq];rfl,ho.wm⟩
  | succ n ih=>
   intro Lf hLf hsub heq l cur ho hf hmm hit hlt
   refine P124_2_of ?_
   have he:=hh.trans ho.ext
   have hml':=(he.get m hml).trans hm
   refine next_cons hit hml' (by cases Lf with|nil=>simp at hLf|cons a l=>simp [ent]) fun e l1 l2 hsp=>?_
   obtain ⟨R1,p,R2,hR,hl1,hep,hl2⟩:=ent_split hsp
   subst hep
   rw [hl1,hl2,ent_append]
   simp only [zAJ,lnth,zA,z7]
   refine P124_3_of ?_
   have hkl:=ho.ext.next
   have o2:=ho.upd (b:=k1.next) (by omega) (some (.iter (some m) ver (ent (R1++R2)) (some (.agg ⟨zE p⟩,.bool true))))
   have i2:(l.upd k1.next (some (.iter (some m) ver (ent (R1++R2)) (some (.agg ⟨zE p⟩,.bool true))))).get k1.next=_:=zQ _ _ _
   have f2:(l.upd k1.next (some (.iter (some m) ver (ent (R1++R2)) (some (.agg ⟨zE p⟩,.bool true))))).get k.next=_:=(zU (by omega)).trans hf
   have m2:(l.upd k1.next (some (.iter (some m) ver (ent (R1++R2)) (some (.agg ⟨zE p⟩,.bool true))))).get (k.next+1)=_:=(zU (by omega)).trans hmm
   have n2:(l.upd k1.next (some (.iter (some m) ver (ent (R1++R2)) (some (.agg ⟨zE p⟩,.bool true))))).next=l.next:=rfl
   generalize (l.upd k1.next (some (.iter (some m) ver (ent (R1++R2)) (some (.agg ⟨zE p⟩,.bool true)))))=l2 at o2 i2 f2 m2 n2
   have hml2:=((hh.trans o2.ext).get m hml).trans hm
   simp only [entry_of i2 hml2,zA,zAJ,lnth,z_54,zd,zL,zS,box54]
   refine P124_4_of ?_
   have o3:=(o2.new (.row [.int .i64 0,.int .i64 0] 54 0 false)).upd (b:=l2.next) (by omega) (some (.row (zE p) 54 0 false))
   have p3:((l2.new (.row [.int .i64 0,.int .i64 0] 54 0 false)).upd l2.next (some (.row (zE p) 54 0 false))).get l2.next=some (.row (zE p) 54 0 false):=zQ _ _ _
   have i3:((l2.new (.row [.int .i64 0,.int .i64 0] 54 0 false)).upd l2.next (some (.row (zE p) 54 0 false))).get k1.next=_:=((zU (by omega)).trans (zK (by omega))).trans i2
   have f3:((l2.new (.row [.int .i64 0,.int .i64 0] 54 0 false)).upd l2.next (some (.row (zE p) 54 0 false))).get k.next=_:=((zU (by omega)).trans (zK (by omega))).trans f2
   have m3:((l2.new (.row [.int .i64 0,.int .i64 0] 54 0 false)).upd l2.next (some (.row (zE p) 54 0 false))).get (k.next+1)=_:=((zU (by omega)).trans (zK (by omega))).trans m2
   have n3:((l2.new (.row [.int .i64 0,.int .i64 0] 54 0 false)).upd l2.next (some (.row (zE p) 54 0 false))).next=l2.next+1:=rfl
   generalize ((l2.new (.row [.int .i64 0,.int .i64 0] 54 0 false)).upd l2.next (some (.row (zE p) 54 0 false)))=l3 at o3 p3 i3 f3 m3 n3
   have hpR:p∈R:=hsub p (by rw [hR];simp)
   obtain ⟨hp1,hp2⟩:=hin p hpR
   obtain ⟨s,hs⟩:=Int.eq_ofNat_of_zero_le hp1
   have hsS:s<SS.length:=by omega
   have hSs:SS[s]?=some SS[s]:=List.getElem?_eq_getElem hsS
   have hSp:SS[p.1.toNat]?=some SS[s]:=by rw [hs];exact hSs
   obtain ⟨loc,bs,cells,G⟩:=(hg.ext (hh.trans o3.ext)).ex
   have hsc:s<cells.length:=by rw [G.len];exact hsS
   have hcs:cells[s]?=some cells[s]:=List.getElem?_eq_getElem hsc
   have q0:=zD (P:=E) zCz (o:=0) f3
   have q1:=zD (P:=E) ta_129 (o:=0) G.g
   have q2:=zD (P:=E) zAQ (o:=0) p3
   have q3:=zD (P:=E) ta_132 (o:=0+s*1) G.s
   simp only [lnth,zAk,zE] at q0 q1 q2
   rw [zAl,show 0+s*1=s by omega,hcs] at q3
   rw [hs] at q2
   have ia:=ia_129 (b:=bs) (o:=0) (c:=cells.length) hsc
   rw [show 0+s*1=s by omega] at ia
   have hcell:=G.cell s _ _ hcs hSs
   obtain ⟨ca,cc,hcc⟩:=(cell_arr hcell).slice
   rw [List.length_map] at hcc
   have harr:=cell_arr hcell
   rw [hcc] at q3 harr
   simp only [zDM,fa_176_0,Nat.add_zero,q0,zA,zBQ,fa_131_0,q1,ia54_0,q2,ia,q3,len124_4_10]
   have hgood:allB Lf SS fB=((SS[s]).all (fB p)&&allB (R1++R2) SS fB):=by
    rw [hR]
    simp only [allB,List.all_append,List.all_cons,hSp]
    cases (SS[s]).all (fB p) <;> simp
   have steps:∀ (j i:Nat),i+j=(SS[s]).length->((SS[s]).drop i).all (fB p)=(SS[s]).all (fB p)->∀ l4,Ext l3 l4->k.next<=l4.wm->
     P124_5 false (KR E [.tmp 4] (fun x l=>x=.bool (allB R SS fB)/\k.next<=l.wm)) (ptr k.next) (ptr (k.next+1)) (ptr l2.next) (ptr k1.next) (.slice ca (SS[s]).length cc) (.int .i64 ((SS[s]).length:Int)) (.int .i64 (i:Int)) l4:=by
    intro j
    induction j with
    | zero=>
     intro i hi hall l4 he4 hw4
     have hx:=he4.next
     refine P124_5_of ?_
     simp only [zb,zA,zAK]
     refine ⟨fun h=>by omega,fun _=>?_⟩
     have ht:(SS[s]).all (fB p)=true:=by rw [← hall,List.drop_eq_nil_of_le (by omega)];rfl
     exact ih (R1++R2) (by rw [hR] at hLf;simp at hLf ⊢;omega) (fun q hq=>hsub q (by rw [hR];rcases List.mem_append.1 hq with h|h <;> simp [h])) (by rw [heq,hgood,ht];rfl) l4 _ ⟨o3.ext.trans he4,hw4⟩
      ((he4.get _ (by omega)).trans f3) ((he4.get _ (by omega)).trans m3) ((he4.get _ (by omega)).trans i3) (by omega)
    | succ j ihj=>
     intro i hi hall l4 he4 hw4
     have hx:=he4.next
     have hin':i<(SS[s]).length:=by omega
     refine P124_5_of ?_
     simp only [zb,zA,zAK]
     refine ⟨fun _=>P124_6_of ?_,fun h=>by omega⟩
     have hat:((SS[s]).map zE)[i]?=some (zE (SS[s])[i]):=by simp [hin']
     obtain ⟨b',o',c',vs',ty',es',ro',hv',hb',hlt',hle',hz',hzl'⟩:=harr.load hat
     simp only [Value.slice.injEq] at hv'
     obtain ⟨hv1,_,_⟩:=hv'
     subst hv1
     have gb':=(he4.get b' hlt').trans hb'
     simp only [ia_132 hin',zA,za ta_134 gb' hle',hz',z_134,zd,zL,zS,box134]
     refine P124_7_of ?_
     have e5:=(he4.new (.row [.int .i64 0,.int .i64 0] 134 0 false)).upd (b:=l4.next) hx (some (.row (zE (SS[s])[i]) 134 0 false))
     have x5:((l4.new (.row [.int .i64 0,.int .i64 0] 134 0 false)).upd l4.next (some (.row (zE (SS[s])[i]) 134 0 false))).get l4.next=some (.row (zE (SS[s])[i]) 134 0 false):=zQ _ _ _
     have w5:k.next<=((l4.new (.row [.int .i64 0,.int .i64 0] 134 0 false)).upd l4.next (some (.row (zE (SS[s])[i]) 134 0 false))).wm:=z5 (by rw [wm_new];exact hw4) (by omega)
     generalize ((l4.new (.row [.int .i64 0,.int .i64 0] 134 0 false)).upd l4.next (some (.row (zE (SS[s])[i]) 134 0 false)))=l5 at e5 x5 w5
     have f5:=(e5.get _ (by omega)).trans f3
     have m5:=(e5.get _ (by omega)).trans m3
     have p5:=(e5.get _ (by omega)).trans p3
     have r0:=zD (P:=E) ta_109 (o:=0) m5
     have r1:=za (P:=E) ta_178 (o:=0) f5 (by simp [zAk])
     have r2:=zD (P:=E) zAQ (o:=0) p5
     have r3:=zD (P:=E) zAQ (o:=1) p5
     have r4:=za (P:=E) ta_134 (o:=0) x5 (by simp [zE])
     rw [List.drop_zero,List.take_of_length_le (by simp [zAk])] at r1
     rw [List.drop_zero,List.take_of_length_le (by simp [zE])] at r4
     simp only [lnth,zE] at r0 r2 r3
     have hcall:=hfol l5 ((hh.trans o3.ext).trans e5) p hpR (SS[s])[i] _ hSp (List.getElem_mem hin')
     simp only [fa_112_0,Nat.add_zero,Nat.zero_add,r0,r1,r2,r3,r4,zA,ia54_0,ia54_1,zR,hcall,zO,zp]
     have hdrop:((SS[s]).drop i).all (fB p)=(fB p (SS[s])[i]&&((SS[s]).drop (i+1)).all (fB p)):=by rw [List.drop_eq_getElem_cons hin',List.all_cons]
     cases hq:fB p (SS[s])[i] with
     | false=>
      simp only [Bool.not_false,z7]
      refine P124_8_of ?_
      simp only [zA,zAD,zT,true_and]
      exact ⟨by rw [heq,hgood,← hall,hdrop,hq];rfl,w5⟩
     | true=>
      simp only [Bool.not_true,zAA]
      refine P124_9_of ?_
      simp only [zAM _ (add1 hin' (by have:=hsz s _ hSs;omega)),zA]
      have:=ihj (i+1) (by omega) (by rw [← hall,hdrop,hq];rfl) l5 e5 w5
      simpa using this
   exact steps (SS[s]).length 0 (by omega) rfl l3 (Ext.refl o3.ext.ok) o3.wm
 exact loop R.length R rfl (fun p h=>h) rfl _ none (o1.new _) ((zK (by omega)).trans tf) ((zK (by omega)).trans tm) (zI _ _) (by simp)
def insP (q:Int×Int):Rel->Rel
 | []=>[q]
 | p::R=>if klt (.agg ⟨zE q⟩) (.agg ⟨zE p⟩) then q::p::R else p::insP q R
theorem insP_ent (q:Int×Int):∀ R:Rel,zA8 (.agg ⟨zE q⟩) (.bool true) (ent R)=ent (insP q R)
 | []=>rfl
 | p::R=>by
  have:=insP_ent q R
  simp only [ent,List.map_cons,zA8,insP] at this ⊢
  split
  ·rfl
  ·rw [this];rfl
theorem insP_mem (q:Int×Int):∀ (R:Rel) (x:Int×Int),x∈insP q R ↔ x=q\/x∈R
 | [],x=>by simp [insP]
 | p::R,x=>by
  simp only [insP]
  split
  ·simp
  ·simp only [List.mem_cons,insP_mem q R]
   constructor
   ·rintro (h|h|h) <;> simp [h]
   ·rintro (h|h|h) <;> simp [h]
theorem insP_nodup {q:Int×Int}:∀ {R:Rel},R.Nodup->q ∉ R->(insP q R).Nodup
 | [],_,_=>by simp [insP]
 | p::R,h,hq=>by
  obtain ⟨h1,h2⟩:=List.nodup_cons.1 h
  simp only [List.mem_cons,not_or] at hq
  simp only [insP]
  split
  ·exact List.nodup_cons.2 ⟨by simp [hq.1,hq.2],h⟩
  ·exact List.nodup_cons.2 ⟨by rw [insP_mem];simp [h1];exact fun e=>hq.1 e.symm,insP_nodup h2 hq.2⟩
theorem veq_pr (q:Int×Int):veq 3 (.agg ⟨zE q⟩) (.agg ⟨zE q⟩)=true:=by
 show veqs 2 [.int .i64 q.1,.int .i64 q.2] [.int .i64 q.1,.int .i64 q.2]=true
 simp only [veqs,zCA,Bool.and_self]
theorem setE (q:Int×Int):∀ {R:Rel},R.Nodup->zBv E 54 (.agg ⟨zE q⟩) (.bool true) (ent R)=some (ent R)
 | [],_=>rfl
 | p::R,h=>by
  obtain ⟨h1,h2⟩:=List.nodup_cons.1 h
  have ih:=setE q h2
  simp only [ent,List.map_cons,zBv] at ih ⊢
  rw [keyEq54,ih]
  by_cases e:q=p
  ·subst e
   simp [veq_pr]
  ·simp [e]
theorem upd174 {h:AH} {m ver:Nat} {R:Rel} (hm:h.get m=some (.map (ent R) ver)) (hR:R.Nodup) (q:Int×Int) :
  ∃ R',zAS E 174 (some (.map (some m))) (some (.agg ⟨zE q⟩)) (some (.bool true)) h=one (undef,h.upd m (some (.map (ent R') (ver+1))))/\R'.Nodup/\∀ x,x∈R' ↔ x=q\/x∈R:=by
 have hfl:zj (.agg ⟨zE q⟩)=true:=rfl
 by_cases e:q∈R
 ·refine ⟨R,?_,hR,fun x=>⟨.inr,fun h=>h.elim (fun h=>h ▸ e) id⟩⟩
  simp only [zAS,zBW,mk174,hm,keyOk54,hfl,Bool.and_self,cond_true,zCy,find54 hR,e,if_true,setE q hR,u1]
 ·refine ⟨insP q R,?_,insP_nodup hR e,fun x=>insP_mem q R x⟩
  simp only [zAS,zBW,mk174,hm,keyOk54,hfl,Bool.and_self,cond_true,zCy,find54 hR,e,if_false,insP_ent,u1]
theorem pb176 {a b:Option Addr} {m:Nat}:zAg E 176 (some [(0,.pointer a),(1,.pointer b),(2,.map (some m))])=some (.agg ⟨zAk (.pointer a) (.pointer b) m⟩):=by kernel_rfl
theorem box176 {k:AH} {a b:Option Addr} {m:Nat} :
  zh E 176 (k.new (.row [.pointer none,.pointer none,.map none] 176 0 false)) (some (ptr k.next)) (some (.agg ⟨zAk (.pointer a) (.pointer b) m⟩))=one (undef,(k.new (.row [.pointer none,.pointer none,.map none] 176 0 false)).upd k.next (some (.row (zAk (.pointer a) (.pointer b) m) 176 0 false))):=by
 rw [zw (P:=E) ts_176 (x:=.agg ⟨zAk (.pointer a) (.pointer b) m⟩) (cs:=zAk (.pointer a) (.pointer b) m) (zI k _) rfl rfl (by simp) (by simp [zAk,zn])]
 rfl
def zC0 (p:Int×Int):Int×Int:=(p.2,p.1)
theorem reach_map {h:AH} {lo b1 b2 m ver:Nat} {es:List (Value×Value)} (hb1:b1<lo) (hb2:b2<lo) (hm:lo<=m) (hg:h.get m=some (.map es ver)) (hes:es.flatMap (fun e=>zCJ 4 e.2)=[]) :
  zCh h lo 1000 (zCJ 4 (.agg ⟨zAk (ptr b1) (ptr b2) m⟩)) []=[m]:=by
 have e0:zCJ 4 (.agg ⟨zAk (ptr b1) (ptr b2) m⟩)=[b1,b2,m]:=rfl
 rw [e0]
 have s1:zCh h lo 1000 [b1,b2,m] []=zCh h lo 999 [b2,m] []:=by
  show (if Nat.ble (b1+1) lo||[].any (Nat.beq b1) then _ else _)=_
  rw [ble_true.2 (by omega)];rfl
 have s2:zCh h lo 999 [b2,m] []=zCh h lo 998 [m] []:=by
  show (if Nat.ble (b2+1) lo||[].any (Nat.beq b2) then _ else _)=_
  rw [ble_true.2 (by omega)];rfl
 have s3:zCh h lo 998 [m] []=zCh h lo 997 (idsIn (.map es ver)++[]) [m]:=by
  show (if Nat.ble (m+1) lo||[].any (Nat.beq m) then _ else (match h.get m with|some o=>zCh h lo 997 (idsIn o++[]) [m]|none=>_))=_
  rw [ble_false.2 (by omega),hg];rfl
 rw [s1,s2,s3]
 simp only [idsIn,hes,List.append_nil]
 rfl
theorem wmTo_fx {k l:AH} (o:Own k l):Fx NoB k (l.wmTo k.wm):=by
 refine ⟨?_,o.ext.next,fun c hc _=>o.ext.get c hc,fun m h1 _ h3=>?_⟩
 ·show cond (Nat.ble k.wm l.wm) k.wm l.wm<=l.next+UNK
  have:=o.ext.ok
  unfold AH.ok at this
  cases hcc:Nat.ble k.wm l.wm with
  | true=>rw [ble_true] at hcc;simp only [cond_true];omega
  | false=>exact this
 ·show m<=cond (Nat.ble k.wm l.wm) k.wm l.wm
  have:=o.wm
  cases hcc:Nat.ble k.wm l.wm with
  | true=>exact h1
  | false=>simp only [cond_false];omega
theorem call125 {k:AH} {b1 b2 m ver:Nat} {R:Rel} (hok:k.ok) (hb1:b1<k.next) (hb2:b2<k.next) (hm:k.get m=some (.map (ent R) ver)) (hml:m<k.next) :
  Ev false ((zX E).call 125 [.agg ⟨zAk (ptr b1) (ptr b2) m⟩] k) fun x=>∃ m' ver' R',x.1=.agg ⟨zAk (ptr b2) (ptr b1) m'⟩/\x.2.get m'=some (.map (ent R') ver')/\k.next<=m'/\m'<x.2.next/\R'.Nodup/\(∀ p,p∈R' ↔ zC0 p∈R)/\Fx NoB k x.2:=by
 refine call_many (s:=false) (Rp:=fun v k'=>∃ m' ver' R',v=.agg ⟨zAk (ptr b2) (ptr b1) m'⟩/\k'.get m'=some (.map (ent R') ver')/\k.next<=m'/\m'<k'.next/\R'.Nodup/\(∀ p,p∈R' ↔ zC0 p∈R)/\Fx NoB k k') F125_get F125_body (F125_sum _ _) (by kernel_rfl) ?_
 have key:Ev false (AM.R.andThen (evC E (zX E) none (ze Tryz.f125) ⟨⟨Tryz.f125.ntmps,zCj [.agg ⟨zAk (ptr b1) (ptr b2) m⟩] 0 .e⟩,k.fresh,[]⟩) (zAf E Tryz.f125)) fun x=>
   ∃ m' ver' R',x.1=.agg ⟨zAk (ptr b2) (ptr b1) m'⟩/\x.2.get m'=some (.map (ent R') ver')/\k.next<=m'/\m'<x.2.next/\R'.Nodup/\(∀ p,p∈R' ↔ zC0 p∈R)/\Own k x.2:=by
  refine F125_ev (Rp:=fun v k'=>∃ m' ver' R',v=.agg ⟨zAk (ptr b2) (ptr b1) m'⟩/\k'.get m'=some (.map (ent R') ver')/\k.next<=m'/\m'<k'.next/\R'.Nodup/\(∀ p,p∈R' ↔ zC0 p∈R)/\Own k k') (P125_0_of ?_)
  simp only [Q125_0,zd,zL,zS,z_176]
  refine P125_1_of ?_
  have o1:=((Own.fresh k).new (.row (zAk (ptr b1) (ptr b2) m) 176 0 false)).new (.row [.pointer none,.pointer none,.map none] 176 0 false)
  have t1:((k.fresh.new (.row (zAk (ptr b1) (ptr b2) m) 176 0 false)).new (.row [.pointer none,.pointer none,.map none] 176 0 false)).get k.next=some (.row (zAk (ptr b1) (ptr b2) m) 176 0 false):=by
   rw [zK (by simp)];exact zI k.fresh _
  have r1:((k.fresh.new (.row (zAk (ptr b1) (ptr b2) m) 176 0 false)).new (.row [.pointer none,.pointer none,.map none] 176 0 false)).get (k.next+1)=some (.row [.pointer none,.pointer none,.map none] 176 0 false):=zI (k.fresh.new _) _
  have n1:((k.fresh.new (.row (zAk (ptr b1) (ptr b2) m) 176 0 false)).new (.row [.pointer none,.pointer none,.map none] 176 0 false)).next=k.next+2:=rfl
  simp only [zZ,AH.next_new]
  generalize ((k.fresh.new (.row (zAk (ptr b1) (ptr b2) m) 176 0 false)).new (.row [.pointer none,.pointer none,.map none] 176 0 false))=k1 at o1 t1 r1 n1
  have l0:=zD (P:=E) zCz (o:=0) t1
  have l1:=zD (P:=E) zCz (o:=1) t1
  simp only [lnth,zAk] at l0 l1
  simp only [Q125_1,fa_176_0,fa_176_1,Nat.add_zero,Nat.zero_add,l0,l1,zA,zL,pb176,z_176,zd,zS,box176]
  refine P125_2_of ?_
  have o2:=((o1.new (.map [] 0)).new (.row [.pointer none,.pointer none,.map none] 176 0 false)).upd (b:=(k1.new (.map [] 0)).next) (by simp;omega) (some (.row (zAk (ptr b2) (ptr b1) k1.next) 176 0 false))
  have q1:(((k1.new (.map [] 0)).new (.row [.pointer none,.pointer none,.map none] 176 0 false)).upd (k1.new (.map [] 0)).next (some (.row (zAk (ptr b2) (ptr b1) k1.next) 176 0 false))).get k1.next=some (.map [] 0):=by
   rw [zU (by simp),zK (by simp)];exact zI _ _
  have q2:(((k1.new (.map [] 0)).new (.row [.pointer none,.pointer none,.map none] 176 0 false)).upd (k1.new (.map [] 0)).next (some (.row (zAk (ptr b2) (ptr b1) k1.next) 176 0 false))).get (k1.next+1)=some (.row (zAk (ptr b2) (ptr b1) k1.next) 176 0 false):=zQ _ _ _
  have q3:(((k1.new (.map [] 0)).new (.row [.pointer none,.pointer none,.map none] 176 0 false)).upd (k1.new (.map [] 0)).next (some (.row (zAk (ptr b2) (ptr b1) k1.next) 176 0 false))).get k.next=some (.row (zAk (ptr b1) (ptr b2) m) 176 0 false):=by
   rw [zU (by simp;omega),zK (by simp;omega),zK (by omega)];exact t1
  have q4:(((k1.new (.map [] 0)).new (.row [.pointer none,.pointer none,.map none] 176 0 false)).upd (k1.new (.map [] 0)).next (some (.row (zAk (ptr b2) (ptr b1) k1.next) 176 0 false))).get (k.next+1)=some (.row [.pointer none,.pointer none,.map none] 176 0 false):=by
   rw [zU (by simp;omega),zK (by simp;omega),zK (by omega)];exact r1
  have q5:(((k1.new (.map [] 0)).new (.row [.pointer none,.pointer none,.map none] 176 0 false)).upd (k1.new (.map [] 0)).next (some (.row (zAk (ptr b2) (ptr b1) k1.next) 176 0 false))).next=k1.next+2:=rfl
  simp only [zAk] at q1 q2 q3 q4 q5 o2 ⊢
  simp only [AH.next_new] at q1 q2 q3 q4 q5 o2 ⊢
  generalize (((k1.new (.map [] 0)).new (.row [.pointer none,.pointer none,.map none] 176 0 false)).upd (k1.next+1) (some (.row [ptr b2,ptr b1,.map (some k1.next)] 176 0 false)))=k2 at o2 q1 q2 q3 q4 q5
  have l2:=zD (P:=E) ta_174 (o:=2) q3
  simp only [lnth] at l2
  have hm2:=(o2.ext.get m hml).trans hm
  simp only [Q125_2,fa_176_2,Nat.zero_add,l2,zA,range_map hm2,zL]
  have loop:∀ (n:Nat) (Lf Rn:Rel) (vr:Nat),Lf.length=n->Rn.Nodup->(∀ p,p∈Rn\/zC0 p∈Lf ↔ zC0 p∈R)->∀ l cur,Own k l->k2.next<l.next->l.get k1.next=some (.map (ent Rn) vr)->l.get (k1.next+1)=some (.row [ptr b2,ptr b1,.map (some k1.next)] 176 0 false)->l.get (k.next+1)=some (.row [.pointer none,.pointer none,.map none] 176 0 false)->
    l.get k2.next=some (.iter (some m) ver (ent Lf) cur)->
    P125_3 false (KR E [.cell 2 176] (fun v k'=>∃ m' ver' R',v=.agg ⟨[ptr b2,ptr b1,.map (some m')]⟩/\k'.get m'=some (.map (ent R') ver')/\k.next<=m'/\m'<k'.next/\R'.Nodup/\(∀ p,p∈R' ↔ zC0 p∈R)/\Own k k')) (ptr (k.next+1)) (ptr (k1.next+1)) (ptr k2.next) l:=by
   intro n
   induction n with
   | zero=>
    intro Lf Rn vr hLf hnd hmem l cur ho hlt hmp hcp hrs hit
    have:Lf=[]:=List.length_eq_zero_iff.1 hLf
    subst this
    refine P125_3_of ?_
    have hml':=(ho.ext.get m hml).trans hm
    simp only [Q125_3,next_nil hit hml',zL,zAJ,lnth,zA,zAA]
    refine P125_6_of ?_
    have la:=za (P:=E) ta_176 (o:=0) hcp (by simp)
    simp only [List.drop_zero,List.take] at la
    have hst:=zw (P:=E) ts_176 (o:=0) (x:=.agg ⟨[ptr b2,ptr b1,.map (some k1.next)]⟩) (cs:=[ptr b2,ptr b1,.map (some k1.next)]) hrs rfl rfl (by simp) (by simp [zn])
    simp only [Q125_6,la,zA,hst,zL,kR_c,zT,true_and]
    have g1:(l.upd (k.next+1) (some (.row (lput [.pointer none,.pointer none,.map none] 0 [ptr b2,ptr b1,.map (some k1.next)]) 176 0 false))).get (k.next+1)=some (.row [ptr b2,ptr b1,.map (some k1.next)] 176 0 false):=zQ _ _ _
    have lb:=za (P:=E) ta_176 (o:=0) g1 (by simp)
    simp only [List.drop_zero,List.take] at lb
    have:loadV E 176 (ptr (k.next+1)) (l.upd (k.next+1) (some (.row (lput [.pointer none,.pointer none,.map none] 0 [ptr b2,ptr b1,.map (some k1.next)]) 176 0 false)))=some (.agg ⟨[ptr b2,ptr b1,.map (some k1.next)]⟩):=lb
    rw [this,zA]
    refine ⟨k1.next,vr,Rn,rfl,(zU (by omega)).trans hmp,by omega,by show k1.next<l.next;omega,hnd,fun p=>by have:=hmem p;simpa using this,ho.upd (by omega) _⟩
   | succ n ih=>
    intro Lf Rn vr hLf hnd hmem l cur ho hlt hmp hcp hrs hit
    refine P125_3_of ?_
    have hml':=(ho.ext.get m hml).trans hm
    simp only [Q125_3]
    refine next_cons hit hml' (by cases Lf with|nil=>simp at hLf|cons a l=>simp [ent]) fun e l1 l2 hsp=>?_
    obtain ⟨R1,p,R2,hR,hl1,hep,hl2⟩:=ent_split hsp
    subst hep
    rw [hl1,hl2,ent_append]
    simp only [zAJ,lnth,zA,z7]
    refine P125_4_of ?_
    have hkl:=ho.ext.next
    have o3:=ho.upd (b:=k2.next) (by omega) (some (.iter (some m) ver (ent (R1++R2)) (some (.agg ⟨zE p⟩,.bool true))))
    have i3:(l.upd k2.next (some (.iter (some m) ver (ent (R1++R2)) (some (.agg ⟨zE p⟩,.bool true))))).get k2.next=_:=zQ _ _ _
    have a3:(l.upd k2.next (some (.iter (some m) ver (ent (R1++R2)) (some (.agg ⟨zE p⟩,.bool true))))).get k1.next=_:=(zU (by omega)).trans hmp
    have c3:(l.upd k2.next (some (.iter (some m) ver (ent (R1++R2)) (some (.agg ⟨zE p⟩,.bool true))))).get (k1.next+1)=_:=(zU (by omega)).trans hcp
    have d3:(l.upd k2.next (some (.iter (some m) ver (ent (R1++R2)) (some (.agg ⟨zE p⟩,.bool true))))).get (k.next+1)=_:=(zU (by omega)).trans hrs
    have n3:(l.upd k2.next (some (.iter (some m) ver (ent (R1++R2)) (some (.agg ⟨zE p⟩,.bool true))))).next=l.next:=rfl
    generalize (l.upd k2.next (some (.iter (some m) ver (ent (R1++R2)) (some (.agg ⟨zE p⟩,.bool true)))))=l3 at o3 i3 a3 c3 d3 n3
    have hml3:=(o3.ext.get m hml).trans hm
    simp only [Q125_4,entry_of i3 hml3,zA,zAJ,lnth,z_54,zd,zL,zS,box54]
    refine P125_5_of ?_
    have o4:=(o3.new (.row [.int .i64 0,.int .i64 0] 54 0 false)).upd (b:=l3.next) (by omega) (some (.row (zE p) 54 0 false))
    have p4:((l3.new (.row [.int .i64 0,.int .i64 0] 54 0 false)).upd l3.next (some (.row (zE p) 54 0 false))).get l3.next=some (.row (zE p) 54 0 false):=zQ _ _ _
    have i4:((l3.new (.row [.int .i64 0,.int .i64 0] 54 0 false)).upd l3.next (some (.row (zE p) 54 0 false))).get k2.next=_:=((zU (by omega)).trans (zK (by omega))).trans i3
    have a4:((l3.new (.row [.int .i64 0,.int .i64 0] 54 0 false)).upd l3.next (some (.row (zE p) 54 0 false))).get k1.next=_:=((zU (by omega)).trans (zK (by omega))).trans a3
    have c4:((l3.new (.row [.int .i64 0,.int .i64 0] 54 0 false)).upd l3.next (some (.row (zE p) 54 0 false))).get (k1.next+1)=_:=((zU (by omega)).trans (zK (by omega))).trans c3
    have d4:((l3.new (.row [.int .i64 0,.int .i64 0] 54 0 false)).upd l3.next (some (.row (zE p) 54 0 false))).get (k.next+1)=_:=((zU (by omega)).trans (zK (by omega))).trans d3
    have n4:((l3.new (.row [.int .i64 0,.int .i64 0] 54 0 false)).upd l3.next (some (.row (zE p) 54 0 false))).next=l3.next+1:=rfl
    generalize ((l3.new (.row [.int .i64 0,.int .i64 0] 54 0 false)).upd l3.next (some (.row (zE p) 54 0 false)))=l4 at o4 p4 i4 a4 c4 d4 n4
    have g0:=zD (P:=E) ta_174 (o:=2) c4
    have g1:=zD (P:=E) zAQ (o:=0) p4
    have g2:=zD (P:=E) zAQ (o:=1) p4
    simp only [lnth,zE] at g0 g1 g2
    obtain ⟨R',u1,u2,u3⟩:=upd174 a4 hnd (p.2,p.1)
    simp only [Q125_5,fa_176_2,Nat.zero_add,Nat.add_zero,g0,g1,g2,zA,ia54_0,ia54_1,pb54,u1,zL]
    refine ih (R1++R2) R' (vr+1) (by rw [hR] at hLf;simp at hLf ⊢;omega) u2 (fun x=>?_) _ _ (o4.upd (by omega) _) (by show k2.next<l4.next;omega) (zQ _ _ _) ((zU (by omega)).trans c4) ((zU (by omega)).trans d4) ((zU (by omega)).trans i4)
    rw [← hmem x,u3 x,hR]
    have hsw:x=(p.2,p.1) ↔ zC0 x=p:=by
     constructor
     ·rintro rfl;rfl
     ·intro h;rw [← h];rfl
    rw [hsw]
    simp only [List.mem_append,List.mem_cons]
    constructor
    ·rintro ((h|h)|h|h) <;> simp [h]
    ·rintro (h|h|h|h) <;> simp [h]
  refine loop R.length R [] 0 rfl (by simp) (fun p=>by simp) _ none (o2.new _) (by simp) ((zK (by omega)).trans q1) ((zK (by omega)).trans q2) ((zK (by omega)).trans q4) (zI _ _)
 refine key.mono fun x hx=>?_
 obtain ⟨m',ver',R',h1,h2,h3,h4,h5,h6,h7⟩:=hx
 have hids:zCh x.2 k.fresh.next 1000 (zCJ 4 x.1) []=[m']:=by
  rw [h1]
  exact reach_map hb2 hb1 h3 h2 (by simp [ent,List.flatMap_map,zCJ])
 refine ⟨by rw [h1];rfl,⟨m',ver',R',h1,h2,h3,h4,h5,h6,wmTo_fx h7⟩,m',ver',R',h1,?_,h3,h4,h5,h6,wmTo_fx ?_⟩
 ·show (AH.kept k.fresh x.1 x.2).get m'=_
  unfold AH.kept
  rw [hids,zA7,if_pos (by simp)]
  exact h2
 ·refine ⟨⟨?_,h7.ext.next,fun c hc=>?_⟩,?_⟩
  ·exact h7.ext.ok
  ·unfold AH.kept
   rw [hids,zA7]
   split
   ·exact h7.ext.get c hc
   ·rfl
  ·exact h7.wm
def entI (R:List Int):List (Value×Value):=R.map fun p=>(.int .i64 p,.bool true)
theorem mk273:mapKE E 273=some (3,4):=by kernel_rfl
theorem keyEq3 (p q:Int):zBe E 3 (.int .i64 p) (.int .i64 q)=some (decide (p=q)):=by
 simp only [zBe,u3]
 have hk:keq .i64 .i64=true:=rfl
 simp only [hk,cond_true,zCt]
 by_cases h:p=q <;> simp [h]
theorem keyOk3 (p:Int):keyOk E 3 (.int .i64 p)=true:=by
 simp only [keyOk,u3]
theorem find3:∀ {R:List Int},R.Nodup->∀ q:Int,zAe E 3 (.int .i64 q) (entI R)=some (if q∈R then some (.bool true) else none)
 | [],_,q=>by simp [entI,zAe]
 | p::R,h,q=>by
  obtain ⟨h1,h2⟩:=List.nodup_cons.1 h
  have ih:=find3 h2 q
  simp only [entI,List.map_cons,zAe] at ih ⊢
  rw [keyEq3,ih]
  by_cases e:q=p
  ·subst e
   simp [h1]
  ·simp [e]
theorem look273 {h:AH} {m ver:Nat} {R:List Int} (hm:h.get m=some (.map (entI R) ver)) (hR:R.Nodup) (q:Int) :
  zDG E 273 false (some (.map (some m))) (some (.int .i64 q)) h=some (.bool (decide (q∈R))):=by
 simp only [zDG,lookupV,mk273,entriesOf,hm,keyOk3,cond_true,find3 hR]
 by_cases e:q∈R
 ·simp [e,foundV,okV]
 ·simp [e,foundV,z4,okV]
def insI (q:Int):List Int->List Int
 | []=>[q]
 | p::R=>if klt (.int .i64 q) (.int .i64 p) then q::p::R else p::insI q R
theorem insI_ent (q:Int):∀ R:List Int,zA8 (.int .i64 q) (.bool true) (entI R)=entI (insI q R)
 | []=>rfl
 | p::R=>by
  have:=insI_ent q R
  simp only [entI,List.map_cons,zA8,insI] at this ⊢
  split
  ·rfl
  ·rw [this];rfl
theorem insI_mem (q:Int):∀ (R:List Int) (x:Int),x∈insI q R ↔ x=q\/x∈R
 | [],x=>by simp [insI]
 | p::R,x=>by
  simp only [insI]
  split
  ·simp
  ·simp only [List.mem_cons,insI_mem q R]
   constructor
   ·rintro (h|h|h) <;> simp [h]
   ·rintro (h|h|h) <;> simp [h]
theorem insI_nodup {q:Int}:∀ {R:List Int},R.Nodup->q ∉ R->(insI q R).Nodup
 | [],_,_=>by simp [insI]
 | p::R,h,hq=>by
  obtain ⟨h1,h2⟩:=List.nodup_cons.1 h
  simp only [List.mem_cons,not_or] at hq
  simp only [insI]
  split
  ·exact List.nodup_cons.2 ⟨by simp [hq.1,hq.2],h⟩
  ·exact List.nodup_cons.2 ⟨by rw [insI_mem];simp [h1];exact fun e=>hq.1 e.symm,insI_nodup h2 hq.2⟩
theorem upd273 {h:AH} {m ver:Nat} {R:List Int} (hm:h.get m=some (.map (entI R) ver)) (hR:R.Nodup) {q:Int} (e:q ∉ R) :
  zAS E 273 (some (.map (some m))) (some (.int .i64 q)) (some (.bool true)) h=one (undef,h.upd m (some (.map (entI (insI q R)) (ver+1)))):=by
 have hfl:zj (.int .i64 q)=true:=rfl
 simp only [zAS,zBW,mk273,hm,keyOk3,hfl,Bool.and_self,cond_true,zCy,find3 hR,e,if_false,insI_ent,u1]
theorem bs47 {u:Int} {h:AH}:zi E 47 1 (some [(0,.int .i64 u)]) h=one (.slice (some ⟨h.next,0,none⟩) 1 1,h.new (.row [.int .i64 u] 3 0 false)):=by kernel_rfl
theorem elt47:Elt 47 3 1:=elt_of elt_47 und_47 zAQ (by kernel_rfl)
theorem append_full {t e z:Nat} (H:Elt t e z) {h:AH} {b c:Nat} {vs us:List Value} {ty es:Nat} {ro:Bool} {ty' es':Nat} {ro':Bool} (hb:h.get b=some (.row vs ty' es' ro')) (hvs:vs.length=z)
  (hc:h.get c=some (.row us ty es ro)) (hl:us.length=z) :
  zAC E .append [t,t] (some [.slice (some ⟨b,0,none⟩) 1 1,.slice (some ⟨c,0,none⟩) 1 1]) h=one (.slice (some ⟨h.next,0,none⟩) 2 (UNK+z),h.new (.row (vs++us) e z false)):=by
 obtain ⟨ti,e1,e2,e3⟩:=H.ti
 show v2 (zAp E [t,t] (.slice (some ⟨b,0,none⟩) 1 1) (.slice (some ⟨c,0,none⟩) 1 1) h)=_
 simp only [zAp,H.el,H.un,isIntD,cond_false,e1,zBj,zAr,hc,e2,Nat.one_mul,zAj,zAq,zAH,List.drop_zero]
 rw [List.take_of_length_le (by omega),hl,Nat.beq_refl]
 simp only [if_true,e3,cond_true,zBi,show Nat.beq 1 0=false from rfl,cond_false,hb]
 simp only [zCg,show Nat.ble UNK 1=false from rfl,show Nat.ble (1+1) 1=false from rfl,cond_false,Nat.one_mul,zAj,zAq,zAH,List.drop_zero]
 rw [List.take_of_length_le (by omega),hvs,Nat.beq_refl]
 simp only [cond_true,zAv,show Nat.ble (1+1) 1000000=true from rfl,v2]
structure LS (lo:Nat) (k:AH) (v:Value) (L:List Int):Prop where
 ex:∃ b c,v=.slice (some ⟨b,0,none⟩) L.length c/\lo<=b/\b<k.next/\((c=1/\L.length=1/\k.get b=some (.row (ints L) 3 0 false))\/(c=UNK+1/\k.get b=some (.row (ints L) 3 1 false)))
theorem LS.mono {lo:Nat} {k k':AH} {v:Value} {L:List Int} (h:LS lo k v L) (hn:k.next<=k'.next) (hg:∀ b,lo<=b->b<k.next->zo v b->k'.get b=k.get b):LS lo k' v L:=by
 obtain ⟨b,c,e,h1,h2,h3⟩:=h
 have:=hg b h1 h2 ⟨_,_,e⟩
 exact ⟨b,c,e,h1,Nat.lt_of_lt_of_le h2 hn,by rw [this];exact h3⟩
theorem LS.at {lo:Nat} {k:AH} {v:Value} {L:List Int} (h:LS lo k v L) {i:Nat} (hi:i<L.length):∃ x3,zH E 47 (some v) (some (.int .i64 (i:Int)))=some x3/\∃ x4,zG E 3 k (some x3)=some x4/\x4=.int .i64 L[i]:=by
 obtain ⟨b,c,rfl,h1,h2,h3⟩:=h
 refine ⟨_,ia_47 hi,?_⟩
 have hrow:∃ es,k.get b=some (.row (ints L) 3 es false):=by
  rcases h3 with ⟨_,_,h⟩|⟨_,h⟩ <;> exact ⟨_,h⟩
 obtain ⟨es,hrow⟩:=hrow
 rw [zD (P:=E) zAQ hrow,zAl,show 0+i*1=i by omega]
 have:(ints L)[i]?=some (.int .i64 L[i]):=by simp [ints,hi]
 exact ⟨_,this,rfl⟩
theorem LS.app {lo:Nat} {k:AH} {v:Value} {L:List Int} (h:LS lo k v L) (hL:L.length<=999999) {u:Int} {c0:Nat} {ty es:Nat} {ro:Bool} (hc:k.get c0=some (.row [.int .i64 u] ty es ro)) :
  ∃ v' k1,zAC E .append [47,47] (some [v,.slice (some ⟨c0,0,none⟩) 1 1]) k=one (v',k1)/\v'=.slice (some ⟨k.next,0,none⟩) (L.length+1) (UNK+1)/\k1.next=k.next+1/\k1.get k.next=some (.row (ints (L++[u])) 3 1 false) ∧
   (∀ b,b<k.next->¬ zo v b->k1.get b=k.get b)/\(k.ok->k1.ok)/\k1.wm<=k.wm/\∀ w,w<=k.wm->w<=lo->w<=k1.wm:=by
 obtain ⟨b,c,rfl,h1,h2,h3⟩:=h
 have hap:ints L++[.int .i64 u]=ints (L++[u]):=by simp [ints]
 rcases h3 with ⟨rfl,hl1,hb⟩|⟨rfl,hb⟩
 ·refine ⟨_,k.new (.row (ints L++[.int .i64 u]) 3 1 false),by rw [hl1];exact append_full elt47 hb (by simpa [ints] using hl1) hc rfl,by rw [hl1],rfl,?_,?_,?_,Nat.le_refl _,?_⟩
  ·rw [← hap];exact zI _ _
  ·intro b' hb' _
   exact zK (by omega)
  ·intro hok;exact zCE hok _
  ·intro w hw _
   exact hw
 ·refine ⟨_,_,zDA elt47 (by omega) hb (by simp [ints]) (by omega) hc rfl rfl,rfl,rfl,?_,?_,?_,(zCx k b none).1,?_⟩
  ·rw [← hap];exact zI (k.upd b none) _
  ·intro b' hb' hne
   have hbb:b'≠b:=fun e=>hne ⟨_,_,by rw [e]⟩
   have:k.next≠b':=by omega
   rw [zK (by show b'≠k.next;omega),zU hbb]
  ·intro hok;exact zCE (ok_upd hok _ _) _
  ·intro w hw hlo
   show w<=(k.upd b none).wm
   exact z5 hw (by omega)
def addS (L:List Int) (x:Int×Int):List Int:=if x.1=0/\x.2 ∉ L then L++[x.2] else L
def nextL (SS:List zAF) (L:List Int) (u:Int):List Int:=match SS[u.toNat]? with
 | some S=>S.foldl addS L
 | none=>L
def bfs (SS:List zAF) (body:Int->Bool):Nat->Nat->List Int->Bool
 | 0,_,_=>false
 | f+1,i,L=>match L[i]? with
  | none=>false
  | some u=>body u||bfs SS body f (i+1) (nextL SS L u)
theorem zBq:∀ (N:Nat) (L:List Int),L.Nodup->(∀ x∈L,0<=x/\x<(N:Int))->L.length<=N
 | 0,L,_,h=>by
  cases L with
  | nil=>simp
  | cons a l=>have:=h a (by simp);omega
 | N+1,L,hn,h=>by
  by_cases hm:(N:Int)∈L
  ·have h1:=zBq N (L.erase (N:Int)) (hn.erase _) fun x hx=>by
    have:=hn.mem_erase_iff.1 hx
    have h2:=h x this.2
    have:=this.1
    omega
   rw [List.length_erase_of_mem hm] at h1
   omega
  ·have h1:=zBq N L hn fun x hx=>by
    have h2:=h x hx
    have:x≠(N:Int):=fun e=>hm (e ▸ hx)
    omega
   omega
theorem addS_nodup {L:List Int} (h:L.Nodup) (x:Int×Int):(addS L x).Nodup:=by
 unfold addS
 split
 ·rename_i hx
  rw [List.nodup_append]
  refine ⟨h,by simp,fun a ha b hb=>?_⟩
  simp only [List.mem_singleton] at hb
  subst hb
  exact fun e=>hx.2 (e ▸ ha)
 ·exact h
def Yd (k:AH) (l w0 N:Nat) (body:Int->Bool) (Rt:AH->Prop):Prop:=∀ h,Ext k h->w0<=h.wm->∀ u:Int,0<=u->u<(N:Int)->
 ∃ h',(zX E).round l [.int .i64 u] h=some [(.bool (!body u),h')]/\h'.ok/\h'.wm<=l/\w0<=h'.wm/\(body u=false->h'.next=h.next/\∀ c,h'.get c=h.get c)/\(body u=true->Rt h')
structure St22 (k:AH) (w0 m1 N:Nat) (v5:Value) (L:List Int) (h:AH):Prop where
 ext:Ext k h
 w:w0<=h.wm
 map:∃ R ver,h.get m1=some (.map (entI R) ver)/\R.Nodup/\∀ x,x∈R ↔ x∈L
 mlt:m1<h.next
 nd:L.Nodup
 bd:∀ x∈L,0<=x/\x<(N:Int)
 ls:LS (m1+1) h v5 L
theorem St22.keep {k:AH} {w0 m1 N:Nat} {v5:Value} {L:List Int} {h h':AH} (s:St22 k w0 m1 N v5 L h) (e:Ext k h') (w:w0<=h'.wm) (hn:h.next<=h'.next) (hg:∀ c,m1<=c->c<h.next->h'.get c=h.get c):St22 k w0 m1 N v5 L h':=by
 obtain ⟨R,ver,a,b⟩:=s.map
 exact ⟨e,w,⟨R,ver,(hg m1 (Nat.le_refl _) s.mlt).trans a,b⟩,Nat.lt_of_lt_of_le s.mlt hn,s.nd,s.bd,s.ls.mono hn fun b h1 h2 _=>hg b (by omega) h2⟩
structure SSok (SS:List zAF):Prop where
 len:SS.length<=900000
 stp:∀ (i:Nat) (S:zAF),SS[i]?=some S->S.length<=900000/\∀ x∈S,0<=x.2/\x.2<(SS.length:Int)
theorem in64_of {n:Int} (h1:0<=n) (h2:n<=1000000):in64 n:=⟨by omega,by omega⟩
theorem fold_drop {S:zAF} {L:List Int} {j:Nat} (hj:j<S.length):(S.drop j).foldl addS L=(S.drop (j+1)).foldl addS (addS L S[j]):=by
 rw [List.drop_eq_getElem_cons hj]
 rfl
def Fin22 (k:AH) (w0:Nat) (Rt:AH->Prop) (b:Bool) (h:AH):Prop:=h.ok/\w0<=h.wm/\(b=false->k.next<=h.next/\∀ c,c<k.next->h.get c=k.get c)/\(b=true->Rt h)
theorem call222 {k:AH} {l bs0 bgp bg w0:Nat} {SS:List zAF} {body:Int->Bool} {Rt:AH->Prop} {t:Int} {ty1 es1 ty2 es2:Nat} {ro1 ro2:Bool} (hok:k.ok)
  (hs:k.get bs0=some (.row [.int .i64 t] ty1 es1 ro1)) (hsl:bs0<k.next) (hgp:k.get bgp=some (.row [ptr bg] ty2 es2 ro2)) (hgl:bgp<k.next)
  (hg:GV k bg SS) (hSS:SSok SS) (ht0:0<=t) (htN:t<(SS.length:Int)) (hw:w0<=k.wm) (hw':w0<=k.next) (hl:l<k.next) (hRt:∀ h h':AH,(∀ c,h'.get c=h.get c)->h'.next=h.next->Rt h->Rt h')
  (hY:Yd k l w0 SS.length body Rt) :
  Ev true ((zX E).call 222 [.func (.yield l) #[] #[],ptr bs0,ptr bgp] k) fun x=>x.1=.tuple #[]/\Fin22 k w0 Rt (bfs SS body SS.length 0 [t]) x.2:=by
 refine F222_some (Rp:=fun x k'=>x=.tuple #[]/\Fin22 k w0 Rt (bfs SS body SS.length 0 [t]) k') (P222_0_of ?_)
 obtain ⟨loc,bs,cells,G⟩:=hg.ex
 have hs0:k.fresh.get bs0=_:=hs
 have e0:=(Ext.refl hok).fresh
 simp only [zL]
 have e1:=e0.new (.map [] 0)
 have m1g:=zI k.fresh (.map [] 0)
 have hs1:(k.fresh.new (.map [] 0)).get bs0=_:=(e1.get bs0 hsl).trans hs
 have ls1:=zD (P:=E) zAQ (o:=0) hs1
 simp only [lnth] at ls1
 have hu:=upd273 (h:=k.fresh.new (.map [] 0)) (R:=[]) (q:=t) m1g List.nodup_nil (by simp)
 simp only [ls1,zA,zZ] at hu ⊢
 rw [hu,zL]
 refine P222_1_of ?_
 have e2:=e1.upd (b:=k.next) (Nat.le_refl _) (some (.map (entI (insI t [])) (0+1)))
 have m2:((k.fresh.new (.map [] 0)).upd k.next (some (.map (entI (insI t [])) (0+1)))).get k.next=_:=zQ _ _ _
 have w2:w0<=((k.fresh.new (.map [] 0)).upd k.next (some (.map (entI (insI t [])) (0+1)))).wm:=z5 (by rw [wm_new,zAN];omega) hw'
 have n2:((k.fresh.new (.map [] 0)).upd k.next (some (.map (entI (insI t [])) (0+1)))).next=k.next+1:=rfl
 generalize ((k.fresh.new (.map [] 0)).upd k.next (some (.map (entI (insI t [])) (0+1))))=k2 at e2 m2 w2 n2
 have ls2:=zD (P:=E) zAQ (o:=0) ((e2.get bs0 hsl).trans hs)
 simp only [lnth] at ls2
 simp only [ls2,zA,bs47,zL]
 refine P222_2_of ?_
 have st0:St22 k w0 k.next SS.length (.slice (some ⟨k2.next,0,none⟩) 1 1) [t] (k2.new (.row [.int .i64 t] 3 0 false)):=by
  refine ⟨e2.new _,w2,⟨[t],0+1,(zK (by omega)).trans m2,by simp,by simp⟩,by simp;omega,by simp,by simpa using ⟨ht0,htN⟩,⟨k2.next,1,rfl,by omega,by simp,.inl ⟨rfl,rfl,zI _ _⟩⟩⟩
 generalize (k2.new (.row [.int .i64 t] 3 0 false))=k3 at st0
 have loop:∀ (f i:Nat) (L:List Int) (v5:Value) (h:AH),f+i=SS.length->St22 k w0 k.next SS.length v5 L h->0<L.length->i<=L.length->(i=0\/h.wm<=l)->bfs SS body SS.length 0 [t]=bfs SS body f i L->
   P222_3 true (KR E [] (fun x k'=>(zj x=false\/k'.wm<k.next)/\(x=.tuple #[]/\Fin22 k w0 Rt (bfs SS body SS.length 0 [t]) ⟨k'.t,k'.next,cond (Nat.ble k.wm k'.wm) k.wm k'.wm⟩))) (.func (.yield l) #[] #[]) (ptr bgp) (.map (some k.next)) v5 (.int .i64 (i:Int)) h:=by
  intro f
  induction f with
  | zero=>
   intro i L v5 h hf st h0 hi hwl hb
   have hlen:=zBq _ _ st.nd st.bd
   refine P222_3_of ?_
   obtain ⟨b,c,hv,h1,h2,h3⟩:=st.ls
   subst hv
   have:¬ ((i:Int)<(L.length:Int)):=by omega
   simp only [zA,len222_3_2,zb,this,decide_false,zAA,kR_0,ne_normal,true_and]
   have hwl':h.wm<=l:=hwl.resolve_left (by omega)
   refine ⟨.inr (by omega),?_⟩
   rw [hb]
   refine ⟨?_,?_,fun _=>⟨st.ext.next,fun c hc=>st.ext.get c hc⟩,fun h=>by cases h⟩
   ·have:=st.ext.ok
    show cond (Nat.ble k.wm h.wm) k.wm h.wm<=h.next+UNK
    unfold AH.ok at this
    cases hc:Nat.ble k.wm h.wm with
    | true=>have:=ble_true.1 hc;simp only [cond_true];omega
    | false=>simpa using this
   ·show w0<=cond (Nat.ble k.wm h.wm) k.wm h.wm
    cases Nat.ble k.wm h.wm
    ·exact st.w
    ·exact hw
  | succ f ih=>
   intro i L v5 h hf st h0 hi hwl hb
   have hlen:=zBq _ _ st.nd st.bd
   refine P222_3_of ?_
   obtain ⟨b,c,hv,h1,h2,h3⟩:=id st.ls
   have hat:=fun (h':AH) (s':LS (k.next+1) h' v5 L) (hi:i<L.length)=>s'.at hi
   by_cases hiL:i<L.length
   ·have hlt:((i:Int)<(L.length:Int)):=by omega
    have hq:P222_4 true (KR E [] (fun x k'=>(zj x=false\/k'.wm<k.next)/\(x=.tuple #[]/\Fin22 k w0 Rt (bfs SS body SS.length 0 [t]) ⟨k'.t,k'.next,cond (Nat.ble k.wm k'.wm) k.wm k'.wm⟩))) (.func (.yield l) #[] #[]) (ptr bgp) (.map (some k.next)) v5 (.int .i64 (i:Int)) h:=by
     refine P222_4_of ?_
     obtain ⟨x3,e3,x4,e4,rfl⟩:=hat h st.ls hiL
     obtain ⟨u0,u1⟩:=st.bd L[i] (List.getElem_mem hiL)
     obtain ⟨h',y1,y2,y3,y4,y5,y6⟩:=hY h st.ext st.w L[i] u0 u1
     simp only [zA,e3,e4,wCall_yield,List.nil_append,y1,zO,zp,Bool.not_not,zBh]
     have hbf:bfs SS body (f+1) i L=(body L[i]||bfs SS body f (i+1) (nextL SS L L[i])):=by
      simp only [bfs,List.getElem?_eq_getElem hiL]
     refine ⟨fun hbt=>?_,fun hbf'=>?_⟩
     ·simp only [kR_0,zT,true_and]
      refine ⟨.inr (by omega),?_⟩
      rw [hb,hbf,hbt]
      refine ⟨?_,?_,(fun h=>by cases h),fun _=>hRt h' _ (fun _=>rfl) rfl (y6 hbt)⟩
      ·unfold AH.ok at y2
       show cond (Nat.ble k.wm h'.wm) k.wm h'.wm<=h'.next+UNK
       cases hc:Nat.ble k.wm h'.wm with
       | true=>have:=ble_true.1 hc;simp only [cond_true];omega
       | false=>simpa using y2
      ·show w0<=cond (Nat.ble k.wm h'.wm) k.wm h'.wm
       cases Nat.ble k.wm h'.wm
       ·exact y4
       ·exact hw
     ·obtain ⟨z1,z2⟩:=y5 hbf'
      have st1:St22 k w0 k.next SS.length v5 L h':=st.keep ⟨y2,by rw [z1];exact st.ext.next,fun c hc=>(z2 c).trans (st.ext.get c hc)⟩ y4 (by omega) (fun c _ _=>z2 c)
      refine P222_5_of ?_
      have hgp':=(st1.ext.get bgp hgl).trans hgp
      obtain ⟨x3,e3,x4,e4,rfl⟩:=hat h' st1.ls hiL
      obtain ⟨s,hs'⟩:=Int.eq_ofNat_of_zero_le u0
      have hsN:s<SS.length:=by omega
      have hsc:s<cells.length:=by rw [G.len];exact hsN
      have hcs:cells[s]?=some cells[s]:=List.getElem?_eq_getElem hsc
      have hSs:SS[s]?=some SS[s]:=List.getElem?_eq_getElem hsN
      have q0:=zD (P:=E) zCz (o:=0) hgp'
      have q1:=zD (P:=E) ta_129 (o:=0) ((st1.ext.get bg G.ltg).trans G.g)
      have q3:=zD (P:=E) ta_132 (o:=0+s*1) ((st1.ext.get bs G.lts).trans G.s)
      simp only [lnth] at q0 q1
      rw [zAl,show 0+s*1=s by omega,hcs] at q3
      have ia:=ia_129 (b:=bs) (o:=0) (c:=cells.length) hsc
      rw [show 0+s*1=s by omega] at ia
      have hcell:=G.cell s _ _ hcs hSs
      obtain ⟨ca,cc,hcc⟩:=(cell_arr hcell).slice
      rw [List.length_map] at hcc
      have harr:=cell_arr hcell
      rw [hcc] at q3 harr
      rw [hs'] at e4
      obtain ⟨hS1,hS2⟩:=hSS.stp s _ hSs
      simp only [q0,zA,zBQ,fa_131_0,q1,e3,e4,Nat.add_zero,ia,q3,len222_5_10]
      have hnx:nextL SS L L[i]=(SS[s]).foldl addS L:=by
       unfold nextL
       rw [hs']
       simp [hSs]
      have steps:∀ (r j:Nat) (L':List Int) (v5':Value) (g:AH),r+j=(SS[s]).length->St22 k w0 k.next SS.length v5' L' g->L.length<=L'.length->g.wm<=l->((SS[s]).drop j).foldl addS L'=(SS[s]).foldl addS L->
        P222_6 true (KR E [] (fun x k'=>(zj x=false\/k'.wm<k.next)/\(x=.tuple #[]/\Fin22 k w0 Rt (bfs SS body SS.length 0 [t]) ⟨k'.t,k'.next,cond (Nat.ble k.wm k'.wm) k.wm k'.wm⟩))) (.func (.yield l) #[] #[]) (ptr bgp) (.map (some k.next)) v5' (.int .i64 (i:Int)) (.slice ca (SS[s]).length cc) (.int .i64 ((SS[s]).length:Int)) (.int .i64 (j:Int)) g:=by
       intro r
       induction r with
       | zero=>
        intro j L' v5' g hr sg hLL hgw hfold
        refine P222_6_of ?_
        have:¬ ((j:Int)<((SS[s]).length:Int)):=by omega
        simp only [zb,zA,this,decide_false,zAA]
        refine P222_12_of ?_
        have hi64:in64 ((i:Int)+1):=in64_of (by omega) (by have:=hSS.len;omega)
        simp only [zA,zAM _ hi64]
        have:=ih (i+1) L' v5' g (by omega) sg (by omega) (by omega) (.inr hgw) (by
         rw [hb,hbf,hbf',hnx,← hfold,List.drop_eq_nil_of_le (by omega)]
         rfl)
        simpa using this
       | succ r ihr=>
        intro j L' v5' g hr sg hLL hgw hfold
        have hjS:j<(SS[s]).length:=by omega
        refine P222_6_of ?_
        have:((j:Int)<((SS[s]).length:Int)):=by omega
        simp only [zb,zA,this,decide_true,z7]
        refine P222_7_of ?_
        have hat':((SS[s]).map zE)[j]?=some (zE (SS[s])[j]):=by simp [hjS]
        obtain ⟨b',o',c',vs',ty',es',ro',hv',hb',hlt',hle',hz',hzl'⟩:=harr.load hat'
        simp only [Value.slice.injEq] at hv'
        obtain ⟨hv1,_,_⟩:=hv'
        subst hv1
        have gb':=(sg.ext.get b' hlt').trans hb'
        obtain ⟨xt0,xtN⟩:=hS2 (SS[s])[j] (List.getElem_mem hjS)
        have hdr:=fold_drop (L:=L') hjS
        rw [hdr] at hfold
        generalize (SS[s])[j]=x at hz' xt0 xtN hfold
        simp only [ia_132 hjS,zA,za ta_134 gb' hle',hz',z_134,zd,zL,zS,box134]
        refine P222_8_of ?_
        have e5:=(sg.ext.new (.row [.int .i64 0,.int .i64 0] 134 0 false)).upd (b:=g.next) sg.ext.next (some (.row (zE x) 134 0 false))
        have x5:((g.new (.row [.int .i64 0,.int .i64 0] 134 0 false)).upd g.next (some (.row (zE x) 134 0 false))).get g.next=some (.row (zE x) 134 0 false):=zQ _ _ _
        have w5:w0<=((g.new (.row [.int .i64 0,.int .i64 0] 134 0 false)).upd g.next (some (.row (zE x) 134 0 false))).wm:=z5 sg.w (by have:=sg.ext.next;omega)
        have v5w:((g.new (.row [.int .i64 0,.int .i64 0] 134 0 false)).upd g.next (some (.row (zE x) 134 0 false))).wm<=l:=Nat.le_trans (zCx _ _ _).1 hgw
        have n5:((g.new (.row [.int .i64 0,.int .i64 0] 134 0 false)).upd g.next (some (.row (zE x) 134 0 false))).next=g.next+1:=rfl
        have s5:St22 k w0 k.next SS.length v5' L' ((g.new (.row [.int .i64 0,.int .i64 0] 134 0 false)).upd g.next (some (.row (zE x) 134 0 false))):=sg.keep e5 w5 (by omega) (fun c _ hc=>(zU (by omega)).trans (zK (by omega)))
        generalize ((g.new (.row [.int .i64 0,.int .i64 0] 134 0 false)).upd g.next (some (.row (zE x) 134 0 false)))=g5 at e5 x5 w5 v5w n5 s5
        have y0:=zD (P:=E) zAQ (o:=0) x5
        have y1:=zD (P:=E) zAQ (o:=1) x5
        simp only [lnth,zE] at y0 y1
        obtain ⟨R,ver,mg,mnd,mmem⟩:=s5.map
        have hdec:decide (x.2∈R)=decide (x.2∈L'):=decide_eq_decide.2 (mmem x.2)
        simp only [fa_134_0,zCL,Nat.add_zero,Nat.zero_add,y0,y1,zA,zAV,zN,look273 mg mnd,hdec]
        have hj64:in64 ((j:Int)+1):=in64_of (by omega) (by omega)
        have skip:∀ g' v6 L'',St22 k w0 k.next SS.length v6 L'' g'->L.length<=L''.length->g'.wm<=l->((SS[s]).drop (j+1)).foldl addS L''=(SS[s]).foldl addS L->
          P222_11 true (KR E [] (fun x k'=>(zj x=false\/k'.wm<k.next)/\(x=.tuple #[]/\Fin22 k w0 Rt (bfs SS body SS.length 0 [t]) ⟨k'.t,k'.next,cond (Nat.ble k.wm k'.wm) k.wm k'.wm⟩))) (.func (.yield l) #[] #[]) (ptr bgp) (.map (some k.next)) v6 (.int .i64 (i:Int)) (.slice (some ⟨b',o',none⟩) (SS[s]).length cc) (.int .i64 ((SS[s]).length:Int)) (.int .i64 (j:Int)) g':=by
         intro g' v6 L'' s6 hl6 hw6 hf6
         refine P222_11_of ?_
         simp only [zAM _ hj64,zA]
         have:=ihr (j+1) L'' v6 g' (by omega) s6 hl6 hw6 hf6
         simpa using this
        by_cases hx0:x.1=0
        ·by_cases hxm:x.2∈L'
         ·have:addS L' x=L':=by unfold addS;simp [hxm]
          rw [this] at hfold
          simp only [hx0,hxm,decide_true,beq_self_eq_true,cond_true,zA,zCL,Nat.zero_add,y1,look273 mg mnd,hdec,zp,zJ,Bool.not_true,zAA]
          exact skip g5 v5' L' s5 hLL v5w hfold
         ·have hadd:addS L' x=L'++[x.2]:=by unfold addS;simp [hxm,hx0]
          rw [hadd] at hfold
          simp only [hx0,hxm,decide_true,decide_false,beq_self_eq_true,cond_true,zA,zCL,Nat.zero_add,y1,look273 mg mnd,hdec,zp,zJ,Bool.not_false,z7]
          refine P222_9_of ?_
          have hxR:x.2 ∉ R:=fun h=>hxm ((mmem _).1 h)
          simp only [zCL,Nat.zero_add,y1,zA,upd273 mg mnd hxR,zL]
          refine P222_10_of ?_
          have e6:=s5.ext.upd (b:=k.next) (Nat.le_refl _) (some (.map (entI (insI x.2 R)) (ver+1)))
          have m6:(g5.upd k.next (some (.map (entI (insI x.2 R)) (ver+1)))).get k.next=_:=zQ _ _ _
          have x6:(g5.upd k.next (some (.map (entI (insI x.2 R)) (ver+1)))).get g.next=_:=(zU (by have:=sg.mlt;omega)).trans x5
          have w6:w0<=(g5.upd k.next (some (.map (entI (insI x.2 R)) (ver+1)))).wm:=z5 s5.w hw'
          have v6w:(g5.upd k.next (some (.map (entI (insI x.2 R)) (ver+1)))).wm<=l:=Nat.le_trans (zCx _ _ _).1 v5w
          have n6:(g5.upd k.next (some (.map (entI (insI x.2 R)) (ver+1)))).next=g5.next:=rfl
          have l6:LS (k.next+1) (g5.upd k.next (some (.map (entI (insI x.2 R)) (ver+1)))) v5' L':=s5.ls.mono (Nat.le_of_eq n6.symm) (fun b h1 h2 _=>zU (by omega))
          generalize (g5.upd k.next (some (.map (entI (insI x.2 R)) (ver+1))))=g6 at e6 m6 x6 w6 v6w n6 l6
          have y6:=zD (P:=E) zAQ (o:=1) x6
          simp only [lnth,zE] at y6
          have l7:LS (k.next+1) (g6.new (.row [.int .i64 x.2] 3 0 false)) v5' L':=l6.mono (by simp) (fun b h1 h2 _=>zK (by omega))
          have e7:=e6.new (.row [.int .i64 x.2] 3 0 false)
          have r7:=zI g6 (.row [.int .i64 x.2] 3 0 false)
          have m7:(g6.new (.row [.int .i64 x.2] 3 0 false)).get k.next=_:=(zK (by have:=sg.mlt;omega)).trans m6
          have hL9:L'.length<=999999:=by have:=zBq _ _ s5.nd s5.bd;have:=hSS.len;omega
          obtain ⟨v8,g8,a1,a2,a3,a4,a5,a6,a7,a8⟩:=l7.app hL9 r7
          simp only [zCL,Nat.zero_add,y6,zA,bs47,zL,a1]
          have n7:(g6.new (.row [.int .i64 x.2] 3 0 false)).next=g6.next+1:=rfl
          obtain ⟨bl,cl,hvl,hl1,hl2,_⟩:=l7.ex
          have hkn:k.next<g.next:=sg.mlt
          have hnb:∀ c,c<=k.next->¬ zo v5' c:=by
           rintro c hc ⟨n',c',he⟩
           rw [hvl] at he
           simp only [Value.slice.injEq,Option.some.injEq,Addr.mk.injEq] at he
           omega
          have hge:∀ c,c<=k.next->g8.get c=(g6.new (.row [.int .i64 x.2] 3 0 false)).get c:=fun c hc=>a5 c (by omega) (hnb c hc)
          have s8:St22 k w0 k.next SS.length v8 (L'++[x.2]) g8:=by
           refine ⟨⟨a6 e7.ok,by omega,fun c hc=>(hge c (by omega)).trans (e7.get c hc)⟩,a8 w0 (by rw [wm_new];exact w6) (by omega),⟨insI x.2 R,ver+1,(hge _ (Nat.le_refl _)).trans m7,insI_nodup mnd hxR,fun y=>?_⟩,by omega,?_,?_,?_⟩
           ·rw [insI_mem,mmem]
            simp only [List.mem_append,List.mem_singleton]
            exact Or.comm
           ·rw [← hadd];exact addS_nodup s5.nd x
           ·intro y hy
            rcases List.mem_append.1 hy with hy|hy
            ·exact s5.bd y hy
            ·rw [List.mem_singleton.1 hy];exact ⟨xt0,xtN⟩
           ·refine ⟨_,UNK+1,?_,?_,?_,.inr ⟨rfl,a4⟩⟩
            ·rw [a2];simp
            ·omega
            ·omega
          exact skip g8 v8 _ s8 (by simp;omega) (Nat.le_trans a7 (by rw [wm_new];exact v6w)) hfold
        ·have:addS L' x=L':=by unfold addS;simp [hx0]
         rw [this] at hfold
         simp only [hx0,decide_false,show (false==true)=false from rfl,cond_false,zA,zJ,zAA]
         exact skip g5 v5' L' s5 hLL v5w hfold
      exact steps (SS[s]).length 0 L v5 h' (by omega) st1 (Nat.le_refl _) y3 (by simp)
    subst hv
    simp only [zA,len222_3_2,zb,hlt,decide_true,z7]
    exact hq
   ·subst hv
    have:¬ ((i:Int)<(L.length:Int)):=by omega
    simp only [zA,len222_3_2,zb,this,decide_false,zAA,kR_0,ne_normal,true_and]
    have hwl':h.wm<=l:=hwl.resolve_left (by omega)
    refine ⟨.inr (by omega),?_⟩
    rw [hb]
    have:bfs SS body (f+1) i L=false:=by
     simp only [bfs,List.getElem?_eq_none (by omega:L.length<=i)]
    rw [this]
    refine ⟨?_,?_,fun _=>⟨st.ext.next,fun c hc=>st.ext.get c hc⟩,fun h=>by cases h⟩
    ·have:=st.ext.ok
     show cond (Nat.ble k.wm h.wm) k.wm h.wm<=h.next+UNK
     unfold AH.ok at this
     cases hc:Nat.ble k.wm h.wm with
     | true=>have:=ble_true.1 hc;simp only [cond_true];omega
     | false=>simpa using this
    ·show w0<=cond (Nat.ble k.wm h.wm) k.wm h.wm
     cases Nat.ble k.wm h.wm
     ·exact st.w
     ·exact hw
 exact loop SS.length 0 [t] _ _ (by omega) st0 (by simp) (by simp) (.inl rfl) rfl
noncomputable def C130f (s:Bool) (d:Nat):Cx:=⟨E,s,none,B130e,[([],[8])],[8],[d]⟩
theorem F130f_ev {s:Bool} {d:Nat} {v8:Value} {T:Tm} {h:AH} {K:KF} (hT:∀ x∈[(8,v8)],T.get x.1=x.2) (H:Q130e_0 s K v8 h) :
  Ev s (evC E (zX E) none B130e ⟨T,h,[d]⟩) (finQ (C130f s d) K):=
 enter_ok (C:=C130f s d) (by kernel_rfl) (by kernel_rfl) hT ((by kernel_rfl:contK (C130f s d) K 30 (rs B130e 60 (.at [])) (zm [(8,v8)]) h=(SP (C130f s d) K [] [(8,v8)] h)).mpr
  (step_ok (p:=[]) (by kernel_rfl) rfl ((by kernel_rfl:stepK (C130f s d) K [] (zm [(8,v8)]) h=Q130e_0 s K v8 h).mpr H)))
theorem B130_eq:B130=.seq B130a (.seq (.seq B130b (.block 0 (.rangeFunc (.tmp 14) #[15] B130d B130c))) (.seq B130e .ret)):=by kernel_rfl
def zCH (R:Rel) (SS:List zAF) (u:Int) (x:Int×Int):Bool:=match SS[u.toNat]? with
 | some S=>strongB R S x
 | none=>false
def bodyB (R:Rel) (SS:List zAF) (s:Int) (x:Int×Int) (u:Int):Bool:=
 decide ((s,u)∈R)&&((decide (x.1=0)&&decide ((x.2,u)∈R))||zCH R SS u x)
def branchB (R:Rel) (SS:List zAF) (s t:Int) (x:Int×Int):Bool:=bfs SS (bodyB R SS s x) SS.length 0 [t]
theorem call178 {k:AH} {bg:Nat} {t:Int} :
  Ev true ((zX E).call 178 [ptr bg,.int .i64 t] k) fun x=>x.1=.func (.func 222) #[] #[ptr (k.next+1),ptr k.next]/\x.2.next=k.next+2/\x.2.ok/\(∀ w,w<=k.wm->w<=k.next->w<=x.2.wm) ∧
   x.2.get k.next=some (.row [ptr bg] 128 0 false)/\x.2.get (k.next+1)=some (.row [.int .i64 t] 3 0 false)/\∀ c,c<k.next->x.2.get c=k.get c:=by
 refine F178_some (Rp:=fun v k'=>v=.func (.func 222) #[] #[ptr (k.next+1),ptr k.next]/\k'.next=k.next+2/\k'.ok/\(∀ w,w<=k.wm->w<=k.next->w<=k'.wm) ∧
   k'.get k.next=some (.row [ptr bg] 128 0 false)/\k'.get (k.next+1)=some (.row [.int .i64 t] 3 0 false)/\∀ c,c<k.next->k'.get c=k.get c) (P178_0_of ?_)
 simp only [zd,zL,zA,zf]
 refine P178_1_of ?_
 have g0:((k.fresh.new (.row [ptr bg] 128 0 false)).new (.row [.int .i64 t] 3 0 false)).get k.next=some (.row [ptr bg] 128 0 false):=(zK (by simp)).trans (zI k.fresh _)
 have g1:((k.fresh.new (.row [ptr bg] 128 0 false)).new (.row [.int .i64 t] 3 0 false)).get (k.next+1)=some (.row [.int .i64 t] 3 0 false):=zI (k.fresh.new _) _
 have g2:∀ c,c<k.next->((k.fresh.new (.row [ptr bg] 128 0 false)).new (.row [.int .i64 t] 3 0 false)).get c=k.get c:=fun c hc=>(zK (by simp;omega)).trans ((zK (by simp;omega)).trans rfl)
 have n1:((k.fresh.new (.row [ptr bg] 128 0 false)).new (.row [.int .i64 t] 3 0 false)).next=k.next+2:=rfl
 have w1:((k.fresh.new (.row [ptr bg] 128 0 false)).new (.row [.int .i64 t] 3 0 false)).wm=k.next+UNK:=rfl
 simp only [zZ,AH.next_new]
 generalize ((k.fresh.new (.row [ptr bg] 128 0 false)).new (.row [.int .i64 t] 3 0 false))=k1 at g0 g1 g2 n1 w1
 simp only [zAR,zA,zAD,zT,true_and]
 refine ⟨.inl rfl,n1,?_,fun w h1 h2=>?_,g0,g1,g2⟩
 ·show cond (Nat.ble k.wm k1.wm) k.wm k1.wm<=k1.next+UNK
  cases hc:Nat.ble k.wm k1.wm with
  | true=>have:=ble_true.1 hc;simp only [cond_true];omega
  | false=>simp only [cond_false];omega
 ·show w<=cond (Nat.ble k.wm k1.wm) k.wm k1.wm
  cases Nat.ble k.wm k1.wm
  ·simp only [cond_false];omega
  ·exact h1
theorem ev_inv {α:Type} {x:R α} {Q:α->Prop} (h:Ev true x Q):∃ a,x=some [a]/\Q a:=by
 obtain ⟨l,e,_,h1,h2⟩:=h
 match l,h1 rfl with
 | [a],_=>exact ⟨a,e,h2 a (by simp)⟩
def KB130 (R:Rel) (SS:List zAF) (s:Int) (x:Int×Int) (un:Int) (h:AH) (b8:Nat):KF:=fun ex _ g=>(bodyB R SS s x un=false/\ex=.normal/\g=h)\/(bodyB R SS s x un=true/\ex=.ret/\g=h.upd b8 (some (.row [.bool true] 4 0 false)))
theorem body130 {h:AH} {l b4 b5 b7 b8 m ver bg un:Nat} {gx:Value} {R:Rel} {SS:List zAF} {S:zAF} {s:Int} {x:Int×Int} {v:Value} {T:Tm} (hok:h.ok)
  (h4:h.get b4=some (.row (zAk gx (ptr bg) m) 178 0 false)) (h5:h.get b5=some (.row [.int .i64 s] 3 0 false)) (h7:h.get b7=some (.row (zE x) 134 0 false)) (h8:h.get b8=some (.row [v] 4 0 false))
  (hm:h.get m=some (.map (ent R) ver)) (hml:m<h.next) (hR:R.Nodup) (hg:GV h bg SS) (hS:SS[un]?=some S) (hSl:S.length<=1000000)
  (hT:∀ y∈[(4,ptr b4),(5,ptr b5),(7,ptr b7),(8,ptr b8),(9,Value.int .i64 (un:Int))],T.get y.1=y.2) :
  Ev true (evC E (zX E) (some l) B130c ⟨T,h,[]⟩) (finQ (C130c true l) (KB130 R SS s x un h b8)):=by
 refine F130c_ev hT (P130c_0_of ?_)
 have la:=za (P:=E) ta_176 (o:=0) h4 (by simp [zAk])
 rw [List.drop_zero,List.take_of_length_le (by simp [zAk])] at la
 have lf:=za (P:=E) ta_178 (o:=0) h4 (by simp [zAk])
 rw [List.drop_zero,List.take_of_length_le (by simp [zAk])] at lf
 have l5:=zD (P:=E) zAQ (o:=0) h5
 have x0:=zD (P:=E) zAQ (o:=0) h7
 have x1:=zD (P:=E) zAQ (o:=1) h7
 have lx:=za (P:=E) ta_134 (o:=0) h7 (by simp [zE])
 rw [List.drop_zero,List.take_of_length_le (by simp [zE])] at lx
 simp only [lnth,zE] at l5 x0 x1
 have hstrong:zCH R SS (un:Int) x=strongB R S x:=by
  unfold zCH
  simp [hS]
 have fin:∀ b:Bool,bodyB R SS s x un=b->BrK (some (.bool b)) (P130c_1 true l (KB130 R SS s x un h b8) (ptr b8) h) (KB130 R SS s x un h b8 .normal [] h):=by
  intro b hb
  rw [zBh]
  refine ⟨fun e=>?_,fun e=>.inl ⟨by rw [hb,e],rfl,rfl⟩⟩
  refine P130c_1_of ?_
  have hst:=zw (P:=E) ts_4 (o:=0) (x:=.bool true) (cs:=[.bool true]) h8 rfl rfl (by simp) (by simp [zn])
  simp only [hst,zL]
  exact .inr ⟨by rw [hb,e],rfl,rfl⟩
 simp only [zDM,Nat.add_zero,la,l5,zA,zR,call123 hok hm hml hR,zO]
 by_cases e1:(s,(un:Int))∈R
 ·simp only [e1,decide_true,zN,beq_self_eq_true,cond_true,fa_134_0,zCL,Nat.add_zero,Nat.zero_add,x0,x1,zA,zAV]
  by_cases e2:x.1=0
  ·simp only [e2,decide_true,zN,zY,beq_self_eq_true,cond_true,zDM,fa_134_0,zCL,Nat.add_zero,Nat.zero_add,la,x1,zA,zR,call123 hok hm hml hR,zO,zJ]
   by_cases e3:(x.2,(un:Int))∈R
   ·simp only [e3,decide_true,zN,zY,show (true==false)=false from rfl,cond_false,zA,zL,zJ,cond_true]
    exact fin true (by simp [bodyB,e1,e2,e3])
   ·simp only [e3,decide_false,zN,zY,beq_self_eq_true,cond_true,lf,l5,lx,zA,zR,call128 hok hm hml hR hg hS hSl,zO,zJ,cond_false]
    exact fin _ (by simp [bodyB,e1,e2,e3,hstrong])
  ·simp only [e2,decide_false,zN,zY,show (false==true)=false from rfl,beq_self_eq_true,cond_false,cond_true,zA,zL,zJ,lf,l5,lx,zR,call128 hok hm hml hR hg hS hSl,zO]
   exact fin _ (by simp [bodyB,e1,e2,hstrong])
 ·simp only [e1,decide_false,zN,zY,zt,zu,show (false==true)=false from rfl,cond_false,zA,zL,zJ]
  exact fin false (by simp [bodyB,e1])
noncomputable def zBE (st:LoopState) (pend:Option Code) (T:Tm) (d:Nat):AObj:=.loop st pend T [15] B130d B130c d
theorem zBO {h:AH} {a l:Nat} {vs:List Value} {ty es:Nat} {ro:Bool} {st:LoopState} {pend:Option Code} {T:Tm} {d:Nat} (h1:h.get a=some (.row vs ty es ro)) (h2:h.get l=some (zBE st pend T d)):a≠l:=by
 rintro rfl
 rw [h1] at h2
 simp [zBE] at h2
theorem map_ne_loop {h:AH} {a l:Nat} {es:List (Value×Value)} {ver:Nat} {st:LoopState} {pend:Option Code} {T:Tm} {d:Nat} (h1:h.get a=some (.map es ver)) (h2:h.get l=some (zBE st pend T d)):a≠l:=by
 rintro rfl
 rw [h1] at h2
 simp [zBE] at h2
theorem GV.upd_loop {h:AH} {bg l:Nat} {SS:List zAF} {st:LoopState} {pend:Option Code} {T:Tm} {d:Nat} (g:GV h bg SS) (hl:h.get l=some (zBE st pend T d)) (o:Option AObj):GV (h.upd l o) bg SS:=by
 obtain ⟨loc,bs,cells,G⟩:=g.ex
 refine ⟨loc,bs,cells,(zU (zBO G.g hl)).trans G.g,(zU (zBO G.s hl)).trans G.s,G.len,G.ne,G.ltg,G.lts,G.locg,G.locs,fun i c S hc hS=>?_,G.blk,G.dis⟩
 rcases G.cell i c S hc hS with a|⟨b,a1,a2,a3⟩
 ·exact .inl a
 ·exact .inr ⟨b,a1,(zU (zBO a2 hl)).trans a2,a3⟩
theorem round130 {h:AH} {l d b4 b5 b7 b8 m ver bg un:Nat} {gx:Value} {R:Rel} {SS:List zAF} {S:zAF} {s:Int} {x:Int×Int} {v:Value} {T:Tm} (hok:h.ok)
  (hl:h.get l=some (zBE .ready none T d))
  (h4:h.get b4=some (.row (zAk gx (ptr bg) m) 178 0 false)) (h5:h.get b5=some (.row [.int .i64 s] 3 0 false)) (h7:h.get b7=some (.row (zE x) 134 0 false)) (h8:h.get b8=some (.row [v] 4 0 false))
  (hm:h.get m=some (.map (ent R) ver)) (hml:m<h.next) (hR:R.Nodup) (hg:GV h bg SS) (hS:SS[un]?=some S) (hSl:S.length<=1000000)
  (hT:∀ y∈[(4,ptr b4),(5,ptr b5),(7,ptr b7),(8,ptr b8)],T.get y.1=y.2) :
  ∃ h',(zX E).round l [.int .i64 (un:Int)] h=some [(.bool (!bodyB R SS s x un),h')]/\h'.ok/\h'.wm<=l/\(∀ w,w<=h.wm->w<=l->w<=b8->w<=h'.wm)/\h'.next=h.next/\(bodyB R SS s x un=false->∀ c,h'.get c=h.get c) ∧
   (bodyB R SS s x un=true->h'.get l=some (zBE .done (some .ret) T d)/\h'.get b8=some (.row [.bool true] 4 0 false)/\∀ c,c≠l->c≠b8->h'.get c=h.get c):=by
 have n4:=zBO h4 hl
 have n5:=zBO h5 hl
 have n7:=zBO h7 hl
 have n8:=zBO h8 hl
 have nm:=map_ne_loop hm hl
 let hb:=h.upd l (some (zBE .busy none T d))
 have hbok:hb.ok:=ok_upd hok _ _
 have q:∀ {c:Nat},c≠l->hb.get c=h.get c:=fun hc=>zU hc
 have ql:hb.get l=some (zBE .busy none T d):=zQ _ _ _
 have key:Ev true ((zX E).round l [.int .i64 (un:Int)] h) fun y=>(bodyB R SS s x un=false/\y=(.bool true,hb.upd l (some (zBE .ready none T d))))\/(bodyB R SS s x un=true/\y=(.bool false,(hb.upd b8 (some (.row [.bool true] 4 0 false))).upd l (some (zBE .done (some .ret) T d)))):=by
  rw [round_eq]
  unfold roundCall
  rw [hl]
  show Ev true (zC1 E (zX E) l B130d B130c h (zBb T [15] [.int .i64 (un:Int)])) _
  show Ev true (AM.R.andThen (evC E (zX E) (some l) B130d ⟨T.put 15 (.int .i64 (un:Int)),h,[]⟩) (midRound E (zX E) l B130c)) _
  have hT':∀ y∈[(4,ptr b4),(5,ptr b5),(7,ptr b7),(8,ptr b8),(15,Value.int .i64 (un:Int))],(T.put 15 (.int .i64 (un:Int))).get y.1=y.2:=by
   intro y hy
   rw [Tm.get_put]
   simp only [List.mem_cons,List.not_mem_nil,or_false] at hy
   rcases hy with rfl|rfl|rfl|rfl|rfl
   ·exact hT _ (by simp)
   ·exact hT _ (by simp)
   ·exact hT _ (by simp)
   ·exact hT _ (by simp)
   ·rfl
  have ha:=F130d_ev (s:=true) (ll:=l) (h:=h) (K:=fun ex vs g=>ex=.normal/\vs=[ptr b4,ptr b5,ptr b7,ptr b8,.int .i64 (un:Int)]/\g=h) hT' (P130d_0_of (by exact ⟨by trivial,by trivial,by trivial⟩))
  refine Ev.andThen (ha.mono fun o ho=>?_)
  obtain ⟨o1,o2,o3,o4⟩:=ho
  have ho1:o.st.defs=[]:=o1
  have ho3:[o.st.T.get 4,o.st.T.get 5,o.st.T.get 7,o.st.T.get 8,o.st.T.get 9]=[ptr b4,ptr b5,ptr b7,ptr b8,.int .i64 (un:Int)]:=o3
  simp only [List.cons.injEq,and_true] at ho3
  unfold midRound
  rw [o2,o4,ho1]
  simp only [isReady,hl,zBE,cond_true,zCV,beginRound]
  have hT2:∀ y∈[(4,ptr b4),(5,ptr b5),(7,ptr b7),(8,ptr b8),(9,Value.int .i64 (un:Int))],o.st.T.get y.1=y.2:=by
   intro y hy
   simp only [List.mem_cons,List.not_mem_nil,or_false] at hy
   rcases hy with rfl|rfl|rfl|rfl|rfl
   ·exact ho3.1
   ·exact ho3.2.1
   ·exact ho3.2.2.1
   ·exact ho3.2.2.2.1
   ·exact ho3.2.2.2.2
  have hb0:=body130 (h:=hb) (l:=l) (s:=s) (T:=o.st.T) hbok ((q n4).trans h4) ((q n5).trans h5) ((q n7).trans h7) ((q n8).trans h8) ((q nm).trans hm) hml hR (hg.upd_loop hl _) hS hSl hT2
  refine Ev.andThen (hb0.mono fun p hp=>?_)
  obtain ⟨_,p2⟩:=hp
  rcases p2 with ⟨p3,p4,p5⟩|⟨p3,p4,p5⟩
  ·unfold endRound
   rw [p4,p5]
   simp only [jumpOf,zCV,ql,zBE,zC7,Option.isNone,cond_true]
   exact Ev.one (.inl ⟨p3,rfl⟩)
  ·unfold endRound
   rw [p4,p5]
   have:(hb.upd b8 (some (.row [.bool true] 4 0 false))).get l=some (zBE .busy none T d):=(zU (Ne.symm n8)).trans ql
   simp only [jumpOf,zCV,this,zBE,zC7,Option.isNone,cond_false]
   exact Ev.one (.inr ⟨p3,rfl⟩)
 obtain ⟨y,e,hy⟩:=ev_inv key
 rcases hy with ⟨hy,rfl⟩|⟨hy,rfl⟩
 ·refine ⟨_,by rw [e,hy];rfl,ok_upd hbok _ _,(zCx _ _ _).2,fun w h1 h2 h3=>z5 (z5 h1 h2) h2,rfl,fun _ c=>?_,(fun h=>by rw [hy] at h;cases h)⟩
  by_cases hc:c=l
  ·subst hc;rw [zQ,hl]
  ·rw [zU hc,q hc]
 ·refine ⟨_,by rw [e,hy];rfl,ok_upd (ok_upd hbok _ _) _ _,(zCx _ _ _).2,fun w h1 h2 h3=>z5 (z5 (z5 h1 h2) h3) h2,rfl,(fun h=>by rw [hy] at h;cases h),fun _=>⟨zQ _ _ _,(zU n8).trans (zQ _ _ _),fun c h1 h2=>?_⟩⟩
  rw [zU h1,zU h2,q h1]
theorem end130 {T:Tm} {h:AH} {d b8:Nat} {b:Bool} {ex:Ex} (hex:ex=.ret\/ex=.normal) (hT:T.get 8=ptr b8) (hd:h.get d=some .defd) (h8:h.get b8=some (.row [.bool b] 4 0 false)) :
  zAf E Tryz.f130 ⟨ex,⟨T,h,[d]⟩⟩=one (.bool b,h.upd d none):=by
 have hne:b8≠d:=by rintro rfl;rw [hd] at h8;cases h8
 have h8':(h.upd d none).get b8=some (.row [.bool b] 4 0 false):=(zU hne).trans h8
 have hres:Tryz.f130.results.toList=[.cell 8 4]:=by kernel_rfl
 have hld:=zD (P:=E) ta_4 (o:=0) h8'
 simp only [lnth] at hld
 have hld':loadV E 4 (ptr b8) (h.upd d none)=some (.bool b):=hld
 have:zAf E Tryz.f130 ⟨ex,⟨T,h,[d]⟩⟩=zCb E Tryz.f130 T (zCC [d] h):=by
  rcases hex with rfl|rfl <;> rfl
 rw [this]
 simp only [zCC,hd,zCb,resultsV,hres,zCX,hT,hld',v1]
theorem call130 {k:AH} {m ver bg:Nat} {gx:Value} {R:Rel} {SS:List zAF} {s t:Int} {x:Int×Int} (hok:k.ok)
  (hm:k.get m=some (.map (ent R) ver)) (hml:m<k.next) (hR:R.Nodup) (hg:GV k bg SS) (hSS:SSok SS) (ht0:0<=t) (htN:t<(SS.length:Int)) :
  (zX E).call 130 [.agg ⟨zAk gx (ptr bg) m⟩,.int .i64 s,.int .i64 t,.agg ⟨zE x⟩] k=some [(.bool (branchB R SS s t x),k)]:=by
 refine call_flat (s:=true) hok F130_get F130_body (F130_sum _ _) (by kernel_rfl) rfl ?_
 show Ev true (AM.R.andThen (evC E (zX E) none B130 ⟨⟨Tryz.f130.ntmps,zCj [.agg ⟨zAk gx (ptr bg) m⟩,.int .i64 s,.int .i64 t,.agg ⟨zE x⟩] 0 .e⟩,k.fresh,[]⟩) (zAf E Tryz.f130)) _
 have hT0:∀ y∈[(0,Value.agg ⟨zAk gx (ptr bg) m⟩),(1,.int .i64 s),(2,.int .i64 t),(3,.agg ⟨zE x⟩)],(⟨Tryz.f130.ntmps,zCj [.agg ⟨zAk gx (ptr bg) m⟩,.int .i64 s,.int .i64 t,.agg ⟨zE x⟩] 0 .e⟩:Tm).get y.1=y.2:=by
  intro y hy
  simp only [List.mem_cons,List.not_mem_nil,or_false] at hy
  rcases hy with rfl|rfl|rfl|rfl <;> kernel_rfl
 generalize (⟨Tryz.f130.ntmps,zCj [.agg ⟨zAk gx (ptr bg) m⟩,.int .i64 s,.int .i64 t,.agg ⟨zE x⟩] 0 .e⟩:Tm)=T0 at hT0
 rw [B130_eq]
 refine Ev.andThen ?_
 show Ev true (AM.R.andThen (evC E (zX E) none B130a ⟨T0,k.fresh,[]⟩) (thenC (evC E (zX E) none (.seq (.seq B130b (.block 0 (.rangeFunc (.tmp 14) #[15] B130d B130c))) (.seq B130e .ret))))) _
 obtain ⟨kA,hkA,oA,a4,a5,a7,a8,nA⟩:∃ kA,kA=(((k.fresh.new (.row (zAk gx (ptr bg) m) 178 0 false)).new (.row [.int .i64 s] 3 0 false)).new (.row (zE x) 134 0 false)).new (.row [.bool false] 4 0 false)/\Own k kA/\kA.get k.next=some (.row (zAk gx (ptr bg) m) 178 0 false) ∧
   kA.get (k.next+1)=some (.row [.int .i64 s] 3 0 false)/\kA.get (k.next+2)=some (.row (zE x) 134 0 false)/\kA.get (k.next+3)=some (.row [.bool false] 4 0 false)/\kA.next=k.next+4:=by
  refine ⟨_,rfl,((((Own.fresh k).new _).new _).new _).new _,?_,?_,?_,?_,rfl⟩
  ·exact (zK (by simp;omega)).trans ((zK (by simp;omega)).trans ((zK (by simp)).trans (zI k.fresh _)))
  ·exact (zK (by simp)).trans ((zK (by simp)).trans (zI (k.fresh.new _) _))
  ·exact (zK (by simp)).trans (zI ((k.fresh.new _).new _) _)
  ·exact zI (((k.fresh.new _).new _).new _) _
 have ha:=F130a_ev (s:=true) (h:=k.fresh) (K:=fun ex vs g=>ex=.normal/\vs=[.int .i64 t,ptr k.next,ptr (k.next+1),ptr (k.next+2),ptr (k.next+3)]/\g=kA) hT0 (P130a_0_of (by
  simp only [zd,zL,zA,zS,zf,z4]
  exact ⟨trivial,rfl,hkA.symm⟩))
 refine Ev.andThen (ha.mono fun o ho=>?_)
 obtain ⟨ex,T,g,ds⟩:=o
 obtain ⟨o1,o2,o3,o4⟩:=ho
 have o1':ds=[]:=o1
 have o2':ex=.normal:=o2
 have o4':g=kA:=o4
 subst o1' o2' o4'
 clear o1 o2 o4
 have o3':[T.get 2,T.get 4,T.get 5,T.get 7,T.get 8]=[.int .i64 t,ptr k.next,ptr (k.next+1),ptr (k.next+2),ptr (k.next+3)]:=o3
 simp only [List.cons.injEq,and_true] at o3'
 show Ev true (AM.R.andThen (AM.R.andThen (evC E (zX E) none B130b ⟨T,g,[]⟩) (thenC (evC E (zX E) none (.block 0 (.rangeFunc (.tmp 14) #[15] B130d B130c))))) (thenC (evC E (zX E) none (.seq B130e .ret)))) _
 refine Ev.andThen (Ev.andThen ?_)
 have hTb:∀ y∈[(2,Value.int .i64 t),(4,ptr k.next),(5,ptr (k.next+1)),(7,ptr (k.next+2)),(8,ptr (k.next+3))],T.get y.1=y.2:=by
  intro y hy
  simp only [List.mem_cons,List.not_mem_nil,or_false] at hy
  rcases hy with rfl|rfl|rfl|rfl|rfl
  ·exact o3'.1
  ·exact o3'.2.1
  ·exact o3'.2.2.1
  ·exact o3'.2.2.2.1
  ·exact o3'.2.2.2.2
 have lg:=zD (P:=E) zCz (o:=1) a4
 simp only [lnth,zAk] at lg
 have hb:=F130b_ev (s:=true) (h:=g) (K:=fun ex vs kB=>ex=.normal/\vs=[ptr k.next,ptr (k.next+1),ptr (k.next+2),ptr (k.next+3),.func (.func 222) #[] #[ptr (g.next+1),ptr g.next]] ∧
   kB.next=g.next+2/\kB.ok/\(∀ w,w<=g.wm->w<=g.next->w<=kB.wm)/\kB.get g.next=some (.row [ptr bg] 128 0 false)/\kB.get (g.next+1)=some (.row [.int .i64 t] 3 0 false)/\∀ c,c<g.next->kB.get c=g.get c) hTb (P130b_0_of (by
  simp only [zDM,fa_176_1,Nat.add_zero,Nat.zero_add,lg,zA,zR]
  refine call178.mono fun y hy=>?_
  obtain ⟨y1,y2⟩:=hy
  rw [y1]
  exact ⟨trivial,rfl,y2⟩))
 refine hb.mono fun o ho=>?_
 obtain ⟨ex,T',kB,ds⟩:=o
 obtain ⟨p1,p2,p3,nB,okB,wB,b4,b5,bo⟩:=ho
 have p1':ds=[]:=p1
 have p2':ex=.normal:=p2
 subst p1' p2'
 clear p1 p2
 have p3':[T'.get 4,T'.get 5,T'.get 7,T'.get 8,T'.get 14]=[ptr k.next,ptr (k.next+1),ptr (k.next+2),ptr (k.next+3),.func (.func 222) #[] #[ptr (g.next+1),ptr g.next]]:=p3
 simp only [List.cons.injEq,and_true] at p3'
 obtain ⟨t4,t5,t7,t8,t14⟩:=p3'
 clear p3
 simp only at nB okB wB b4 b5 bo
 show Ev true (AM.R.andThen (evRange E (zX E) none (some (T'.get 14)) [15] B130d B130c ⟨T',kB,[]⟩) (zDV 0)) _
 rw [t14]
 have hhb:zCu E 222=true:=by kernel_rfl
 have hst:evRange E (zX E) none (some (.func (.func 222) #[] #[ptr (g.next+1),ptr g.next])) [15] B130d B130c ⟨T',kB,[]⟩ =
   AM.R.andThen ((zX E).call 222 [.func (.yield (kB.next+1)) #[] #[],ptr (g.next+1),ptr g.next] ((kB.new .defd).new (zBE .ready none T' kB.next))) fun x=>zB0 (kB.next+1) T' [kB.next] x.2:=by
  unfold evRange
  simp only [hhb,cond_true]
  rfl
 rw [hst]
 refine Ev.andThen (Ev.andThen ?_)
 have okC:((kB.new .defd).new (zBE .ready none T' kB.next)).ok:=zCE (zCE okB _) _
 have cl:((kB.new .defd).new (zBE .ready none T' kB.next)).get (kB.next+1)=some (zBE .ready none T' kB.next):=zI (kB.new .defd) _
 have cd:((kB.new .defd).new (zBE .ready none T' kB.next)).get kB.next=some .defd:=(zK (by simp)).trans (zI kB _)
 have co:∀ c,c<kB.next->((kB.new .defd).new (zBE .ready none T' kB.next)).get c=kB.get c:=fun c hc=>(zK (by simp;omega)).trans (zK (by omega))
 have nC:((kB.new .defd).new (zBE .ready none T' kB.next)).next=kB.next+2:=rfl
 have wC:((kB.new .defd).new (zBE .ready none T' kB.next)).wm=kB.wm:=rfl
 generalize ((kB.new .defd).new (zBE .ready none T' kB.next))=kC at okC cl cd co nC wC
 have cg:∀ c,c<g.next->kC.get c=g.get c:=fun c hc=>(co c (by omega)).trans (bo c hc)
 have eC:Ext k kC:=⟨okC,by omega,fun c hc=>(cg c (by omega)).trans (oA.ext.get c hc)⟩
 have hw0:k.next<=kC.wm:=by rw [wC];exact wB _ oA.wm (by omega)
 have hY:Yd kC (kB.next+1) k.next SS.length (bodyB R SS s x) (fun h'=>h'.get (kB.next+1)=some (zBE .done (some .ret) T' kB.next)/\h'.get (k.next+3)=some (.row [.bool true] 4 0 false)/\h'.get kB.next=some .defd):=by
  intro h he hw u hu0 huN
  obtain ⟨un,rfl⟩:=Int.eq_ofNat_of_zero_le hu0
  have hun:un<SS.length:=by omega
  have hSu:SS[un]?=some SS[un]:=List.getElem?_eq_getElem hun
  have hek:=eC.trans he
  obtain ⟨h',r1,r2,r3,r4,r5,r6,r7⟩:=round130 (h:=h) (un:=un) (s:=s) (x:=x) he.ok ((he.get _ (by omega)).trans cl) ((he.get _ (by omega)).trans ((cg _ (by omega)).trans a4)) ((he.get _ (by omega)).trans ((cg _ (by omega)).trans a5)) ((he.get _ (by omega)).trans ((cg _ (by omega)).trans a7)) ((he.get _ (by omega)).trans ((cg _ (by omega)).trans a8))
   ((hek.get m hml).trans hm) (Nat.lt_of_lt_of_le hml hek.next) hR (hg.ext hek) hSu (by have:=(hSS.stp un _ hSu).1;omega) (by
    intro y hy
    simp only [List.mem_cons,List.not_mem_nil,or_false] at hy
    rcases hy with rfl|rfl|rfl|rfl
    ·exact t4
    ·exact t5
    ·exact t7
    ·exact t8)
  refine ⟨h',r1,r2,r3,r4 _ hw (by omega) (by omega),fun e=>⟨r5,r6 e⟩,fun e=>?_⟩
  obtain ⟨z1,z2,z3⟩:=r7 e
  exact ⟨z1,z2,(z3 _ (by omega) (by omega)).trans ((he.get _ (by omega)).trans cd)⟩
 have hc:=call222 (k:=kC) (l:=kB.next+1) (bs0:=g.next+1) (bgp:=g.next) (bg:=bg) (w0:=k.next) (SS:=SS) (t:=t) okC ((co _ (by omega)).trans b5) (by omega) ((co _ (by omega)).trans b4) (by omega) (hg.ext eC) hSS ht0 htN hw0 (by omega) (by omega) (fun h h' hge hn hr=>by
  rw [hge,hge,hge];exact hr) hY
 refine hc.mono fun y hy=>?_
 obtain ⟨v,h⟩:=y
 obtain ⟨_,f1,f2,f3,f4⟩:=hy
 simp only at f1 f2 f3 f4 ⊢
 have hfold:bfs SS (bodyB R SS s x) SS.length 0 [t]=branchB R SS s t x:=rfl
 rw [hfold] at f3 f4
 cases hb:branchB R SS s t x with
 | true=>
  obtain ⟨r1,r2,r3⟩:=f4 hb
  have her:zB0 (kB.next+1) T' [kB.next] h=one ⟨.ret,⟨T',h.upd (kB.next+1) (some (zBE .exhausted (some .ret) T' kB.next)),[kB.next]⟩⟩:=by
   unfold zB0
   rw [r1]
   rfl
  rw [her,zL]
  show Ev true (one _) _
  rw [zL]
  show Ev true (one _) _
  rw [zL]
  show Ev true (zAf E Tryz.f130 ⟨.ret,⟨T',h.upd (kB.next+1) (some (zBE .exhausted (some .ret) T' kB.next)),[kB.next]⟩⟩) _
  rw [end130 (.inl rfl) t8 ((zU (by omega)).trans r3) ((zU (by omega)).trans r2),zL]
  exact ⟨rfl,z5 (z5 f2 (by omega)) (by omega)⟩
 | false=>
  obtain ⟨r1,r2⟩:=f3 hb
  have hgl:h.get (kB.next+1)=some (zBE .ready none T' kB.next):=(r2 _ (by omega)).trans cl
  have her:zB0 (kB.next+1) T' [kB.next] h=one ⟨.normal,⟨T',h.upd (kB.next+1) (some (zBE .exhausted none T' kB.next)),[kB.next]⟩⟩:=by
   unfold zB0
   rw [hgl]
   rfl
  rw [her,zL]
  show Ev true (one _) _
  rw [zL]
  have q8:(h.upd (kB.next+1) (some (zBE .exhausted none T' kB.next))).get (k.next+3)=some (.row [.bool false] 4 0 false):=(zU (by omega)).trans ((r2 _ (by omega)).trans ((cg _ (by omega)).trans a8))
  have qd:(h.upd (kB.next+1) (some (zBE .exhausted none T' kB.next))).get kB.next=some .defd:=(zU (by omega)).trans ((r2 _ (by omega)).trans cd)
  have qw:k.next<=(h.upd (kB.next+1) (some (zBE .exhausted none T' kB.next))).wm:=z5 f2 (by omega)
  generalize (h.upd (kB.next+1) (some (zBE .exhausted none T' kB.next)))=h1 at q8 qd qw
  show Ev true (AM.R.andThen (evC E (zX E) none B130e ⟨T',h1,[kB.next]⟩) (thenC (evC E (zX E) none .ret))) _
  have hst:=zw (P:=E) ts_4 (o:=0) (x:=.bool false) (cs:=[.bool false]) q8 rfl rfl (by simp) (by simp [zn])
  have he:=F130f_ev (s:=true) (d:=kB.next) (v8:=ptr (k.next+3)) (T:=T') (h:=h1) (K:=fun ex vs g=>ex=.normal/\vs=[ptr (k.next+3)]/\g=h1.upd (k.next+3) (some (.row [.bool false] 4 0 false))) (by
   intro y hy
   simp only [List.mem_cons,List.not_mem_nil,or_false] at hy
   subst hy
   exact t8) (by
   simp only [Q130e_0,hst,zL]
   exact ⟨trivial,trivial,rfl⟩)
  refine Ev.andThen (he.mono fun o ho=>?_)
  obtain ⟨ex,T2,g2,ds⟩:=o
  obtain ⟨o1,o2,o3,o4⟩:=ho
  have o1':ds=[kB.next]:=o1
  have o2':ex=.normal:=o2
  have o4':g2=h1.upd (k.next+3) (some (.row [.bool false] 4 0 false)):=o4
  have o3':[T2.get 8]=[ptr (k.next+3)]:=o3
  subst o1' o2' o4'
  show Ev true (one _) _
  rw [zL]
  show Ev true (zAf E Tryz.f130 ⟨.ret,⟨T2,h1.upd (k.next+3) (some (.row [.bool false] 4 0 false)),[kB.next]⟩⟩) _
  rw [end130 (.inl rfl) (List.cons.inj o3').1 ((zU (by omega)).trans qd) (zQ _ _ _),zL]
  exact ⟨rfl,z5 (z5 qw (by omega)) (by omega)⟩
def SameR (R R':Rel):Prop:=∀ p,p∈R ↔ p∈R'
theorem SameR.dec {R R':Rel} (h:SameR R R') (p:Int×Int):decide (p∈R)=decide (p∈R'):=decide_eq_decide.2 (h p)
theorem strongB_same {R R':Rel} (h:SameR R R') (S:zAF) (x:Int×Int):strongB R S x=strongB R' S x:=by
 have:stepIs R x=stepIs R' x:=by funext y;unfold stepIs;rw [h.dec]
 unfold strongB
 simp only [this]
theorem strongAt_same {R R':Rel} (h:SameR R R') (SS:List zAF) (u:Int) (x:Int×Int):zCH R SS u x=zCH R' SS u x:=by
 unfold zCH
 split
 ·exact strongB_same h _ _
 ·rfl
theorem bodyB_same {R R':Rel} (h:SameR R R') (SS:List zAF) (s:Int) (x:Int×Int):bodyB R SS s x=bodyB R' SS s x:=by
 funext u
 unfold bodyB
 rw [h.dec,h.dec,strongAt_same h]
theorem branchB_same {R R':Rel} (h:SameR R R') (SS:List zAF) (s t:Int) (x:Int×Int):branchB R SS s t x=branchB R' SS s t x:=by
 unfold branchB
 rw [bodyB_same h]
def zBf (kind:Int) (R:Rel) (TT:List zAF) (p x:Int×Int):Bool:=if kind=1 then zCH R TT p.2 x else branchB R TT p.1 p.2 x
theorem followB_same {R R':Rel} (h:SameR R R') (kind:Int) (TT:List zAF):zBf kind R TT=zBf kind R' TT:=by
 funext p x
 unfold zBf
 rw [strongAt_same h,branchB_same h]
theorem all_same {α:Type} {l l':List α} (h:∀ a,a∈l ↔ a∈l') (f:α->Bool):l.all f=l'.all f:=by
 rw [Bool.eq_iff_iff,List.all_eq_true,List.all_eq_true]
 exact ⟨fun H a ha=>H a ((h a).2 ha),fun H a ha=>H a ((h a).1 ha)⟩
def allK (kind:Int) (R:Rel) (SS TT:List zAF):Bool:=allB R SS (zBf kind R TT)
theorem allK_same {R R':Rel} (h:SameR R R') (kind:Int) (SS TT:List zAF):allK kind R SS TT=allK kind R' SS TT:=by
 unfold allK allB
 rw [followB_same h]
 exact all_same h _
def inB (n m:Int) (p:Int×Int):Bool:=decide (p.1<n)&&decide (p.2<m)
def relB (kind:Int) (prs:Rel) (SS TT:List zAF) (n m:Int):Bool:=
 prs.all (inB n m)&&(decide ((0,0)∈prs)&&allK kind prs SS TT&&allK kind (prs.map zC0) TT SS)
def z8 (kind:Int):List Value:=
 if kind=1 then [.func (.func 128) #[] #[],.func (.func 129) #[] #[],.string ⟨#[115,116,114,111,110,103]⟩]
 else [.func (.func 130) #[] #[],.func (.func 131) #[] #[],.string ⟨#[98,114,97,110,99,104,105,110,103]⟩]
def mansV:Value:=.agg ⟨[.nilFunc,.nilFunc,.string ⟨#[]⟩]++z8 1++z8 2⟩
theorem pbm1:zAg E 112 (some [(0,(.func (.func 128) #[] #[])),(1,(.func (.func 129) #[] #[])),(2,(.string ⟨#[115,116,114,111,110,103]⟩))])=some (.agg ⟨z8 1⟩):=by kernel_rfl
theorem pbm2:zAg E 112 (some [(0,(.func (.func 130) #[] #[])),(1,(.func (.func 131) #[] #[])),(2,(.string ⟨#[98,114,97,110,99,104,105,110,103]⟩))])=some (.agg ⟨z8 2⟩):=by kernel_rfl
theorem pbm:zAg E 113 (some [(1,.agg ⟨z8 1⟩),(2,.agg ⟨z8 2⟩)])=some mansV:=by kernel_rfl
theorem pim1:pIndex E 113 (some mansV) (some (.int .i64 1))=some (.agg ⟨z8 1⟩):=by kernel_rfl
theorem pim2:pIndex E 113 (some mansV) (some (.int .i64 2))=some (.agg ⟨z8 2⟩):=by kernel_rfl
theorem pim {kind:Int} (h:zCi kind=true):pIndex E 113 (some mansV) (some (.int .i64 kind))=some (.agg ⟨z8 kind⟩):=by
 simp only [zCi,Bool.or_eq_true,decide_eq_true_eq] at h
 rcases h with rfl|rfl
 ·exact pim1
 ·exact pim2
theorem call79 {k:AH} (hok:k.ok):(zX E).call 79 [] k=some [(mansV,k)]:=by
 refine F79_flat1 hok (by kernel_rfl) (P79_0_of ?_)
 simp only [z_113,zd,zL,zS]
 refine P79_1_of ?_
 have o1:=(Own.fresh k).new (.row [.nilFunc,.nilFunc,.string ⟨#[]⟩,.nilFunc,.nilFunc,.string ⟨#[]⟩,.nilFunc,.nilFunc,.string ⟨#[]⟩] 113 0 false)
 have t1:=zI k.fresh (.row [.nilFunc,.nilFunc,.string ⟨#[]⟩,.nilFunc,.nilFunc,.string ⟨#[]⟩,.nilFunc,.nilFunc,.string ⟨#[]⟩] 113 0 false)
 generalize k.fresh.new (.row [.nilFunc,.nilFunc,.string ⟨#[]⟩,.nilFunc,.nilFunc,.string ⟨#[]⟩,.nilFunc,.nilFunc,.string ⟨#[]⟩] 113 0 false)=k1 at o1 t1
 simp only [zZ] at t1 ⊢
 have hst:=zw (P:=E) ts_113 (o:=0) (x:=mansV) (cs:=[.nilFunc,.nilFunc,.string ⟨#[]⟩]++z8 1++z8 2) t1 rfl rfl (by simp) (by rfl)
 simp only [pbm1,pbm2,pbm,zA,hst,zL,kR_c,zT,true_and]
 have g1:(k1.upd k.next (some (.row (lput [.nilFunc,.nilFunc,.string ⟨#[]⟩,.nilFunc,.nilFunc,.string ⟨#[]⟩,.nilFunc,.nilFunc,.string ⟨#[]⟩] 0 ([.nilFunc,.nilFunc,.string ⟨#[]⟩]++z8 1++z8 2)) 113 0 false))).get k.next=some (.row ([.nilFunc,.nilFunc,.string ⟨#[]⟩]++z8 1++z8 2) 113 0 false):=zQ _ _ _
 have la:=za (P:=E) ta_113 (o:=0) g1 (by decide)
 have:loadV E 113 (ptr k.next) (k1.upd k.next (some (.row (lput [.nilFunc,.nilFunc,.string ⟨#[]⟩,.nilFunc,.nilFunc,.string ⟨#[]⟩,.nilFunc,.nilFunc,.string ⟨#[]⟩] 0 ([.nilFunc,.nilFunc,.string ⟨#[]⟩]++z8 1++z8 2)) 113 0 false)))=some mansV:=la
 rw [this,zA]
 exact ⟨rfl,z5 o1.wm (Nat.le_refl _)⟩
theorem GV.fx {k l:AH} {bg:Nat} {SS:List zAF} (g:GV k bg SS) (f:Fx NoB k l):GV l bg SS:=g.ext ⟨f.ok,f.next,fun c hc=>f.get c hc (fun h=>h)⟩
theorem Fx.ext0 {k l:AH} (f:Fx NoB k l):Ext k l:=⟨f.ok,f.next,fun c hc=>f.get c hc (fun h=>h)⟩
theorem pb178 {a b:Option Addr} {m:Nat}:zAg E 178 (some [(0,.agg ⟨zAk (.pointer a) (.pointer b) m⟩)])=some (.agg ⟨zAk (.pointer a) (.pointer b) m⟩):=by kernel_rfl
def folOf (kind:Int):FuncId:=if kind=1 then 128 else 130
def canOf (kind:Int):FuncId:=if kind=1 then 129 else 131
def nmOf (kind:Int):ByteArray:=if kind=1 then ⟨#[115,116,114,111,110,103]⟩ else ⟨#[98,114,97,110,99,104,105,110,103]⟩
theorem man_eq (kind:Int):z8 kind=[.func (.func (folOf kind)) #[] #[],.func (.func (canOf kind)) #[] #[],.string (nmOf kind)]:=by
 unfold z8 folOf canOf nmOf
 by_cases h:kind=1 <;> simp [h]
theorem veq_man {kind:Int} (h:zCi kind=true):veq 100 (.agg ⟨z8 kind⟩) (.agg ⟨z8 kind⟩)=true:=by
 simp only [zCi,Bool.or_eq_true,decide_eq_true_eq] at h
 rcases h with rfl|rfl <;> kernel_rfl
theorem fol_ok {h0 k':AH} {kind:Int} {gx:Value} {bg m ver:Nat} {R:Rel} {SS:List zAF} (hkind:zCi kind=true) (e:Ext h0 k') (hm:h0.get m=some (.map (ent R) ver)) (hml:m<h0.next) (hR:R.Nodup) (hg:GV h0 bg SS) (hSS:SSok SS)
  {p x:Int×Int} (h0':0<=p.2) (hN:p.2<(SS.length:Int)):(zX E).call (folOf kind) [.agg ⟨zAk gx (ptr bg) m⟩,.int .i64 p.1,.int .i64 p.2,.agg ⟨zE x⟩] k'=some [(.bool (zBf kind R SS p x),k')]:=by
 have hm':=(e.get m hml).trans hm
 have hml':=Nat.lt_of_lt_of_le hml e.next
 simp only [zCi,Bool.or_eq_true,decide_eq_true_eq] at hkind
 rcases hkind with rfl|rfl
 ·obtain ⟨t,ht⟩:=Int.eq_ofNat_of_zero_le h0'
  have htN:t<SS.length:=by omega
  have hS:SS[t]?=some SS[t]:=List.getElem?_eq_getElem htN
  have hf:zBf 1 R SS p x=strongB R SS[t] x:=by
   unfold zBf zCH
   rw [ht]
   simp [hS]
  rw [hf,ht]
  exact call128 e.ok hm' hml' hR (hg.ext e) hS (by have:=(hSS.stp t _ hS).1;omega)
 ·have hf:zBf 2 R SS p x=branchB R SS p.1 p.2 x:=by
   unfold zBf
   simp
  rw [hf]
  exact call130 e.ok hm' hml' hR (hg.ext e) hSS h0' hN
theorem rel11 {k h:AH} {kind:Int} {b1 b2 m ver b8 b11:Nat} {R:Rel} {SS TT:List zAF} (ho:Own k h) (hkind:zCi kind=true)
  (h8:h.get b8=some (.row (zAk (ptr b1) (ptr b2) m) 176 0 false)) (h8l:b8<h.next) (h11:h.get b11=some (.row (z8 kind) 112 0 false)) (h11l:b11<h.next) (hm:h.get m=some (.map (ent R) ver)) (hml:m<h.next) (hR:R.Nodup)
  (hg1:GV h b1 SS) (hg2:GV h b2 TT) (hb1:b1<h.next) (hb2:b2<h.next) (hSS:SSok SS) (hTT:SSok TT) (hin:∀ p∈R,(0<=p.1/\p.1<(SS.length:Int))/\(0<=p.2/\p.2<(TT.length:Int))) {V:Bool}
  (hV:V=(decide ((0,0)∈R)&&allK kind R SS TT&&allK kind (R.map zC0) TT SS)) :
  P72_11 false (KR E [.tmp 6] (fun x l=>x=.bool V/\k.next<=l.wm)) (ptr b8) (ptr b11) h:=by
 refine P72_11_of ?_
 have la:=za (P:=E) ta_176 (o:=0) h8 (by simp [zAk])
 rw [List.drop_zero,List.take_of_length_le (by simp [zAk])] at la
 have lm:=za (P:=E) ta_112 (o:=0) h11 (by rw [man_eq];simp)
 rw [List.drop_zero,List.take_of_length_le (by rw [man_eq];simp)] at lm
 have hsz:∀ (SS:List zAF),SSok SS->∀ (i:Nat) (S:zAF),SS[i]?=some S->S.length<=1000000:=fun SS hS i S h=>by have:=(hS.stp i S h).1;omega
 have c1:(zX E).call 124 [.agg ⟨zAk (ptr b1) (ptr b2) m⟩,.agg ⟨z8 kind⟩] h=some [(.bool (allK kind R SS TT),h)]:=by
  rw [man_eq]
  exact call124 (h0:=h) (Ext.refl ho.ext.ok) hm hml hg1 (fun p hp=>(hin p hp).1) (hsz SS hSS) (fun k' hk' p hp x S hS hx=>fol_ok hkind hk' hm hml hR hg2 hTT (hin p hp).2.1 (hin p hp).2.2)
 simp only [la,lm,zA,zR,call123 ho.ext.ok hm hml hR,zO]
 by_cases e0:((0:Int),(0:Int))∈R
 ·simp only [e0,decide_true,zN,zY,beq_self_eq_true,cond_true,la,lm,zA,pb178,zR,c1,zO,zJ]
  cases e1:allK kind R SS TT with
  | true=>
   simp only [zN,zY,beq_self_eq_true,cond_true,la,lm,zA,zR]
   refine (call125 ho.ext.ok hb1 hb2 hm hml).mono fun y hy=>?_
   obtain ⟨v,h2⟩:=y
   obtain ⟨m',ver',R',rfl,g1,g2,g3,g4,g5,g6⟩:=hy
   simp only at g1 g2 g3 g4 g5 g6
   have o2:=g6.own ho (fun _ h=>h.elim)
   have lm2:=za (P:=E) ta_112 (o:=0) ((g6.get b11 h11l (fun h=>h)).trans h11) (by rw [man_eq];simp)
   rw [List.drop_zero,List.take_of_length_le (by rw [man_eq];simp)] at lm2
   have hin':∀ p∈R',(0<=p.1/\p.1<(TT.length:Int))/\(0<=p.2/\p.2<(SS.length:Int)):=fun p hp=>by
    have:=hin _ ((g5 p).1 hp)
    exact ⟨this.2,this.1⟩
   have c2:(zX E).call 124 [.agg ⟨zAk (ptr b2) (ptr b1) m'⟩,.agg ⟨z8 kind⟩] h2=some [(.bool (allK kind R' TT SS),h2)]:=by
    rw [man_eq]
    exact call124 (h0:=h2) (Ext.refl o2.ext.ok) g1 g3 (hg2.fx g6) (fun p hp=>(hin' p hp).1) (hsz TT hTT) (fun k' hk' p hp x S hS hx=>fol_ok hkind hk' g1 g3 g4 (hg1.fx g6) hSS (hin' p hp).2.1 (hin' p hp).2.2)
   have hsame:SameR R' (R.map zC0):=fun p=>by
    rw [g5,List.mem_map]
    constructor
    ·intro h;exact ⟨_,h,rfl⟩
    ·rintro ⟨q,hq,rfl⟩;exact hq
   simp only [zN,zY,beq_self_eq_true,cond_true,lm2,zA,veq_man hkind,pb178,zR,c2,zO,zJ,zAD,zT,true_and]
   refine ⟨?_,o2.wm⟩
   rw [hV,e1,allK_same hsame]
   simp [e0]
  | false=>
   simp only [zN,zY,zt,zu,show (false==true)=false from rfl,cond_false,zA,zL,zJ,show veq 100 undef undef=true from by kernel_rfl,zAD,zT,true_and]
   exact ⟨by rw [hV,e1];simp,ho.wm⟩
 ·simp only [e0,decide_false,zN,zY,zt,zu,show (false==true)=false from rfl,cond_false,zA,zL,zJ,show veq 100 undef undef=true from by kernel_rfl,zAD,zT,true_and]
  exact ⟨by rw [hV];simp [e0],ho.wm⟩
end Go.Proofs
