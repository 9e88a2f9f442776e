import Derived.Test.YthmnhjcmefjgjaaGreatDoorRows
import Derived.Test.YthmnhjcmefjgjaaGreatDoorCards
import Derived.Test.YthmnhjcmefjgjaaGreatDoorTie
import Derived.ProofKit
import Derived.OpenShut
import Derived.LaidMore
import Derived.Lay
import Derived.SevenTiedAt
import Derived.Stop.Joined
import Derived.Test.YthmnhjcmefjgjaaGreatDoorXAN
import Derived.Test.YthmnhjcmefjgjaaGreatDoorXAH
import Derived.Test.YthmnhjcmefjgjaaGreatDoorXAM
import Derived.Test.YthmnhjcmefjgjaaGreatDoorXAD
set_option linter.all false
set_option linter.unusedSectionVars false
set_option autoImplicit true
set_option relaxedAutoImplicit true
namespace Go.Proofs
open Go Go.AM
set_option maxRecDepth 100000
set_option maxHeartbeats 1000000
theorem veq_ptr (n:Nat) (a:Option Addr):veq n (.pointer a) (.pointer a)=true:=by cases n <;> (show decide (a=a)=true;simp)
theorem bs82 {a b c a' b' c':Value} {h:AH}:zf E 82 2 (some [(0,.agg #[a,b,c]),(1,.agg #[a',b',c'])]) h=one (.slice (some ⟨h.next,0,none⟩) 2 2,h.new (.row [a,b,c,a',b',c'] 25 0 false)):=by kernel_rfl
def zRs (L M:GL) (B:GB):Bool:=match zFH [L,M] with
 | [SS,TT]=>relB B.kind B.prs SS TT L.n M.n
 | _=>false
theorem GrOf.ss {L:GL} {x:Gr} {loc:Nat} {h:AH} (g:GrOf L x) (G:GG loc h x.1 x.2.1 x.2.2.1 x.2.2.2) (hL:zAL L=false):zTu x.2.2.2/\L.n=(x.2.2.2.length:Int):=by
 have hs:=zDN hL
 have h1:=g.1
 have h2:=G.len
 refine ⟨⟨by omega,fun i S hS=>?_⟩,by omega⟩
 obtain ⟨a,b⟩:=g.2 i S hS
 refine ⟨by omega,fun y hy=>?_⟩
 have:=(a y hy).1
 omega
theorem lnk_ok {B:GB} (h:zBb B=0):zDI B.kind=true/\B.prs.length<=200000/\∀ p∈B.prs,0<=p.1/\0<=p.2:=by
 unfold zBb at h
 cases h1:zDI B.kind with
 | false=>rw [h1] at h;simp at h
 | true=>
  rw [h1] at h
  simp only [Bool.true_eq_false,if_false] at h
  by_cases h2:200000<B.prs.length
  ·rw [if_pos h2] at h;omega
  ·rw [if_neg h2] at h
   cases h3:zAI (zCf B.prs) B.prs.length 0 with
   | true=>rw [h3] at h;simp at h
   | false=>
    refine ⟨rfl,by omega,fun p hp=>?_⟩
    obtain ⟨i,hi⟩:=List.mem_iff_getElem?.1 hp
    have:=zCT h3 i (Nat.zero_le _) (by have:=(List.getElem?_eq_some_iff.1 hi).1;omega)
    unfold zCf at this
    rw [hi] at this
    simp only [Bool.or_eq_false_iff,decide_eq_false_iff_not] at this
    omega
theorem call72 {k:AH} {x y:Value} {e:List Value} {L M:GL} {B:GB} (hok:k.ok) (hx:RL k x L) (hy:RL k y M) (hL:zAL L=false) (hM:zAL M=false) (he:RB k e B) (hB:zBb B=0) :
  (zW E).call 72 [x,y,.agg ⟨e⟩] k=some [(.bool (zRs L M B),k)]:=by
 obtain ⟨vl,ve,elsL,rfl,x2,x3,x4⟩:=hx.ex
 obtain ⟨wl,we,elsM,rfl,y2,y3,y4⟩:=hy.ex
 obtain ⟨vp,rfl,e2⟩:=he.ex
 obtain ⟨hkind,hpl,hpos⟩:=lnk_ok hB
 refine zew (s:=false) hok rfl (zdG ?_)
 simp only [zd,zL,zV,zA]
 refine zdF ?_
 have o1:=(((Own.fresh k).new (.row [.int .i64 L.n,vl,ve] 25 0 false)).new (.row [.int .i64 M.n,wl,we] 25 0 false)).new (.row [.int .i64 B.kind,vp] 32 0 false)
 have g3:(((k.fresh.new (.row [.int .i64 L.n,vl,ve] 25 0 false)).new (.row [.int .i64 M.n,wl,we] 25 0 false)).new (.row [.int .i64 B.kind,vp] 32 0 false)).get k.next=some (.row [.int .i64 L.n,vl,ve] 25 0 false):=
  (zK (by simp;omega)).trans ((zK (by simp)).trans (zI k.fresh _))
 have g4:(((k.fresh.new (.row [.int .i64 L.n,vl,ve] 25 0 false)).new (.row [.int .i64 M.n,wl,we] 25 0 false)).new (.row [.int .i64 B.kind,vp] 32 0 false)).get (k.next+1)=some (.row [.int .i64 M.n,wl,we] 25 0 false):=
  (zK (by simp)).trans (zI (k.fresh.new _) _)
 have g5:(((k.fresh.new (.row [.int .i64 L.n,vl,ve] 25 0 false)).new (.row [.int .i64 M.n,wl,we] 25 0 false)).new (.row [.int .i64 B.kind,vp] 32 0 false)).get (k.next+2)=some (.row [.int .i64 B.kind,vp] 32 0 false):=zI ((k.fresh.new _).new _) _
 have n1:(((k.fresh.new (.row [.int .i64 L.n,vl,ve] 25 0 false)).new (.row [.int .i64 M.n,wl,we] 25 0 false)).new (.row [.int .i64 B.kind,vp] 32 0 false)).next=k.next+3:=rfl
 simp only [zZ,AH.next_new]
 generalize (((k.fresh.new (.row [.int .i64 L.n,vl,ve] 25 0 false)).new (.row [.int .i64 M.n,wl,we] 25 0 false)).new (.row [.int .i64 B.kind,vp] 32 0 false))=k1 at o1 g3 g4 g5 n1
 have la:=za (P:=E) zEd (o:=0) g3 (by simp)
 have lb:=za (P:=E) zEd (o:=0) g4 (by simp)
 simp only [List.drop_zero,List.take] at la lb
 simp only [la,lb,zA,bs82,zL,zS]
 have o2:=o1.new (.row [.int .i64 L.n,vl,ve,.int .i64 M.n,wl,we] 25 0 false)
 have t2:=zI k1 (.row [.int .i64 L.n,vl,ve,.int .i64 M.n,wl,we] 25 0 false)
 have g3':(k1.new (.row [.int .i64 L.n,vl,ve,.int .i64 M.n,wl,we] 25 0 false)).get k.next=_:=(zK (by omega)).trans g3
 have g4':(k1.new (.row [.int .i64 L.n,vl,ve,.int .i64 M.n,wl,we] 25 0 false)).get (k.next+1)=_:=(zK (by omega)).trans g4
 have g5':(k1.new (.row [.int .i64 L.n,vl,ve,.int .i64 M.n,wl,we] 25 0 false)).get (k.next+2)=_:=(zK (by omega)).trans g5
 have n2:(k1.new (.row [.int .i64 L.n,vl,ve,.int .i64 M.n,wl,we] 25 0 false)).next=k1.next+1:=rfl
 generalize (k1.new (.row [.int .i64 L.n,vl,ve,.int .i64 M.n,wl,we] 25 0 false))=k2 at o2 t2 g3' g4' g5' n2
 have hargs:Args k2 (.slice (some ⟨k1.next,0,none⟩) 2 2) [[.int .i64 L.n,vl,ve],[.int .i64 M.n,wl,we]] [L,M]:=by
  refine ⟨?_,rfl,by simp,fun i ee LL h1 h2=>?_,fun i LL h=>?_⟩
  ·refine Arr.row (els:=[[.int .i64 L.n,vl,ve],[.int .i64 M.n,wl,we]]) t2 (by omega) (by simp) (fun i ee hee=>?_)
   match i with
   | 0=>simp at hee;subst hee;exact ⟨rfl,rfl⟩
   | 1=>simp at hee;subst hee;exact ⟨rfl,rfl⟩
   | i+2=>simp at hee
  ·match i with
   | 0=>simp at h1 h2;subst h1 h2;exact hx.ext o2.ext
   | 1=>simp at h1 h2;subst h1 h2;exact hy.ext o2.ext
   | i+2=>simp at h1
  ·match i with
   | 0=>simp at h;subst h;exact hL
   | 1=>simp at h;subst h;exact hM
   | i+2=>simp at h
 refine ((call90 o2.ext.ok (by simp) hargs).weak).mono fun z hz=>?_
 obtain ⟨gs,hO,hlen,hgr,hmap,fx⟩:=hz
 obtain ⟨out,k3⟩:=z
 simp only at hO fx ⊢
 match gs,hlen with
 | [x1,x2],_=>
  have o3:=fx.own o2 (fun _ h=>h.elim)
  have G1:=hO.gg x1 (by simp)
  have G2:=hO.gg x2 (by simp)
  obtain ⟨s1,s2⟩:=(hgr 0 x1 L rfl rfl).ss G1 hL
  obtain ⟨r1,r2⟩:=(hgr 1 x2 M rfl rfl).ss G2 hM
  have V1:GV k3 x1.1 x1.2.2.2:=⟨_,_,_,G1⟩
  have V2:GV k3 x2.1 x2.2.2.2:=⟨_,_,_,G2⟩
  have hrv:zRs L M B=relB B.kind B.prs x1.2.2.2 x2.2.2.2 L.n M.n:=by
   unfold zRs
   rw [← hmap]
   rfl
  rcases hO.sl with ⟨_,h⟩|⟨bo,rfl,hbo,hbol,hbolo⟩
  ·cases h
  ·have p3:k3.get k.next=_:=(fx.get _ (by omega) (fun h=>h)).trans g3'
   have p4:k3.get (k.next+1)=_:=(fx.get _ (by omega) (fun h=>h)).trans g4'
   have p5:k3.get (k.next+2)=_:=(fx.get _ (by omega) (fun h=>h)).trans g5'
   have hnx:=fx.next
   refine zdE ?_
   have m0:=zF (P:=E) zDD (o:=0) hbo
   have m1:=zF (P:=E) zDD (o:=1) hbo
   simp only [List.map_cons,List.map_nil,lnth] at m0 m1
   have i0:zE E 126 (some (.slice (some ⟨bo,0,none⟩) [x1,x2].length (UNK+1))) (some (.int .i64 0))=some (.pointer (some ⟨bo,0,none⟩)):=ia_126 (k:=0) (by simp)
   have i1:zE E 126 (some (.slice (some ⟨bo,0,none⟩) [x1,x2].length (UNK+1))) (some (.int .i64 1))=some (.pointer (some ⟨bo,1,none⟩)):=ia_126 (k:=1) (by simp)
   have rest:∀ (h:AH) (m b8 ver:Nat),Fx NoB k3 h->h.get m=some (.map (ent []) ver)->m<h.next->k3.next<=m->h.get b8=some (.row (zAm (ptr x1.1) (ptr x2.1) m) 176 0 false)->b8<h.next->
     P72_3 false (KR E [.tmp 6] (fun x l=>x=.bool (zRs L M B)/\k.next<=l.wm)) (ptr k.next) (ptr (k.next+1)) (ptr (k.next+2)) (ptr b8) h:=by
    intro h m b8 ver f hm hml hkm h8 h8l
    refine zdD ?_
    have fn:=f.next
    have w3:=(f.get k.next (by omega) (fun h=>h)).trans p3
    have w4:=(f.get (k.next+1) (by omega) (fun h=>h)).trans p4
    have w5:=(f.get (k.next+2) (by omega) (fun h=>h)).trans p5
    have l1:=zF (P:=E) zLw (o:=1) w5
    simp only [lnth] at l1
    obtain ⟨ap,cp,hvp⟩:=e2.slice
    rw [List.length_map] at hvp
    rw [hvp] at l1
    simp only [zC7,Nat.zero_add,l1,zA,zSP]
    have:=rel4 (k:=k) (h1:=h) (kind:=B.kind) (prs:=B.prs) (V:=zRs L M B) hkind hm hml (by omega) w3 (by omega) w4 (by omega) w5 (by omega) h8 h8l (V1.fx f) (V2.fx f) (by have:=G1.ltg;omega) (by have:=G2.ltg;omega) s1 r1 s2 r2 hvp e2 hpl hpos hrv
     B.prs.length 0 (by omega) h [] ver (f.own o3 (fun _ h=>h.elim)) (Fx.refl f.ok) hm (by simp) (by simp) (by simp)
    rw [hvp] at this
    simpa using this
   have hne:∀ {o:AObj} {c:Nat},c<k3.next->(k3.new o).get c=k3.get c:=fun hc=>zK (by omega)
   have hne2:∀ {o o':AObj} {c:Nat},c<k3.next->((k3.new o).new o').get c=k3.get c:=fun hc=>(zK (by simp;omega)).trans (zK (by omega))
   have a0:∀ {o:AObj},zH E 128 (k3.new o) (some (.pointer (some ⟨bo,0,none⟩)))=some (ptr x1.1):=fun {o}=>by
    have:=zF (P:=E) zDD (o:=0) ((hne (o:=o) hbol).trans hbo)
    simpa only [List.map_cons,List.map_nil,lnth] using this
   have a1:∀ {o:AObj},zH E 128 (k3.new o) (some (.pointer (some ⟨bo,1,none⟩)))=some (ptr x2.1):=fun {o}=>by
    have:=zF (P:=E) zDD (o:=1) ((hne (o:=o) hbol).trans hbo)
    simpa only [List.map_cons,List.map_nil,lnth] using this
   have b0:∀ {o o':AObj},zH E 128 ((k3.new o).new o') (some (.pointer (some ⟨bo,0,none⟩)))=some (ptr x1.1):=fun {o o'}=>by
    have:=zF (P:=E) zDD (o:=0) ((hne2 (o:=o) (o':=o') hbol).trans hbo)
    simpa only [List.map_cons,List.map_nil,lnth] using this
   have b1:∀ {o o':AObj},zH E 128 ((k3.new o).new o') (some (.pointer (some ⟨bo,1,none⟩)))=some (ptr x2.1):=fun {o o'}=>by
    have:=zF (P:=E) zDD (o:=1) ((hne2 (o:=o) (o':=o') hbol).trans hbo)
    simpa only [List.map_cons,List.map_nil,lnth] using this
   have hst2:=zw (P:=E) zNL (o:=0) (h:=(k3.new (.row [.pointer none,.pointer none,.map none] 176 0 false)).new (.map [] 0)) (x:=.agg ⟨zAm (ptr x1.1) (ptr x2.1) (k3.next+1)⟩) (cs:=zAm (ptr x1.1) (ptr x2.1) (k3.next+1)) ((zK (by simp)).trans (zI k3 _)) rfl rfl (by simp) (by simp [zAm,zr])
   have hst1:=zw (P:=E) zNL (o:=0) (h:=(k3.new (.map [] 0)).new (.row [.pointer none,.pointer none,.map none] 176 0 false)) (b:=k3.next+1) (x:=.agg ⟨zAm (ptr x1.1) (ptr x2.1) k3.next⟩) (cs:=zAm (ptr x1.1) (ptr x2.1) k3.next) (zI (k3.new _) _) rfl rfl (by simp) (by simp [zAm,zr])
   simp only [zA,i0,i1,m0,m1,zL,a0,a1,b0,b1,veq_ptr,true_and,pb176,z_176,zd,zV,AH.next_new,hst1,hst2]
   refine ⟨?_,?_⟩
   ·have ff:Fx NoB k3 (((k3.new (.map [] 0)).new (.row [.pointer none,.pointer none,.map none] 176 0 false)).upd (k3.next+1) (some (.row (zAm (ptr x1.1) (ptr x2.1) k3.next) 176 0 false))):=(((Fx.refl o3.ext.ok).new _).new _).upd (.inr (by omega)) _
    exact rest _ k3.next (k3.next+1) 0 ff ((zU (by omega)).trans ((zK (by simp)).trans (zI k3 _))) (by show k3.next<k3.next+2;omega) (Nat.le_refl _) (zR _ _ _) (by show k3.next+1<k3.next+2;omega)
   ·have ff:Fx NoB k3 (((k3.new (.row [.pointer none,.pointer none,.map none] 176 0 false)).new (.map [] 0)).upd k3.next (some (.row (zAm (ptr x1.1) (ptr x2.1) (k3.next+1)) 176 0 false))):=(((Fx.refl o3.ext.ok).new _).new _).upd (.inr (Nat.le_refl _)) _
    exact rest _ (k3.next+1) k3.next 0 ff ((zU (by omega)).trans (zI (k3.new _) _)) (by show k3.next+1<k3.next+2;omega) (by omega) (zR _ _ _) (by show k3.next<k3.next+2;omega)
theorem bs83 {a b:Value} {h:AH}:zf E 83 1 (some [(0,.agg #[a,b])]) h=one (.slice (some ⟨h.next,0,none⟩) 1 1,h.new (.row [a,b] 32 0 false)):=by kernel_rfl
def zBq (L M:GL) (B:GB):Int:=if zAL L||zAL M then 8 else if zBb B≠0 then zBb B else if zRs L M B then 0 else 360
theorem call15 {k:AH} {x y:Value} {e:List Value} {L M:GL} {B:GB} (hok:k.ok) (hx:RL k x L) (hy:RL k y M) (he:RB k e B) :
  (zW E).call 15 [x,y,.agg ⟨e⟩] k=some [(.int .i64 (zBq L M B),k)]:=by
 obtain ⟨vl,ve,elsL,rfl,x2,x3,x4⟩:=id hx.ex
 obtain ⟨wl,we,elsM,rfl,y2,y3,y4⟩:=id hy.ex
 obtain ⟨vp,rfl,e2⟩:=id he.ex
 refine zfM (s:=true) hok rfl (zef ?_)
 simp only [zd,zL,zV,zA]
 refine zee ?_
 have o1:=(((Own.fresh k).new (.row [.int .i64 L.n,vl,ve] 25 0 false)).new (.row [.int .i64 M.n,wl,we] 25 0 false)).new (.row [.int .i64 B.kind,vp] 32 0 false)
 have g3:(((k.fresh.new (.row [.int .i64 L.n,vl,ve] 25 0 false)).new (.row [.int .i64 M.n,wl,we] 25 0 false)).new (.row [.int .i64 B.kind,vp] 32 0 false)).get k.next=some (.row [.int .i64 L.n,vl,ve] 25 0 false):=
  (zK (by simp;omega)).trans ((zK (by simp)).trans (zI k.fresh _))
 have g4:(((k.fresh.new (.row [.int .i64 L.n,vl,ve] 25 0 false)).new (.row [.int .i64 M.n,wl,we] 25 0 false)).new (.row [.int .i64 B.kind,vp] 32 0 false)).get (k.next+1)=some (.row [.int .i64 M.n,wl,we] 25 0 false):=
  (zK (by simp)).trans (zI (k.fresh.new _) _)
 have g5:(((k.fresh.new (.row [.int .i64 L.n,vl,ve] 25 0 false)).new (.row [.int .i64 M.n,wl,we] 25 0 false)).new (.row [.int .i64 B.kind,vp] 32 0 false)).get (k.next+2)=some (.row [.int .i64 B.kind,vp] 32 0 false):=zI ((k.fresh.new _).new _) _
 have n1:(((k.fresh.new (.row [.int .i64 L.n,vl,ve] 25 0 false)).new (.row [.int .i64 M.n,wl,we] 25 0 false)).new (.row [.int .i64 B.kind,vp] 32 0 false)).next=k.next+3:=rfl
 simp only [zZ,AH.next_new]
 generalize (((k.fresh.new (.row [.int .i64 L.n,vl,ve] 25 0 false)).new (.row [.int .i64 M.n,wl,we] 25 0 false)).new (.row [.int .i64 B.kind,vp] 32 0 false))=k1 at o1 g3 g4 g5 n1
 have la:=za (P:=E) zEd (o:=0) g3 (by simp)
 have lb:=za (P:=E) zEd (o:=0) g4 (by simp)
 simp only [List.drop_zero,List.take] at la lb
 have o2:=o1.new (.row [.int .i64 L.n,vl,ve,.int .i64 M.n,wl,we] 25 0 false)
 have t2:=zI k1 (.row [.int .i64 L.n,vl,ve,.int .i64 M.n,wl,we] 25 0 false)
 have n2:(k1.new (.row [.int .i64 L.n,vl,ve,.int .i64 M.n,wl,we] 25 0 false)).next=k1.next+1:=rfl
 have g3':(k1.new (.row [.int .i64 L.n,vl,ve,.int .i64 M.n,wl,we] 25 0 false)).get k.next=_:=(zK (by omega)).trans g3
 have g4':(k1.new (.row [.int .i64 L.n,vl,ve,.int .i64 M.n,wl,we] 25 0 false)).get (k.next+1)=_:=(zK (by omega)).trans g4
 have g5':(k1.new (.row [.int .i64 L.n,vl,ve,.int .i64 M.n,wl,we] 25 0 false)).get (k.next+2)=_:=(zK (by omega)).trans g5
 simp only [la,lb,zA,bs82,zL,zS]
 generalize (k1.new (.row [.int .i64 L.n,vl,ve,.int .i64 M.n,wl,we] 25 0 false))=k2 at o2 t2 n2 g3' g4' g5'
 have hc70:=call70 (h0:=k2) (k:=k2) (v:=.slice (some ⟨k1.next,0,none⟩) 2 2) (els:=[[.int .i64 L.n,vl,ve],[.int .i64 M.n,wl,we]]) (Ls:=[L,M])
  (Arr.row (els:=[[.int .i64 L.n,vl,ve],[.int .i64 M.n,wl,we]]) t2 (by omega) (by simp) (fun i ee hee=>by
   match i with
   | 0=>simp at hee;subst hee;exact ⟨rfl,rfl⟩
   | 1=>simp at hee;subst hee;exact ⟨rfl,rfl⟩
   | i+2=>simp at hee)) rfl (by simp) (fun i ee LL h1 h2=>by
   match i with
   | 0=>simp at h1 h2;subst h1 h2;exact hx.ext o2.ext
   | 1=>simp at h1 h2;subst h1 h2;exact hy.ext o2.ext
   | i+2=>simp at h1) (Ext.refl o2.ext.ok)
 have hbad:zAI (zPr [L,M]) 2 0=(zAL L||zAL M):=by
  simp [zAI,zPr]
 simp only [List.length_cons,List.length_nil,hbad] at hc70
 simp only [hc70,zN]
 refine zed ?_
 cases hb:(zAL L||zAL M) with
 | true=>
  simp only [if_true,zA,zAz,show decide ((8:Int)=0)=false from rfl,Bool.not_false,zu]
  refine zec ?_
  simp only [zA,zAJ,zT,true_and]
  exact ⟨by simp [zBq,hb],o2.wm⟩
 | false=>
  obtain ⟨hL,hM⟩:=Bool.or_eq_false_iff.1 hb
  simp only [Bool.false_eq_true,if_false,zA,zAz,decide_true,Bool.not_true,zk]
  refine zeb ?_
  have lc:=za (P:=E) zLv (o:=0) g5' (by simp)
  simp only [List.drop_zero,List.take] at lc
  simp only [lc,zA,bs83,zL,zS]
  have o3:=o2.new (.row [.int .i64 B.kind,vp] 32 0 false)
  have t3:=zI k2 (.row [.int .i64 B.kind,vp] 32 0 false)
  have g3'':(k2.new (.row [.int .i64 B.kind,vp] 32 0 false)).get k.next=_:=(zK (by omega)).trans g3'
  have g4'':(k2.new (.row [.int .i64 B.kind,vp] 32 0 false)).get (k.next+1)=_:=(zK (by omega)).trans g4'
  have g5'':(k2.new (.row [.int .i64 B.kind,vp] 32 0 false)).get (k.next+2)=_:=(zK (by omega)).trans g5'
  have n3:(k2.new (.row [.int .i64 B.kind,vp] 32 0 false)).next=k2.next+1:=rfl
  generalize (k2.new (.row [.int .i64 B.kind,vp] 32 0 false))=k3 at o3 t3 g3'' g4'' g5'' n3
  have hc71:=call71 (h0:=k3) (k:=k3) (v:=.slice (some ⟨k2.next,0,none⟩) 1 1) (els:=[[.int .i64 B.kind,vp]]) (Bs:=[B])
   (Arr.row (els:=[[.int .i64 B.kind,vp]]) t3 (by omega) (by simp) (fun i ee hee=>by
    match i with
    | 0=>simp at hee;subst hee;exact ⟨rfl,rfl⟩
    | i+1=>simp at hee)) rfl (by simp) (fun i ee BB h1 h2=>by
    match i with
    | 0=>simp at h1 h2;subst h1 h2;exact he.ext o3.ext
    | i+1=>simp at h1) (Ext.refl o3.ext.ok)
  have herr:zBK [B] 1 0=zBb B:=by
   simp only [zBK,zMh,List.getElem?_cons_zero]
   by_cases h:zBb B=0 <;> simp [h]
  simp only [List.length_cons,List.length_nil] at hc71
  rw [show (0+1:Nat)=1 from rfl,herr] at hc71
  simp only [hc71,zN]
  refine zea ?_
  by_cases hle:zBb B=0
  ·simp only [zA,zAz,hle,decide_true,Bool.not_true,zk]
   refine zeY ?_
   have la:=za (P:=E) zEd (o:=0) g3'' (by simp)
   have lb:=za (P:=E) zEd (o:=0) g4'' (by simp)
   have lc:=za (P:=E) zLv (o:=0) g5'' (by simp)
   simp only [List.drop_zero,List.take] at la lb lc
   simp only [la,lb,lc,zA,zS,call72 o3.ext.ok (hx.ext o3.ext) (hy.ext o3.ext) hL hM (he.ext o3.ext) hle,zN,zv,zBS]
   refine ⟨fun h=>zeX ?_,fun h=>zeW ?_⟩
   ·simp only [zA,zAJ,zT,true_and]
    have:zRs L M B=false:=by simpa using h
    exact ⟨by simp [zBq,hb,hle,this],o3.wm⟩
   ·simp only [zA,zAJ,zT,true_and]
    have:zRs L M B=true:=by simpa using h
    exact ⟨by simp [zBq,hb,hle,this],o3.wm⟩
  ·simp only [zA,zAz,hle,decide_false,Bool.not_false,zu]
   refine zeZ ?_
   simp only [zA,zAJ,zT,true_and]
   exact ⟨by simp [zBq,hb,hle],o3.wm⟩
theorem zGm {nums:List Int}:∀ {l:List (Int×Int×Int)} {SS:List zAF},(zC2 nums SS l).length=SS.length
 | [],_=>rfl
 | e::l,SS=>by simp only [zC2];rw [zGm];simp
theorem zLx (nums:List Int) (L:GL):(zBh nums L).length=L.n.toNat:=by
 unfold zBh
 rw [zGm,List.length_replicate]
theorem Fx.back {P:Nat->Prop} {k h:AH} (f:Fx P k.fresh h):Fx P k ⟨h.t,h.next,cond (Nat.ble k.wm h.wm) k.wm h.wm⟩:=by
 refine ⟨?_,f.next,fun c hc hn=>f.get c hc hn,fun m h1 h2 h3=>?_⟩
 ·have:=f.ok
  unfold AH.ok at this
  show cond (Nat.ble k.wm h.wm) k.wm h.wm<=h.next+UNK
  cases hc:Nat.ble k.wm h.wm with
  | true=>have:=ble_true.1 hc;simp only [cond_true];omega
  | false=>simpa using this
 ·have:=f.wm m (by rw [zA4];omega) h2 h3
  show m<=cond (Nat.ble k.wm h.wm) k.wm h.wm
  cases Nat.ble k.wm h.wm
  ·exact this
  ·exact h1
theorem Fx.ext1 {h0 k l:AH} {b:Nat} (f:Fx (fun c=>c=b) k l) (e:Ext h0 k) (hb:h0.next<=b):Ext h0 l:=
 ⟨f.ok,Nat.le_trans e.next f.next,fun c hc=>(f.get c (Nat.lt_of_lt_of_le hc e.next) (by omega)).trans (e.get c hc)⟩
theorem box173 {h:AH} {a b:Int} {v:Value} (hl:zr v=true):ze E 173 (h.new (.row [.int .i64 0,.int .i64 0,.slice none 0 0] 173 0 false)) (some (ptr h.next)) (some (.agg ⟨[.int .i64 a,.int .i64 b,v]⟩))=one (undef,(h.new (.row [.int .i64 0,.int .i64 0,.slice none 0 0] 173 0 false)).upd h.next (some (.row [.int .i64 a,.int .i64 b,v] 173 0 false))):=by
 rw [zw (P:=E) zJw (x:=.agg ⟨[.int .i64 a,.int .i64 b,v]⟩) (cs:=[.int .i64 a,.int .i64 b,v]) (zI h _) rfl rfl (by simp) (by simp [zr] at hl ⊢;exact hl)]
 rfl
def Nd (k:AH) (bL:Nat) (x:Value) (k':AH):Prop:=∃ b left,x=.bool b/\(b=true->0<=left)/\left<=2000/\k'.get bL=some (.row [.int .i64 left] 3 0 false)/\k'.wm<=k.wm/\Fx (fun c=>c=bL) k k'
theorem zH5 {h0 k:AH} {v:Value} {ts:List GT} {bL:Nat} {left deep:Int} (hr:RT h0 v ts) (hk:Ext h0 k) (hb0:h0.next<=bL) (hbL:k.get bL=some (.row [.int .i64 left] 3 0 false)) (hbLl:bL<k.next) (hl0:0<=left) (hl1:left<=2000) (hd1:1<=deep) (hd2:deep<=102)
  (hrec:deep<=100->∀ {k':AH} {v':Value} {ts':List GT} {left':Int},RT h0 v' ts'->Ext h0 k'->k'.get bL=some (.row [.int .i64 left'] 3 0 false)->bL<k'.next->0<=left'->left'<=2000->Ev true ((zW E).call 69 [v',ptr bL,.int .i64 (deep+1)] k') fun x=>Nd k' bL x.1 x.2) :
  Ev true ((zW E).call 69 [v,ptr bL,.int .i64 deep] k) fun x=>Nd k bL x.1 x.2:=by
 obtain ⟨ad,cp,hv⟩:=hr.slice
 cases hr with
 | @mk _ els _ ha hn hc=>
 have hlen:=RC.length hc
 by_cases hts:ts.length=0
 ·have:(zW E).call 69 [v,ptr bL,.int .i64 deep] k=some [(.bool true,k)]:=by
   refine ze0 (s:=true) hk.ok rfl (zOZ ?_)
   refine zOY ?_
   rw [hv,hts]
   simp only [zA,zKQ]
   refine zJl ?_
   simp only [zY,zA,zAA]
   refine ⟨fun h=>by omega,fun _=>zOW ?_⟩
   simp only [zA,zAJ,zT,true_and]
   show k.next<=k.next+UNK
   omega
  rw [this,zN]
  exact ⟨true,left,rfl,fun _=>hl0,hl1,hbL,Nat.le_refl _,Fx.refl hk.ok⟩
 ·refine zez (Rp:=fun x k'=>Nd k bL x k') (zOZ ?_)
  refine zOY ?_
  rw [hv]
  simp only [zA,zKQ]
  have fin:∀ (b:Bool) (l:Int) (h:AH),(b=true->0<=l)->l<=2000->h.get bL=some (.row [.int .i64 l] 3 0 false)->Fx (fun c=>c=bL) k.fresh h->h.wm<=bL->KR E [.tmp 6] (fun x k'=>(zh x=false\/k'.wm<k.next)/\Nd k bL x ⟨k'.t,k'.next,cond (Nat.ble k.wm k'.wm) k.wm k'.wm⟩) .ret [.bool b] h:=by
   intro b l h h1 h2 h3 f hw
   simp only [zAJ,zT,true_and]
   refine ⟨.inr (by omega),b,l,rfl,h1,h2,h3,?_,f.back⟩
   show cond (Nat.ble k.wm h.wm) k.wm h.wm<=k.wm
   cases hc:Nat.ble k.wm h.wm with
   | true=>exact Nat.le_refl _
   | false=>have:=ble_false.1 hc;simp only [cond_false];omega
  have loop:∀ (r i:Nat),i+r=ts.length->∀ (l:Int) (h:AH),Fx (fun c=>c=bL) k.fresh h->h.get bL=some (.row [.int .i64 l] 3 0 false)->0<=l->l<=2000->(i≠0->h.wm<=bL)->
    P69_2 true (KR E [.tmp 6] (fun x k'=>(zh x=false\/k'.wm<k.next)/\Nd k bL x ⟨k'.t,k'.next,cond (Nat.ble k.wm k'.wm) k.wm k'.wm⟩)) (ptr bL) (.int .i64 deep) (.slice ad ts.length cp) (.int .i64 (ts.length:Int)) (.int .i64 (i:Int)) h:=by
   intro r
   induction r with
   | zero=>
    intro i hi l h f hg h1 h2 hw
    refine zJl ?_
    have:¬ ((i:Int)<(ts.length:Int)):=by omega
    simp only [zY,zA,this,decide_false,zk]
    refine zOW ?_
    exact fin true l h (fun _=>h1) h2 hg f (hw (by omega))
   | succ r ih=>
    intro i hi l h f hg h1 h2 hw
    have hin:i<ts.length:=by omega
    have hin2:i<els.length:=by omega
    refine zJl ?_
    have:((i:Int)<(ts.length:Int)):=by omega
    simp only [zY,zA,this,decide_true,zu]
    refine zdZ ?_
    obtain ⟨kk,nn,vv,lv,hel,hrt,_⟩:=RC.at hc i _ (List.getElem?_eq_getElem hin2)
    obtain ⟨b,o,c,vs,ty,es,ro,hv',hb,hlt,hle,hz,hzl⟩:=ha.load (List.getElem?_eq_getElem hin2)
    rw [hel] at hz
    rw [hv] at hv'
    simp only [Value.slice.injEq] at hv'
    obtain ⟨hv1,_,_⟩:=hv'
    subst hv1
    have ek:Ext h0 h:=f.ext1 hk.fresh hb0
    have gb:=(ek.get b hlt).trans hb
    have hvl:zr vv=true:=zDS hrt
    simp only [zSp hin,zA,za zB9 gb hle,hz,zbL,zd,zL,zV,box173 hvl]
    refine zdY ?_
    have hbh:bL<h.next:=Nat.lt_of_lt_of_le hbLl f.next
    have f1:Fx (fun c=>c=bL) k.fresh ((h.new (.row [.int .i64 0,.int .i64 0,.slice none 0 0] 173 0 false)).upd h.next (some (.row [.int .i64 kk,.int .i64 nn,vv] 173 0 false))):=(f.new _).upd (.inr f.next) _
    have t1:((h.new (.row [.int .i64 0,.int .i64 0,.slice none 0 0] 173 0 false)).upd h.next (some (.row [.int .i64 kk,.int .i64 nn,vv] 173 0 false))).get h.next=some (.row [.int .i64 kk,.int .i64 nn,vv] 173 0 false):=zR _ _ _
    have g1:((h.new (.row [.int .i64 0,.int .i64 0,.slice none 0 0] 173 0 false)).upd h.next (some (.row [.int .i64 kk,.int .i64 nn,vv] 173 0 false))).get bL=_:=((zU (by omega)).trans (zK (by omega))).trans hg
    have n1:((h.new (.row [.int .i64 0,.int .i64 0,.slice none 0 0] 173 0 false)).upd h.next (some (.row [.int .i64 kk,.int .i64 nn,vv] 173 0 false))).next=h.next+1:=rfl
    generalize ((h.new (.row [.int .i64 0,.int .i64 0,.slice none 0 0] 173 0 false)).upd h.next (some (.row [.int .i64 kk,.int .i64 nn,vv] 173 0 false)))=k1 at f1 t1 g1 n1
    have lg:=zF (P:=E) zAS (o:=0) g1
    simp only [lnth] at lg
    have hst:=zw (P:=E) ts_3 (o:=0) g1 (zCl .i64 (l-1)) rfl (by simp) rfl
    have hput:lput [Value.int .i64 l] 0 [.int .i64 (l-1)]=[.int .i64 (l-1)]:=rfl
    rw [hput] at hst
    simp only [zA,zAu,lg,zHR _ (show zCx (l-1) by unfold zCx;omega),hst,zL]
    refine zdX ?_
    have f2:Fx (fun c=>c=bL) k.fresh (k1.upd bL (some (.row [.int .i64 (l-1)] 3 0 false))):=f1.upd (.inl rfl) _
    have g2:(k1.upd bL (some (.row [.int .i64 (l-1)] 3 0 false))).get bL=some (.row [.int .i64 (l-1)] 3 0 false):=zR _ _ _
    have t2:(k1.upd bL (some (.row [.int .i64 (l-1)] 3 0 false))).get h.next=_:=(zU (by omega)).trans t1
    have w2:(k1.upd bL (some (.row [.int .i64 (l-1)] 3 0 false))).wm<=bL:=(zDB _ _ _).2
    have n2:(k1.upd bL (some (.row [.int .i64 (l-1)] 3 0 false))).next=k1.next:=rfl
    generalize (k1.upd bL (some (.row [.int .i64 (l-1)] 3 0 false)))=k2 at f2 g2 t2 w2 n2
    have lg2:=zF (P:=E) zAS (o:=0) g2
    have lv2:=zF (P:=E) zDP (o:=2) t2
    simp only [lnth] at lg2 lv2
    have stop:P69_6 true (KR E [.tmp 6] (fun x k'=>(zh x=false\/k'.wm<k.next)/\Nd k bL x ⟨k'.t,k'.next,cond (Nat.ble k.wm k'.wm) k.wm k'.wm⟩)) k2:=by
     refine zOX ?_
     exact fin false _ k2 (fun h=>by cases h) (by omega) g2 f2 w2
    simp only [zA,zAu,lg2,zY]
    by_cases e1:l-1<0
    ·simp only [e1,decide_true,zM,zP,show (true==false)=false from rfl,cond_false,cond_true,zA,zL,zJ,zu]
     exact stop
    ·simp only [e1,decide_false,zM,beq_self_eq_true,cond_true,zA,zAH,zJ,cond_false]
     by_cases e2:100<deep
     ·simp only [e2,decide_true,zM,zP,show (true==false)=false from rfl,cond_false,cond_true,zA,zL,zJ,zu]
      exact stop
     ·simp only [e2,decide_false,zM,zP,beq_self_eq_true,cond_true,zA,zAY,Nat.zero_add,lv2,zAM _ (show zCx (deep+1) by unfold zCx;omega),zS]
      refine (hrec (by omega) hrt (f2.ext1 hk.fresh hb0) g2 (by omega) (by omega) (by omega)).mono fun y hy=>?_
      obtain ⟨bb,l3,y1,y2,y3,y4,y6,y5⟩:=hy
      rw [y1]
      have f3:Fx (fun c=>c=bL) k.fresh y.2:=f2.trans y5 (fun c h=>.inl h)
      have w3:y.2.wm<=bL:=by omega
      simp only [zv,zA,zJ,cond_false,zBS]
      refine ⟨fun hb=>zOX ?_,fun hb=>zdW ?_⟩
      ·skip
       exact fin false l3 y.2 (fun h=>by cases h) y3 y4 f3 w3
      ·have hbt:bb=true:=by simpa using hb
       simp only [zAM _ (zD7 hin (by omega)),zA]
       have:=ih (i+1) (by omega) l3 y.2 f3 y4 (y2 hbt) y3 (fun _=>w3)
       simpa using this
  exact loop ts.length 0 (by omega) left k.fresh (Fx.refl (zAT k)) hbL hl0 hl1 (fun h=>absurd rfl h)
theorem call69:∀ (d:Nat) {h0 k:AH} {v:Value} {ts:List GT} {bL:Nat} {left deep:Int},RT h0 v ts->Ext h0 k->h0.next<=bL->k.get bL=some (.row [.int .i64 left] 3 0 false)->bL<k.next->0<=left->left<=2000->1<=deep->deep<=102->101<=deep+d->
  Ev true ((zW E).call 69 [v,ptr bL,.int .i64 deep] k) fun x=>Nd k bL x.1 x.2:=by
 intro d
 induction d with
 | zero=>
  intro h0 k v ts bL left deep hr hk hb0 hbL hbLl hl0 hl1 hd1 hd2 hd3
  exact zH5 hr hk hb0 hbL hbLl hl0 hl1 hd1 hd2 (fun h=>by omega)
 | succ d ihd=>
  intro h0 k v ts bL left deep hr hk hb0 hbL hbLl hl0 hl1 hd1 hd2 hd3
  exact zH5 hr hk hb0 hbL hbLl hl0 hl1 hd1 hd2 (fun h k' v' ts' left' a b c d e f=>ihd a b hb0 c d e f (by omega) (by omega) (by omega))
abbrev kfew (k:AH):KF:=KR E [.tmp 2] (fun x l=>(zh x=true/\∃ b,x=.bool b)/\k.next<=l.wm)
theorem zJU {k h:AH} (ho:Own k h) (b:Bool):kfew k .ret [.bool b] h:=by
 simp only [kfew,zAJ,zT,true_and]
 exact ⟨⟨rfl,b,rfl⟩,ho.wm⟩
theorem call14 {k:AH} {v:Value} {els:List (List Value)} {Ls:List GL} (hok:k.ok) (ha:Arr k 3 v els) (hlen:els.length=Ls.length) (hle:els.length<=10) (hr:∀ (i:Nat) (e:List Value) (L:GL),els[i]?=some e->Ls[i]?=some L->RL k (.agg ⟨e⟩) L) :
  ∃ b,(zW E).call 14 [v] k=some [(.bool b,k)]:=by
 have key:∃ w,(∃ b,w=.bool b)/\(zW E).call 14 [v] k=some [(w,k)]:=by
  obtain ⟨ad,cp,hv⟩:=ha.slice
  refine zau hok (zen ?_)
  refine zem ?_
  have hst:=zw (P:=E) ts_3 (o:=0) (zI k.fresh (.row [.int .i64 0] 3 0 false)) (zCl .i64 2000) rfl (by simp) rfl
  simp only [zZ] at hst
  simp only [z_3,zd,zL,zj,zZ,hst]
  refine zel ?_
  have o1:=((Own.fresh k).new (.row [.int .i64 0] 3 0 false)).upd (b:=k.next) (Nat.le_refl _) (some (.row (lput [.int .i64 0] 0 [.int .i64 2000]) 3 0 false))
  have t1:((k.fresh.new (.row [.int .i64 0] 3 0 false)).upd k.next (some (.row (lput [.int .i64 0] 0 [.int .i64 2000]) 3 0 false))).get k.next=some (.row [.int .i64 2000] 3 0 false):=zR _ _ _
  have n1:((k.fresh.new (.row [.int .i64 0] 3 0 false)).upd k.next (some (.row (lput [.int .i64 0] 0 [.int .i64 2000]) 3 0 false))).next=k.next+1:=rfl
  generalize ((k.fresh.new (.row [.int .i64 0] 3 0 false)).upd k.next (some (.row (lput [.int .i64 0] 0 [.int .i64 2000]) 3 0 false)))=k1 at o1 t1 n1
  rw [hv]
  simp only [zA,zSa]
  have loop:∀ (r i:Nat),i+r=els.length->∀ (l:Int) (h:AH),Own k h->h.get k.next=some (.row [.int .i64 l] 3 0 false)->k.next<h.next->0<=l->l<=2000->
    P14_3 true (kfew k) (ptr k.next) (.slice ad els.length cp) (.int .i64 (els.length:Int)) (.int .i64 (i:Int)) h:=by
   intro r
   induction r with
   | zero=>
    intro i hi l h ho hg hlt h1 h2
    refine zOr ?_
    have:¬ ((i:Int)<(els.length:Int)):=by omega
    simp only [zY,zA,this,decide_false,zk]
    refine zYN ?_
    exact zJU ho true
   | succ r ih=>
    intro i hi l h ho hg hlt h1 h2
    have hin:i<els.length:=by omega
    refine zOr ?_
    have:((i:Int)<(els.length:Int)):=by omega
    simp only [zY,zA,this,decide_true,zu]
    refine zek ?_
    have hRL:=hr i _ _ (List.getElem?_eq_getElem hin) (List.getElem?_eq_getElem (by omega))
    generalize Ls[i]=L at hRL
    obtain ⟨vl,ve,elsL,q1,q2,q3,q4⟩:=hRL.ex
    have he:els[i]=[.int .i64 L.n,vl,ve]:=by
     simp only [Value.agg.injEq] at q1
     have:=congrArg Array.toList q1
     simpa using this
    obtain ⟨b,o,c,vs,ty,es,ro,hv',hb,hltb,hle',hz,hzl⟩:=ha.load (List.getElem?_eq_getElem hin)
    rw [he] at hz
    rw [hv] at hv'
    simp only [Value.slice.injEq] at hv'
    obtain ⟨hv1,_,_⟩:=hv'
    subst hv1
    have gb:=(ho.ext.get b hltb).trans hb
    obtain ⟨al,cl,hvl⟩:=q2.slice
    rw [RLab.length q3] at hvl
    obtain ⟨ae,ce,hve⟩:=q4.slice
    rw [List.length_map] at hve
    have hbox:=box25 (k:=h) (e:=[.int .i64 L.n,vl,ve]) (by rw [hvl,hve];rfl) rfl
    simp only [zbk hin,zA,za zEd gb hle',hz,z_25,zd,zL,zV,hbox]
    refine zej ?_
    have f1:Fx NoB h ((h.new (.row [.int .i64 0,.slice none 0 0,.slice none 0 0] 25 0 false)).upd h.next (some (.row [.int .i64 L.n,vl,ve] 25 0 false))):=((Fx.refl ho.ext.ok).new _).upd (.inr (Nat.le_refl _)) _
    have t1:((h.new (.row [.int .i64 0,.slice none 0 0,.slice none 0 0] 25 0 false)).upd h.next (some (.row [.int .i64 L.n,vl,ve] 25 0 false))).get h.next=some (.row [.int .i64 L.n,vl,ve] 25 0 false):=zR _ _ _
    generalize ((h.new (.row [.int .i64 0,.slice none 0 0,.slice none 0 0] 25 0 false)).upd h.next (some (.row [.int .i64 L.n,vl,ve] 25 0 false)))=k2 at f1 t1
    have o2:=f1.own ho (fun _ h=>h.elim)
    have g2:=(f1.get k.next hlt (fun h=>h)).trans hg
    have lt2:=Nat.lt_of_lt_of_le hlt f1.next
    have s0:=zF (P:=E) zAS (o:=0) t1
    have s1:=zF (P:=E) zGI (o:=1) t1
    have s2:=zF (P:=E) zEe (o:=2) t1
    simp only [lnth] at s0 s1 s2
    have stop:P14_6 true (kfew k) k2:=by
     refine zei ?_
     exact zJU o2 false
    rw [hvl] at s1
    rw [hve] at s2
    simp only [zA2,Nat.add_zero,s0,zA,zAH]
    by_cases e1:60<L.n
    ·simp only [e1,decide_true,zM,show (true==false)=false from rfl,cond_false,cond_true,zA,zJ,zu]
     exact stop
    ·simp only [e1,decide_false,zM,beq_self_eq_true,cond_true,zBJ,Nat.zero_add,s2,zA,zSZ,zAH,zJ,cond_false]
     by_cases e2:300<(L.eds.length:Int)
     ·simp only [e2,decide_true,zM,show (true==false)=false from rfl,cond_false,cond_true,zA,zJ,zu]
      exact stop
     ·simp only [e2,decide_false,zM,beq_self_eq_true,cond_true,zBB,Nat.zero_add,s1,zA,zPY,zAH,zJ,cond_false]
      by_cases e3:60<(L.labs.length:Int)
      ·simp only [e3,decide_true,zu]
       exact stop
      ·simp only [e3,decide_false,zk]
       refine zeh ?_
       simp only [zBB,Nat.zero_add,s1,zA,zSY]
       have inner:∀ (r2 j:Nat),j+r2=L.labs.length->∀ (l:Int) (h:AH),Own k h->h.get k.next=some (.row [.int .i64 l] 3 0 false)->k.next<h.next->0<=l->l<=2000->
         P14_8 true (kfew k) (ptr k.next) (.slice (some ⟨b,o,none⟩) els.length cp) (.int .i64 (els.length:Int)) (.int .i64 (i:Int)) (.slice al L.labs.length cl) (.int .i64 (L.labs.length:Int)) (.int .i64 (j:Int)) h:=by
        intro r2
        induction r2 with
        | zero=>
         intro j hj l h ho hg hlt h1 h2
         refine zOq ?_
         have:¬ ((j:Int)<(L.labs.length:Int)):=by omega
         simp only [zY,zA,this,decide_false,zk]
         refine zYO ?_
         simp only [zAM _ (zD7 hin (by omega)),zA]
         have:=ih (i+1) (by omega) l h ho hg hlt h1 h2
         simpa using this
        | succ r2 ih2=>
         intro j hj l h ho hg hlt h1 h2
         have hjn:j<L.labs.length:=by omega
         have hjn2:j<elsL.length:=by rw [RLab.length q3];exact hjn
         refine zOq ?_
         have:((j:Int)<(L.labs.length:Int)):=by omega
         simp only [zY,zA,this,decide_true,zu]
         refine zeg ?_
         obtain ⟨g,vt,lt,hel,hrt,hat⟩:=RLab.at q3 j _ (List.getElem?_eq_getElem hjn2)
         obtain ⟨b',o',c',vs',ty',es',ro',hv',hb',hlt',hle',hz',hzl'⟩:=q2.load (List.getElem?_eq_getElem hjn2)
         rw [hel] at hz'
         rw [hvl] at hv'
         simp only [Value.slice.injEq] at hv'
         obtain ⟨hv1,_,_⟩:=hv'
         subst hv1
         have gb':=(ho.ext.get b' hlt').trans hb'
         simp only [zMa hjn,zA,za zEO gb' hle',hz',z_36,zd,zL,zV,box36 (zDS hrt)]
         refine zYR ?_
         have f3:Fx NoB h ((h.new (.row [.int .i64 0,.slice none 0 0] 36 0 false)).upd h.next (some (.row [.int .i64 g,vt] 36 0 false))):=((Fx.refl ho.ext.ok).new _).upd (.inr (Nat.le_refl _)) _
         have t3:((h.new (.row [.int .i64 0,.slice none 0 0] 36 0 false)).upd h.next (some (.row [.int .i64 g,vt] 36 0 false))).get h.next=some (.row [.int .i64 g,vt] 36 0 false):=zR _ _ _
         generalize ((h.new (.row [.int .i64 0,.slice none 0 0] 36 0 false)).upd h.next (some (.row [.int .i64 g,vt] 36 0 false)))=k3 at f3 t3
         have o3:=f3.own ho (fun _ h=>h.elim)
         have g3:=(f3.get k.next hlt (fun h=>h)).trans hg
         have lt3:=Nat.lt_of_lt_of_le hlt f3.next
         have u1:=zF (P:=E) zDP (o:=1) t3
         simp only [lnth] at u1
         simp only [zBy,Nat.zero_add,u1,zA,zS]
         refine (call69 100 hrt o3.ext (Nat.le_refl _) g3 lt3 h1 h2 (by omega) (by omega) (by omega)).mono fun y hy=>?_
         obtain ⟨bb,l3,y1,y2,y3,y4,y6,y5⟩:=hy
         have o4:=y5.own o3 (fun c h=>by rw [h];exact Nat.le_refl _)
         rw [y1]
         simp only [zv,zA,zBS]
         refine ⟨fun hb=>zYQ ?_,fun hb=>zYP ?_⟩
         ·skip
          exact zJU o4 false
         ·have hbt:bb=true:=by simpa using hb
          simp only [zAM _ (zD7 hjn (by omega)),zA]
          have:=ih2 (j+1) (by omega) l3 y.2 o4 y4 (Nat.lt_of_lt_of_le lt3 y5.next) (y2 hbt) y3
          simpa using this
       exact inner L.labs.length 0 (by omega) l k2 o2 g2 lt2 h1 h2
  exact loop els.length 0 (by omega) 2000 k1 o1 t1 (by omega) (by omega) (by omega)
 obtain ⟨w,⟨b,rfl⟩,hc⟩:=key
 exact ⟨b,hc⟩
theorem pb32 {a:Int} {ad:Option Addr} {n c:Nat}:zAi E 32 (some [(0,.int .i64 a),(1,.slice ad n c)])=some (.agg ⟨[.int .i64 a,.slice ad n c]⟩):=by kernel_rfl
theorem call16 {k:AH} {a:Int} {ad:Option Addr} {n c:Nat} (hok:k.ok):Ev true ((zW E).call 16 [.int .i64 a,.slice ad n c] k) fun x=>x.1=.agg ⟨[.int .i64 a,.slice ad n c]⟩/\Fx NoB k x.2:=by
 have run:∀ {Rp:Value->AH->Prop},(∀ h,Own k h->Fx NoB k.fresh h->Rp (.agg ⟨[.int .i64 a,.slice ad n c]⟩) h)->P16_0 true (KR E [.cell 4 32] Rp) (.int .i64 a) (.slice ad n c) k.fresh:=by
  intro Rp hRp
  refine zeV ?_
  simp only [z_32,zd,zL,zV]
  refine zeU ?_
  have hst:=zw (P:=E) zbR (o:=0) (x:=.agg ⟨[.int .i64 a,.slice ad n c]⟩) (cs:=[.int .i64 a,.slice ad n c]) (zI k.fresh (.row [.int .i64 0,.slice none 0 0] 32 0 false)) rfl rfl (by simp) (by simp [zr])
  have hput:lput [Value.int .i64 0,.slice none 0 0] 0 [.int .i64 a,.slice ad n c]=[.int .i64 a,.slice ad n c]:=rfl
  rw [hput] at hst
  simp only [zZ] at hst ⊢
  simp only [zA,pb32,hst,zL,kR_c,zT,true_and]
  have g1:((k.fresh.new (.row [.int .i64 0,.slice none 0 0] 32 0 false)).upd k.next (some (.row [.int .i64 a,.slice ad n c] 32 0 false))).get k.next=some (.row [.int .i64 a,.slice ad n c] 32 0 false):=zR _ _ _
  have la:=za (P:=E) zLv (o:=0) g1 (by simp)
  have:zEi E 32 (ptr k.next) ((k.fresh.new (.row [.int .i64 0,.slice none 0 0] 32 0 false)).upd k.next (some (.row [.int .i64 a,.slice ad n c] 32 0 false)))=some (.agg ⟨[.int .i64 a,.slice ad n c]⟩):=la
  rw [this,zA]
  exact hRp _ (((Own.fresh k).new _).upd (Nat.le_refl _) _) (((Fx.refl (zAT k)).new _).upd (.inr (Nat.le_refl _)) _)
 cases hfl:zh (.agg ⟨[.int .i64 a,.slice ad n c]⟩) with
 | true=>
  have:=zan (v0:=.int .i64 a) (v1:=.slice ad n c) hok hfl (run fun h ho _=>⟨rfl,ho.wm⟩)
  rw [this,zN]
  exact ⟨rfl,Fx.refl hok⟩
 | false=>exact zfL (Rp:=fun x k'=>x=.agg ⟨[.int .i64 a,.slice ad n c]⟩/\Fx NoB k k') (run fun h ho f=>⟨.inl hfl,rfl,f.back⟩)
theorem f13_get:E.tab.fn.get 13=some Tryz.f13:=by kernel_rfl
theorem zbo:Tryz.f13.body=some (zc Tryz.f13):=by kernel_rfl
theorem call13 {k:AH}:(zW E).call 13 [] k=some [(.bool true,k)]:=zOA f13_get zbo (by kernel_rfl)
theorem zHr {n:Int} {a b:Option Addr} {m c m' c':Nat}:veq 100 (.agg #[.int .i64 n,.slice a m c,.slice b m' c']) (.agg #[.int .i64 n,.slice a m c,.slice b m' c'])=true:=by
 show zIz 99 [.int .i64 n,.slice a m c,.slice b m' c'] [.int .i64 n,.slice a m c,.slice b m' c']=true
 simp only [zIz,zC1,zB8,Bool.and_self]
end Go.Proofs
namespace Go.Proofs.YthmnhjcmefjgjaaGreatDoor
open Go Go.AM Go.ChangeShapes Go.WideShapes Go.ChangeAt Go.RowKit
set_option maxRecDepth 100000
theorem zbb:ownKnob Tryz.prog.godebug=none:=by kernel_rfl
theorem zFE:laidOutB Tryz.prog=true:=by kernel_rfl
theorem zTo {w:World} {base:Nat} {t:TypeId} {v:Value} {l:List (TypeId×Nat)} (hf:zCP Tryz.prog t=some l) (h:Value.okWide Tryz.prog w .any base t v):∃ cs,v=.agg cs:=by
 unfold zCP at hf
 unfold Value.okWide at h
 split at hf
 ·rename_i fs hu
  rw [hu] at h
  obtain ⟨cs,e,_⟩:=h
  exact ⟨cs,e⟩
 ·cases hf
end Go.Proofs.YthmnhjcmefjgjaaGreatDoor
namespace Go.Proofs
open Go Go.AM
set_option maxRecDepth 100000
theorem und_49:und E 49=some (.slice 23):=by kernel_rfl
theorem elt_49:zDc E 49=some 23:=by kernel_rfl
theorem ia_49 {b o len c k:Nat} (h:k<len):zE E 49 (some (.slice (some ⟨b,o,none⟩) len c)) (some (.int .i64 (k:Int)))=some (.pointer (some ⟨b,o+k*1,none⟩)):=zAO und_49 (by kernel_rfl) h
theorem ts_47:zAV E 47=some 1:=by kernel_rfl
theorem ta_47:tAS E 47=some (false,1):=by kernel_rfl
variable {s:Bool} {K:KF} {h:AH} {a:Option Addr} {n c:Nat} {v v0 v1 v2 v3 v4 v5 v6 v7 v8 v9 v10 v11 v12 v14 v15 v16 v17 v18 v20 v21 v22 v24 v65 v66 v67 v111 v112 v113 v143 v144 v145:Value} {h1:AH} {Rp:Value->AH->Prop}
noncomputable def B88:Code:=zc Tryz.f88
noncomputable def C88 (s:Bool):Cx:=⟨E,s,none,B88,[([0],[0,1]),([1,0,0],[2,3]),([1,0,1,0],[2,3,5]),([1,0,1,1,0,0],[5]),([1,1,0],[2,3])],[4],[]⟩
theorem zcb (H :
 Ev s (zX 36 h v0) fun x0=>
 Ev s (zX 36 x0.2 v1) fun x1=>
 PI (C88 s) K 1 [x0.1,x1.1] x1.2):PI (C88 s) K 0 [v0,v1] h:=zB H
theorem zca (H :
 EvO (zD E 36 0 v2) fun x0=>
 EvO (zH E 3 h x0) fun x1=>
 EvO (zD E 36 0 v3) fun x2=>
 EvO (zH E 3 h x2) fun x3=>
 Ev s (zQ (zW E) (some (.func (.func 94) #[] #[])) [x1,x3] h) fun x4=>
 PI (C88 s) K 2 [v2,v3,x4.1] x4.2):PI (C88 s) K 1 [v2,v3] h:=zB H
theorem zcZ (H :
 EvO (zC E .neq 3 v5 (.int .i64 0)) fun x1=>
 BrK x1 (PI (C88 s) K 3 [v5] h) (PI (C88 s) K 4 [v2,v3] h)):PI (C88 s) K 2 [v2,v3,v5] h:=zB H
theorem zcY (H :
 K .ret [v5] h):PI (C88 s) K 3 [v5] h:=zB H
theorem zcX (H :
 EvO (zD E 36 1 v2) fun x0=>
 EvO (zH E 34 h x0) fun x1=>
 EvO (zD E 36 1 v3) fun x2=>
 EvO (zH E 34 h x2) fun x3=>
 Ev s (zQ (zW E) (some (.func (.func 140) #[] #[])) [x1,x3] h) fun x4=>
 K .ret [x4.1] x4.2):PI (C88 s) K 4 [v2,v3] h:=zB H
theorem zer (hok:h.ok) (hv:zg v=true) (H:PI (C88 s) (KR E [.tmp 4] fun x k=>x=v/\h.next<=k.wm) 0 [v0,v1] h.fresh):(zW E).call 88 [v0,v1] h=some [(v,h)]:=zAh Tryz.f88 hok hv (zz (C88 s) H)
noncomputable def zfo:Code:=zc Tryz.f140
noncomputable def zIv (s:Bool):Cx:=⟨E,s,none,zfo,[([0],[0,1]),([1,0,0],[0,1]),([1,0,1,0,0,0,0],[0,1,5]),([1,0,1,0,0,1,0,0,0],[0,1,5]),([1,0,1,0,0,1,0,0,1,0],[0,1,5,6]),([1,0,1,0,0,1,0,0,1,1,0,0],[6]),([1,0,1,0,0,1,1],[0,1,5]),([1,1,0],[0,1])],[4],[]⟩
abbrev P140_2 (s:Bool) (K:KF) (v0 v1 v5:Value) (h:AH):Prop:=PI (zIv s) K 2 [v0,v1,v5] h
abbrev P140_7 (s:Bool) (K:KF) (v0 v1:Value) (h:AH):Prop:=PI (zIv s) K 7 [v0,v1] h
theorem zZO (H :
 PI (zIv s) K 1 [v0,v1] h):PI (zIv s) K 0 [v0,v1] h:=zB H
theorem zZN (H :
 PI (zIv s) K 2 [v0,v1,(.int .i64 0)] h):PI (zIv s) K 1 [v0,v1] h:=zB H
theorem zLe (H :
 EvO (zO E (zl [(8,v0)]) (zn zfo [1,0,1,0,0,0,0] 2) h) fun x2=>
 EvO (zC E .lss 3 v5 x2) fun x3=>
 EvO (gdB x3 true v5) fun x5=>
 EvO (gdB x3 true v1) fun x6=>
 EvO (gdB x3 true (zO E (zl [(13,x6)]) (zn zfo [1,0,1,0,0,0,0] 7) h)) fun x7=>
 EvO (gdB x3 true (zC E .lss 3 x5 x7)) fun x8=>
 EvO (z7 x3 x8 (some (.bool false))) fun x9=>
 BrK x9 (PI (zIv s) K 3 [v0,v1,v5] h) (PI (zIv s) K 7 [v0,v1] h)):PI (zIv s) K 2 [v0,v1,v5] h:=zB H
theorem zID:zO E (zl [(8,.slice a n c)]) (zn zfo [1,0,1,0,0,0,0] 2) h=some (.int .i64 (n:Int)):=by cases a <;> kernel_rfl
theorem zPb:zO E (zl [(13,.slice a n c)]) (zn zfo [1,0,1,0,0,0,0] 7) h=some (.int .i64 (n:Int)):=by cases a <;> kernel_rfl
theorem zZM (H :
 EvO (zE E 34 v0 v5) fun x2=>
 EvO (zH E 173 h x2) fun x3=>
 EvO (zE E 34 v1 v5) fun x6=>
 EvO (zH E 173 h x6) fun x7=>
 Ev s (zQ (zW E) (some (.func (.func 188) #[] #[])) [x3,x7] h) fun x8=>
 PI (zIv s) K 4 [v0,v1,v5,x8.1] x8.2):PI (zIv s) K 3 [v0,v1,v5] h:=zB H
theorem zZL (H :
 EvO (zC E .neq 3 v6 (.int .i64 0)) fun x1=>
 BrK x1 (PI (zIv s) K 5 [v6] h) (PI (zIv s) K 6 [v0,v1,v5] h)):PI (zIv s) K 4 [v0,v1,v5,v6] h:=zB H
theorem zZK (H :
 K .ret [v6] h):PI (zIv s) K 5 [v6] h:=zB H
theorem zZJ (H :
 EvO (zC E .add 3 v5 (.int .i64 1)) fun x1=>
 PI (zIv s) K 2 [v0,v1,x1] h):PI (zIv s) K 6 [v0,v1,v5] h:=zB H
theorem zZI (H :
 EvO (zO E (zl [(31,v0)]) (zn zfo [1,1,0] 1) h) fun x1=>
 EvO (zO E (zl [(33,v1)]) (zn zfo [1,1,0] 3) h) fun x3=>
 Ev s (zQ (zW E) (some (.func (.func 94) #[] #[])) [x1,x3] h) fun x4=>
 K .ret [x4.1] x4.2):PI (zIv s) K 7 [v0,v1] h:=zB H
theorem zPa:zO E (zl [(31,.slice a n c)]) (zn zfo [1,1,0] 1) h=some (.int .i64 (n:Int)):=by cases a <;> kernel_rfl
theorem zPZ:zO E (zl [(33,.slice a n c)]) (zn zfo [1,1,0] 3) h=some (.int .i64 (n:Int)):=by cases a <;> kernel_rfl
theorem za1 (hok:h.ok) (hv:zg v=true) (H:PI (zIv s) (KR E [.tmp 4] fun x k=>x=v/\h.next<=k.wm) 0 [v0,v1] h.fresh):(zW E).call 140 [v0,v1] h=some [(v,h)]:=zAh Tryz.f140 hok hv (zz (zIv s) H)
noncomputable def B188:Code:=zc Tryz.f188
noncomputable def zFW (s:Bool):Cx:=⟨E,s,none,B188,[([0],[0,1]),([1,0],[2,3]),([1,1,0,0],[2,3,5]),([1,1,0,1,0],[2,3]),([1,1,1,0,0],[2,3,5]),([1,1,1,0,1,0],[2,3]),([1,1,1,1,0,0],[2,3,5]),([1,1,1,1,0,1,0,0,0,0],[2,3,5,6]),([1,1,1,1,0,1,0,0,1,0,0],[2,3,6]),([1,1,1,1,0,1,0,0,1,1],[2,3,5,6]),([1,1,1,1,1,0],[5])],[4],[]⟩
abbrev P188_7 (s:Bool) (K:KF) (v2 v3 v5 v6:Value) (h:AH):Prop:=PI (zFW s) K 7 [v2,v3,v5,v6] h
abbrev P188_10 (s:Bool) (K:KF) (v5:Value) (h:AH):Prop:=PI (zFW s) K 10 [v5] h
theorem zXa (H :
 Ev s (zX 173 h v0) fun x0=>
 Ev s (zX 173 x0.2 v1) fun x1=>
 PI (zFW s) K 1 [x0.1,x1.1] x1.2):PI (zFW s) K 0 [v0,v1] h:=zB H
theorem zXZ (H :
 EvO (zD E 173 0 v2) fun x0=>
 EvO (zH E 3 h x0) fun x1=>
 EvO (zD E 173 0 v3) fun x2=>
 EvO (zH E 3 h x2) fun x3=>
 Ev s (zQ (zW E) (some (.func (.func 232) #[] #[])) [x1,x3] h) fun x4=>
 PI (zFW s) K 2 [v2,v3,x4.1] x4.2):PI (zFW s) K 1 [v2,v3] h:=zB H
theorem zXY (H :
 EvO (zC E .eql 3 v5 (.int .i64 0)) fun x1=>
 BrK x1 (PI (zFW s) K 3 [v2,v3] h) (PI (zFW s) K 4 [v2,v3,v5] h)):PI (zFW s) K 2 [v2,v3,v5] h:=zB H
theorem zXX (H :
 EvO (zD E 173 1 v2) fun x0=>
 EvO (zH E 3 h x0) fun x1=>
 EvO (zD E 173 1 v3) fun x2=>
 EvO (zH E 3 h x2) fun x3=>
 Ev s (zQ (zW E) (some (.func (.func 232) #[] #[])) [x1,x3] h) fun x4=>
 PI (zFW s) K 4 [v2,v3,x4.1] x4.2):PI (zFW s) K 3 [v2,v3] h:=zB H
theorem zLJ (H :
 EvO (zC E .eql 3 v5 (.int .i64 0)) fun x1=>
 BrK x1 (PI (zFW s) K 5 [v2,v3] h) (PI (zFW s) K 6 [v2,v3,v5] h)):PI (zFW s) K 4 [v2,v3,v5] h:=zB H
theorem zXW (H :
 EvO (zD E 173 2 v2) fun x0=>
 EvO (zH E 34 h x0) fun x1=>
 EvO (zO E (zl [(22,x1)]) (zn B188 [1,1,1,0,1,0] 2) h) fun x2=>
 EvO (zD E 173 2 v3) fun x3=>
 EvO (zH E 34 h x3) fun x4=>
 EvO (zO E (zl [(25,x4)]) (zn B188 [1,1,1,0,1,0] 5) h) fun x5=>
 Ev s (zQ (zW E) (some (.func (.func 232) #[] #[])) [x2,x5] h) fun x6=>
 PI (zFW s) K 6 [v2,v3,x6.1] x6.2):PI (zFW s) K 5 [v2,v3] h:=zB H
theorem zPW:zO E (zl [(22,.slice a n c)]) (zn B188 [1,1,1,0,1,0] 2) h=some (.int .i64 (n:Int)):=by cases a <;> kernel_rfl
theorem zPV:zO E (zl [(25,.slice a n c)]) (zn B188 [1,1,1,0,1,0] 5) h=some (.int .i64 (n:Int)):=by cases a <;> kernel_rfl
theorem zHY (H :
 PI (zFW s) K 7 [v2,v3,v5,(.int .i64 0)] h):PI (zFW s) K 6 [v2,v3,v5] h:=zB H
theorem zHX (H :
 EvO (zD E 173 2 v2) fun x1=>
 EvO (zH E 34 h x1) fun x2=>
 EvO (zO E (zl [(30,x2)]) (zn B188 [1,1,1,1,0,1,0,0,0,0] 3) h) fun x3=>
 EvO (zC E .lss 3 v6 x3) fun x4=>
 EvO (gdB x4 true v5) fun x6=>
 EvO (gdB x4 true (zC E .eql 3 x6 (.int .i64 0))) fun x7=>
 EvO (z7 x4 x7 (some (.bool false))) fun x8=>
 BrK x8 (PI (zFW s) K 8 [v2,v3,v6] h) (PI (zFW s) K 10 [v5] h)):PI (zFW s) K 7 [v2,v3,v5,v6] h:=zB H
theorem zFj:zO E (zl [(30,.slice a n c)]) (zn B188 [1,1,1,1,0,1,0,0,0,0] 3) h=some (.int .i64 (n:Int)):=by cases a <;> kernel_rfl
theorem zXV (H :
 EvO (zD E 173 2 v2) fun x0=>
 EvO (zH E 34 h x0) fun x1=>
 EvO (zE E 34 x1 v6) fun x3=>
 EvO (zH E 173 h x3) fun x4=>
 EvO (zD E 173 2 v3) fun x5=>
 EvO (zH E 34 h x5) fun x6=>
 EvO (zE E 34 x6 v6) fun x8=>
 EvO (zH E 173 h x8) fun x9=>
 Ev s (zQ (zW E) (some (.func (.func 188) #[] #[])) [x4,x9] h) fun x10=>
 PI (zFW s) K 9 [v2,v3,x10.1,v6] x10.2):PI (zFW s) K 8 [v2,v3,v6] h:=zB H
theorem zXU (H :
 EvO (zC E .add 3 v6 (.int .i64 1)) fun x1=>
 PI (zFW s) K 7 [v2,v3,v5,x1] h):PI (zFW s) K 9 [v2,v3,v5,v6] h:=zB H
theorem zP6 (H :
 K .ret [v5] h):PI (zFW s) K 10 [v5] h:=zB H
theorem zah (hok:h.ok) (hv:zg v=true) (H:PI (zFW s) (KR E [.tmp 4] fun x k=>x=v/\h.next<=k.wm) 0 [v0,v1] h.fresh):(zW E).call 188 [v0,v1] h=some [(v,h)]:=zAh Tryz.f188 hok hv (zz (zFW s) H)
noncomputable def B232:Code:=zc Tryz.f232
noncomputable def zQ8 (s:Bool):Cx:=⟨E,s,none,B232,[([0],[0,1]),([1,0,0],[0,1]),([1,0,1,0,0],[]),([1,1,0,0],[0,1]),([1,1,0,1,0,0],[]),([1,1,1,0],[])],[4],[]⟩
theorem zWB (H :
 PI (zQ8 s) K 1 [v0,v1] h):PI (zQ8 s) K 0 [v0,v1] h:=zB H
theorem zWA (H :
 EvO (zC E .lss 3 v0 v1) fun x2=>
 BrK x2 (PI (zQ8 s) K 2 [] h) (PI (zQ8 s) K 3 [v0,v1] h)):PI (zQ8 s) K 1 [v0,v1] h:=zB H
theorem zV9 (H :
 K .ret [(.int .i64 (-1))] h):PI (zQ8 s) K 2 [] h:=zB H
theorem zV8 (H :
 EvO (zC E .gtr 3 v0 v1) fun x2=>
 BrK x2 (PI (zQ8 s) K 4 [] h) (PI (zQ8 s) K 5 [] h)):PI (zQ8 s) K 3 [v0,v1] h:=zB H
theorem zV7 (H :
 K .ret [(.int .i64 1)] h):PI (zQ8 s) K 4 [] h:=zB H
theorem zV6 (H :
 K .ret [(.int .i64 0)] h):PI (zQ8 s) K 5 [] h:=zB H
theorem zaV (hok:h.ok) (hv:zg v=true) (H:PI (zQ8 s) (KR E [.tmp 4] fun x k=>x=v/\h.next<=k.wm) 0 [v0,v1] h.fresh):(zW E).call 232 [v0,v1] h=some [(v,h)]:=zAh Tryz.f232 hok hv (zz (zQ8 s) H)
noncomputable def B264:Code:=zc Tryz.f264
noncomputable def C264 (s:Bool):Cx:=⟨E,s,none,B264,[([0],[0]),([1,0],[1]),([1,1,0],[1,4])],[2],[]⟩
theorem zVc (H :
 Ev s (zX 173 h v0) fun x0=>
 PI (C264 s) K 1 [x0.1] x0.2):PI (C264 s) K 0 [v0] h:=zB H
theorem zVb (H :
 EvO (zH E 173 h v1) fun x0=>
 Ev s (zQ (zW E) (some (.func (.func 280) #[] #[])) (some [x0,(.int .i64 2000),(.int .i64 1)]) h) fun x1=>
 EvO (z6 0 x1.1) fun x3=>
 EvO (z6 1 x1.1) fun x4=>
 PI (C264 s) K 2 [v1,x4] x1.2):PI (C264 s) K 1 [v1] h:=zB H
theorem zVa (H :
 EvO (gdB v4 true (zH E 173 h v1)) fun x2=>
 Ev s (gdW v4 true (zQ (zW E) (some (.func (.func 281) #[] #[])) [x2] h) h) fun x3=>
 EvO (z7 v4 x3.1 (some (.bool false))) fun x4=>
 K .ret [x4] x3.2):PI (C264 s) K 2 [v1,v4] h:=zB H
theorem zQw {Rp:Value->Prop} (hok:h.ok) (H:PI (C264 true) (KR E [.tmp 2] fun x k=>(zh x=true/\Rp x)/\h.next<=k.wm) 0 [v0] h.fresh):∃ v,Rp v/\(zW E).call 264 [v0] h=some [(v,h)]:=zCy Tryz.f264 hok (zz (C264 true) H)
noncomputable def B231:Code:=zc Tryz.f231
noncomputable def zfk (s:Bool):Cx:=⟨E,s,none,B231,[([0],[0]),([1,0,0],[1]),([1,0,1,0,0],[]),([1,1,0],[])],[2],[]⟩
theorem zWF (H :
 Ev s (zX 173 h v0) fun x0=>
 PI (zfk s) K 1 [x0.1] x0.2):PI (zfk s) K 0 [v0] h:=zB H
theorem zWE (H :
 EvO (zH E 173 h v1) fun x0=>
 Ev s (zQ (zW E) (some (.func (.func 264) #[] #[])) [x0] h) fun x1=>
 EvO (zAQ .not x1.1) fun x2=>
 BrK x2 (PI (zfk s) K 2 [] x1.2) (PI (zfk s) K 3 [] x1.2)):PI (zfk s) K 1 [v1] h:=zB H
theorem zWD (H :
 K .ret [(.int .i64 4)] h):PI (zfk s) K 2 [] h:=zB H
theorem zWC (H :
 K .ret [(.int .i64 0)] h):PI (zfk s) K 3 [] h:=zB H
theorem zQz {Rp:Value->Prop} (hok:h.ok) (H:PI (zfk true) (KR E [.tmp 2] fun x k=>(zh x=true/\Rp x)/\h.next<=k.wm) 0 [v0] h.fresh):∃ v,Rp v/\(zW E).call 231 [v0] h=some [(v,h)]:=zCy Tryz.f231 hok (zz (zfk true) H)
noncomputable def B280:Code:=zc Tryz.f280
noncomputable def zEt (s:Bool):Cx:=⟨E,s,none,B280,[([0],[0,1,2]),([1,0],[1,2,3]),([1,1,0,0],[1,2,3]),([1,1,0,1,0,0],[1]),([1,1,1,0,0],[1,2,3]),([1,1,1,0,1,0,0,0,0],[1,2,3,8]),([1,1,1,0,1,0,0,1,0,0,0],[1,2,3,8]),([1,1,1,0,1,0,0,1,0,0,1,0],[2,3,8,9,10]),([1,1,1,0,1,0,0,1,0,0,1,1,0],[1,2,3,8,10]),([1,1,1,0,1,0,0,1,0,0,1,1,1,0,0],[1]),([1,1,1,0,1,0,0,1,1],[1,2,3,8]),([1,1,1,1,0],[1])],[6,7],[]⟩
abbrev P280_3 (s:Bool) (K:KF) (v1:Value) (h:AH):Prop:=PI (zEt s) K 3 [v1] h
abbrev P280_4 (s:Bool) (K:KF) (v1 v2 v3:Value) (h:AH):Prop:=PI (zEt s) K 4 [v1,v2,v3] h
abbrev P280_5 (s:Bool) (K:KF) (v1 v2 v3 v8:Value) (h:AH):Prop:=PI (zEt s) K 5 [v1,v2,v3,v8] h
abbrev P280_9 (s:Bool) (K:KF) (v1:Value) (h:AH):Prop:=PI (zEt s) K 9 [v1] h
abbrev P280_11 (s:Bool) (K:KF) (v1:Value) (h:AH):Prop:=PI (zEt s) K 11 [v1] h
theorem zVO (H :
 Ev s (zX 173 h v0) fun x0=>
 PI (zEt s) K 1 [v1,v2,x0.1] x0.2):PI (zEt s) K 0 [v0,v1,v2] h:=zB H
theorem zVN (H :
 EvO (zC E .sub 3 v1 (.int .i64 1)) fun x1=>
 PI (zEt s) K 2 [x1,v2,v3] h):PI (zEt s) K 1 [v1,v2,v3] h:=zB H
theorem zVM (H :
 EvO (zC E .lss 3 v1 (.int .i64 0)) fun x1=>
 EvO (gdB x1 false v2) fun x3=>
 EvO (gdB x1 false (zC E .gtr 3 x3 (.int .i64 200))) fun x4=>
 EvO (z7 x1 (some (.bool true)) x4) fun x5=>
 BrK x5 (PI (zEt s) K 3 [v1] h) (PI (zEt s) K 4 [v1,v2,v3] h)):PI (zEt s) K 2 [v1,v2,v3] h:=zB H
theorem zVL (H :
 K .ret [v1,(.bool false)] h):PI (zEt s) K 3 [v1] h:=zB H
theorem zVK (H :
 PI (zEt s) K 5 [v1,v2,v3,(.int .i64 0)] h):PI (zEt s) K 4 [v1,v2,v3] h:=zB H
theorem zK6 (H :
 EvO (zD E 173 2 v3) fun x1=>
 EvO (zH E 34 h x1) fun x2=>
 EvO (zO E (zl [(22,x2)]) (zn B280 [1,1,1,0,1,0,0,0,0] 3) h) fun x3=>
 EvO (zC E .lss 3 v8 x3) fun x4=>
 BrK x4 (PI (zEt s) K 6 [v1,v2,v3,v8] h) (PI (zEt s) K 11 [v1] h)):PI (zEt s) K 5 [v1,v2,v3,v8] h:=zB H
theorem zH9:zO E (zl [(22,.slice a n c)]) (zn B280 [1,1,1,0,1,0,0,0,0] 3) h=some (.int .i64 (n:Int)):=by cases a <;> kernel_rfl
theorem zVJ (H :
 EvO (zD E 173 2 v3) fun x0=>
 EvO (zH E 34 h x0) fun x1=>
 EvO (zE E 34 x1 v8) fun x3=>
 EvO (zH E 173 h x3) fun x4=>
 EvO (zC E .add 3 v2 (.int .i64 1)) fun x7=>
 Ev s (zQ (zW E) (some (.func (.func 280) #[] #[])) [x4,v1,x7] h) fun x8=>
 EvO (z6 0 x8.1) fun x10=>
 EvO (z6 1 x8.1) fun x11=>
 PI (zEt s) K 7 [v2,v3,v8,x10,x11] x8.2):PI (zEt s) K 6 [v1,v2,v3,v8] h:=zB H
theorem zVI (H :
 PI (zEt s) K 8 [v9,v2,v3,v8,v10] h):PI (zEt s) K 7 [v2,v3,v8,v9,v10] h:=zB H
theorem zVH (H :
 EvO (zAQ .not v10) fun x1=>
 BrK x1 (PI (zEt s) K 9 [v1] h) (PI (zEt s) K 10 [v1,v2,v3,v8] h)):PI (zEt s) K 8 [v1,v2,v3,v8,v10] h:=zB H
theorem zVG (H :
 K .ret [v1,(.bool false)] h):PI (zEt s) K 9 [v1] h:=zB H
theorem zPy (H :
 EvO (zC E .add 3 v8 (.int .i64 1)) fun x1=>
 PI (zEt s) K 5 [v1,v2,v3,x1] h):PI (zEt s) K 10 [v1,v2,v3,v8] h:=zB H
theorem zPx (H :
 K .ret [v1,(.bool true)] h):PI (zEt s) K 11 [v1] h:=zB H
theorem zQv {Rp:Value->Prop} (hok:h.ok) (H:PI (zEt true) (KR E [.tmp 6,.tmp 7] fun x k=>(zh x=true/\Rp x)/\h.next<=k.wm) 0 [v0,v1,v2] h.fresh):∃ v,Rp v/\(zW E).call 280 [v0,v1,v2] h=some [(v,h)]:=zCy Tryz.f280 hok (zz (zEt true) H)
noncomputable def B281:Code:=zc Tryz.f281
noncomputable def zGP (s:Bool):Cx:=⟨E,s,none,B281,[([0],[0]),([1,0,0],[1]),([1,0,1,0,0],[]),([1,1,0,0],[1]),([1,1,0,1,0,0,0,0],[1,3]),([1,1,0,1,0,0,1,0,0,0],[1,3]),([1,1,0,1,0,0,1,0,0,1,0,0],[]),([1,1,0,1,0,0,1,1],[1,3]),([1,1,1,0],[])],[2],[]⟩
abbrev P281_2 (s:Bool) (K:KF) (h:AH):Prop:=PI (zGP s) K 2 [] h
abbrev P281_3 (s:Bool) (K:KF) (v1:Value) (h:AH):Prop:=PI (zGP s) K 3 [v1] h
abbrev P281_4 (s:Bool) (K:KF) (v1 v3:Value) (h:AH):Prop:=PI (zGP s) K 4 [v1,v3] h
abbrev P281_6 (s:Bool) (K:KF) (h:AH):Prop:=PI (zGP s) K 6 [] h
abbrev P281_8 (s:Bool) (K:KF) (h:AH):Prop:=PI (zGP s) K 8 [] h
theorem zVF (H :
 Ev s (zX 173 h v0) fun x0=>
 PI (zGP s) K 1 [x0.1] x0.2):PI (zGP s) K 0 [v0] h:=zB H
theorem zVE (H :
 EvO (zD E 173 1 v1) fun x0=>
 EvO (zH E 3 h x0) fun x1=>
 EvO (zC E .lss 3 x1 (.int .i64 0)) fun x2=>
 EvO (gdB x2 false (zD E 173 0 v1)) fun x4=>
 EvO (gdB x2 false (zH E 3 h x4)) fun x5=>
 EvO (gdB x2 false (zC E .neq 3 x5 (.int .i64 1))) fun x6=>
 EvO (gdB x2 false x6) fun x7=>
 EvO (gdB x7 true (zD E 173 0 v1)) fun x8=>
 EvO (gdB x7 true (zH E 3 h x8)) fun x9=>
 EvO (gdB x7 true (zC E .neq 3 x9 (.int .i64 2))) fun x10=>
 EvO (gdB x2 false (z7 x7 x10 (some (.bool false)))) fun x11=>
 EvO (z7 x2 (some (.bool true)) x11) fun x12=>
 EvO (gdB x12 false (zD E 173 0 v1)) fun x14=>
 EvO (gdB x12 false (zH E 3 h x14)) fun x15=>
 EvO (gdB x12 false (zC E .eql 3 x15 (.int .i64 1))) fun x16=>
 EvO (gdB x12 false x16) fun x17=>
 EvO (gdB x17 true (zD E 173 2 v1)) fun x18=>
 EvO (gdB x17 true (zH E 34 h x18)) fun x19=>
 EvO (gdB x17 true (zO E (zl [(23,x19)]) (zn B281 [1,0,0] 20) h)) fun x20=>
 EvO (gdB x17 true (zC E .gtr 3 x20 (.int .i64 0))) fun x21=>
 EvO (gdB x12 false (z7 x17 x21 (some (.bool false)))) fun x22=>
 EvO (z7 x12 (some (.bool true)) x22) fun x23=>
 EvO (gdB x23 false (zD E 173 2 v1)) fun x25=>
 EvO (gdB x23 false (zH E 34 h x25)) fun x26=>
 EvO (gdB x23 false (zO E (zl [(30,x26)]) (zn B281 [1,0,0] 27) h)) fun x27=>
 EvO (gdB x23 false (zC E .gtr 3 x27 (.int .i64 8))) fun x28=>
 EvO (z7 x23 (some (.bool true)) x28) fun x29=>
 BrK x29 (PI (zGP s) K 2 [] h) (PI (zGP s) K 3 [v1] h)):PI (zGP s) K 1 [v1] h:=zB H
theorem zMH:zO E (zl [(23,.slice a n c)]) (zn B281 [1,0,0] 20) h=some (.int .i64 (n:Int)):=by cases a <;> kernel_rfl
theorem zMG:zO E (zl [(30,.slice a n c)]) (zn B281 [1,0,0] 27) h=some (.int .i64 (n:Int)):=by cases a <;> kernel_rfl
theorem zVD (H :
 K .ret [(.bool false)] h):PI (zGP s) K 2 [] h:=zB H
theorem zVC (H :
 PI (zGP s) K 4 [v1,(.int .i64 0)] h):PI (zGP s) K 3 [v1] h:=zB H
theorem zK5 (H :
 EvO (zD E 173 2 v1) fun x1=>
 EvO (zH E 34 h x1) fun x2=>
 EvO (zO E (zl [(36,x2)]) (zn B281 [1,1,0,1,0,0,0,0] 3) h) fun x3=>
 EvO (zC E .lss 3 v3 x3) fun x4=>
 BrK x4 (PI (zGP s) K 5 [v1,v3] h) (PI (zGP s) K 8 [] h)):PI (zGP s) K 4 [v1,v3] h:=zB H
theorem zH8:zO E (zl [(36,.slice a n c)]) (zn B281 [1,1,0,1,0,0,0,0] 3) h=some (.int .i64 (n:Int)):=by cases a <;> kernel_rfl
theorem zVB (H :
 EvO (zD E 173 2 v1) fun x0=>
 EvO (zH E 34 h x0) fun x1=>
 EvO (zE E 34 x1 v3) fun x3=>
 EvO (zH E 173 h x3) fun x4=>
 Ev s (zQ (zW E) (some (.func (.func 281) #[] #[])) [x4] h) fun x5=>
 EvO (zAQ .not x5.1) fun x6=>
 BrK x6 (PI (zGP s) K 6 [] x5.2) (PI (zGP s) K 7 [v1,v3] x5.2)):PI (zGP s) K 5 [v1,v3] h:=zB H
theorem zVA (H :
 K .ret [(.bool false)] h):PI (zGP s) K 6 [] h:=zB H
theorem zU9 (H :
 EvO (zC E .add 3 v3 (.int .i64 1)) fun x1=>
 PI (zGP s) K 4 [v1,x1] h):PI (zGP s) K 7 [v1,v3] h:=zB H
theorem zU8 (H :
 K .ret [(.bool true)] h):PI (zGP s) K 8 [] h:=zB H
theorem zQu {Rp:Value->Prop} (hok:h.ok) (H:PI (zGP true) (KR E [.tmp 2] fun x k=>(zh x=true/\Rp x)/\h.next<=k.wm) 0 [v0] h.fresh):∃ v,Rp v/\(zW E).call 281 [v0] h=some [(v,h)]:=zCy Tryz.f281 hok (zz (zGP true) H)
noncomputable def B187:Code:=zc Tryz.f187
noncomputable def C187 (s:Bool):Cx:=⟨E,s,none,B187,[([0],[0]),([1,0],[1])],[2],[]⟩
theorem zXc (H :
 Ev s (zX 173 h v0) fun x0=>
 PI (C187 s) K 1 [x0.1] x0.2):PI (C187 s) K 0 [v0] h:=zB H
theorem zXb (H :
 EvO (zH E 173 h v1) fun x0=>
 Ev s (zQ (zW E) (some (.func (.func 230) #[] #[])) [x0] h) fun x1=>
 EvO (gdB x1.1 true (zH E 173 x1.2 v1)) fun x3=>
 Ev s (gdW x1.1 true (zQ (zW E) (some (.func (.func 231) #[] #[])) [x3] x1.2) x1.2) fun x4=>
 EvO (gdB x1.1 true (zC E .eql 29 x4.1 (.int .i64 0))) fun x5=>
 EvO (z7 x1.1 x5 (some (.bool false))) fun x6=>
 K .ret [x6] x4.2):PI (C187 s) K 1 [v1] h:=zB H
theorem zQ3 {Rp:Value->Prop} (hok:h.ok) (H:PI (C187 true) (KR E [.tmp 2] fun x k=>(zh x=true/\Rp x)/\h.next<=k.wm) 0 [v0] h.fresh):∃ v,Rp v/\(zW E).call 187 [v0] h=some [(v,h)]:=zCy Tryz.f187 hok (zz (C187 true) H)
noncomputable def B230:Code:=zc Tryz.f230
noncomputable def zF1 (s:Bool):Cx:=⟨E,s,none,B230,[([0],[0]),([1,0,0],[1]),([1,0,1,0,0],[]),([1,1,0,0],[1]),([1,1,0,1,0,0,0,0],[1,3]),([1,1,0,1,0,0,1,0,0,0],[1,3]),([1,1,0,1,0,0,1,0,0,1,0],[1,3,4]),([1,1,0,1,0,0,1,0,0,1,1,0,0],[]),([1,1,0,1,0,0,1,1],[1,3]),([1,1,1,0],[])],[2],[]⟩
abbrev P230_2 (s:Bool) (K:KF) (h:AH):Prop:=PI (zF1 s) K 2 [] h
abbrev P230_3 (s:Bool) (K:KF) (v1:Value) (h:AH):Prop:=PI (zF1 s) K 3 [v1] h
abbrev P230_4 (s:Bool) (K:KF) (v1 v3:Value) (h:AH):Prop:=PI (zF1 s) K 4 [v1,v3] h
abbrev P230_7 (s:Bool) (K:KF) (h:AH):Prop:=PI (zF1 s) K 7 [] h
abbrev P230_9 (s:Bool) (K:KF) (h:AH):Prop:=PI (zF1 s) K 9 [] h
theorem zWO (H :
 Ev s (zX 173 h v0) fun x0=>
 PI (zF1 s) K 1 [x0.1] x0.2):PI (zF1 s) K 0 [v0] h:=zB H
theorem zWN (H :
 EvO (zD E 173 0 v1) fun x0=>
 EvO (zH E 3 h x0) fun x1=>
 EvO (zC E .neq 3 x1 (.int .i64 2)) fun x2=>
 EvO (gdB x2 false (zD E 173 1 v1)) fun x4=>
 EvO (gdB x2 false (zH E 3 h x4)) fun x5=>
 EvO (gdB x2 false (zC E .lss 3 x5 (.int .i64 0))) fun x6=>
 EvO (z7 x2 (some (.bool true)) x6) fun x7=>
 EvO (gdB x7 false (zD E 173 1 v1)) fun x9=>
 EvO (gdB x7 false (zH E 3 h x9)) fun x10=>
 EvO (gdB x7 false (zC E .gtr 3 x10 (.int .i64 255))) fun x11=>
 EvO (z7 x7 (some (.bool true)) x11) fun x12=>
 EvO (gdB x12 false (zD E 173 2 v1)) fun x14=>
 EvO (gdB x12 false (zH E 34 h x14)) fun x15=>
 EvO (gdB x12 false (zO E (zl [(20,x15)]) (zn B230 [1,0,0] 16) h)) fun x16=>
 EvO (gdB x12 false (zC E .gtr 3 x16 (.int .i64 8))) fun x17=>
 EvO (z7 x12 (some (.bool true)) x17) fun x18=>
 BrK x18 (PI (zF1 s) K 2 [] h) (PI (zF1 s) K 3 [v1] h)):PI (zF1 s) K 1 [v1] h:=zB H
theorem zMK:zO E (zl [(20,.slice a n c)]) (zn B230 [1,0,0] 16) h=some (.int .i64 (n:Int)):=by cases a <;> kernel_rfl
theorem zWM (H :
 K .ret [(.bool false)] h):PI (zF1 s) K 2 [] h:=zB H
theorem zWL (H :
 PI (zF1 s) K 4 [v1,(.int .i64 0)] h):PI (zF1 s) K 3 [v1] h:=zB H
theorem zLB (H :
 EvO (zD E 173 2 v1) fun x1=>
 EvO (zH E 34 h x1) fun x2=>
 EvO (zO E (zl [(26,x2)]) (zn B230 [1,1,0,1,0,0,0,0] 3) h) fun x3=>
 EvO (zC E .lss 3 v3 x3) fun x4=>
 BrK x4 (PI (zF1 s) K 5 [v1,v3] h) (PI (zF1 s) K 9 [] h)):PI (zF1 s) K 4 [v1,v3] h:=zB H
theorem zIB:zO E (zl [(26,.slice a n c)]) (zn B230 [1,1,0,1,0,0,0,0] 3) h=some (.int .i64 (n:Int)):=by cases a <;> kernel_rfl
theorem zWK (H :
 EvO (zD E 173 2 v1) fun x0=>
 EvO (zH E 34 h x0) fun x1=>
 EvO (zE E 34 x1 v3) fun x3=>
 EvO (zH E 173 h x3) fun x4=>
 Ev s (zQ (zW E) (some (.func (.func 230) #[] #[])) [x4] h) fun x5=>
 PI (zF1 s) K 6 [v1,v3,x5.1] x5.2):PI (zF1 s) K 5 [v1,v3] h:=zB H
theorem zWJ (H :
 EvO (zAQ .not v4) fun x1=>
 BrK x1 (PI (zF1 s) K 7 [] h) (PI (zF1 s) K 8 [v1,v3] h)):PI (zF1 s) K 6 [v1,v3,v4] h:=zB H
theorem zWI (H :
 K .ret [(.bool false)] h):PI (zF1 s) K 7 [] h:=zB H
theorem zWH (H :
 EvO (zC E .add 3 v3 (.int .i64 1)) fun x1=>
 PI (zF1 s) K 4 [v1,x1] h):PI (zF1 s) K 8 [v1,v3] h:=zB H
theorem zWG (H :
 K .ret [(.bool true)] h):PI (zF1 s) K 9 [] h:=zB H
theorem zQ0 {Rp:Value->Prop} (hok:h.ok) (H:PI (zF1 true) (KR E [.tmp 2] fun x k=>(zh x=true/\Rp x)/\h.next<=k.wm) 0 [v0] h.fresh):∃ v,Rp v/\(zW E).call 230 [v0] h=some [(v,h)]:=zCy Tryz.f230 hok (zz (zF1 true) H)
noncomputable def B138:Code:=zc Tryz.f138
noncomputable def zES (s:Bool):Cx:=⟨E,s,none,B138,[([0],[0]),([1,0,0],[1]),([1,0,1,0,0],[]),([1,1,0,0],[1]),([1,1,0,1,0,0],[]),([1,1,1,0,0],[1]),([1,1,1,0,1,0,0,0,0],[1,3]),([1,1,1,0,1,0,0,1,0,0,0],[1,3]),([1,1,1,0,1,0,0,1,0,0,1,0],[1,3,4]),([1,1,1,0,1,0,0,1,0,0,1,1,0,0],[]),([1,1,1,0,1,0,0,1,1],[1,3]),([1,1,1,1,0],[])],[2],[]⟩
abbrev P138_2 (s:Bool) (K:KF) (h:AH):Prop:=PI (zES s) K 2 [] h
abbrev P138_3 (s:Bool) (K:KF) (v1:Value) (h:AH):Prop:=PI (zES s) K 3 [v1] h
abbrev P138_4 (s:Bool) (K:KF) (h:AH):Prop:=PI (zES s) K 4 [] h
abbrev P138_5 (s:Bool) (K:KF) (v1:Value) (h:AH):Prop:=PI (zES s) K 5 [v1] h
abbrev P138_6 (s:Bool) (K:KF) (v1 v3:Value) (h:AH):Prop:=PI (zES s) K 6 [v1,v3] h
abbrev P138_9 (s:Bool) (K:KF) (h:AH):Prop:=PI (zES s) K 9 [] h
abbrev P138_11 (s:Bool) (K:KF) (h:AH):Prop:=PI (zES s) K 11 [] h
theorem zZd (H :
 Ev s (zX 36 h v0) fun x0=>
 PI (zES s) K 1 [x0.1] x0.2):PI (zES s) K 0 [v0] h:=zB H
theorem zZc (H :
 EvO (zD E 36 0 v1) fun x0=>
 EvO (zH E 3 h x0) fun x1=>
 EvO (zC E .lss 3 x1 (.int .i64 (-3))) fun x2=>
 EvO (gdB x2 false (zD E 36 0 v1)) fun x4=>
 EvO (gdB x2 false (zH E 3 h x4)) fun x5=>
 EvO (gdB x2 false (zC E .gtr 3 x5 (.int .i64 31))) fun x6=>
 EvO (z7 x2 (some (.bool true)) x6) fun x7=>
 EvO (gdB x7 false (zD E 36 1 v1)) fun x9=>
 EvO (gdB x7 false (zH E 34 h x9)) fun x10=>
 EvO (gdB x7 false (zO E (zl [(15,x10)]) (zn B138 [1,0,0] 11) h)) fun x11=>
 EvO (gdB x7 false (zC E .gtr 3 x11 (.int .i64 8))) fun x12=>
 EvO (z7 x7 (some (.bool true)) x12) fun x13=>
 BrK x13 (PI (zES s) K 2 [] h) (PI (zES s) K 3 [v1] h)):PI (zES s) K 1 [v1] h:=zB H
theorem zMP:zO E (zl [(15,.slice a n c)]) (zn B138 [1,0,0] 11) h=some (.int .i64 (n:Int)):=by cases a <;> kernel_rfl
theorem zZb (H :
 K .ret [(.bool false)] h):PI (zES s) K 2 [] h:=zB H
theorem zZa (H :
 EvO (zD E 36 0 v1) fun x0=>
 EvO (zH E 3 h x0) fun x1=>
 EvO (zC E .eql 3 x1 (.int .i64 (-3))) fun x2=>
 EvO (gdB x2 false (zD E 36 0 v1)) fun x4=>
 EvO (gdB x2 false (zH E 3 h x4)) fun x5=>
 EvO (gdB x2 false (zC E .eql 3 x5 (.int .i64 (-1)))) fun x6=>
 EvO (z7 x2 (some (.bool true)) x6) fun x7=>
 EvO (gdB x7 true (zD E 36 1 v1)) fun x9=>
 EvO (gdB x7 true (zH E 34 h x9)) fun x10=>
 EvO (gdB x7 true (zO E (zl [(29,x10)]) (zn B138 [1,1,0,0] 11) h)) fun x11=>
 EvO (gdB x7 true (zC E .gtr 3 x11 (.int .i64 0))) fun x12=>
 EvO (z7 x7 x12 (some (.bool false))) fun x13=>
 BrK x13 (PI (zES s) K 4 [] h) (PI (zES s) K 5 [v1] h)):PI (zES s) K 3 [v1] h:=zB H
theorem zMO:zO E (zl [(29,.slice a n c)]) (zn B138 [1,1,0,0] 11) h=some (.int .i64 (n:Int)):=by cases a <;> kernel_rfl
theorem zZZ (H :
 K .ret [(.bool false)] h):PI (zES s) K 4 [] h:=zB H
theorem zZY (H :
 PI (zES s) K 6 [v1,(.int .i64 0)] h):PI (zES s) K 5 [v1] h:=zB H
theorem zLf (H :
 EvO (zD E 36 1 v1) fun x1=>
 EvO (zH E 34 h x1) fun x2=>
 EvO (zO E (zl [(35,x2)]) (zn B138 [1,1,1,0,1,0,0,0,0] 3) h) fun x3=>
 EvO (zC E .lss 3 v3 x3) fun x4=>
 BrK x4 (PI (zES s) K 7 [v1,v3] h) (PI (zES s) K 11 [] h)):PI (zES s) K 6 [v1,v3] h:=zB H
theorem zIE:zO E (zl [(35,.slice a n c)]) (zn B138 [1,1,1,0,1,0,0,0,0] 3) h=some (.int .i64 (n:Int)):=by cases a <;> kernel_rfl
theorem zZX (H :
 EvO (zD E 36 1 v1) fun x0=>
 EvO (zH E 34 h x0) fun x1=>
 EvO (zE E 34 x1 v3) fun x3=>
 EvO (zH E 173 h x3) fun x4=>
 Ev s (zQ (zW E) (some (.func (.func 187) #[] #[])) [x4] h) fun x5=>
 PI (zES s) K 8 [v1,v3,x5.1] x5.2):PI (zES s) K 7 [v1,v3] h:=zB H
theorem zZW (H :
 EvO (zAQ .not v4) fun x1=>
 BrK x1 (PI (zES s) K 9 [] h) (PI (zES s) K 10 [v1,v3] h)):PI (zES s) K 8 [v1,v3,v4] h:=zB H
theorem zZV (H :
 K .ret [(.bool false)] h):PI (zES s) K 9 [] h:=zB H
theorem zQg (H :
 EvO (zC E .add 3 v3 (.int .i64 1)) fun x1=>
 PI (zES s) K 6 [v1,x1] h):PI (zES s) K 10 [v1,v3] h:=zB H
theorem zQf (H :
 K .ret [(.bool true)] h):PI (zES s) K 11 [] h:=zB H
theorem zQ5 {Rp:Value->Prop} (hok:h.ok) (H:PI (zES true) (KR E [.tmp 2] fun x k=>(zh x=true/\Rp x)/\h.next<=k.wm) 0 [v0] h.fresh):∃ v,Rp v/\(zW E).call 138 [v0] h=some [(v,h)]:=zCy Tryz.f138 hok (zz (zES true) H)
noncomputable def B139:Code:=zc Tryz.f139
noncomputable def zRA (s:Bool):Cx:=⟨E,s,none,B139,[([0],[0,1]),([1,0,0],[2,3]),([1,0,1,0,0],[2,3]),([1,1,0,0],[2,3]),([1,1,0,1,0,0],[2,3]),([1,1,1,0],[2,3])],[4],[]⟩
theorem zZU (H :
 Ev s (zX 52 h v0) fun x0=>
 Ev s (zX 52 x0.2 v1) fun x1=>
 PI (zRA s) K 1 [x0.1,x1.1] x1.2):PI (zRA s) K 0 [v0,v1] h:=zB H
theorem zZT (H :
 EvO (zD E 52 0 v2) fun x0=>
 EvO (zH E 3 h x0) fun x1=>
 EvO (zD E 52 0 v3) fun x2=>
 EvO (zH E 3 h x2) fun x3=>
 EvO (zC E .neq 3 x1 x3) fun x4=>
 BrK x4 (PI (zRA s) K 2 [v2,v3] h) (PI (zRA s) K 3 [v2,v3] h)):PI (zRA s) K 1 [v2,v3] h:=zB H
theorem zZS (H :
 EvO (zD E 52 0 v2) fun x0=>
 EvO (zH E 3 h x0) fun x1=>
 EvO (zD E 52 0 v3) fun x2=>
 EvO (zH E 3 h x2) fun x3=>
 EvO (zC E .lss 3 x1 x3) fun x4=>
 K .ret [x4] h):PI (zRA s) K 2 [v2,v3] h:=zB H
theorem zZR (H :
 EvO (zD E 52 1 v2) fun x0=>
 EvO (zH E 3 h x0) fun x1=>
 EvO (zD E 52 1 v3) fun x2=>
 EvO (zH E 3 h x2) fun x3=>
 EvO (zC E .neq 3 x1 x3) fun x4=>
 BrK x4 (PI (zRA s) K 4 [v2,v3] h) (PI (zRA s) K 5 [v2,v3] h)):PI (zRA s) K 3 [v2,v3] h:=zB H
theorem zZQ (H :
 EvO (zD E 52 1 v2) fun x0=>
 EvO (zH E 3 h x0) fun x1=>
 EvO (zD E 52 1 v3) fun x2=>
 EvO (zH E 3 h x2) fun x3=>
 EvO (zC E .lss 3 x1 x3) fun x4=>
 K .ret [x4] h):PI (zRA s) K 4 [v2,v3] h:=zB H
theorem zZP (H :
 EvO (zD E 52 2 v2) fun x0=>
 EvO (zH E 3 h x0) fun x1=>
 EvO (zD E 52 2 v3) fun x2=>
 EvO (zH E 3 h x2) fun x3=>
 EvO (zC E .lss 3 x1 x3) fun x4=>
 K .ret [x4] h):PI (zRA s) K 5 [v2,v3] h:=zB H
theorem za2 (hok:h.ok) (hv:zg v=true) (H:PI (zRA s) (KR E [.tmp 4] fun x k=>x=v/\h.next<=k.wm) 0 [v0,v1] h.fresh):(zW E).call 139 [v0,v1] h=some [(v,h)]:=zAh Tryz.f139 hok hv (zz (zRA s) H)
noncomputable def B85:Code:=zc Tryz.f85
noncomputable def C85 (s:Bool):Cx:=⟨E,s,none,B85,[([0],[0]),([1,0,0],[1]),([1,0,1,0,0],[]),([1,1,0,0],[1]),([1,1,0,1,0,0,0,0],[1,3]),([1,1,0,1,0,0,1,0,0,0],[1,3]),([1,1,0,1,0,0,1,0,0,1,0,0],[1,3,4]),([1,1,0,1,0,0,1,0,0,1,0,1,0,0],[]),([1,1,0,1,0,0,1,0,0,1,1,0],[1,3]),([1,1,0,1,0,0,1,0,0,1,1,1,0,0],[]),([1,1,0,1,0,0,1,1],[1,3]),([1,1,1,0,0],[1]),([1,1,1,0,1,0,0,0,0],[1,5]),([1,1,1,0,1,0,0,1,0,0,0],[1,5]),([1,1,1,0,1,0,0,1,0,0,1,0,0],[1,5,6]),([1,1,1,0,1,0,0,1,0,0,1,0,1,0,0],[]),([1,1,1,0,1,0,0,1,0,0,1,1,0],[1,5,6]),([1,1,1,0,1,0,0,1,0,0,1,1,1,0,0],[]),([1,1,1,0,1,0,0,1,1],[1,5]),([1,1,1,1,0],[])],[2],[]⟩
abbrev P85_2 (s:Bool) (K:KF) (h:AH):Prop:=PI (C85 s) K 2 [] h
abbrev P85_3 (s:Bool) (K:KF) (v1:Value) (h:AH):Prop:=PI (C85 s) K 3 [v1] h
abbrev P85_4 (s:Bool) (K:KF) (v1 v3:Value) (h:AH):Prop:=PI (C85 s) K 4 [v1,v3] h
abbrev P85_7 (s:Bool) (K:KF) (h:AH):Prop:=PI (C85 s) K 7 [] h
abbrev P85_9 (s:Bool) (K:KF) (h:AH):Prop:=PI (C85 s) K 9 [] h
abbrev P85_10 (s:Bool) (K:KF) (v1 v3:Value) (h:AH):Prop:=PI (C85 s) K 10 [v1,v3] h
abbrev P85_12 (s:Bool) (K:KF) (v1 v5:Value) (h:AH):Prop:=PI (C85 s) K 12 [v1,v5] h
abbrev P85_15 (s:Bool) (K:KF) (h:AH):Prop:=PI (C85 s) K 15 [] h
abbrev P85_16 (s:Bool) (K:KF) (v1 v5 v6:Value) (h:AH):Prop:=PI (C85 s) K 16 [v1,v5,v6] h
abbrev P85_18 (s:Bool) (K:KF) (v1 v5:Value) (h:AH):Prop:=PI (C85 s) K 18 [v1,v5] h
theorem zcy (H :
 Ev s (zX 25 h v0) fun x0=>
 PI (C85 s) K 1 [x0.1] x0.2):PI (C85 s) K 0 [v0] h:=zB H
theorem zcx (H :
 EvO (zD E 25 0 v1) fun x0=>
 EvO (zH E 3 h x0) fun x1=>
 EvO (zC E .lss 3 x1 (.int .i64 1)) fun x2=>
 EvO (gdB x2 false (zD E 25 0 v1)) fun x4=>
 EvO (gdB x2 false (zH E 3 h x4)) fun x5=>
 EvO (gdB x2 false (zC E .gtr 3 x5 (.int .i64 20000))) fun x6=>
 EvO (z7 x2 (some (.bool true)) x6) fun x7=>
 EvO (gdB x7 false (zD E 25 1 v1)) fun x9=>
 EvO (gdB x7 false (zH E 22 h x9)) fun x10=>
 EvO (gdB x7 false (zO E (zl [(17,x10)]) (zn B85 [1,0,0] 11) h)) fun x11=>
 EvO (gdB x7 false (zC E .gtr 3 x11 (.int .i64 4000))) fun x12=>
 EvO (z7 x7 (some (.bool true)) x12) fun x13=>
 EvO (gdB x13 false (zD E 25 2 v1)) fun x15=>
 EvO (gdB x13 false (zH E 23 h x15)) fun x16=>
 EvO (gdB x13 false (zO E (zl [(23,x16)]) (zn B85 [1,0,0] 17) h)) fun x17=>
 EvO (gdB x13 false (zC E .gtr 3 x17 (.int .i64 100000))) fun x18=>
 EvO (z7 x13 (some (.bool true)) x18) fun x19=>
 BrK x19 (PI (C85 s) K 2 [] h) (PI (C85 s) K 3 [v1] h)):PI (C85 s) K 1 [v1] h:=zB H
theorem zPM:zO E (zl [(17,.slice a n c)]) (zn B85 [1,0,0] 11) h=some (.int .i64 (n:Int)):=by cases a <;> kernel_rfl
theorem zPL:zO E (zl [(23,.slice a n c)]) (zn B85 [1,0,0] 17) h=some (.int .i64 (n:Int)):=by cases a <;> kernel_rfl
theorem zcw (H :
 K .ret [(.bool false)] h):PI (C85 s) K 2 [] h:=zB H
theorem zcv (H :
 PI (C85 s) K 4 [v1,(.int .i64 0)] h):PI (C85 s) K 3 [v1] h:=zB H
theorem zOR (H :
 EvO (zD E 25 1 v1) fun x1=>
 EvO (zH E 22 h x1) fun x2=>
 EvO (zO E (zl [(29,x2)]) (zn B85 [1,1,0,1,0,0,0,0] 3) h) fun x3=>
 EvO (zC E .lss 3 v3 x3) fun x4=>
 BrK x4 (PI (C85 s) K 5 [v1,v3] h) (PI (C85 s) K 11 [v1] h)):PI (C85 s) K 4 [v1,v3] h:=zB H
theorem zKP:zO E (zl [(29,.slice a n c)]) (zn B85 [1,1,0,1,0,0,0,0] 3) h=some (.int .i64 (n:Int)):=by cases a <;> kernel_rfl
theorem zcu (H :
 EvO (zD E 25 1 v1) fun x0=>
 EvO (zH E 22 h x0) fun x1=>
 EvO (zE E 22 x1 v3) fun x3=>
 EvO (zH E 36 h x3) fun x4=>
 Ev s (zQ (zW E) (some (.func (.func 138) #[] #[])) [x4] h) fun x5=>
 PI (C85 s) K 6 [v1,v3,x5.1] x5.2):PI (C85 s) K 5 [v1,v3] h:=zB H
theorem zct (H :
 EvO (zAQ .not v4) fun x1=>
 BrK x1 (PI (C85 s) K 7 [] h) (PI (C85 s) K 8 [v1,v3] h)):PI (C85 s) K 6 [v1,v3,v4] h:=zB H
theorem zcs (H :
 K .ret [(.bool false)] h):PI (C85 s) K 7 [] h:=zB H
theorem zcr (H :
 EvO (zC E .gtr 3 v3 (.int .i64 0)) fun x1=>
 EvO (gdB x1 true (zD E 25 1 v1)) fun x3=>
 EvO (gdB x1 true (zH E 22 h x3)) fun x4=>
 EvO (gdB x1 true v3) fun x5=>
 EvO (gdB x1 true (zC E .sub 3 x5 (.int .i64 1))) fun x6=>
 EvO (gdB x1 true (zE E 22 x4 x6)) fun x7=>
 EvO (gdB x1 true (zH E 36 h x7)) fun x8=>
 EvO (gdB x1 true (zD E 25 1 v1)) fun x9=>
 EvO (gdB x1 true (zH E 22 h x9)) fun x10=>
 EvO (gdB x1 true v3) fun x11=>
 EvO (gdB x1 true (zE E 22 x10 x11)) fun x12=>
 EvO (gdB x1 true (zH E 36 h x12)) fun x13=>
 Ev s (gdW x1 true (zQ (zW E) (some (.func (.func 88) #[] #[])) [x8,x13] h) h) fun x14=>
 EvO (gdB x1 true (zC E .geq 3 x14.1 (.int .i64 0))) fun x15=>
 EvO (z7 x1 x15 (some (.bool false))) fun x16=>
 BrK x16 (PI (C85 s) K 9 [] x14.2) (PI (C85 s) K 10 [v1,v3] x14.2)):PI (C85 s) K 8 [v1,v3] h:=zB H
theorem zcq (H :
 K .ret [(.bool false)] h):PI (C85 s) K 9 [] h:=zB H
theorem zUl (H :
 EvO (zC E .add 3 v3 (.int .i64 1)) fun x1=>
 PI (C85 s) K 4 [v1,x1] h):PI (C85 s) K 10 [v1,v3] h:=zB H
theorem zUk (H :
 PI (C85 s) K 12 [v1,(.int .i64 0)] h):PI (C85 s) K 11 [v1] h:=zB H
theorem zK1 (H :
 EvO (zD E 25 2 v1) fun x1=>
 EvO (zH E 23 h x1) fun x2=>
 EvO (zO E (zl [(61,x2)]) (zn B85 [1,1,1,0,1,0,0,0,0] 3) h) fun x3=>
 EvO (zC E .lss 3 v5 x3) fun x4=>
 BrK x4 (PI (C85 s) K 13 [v1,v5] h) (PI (C85 s) K 19 [] h)):PI (C85 s) K 12 [v1,v5] h:=zB H
theorem zH7:zO E (zl [(61,.slice a n c)]) (zn B85 [1,1,1,0,1,0,0,0,0] 3) h=some (.int .i64 (n:Int)):=by cases a <;> kernel_rfl
theorem zUj (H :
 EvO (zD E 25 2 v1) fun x0=>
 EvO (zH E 23 h x0) fun x1=>
 EvO (zE E 23 x1 v5) fun x3=>
 EvO (zH E 52 h x3) fun x4=>
 Ev s (zX 52 h (zAG E 52)) fun x5=>
 Ev s (ze E 52 x5.2 x5.1 x4) fun x6=>
 PI (C85 s) K 14 [v1,v5,x5.1] x6.2):PI (C85 s) K 13 [v1,v5] h:=zB H
theorem zUi (H :
 EvO (zD E 52 0 v6) fun x0=>
 EvO (zH E 3 h x0) fun x1=>
 EvO (zC E .lss 3 x1 (.int .i64 0)) fun x2=>
 EvO (gdB x2 false (zD E 52 0 v6)) fun x4=>
 EvO (gdB x2 false (zH E 3 h x4)) fun x5=>
 EvO (gdB x2 false (zD E 25 0 v1)) fun x6=>
 EvO (gdB x2 false (zH E 3 h x6)) fun x7=>
 EvO (gdB x2 false (zC E .geq 3 x5 x7)) fun x8=>
 EvO (z7 x2 (some (.bool true)) x8) fun x9=>
 EvO (gdB x9 false (zD E 52 2 v6)) fun x11=>
 EvO (gdB x9 false (zH E 3 h x11)) fun x12=>
 EvO (gdB x9 false (zC E .lss 3 x12 (.int .i64 0))) fun x13=>
 EvO (z7 x9 (some (.bool true)) x13) fun x14=>
 EvO (gdB x14 false (zD E 52 2 v6)) fun x16=>
 EvO (gdB x14 false (zH E 3 h x16)) fun x17=>
 EvO (gdB x14 false (zD E 25 0 v1)) fun x18=>
 EvO (gdB x14 false (zH E 3 h x18)) fun x19=>
 EvO (gdB x14 false (zC E .geq 3 x17 x19)) fun x20=>
 EvO (z7 x14 (some (.bool true)) x20) fun x21=>
 EvO (gdB x21 false (zD E 52 1 v6)) fun x23=>
 EvO (gdB x21 false (zH E 3 h x23)) fun x24=>
 EvO (gdB x21 false (zC E .lss 3 x24 (.int .i64 0))) fun x25=>
 EvO (z7 x21 (some (.bool true)) x25) fun x26=>
 EvO (gdB x26 false (zD E 52 1 v6)) fun x28=>
 EvO (gdB x26 false (zH E 3 h x28)) fun x29=>
 EvO (gdB x26 false (zD E 25 1 v1)) fun x30=>
 EvO (gdB x26 false (zH E 22 h x30)) fun x31=>
 EvO (gdB x26 false (zO E (zl [(102,x31)]) (zn B85 [1,1,1,0,1,0,0,1,0,0,1,0,0] 32) h)) fun x32=>
 EvO (gdB x26 false (zC E .geq 3 x29 x32)) fun x33=>
 EvO (z7 x26 (some (.bool true)) x33) fun x34=>
 BrK x34 (PI (C85 s) K 15 [] h) (PI (C85 s) K 16 [v1,v5,v6] h)):PI (C85 s) K 14 [v1,v5,v6] h:=zB H
theorem zMF:zO E (zl [(102,.slice a n c)]) (zn B85 [1,1,1,0,1,0,0,1,0,0,1,0,0] 32) h=some (.int .i64 (n:Int)):=by cases a <;> kernel_rfl
theorem zUh (H :
 K .ret [(.bool false)] h):PI (C85 s) K 15 [] h:=zB H
theorem zUg (H :
 EvO (zC E .gtr 3 v5 (.int .i64 0)) fun x1=>
 EvO (gdB x1 true (zD E 25 2 v1)) fun x3=>
 EvO (gdB x1 true (zH E 23 h x3)) fun x4=>
 EvO (gdB x1 true v5) fun x5=>
 EvO (gdB x1 true (zC E .sub 3 x5 (.int .i64 1))) fun x6=>
 EvO (gdB x1 true (zE E 23 x4 x6)) fun x7=>
 EvO (gdB x1 true (zH E 52 h x7)) fun x8=>
 EvO (gdB x1 true (zH E 52 h v6)) fun x9=>
 Ev s (gdW x1 true (zQ (zW E) (some (.func (.func 139) #[] #[])) [x8,x9] h) h) fun x10=>
 EvO (gdB x1 true (zAQ .not x10.1)) fun x11=>
 EvO (z7 x1 x11 (some (.bool false))) fun x12=>
 BrK x12 (PI (C85 s) K 17 [] x10.2) (PI (C85 s) K 18 [v1,v5] x10.2)):PI (C85 s) K 16 [v1,v5,v6] h:=zB H
theorem zUf (H :
 K .ret [(.bool false)] h):PI (C85 s) K 17 [] h:=zB H
theorem zUe (H :
 EvO (zC E .add 3 v5 (.int .i64 1)) fun x1=>
 PI (C85 s) K 12 [v1,x1] h):PI (C85 s) K 18 [v1,v5] h:=zB H
theorem zUd (H :
 K .ret [(.bool true)] h):PI (C85 s) K 19 [] h:=zB H
theorem zaJ {Rp:Value->Prop} (hok:h.ok) (H:PI (C85 true) (KR E [.tmp 2] fun x k=>(zh x=true/\Rp x)/\h.next<=k.wm) 0 [v0] h.fresh):∃ v,Rp v/\(zW E).call 85 [v0] h=some [(v,h)]:=zCy Tryz.f85 hok (zz (C85 true) H)
noncomputable def B23:Code:=zc Tryz.f23
noncomputable def C23 (s:Bool):Cx:=⟨E,s,none,B23,[([0],[0]),([1,0],[1]),([1,1,0,0],[3]),([1,1,0,1,0,0],[]),([1,1,1,0],[])],[2],[]⟩
theorem zeR (H :
 Ev s (zX 25 h v0) fun x0=>
 PI (C23 s) K 1 [x0.1] x0.2):PI (C23 s) K 0 [v0] h:=zB H
theorem zeQ (H :
 EvO (zH E 25 h v1) fun x0=>
 Ev s (zQ (zW E) (some (.func (.func 85) #[] #[])) [x0] h) fun x1=>
 PI (C23 s) K 2 [x1.1] x1.2):PI (C23 s) K 1 [v1] h:=zB H
theorem zeP (H :
 EvO (zAQ .not v3) fun x1=>
 BrK x1 (PI (C23 s) K 3 [] h) (PI (C23 s) K 4 [] h)):PI (C23 s) K 2 [v3] h:=zB H
theorem zeO (H :
 K .ret [(.int .i64 8)] h):PI (C23 s) K 3 [] h:=zB H
theorem zeN (H :
 K .ret [(.int .i64 0)] h):PI (C23 s) K 4 [] h:=zB H
theorem zaT {Rp:Value->Prop} (hok:h.ok) (H:PI (C23 true) (KR E [.tmp 2] fun x k=>(zh x=true/\Rp x)/\h.next<=k.wm) 0 [v0] h.fresh):∃ v,Rp v/\(zW E).call 23 [v0] h=some [(v,h)]:=zCy Tryz.f23 hok (zz (C23 true) H)
noncomputable def B24:Code:=zc Tryz.f24
noncomputable def C24 (s:Bool):Cx:=⟨E,s,none,B24,[([0],[0]),([1,0],[1]),([1,1,0,0],[1,3]),([1,1,0,1,0,0,0,0],[1,3,4]),([1,1,0,1,0,0,1,0,0,0],[1,3,4]),([1,1,0,1,0,0,1,0,0,1],[1,3,4,5]),([1,1,0,1,0,0,1,1],[1,3,4]),([1,1,1,0],[3])],[2],[]⟩
abbrev P24_3 (s:Bool) (K:KF) (v1 v3 v4:Value) (h:AH):Prop:=PI (C24 s) K 3 [v1,v3,v4] h
theorem zeM (H :
 Ev s (zX 25 h v0) fun x0=>
 PI (C24 s) K 1 [x0.1] x0.2):PI (C24 s) K 0 [v0] h:=zB H
theorem zeL (H :
 EvO (zD E 25 0 v1) fun x0=>
 EvO (zH E 3 h x0) fun x1=>
 Ev s (zAo E 49 x1 x1 h) fun x2=>
 PI (C24 s) K 2 [v1,x2.1] x2.2):PI (C24 s) K 1 [v1] h:=zB H
theorem zeK (H :
 PI (C24 s) K 3 [v1,v3,(.int .i64 0)] h):PI (C24 s) K 2 [v1,v3] h:=zB H
theorem zOp (H :
 EvO (zD E 25 2 v1) fun x1=>
 EvO (zH E 23 h x1) fun x2=>
 EvO (zO E (zl [(11,x2)]) (zn B24 [1,1,0,1,0,0,0,0] 3) h) fun x3=>
 EvO (zC E .lss 3 v4 x3) fun x4=>
 BrK x4 (PI (C24 s) K 4 [v1,v3,v4] h) (PI (C24 s) K 7 [v3] h)):PI (C24 s) K 3 [v1,v3,v4] h:=zB H
theorem zKW:zO E (zl [(11,.slice a n c)]) (zn B24 [1,1,0,1,0,0,0,0] 3) h=some (.int .i64 (n:Int)):=by cases a <;> kernel_rfl
theorem zeJ (H :
 EvO (zD E 25 2 v1) fun x0=>
 EvO (zH E 23 h x0) fun x1=>
 EvO (zE E 23 x1 v4) fun x3=>
 EvO (zH E 52 h x3) fun x4=>
 Ev s (zX 52 h (zAG E 52)) fun x5=>
 Ev s (ze E 52 x5.2 x5.1 x4) fun x6=>
 PI (C24 s) K 5 [v1,v3,v4,x5.1] x6.2):PI (C24 s) K 4 [v1,v3,v4] h:=zB H
theorem zeI (H :
 EvO (zD E 52 0 v5) fun x1=>
 EvO (zH E 3 h x1) fun x2=>
 EvO (zD E 52 0 v5) fun x4=>
 EvO (zH E 3 h x4) fun x5=>
 EvO (zE E 49 v3 x5) fun x6=>
 EvO (zH E 23 h x6) fun x7=>
 EvO (zH E 52 h v5) fun x8=>
 Ev s (zf E 23 1 (some [(0,x8)]) h) fun x9=>
 EvO (zH E 23 x9.2 x6) fun u9_7=>veq 100 u9_7 x7=true ∧
 (EvO (zH E 3 x9.2 x4) fun u9_5=>veq 100 u9_5 x5=true ∧
 (EvO (zH E 3 x9.2 x1) fun u9_2=>veq 100 u9_2 x2=true ∧
 (Ev s (zAD E .append [23,23] [x7,x9.1] x9.2) fun x10=>
 EvO (zH E 3 x10.2 x1) fun u10_2=>veq 100 u10_2 x2=true ∧
 (EvO (zE E 49 v3 x2) fun x11=>
 Ev s (ze E 23 x10.2 x11 x10.1) fun x12=>
 PI (C24 s) K 6 [v1,v3,v4] x12.2))))):PI (C24 s) K 5 [v1,v3,v4,v5] h:=zB H
theorem zeH (H :
 EvO (zC E .add 3 v4 (.int .i64 1)) fun x1=>
 PI (C24 s) K 3 [v1,v3,x1] h):PI (C24 s) K 6 [v1,v3,v4] h:=zB H
theorem zeG (H :
 K .ret [v3] h):PI (C24 s) K 7 [v3] h:=zB H
theorem zfB (H:PI (C24 true) (KR E [.tmp 2] fun x k=>(zh x=false\/k.wm<h.next)/\Rp x ⟨k.t,k.next,cond (Nat.ble h.wm k.wm) h.wm k.wm⟩) 0 [v0] h.fresh):Ev true ((zW E).call 24 [v0] h) fun x=>Rp x.1 x.2:=zFb Tryz.f24 (zz (C24 true) H)
noncomputable def B27:Code:=zc Tryz.f27
noncomputable def C27 (s:Bool):Cx:=⟨E,s,none,B27,[([0],[0,1]),([1,0],[0,1])],[4],[]⟩
theorem zeC (H :
 PI (C27 s) K 1 [v0,v1] h):PI (C27 s) K 0 [v0,v1] h:=zB H
theorem zeB (H :
 Ev s (zQ (zW E) (some (.func (.func 87) #[] #[])) [v0,v1] h) fun x2=>
 EvO (zC E .geq 3 x2.1 (.int .i64 0)) fun x3=>
 K .ret [x3] x2.2):PI (C27 s) K 1 [v0,v1] h:=zB H
theorem ze8 (hok:h.ok) (hv:zg v=true) (H:PI (C27 s) (KR E [.tmp 4] fun x k=>x=v/\h.next<=k.wm) 0 [v0,v1] h.fresh):(zW E).call 27 [v0,v1] h=some [(v,h)]:=zAh Tryz.f27 hok hv (zz (C27 s) H)
noncomputable def B87:Code:=zc Tryz.f87
noncomputable def C87 (s:Bool):Cx:=⟨E,s,none,B87,[([0],[0,1]),([1,0,0],[0,1]),([1,0,1,0,0,0],[0,1,7,8]),([1,0,1,0,0,1,1,0,0,0],[0,1,7,8]),([1,0,1,0,0,1,1,0,0,1,0],[0,1,5,7,8]),([1,0,1,0,0,1,1,0,0,1,1,0,0],[5]),([1,0,1,0,0,1,1,1],[0,1,7,8]),([1,1,0],[])],[4],[]⟩
abbrev P87_2 (s:Bool) (K:KF) (v0 v1 v7 v8:Value) (h:AH):Prop:=PI (C87 s) K 2 [v0,v1,v7,v8] h
theorem zci (H :
 PI (C87 s) K 1 [v0,v1] h):PI (C87 s) K 0 [v0,v1] h:=zB H
theorem zch (H :
 EvO (zO E (zl [(6,v0)]) (zn B87 [1,0,0] 1) h) fun x1=>
 PI (C87 s) K 2 [v0,v1,x1,(.int .i64 0)] h):PI (C87 s) K 1 [v0,v1] h:=zB H
theorem zSM:zO E (zl [(6,.slice a n c)]) (zn B87 [1,0,0] 1) h=some (.int .i64 (n:Int)):=by cases a <;> kernel_rfl
theorem zOP (H :
 EvO (zC E .lss 3 v8 v7) fun x0=>
 BrK x0 (PI (C87 s) K 3 [v0,v1,v7,v8] h) (PI (C87 s) K 7 [] h)):PI (C87 s) K 2 [v0,v1,v7,v8] h:=zB H
theorem zcg (H :
 PI (C87 s) K 4 [v0,v1,v8,v7,v8] h):PI (C87 s) K 3 [v0,v1,v7,v8] h:=zB H
theorem zcf (H :
 EvO (zE E 47 v0 v5) fun x3=>
 EvO (zH E 3 h x3) fun x4=>
 EvO (zC E .eql 3 v1 x4) fun x5=>
 BrK x5 (PI (C87 s) K 5 [v5] h) (PI (C87 s) K 6 [v0,v1,v7,v8] h)):PI (C87 s) K 4 [v0,v1,v5,v7,v8] h:=zB H
theorem zce (H :
 K .ret [v5] h):PI (C87 s) K 5 [v5] h:=zB H
theorem zcd (H :
 EvO (zC E .add 3 v8 (.int .i64 1)) fun x0=>
 PI (C87 s) K 2 [v0,v1,v7,x0] h):PI (C87 s) K 6 [v0,v1,v7,v8] h:=zB H
theorem zcc (H :
 K .ret [(.int .i64 (-1))] h):PI (C87 s) K 7 [] h:=zB H
theorem zes (hok:h.ok) (hv:zg v=true) (H:PI (C87 s) (KR E [.tmp 4] fun x k=>x=v/\h.next<=k.wm) 0 [v0,v1] h.fresh):(zW E).call 87 [v0,v1] h=some [(v,h)]:=zAh Tryz.f87 hok hv (zz (C87 s) H)
noncomputable def B19:Code:=zc Tryz.f19
noncomputable def C19 (s:Bool):Cx:=⟨E,s,none,B19,[([0],[0]),([1,0],[0])],[2],[]⟩
theorem zeT (H :
 PI (C19 s) K 1 [v0] h):PI (C19 s) K 0 [v0] h:=zB H
theorem zeS (H :
 Ev s (zQ (zW E) (some (.func (.func 74) #[] #[])) (some [v0,(.func (.func 75) #[] #[])]) h) fun x1=>
 EvO (zAQ .not x1.1) fun x2=>
 K .ret [x2] x1.2):PI (C19 s) K 1 [v0] h:=zB H
theorem zfC (hok:h.ok) (hv:zg v=true) (H:PI (C19 s) (KR E [.tmp 2] fun x k=>x=v/\h.next<=k.wm) 0 [v0] h.fresh):(zW E).call 19 [v0] h=some [(v,h)]:=zAh Tryz.f19 hok hv (zz (C19 s) H)
noncomputable def B74:Code:=zc Tryz.f74
noncomputable def C74 (s:Bool):Cx:=⟨E,s,none,B74,[([0],[0,1]),([1,0],[0,1])],[4],[]⟩
theorem zc7 (H :
 PI (C74 s) K 1 [v0,v1] h):PI (C74 s) K 0 [v0,v1] h:=zB H
theorem zc6 (H :
 Ev s (zQ (zW E) (some (.func (.func 126) #[] #[])) [v0,v1] h) fun x2=>
 EvO (zC E .geq 3 x2.1 (.int .i64 0)) fun x3=>
 K .ret [x3] x2.2):PI (C74 s) K 1 [v0,v1] h:=zB H
theorem zev (hok:h.ok) (hv:zg v=true) (H:PI (C74 s) (KR E [.tmp 4] fun x k=>x=v/\h.next<=k.wm) 0 [v0,v1] h.fresh):(zW E).call 74 [v0,v1] h=some [(v,h)]:=zAh Tryz.f74 hok hv (zz (C74 s) H)
noncomputable def B75:Code:=zc Tryz.f75
noncomputable def C75 (s:Bool):Cx:=⟨E,s,none,B75,[([0],[0]),([1,0],[1])],[2],[]⟩
theorem zc5 (H :
 Ev s (zX 32 h v0) fun x0=>
 PI (C75 s) K 1 [x0.1] x0.2):PI (C75 s) K 0 [v0] h:=zB H
theorem zc4 (H :
 EvO (zD E 32 1 v1) fun x0=>
 EvO (zH E 26 h x0) fun x1=>
 EvO (zO E (zl [(4,x1)]) (zn B75 [1,0] 2) h) fun x2=>
 EvO (zC E .gtr 3 x2 (.int .i64 4000)) fun x3=>
 K .ret [x3] h):PI (C75 s) K 1 [v1] h:=zB H
theorem zSO:zO E (zl [(4,.slice a n c)]) (zn B75 [1,0] 2) h=some (.int .i64 (n:Int)):=by cases a <;> kernel_rfl
theorem zeu (hok:h.ok) (hv:zg v=true) (H:PI (C75 s) (KR E [.tmp 2] fun x k=>x=v/\h.next<=k.wm) 0 [v0] h.fresh):(zW E).call 75 [v0] h=some [(v,h)]:=zAh Tryz.f75 hok hv (zz (C75 s) H)
noncomputable def B126:Code:=zc Tryz.f126
noncomputable def zJq (s:Bool):Cx:=⟨E,s,none,B126,[([0],[0,1]),([1,0,0],[0,1]),([1,0,1,0,0,0],[0,1,7,8]),([1,0,1,0,0,1,1,0,0,0],[0,1,7,8]),([1,0,1,0,0,1,1,0,0,1,0],[0,1,5,7,8]),([1,0,1,0,0,1,1,0,0,1,1,0,0],[5]),([1,0,1,0,0,1,1,1],[0,1,7,8]),([1,1,0],[])],[4],[]⟩
abbrev P126_2 (s:Bool) (K:KF) (v0 v1 v7 v8:Value) (h:AH):Prop:=PI (zJq s) K 2 [v0,v1,v7,v8] h
theorem zZm (H :
 PI (zJq s) K 1 [v0,v1] h):PI (zJq s) K 0 [v0,v1] h:=zB H
theorem zZl (H :
 EvO (zO E (zl [(6,v0)]) (zn B126 [1,0,0] 1) h) fun x1=>
 PI (zJq s) K 2 [v0,v1,x1,(.int .i64 0)] h):PI (zJq s) K 1 [v0,v1] h:=zB H
theorem zPc:zO E (zl [(6,.slice a n c)]) (zn B126 [1,0,0] 1) h=some (.int .i64 (n:Int)):=by cases a <;> kernel_rfl
theorem zLg (H :
 EvO (zC E .lss 3 v8 v7) fun x0=>
 BrK x0 (PI (zJq s) K 3 [v0,v1,v7,v8] h) (PI (zJq s) K 7 [] h)):PI (zJq s) K 2 [v0,v1,v7,v8] h:=zB H
theorem zZk (H :
 PI (zJq s) K 4 [v0,v1,v8,v7,v8] h):PI (zJq s) K 3 [v0,v1,v7,v8] h:=zB H
theorem zZj (H :
 EvO (zE E 83 v0 v5) fun x3=>
 EvO (zH E 32 h x3) fun x4=>
 Ev s (zQ (zW E) v1 [x4] h) fun x5=>
 BrK x5.1 (PI (zJq s) K 5 [v5] x5.2) (PI (zJq s) K 6 [v0,v1,v7,v8] x5.2)):PI (zJq s) K 4 [v0,v1,v5,v7,v8] h:=zB H
theorem zZi (H :
 K .ret [v5] h):PI (zJq s) K 5 [v5] h:=zB H
theorem zZh (H :
 EvO (zC E .add 3 v8 (.int .i64 1)) fun x0=>
 PI (zJq s) K 2 [v0,v1,v7,x0] h):PI (zJq s) K 6 [v0,v1,v7,v8] h:=zB H
theorem zZg (H :
 K .ret [(.int .i64 (-1))] h):PI (zJq s) K 7 [] h:=zB H
theorem za5 (hok:h.ok) (hv:zg v=true) (H:PI (zJq s) (KR E [.tmp 4] fun x k=>x=v/\h.next<=k.wm) 0 [v0,v1] h.fresh):(zW E).call 126 [v0,v1] h=some [(v,h)]:=zAh Tryz.f126 hok hv (zz (zJq s) H)
noncomputable def B86:Code:=zc Tryz.f86
noncomputable def C86 (s:Bool):Cx:=⟨E,s,none,B86,[([0],[0,1]),([1,0,0],[0,3]),([1,0,1,0,0,0],[0,3,7,8]),([1,0,1,0,0,1,1,0,0,0],[0,3,7,8]),([1,0,1,0,0,1,1,0,0,1,0],[0,3,5,7,8]),([1,0,1,0,0,1,1,0,0,1,1,0,0],[5]),([1,0,1,0,0,1,1,1],[0,3,7,8]),([1,1,0],[])],[4],[]⟩
abbrev P86_2 (s:Bool) (K:KF) (v0 v3 v7 v8:Value) (h:AH):Prop:=PI (C86 s) K 2 [v0,v3,v7,v8] h
theorem zcp (H :
 Ev s (zX 54 h v1) fun x0=>
 PI (C86 s) K 1 [v0,x0.1] x0.2):PI (C86 s) K 0 [v0,v1] h:=zB H
theorem zco (H :
 EvO (zO E (zl [(6,v0)]) (zn B86 [1,0,0] 1) h) fun x1=>
 PI (C86 s) K 2 [v0,v3,x1,(.int .i64 0)] h):PI (C86 s) K 1 [v0,v3] h:=zB H
theorem zSN:zO E (zl [(6,.slice a n c)]) (zn B86 [1,0,0] 1) h=some (.int .i64 (n:Int)):=by cases a <;> kernel_rfl
theorem zOQ (H :
 EvO (zC E .lss 3 v8 v7) fun x0=>
 BrK x0 (PI (C86 s) K 3 [v0,v3,v7,v8] h) (PI (C86 s) K 7 [] h)):PI (C86 s) K 2 [v0,v3,v7,v8] h:=zB H
theorem zcn (H :
 PI (C86 s) K 4 [v0,v3,v8,v7,v8] h):PI (C86 s) K 3 [v0,v3,v7,v8] h:=zB H
theorem zcm (H :
 EvO (zH E 54 h v3) fun x0=>
 EvO (zE E 26 v0 v5) fun x3=>
 EvO (zH E 54 h x3) fun x4=>
 EvO (zC E .eql 54 x0 x4) fun x5=>
 BrK x5 (PI (C86 s) K 5 [v5] h) (PI (C86 s) K 6 [v0,v3,v7,v8] h)):PI (C86 s) K 4 [v0,v3,v5,v7,v8] h:=zB H
theorem zcl (H :
 K .ret [v5] h):PI (C86 s) K 5 [v5] h:=zB H
theorem zck (H :
 EvO (zC E .add 3 v8 (.int .i64 1)) fun x0=>
 PI (C86 s) K 2 [v0,v3,v7,x0] h):PI (C86 s) K 6 [v0,v3,v7,v8] h:=zB H
theorem zcj (H :
 K .ret [(.int .i64 (-1))] h):PI (C86 s) K 7 [] h:=zB H
theorem zet (hok:h.ok) (hv:zg v=true) (H:PI (C86 s) (KR E [.tmp 4] fun x k=>x=v/\h.next<=k.wm) 0 [v0,v1] h.fresh):(zW E).call 86 [v0,v1] h=some [(v,h)]:=zAh Tryz.f86 hok hv (zz (C86 s) H)
noncomputable def B26:Code:=zc Tryz.f26
noncomputable def C26 (s:Bool):Cx:=⟨E,s,none,B26,[([0],[0,1]),([1,0],[0,3])],[4],[]⟩
theorem zeE (H :
 Ev s (zX 54 h v1) fun x0=>
 PI (C26 s) K 1 [v0,x0.1] x0.2):PI (C26 s) K 0 [v0,v1] h:=zB H
theorem zeD (H :
 EvO (zH E 54 h v3) fun x1=>
 Ev s (zQ (zW E) (some (.func (.func 86) #[] #[])) [v0,x1] h) fun x2=>
 EvO (zC E .geq 3 x2.1 (.int .i64 0)) fun x3=>
 K .ret [x3] x2.2):PI (C26 s) K 1 [v0,v3] h:=zB H
theorem ze9 (hok:h.ok) (hv:zg v=true) (H:PI (C26 s) (KR E [.tmp 4] fun x k=>x=v/\h.next<=k.wm) 0 [v0,v1] h.fresh):(zW E).call 26 [v0,v1] h=some [(v,h)]:=zAh Tryz.f26 hok hv (zz (C26 s) H)
noncomputable def B25:Code:=zc Tryz.f25
noncomputable def C25 (s:Bool):Cx:=⟨E,s,none,B25,[([0],[0,1,2,3]),([1,0],[0,3])],[],[]⟩
theorem zOo (H :
 EvO (zD E 32 1 v1) fun x0=>
 EvO (zH E 26 h x0) fun x1=>
 EvO (zD E 52 2 v2) fun x2=>
 EvO (zH E 3 h x2) fun x3=>
 EvO (zAi E 54 (some [(0,x3),(1,v0)])) fun x5=>
 Ev s (zQ (zW E) (some (.func (.func 26) #[] #[])) [x1,x5] h) fun x6=>
 EvO (gdB x6.1 true (zH E 47 x6.2 v3)) fun x8=>
 EvO (gdB x6.1 true v0) fun x9=>
 Ev s (gdW x6.1 true (zQ (zW E) (some (.func (.func 27) #[] #[])) [x8,x9] x6.2) x6.2) fun x10=>
 EvO (gdB x6.1 true (zAQ .not x10.1)) fun x11=>
 EvO (z7 x6.1 x11 (some (.bool false))) fun x12=>
 BrK x12 (PI (C25 s) K 1 [v0,v3] x10.2) (K .normal [] x10.2)):PI (C25 s) K 0 [v0,v1,v2,v3] h:=zB H
theorem zeF (H :
 EvO (zH E 47 h v3) fun x0=>
 Ev s (zf E 47 1 (some [(0,v0)]) h) fun x2=>
 Ev s (zAD E .append [47,47] [x0,x2.1] x2.2) fun x3=>
 Ev s (ze E 47 x3.2 v3 x3.1) fun x4=>
 K .normal [] x4.2):PI (C25 s) K 1 [v0,v3] h:=zB H
theorem zaO (hok:h.ok) (hv:zh v=true) (H:PI (C25 true) (KR E [] fun x k=>x=v/\h.next<=k.wm) 0 [v0,v1,v2,v3] h.fresh):(zW E).call 25 [v0,v1,v2,v3] h=some [(v,h)]:=zGD Tryz.f25 hok hv (zz (C25 true) H)
theorem zfA (H:PI (C25 true) (KR E [] fun x k=>(zh x=false\/k.wm<h.next)/\Rp x ⟨k.t,k.next,cond (Nat.ble h.wm k.wm) h.wm k.wm⟩) 0 [v0,v1,v2,v3] h.fresh):Ev true ((zW E).call 25 [v0,v1,v2,v3] h) fun x=>Rp x.1 x.2:=zFb Tryz.f25 (zz (C25 true) H)
end Go.Proofs
namespace Go.Proofs
open Go Go.AM
set_option maxRecDepth 100000
theorem nwF (k:AH) (x:AObj):∃ m,k.fresh.new x=m/\m.next=k.next+1/\m.get k.next=some x/\Own k m/\∀ b,b<k.next->m.get b=k.get b:=
 ⟨_,rfl,rfl,zI k.fresh x,(Own.fresh k).new x,fun b hb=>by rw [zK (by simp;omega)];rfl⟩
theorem nw {k l:AH} (o:Own k l) (x:AObj):∃ m,l.new x=m/\m.next=l.next+1/\m.get l.next=some x/\Own k m/\∀ b,b<l.next->m.get b=l.get b:=
 ⟨_,rfl,rfl,zI l x,o.new x,fun b hb=>zK (by omega)⟩
theorem zHE {T et z:Nat} (hT:und E T=some (.slice et)) (hz:zAV E et=some z) (hta:tAS E et=some (true,z)) {h k:AH} {v:Value} {els:List (List Value)} (ha:Arr h z v els) (e:Ext h k) {i:Nat} {x:List Value} (hi:els[i]?=some x) :
  ∃ p,zE E T (some v) (some (.int .i64 (i:Int)))=some p/\zH E et k (some p)=some (.agg ⟨x⟩):=by
 obtain ⟨b,o,c,vs,ty,es,ro,rfl,hb,hlt,hle,hx,hl⟩:=ha.load hi
 have hil:i<els.length:=(List.getElem?_eq_some_iff.1 hi).1
 refine ⟨_,zAO hT hz hil,?_⟩
 rw [za hta ((e.get b hlt).trans hb) hle,hx]
theorem zKa {h k:AH} {v:Value} {els:List (List Value)} (ha:Arr h 3 v els) (e:Ext h k) {i:Nat} {x:List Value} (hi:els[i]?=some x) :
  ∃ p,zE E 34 (some v) (some (.int .i64 (i:Int)))=some p/\zH E 173 k (some p)=some (.agg ⟨x⟩):=zHE zRT zJw zB9 ha e hi
theorem idx22 {h k:AH} {v:Value} {els:List (List Value)} (ha:Arr h 2 v els) (e:Ext h k) {i:Nat} {x:List Value} (hi:els[i]?=some x) :
  ∃ p,zE E 22 (some v) (some (.int .i64 (i:Int)))=some p/\zH E 36 k (some p)=some (.agg ⟨x⟩):=zHE zHt zbQ zEO ha e hi
theorem zbj {h k:AH} {v:Value} {els:List (List Value)} (ha:Arr h 3 v els) (e:Ext h k) {i:Nat} {x:List Value} (hi:els[i]?=some x) :
  ∃ p,zE E 23 (some v) (some (.int .i64 (i:Int)))=some p/\zH E 52 k (some p)=some (.agg ⟨x⟩):=zHE zNK ts_52 zJz ha e hi
def zNZ (a b:Int):Int:=if a<b then -1 else if b<a then 1 else 0
theorem zMw {k:AH} {a b:Int} (hok:k.ok):(zW E).call 232 [.int .i64 a,.int .i64 b] k=some [(.int .i64 (zNZ a b),k)]:=by
 refine zaV (s:=true) hok rfl (zWB ?_)
 refine zWA ?_
 simp only [zA,zY,zAA]
 refine ⟨fun h1=>zV9 ?_,fun h1=>zV8 ?_⟩
 ·simp [zA,zAJ,zT,zNZ,h1]
 simp only [zA,zAH,zAA]
 refine ⟨fun h2=>zV7 ?_,fun h2=>zV6 ?_⟩
 ·simp [zA,zAJ,zT,zNZ,h1,h2]
 ·simp [zA,zAJ,zT,zNZ,h1,h2]
mutual
def cmpR:GT->GT->Int
 | .mk k n l,.mk k' n' l'=>if zNZ k k'=0 then (if zNZ n n'=0 then (if zNZ l.length l'.length=0 then zPl l l' else zNZ l.length l'.length) else zNZ n n') else zNZ k k'
def zPl:List GT->List GT->Int
 | t::ts,u::us=>if cmpR t u=0 then zPl ts us else cmpR t u
 | [],_=>0
 | _::_,[]=>0
end
def zTt (h0:AH) (kk nn:Int) (v:Value) (l:List GT):Prop:=∀ (k:AH) (kk' nn':Int) (v':Value) (l':List GT),RT h0 v' l'->Ext h0 k->
 (zW E).call 188 [.agg #[.int .i64 kk,.int .i64 nn,v],.agg #[.int .i64 kk',.int .i64 nn',v']] k=some [(.int .i64 (cmpR (.mk kk nn l) (.mk kk' nn' l')),k)]
theorem zNY {a b:Nat} (h:zNZ (a:Int) (b:Int)=0):a=b:=by
 unfold zNZ at h
 split at h
 ·cases h
 ·split at h
  ·cases h
  ·omega
mutual
theorem spec188 {h0:AH}:∀ {v:Value} {l:List GT},RT h0 v l->∀ (kk nn:Int),zTt h0 kk nn v l
 | v,l,.mk (els:=els) ha hn hc,kk,nn=>by
  intro k kk' nn' v' l' hr' hk
  have hrt:RT h0 v l:=.mk ha hn hc
  have hch:=zI3 hc
  have hlen:=RC.length hc
  obtain ⟨sa,sc,rfl⟩:=hrt.slice
  obtain ⟨sa',sc',rfl⟩:=hr'.slice
  refine zah (s:=true) hk.ok rfl (zXa ?_)
  obtain ⟨k1,e1,n1,t1,o1,f1⟩:=nwF k (.row [.int .i64 kk,.int .i64 nn,.slice sa l.length sc] 173 0 false)
  obtain ⟨k2,e2,n2,t2,o2,f2⟩:=nw o1 (.row [.int .i64 kk',.int .i64 nn',.slice sa' l'.length sc'] 173 0 false)
  simp only [zd,zL,zV,zA,e1,e2,zZ]
  have g1:=(f2 k.next (by omega)).trans t1
  have l0:=zF (P:=E) zAS (o:=0) g1
  have l1:=zF (P:=E) zAS (o:=1) g1
  have l2:=zF (P:=E) zDP (o:=2) g1
  have m0:=zF (P:=E) zAS (o:=0) t2
  have m1:=zF (P:=E) zAS (o:=1) t2
  have m2:=zF (P:=E) zDP (o:=2) t2
  simp only [lnth] at l0 l1 l2 m0 m1 m2
  have ex2:=hk.trans o2.ext
  have stop:∀ c:Int,P188_10 true (KR E [.tmp 4] fun x m=>x=.int .i64 c/\k.next<=m.wm) (.int .i64 c) k2:=by
   intro c
   refine zP6 ?_
   simp only [zA,zAJ,zT,true_and];exact o2.wm
  have quit:∀ (c i:Int),c≠0->P188_7 true (KR E [.tmp 4] fun x m=>x=.int .i64 c/\k.next<=m.wm) (.pointer (some ⟨k.next,0,none⟩)) (.pointer (some ⟨k1.next,0,none⟩)) (.int .i64 c) (.int .i64 i) k2:=by
   intro c i hc0
   refine zHX ?_
   simp only [zAY,Nat.zero_add,l2,zA,zFj,zY,zM,zAZ,hc0,decide_false]
   by_cases hi:i<(l.length:Int)
   ·simp only [hi,decide_true,beq_self_eq_true,cond_true,zA,zJ,zM,zAZ,hc0,decide_false,zk];exact stop c
   ·simp only [hi,decide_false,show (false==true)=false from rfl,cond_false,zA,zJ,zk];exact stop c
  have loop:∀ (m i:Nat),i+m=l.length->l.length=l'.length->P188_7 true (KR E [.tmp 4] fun x m=>x=.int .i64 (zPl (l.drop i) (l'.drop i))/\k.next<=m.wm) (.pointer (some ⟨k.next,0,none⟩)) (.pointer (some ⟨k1.next,0,none⟩)) (.int .i64 0) (.int .i64 (i:Int)) k2:=by
   intro m
   induction m with
   | zero=>
    intro i hi hl
    have:l.drop i=[]:=List.drop_eq_nil_of_le (by omega)
    rw [this]
    refine zHX ?_
    simp only [zAY,Nat.zero_add,l2,zA,zFj,zY,show decide ((i:Int)<(l.length:Int))=false from decide_eq_false (by omega),zM,show (false==true)=false from rfl,cond_false,zJ,zk]
    exact stop 0
   | succ m ih=>
    intro i hi hl
    have hil:i<l.length:=by omega
    have hil':i<l'.length:=by omega
    refine zHX ?_
    simp only [zAY,Nat.zero_add,l2,zA,zFj,zY,show decide ((i:Int)<(l.length:Int))=true from decide_eq_true (by omega),zM,beq_self_eq_true,cond_true,zAZ,decide_true,zJ,zu]
    refine zXV ?_
    cases hr' with
    | @mk _ els' _ ha' hn' hc'=>
     have hlen':=RC.length hc'
     obtain ⟨x,hx⟩:∃ x,els[i]?=some x:=⟨_,List.getElem?_eq_getElem (by omega)⟩
     obtain ⟨y,hy⟩:∃ y,els'[i]?=some y:=⟨_,List.getElem?_eq_getElem (by omega)⟩
     obtain ⟨p1,q1,w1⟩:=zKa ha ex2 hx
     obtain ⟨p2,q2,w2⟩:=zKa ha' ex2 hy
     obtain ⟨ck,cn,cv,cl,rfl,r1,r2,r3⟩:=hch i x hx
     obtain ⟨dk,dn,dv,dl,rfl,s1,s2⟩:=RC.at hc' i y hy
     have hcall:=r3 k2 dk dn dv dl s1 ex2
     have e3:l.drop i=GT.mk ck cn cl::l.drop (i+1):=by rw [List.drop_eq_getElem_cons hil,(List.getElem?_eq_some_iff.1 r2).2]
     have e4:l'.drop i=GT.mk dk dn dl::l'.drop (i+1):=by rw [List.drop_eq_getElem_cons hil',(List.getElem?_eq_some_iff.1 s2).2]
     simp only [zAY,Nat.zero_add,l2,m2,zA,q1,w1,q2,w2,zS,hcall,zN]
     refine zXU ?_
     simp only [zA,zAM _ (zD7 hil (by omega))]
     rw [e3,e4]
     simp only [zPl]
     by_cases hz:cmpR (GT.mk ck cn cl) (GT.mk dk dn dl)=0
     ·rw [if_pos hz,hz];exact ih (i+1) (by omega) hl
     ·rw [if_neg hz];exact quit _ _ hz
  refine zXZ ?_
  simp only [zFN,Nat.add_zero,l0,m0,zA,zS,zMw o2.ext.ok,zN]
  refine zXY ?_
  simp only [zA,zAZ,zAA,cmpR]
  refine ⟨fun h1=>?_,fun h1=>?_⟩
  rotate_left
  ·rw [if_neg h1]
   refine zLJ ?_
   simp only [zA,zAZ,h1,decide_false,zk]
   refine zHY ?_
   exact quit _ _ h1
  rw [if_pos h1]
  refine zXX ?_
  simp only [zFM,Nat.zero_add,l1,m1,zA,zS,zMw o2.ext.ok,zN]
  refine zLJ ?_
  simp only [zA,zAZ,zAA]
  refine ⟨fun h2=>?_,fun h2=>?_⟩
  rotate_left
  ·rw [if_neg h2]
   refine zHY ?_
   exact quit _ _ h2
  rw [if_pos h2]
  refine zXW ?_
  simp only [zAY,Nat.zero_add,l2,m2,zA,zPW,zPV,zS,zMw o2.ext.ok,zN]
  refine zHY ?_
  by_cases h3:zNZ (l.length:Int) (l'.length:Int)=0
  ·rw [if_pos h3,h3]
   have:=loop l.length 0 (by omega) (zNY h3)
   simpa using this
  ·rw [if_neg h3];exact quit _ _ h3
theorem zI3 {h0:AH}:∀ {els:List (List Value)} {ts:List GT},RC h0 els ts->∀ (i:Nat) (e:List Value),els[i]?=some e->
  ∃ (k n:Int) (v:Value) (l:List GT),e=[.int .i64 k,.int .i64 n,v]/\RT h0 v l/\ts[i]?=some (.mk k n l)/\zTt h0 k n v l
 | _,_,.nil,i,e,h=>by simp at h
 | _,_,.cons hv hs,0,e,h=>by simp at h;exact ⟨_,_,_,_,h.symm,hv,rfl,spec188 hv _ _⟩
 | _,_,.cons hv hs,i+1,e,h=>by
  simp only [List.getElem?_cons_succ] at h
  obtain ⟨k,n,v,l,a,b,c,d⟩:=zI3 hs i e h
  exact ⟨k,n,v,l,a,b,by simpa using c,d⟩
end
theorem ordI_c3 (a b:Int):zNZ a b=c3 a b:=rfl
mutual
theorem zTB:∀ t u:GT,cmpR t u=zJZ t u
 | .mk k n l,.mk k' n' l'=>by
  have h:=zN6 l l'
  simp only [cmpR,zJZ,orI,ordI_c3]
  by_cases h1:c3 k k'=0
  ·by_cases h2:c3 n n'=0
   ·by_cases h3:c3 (l.length:Int) (l'.length:Int)=0
    ·simp [h1,h2,h3,h (zNY h3)]
    ·simp [h1,h2,h3]
   ·simp [h1,h2]
  ·simp [h1]
theorem zN6:∀ l l':List GT,l.length=l'.length->zPl l l'=zDs l l'
 | [],[],_=>rfl
 | t::ts,u::us,h=>by
  simp only [zPl,zDs,zTB t u,zN6 ts us (by simpa using h)]
  by_cases e:zJZ t u=0 <;> simp [e]
 | [],_::_,h=>by simp at h
 | _::_,[],h=>by simp at h
end
theorem zN8 {l l':List GT} {i:Nat} (h1:i<=l.length) (h2:i<=l'.length) (h:i=l.length\/i=l'.length):zDs (l.drop i) (l'.drop i)=c3 l.length l'.length:=by
 cases e:l.drop i with
 | nil=>
  have e1:l.length<=i:=by simpa using e
  cases e':l'.drop i with
  | nil=>
   have e2:l'.length<=i:=by simpa using e'
   have:l.length=l'.length:=by omega
   simp [zDs,c3,this]
  | cons y ys=>
   have e2:i<l'.length:=by
    rcases Nat.lt_or_ge i l'.length with h|h
    ·exact h
    ·rw [List.drop_eq_nil_of_le h] at e';cases e'
   simp only [zDs,c3]
   rw [if_pos (by omega)]
 | cons x xs=>
  have e1:i<l.length:=by
   rcases Nat.lt_or_ge i l.length with h|h
   ·exact h
   ·rw [List.drop_eq_nil_of_le h] at e;cases e
  have e2:l'.drop i=[]:=List.drop_eq_nil_of_le (by omega)
  rw [e2]
  simp only [zDs,c3]
  rw [if_neg (by omega),if_pos (by omega)]
theorem lab_or (g:Int) (l:List GT) (g':Int) (l':List GT):zCM g l g' l'=if c3 g g'=0 then zDs l l' else c3 g g':=by
 simp only [zCM,orI]
 by_cases h:c3 g g'=0 <;> by_cases h2:zDs l l'=0 <;> simp [h,h2]
theorem zbU {h0 k:AH} {e e':List Value} {els els':List (List Value)} {ts ts':List GT} (hc:RC h0 els ts) (hc':RC h0 els' ts') {i:Nat} (he:els[i]?=some e) (he':els'[i]?=some e') (hk:Ext h0 k) :
  ∃ t u,ts[i]?=some t/\ts'[i]?=some u/\(zW E).call 188 [.agg ⟨e⟩,.agg ⟨e'⟩] k=some [(.int .i64 (zJZ t u),k)]:=by
 obtain ⟨ck,cn,cv,cl,rfl,r1,r2,r3⟩:=zI3 hc i e he
 obtain ⟨dk,dn,dv,dl,rfl,s1,s2⟩:=RC.at hc' i e' he'
 exact ⟨_,_,r2,s2,by rw [← zTB];exact r3 k dk dn dv dl s1 hk⟩
theorem call140 {h0 k:AH} {v v':Value} {l l':List GT} (hr:RT h0 v l) (hr':RT h0 v' l') (hk:Ext h0 k):(zW E).call 140 [v,v'] k=some [(.int .i64 (zDs l l'),k)]:=by
 have hs:=hr.slice
 have hs':=hr'.slice
 cases hr with
 | @mk _ els _ ha hn hc=>
 cases hr' with
 | @mk _ els' _ ha' hn' hc'=>
 have hlen:=RC.length hc
 have hlen':=RC.length hc'
 obtain ⟨sa,sc,rfl⟩:=hs
 obtain ⟨sa',sc',rfl⟩:=hs'
 refine za1 (s:=true) hk.ok rfl (zZO ?_)
 refine zZN ?_
 have hkf:=hk.fresh
 have fin:c3 l.length l'.length=zDs l l'->P140_7 true (KR E [.tmp 2] fun x m=>x=.int .i64 (zDs l l')/\k.next<=m.wm) (.slice sa l.length sc) (.slice sa' l'.length sc') k.fresh:=by
  intro hc
  refine zZI ?_
  simp only [zA,zPa,zPZ,zS,zHP hkf.ok,zN,zAJ,zT,true_and]
  exact ⟨congrArg (Value.int .i64) hc,by rw [zA4];omega⟩
 have loop:∀ (m i:Nat),i+m=l.length->i<=l'.length->zDs (l.drop i) (l'.drop i)=zDs l l'->P140_2 true (KR E [.tmp 2] fun x m=>x=.int .i64 (zDs l l')/\k.next<=m.wm) (.slice sa l.length sc) (.slice sa' l'.length sc') (.int .i64 (i:Int)) k.fresh:=by
  intro m
  induction m with
  | zero=>
   intro i hi hi2 hV
   refine zLe ?_
   simp only [zA,zID,zY,show decide ((i:Int)<(l.length:Int))=false from decide_eq_false (by omega),zM,show (false==true)=false from rfl,cond_false,zJ,zk]
   exact fin (by rw [← hV,zN8 (by omega) hi2 (by omega)])
  | succ m ih=>
   intro i hi hi2 hV
   refine zLe ?_
   simp only [zA,zID,zY,show decide ((i:Int)<(l.length:Int))=true from decide_eq_true (by omega),zM,beq_self_eq_true,cond_true,zPb,zJ,zAA]
   refine ⟨fun hi'=>zZM ?_,fun hni=>fin (by rw [← hV,zN8 (by omega) hi2 (by omega)])⟩
   have hi':i<l'.length:=by omega
   have hil:i<l.length:=by omega
   obtain ⟨x,hx⟩:∃ x,els[i]?=some x:=⟨_,List.getElem?_eq_getElem (by omega)⟩
   obtain ⟨y,hy⟩:∃ y,els'[i]?=some y:=⟨_,List.getElem?_eq_getElem (by omega)⟩
   obtain ⟨p1,q1,w1⟩:=zKa ha hkf hx
   obtain ⟨p2,q2,w2⟩:=zKa ha' hkf hy
   obtain ⟨t,u,ht,hu,hcall⟩:=zbU hc hc' hx hy hkf
   have e3:l.drop i=t::l.drop (i+1):=by rw [List.drop_eq_getElem_cons hil,(List.getElem?_eq_some_iff.1 ht).2]
   have e4:l'.drop i=u::l'.drop (i+1):=by rw [List.drop_eq_getElem_cons hi',(List.getElem?_eq_some_iff.1 hu).2]
   rw [e3,e4] at hV
   simp only [zDs] at hV
   simp only [zA,q1,w1,q2,w2,zS,hcall,zN]
   refine zZL ?_
   simp only [zA,zAz,zM4]
   refine ⟨fun hne=>zZK ?_,fun he=>zZJ ?_⟩
   ·simp only [zA,zAJ,zT,true_and]
    rw [if_pos hne] at hV
    exact ⟨by rw [hV],by rw [zA4];omega⟩
   ·simp only [zA,zAM _ (zD7 (show i<l.length by omega) (by omega))]
    rw [if_neg (by simp [he])] at hV
    exact ih (i+1) (by omega) (by omega) hV
 have:=loop l.length 0 (by omega) (by omega) (by simp)
 exact this
theorem call88 {h0 k:AH} {g g':Int} {v v':Value} {l l':List GT} (hr:RT h0 v l) (hr':RT h0 v' l') (hk:Ext h0 k) :
  (zW E).call 88 [.agg ⟨[.int .i64 g,v]⟩,.agg ⟨[.int .i64 g',v']⟩] k=some [(.int .i64 (zCM g l g' l'),k)]:=by
 refine zer (s:=true) hk.ok rfl (zcb ?_)
 obtain ⟨k1,e1,n1,t1,o1,f1⟩:=nwF k (.row [.int .i64 g,v] 36 0 false)
 obtain ⟨k2,e2,n2,t2,o2,f2⟩:=nw o1 (.row [.int .i64 g',v'] 36 0 false)
 simp only [zd,zL,zV,zA,e1,e2,zZ]
 have g1:=(f2 k.next (by omega)).trans t1
 have l0:=zF (P:=E) zAS (o:=0) g1
 have l1:=zF (P:=E) zDP (o:=1) g1
 have m0:=zF (P:=E) zAS (o:=0) t2
 have m1:=zF (P:=E) zDP (o:=1) t2
 simp only [lnth] at l0 l1 m0 m1
 have ex2:=hk.trans o2.ext
 refine zca ?_
 simp only [zBI,Nat.add_zero,l0,m0,zA,zS,zHP ex2.ok,zN]
 refine zcZ ?_
 simp only [zA,zAz,zM4]
 refine ⟨fun hne=>zcY ?_,fun he=>zcX ?_⟩
 ·simp only [zA,zAJ,zT,true_and]
  have hne:¬ c3 g g'=0:=hne
  exact ⟨congrArg (Value.int .i64) (show c3 g g'=_ by rw [lab_or,if_neg hne]),o2.wm⟩
 ·simp only [zBy,Nat.zero_add,l1,m1,zA,zS,call140 hr hr' ex2,zN,zAJ,zT,true_and]
  have he:c3 g g'=0:=he
  exact ⟨by rw [lab_or,if_pos he],o2.wm⟩
end Go.Proofs
namespace Go.Proofs
open Go Go.AM
set_option maxRecDepth 100000
set_option maxHeartbeats 1000000
theorem bf_subw (t:TypeId) (a b:Int):zC E .sub t (.int .i64 a) (.int .i64 b)=some (.int .i64 (zBr .i64 (a-b))):=rfl
abbrev KB (k:AH) (rs:List ResultVar) (Rp:Value->Prop):KF:=KR E rs (fun x m=>(zh x=true/\Rp x)/\k.next<=m.wm)
def zAg (Q:Prop) (x:Value):Prop:=∃ b:Bool,x=.bool b/\(b=true->Q)
def zb4 (f:FuncId) (h0:AH) (kk nn:Int) (v:Value) (Q:Prop):Prop:=∀ k,Ext h0 k->∃ b:Bool,(b=true->Q)/\(zW E).call f [.agg #[.int .i64 kk,.int .i64 nn,v]] k=some [(.bool b,k)]
mutual
theorem zRf {h0:AH}:∀ {v:Value} {l:List GT},RT h0 v l->∀ (kk nn:Int),zb4 230 h0 kk nn v (okT (.mk kk nn l)=true)
 | v,l,.mk (els:=els) ha hn hc,kk,nn=>by
  intro k hk
  have hrt:RT h0 v l:=.mk ha hn hc
  have hch:=zNR hc
  have hlen:=RC.length hc
  obtain ⟨sa,sc,rfl⟩:=hrt.slice
  have key:∃ x,zAg (okT (.mk kk nn l)=true) x/\(zW E).call 230 [.agg #[.int .i64 kk,.int .i64 nn,.slice sa l.length sc]] k=some [(x,k)]:=by
   refine zQ0 hk.ok (zWO ?_)
   obtain ⟨k1,e1,n1,t1,o1,f1⟩:=nwF k (.row [.int .i64 kk,.int .i64 nn,.slice sa l.length sc] 173 0 false)
   simp only [zd,zL,zV,zA,e1,zZ]
   have l0:=zF (P:=E) zAS (o:=0) t1
   have l1:=zF (P:=E) zAS (o:=1) t1
   have l2:=zF (P:=E) zDP (o:=2) t1
   simp only [lnth] at l0 l1 l2
   have ex:=hk.trans o1.ext
   have no:P230_2 true (KB k [.tmp 2] (zAg (okT (.mk kk nn l)=true))) k1:=zWM (by simp only [zA,zAJ,zT,true_and];exact ⟨⟨rfl,_,rfl,fun h=>by cases h⟩,o1.wm⟩)
   have no':P230_7 true (KB k [.tmp 2] (zAg (okT (.mk kk nn l)=true))) k1:=zWI (by simp only [zA,zAJ,zT,true_and];exact ⟨⟨rfl,_,rfl,fun h=>by cases h⟩,o1.wm⟩)
   have yes':okT (.mk kk nn l)=true->P230_9 true (KB k [.tmp 2] (zAg (okT (.mk kk nn l)=true))) k1:=fun h=>zWG (by simp only [zA,zAJ,zT,true_and];exact ⟨⟨rfl,_,rfl,fun _=>h⟩,o1.wm⟩)
   have loop:(kk=2/\¬ nn<0/\¬ 255<nn/\¬ (8:Int)<(l.length:Int))->∀ (m i:Nat),i+m=l.length->(∀ (j:Nat) (t:GT),j<i->l[j]?=some t->okT t=true)->P230_4 true (KB k [.tmp 2] (zAg (okT (.mk kk nn l)=true))) (.pointer (some ⟨k.next,0,none⟩)) (.int .i64 (i:Int)) k1:=by
    intro hcond m
    induction m with
    | zero=>
     intro i hi hp
     refine zLB ?_
     simp only [zAY,Nat.zero_add,l2,zA,zIB,zY,show decide ((i:Int)<(l.length:Int))=false from decide_eq_false (by omega),zk]
     refine yes' ?_
     simp only [okT,Bool.and_eq_true,decide_eq_true_eq]
     exact ⟨⟨⟨⟨hcond.1,by omega⟩,by omega⟩,by omega⟩,okL_iff.2 fun j t hj=>hp j t (by have:=(List.getElem?_eq_some_iff.1 hj).1;omega) hj⟩
    | succ m ih=>
     intro i hi hp
     refine zLB ?_
     simp only [zAY,Nat.zero_add,l2,zA,zIB,zY,show decide ((i:Int)<(l.length:Int))=true from decide_eq_true (by omega),zu]
     refine zWK ?_
     obtain ⟨x,hx⟩:∃ x,els[i]?=some x:=⟨_,List.getElem?_eq_getElem (by omega)⟩
     obtain ⟨p1,q1,w1⟩:=zKa ha ex hx
     obtain ⟨ck,cn,cv,cl,rfl,hcl,hs⟩:=hch i x hx
     obtain ⟨b,hbt,hb⟩:=hs k1 ex
     simp only [zAY,Nat.zero_add,l2,zA,q1,w1,zS,hb,zN]
     refine zWJ ?_
     simp only [zA,zv]
     cases b with
     | false=>simp only [Bool.not_false,zu];exact no'
     | true=>
      simp only [Bool.not_true,zk]
      refine zWH ?_
      simp only [zA,zAM _ (zD7 (show i<l.length by omega) (by omega))]
      refine ih (i+1) (by omega) fun j t hj ht=>?_
      rcases Nat.lt_succ_iff_lt_or_eq.1 hj with h|h
      ·exact hp j t h ht
      ·subst h;rw [hcl] at ht;cases ht;exact hbt rfl
   have yes:(kk=2/\¬ nn<0/\¬ 255<nn/\¬ (8:Int)<(l.length:Int))->P230_3 true (KB k [.tmp 2] (zAg (okT (.mk kk nn l)=true))) (.pointer (some ⟨k.next,0,none⟩)) k1:=fun h=>zWL (by exact loop h l.length 0 (by omega) fun j t hj=>by omega)
   refine zWN ?_
   cases h1:decide (kk=2) <;> cases h2:decide (nn<0) <;> cases h3:decide (255<nn) <;> cases h4:decide ((8:Int)<(l.length:Int)) <;>
    simp only [zFN,zFM,zAY,Nat.zero_add,Nat.add_zero,l0,l1,l2,zA,zMK,zAz,zY,zAH,h1,h2,h3,h4,decide_true,decide_false,Bool.not_true,Bool.not_false,zM,beq_self_eq_true,show (true==false)=false from rfl,show (false==true)=false from rfl,cond_true,cond_false,zJ,zu,zk] <;> first|exact no|exact yes ⟨of_decide_eq_true h1,of_decide_eq_false h2,of_decide_eq_false h3,of_decide_eq_false h4⟩
  obtain ⟨x,⟨b,rfl,hbt⟩,hx⟩:=key
  exact ⟨b,hbt,hx⟩
theorem zNR {h0:AH}:∀ {els:List (List Value)} {ts:List GT},RC h0 els ts->∀ (i:Nat) (e:List Value),els[i]?=some e->
  ∃ (k n:Int) (v:Value) (l:List GT),e=[.int .i64 k,.int .i64 n,v]/\ts[i]?=some (.mk k n l)/\zb4 230 h0 k n v (okT (.mk k n l)=true)
 | _,_,.nil,i,e,h=>by simp at h
 | _,_,.cons hv hs,0,e,h=>by simp at h;exact ⟨_,_,_,_,h.symm,rfl,zRf hv _ _⟩
 | _,_,.cons hv hs,i+1,e,h=>by
  simp only [List.getElem?_cons_succ] at h
  obtain ⟨k,n,v,l,a,b,c⟩:=zNR hs i e h
  exact ⟨k,n,v,l,a,by simpa using b,c⟩
end
mutual
theorem zRc {h0:AH}:∀ {v:Value} {l:List GT},RT h0 v l->∀ (kk nn:Int),zb4 281 h0 kk nn v True
 | v,l,.mk (els:=els) ha hn hc,kk,nn=>by
  intro k hk
  have hrt:RT h0 v l:=.mk ha hn hc
  have hch:=zNO hc
  have hlen:=RC.length hc
  obtain ⟨sa,sc,rfl⟩:=hrt.slice
  have key:∃ x,zAg True x/\(zW E).call 281 [.agg #[.int .i64 kk,.int .i64 nn,.slice sa l.length sc]] k=some [(x,k)]:=by
   refine zQu hk.ok (zVF ?_)
   obtain ⟨k1,e1,n1,t1,o1,f1⟩:=nwF k (.row [.int .i64 kk,.int .i64 nn,.slice sa l.length sc] 173 0 false)
   simp only [zd,zL,zV,zA,e1,zZ]
   have l0:=zF (P:=E) zAS (o:=0) t1
   have l1:=zF (P:=E) zAS (o:=1) t1
   have l2:=zF (P:=E) zDP (o:=2) t1
   simp only [lnth] at l0 l1 l2
   have ex:=hk.trans o1.ext
   have no:P281_2 true (KB k [.tmp 2] (zAg True)) k1:=zVD (by simp only [zA,zAJ,zT,true_and];exact ⟨⟨rfl,_,rfl,fun _=>trivial⟩,o1.wm⟩)
   have no':P281_6 true (KB k [.tmp 2] (zAg True)) k1:=zVA (by simp only [zA,zAJ,zT,true_and];exact ⟨⟨rfl,_,rfl,fun _=>trivial⟩,o1.wm⟩)
   have yes':P281_8 true (KB k [.tmp 2] (zAg True)) k1:=zU8 (by simp only [zA,zAJ,zT,true_and];exact ⟨⟨rfl,_,rfl,fun _=>trivial⟩,o1.wm⟩)
   have loop:∀ (m i:Nat),i+m=l.length->P281_4 true (KB k [.tmp 2] (zAg True)) (.pointer (some ⟨k.next,0,none⟩)) (.int .i64 (i:Int)) k1:=by
    intro m
    induction m with
    | zero=>
     intro i hi
     refine zK5 ?_
     simp only [zAY,Nat.zero_add,l2,zA,zH8,zY,show decide ((i:Int)<(l.length:Int))=false from decide_eq_false (by omega),zk]
     exact yes'
    | succ m ih=>
     intro i hi
     refine zK5 ?_
     simp only [zAY,Nat.zero_add,l2,zA,zH8,zY,show decide ((i:Int)<(l.length:Int))=true from decide_eq_true (by omega),zu]
     refine zVB ?_
     obtain ⟨x,hx⟩:∃ x,els[i]?=some x:=⟨_,List.getElem?_eq_getElem (by omega)⟩
     obtain ⟨p1,q1,w1⟩:=zKa ha ex hx
     obtain ⟨ck,cn,cv,rfl,hs⟩:=hch i x hx
     obtain ⟨b,_,hb⟩:=hs k1 ex
     simp only [zAY,Nat.zero_add,l2,zA,q1,w1,zS,hb,zN,zv]
     cases b with
     | false=>simp only [Bool.not_false,zu];exact no'
     | true=>
      simp only [Bool.not_true,zk]
      refine zU9 ?_
      simp only [zA,zAM _ (zD7 (show i<l.length by omega) (by omega))]
      exact ih (i+1) (by omega)
   have yes:P281_3 true (KB k [.tmp 2] (zAg True)) (.pointer (some ⟨k.next,0,none⟩)) k1:=zVC (by exact loop l.length 0 (by omega))
   refine zVE ?_
   cases h1:decide (nn<0) <;> cases h2:decide (kk=1) <;> cases h3:decide (kk=2) <;> cases h4:decide ((0:Int)<(l.length:Int)) <;> cases h5:decide ((8:Int)<(l.length:Int)) <;>
    simp only [zFN,zFM,zAY,Nat.zero_add,Nat.add_zero,l0,l1,l2,zA,zMH,zMG,zAz,zAZ,zY,zAH,h1,h2,h3,h4,h5,decide_true,decide_false,Bool.not_true,Bool.not_false,zM,zt,beq_self_eq_true,show (true==false)=false from rfl,show (false==true)=false from rfl,cond_true,cond_false,zJ,zu,zk] <;> first|exact no|exact yes
  obtain ⟨x,⟨b,rfl,hbt⟩,hx⟩:=key
  exact ⟨b,hbt,hx⟩
theorem zNO {h0:AH}:∀ {els:List (List Value)} {ts:List GT},RC h0 els ts->∀ (i:Nat) (e:List Value),els[i]?=some e->
  ∃ (k n:Int) (v:Value),e=[.int .i64 k,.int .i64 n,v]/\zb4 281 h0 k n v True
 | _,_,.nil,i,e,h=>by simp at h
 | _,_,.cons hv hs,0,e,h=>by simp at h;exact ⟨_,_,_,h.symm,zRc hv _ _⟩
 | _,_,.cons hv hs,i+1,e,h=>by
  simp only [List.getElem?_cons_succ] at h
  exact zNO hs i e h
end
mutual
def szT:GT->Int
 | .mk _ _ l=>1+szL l
def szL:List GT->Int
 | []=>0
 | t::ts=>szT t+szL ts
end
mutual
def dpT:GT->Int->Bool
 | .mk _ _ l,d=>decide (d<=200)&&dpL l (d+1)
def dpL:List GT->Int->Bool
 | [],_=>true
 | t::ts,d=>dpT t d&&dpL ts d
end
mutual
theorem zRW:∀ t:GT,1<=szT t
 | .mk _ _ l=>by have:=zGi l;simp only [szT];omega
theorem zGi:∀ l:List GT,0<=szL l
 | []=>Int.le_refl _
 | t::ts=>by have:=zRW t;have:=zGi ts;simp only [szL];omega
end
theorem zRX:∀ l m:List GT,szL (l++m)=szL l+szL m
 | [],m=>by simp [szL]
 | t::l,m=>by simp only [List.cons_append,szL,zRX l m];omega
theorem dpL_iff:∀ {l:List GT} {d:Int},dpL l d=true ↔ ∀ (i:Nat) (t:GT),l[i]?=some t->dpT t d=true
 | [],_=>by simp [dpL]
 | t::ts,d=>by
  simp only [dpL,Bool.and_eq_true,dpL_iff (l:=ts)]
  constructor
  ·rintro ⟨a,b⟩ i u hu
   cases i with
   | zero=>simp at hu;rw [← hu];exact a
   | succ i=>exact b i u (by simpa using hu)
  ·intro h
   exact ⟨h 0 t rfl,fun i u hu=>h (i+1) u (by simpa using hu)⟩
def CntP (t:GT) (a d n:Int) (b:Bool):Prop:=b=true->0<=a->a<=2000->0<=d->n=a-szT t/\0<=n/\dpT t d=true
def zIt (t:GT) (a d:Int) (x:Value):Prop:=∃ (n:Int) (b:Bool),x=.tuple #[.int .i64 n,.bool b]/\CntP t a d n b
def SpecC (h0:AH) (kk nn:Int) (v:Value) (l:List GT):Prop:=∀ k (a d:Int),Ext h0 k->∃ (n:Int) (b:Bool),CntP (.mk kk nn l) a d n b/\(zW E).call 280 [.agg #[.int .i64 kk,.int .i64 nn,v],.int .i64 a,.int .i64 d] k=some [(.tuple #[.int .i64 n,.bool b],k)]
mutual
theorem zRd {h0:AH}:∀ {v:Value} {l:List GT},RT h0 v l->∀ (kk nn:Int),SpecC h0 kk nn v l
 | v,l,.mk (els:=els) ha hn hc,kk,nn=>by
  intro k a d hk
  have hrt:RT h0 v l:=.mk ha hn hc
  have hch:=zNP hc
  have hlen:=RC.length hc
  obtain ⟨sa,sc,rfl⟩:=hrt.slice
  have key:∃ x,zIt (.mk kk nn l) a d x/\(zW E).call 280 [.agg #[.int .i64 kk,.int .i64 nn,.slice sa l.length sc],.int .i64 a,.int .i64 d] k=some [(x,k)]:=by
   refine zQv hk.ok (zVO ?_)
   obtain ⟨k1,e1,n1,t1,o1,f1⟩:=nwF k (.row [.int .i64 kk,.int .i64 nn,.slice sa l.length sc] 173 0 false)
   simp only [zd,zL,zV,zA,e1,zZ]
   have l2:=zF (P:=E) zDP (o:=2) t1
   simp only [lnth] at l2
   have ex:=hk.trans o1.ext
   have no:∀ n,P280_3 true (KB k [.tmp 4,.tmp 5] (zIt (.mk kk nn l) a d)) (.int .i64 n) k1:=fun n=>zVL (by simp only [zA,zPe,zT,true_and];exact ⟨⟨rfl,_,_,rfl,fun h=>by cases h⟩,o1.wm⟩)
   have no':∀ n,P280_9 true (KB k [.tmp 4,.tmp 5] (zIt (.mk kk nn l) a d)) (.int .i64 n) k1:=fun n=>zVG (by simp only [zA,zPe,zT,true_and];exact ⟨⟨rfl,_,_,rfl,fun h=>by cases h⟩,o1.wm⟩)
   have yes':∀ n,CntP (.mk kk nn l) a d n true->P280_11 true (KB k [.tmp 4,.tmp 5] (zIt (.mk kk nn l) a d)) (.int .i64 n) k1:=fun n hn=>zPx (by simp only [zA,zPe,zT,true_and];exact ⟨⟨rfl,_,_,rfl,hn⟩,o1.wm⟩)
   have loop:¬ 200<d->∀ (m i:Nat),i+m=l.length->∀ n:Int,(0<=a->a<=2000->0<=d->n=a-1-szL (l.take i)/\0<=n/\∀ (j:Nat) (t:GT),j<i->l[j]?=some t->dpT t (d+1)=true)->P280_5 true (KB k [.tmp 4,.tmp 5] (zIt (.mk kk nn l) a d)) (.int .i64 n) (.int .i64 d) (.pointer (some ⟨k.next,0,none⟩)) (.int .i64 (i:Int)) k1:=by
    intro hd m
    induction m with
    | zero=>
     intro i hi n hp
     refine zK6 ?_
     simp only [zAY,Nat.zero_add,l2,zA,zH9,zY,show decide ((i:Int)<(l.length:Int))=false from decide_eq_false (by omega),zk]
     refine yes' n fun _ h1 h2 h3=>?_
     obtain ⟨p1,p2,p3⟩:=hp h1 h2 h3
     rw [List.take_of_length_le (by omega)] at p1
     refine ⟨by simp only [szT];omega,p2,?_⟩
     simp only [dpT,Bool.and_eq_true,decide_eq_true_eq]
     exact ⟨by omega,dpL_iff.2 fun j t hj=>p3 j t (by have:=(List.getElem?_eq_some_iff.1 hj).1;omega) hj⟩
    | succ m ih=>
     intro i hi n hp
     refine zK6 ?_
     simp only [zAY,Nat.zero_add,l2,zA,zH9,zY,show decide ((i:Int)<(l.length:Int))=true from decide_eq_true (by omega),zu]
     refine zVJ ?_
     obtain ⟨x,hx⟩:∃ x,els[i]?=some x:=⟨_,List.getElem?_eq_getElem (by omega)⟩
     obtain ⟨p1,q1,w1⟩:=zKa ha ex hx
     obtain ⟨ck,cn,cv,cl,rfl,hcl,hs⟩:=hch i x hx
     obtain ⟨n2,b,hbt,hb⟩:=hs k1 n (zBr .i64 (d+1)) ex
     simp only [zAY,Nat.zero_add,l2,zA,q1,w1,zJg,zS,hb,zN,z6,lnth]
     refine zVI ?_
     refine zVH ?_
     simp only [zA,zv]
     cases b with
     | false=>simp only [Bool.not_false,zu];exact no' n2
     | true=>
      simp only [Bool.not_true,zk]
      refine zPy ?_
      simp only [zA,zAM _ (zD7 (show i<l.length by omega) (by omega))]
      refine ih (i+1) (by omega) n2 fun h1 h2 h3=>?_
      obtain ⟨p1,p2,p3⟩:=hp h1 h2 h3
      have hz:=zGi (l.take i)
      rw [zC0 (show zCx (d+1) by unfold zCx;omega)] at hbt
      obtain ⟨q1,q2,q3⟩:=hbt rfl p2 (by omega) (by omega)
      refine ⟨?_,q2,fun j t hj ht=>?_⟩
      ·rw [List.take_succ,hcl,zRX];simp only [Option.toList,szL];omega
      ·rcases Nat.lt_succ_iff_lt_or_eq.1 hj with h|h
       ·exact p3 j t h ht
       ·subst h;rw [hcl] at ht;cases ht;exact q3
   refine zVN ?_
   simp only [zA,bf_subw]
   refine zVM ?_
   have yes:¬ zBr .i64 (a-1)<0->¬ 200<d->P280_4 true (KB k [.tmp 4,.tmp 5] (zIt (.mk kk nn l) a d)) (.int .i64 (zBr .i64 (a-1))) (.int .i64 d) (.pointer (some ⟨k.next,0,none⟩)) k1:=fun h1 h2=>zVK (by exact loop h2 l.length 0 (by omega) _ fun h3 h4 h5=>by rw [zC0 (show zCx (a-1) by unfold zCx;omega)] at h1 ⊢;exact ⟨by simp [szL],by omega,fun j t hj=>by omega⟩)
   by_cases h1:zBr .i64 (a-1)<0 <;> by_cases h2:200<d <;>
    simp only [zA,zY,zAH,h1,h2,decide_true,decide_false,zM,beq_self_eq_true,show (true==false)=false from rfl,show (false==true)=false from rfl,cond_true,cond_false,zJ,zu,zk] <;> first|exact no _|exact yes h1 h2
  obtain ⟨x,⟨n,b,rfl,hbt⟩,hx⟩:=key
  exact ⟨n,b,hbt,hx⟩
theorem zNP {h0:AH}:∀ {els:List (List Value)} {ts:List GT},RC h0 els ts->∀ (i:Nat) (e:List Value),els[i]?=some e->
  ∃ (k n:Int) (v:Value) (l:List GT),e=[.int .i64 k,.int .i64 n,v]/\ts[i]?=some (.mk k n l)/\SpecC h0 k n v l
 | _,_,.nil,i,e,h=>by simp at h
 | _,_,.cons hv hs,0,e,h=>by simp at h;exact ⟨_,_,_,_,h.symm,rfl,zRd hv _ _⟩
 | _,_,.cons hv hs,i+1,e,h=>by
  simp only [List.getElem?_cons_succ] at h
  obtain ⟨k,n,v,l,a,b,c⟩:=zNP hs i e h
  exact ⟨k,n,v,l,a,by simpa using b,c⟩
end
theorem call264 {h0 k:AH} {v:Value} {l:List GT} (hr:RT h0 v l) (hk:Ext h0 k) (kk nn:Int):∃ x,zAg (szT (.mk kk nn l)<=2000/\dpT (.mk kk nn l) 1=true) x/\(zW E).call 264 [.agg ⟨[.int .i64 kk,.int .i64 nn,v]⟩] k=some [(x,k)]:=by
 refine zQw hk.ok (zVc ?_)
 obtain ⟨k1,e1,n1,t1,o1,f1⟩:=nwF k (.row [.int .i64 kk,.int .i64 nn,v] 173 0 false)
 simp only [zd,zL,zV,zA,e1,zZ]
 have a1:=za (P:=E) zB9 (o:=0) t1 (by simp)
 simp only [List.drop_zero,List.take] at a1
 have ex:=hk.trans o1.ext
 obtain ⟨n,b,hbt,hb⟩:=zRd hr kk nn k1 2000 1 ex
 obtain ⟨c,_,hc⟩:=zRc hr kk nn k1 ex
 refine zVb ?_
 simp only [a1,zA,zS,hb,zN,z6,lnth]
 refine zVa ?_
 cases b with
 | true=>simp only [a1,zA,zM,zP,beq_self_eq_true,cond_true,zS,hc,zN,zJ,zAJ,zT,true_and];exact ⟨⟨rfl,_,rfl,fun _=>by have:=hbt rfl (by omega) (by omega) (by omega);exact ⟨by omega,this.2.2⟩⟩,o1.wm⟩
 | false=>simp only [a1,zA,zM,zP,show (false==true)=false from rfl,cond_false,zL,zJ,zAJ,zT,true_and];exact ⟨⟨rfl,_,rfl,fun h=>by cases h⟩,o1.wm⟩
theorem call231 {h0 k:AH} {v:Value} {l:List GT} (hr:RT h0 v l) (hk:Ext h0 k) (kk nn:Int):∃ x,(∃ n:Int,x=.int .i64 n/\(n=0->szT (.mk kk nn l)<=2000/\dpT (.mk kk nn l) 1=true))/\(zW E).call 231 [.agg ⟨[.int .i64 kk,.int .i64 nn,v]⟩] k=some [(x,k)]:=by
 refine zQz hk.ok (zWF ?_)
 obtain ⟨k1,e1,n1,t1,o1,f1⟩:=nwF k (.row [.int .i64 kk,.int .i64 nn,v] 173 0 false)
 simp only [zd,zL,zV,zA,e1,zZ]
 have a1:=za (P:=E) zB9 (o:=0) t1 (by simp)
 simp only [List.drop_zero,List.take] at a1
 obtain ⟨x,⟨b,rfl,hbt⟩,hb⟩:=call264 hr (hk.trans o1.ext) kk nn
 refine zWE ?_
 simp only [a1,zA,zS,hb,zN,zv]
 cases b with
 | true=>simp only [Bool.not_true,zk];refine zWC ?_;simp only [zA,zAJ,zT,true_and];exact ⟨⟨rfl,_,rfl,fun _=>hbt rfl⟩,o1.wm⟩
 | false=>simp only [Bool.not_false,zu];refine zWD ?_;simp only [zA,zAJ,zT,true_and];exact ⟨⟨rfl,_,rfl,fun h=>by omega⟩,o1.wm⟩
mutual
theorem zN3:∀ (t:GT) (d:Int) (s:Int×Int),dpT t d=true->0<=d->0<=s.1->s.1+szT t<=2000->s.2<=200->(zS9 t d s).1=s.1+szT t/\(zS9 t d s).2<=200
 | .mk k n l,d,s,h1,h2,h3,h4,h5=>by
  simp only [dpT,Bool.and_eq_true,decide_eq_true_eq] at h1
  have hz:=zGi l
  simp only [szT] at h4 ⊢
  simp only [zS9]
  rw [zC0 (show zCx (s.1+1) by unfold zCx;omega)]
  have:=zN4 l d (s.1+1,if d > s.2 then d else s.2) h1.2 h1.1 h2 (by simp only;omega) (by simp only;omega) (by simp only;split <;> omega)
  simp only at this
  exact ⟨by omega,this.2⟩
theorem zN4:∀ (l:List GT) (d:Int) (s:Int×Int),dpL l (d+1)=true->d<=200->0<=d->0<=s.1->s.1+szL l<=2000->s.2<=200->(zTA l d s).1=s.1+szL l/\(zTA l d s).2<=200
 | [],d,s,_,_,_,_,_,h=>by simp [zTA,szL,h]
 | t::ts,d,s,h1,h2,h3,h4,h5,h6=>by
  simp only [dpL,Bool.and_eq_true] at h1
  have hz:=zGi ts
  have hz2:=zRW t
  simp only [szL] at h5 ⊢
  simp only [zTA]
  rw [if_neg (by omega),zC0 (show zCx (d+1) by unfold zCx;omega)]
  obtain ⟨a,b⟩:=zN3 t (d+1) s h1.1 (by omega) h4 (by omega) h6
  obtain ⟨a',b'⟩:=zN4 ts d (zS9 t (d+1) s) h1.2 h2 h3 (by omega) (by omega) b
  exact ⟨by omega,b'⟩
end
theorem val_fit {t:GT} (h1:szT t<=2000) (h2:dpT t 1=true) (h3:okT t=true):zFn t=true:=by
 obtain ⟨a,b⟩:=zN3 t 1 (0,0) h2 (by omega) (by simp) (by simpa using h1) (by simp)
 simp only [Int.zero_add] at a
 unfold zFn zO0
 rw [h3,if_neg (by omega)]
 simp only [Bool.and_true,decide_eq_true_eq]
 omega
theorem call187 {h0 k:AH} {v:Value} {l:List GT} (hr:RT h0 v l) (hk:Ext h0 k) (kk nn:Int):∃ x,zAg (zFn (.mk kk nn l)=true) x/\(zW E).call 187 [.agg ⟨[.int .i64 kk,.int .i64 nn,v]⟩] k=some [(x,k)]:=by
 refine zQ3 hk.ok (zXc ?_)
 obtain ⟨k1,e1,n1,t1,o1,f1⟩:=nwF k (.row [.int .i64 kk,.int .i64 nn,v] 173 0 false)
 simp only [zd,zL,zV,zA,e1,zZ]
 have a1:=za (P:=E) zB9 (o:=0) t1 (by simp)
 simp only [List.drop_zero,List.take] at a1
 have ex:=hk.trans o1.ext
 obtain ⟨b,hbt,hb⟩:=zRf hr kk nn k1 ex
 obtain ⟨x,⟨n,rfl,hn⟩,hc⟩:=call231 hr ex kk nn
 refine zXb ?_
 simp only [a1,zA,zS,hb,zN]
 cases b with
 | true=>simp only [a1,zA,zM,zP,beq_self_eq_true,cond_true,zS,hc,zN,zAZ,zJ,zAJ,zT,true_and];exact ⟨⟨rfl,_,rfl,fun h=>by have:=hn (of_decide_eq_true h);exact val_fit this.1 this.2 (hbt rfl)⟩,o1.wm⟩
 | false=>simp only [a1,zA,zM,zP,show (false==true)=false from rfl,cond_false,zL,zJ,zAJ,zT,true_and];exact ⟨⟨rfl,_,rfl,fun h=>by cases h⟩,o1.wm⟩
end Go.Proofs
