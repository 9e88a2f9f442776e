import Derived.Test.YthmnhjcmefjgjaaGreatDoorRows
import Derived.Test.YthmnhjcmefjgjaaGreatDoorCards
import Derived.Test.YthmnhjcmefjgjaaGreatDoorTie
import Derived.ProofKit
import Derived.OpenShut
import Derived.LaidMore
import Derived.Lay
import Derived.SevenTiedAt
import Derived.Stop.Joined
import Derived.Test.YthmnhjcmefjgjaaGreatDoorXAN
import Derived.Test.YthmnhjcmefjgjaaGreatDoorXAH
import Derived.Test.YthmnhjcmefjgjaaGreatDoorXAM
import Derived.Test.YthmnhjcmefjgjaaGreatDoorXAD
set_option linter.all false
set_option linter.unusedSectionVars false
set_option autoImplicit true
set_option relaxedAutoImplicit true
namespace Go.Proofs
open Go Go.AM
set_option maxRecDepth 100000
set_option maxHeartbeats 1000000
theorem veq_ptr (n:Nat) (a:Option Addr):veq n (.pointer a) (.pointer a)=true:=by cases n <;> (show decide (a=a)=true;simp)
theorem bs82 {a b c a' b' c':Value} {h:AH}:zh E 82 2 (some [(0,.agg #[a,b,c]),(1,.agg #[a',b',c'])]) h=one (.slice (some ⟨h.next,0,none⟩) 2 2,h.new (.row [a,b,c,a',b',c'] 25 0 false)):=by kernel_rfl
def relV (L M:GL) (B:GB):Bool:=match graphsOf [L,M] with
 | [SS,TT]=>relB B.kind B.prs SS TT L.n M.n
 | _=>false
theorem GrOf.ss {L:GL} {x:Gr} {loc:Nat} {h:AH} (g:GrOf L x) (G:GG loc h x.1 x.2.1 x.2.2.1 x.2.2.2) (hL:zAZ L=false):SSok x.2.2.2/\L.n=(x.2.2.2.length:Int):=by
 have hs:=zBC hL
 have h1:=g.1
 have h2:=G.len
 refine ⟨⟨by omega,fun i S hS=>?_⟩,by omega⟩
 obtain ⟨a,b⟩:=g.2 i S hS
 refine ⟨by omega,fun y hy=>?_⟩
 have:=(a y hy).1
 omega
theorem lnk_ok {B:GB} (h:zBt B=0):isMan B.kind=true/\B.prs.length<=200000/\∀ p∈B.prs,0<=p.1/\0<=p.2:=by
 unfold zBt at h
 cases h1:isMan B.kind with
 | false=>rw [h1] at h;simp at h
 | true=>
  rw [h1] at h
  simp only [Bool.true_eq_false,if_false] at h
  by_cases h2:200000<B.prs.length
  ·rw [if_pos h2] at h;omega
  ·rw [if_neg h2] at h
   cases h3:zAD (zCO B.prs) B.prs.length 0 with
   | true=>rw [h3] at h;simp at h
   | false=>
    refine ⟨rfl,by omega,fun p hp=>?_⟩
    obtain ⟨i,hi⟩:=List.mem_iff_getElem?.1 hp
    have:=zBZ h3 i (Nat.zero_le _) (by have:=(List.getElem?_eq_some_iff.1 hi).1;omega)
    unfold zCO at this
    rw [hi] at this
    simp only [Bool.or_eq_false_iff,decide_eq_false_iff_not] at this
    omega
theorem call72 {k:AH} {x y:Value} {e:List Value} {L M:GL} {B:GB} (hok:k.ok) (hx:RL k x L) (hy:RL k y M) (hL:zAZ L=false) (hM:zAZ M=false) (he:RB k e B) (hB:zBt B=0) :
  (zV E).call 72 [x,y,.agg ⟨e⟩] k=some [(.bool (relV L M B),k)]:=by
 obtain ⟨vl,ve,elsL,rfl,x2,x3,x4⟩:=hx.ex
 obtain ⟨wl,we,elsM,rfl,y2,y3,y4⟩:=hy.ex
 obtain ⟨vp,rfl,e2⟩:=he.ex
 obtain ⟨hkind,hpl,hpos⟩:=lnk_ok hB
 refine F72_flat (s:=false) hok rfl (P72_0_of ?_)
 simp only [ze,zL,zS,zA]
 refine P72_1_of ?_
 have o1:=(((Own.fresh k).new (.row [.int .i64 L.n,vl,ve] 25 0 false)).new (.row [.int .i64 M.n,wl,we] 25 0 false)).new (.row [.int .i64 B.kind,vp] 32 0 false)
 have g3:(((k.fresh.new (.row [.int .i64 L.n,vl,ve] 25 0 false)).new (.row [.int .i64 M.n,wl,we] 25 0 false)).new (.row [.int .i64 B.kind,vp] 32 0 false)).get k.next=some (.row [.int .i64 L.n,vl,ve] 25 0 false):=
  (zI (by simp;omega)).trans ((zI (by simp)).trans (zF k.fresh _))
 have g4:(((k.fresh.new (.row [.int .i64 L.n,vl,ve] 25 0 false)).new (.row [.int .i64 M.n,wl,we] 25 0 false)).new (.row [.int .i64 B.kind,vp] 32 0 false)).get (k.next+1)=some (.row [.int .i64 M.n,wl,we] 25 0 false):=
  (zI (by simp)).trans (zF (k.fresh.new _) _)
 have g5:(((k.fresh.new (.row [.int .i64 L.n,vl,ve] 25 0 false)).new (.row [.int .i64 M.n,wl,we] 25 0 false)).new (.row [.int .i64 B.kind,vp] 32 0 false)).get (k.next+2)=some (.row [.int .i64 B.kind,vp] 32 0 false):=zF ((k.fresh.new _).new _) _
 have n1:(((k.fresh.new (.row [.int .i64 L.n,vl,ve] 25 0 false)).new (.row [.int .i64 M.n,wl,we] 25 0 false)).new (.row [.int .i64 B.kind,vp] 32 0 false)).next=k.next+3:=rfl
 simp only [zb,AH.next_new]
 generalize (((k.fresh.new (.row [.int .i64 L.n,vl,ve] 25 0 false)).new (.row [.int .i64 M.n,wl,we] 25 0 false)).new (.row [.int .i64 B.kind,vp] 32 0 false))=k1 at o1 g3 g4 g5 n1
 have la:=zW (P:=E) ta_25 (o:=0) g3 (by simp)
 have lb:=zW (P:=E) ta_25 (o:=0) g4 (by simp)
 simp only [List.drop_zero,List.take] at la lb
 simp only [la,lb,zA,bs82,zL,zZ]
 have o2:=o1.new (.row [.int .i64 L.n,vl,ve,.int .i64 M.n,wl,we] 25 0 false)
 have t2:=zF k1 (.row [.int .i64 L.n,vl,ve,.int .i64 M.n,wl,we] 25 0 false)
 have g3':(k1.new (.row [.int .i64 L.n,vl,ve,.int .i64 M.n,wl,we] 25 0 false)).get k.next=_:=(zI (by omega)).trans g3
 have g4':(k1.new (.row [.int .i64 L.n,vl,ve,.int .i64 M.n,wl,we] 25 0 false)).get (k.next+1)=_:=(zI (by omega)).trans g4
 have g5':(k1.new (.row [.int .i64 L.n,vl,ve,.int .i64 M.n,wl,we] 25 0 false)).get (k.next+2)=_:=(zI (by omega)).trans g5
 have n2:(k1.new (.row [.int .i64 L.n,vl,ve,.int .i64 M.n,wl,we] 25 0 false)).next=k1.next+1:=rfl
 generalize (k1.new (.row [.int .i64 L.n,vl,ve,.int .i64 M.n,wl,we] 25 0 false))=k2 at o2 t2 g3' g4' g5' n2
 have hargs:Args k2 (.slice (some ⟨k1.next,0,none⟩) 2 2) [[.int .i64 L.n,vl,ve],[.int .i64 M.n,wl,we]] [L,M]:=by
  refine ⟨?_,rfl,by simp,fun i ee LL h1 h2=>?_,fun i LL h=>?_⟩
  ·refine Arr.row (els:=[[.int .i64 L.n,vl,ve],[.int .i64 M.n,wl,we]]) t2 (by omega) (by simp) (fun i ee hee=>?_)
   match i with
   | 0=>simp at hee;subst hee;exact ⟨rfl,rfl⟩
   | 1=>simp at hee;subst hee;exact ⟨rfl,rfl⟩
   | i+2=>simp at hee
  ·match i with
   | 0=>simp at h1 h2;subst h1 h2;exact hx.ext o2.ext
   | 1=>simp at h1 h2;subst h1 h2;exact hy.ext o2.ext
   | i+2=>simp at h1
  ·match i with
   | 0=>simp at h;subst h;exact hL
   | 1=>simp at h;subst h;exact hM
   | i+2=>simp at h
 refine ((call90 o2.ext.ok (by simp) hargs).weak).mono fun z hz=>?_
 obtain ⟨gs,hO,hlen,hgr,hmap,fx⟩:=hz
 obtain ⟨out,k3⟩:=z
 simp only at hO fx ⊢
 match gs,hlen with
 | [x1,x2],_=>
  have o3:=fx.own o2 (fun _ h=>h.elim)
  have G1:=hO.gg x1 (by simp)
  have G2:=hO.gg x2 (by simp)
  obtain ⟨s1,s2⟩:=(hgr 0 x1 L rfl rfl).ss G1 hL
  obtain ⟨r1,r2⟩:=(hgr 1 x2 M rfl rfl).ss G2 hM
  have V1:GV k3 x1.1 x1.2.2.2:=⟨_,_,_,G1⟩
  have V2:GV k3 x2.1 x2.2.2.2:=⟨_,_,_,G2⟩
  have hrv:relV L M B=relB B.kind B.prs x1.2.2.2 x2.2.2.2 L.n M.n:=by
   unfold relV
   rw [← hmap]
   rfl
  rcases hO.sl with ⟨_,h⟩|⟨bo,rfl,hbo,hbol,hbolo⟩
  ·cases h
  ·have p3:k3.get k.next=_:=(fx.get _ (by omega) (fun h=>h)).trans g3'
   have p4:k3.get (k.next+1)=_:=(fx.get _ (by omega) (fun h=>h)).trans g4'
   have p5:k3.get (k.next+2)=_:=(fx.get _ (by omega) (fun h=>h)).trans g5'
   have hnx:=fx.next
   refine P72_2_of ?_
   have m0:=zD (P:=E) zCo (o:=0) hbo
   have m1:=zD (P:=E) zCo (o:=1) hbo
   simp only [List.map_cons,List.map_nil,lnth] at m0 m1
   have i0:zH E 126 (some (.slice (some ⟨bo,0,none⟩) [x1,x2].length (UNK+1))) (some (.int .i64 0))=some (.pointer (some ⟨bo,0,none⟩)):=ia_126 (k:=0) (by simp)
   have i1:zH E 126 (some (.slice (some ⟨bo,0,none⟩) [x1,x2].length (UNK+1))) (some (.int .i64 1))=some (.pointer (some ⟨bo,1,none⟩)):=ia_126 (k:=1) (by simp)
   have rest:∀ (h:AH) (m b8 ver:Nat),Fx NoB k3 h->h.get m=some (.map (ent []) ver)->m<h.next->k3.next<=m->h.get b8=some (.row (zAi (ptr x1.1) (ptr x2.1) m) 176 0 false)->b8<h.next->
     P72_3 false (KR E [.tmp 6] (fun x l=>x=.bool (relV L M B)/\k.next<=l.wm)) (ptr k.next) (ptr (k.next+1)) (ptr (k.next+2)) (ptr b8) h:=by
    intro h m b8 ver f hm hml hkm h8 h8l
    refine P72_3_of ?_
    have fn:=f.next
    have w3:=(f.get k.next (by omega) (fun h=>h)).trans p3
    have w4:=(f.get (k.next+1) (by omega) (fun h=>h)).trans p4
    have w5:=(f.get (k.next+2) (by omega) (fun h=>h)).trans p5
    have l1:=zD (P:=E) ta_26 (o:=1) w5
    simp only [lnth] at l1
    obtain ⟨ap,cp,hvp⟩:=e2.slice
    rw [List.length_map] at hvp
    rw [hvp] at l1
    simp only [fa_32_1,Nat.zero_add,l1,zA,len72_3_2]
    have:=rel4 (k:=k) (h1:=h) (kind:=B.kind) (prs:=B.prs) (V:=relV L M B) hkind hm hml (by omega) w3 (by omega) w4 (by omega) w5 (by omega) h8 h8l (V1.fx f) (V2.fx f) (by have:=G1.ltg;omega) (by have:=G2.ltg;omega) s1 r1 s2 r2 hvp e2 hpl hpos hrv
     B.prs.length 0 (by omega) h [] ver (f.own o3 (fun _ h=>h.elim)) (Fx.refl f.ok) hm (by simp) (by simp) (by simp)
    rw [hvp] at this
    simpa using this
   have hne:∀ {o:AObj} {c:Nat},c<k3.next->(k3.new o).get c=k3.get c:=fun hc=>zI (by omega)
   have hne2:∀ {o o':AObj} {c:Nat},c<k3.next->((k3.new o).new o').get c=k3.get c:=fun hc=>(zI (by simp;omega)).trans (zI (by omega))
   have a0:∀ {o:AObj},zG E 128 (k3.new o) (some (.pointer (some ⟨bo,0,none⟩)))=some (ptr x1.1):=fun {o}=>by
    have:=zD (P:=E) zCo (o:=0) ((hne (o:=o) hbol).trans hbo)
    simpa only [List.map_cons,List.map_nil,lnth] using this
   have a1:∀ {o:AObj},zG E 128 (k3.new o) (some (.pointer (some ⟨bo,1,none⟩)))=some (ptr x2.1):=fun {o}=>by
    have:=zD (P:=E) zCo (o:=1) ((hne (o:=o) hbol).trans hbo)
    simpa only [List.map_cons,List.map_nil,lnth] using this
   have b0:∀ {o o':AObj},zG E 128 ((k3.new o).new o') (some (.pointer (some ⟨bo,0,none⟩)))=some (ptr x1.1):=fun {o o'}=>by
    have:=zD (P:=E) zCo (o:=0) ((hne2 (o:=o) (o':=o') hbol).trans hbo)
    simpa only [List.map_cons,List.map_nil,lnth] using this
   have b1:∀ {o o':AObj},zG E 128 ((k3.new o).new o') (some (.pointer (some ⟨bo,1,none⟩)))=some (ptr x2.1):=fun {o o'}=>by
    have:=zD (P:=E) zCo (o:=1) ((hne2 (o:=o) (o':=o') hbol).trans hbo)
    simpa only [List.map_cons,List.map_nil,lnth] using this
   have hst2:=z0 (P:=E) ts_176 (o:=0) (h:=(k3.new (.row [.pointer none,.pointer none,.map none] 176 0 false)).new (.map [] 0)) (x:=.agg ⟨zAi (ptr x1.1) (ptr x2.1) (k3.next+1)⟩) (cs:=zAi (ptr x1.1) (ptr x2.1) (k3.next+1)) ((zI (by simp)).trans (zF k3 _)) rfl rfl (by simp) (by simp [zAi,zp])
   have hst1:=z0 (P:=E) ts_176 (o:=0) (h:=(k3.new (.map [] 0)).new (.row [.pointer none,.pointer none,.map none] 176 0 false)) (b:=k3.next+1) (x:=.agg ⟨zAi (ptr x1.1) (ptr x2.1) k3.next⟩) (cs:=zAi (ptr x1.1) (ptr x2.1) k3.next) (zF (k3.new _) _) rfl rfl (by simp) (by simp [zAi,zp])
   simp only [zA,i0,i1,m0,m1,zL,a0,a1,b0,b1,veq_ptr,true_and,pb176,z_176,ze,zS,AH.next_new,hst1,hst2]
   refine ⟨?_,?_⟩
   ·have ff:Fx NoB k3 (((k3.new (.map [] 0)).new (.row [.pointer none,.pointer none,.map none] 176 0 false)).upd (k3.next+1) (some (.row (zAi (ptr x1.1) (ptr x2.1) k3.next) 176 0 false))):=(((Fx.refl o3.ext.ok).new _).new _).upd (.inr (by omega)) _
    exact rest _ k3.next (k3.next+1) 0 ff ((zQ (by omega)).trans ((zI (by simp)).trans (zF k3 _))) (by show k3.next<k3.next+2;omega) (Nat.le_refl _) (zR _ _ _) (by show k3.next+1<k3.next+2;omega)
   ·have ff:Fx NoB k3 (((k3.new (.row [.pointer none,.pointer none,.map none] 176 0 false)).new (.map [] 0)).upd k3.next (some (.row (zAi (ptr x1.1) (ptr x2.1) (k3.next+1)) 176 0 false))):=(((Fx.refl o3.ext.ok).new _).new _).upd (.inr (Nat.le_refl _)) _
    exact rest _ (k3.next+1) k3.next 0 ff ((zQ (by omega)).trans (zF (k3.new _) _)) (by show k3.next+1<k3.next+2;omega) (by omega) (zR _ _ _) (by show k3.next<k3.next+2;omega)
theorem bs83 {a b:Value} {h:AH}:zh E 83 1 (some [(0,.agg #[a,b])]) h=one (.slice (some ⟨h.next,0,none⟩) 1 1,h.new (.row [a,b] 32 0 false)):=by kernel_rfl
def checkV (L M:GL) (B:GB):Int:=if zAZ L||zAZ M then 8 else if zBt B≠0 then zBt B else if relV L M B then 0 else 360
theorem call15 {k:AH} {x y:Value} {e:List Value} {L M:GL} {B:GB} (hok:k.ok) (hx:RL k x L) (hy:RL k y M) (he:RB k e B) :
  (zV E).call 15 [x,y,.agg ⟨e⟩] k=some [(.int .i64 (checkV L M B),k)]:=by
 obtain ⟨vl,ve,elsL,rfl,x2,x3,x4⟩:=id hx.ex
 obtain ⟨wl,we,elsM,rfl,y2,y3,y4⟩:=id hy.ex
 obtain ⟨vp,rfl,e2⟩:=id he.ex
 refine F15_flat (s:=true) hok rfl (P15_0_of ?_)
 simp only [ze,zL,zS,zA]
 refine P15_1_of ?_
 have o1:=(((Own.fresh k).new (.row [.int .i64 L.n,vl,ve] 25 0 false)).new (.row [.int .i64 M.n,wl,we] 25 0 false)).new (.row [.int .i64 B.kind,vp] 32 0 false)
 have g3:(((k.fresh.new (.row [.int .i64 L.n,vl,ve] 25 0 false)).new (.row [.int .i64 M.n,wl,we] 25 0 false)).new (.row [.int .i64 B.kind,vp] 32 0 false)).get k.next=some (.row [.int .i64 L.n,vl,ve] 25 0 false):=
  (zI (by simp;omega)).trans ((zI (by simp)).trans (zF k.fresh _))
 have g4:(((k.fresh.new (.row [.int .i64 L.n,vl,ve] 25 0 false)).new (.row [.int .i64 M.n,wl,we] 25 0 false)).new (.row [.int .i64 B.kind,vp] 32 0 false)).get (k.next+1)=some (.row [.int .i64 M.n,wl,we] 25 0 false):=
  (zI (by simp)).trans (zF (k.fresh.new _) _)
 have g5:(((k.fresh.new (.row [.int .i64 L.n,vl,ve] 25 0 false)).new (.row [.int .i64 M.n,wl,we] 25 0 false)).new (.row [.int .i64 B.kind,vp] 32 0 false)).get (k.next+2)=some (.row [.int .i64 B.kind,vp] 32 0 false):=zF ((k.fresh.new _).new _) _
 have n1:(((k.fresh.new (.row [.int .i64 L.n,vl,ve] 25 0 false)).new (.row [.int .i64 M.n,wl,we] 25 0 false)).new (.row [.int .i64 B.kind,vp] 32 0 false)).next=k.next+3:=rfl
 simp only [zb,AH.next_new]
 generalize (((k.fresh.new (.row [.int .i64 L.n,vl,ve] 25 0 false)).new (.row [.int .i64 M.n,wl,we] 25 0 false)).new (.row [.int .i64 B.kind,vp] 32 0 false))=k1 at o1 g3 g4 g5 n1
 have la:=zW (P:=E) ta_25 (o:=0) g3 (by simp)
 have lb:=zW (P:=E) ta_25 (o:=0) g4 (by simp)
 simp only [List.drop_zero,List.take] at la lb
 have o2:=o1.new (.row [.int .i64 L.n,vl,ve,.int .i64 M.n,wl,we] 25 0 false)
 have t2:=zF k1 (.row [.int .i64 L.n,vl,ve,.int .i64 M.n,wl,we] 25 0 false)
 have n2:(k1.new (.row [.int .i64 L.n,vl,ve,.int .i64 M.n,wl,we] 25 0 false)).next=k1.next+1:=rfl
 have g3':(k1.new (.row [.int .i64 L.n,vl,ve,.int .i64 M.n,wl,we] 25 0 false)).get k.next=_:=(zI (by omega)).trans g3
 have g4':(k1.new (.row [.int .i64 L.n,vl,ve,.int .i64 M.n,wl,we] 25 0 false)).get (k.next+1)=_:=(zI (by omega)).trans g4
 have g5':(k1.new (.row [.int .i64 L.n,vl,ve,.int .i64 M.n,wl,we] 25 0 false)).get (k.next+2)=_:=(zI (by omega)).trans g5
 simp only [la,lb,zA,bs82,zL,zZ]
 generalize (k1.new (.row [.int .i64 L.n,vl,ve,.int .i64 M.n,wl,we] 25 0 false))=k2 at o2 t2 n2 g3' g4' g5'
 have hc70:=call70 (h0:=k2) (k:=k2) (v:=.slice (some ⟨k1.next,0,none⟩) 2 2) (els:=[[.int .i64 L.n,vl,ve],[.int .i64 M.n,wl,we]]) (Ls:=[L,M])
  (Arr.row (els:=[[.int .i64 L.n,vl,ve],[.int .i64 M.n,wl,we]]) t2 (by omega) (by simp) (fun i ee hee=>by
   match i with
   | 0=>simp at hee;subst hee;exact ⟨rfl,rfl⟩
   | 1=>simp at hee;subst hee;exact ⟨rfl,rfl⟩
   | i+2=>simp at hee)) rfl (by simp) (fun i ee LL h1 h2=>by
   match i with
   | 0=>simp at h1 h2;subst h1 h2;exact hx.ext o2.ext
   | 1=>simp at h1 h2;subst h1 h2;exact hy.ext o2.ext
   | i+2=>simp at h1) (Ext.refl o2.ext.ok)
 have hbad:zAD (badAt [L,M]) 2 0=(zAZ L||zAZ M):=by
  simp [zAD,badAt]
 simp only [List.length_cons,List.length_nil,hbad] at hc70
 simp only [hc70,zO]
 refine P15_2_of ?_
 cases hb:(zAZ L||zAZ M) with
 | true=>
  simp only [if_true,zA,zBY,show decide ((8:Int)=0)=false from rfl,Bool.not_false,zAK]
  refine P15_3_of ?_
  simp only [zA,zAN,zX,true_and]
  exact ⟨by simp [checkV,hb],o2.wm⟩
 | false=>
  obtain ⟨hL,hM⟩:=Bool.or_eq_false_iff.1 hb
  simp only [Bool.false_eq_true,if_false,zA,zBY,decide_true,Bool.not_true,zAE]
  refine P15_4_of ?_
  have lc:=zW (P:=E) ta_32 (o:=0) g5' (by simp)
  simp only [List.drop_zero,List.take] at lc
  simp only [lc,zA,bs83,zL,zZ]
  have o3:=o2.new (.row [.int .i64 B.kind,vp] 32 0 false)
  have t3:=zF k2 (.row [.int .i64 B.kind,vp] 32 0 false)
  have g3'':(k2.new (.row [.int .i64 B.kind,vp] 32 0 false)).get k.next=_:=(zI (by omega)).trans g3'
  have g4'':(k2.new (.row [.int .i64 B.kind,vp] 32 0 false)).get (k.next+1)=_:=(zI (by omega)).trans g4'
  have g5'':(k2.new (.row [.int .i64 B.kind,vp] 32 0 false)).get (k.next+2)=_:=(zI (by omega)).trans g5'
  have n3:(k2.new (.row [.int .i64 B.kind,vp] 32 0 false)).next=k2.next+1:=rfl
  generalize (k2.new (.row [.int .i64 B.kind,vp] 32 0 false))=k3 at o3 t3 g3'' g4'' g5'' n3
  have hc71:=call71 (h0:=k3) (k:=k3) (v:=.slice (some ⟨k2.next,0,none⟩) 1 1) (els:=[[.int .i64 B.kind,vp]]) (Bs:=[B])
   (Arr.row (els:=[[.int .i64 B.kind,vp]]) t3 (by omega) (by simp) (fun i ee hee=>by
    match i with
    | 0=>simp at hee;subst hee;exact ⟨rfl,rfl⟩
    | i+1=>simp at hee)) rfl (by simp) (fun i ee BB h1 h2=>by
    match i with
    | 0=>simp at h1 h2;subst h1 h2;exact he.ext o3.ext
    | i+1=>simp at h1) (Ext.refl o3.ext.ok)
  have herr:zA8 [B] 1 0=zBt B:=by
   simp only [zA8,errAt,List.getElem?_cons_zero]
   by_cases h:zBt B=0 <;> simp [h]
  simp only [List.length_cons,List.length_nil] at hc71
  rw [show (0+1:Nat)=1 from rfl,herr] at hc71
  simp only [hc71,zO]
  refine P15_5_of ?_
  by_cases hle:zBt B=0
  ·simp only [zA,zBY,hle,decide_true,Bool.not_true,zAE]
   refine P15_7_of ?_
   have la:=zW (P:=E) ta_25 (o:=0) g3'' (by simp)
   have lb:=zW (P:=E) ta_25 (o:=0) g4'' (by simp)
   have lc:=zW (P:=E) ta_32 (o:=0) g5'' (by simp)
   simp only [List.drop_zero,List.take] at la lb lc
   simp only [la,lb,lc,zA,zZ,call72 o3.ext.ok (hx.ext o3.ext) (hy.ext o3.ext) hL hM (he.ext o3.ext) hle,zO,zz,zBD]
   refine ⟨fun h=>P15_8_of ?_,fun h=>P15_9_of ?_⟩
   ·simp only [zA,zAN,zX,true_and]
    have:relV L M B=false:=by simpa using h
    exact ⟨by simp [checkV,hb,hle,this],o3.wm⟩
   ·simp only [zA,zAN,zX,true_and]
    have:relV L M B=true:=by simpa using h
    exact ⟨by simp [checkV,hb,hle,this],o3.wm⟩
  ·simp only [zA,zBY,hle,decide_false,Bool.not_false,zAK]
   refine P15_6_of ?_
   simp only [zA,zAN,zX,true_and]
   exact ⟨by simp [checkV,hb,hle],o3.wm⟩
theorem stepsGo_len {nums:List Int}:∀ {l:List (Int×Int×Int)} {SS:List zAA},(zCg nums SS l).length=SS.length
 | [],_=>rfl
 | e::l,SS=>by simp only [zCg];rw [stepsGo_len];simp
theorem stepsOf_len (nums:List Int) (L:GL):(zBz nums L).length=L.n.toNat:=by
 unfold zBz
 rw [stepsGo_len,List.length_replicate]
theorem Fx.back {P:Nat->Prop} {k h:AH} (f:Fx P k.fresh h):Fx P k ⟨h.t,h.next,cond (Nat.ble k.wm h.wm) k.wm h.wm⟩:=by
 refine ⟨?_,f.next,fun c hc hn=>f.get c hc hn,fun m h1 h2 h3=>?_⟩
 ·have:=f.ok
  unfold AH.ok at this
  show cond (Nat.ble k.wm h.wm) k.wm h.wm<=h.next+UNK
  cases hc:Nat.ble k.wm h.wm with
  | true=>have:=ble_true.1 hc;simp only [cond_true];omega
  | false=>simpa using this
 ·have:=f.wm m (by rw [zAx];omega) h2 h3
  show m<=cond (Nat.ble k.wm h.wm) k.wm h.wm
  cases Nat.ble k.wm h.wm
  ·exact this
  ·exact h1
theorem Fx.ext1 {h0 k l:AH} {b:Nat} (f:Fx (fun c=>c=b) k l) (e:Ext h0 k) (hb:h0.next<=b):Ext h0 l:=
 ⟨f.ok,Nat.le_trans e.next f.next,fun c hc=>(f.get c (Nat.lt_of_lt_of_le hc e.next) (by omega)).trans (e.get c hc)⟩
theorem box173 {h:AH} {a b:Int} {v:Value} (hl:zp v=true):zu E 173 (h.new (.row [.int .i64 0,.int .i64 0,.slice none 0 0] 173 0 false)) (some (ptr h.next)) (some (.agg ⟨[.int .i64 a,.int .i64 b,v]⟩))=one (undef,(h.new (.row [.int .i64 0,.int .i64 0,.slice none 0 0] 173 0 false)).upd h.next (some (.row [.int .i64 a,.int .i64 b,v] 173 0 false))):=by
 rw [z0 (P:=E) ts_173 (x:=.agg ⟨[.int .i64 a,.int .i64 b,v]⟩) (cs:=[.int .i64 a,.int .i64 b,v]) (zF h _) rfl rfl (by simp) (by simp [zp] at hl ⊢;exact hl)]
 rfl
def Nd (k:AH) (bL:Nat) (x:Value) (k':AH):Prop:=∃ b left,x=.bool b/\(b=true->0<=left)/\left<=2000/\k'.get bL=some (.row [.int .i64 left] 3 0 false)/\k'.wm<=k.wm/\Fx (fun c=>c=bL) k k'
theorem nodes_step {h0 k:AH} {v:Value} {ts:List GT} {bL:Nat} {left deep:Int} (hr:RT h0 v ts) (hk:Ext h0 k) (hb0:h0.next<=bL) (hbL:k.get bL=some (.row [.int .i64 left] 3 0 false)) (hbLl:bL<k.next) (hl0:0<=left) (hl1:left<=2000) (hd1:1<=deep) (hd2:deep<=102)
  (hrec:deep<=100->∀ {k':AH} {v':Value} {ts':List GT} {left':Int},RT h0 v' ts'->Ext h0 k'->k'.get bL=some (.row [.int .i64 left'] 3 0 false)->bL<k'.next->0<=left'->left'<=2000->Ev true ((zV E).call 69 [v',ptr bL,.int .i64 (deep+1)] k') fun x=>Nd k' bL x.1 x.2) :
  Ev true ((zV E).call 69 [v,ptr bL,.int .i64 deep] k) fun x=>Nd k bL x.1 x.2:=by
 obtain ⟨ad,cp,hv⟩:=hr.slice
 cases hr with
 | @mk _ els _ ha hn hc=>
 have hlen:=RC.length hc
 by_cases hts:ts.length=0
 ·have:(zV E).call 69 [v,ptr bL,.int .i64 deep] k=some [(.bool true,k)]:=by
   refine F69_flat (s:=true) hk.ok rfl (P69_0_of ?_)
   simp only [zA]
   refine P69_1_of ?_
   rw [hv,hts]
   simp only [zA,len69_1_1]
   refine P69_2_of ?_
   simp only [zd,zA,zAL]
   refine ⟨fun h=>by omega,fun _=>P69_8_of ?_⟩
   simp only [zA,zAN,zX,true_and]
   show k.next<=k.next+UNK
   omega
  rw [this,zO]
  exact ⟨true,left,rfl,fun _=>hl0,hl1,hbL,Nat.le_refl _,Fx.refl hk.ok⟩
 ·refine F69_some (Rp:=fun x k'=>Nd k bL x k') (P69_0_of ?_)
  simp only [zA]
  refine P69_1_of ?_
  rw [hv]
  simp only [zA,len69_1_1]
  have fin:∀ (b:Bool) (l:Int) (h:AH),(b=true->0<=l)->l<=2000->h.get bL=some (.row [.int .i64 l] 3 0 false)->Fx (fun c=>c=bL) k.fresh h->h.wm<=bL->KR E [.tmp 6] (fun x k'=>(zg x=false\/k'.wm<k.next)/\Nd k bL x ⟨k'.t,k'.next,cond (Nat.ble k.wm k'.wm) k.wm k'.wm⟩) .ret [.bool b] h:=by
   intro b l h h1 h2 h3 f hw
   simp only [zAN,zX,true_and]
   refine ⟨.inr (by omega),b,l,rfl,h1,h2,h3,?_,f.back⟩
   show cond (Nat.ble k.wm h.wm) k.wm h.wm<=k.wm
   cases hc:Nat.ble k.wm h.wm with
   | true=>exact Nat.le_refl _
   | false=>have:=ble_false.1 hc;simp only [cond_false];omega
  have loop:∀ (r i:Nat),i+r=ts.length->∀ (l:Int) (h:AH),Fx (fun c=>c=bL) k.fresh h->h.get bL=some (.row [.int .i64 l] 3 0 false)->0<=l->l<=2000->(i≠0->h.wm<=bL)->
    P69_2 true (KR E [.tmp 6] (fun x k'=>(zg x=false\/k'.wm<k.next)/\Nd k bL x ⟨k'.t,k'.next,cond (Nat.ble k.wm k'.wm) k.wm k'.wm⟩)) (ptr bL) (.int .i64 deep) (.slice ad ts.length cp) (.int .i64 (ts.length:Int)) (.int .i64 (i:Int)) h:=by
   intro r
   induction r with
   | zero=>
    intro i hi l h f hg h1 h2 hw
    refine P69_2_of ?_
    have:¬ ((i:Int)<(ts.length:Int)):=by omega
    simp only [zd,zA,this,decide_false,zAE]
    refine P69_8_of ?_
    simp only [zA]
    exact fin true l h (fun _=>h1) h2 hg f (hw (by omega))
   | succ r ih=>
    intro i hi l h f hg h1 h2 hw
    have hin:i<ts.length:=by omega
    have hin2:i<els.length:=by omega
    refine P69_2_of ?_
    have:((i:Int)<(ts.length:Int)):=by omega
    simp only [zd,zA,this,decide_true,zAK]
    refine P69_3_of ?_
    obtain ⟨kk,nn,vv,lv,hel,hrt,_⟩:=RC.at hc i _ (List.getElem?_eq_getElem hin2)
    obtain ⟨b,o,c,vs,ty,es,ro,hv',hb,hlt,hle,hz,hzl⟩:=ha.load (List.getElem?_eq_getElem hin2)
    rw [hel] at hz
    rw [hv] at hv'
    simp only [Value.slice.injEq] at hv'
    obtain ⟨hv1,_,_⟩:=hv'
    subst hv1
    have ek:Ext h0 h:=f.ext1 hk.fresh hb0
    have gb:=(ek.get b hlt).trans hb
    have hvl:zp vv=true:=zC5 hrt
    simp only [ia_34 hin,zA,zW zBq gb hle,hz,z_173,ze,zL,zS,box173 hvl]
    refine P69_4_of ?_
    have hbh:bL<h.next:=Nat.lt_of_lt_of_le hbLl f.next
    have f1:Fx (fun c=>c=bL) k.fresh ((h.new (.row [.int .i64 0,.int .i64 0,.slice none 0 0] 173 0 false)).upd h.next (some (.row [.int .i64 kk,.int .i64 nn,vv] 173 0 false))):=(f.new _).upd (.inr f.next) _
    have t1:((h.new (.row [.int .i64 0,.int .i64 0,.slice none 0 0] 173 0 false)).upd h.next (some (.row [.int .i64 kk,.int .i64 nn,vv] 173 0 false))).get h.next=some (.row [.int .i64 kk,.int .i64 nn,vv] 173 0 false):=zR _ _ _
    have g1:((h.new (.row [.int .i64 0,.int .i64 0,.slice none 0 0] 173 0 false)).upd h.next (some (.row [.int .i64 kk,.int .i64 nn,vv] 173 0 false))).get bL=_:=((zQ (by omega)).trans (zI (by omega))).trans hg
    have n1:((h.new (.row [.int .i64 0,.int .i64 0,.slice none 0 0] 173 0 false)).upd h.next (some (.row [.int .i64 kk,.int .i64 nn,vv] 173 0 false))).next=h.next+1:=rfl
    generalize ((h.new (.row [.int .i64 0,.int .i64 0,.slice none 0 0] 173 0 false)).upd h.next (some (.row [.int .i64 kk,.int .i64 nn,vv] 173 0 false)))=k1 at f1 t1 g1 n1
    have lg:=zD (P:=E) zAS (o:=0) g1
    simp only [lnth] at lg
    have hst:=z0 (P:=E) ts_3 (o:=0) g1 (cells_int .i64 (l-1)) rfl (by simp) rfl
    have hput:lput [Value.int .i64 l] 0 [.int .i64 (l-1)]=[.int .i64 (l-1)]:=rfl
    rw [hput] at hst
    simp only [zA,zBH,lg,bf_sub _ (show in64 (l-1) by unfold in64;omega),hst,zL]
    refine P69_5_of ?_
    have f2:Fx (fun c=>c=bL) k.fresh (k1.upd bL (some (.row [.int .i64 (l-1)] 3 0 false))):=f1.upd (.inl rfl) _
    have g2:(k1.upd bL (some (.row [.int .i64 (l-1)] 3 0 false))).get bL=some (.row [.int .i64 (l-1)] 3 0 false):=zR _ _ _
    have t2:(k1.upd bL (some (.row [.int .i64 (l-1)] 3 0 false))).get h.next=_:=(zQ (by omega)).trans t1
    have w2:(k1.upd bL (some (.row [.int .i64 (l-1)] 3 0 false))).wm<=bL:=(zCm _ _ _).2
    have n2:(k1.upd bL (some (.row [.int .i64 (l-1)] 3 0 false))).next=k1.next:=rfl
    generalize (k1.upd bL (some (.row [.int .i64 (l-1)] 3 0 false)))=k2 at f2 g2 t2 w2 n2
    have lg2:=zD (P:=E) zAS (o:=0) g2
    have lv2:=zD (P:=E) zC2 (o:=2) t2
    simp only [lnth] at lg2 lv2
    have stop:P69_6 true (KR E [.tmp 6] (fun x k'=>(zg x=false\/k'.wm<k.next)/\Nd k bL x ⟨k'.t,k'.next,cond (Nat.ble k.wm k'.wm) k.wm k'.wm⟩)) k2:=by
     refine P69_6_of ?_
     simp only [zA]
     exact fin false _ k2 (fun h=>by cases h) (by omega) g2 f2 w2
    simp only [zA,zBH,lg2,zd]
    by_cases e1:l-1<0
    ·simp only [e1,decide_true,zM,zY,show (true==false)=false from rfl,cond_false,cond_true,zA,zL,zK,zAK]
     exact stop
    ·simp only [e1,decide_false,zM,beq_self_eq_true,cond_true,zA,zAM,zK,cond_false]
     by_cases e2:100<deep
     ·simp only [e2,decide_true,zM,zY,show (true==false)=false from rfl,cond_false,cond_true,zA,zL,zK,zAK]
      exact stop
     ·simp only [e2,decide_false,zM,zY,beq_self_eq_true,cond_true,zA,zAW,Nat.zero_add,lv2,zAJ _ (show in64 (deep+1) by unfold in64;omega),zZ]
      refine (hrec (by omega) hrt (f2.ext1 hk.fresh hb0) g2 (by omega) (by omega) (by omega)).mono fun y hy=>?_
      obtain ⟨bb,l3,y1,y2,y3,y4,y6,y5⟩:=hy
      rw [y1]
      have f3:Fx (fun c=>c=bL) k.fresh y.2:=f2.trans y5 (fun c h=>.inl h)
      have w3:y.2.wm<=bL:=by omega
      simp only [zz,zA,zK,cond_false,zBD]
      refine ⟨fun hb=>P69_6_of ?_,fun hb=>P69_7_of ?_⟩
      ·simp only [zA]
       exact fin false l3 y.2 (fun h=>by cases h) y3 y4 f3 w3
      ·have hbt:bb=true:=by simpa using hb
       simp only [zAJ _ (add1 hin (by omega)),zA]
       have:=ih (i+1) (by omega) l3 y.2 f3 y4 (y2 hbt) y3 (fun _=>w3)
       simpa using this
  exact loop ts.length 0 (by omega) left k.fresh (Fx.refl (ok_fresh k)) hbL hl0 hl1 (fun h=>absurd rfl h)
theorem call69:∀ (d:Nat) {h0 k:AH} {v:Value} {ts:List GT} {bL:Nat} {left deep:Int},RT h0 v ts->Ext h0 k->h0.next<=bL->k.get bL=some (.row [.int .i64 left] 3 0 false)->bL<k.next->0<=left->left<=2000->1<=deep->deep<=102->101<=deep+d->
  Ev true ((zV E).call 69 [v,ptr bL,.int .i64 deep] k) fun x=>Nd k bL x.1 x.2:=by
 intro d
 induction d with
 | zero=>
  intro h0 k v ts bL left deep hr hk hb0 hbL hbLl hl0 hl1 hd1 hd2 hd3
  exact nodes_step hr hk hb0 hbL hbLl hl0 hl1 hd1 hd2 (fun h=>by omega)
 | succ d ihd=>
  intro h0 k v ts bL left deep hr hk hb0 hbL hbLl hl0 hl1 hd1 hd2 hd3
  exact nodes_step hr hk hb0 hbL hbLl hl0 hl1 hd1 hd2 (fun h k' v' ts' left' a b c d e f=>ihd a b hb0 c d e f (by omega) (by omega) (by omega))
abbrev kfew (k:AH):KF:=KR E [.tmp 2] (fun x l=>(zg x=true/\∃ b,x=.bool b)/\k.next<=l.wm)
theorem few_stop {k h:AH} (ho:Own k h) (b:Bool):kfew k .ret [.bool b] h:=by
 simp only [kfew,zAN,zX,true_and]
 exact ⟨⟨rfl,b,rfl⟩,ho.wm⟩
theorem call14 {k:AH} {v:Value} {els:List (List Value)} {Ls:List GL} (hok:k.ok) (ha:Arr k 3 v els) (hlen:els.length=Ls.length) (hle:els.length<=10) (hr:∀ (i:Nat) (e:List Value) (L:GL),els[i]?=some e->Ls[i]?=some L->RL k (.agg ⟨e⟩) L) :
  ∃ b,(zV E).call 14 [v] k=some [(.bool b,k)]:=by
 have key:∃ w,(∃ b,w=.bool b)/\(zV E).call 14 [v] k=some [(w,k)]:=by
  obtain ⟨ad,cp,hv⟩:=ha.slice
  refine F14_flatE hok (P14_0_of ?_)
  simp only [zA]
  refine P14_1_of ?_
  have hst:=z0 (P:=E) ts_3 (o:=0) (zF k.fresh (.row [.int .i64 0] 3 0 false)) (cells_int .i64 2000) rfl (by simp) rfl
  simp only [zb] at hst
  simp only [z_3,ze,zL,zi,zb,hst]
  refine P14_2_of ?_
  have o1:=((Own.fresh k).new (.row [.int .i64 0] 3 0 false)).upd (b:=k.next) (Nat.le_refl _) (some (.row (lput [.int .i64 0] 0 [.int .i64 2000]) 3 0 false))
  have t1:((k.fresh.new (.row [.int .i64 0] 3 0 false)).upd k.next (some (.row (lput [.int .i64 0] 0 [.int .i64 2000]) 3 0 false))).get k.next=some (.row [.int .i64 2000] 3 0 false):=zR _ _ _
  have n1:((k.fresh.new (.row [.int .i64 0] 3 0 false)).upd k.next (some (.row (lput [.int .i64 0] 0 [.int .i64 2000]) 3 0 false))).next=k.next+1:=rfl
  generalize ((k.fresh.new (.row [.int .i64 0] 3 0 false)).upd k.next (some (.row (lput [.int .i64 0] 0 [.int .i64 2000]) 3 0 false)))=k1 at o1 t1 n1
  rw [hv]
  simp only [zA,len14_2_1]
  have loop:∀ (r i:Nat),i+r=els.length->∀ (l:Int) (h:AH),Own k h->h.get k.next=some (.row [.int .i64 l] 3 0 false)->k.next<h.next->0<=l->l<=2000->
    P14_3 true (kfew k) (ptr k.next) (.slice ad els.length cp) (.int .i64 (els.length:Int)) (.int .i64 (i:Int)) h:=by
   intro r
   induction r with
   | zero=>
    intro i hi l h ho hg hlt h1 h2
    refine P14_3_of ?_
    have:¬ ((i:Int)<(els.length:Int)):=by omega
    simp only [zd,zA,this,decide_false,zAE]
    refine P14_14_of ?_
    simp only [zA]
    exact few_stop ho true
   | succ r ih=>
    intro i hi l h ho hg hlt h1 h2
    have hin:i<els.length:=by omega
    refine P14_3_of ?_
    have:((i:Int)<(els.length:Int)):=by omega
    simp only [zd,zA,this,decide_true,zAK]
    refine P14_4_of ?_
    have hRL:=hr i _ _ (List.getElem?_eq_getElem hin) (List.getElem?_eq_getElem (by omega))
    generalize Ls[i]=L at hRL
    obtain ⟨vl,ve,elsL,q1,q2,q3,q4⟩:=hRL.ex
    have he:els[i]=[.int .i64 L.n,vl,ve]:=by
     simp only [Value.agg.injEq] at q1
     have:=congrArg Array.toList q1
     simpa using this
    obtain ⟨b,o,c,vs,ty,es,ro,hv',hb,hltb,hle',hz,hzl⟩:=ha.load (List.getElem?_eq_getElem hin)
    rw [he] at hz
    rw [hv] at hv'
    simp only [Value.slice.injEq] at hv'
    obtain ⟨hv1,_,_⟩:=hv'
    subst hv1
    have gb:=(ho.ext.get b hltb).trans hb
    obtain ⟨al,cl,hvl⟩:=q2.slice
    rw [RLab.length q3] at hvl
    obtain ⟨ae,ce,hve⟩:=q4.slice
    rw [List.length_map] at hve
    have hbox:=box25 (k:=h) (e:=[.int .i64 L.n,vl,ve]) (by rw [hvl,hve];rfl) rfl
    simp only [ia_82 hin,zA,zW ta_25 gb hle',hz,z_25,ze,zL,zS,hbox]
    refine P14_5_of ?_
    have f1:Fx NoB h ((h.new (.row [.int .i64 0,.slice none 0 0,.slice none 0 0] 25 0 false)).upd h.next (some (.row [.int .i64 L.n,vl,ve] 25 0 false))):=((Fx.refl ho.ext.ok).new _).upd (.inr (Nat.le_refl _)) _
    have t1:((h.new (.row [.int .i64 0,.slice none 0 0,.slice none 0 0] 25 0 false)).upd h.next (some (.row [.int .i64 L.n,vl,ve] 25 0 false))).get h.next=some (.row [.int .i64 L.n,vl,ve] 25 0 false):=zR _ _ _
    generalize ((h.new (.row [.int .i64 0,.slice none 0 0,.slice none 0 0] 25 0 false)).upd h.next (some (.row [.int .i64 L.n,vl,ve] 25 0 false)))=k2 at f1 t1
    have o2:=f1.own ho (fun _ h=>h.elim)
    have g2:=(f1.get k.next hlt (fun h=>h)).trans hg
    have lt2:=Nat.lt_of_lt_of_le hlt f1.next
    have s0:=zD (P:=E) zAS (o:=0) t1
    have s1:=zD (P:=E) ta_22 (o:=1) t1
    have s2:=zD (P:=E) ta_23 (o:=2) t1
    simp only [lnth] at s0 s1 s2
    have stop:P14_6 true (kfew k) k2:=by
     refine P14_6_of ?_
     simp only [zA]
     exact few_stop o2 false
    rw [hvl] at s1
    rw [hve] at s2
    simp only [zB1,Nat.add_zero,s0,zA,zAM]
    by_cases e1:60<L.n
    ·simp only [e1,decide_true,zM,show (true==false)=false from rfl,cond_false,cond_true,zA,zK,zAK]
     exact stop
    ·simp only [e1,decide_false,zM,beq_self_eq_true,cond_true,zBI,Nat.zero_add,s2,zA,len14_5_6,zAM,zK,cond_false]
     by_cases e2:300<(L.eds.length:Int)
     ·simp only [e2,decide_true,zM,show (true==false)=false from rfl,cond_false,cond_true,zA,zK,zAK]
      exact stop
     ·simp only [e2,decide_false,zM,beq_self_eq_true,cond_true,zAj,Nat.zero_add,s1,zA,len14_5_12,zAM,zK,cond_false]
      by_cases e3:60<(L.labs.length:Int)
      ·simp only [e3,decide_true,zAK]
       exact stop
      ·simp only [e3,decide_false,zAE]
       refine P14_7_of ?_
       simp only [zAj,Nat.zero_add,s1,zA,len14_7_2]
       have inner:∀ (r2 j:Nat),j+r2=L.labs.length->∀ (l:Int) (h:AH),Own k h->h.get k.next=some (.row [.int .i64 l] 3 0 false)->k.next<h.next->0<=l->l<=2000->
         P14_8 true (kfew k) (ptr k.next) (.slice (some ⟨b,o,none⟩) els.length cp) (.int .i64 (els.length:Int)) (.int .i64 (i:Int)) (.slice al L.labs.length cl) (.int .i64 (L.labs.length:Int)) (.int .i64 (j:Int)) h:=by
        intro r2
        induction r2 with
        | zero=>
         intro j hj l h ho hg hlt h1 h2
         refine P14_8_of ?_
         have:¬ ((j:Int)<(L.labs.length:Int)):=by omega
         simp only [zd,zA,this,decide_false,zAE]
         refine P14_13_of ?_
         simp only [zAJ _ (add1 hin (by omega)),zA]
         have:=ih (i+1) (by omega) l h ho hg hlt h1 h2
         simpa using this
        | succ r2 ih2=>
         intro j hj l h ho hg hlt h1 h2
         have hjn:j<L.labs.length:=by omega
         have hjn2:j<elsL.length:=by rw [RLab.length q3];exact hjn
         refine P14_8_of ?_
         have:((j:Int)<(L.labs.length:Int)):=by omega
         simp only [zd,zA,this,decide_true,zAK]
         refine P14_9_of ?_
         obtain ⟨g,vt,lt,hel,hrt,hat⟩:=RLab.at q3 j _ (List.getElem?_eq_getElem hjn2)
         obtain ⟨b',o',c',vs',ty',es',ro',hv',hb',hlt',hle',hz',hzl'⟩:=q2.load (List.getElem?_eq_getElem hjn2)
         rw [hel] at hz'
         rw [hvl] at hv'
         simp only [Value.slice.injEq] at hv'
         obtain ⟨hv1,_,_⟩:=hv'
         subst hv1
         have gb':=(ho.ext.get b' hlt').trans hb'
         simp only [ia_22 hjn,zA,zW ta_36 gb' hle',hz',z_36,ze,zL,zS,box36 (zC5 hrt)]
         refine P14_10_of ?_
         have f3:Fx NoB h ((h.new (.row [.int .i64 0,.slice none 0 0] 36 0 false)).upd h.next (some (.row [.int .i64 g,vt] 36 0 false))):=((Fx.refl ho.ext.ok).new _).upd (.inr (Nat.le_refl _)) _
         have t3:((h.new (.row [.int .i64 0,.slice none 0 0] 36 0 false)).upd h.next (some (.row [.int .i64 g,vt] 36 0 false))).get h.next=some (.row [.int .i64 g,vt] 36 0 false):=zR _ _ _
         generalize ((h.new (.row [.int .i64 0,.slice none 0 0] 36 0 false)).upd h.next (some (.row [.int .i64 g,vt] 36 0 false)))=k3 at f3 t3
         have o3:=f3.own ho (fun _ h=>h.elim)
         have g3:=(f3.get k.next hlt (fun h=>h)).trans hg
         have lt3:=Nat.lt_of_lt_of_le hlt f3.next
         have u1:=zD (P:=E) zC2 (o:=1) t3
         simp only [lnth] at u1
         simp only [zBh,Nat.zero_add,u1,zA,zZ]
         refine (call69 100 hrt o3.ext (Nat.le_refl _) g3 lt3 h1 h2 (by omega) (by omega) (by omega)).mono fun y hy=>?_
         obtain ⟨bb,l3,y1,y2,y3,y4,y6,y5⟩:=hy
         have o4:=y5.own o3 (fun c h=>by rw [h];exact Nat.le_refl _)
         rw [y1]
         simp only [zz,zA,zBD]
         refine ⟨fun hb=>P14_11_of ?_,fun hb=>P14_12_of ?_⟩
         ·simp only [zA]
          exact few_stop o4 false
         ·have hbt:bb=true:=by simpa using hb
          simp only [zAJ _ (add1 hjn (by omega)),zA]
          have:=ih2 (j+1) (by omega) l3 y.2 o4 y4 (Nat.lt_of_lt_of_le lt3 y5.next) (y2 hbt) y3
          simpa using this
       exact inner L.labs.length 0 (by omega) l k2 o2 g2 lt2 h1 h2
  exact loop els.length 0 (by omega) 2000 k1 o1 t1 (by omega) (by omega) (by omega)
 obtain ⟨w,⟨b,rfl⟩,hc⟩:=key
 exact ⟨b,hc⟩
theorem f13_get:E.tab.fn.get 13=some Tryz.f13:=by kernel_rfl
theorem f13_body:Tryz.f13.body=some (zT Tryz.f13):=by kernel_rfl
theorem call13 {k:AH}:(zV E).call 13 [] k=some [(.bool true,k)]:=call_sum f13_get f13_body (by kernel_rfl)
theorem veq_slice3 {n:Int} {a b:Option Addr} {m c m' c':Nat}:veq 100 (.agg #[.int .i64 n,.slice a m c,.slice b m' c']) (.agg #[.int .i64 n,.slice a m c,.slice b m' c'])=true:=by
 show veqs 99 [.int .i64 n,.slice a m c,.slice b m' c'] [.int .i64 n,.slice a m c,.slice b m' c']=true
 simp only [veqs,zCf,zCJ,Bool.and_self]
end Go.Proofs
namespace Go.Proofs.YthmnhjcmefjgjaaGreatDoor
open Go Go.AM Go.ChangeShapes Go.WideShapes Go.ChangeAt Go.RowKit
set_option maxRecDepth 100000
theorem ownKnobT:ownKnob Tryz.prog.godebug=none:=by kernel_rfl
theorem laidOutT:laidOutB Tryz.prog=true:=by kernel_rfl
theorem agg_of {w:World} {base:Nat} {t:TypeId} {v:Value} {l:List (TypeId×Nat)} (hf:zB8 Tryz.prog t=some l) (h:Value.okWide Tryz.prog w .any base t v):∃ cs,v=.agg cs:=by
 unfold zB8 at hf
 unfold Value.okWide at h
 split at hf
 ·rename_i fs hu
  rw [hu] at h
  obtain ⟨cs,e,_⟩:=h
  exact ⟨cs,e⟩
 ·cases hf
end Go.Proofs.YthmnhjcmefjgjaaGreatDoor
namespace Go.Proofs
open Go Go.AM
set_option maxRecDepth 100000
theorem und_49:und E 49=some (.slice 23):=by kernel_rfl
theorem elt_49:zDE E 49=some 23:=by kernel_rfl
theorem ia_49 {b o len c k:Nat} (h:k<len):zH E 49 (some (.slice (some ⟨b,o,none⟩) len c)) (some (.int .i64 (k:Int)))=some (.pointer (some ⟨b,o+k*1,none⟩)):=zAF und_49 (by kernel_rfl) h
theorem ts_47:zAV E 47=some 1:=by kernel_rfl
theorem ta_47:tAS E 47=some (false,1):=by kernel_rfl
theorem z_47:zAC E 47=some (.slice none 0 0):=by kernel_rfl
end Go.Proofs
