import Derived.Test.YthmnhjcmefjgjaaGreatDoorXAQ
import Derived.Test.YthmnhjcmefjgjaaGreatDoorXAO
set_option linter.all false
set_option linter.unusedSectionVars false
set_option autoImplicit true
set_option relaxedAutoImplicit true
namespace Go.Proofs
open Go Go.AM
set_option maxHeartbeats 1000000
abbrev stepV (nums:List Int) (e:Ed):Int×Int:=((nums[e.2.1.toNat]?).getD 0,e.2.2)
theorem stepsGo_get (nums:List Int):∀ (l:List Ed) (SS:List zAA) (i:Nat) (S:zAA),(zCg nums SS l)[i]?=some S->∃ S0,SS[i]?=some S0/\∀ y,y∈S ↔ y∈S0\/∃ e∈l,e.1.toNat=i/\y=stepV nums e
 | [],SS,i,S,h=>⟨S,h,fun y=>by simp⟩
 | e::l,SS,i,S,h=>by
  simp only [zCg] at h
  obtain ⟨S0,h0,hS⟩:=stepsGo_get nums l _ i S h
  by_cases hi:e.1.toNat=i
  ·subst hi
   rw [List.getElem?_set] at h0
   simp only [if_true] at h0
   split at h0
   ·rename_i hlt
    cases h0
    refine ⟨SS[e.1.toNat],List.getElem?_eq_getElem hlt,fun y=>?_⟩
    rw [hS y,List.getElem?_eq_getElem hlt]
    simp only [Option.getD_some,List.mem_append,List.mem_cons,List.not_mem_nil,or_false]
    constructor
    ·rintro ((h|h)|⟨f,h1,h2⟩)
     ·exact .inl h
     ·exact .inr ⟨e,.inl rfl,rfl,h⟩
     ·exact .inr ⟨f,.inr h1,h2⟩
    ·rintro (h|⟨f,rfl|h1,h2,h3⟩)
     ·exact .inl (.inl h)
     ·exact .inl (.inr h3)
     ·exact .inr ⟨f,h1,h2,h3⟩
   ·cases h0
  ·rw [List.getElem?_set_ne hi] at h0
   refine ⟨S0,h0,fun y=>?_⟩
   rw [hS y]
   simp only [List.mem_cons]
   constructor
   ·rintro (h|⟨f,h1,h2⟩)
    ·exact .inl h
    ·exact .inr ⟨f,.inr h1,h2⟩
   ·rintro (h|⟨f,rfl|h1,h2,h3⟩)
    ·exact .inl h
    ·exact absurd h2 hi
    ·exact .inr ⟨f,h1,h2,h3⟩
theorem stepsOf_mem {nums:List Int} {L:GL} {i:Nat} {S:zAA} (h:(zBz nums L)[i]?=some S) (y:Int×Int):y∈S ↔ ∃ e∈L.eds,e.1.toNat=i/\y=stepV nums e:=by
 obtain ⟨S0,h0,hS⟩:=stepsGo_get nums _ _ i S h
 rw [List.getElem?_replicate] at h0
 split at h0
 ·cases h0;rw [hS y];simp
 ·cases h0
theorem labs_bare {L:GL} (h:zAZ L=false) {i:Nat} {c:CL} (hc:L.labs[i]?=some c) (h1:c.1=-1):c.2=[]:=by
 simp only [zAZ,Bool.or_eq_false_iff] at h
 have hlt:=(List.getElem?_eq_some_iff.1 hc).1
 have:=zBZ h.1.2 i (Nat.zero_le _) (by omega)
 simp only [zB7,hc,Bool.or_eq_false_iff,zCz,bare,h1,decide_true,Bool.or_true,Bool.true_and,decide_eq_false_iff_not] at this
 exact List.length_eq_zero_iff.1 (by omega)
def csOf (L M:GL):List CL:=(zBL (zBL [] L.labs).2 M.labs).2
theorem csOf_ok (L M:GL):Sorted (csOf L M)/\(∀ c∈L.labs,c.1≠-1->c∈csOf L M)/\∀ c∈M.labs,c.1≠-1->c∈csOf L M:=by
 obtain ⟨a1,a2,a3⟩:=numAll_ok L.labs (cs:=[]) List.Pairwise.nil
 obtain ⟨b1,b2,b3⟩:=numAll_ok M.labs a1
 exact ⟨b1,fun c h1 h2=>b2 c (a3 c h1 h2),b3⟩
theorem graphs_eq (L M:GL):graphsOf [L,M]=[zBz (L.labs.map (zCs (csOf L M))) L,zBz (M.labs.map (zCs (csOf L M))) M]:=by
 obtain ⟨h1,h2,h3⟩:=csOf_ok L M
 show zDI (csOf L M) [L,M]=_
 simp only [zDI,numAll_fix L.labs h1 h2,numAll_fix M.labs h1 h3]
theorem numOf_zero {cs:List CL} {c:CL} (h:zCs cs c=0):c.1=-1:=by
 unfold zCs at h
 split at h
 ·assumption
 ·omega
theorem pr_pos {B:GB} (h:zBt B=0):(B.kind=1\/B.kind=2)/\∀ p∈B.prs,0<=p.1/\0<=p.2:=by
 unfold zBt at h
 split at h
 ·cases h
 ·rename_i h1
  split at h
  ·cases h
  ·split at h
   ·cases h
   ·rename_i h3
    refine ⟨?_,fun p hp=>?_⟩
    ·simp [isMan] at h1;omega
    ·obtain ⟨i,hi⟩:=List.getElem?_of_mem hp
     have hlt:=(List.getElem?_eq_some_iff.1 hi).1
     have:=zBZ (Bool.eq_false_iff.2 h3) i (Nat.zero_le _) (by omega)
     simp only [zCO,hi,Bool.or_eq_false_iff,decide_eq_false_iff_not] at this
     omega
theorem foldl_addS:∀ (S:zAA) (l:List Int) (v:Int),v∈S.foldl addS l->v∈l\/∃ y∈S,y.1=0/\y.2=v
 | [],l,v,h=>.inl h
 | y::S,l,v,h=>by
  rcases foldl_addS S _ v h with h1|⟨z,h1,h2⟩
  ·unfold addS at h1
   split at h1
   ·rename_i hc
    rcases List.mem_append.1 h1 with h2|h2
    ·exact .inl h2
    ·exact .inr ⟨y,by simp,hc.1,(List.mem_singleton.1 h2).symm⟩
   ·exact .inl h1
  ·exact .inr ⟨z,by simp [h1],h2⟩
theorem bfs_some {TT:List zAA} {body:Int->Bool} {lc:List Int} (hc:∀ u∈lc,∀ S,TT[u.toNat]?=some S->∀ y∈S,y.1=0->y.2∈lc) :
  ∀ (f i:Nat) (l:List Int),(∀ u∈l,u∈lc)->bfs TT body f i l=true->∃ u∈lc,body u=true
 | 0,i,l,_,h=>by simp [bfs] at h
 | f+1,i,l,hl,h=>by
  simp only [bfs] at h
  split at h
  ·cases h
  ·rename_i u hu
   have hm:=hl u (List.mem_of_getElem? hu)
   rcases Bool.or_eq_true_iff.1 h with h|h
   ·exact ⟨u,hm,h⟩
   ·refine bfs_some hc f (i+1) _ (fun v hv=>?_) h
    unfold nextL at hv
    split at hv
    ·rename_i S hS
     rcases foldl_addS S l v hv with h1|⟨y,h1,h2,h3⟩
     ·exact hl v h1
     ·rw [← h3];exact hc u hm S hS y h1 h2
    ·exact hl v hv
theorem law_of_check {L M:GL} {B:GB} (h:checkV L M B=0):Law5 L M B.kind B.prs:=by
 obtain ⟨hL,hM,hlk,hrel⟩:=check0 h
 obtain ⟨hkind,hpos⟩:=pr_pos hlk
 obtain ⟨c1,c2,c3'⟩:=csOf_ok L M
 unfold relV at hrel
 rw [graphs_eq] at hrel
 simp only [relB,Bool.and_eq_true,List.all_eq_true,decide_eq_true_eq,inB] at hrel
 obtain ⟨hin,⟨hz,hall⟩,_⟩:=hrel
 obtain ⟨l1,l2,l3,l4⟩:=zBC hL
 obtain ⟨m1,m2,m3,m4⟩:=zBC hM
 have hrng:∀ p∈B.prs,(0<=p.1/\p.1<L.n)/\(0<=p.2/\p.2<M.n):=fun p hp=>⟨⟨(hpos p hp).1,(hin p hp).1⟩,(hpos p hp).2,(hin p hp).2⟩
 refine ⟨hrng,hz,fun s t x cx hst hx hs hcx lc ln ht hlc hD=>?_⟩
 generalize hcs:csOf L M=cs at *
 obtain ⟨⟨s1,s2⟩,t1,t2⟩:=hrng _ hst
 simp only at s1 s2 t1 t2
 obtain ⟨SS,hSS⟩:∃ S,(zBz (L.labs.map (zCs cs)) L)[s.toNat]?=some S:=⟨_,List.getElem?_eq_getElem (by rw [stepsOf_len];omega)⟩
 have hxv:stepV (L.labs.map (zCs cs)) x=(zCs cs cx,x.2.2):=by simp [stepV,hcx]
 have hmem:(zCs cs cx,x.2.2)∈SS:=(stepsOf_mem hSS _).2 ⟨x,hx,by rw [hs],hxv.symm⟩
 have hcxm:cx.1≠-1->cx∈cs:=c2 cx (List.mem_of_getElem? hcx)
 have back:∀ (u:Int) (S:zAA),0<=u->u<M.n->(zBz (M.labs.map (zCs cs)) M)[u.toNat]?=some S->∀ y∈S,∃ f cy,(∃ S',(outOf M)[u.toNat]?=some S'/\f∈S')/\M.labs[f.2.1.toNat]?=some cy/\y=(zCs cs cy,f.2.2):=by
  intro u S hu1 hu2 hS y hy
  obtain ⟨f,hf,hf1,hf2⟩:=(stepsOf_mem hS y).1 hy
  obtain ⟨j,hj⟩:=List.getElem?_of_mem hf
  obtain ⟨_,_,d3,d4⟩:=bad_edges hM hj
  obtain ⟨cy,hcy⟩:∃ c,M.labs[f.2.1.toNat]?=some c:=⟨_,List.getElem?_eq_getElem (by omega)⟩
  obtain ⟨S',hS'⟩:∃ S,(outOf M)[u.toNat]?=some S:=⟨_,List.getElem?_eq_getElem (by rw [outOf_len];omega)⟩
  exact ⟨f,cy,⟨S',hS',(outOf_mem hS' f).2 ⟨hf,hf1⟩⟩,hcy,by rw [hf2];simp [stepV,hcy]⟩
 have strong:∀ u∈lc,zBk B.prs (zBz (M.labs.map (zCs cs)) M) u (zCs cs cx,x.2.2)=true->ln≠[]:=by
  intro u hu hs
  obtain ⟨u1,u2⟩:=hlc u hu
  unfold zBk at hs
  split at hs
  ·rename_i S hS
   simp only [strongB,List.any_eq_true,stepIs,Bool.and_eq_true,decide_eq_true_eq] at hs
   obtain ⟨y,hy,hy1,hy2⟩:=hs
   obtain ⟨f,cy,⟨S',hS',hf⟩,hcy,rfl⟩:=back u S u1 u2 hS y hy
   simp only at hy1 hy2
   have hcc:cy=cx:=by
    rcases numOf_inj c1 (c3' cy (List.mem_of_getElem? hcy)) hcxm hy1 with ⟨e1,e2⟩|e
    ·have a1:=labs_bare hM hcy e1
     have a2:=labs_bare hL hcx e2
     obtain ⟨g,l⟩:=cy
     obtain ⟨g',l'⟩:=cx
     simp only at e1 e2 a1 a2
     rw [e1,e2,a1,a2]
    ·exact e
   rw [hcc] at hcy
   exact ((hD u hu).eds S' hS' f hf).same hcy hy2
  ·cases hs
 have hf:zCR B.kind B.prs (zBz (M.labs.map (zCs cs)) M) (s,t) (zCs cs cx,x.2.2)=true:=by
  simp only [allK,allB,List.all_eq_true] at hall
  have:=hall _ hst
  rw [hSS] at this
  exact List.all_eq_true.1 this _ hmem
 unfold zCR at hf
 split at hf
 ·exact strong t ht hf
 ·rename_i hk1
  have hk2:B.kind=2:=by omega
  obtain ⟨u,hu,hb⟩:=bfs_some (lc:=lc) (fun u hu S hS y hy h0=>by
   obtain ⟨u1,u2⟩:=hlc u hu
   obtain ⟨f,cy,⟨S',hS',hf⟩,hcy,rfl⟩:=back u S u1 u2 hS y hy
   exact ((hD u hu).eds S' hS' f hf).calm hk2 ⟨cy.2,by rw [hcy];simp [← numOf_zero h0]⟩) _ _ _ (fun u hu=>by rw [List.mem_singleton.1 hu];exact ht) hf
  simp only [zDK,Bool.and_eq_true,Bool.or_eq_true,decide_eq_true_eq] at hb
  rcases hb.2 with ⟨h0,h1⟩|h1
  ·exact (hD u hu).stay hk2 (by simp [numOf_zero h0]) h1
  ·exact strong u hu h1
end Go.Proofs
namespace Go.Proofs.YthmnhjcmefjgjaaGreatDoor
open Go Go.AM Go.ChangeShapes Go.WideShapes Go.ChangeAt Go.RowKit
set_option maxRecDepth 100000
theorem ar_u47:Tryz.prog.underlying 47=some (.slice 3):=zAs Tryz.envOK und_47
section
variable {H:Type} {enc:TypeId×Value->H} {w:World} {base:Nat} {held:Bool}
theorem build_ints {n:Nat} {cs:List Value} {x:DataW H×List MemPlace} {σ:Sg} {h:AH} (hok:h.ok) (hH:HR w.heap.size σ h w) (htr:DataW.trod enc Tryz.prog w base (fun _=>true) held n 47 cs=some x) :
  ∃ (σ':Sg) (h':AH) (v v':Value) (ps:List Int),cs=[v']/\More w σ h σ' h'/\VR σ' v v'/\Arr h' 1 v (ps.map i1):=by
 obtain ⟨σ1,h1,v,v',els,aas,e1,m1,r1,a1,q1,q2⟩:=zCW (α:=Int) (R:=fun _ u a=>u=i1 a)
  (fun h k u a ex e=>e) ar_u47 (by decide) ar_c3_ (n:=n) (fun m hm=>by
   intro cs x σ h hok hH htr
   have hl:cs.length=1:=by obtain ⟨k,hk,_⟩:=DataW.trod_int ar_u3 htr;rw [hk];rfl
   obtain ⟨k,hk,_⟩:=DataW.trod_int ar_u3 htr
   subst hk
   exact ⟨σ,h,i1 k,k,.refl hH hok,.cons (.int _ _) .nil,rfl⟩) cs x σ h hok hH htr
 have:=els_map q1
 subst this
 exact ⟨σ1,h1,v,v',aas,e1,m1,r1,a1⟩
theorem build_RB {n:Nat} {cs:List Value} {x:DataW H×List MemPlace} {σ:Sg} {h:AH} (hok:h.ok) (hH:HR w.heap.size σ h w) (htr:DataW.trod enc Tryz.prog w base (fun _=>true) held n 32 cs=some x) :
  ∃ (σ':Sg) (h':AH) (vs:List Value) (B:GB),More w σ h σ' h'/\VRs σ' vs cs/\RB h' vs B:=by
 obtain ⟨m',hm',hl,hf⟩:=zCK ar_f32 htr
 rw [ar_c32] at hl
 obtain ⟨c0,c1,rfl⟩:=len2 hl
 obtain ⟨y0,g0⟩:=hf 0 3 0 rfl
 obtain ⟨y1,g1⟩:=hf 1 26 1 rfl
 rw [ar_c3_] at g0
 rw [ar_c26] at g1
 obtain ⟨k0,rfl⟩:=zBn g0
 obtain ⟨σ1,h1,v1,v1',ps,e1,m1,r1,a1,n1⟩:=build_prs hok hH g1
 cases e1
 exact ⟨σ1,h1,[.int .i64 k0,v1],⟨k0,ps⟩,m1,.cons (.int _ _) (.cons r1 .nil),⟨v1,rfl,a1⟩⟩
end
theorem fin5 {lo:Nat} {σ:Sg} {h:AH} {w:World} {x y:Value} {e:List Value} {L M:GL} {B:GB} {v:Value} {ch:List Int} {args':List Value} (H:HR lo σ h w) (hok:h.ok) (hx:RL h x L) (hy:RL h y M) (he:RB h e B) (hp:Arr h 1 v (ch.map i1))
  (ha:VRs σ [x,y,.agg ⟨e⟩,v] args'):Calls Tryz.prog 5 args'.toArray w (Ret (Goes lo σ w [(.bool true,h)])):=
 calls_of_evalI envE extE (by kernel_rfl) H ha (call5 hok hx hy he hp law_of_check)
theorem runs_calls {H:Type} {enc:TypeId×Value->H} {W:World} {base:Nat} {v0 v1 v2 v3:Value} {d0 d1 d2 d3:DataW H} {p0 p1 p2 p3:List MemPlace}
  (k0:Value.okWide Tryz.prog W .any base 25 v0) (k1:Value.okWide Tryz.prog W .any base 25 v1) (k2:Value.okWide Tryz.prog W .any base 32 v2) (k3:Value.okWide Tryz.prog W .any base 47 v3)
  (h0:DataW.Trod enc Tryz.prog W 0 (fun _=>true) true 25 v0 d0 p0) (h1:DataW.Trod enc Tryz.prog W 0 (fun _=>true) true 25 v1 d1 p1) (h2:DataW.Trod enc Tryz.prog W 0 (fun _=>true) true 32 v2 d2 p2) (h3:DataW.Trod enc Tryz.prog W 0 (fun _=>true) true 47 v3 d3 p3) :
  Calls Tryz.prog 5 #[v0,v1,v2,v3] W fun e W'=>e=.returned (.bool true)/\Below W.heap.size W W':=by
 obtain ⟨c0,rfl⟩:=agg_of ar_f25 k0
 obtain ⟨c1,rfl⟩:=agg_of ar_f25 k1
 obtain ⟨c2,rfl⟩:=agg_of ar_f32 k2
 obtain ⟨a3,n3,q3,rfl⟩:=okWide_slice ar_u47 k3
 obtain ⟨u0,t0⟩:=h0
 obtain ⟨u1,t1⟩:=h1
 obtain ⟨u2,t2⟩:=h2
 obtain ⟨u3,t3⟩:=h3
 have ok0:AH.ok ⟨.e,0,UNK⟩:=by unfold AH.ok;simp
 obtain ⟨s1,g1,x,L,m1,x1,x2,x3⟩:=build_RL ok0 (HR.empty W) t0
 obtain ⟨s2,g2,y,M,m2,y1,y2,y3⟩:=build_RL m1.ok m1.hr t1
 obtain ⟨s3,g3,e,B,m3,z1,z2⟩:=build_RB m2.ok m2.hr t2
 obtain ⟨s4,g4,v,v',ch,e4,m4,w1,w2⟩:=build_ints m3.ok m3.hr t3
 have e5:v'=.slice a3 n3 q3:=by
  have:([Value.slice a3 n3 q3]:List Value)=[v']:=e4
  cases this;rfl
 subst e5
 have hargs:VRs s4 [.agg ⟨x⟩,.agg ⟨y⟩,.agg ⟨e⟩,v] [.agg c0,.agg c1,.agg c2,.slice a3 n3 q3]:=
  .cons (.agg (x1.mono (Sg.le_trans m2.le (Sg.le_trans m3.le m4.le)))) (.cons (.agg (y1.mono (Sg.le_trans m3.le m4.le))) (.cons (.agg (z1.mono m4.le)) (.cons w1 .nil)))
 refine (fin5 m4.hr m4.ok (x2.ext (m2.ext.trans (m3.ext.trans m4.ext))) (y2.ext (m3.ext.trans m4.ext)) (z2.ext m4.ext) w2 hargs).mono fun e W' he=>?_
 cases e with
 | returned r=>
  obtain ⟨o,ho,τ,_,_,hv,hb⟩:=he
  simp only [List.mem_singleton] at ho
  subst ho
  cases hv
  exact ⟨rfl,hb⟩
 | _=>exact he.elim
end Go.Proofs.YthmnhjcmefjgjaaGreatDoor
