import Derived.Sort.AssemblyPlain
import Derived.Laws.Bits64
import Derived.Test.YthmnhjcmefjgjaaGreatDoorXAH
import Derived.Test.YthmnhjcmefjgjaaGreatDoorXAF
import Derived.Test.YthmnhjcmefjgjaaGreatDoorXAE
set_option linter.all false
set_option linter.unusedSectionVars false
set_option autoImplicit true
set_option relaxedAutoImplicit true
namespace Go.Proofs
open Go Go.AM
set_option maxRecDepth 100000
set_option maxHeartbeats 1000000
theorem box112 {h:AH} {kind:Int}:zh E 112 (h.new (.row [.nilFunc,.nilFunc,.string ⟨#[]⟩] 112 0 false)) (some (ptr h.next)) (some (.agg ⟨z8 kind⟩))=one (undef,(h.new (.row [.nilFunc,.nilFunc,.string ⟨#[]⟩] 112 0 false)).upd h.next (some (.row (z8 kind) 112 0 false))):=by
 rw [zw (P:=E) ts_112 (x:=.agg ⟨z8 kind⟩) (cs:=z8 kind) (zI h _) rfl (by rw [man_eq];rfl) (by simp) (by rw [man_eq];rfl)]
 rw [man_eq];rfl
theorem rel10 {k h:AH} {kind:Int} {vp:Value} {b1 b2 m ver b5 b8:Nat} {R:Rel} {SS TT:List zAF} (ho:Own k h) (hkind:zCi kind=true)
  (h5:h.get b5=some (.row [.int .i64 kind,vp] 32 0 false)) (h5l:b5<h.next)
  (h8:h.get b8=some (.row (zAk (ptr b1) (ptr b2) m) 176 0 false)) (h8l:b8<h.next) (hm:h.get m=some (.map (ent R) ver)) (hml:m<h.next) (hR:R.Nodup)
  (hg1:GV h b1 SS) (hg2:GV h b2 TT) (hb1:b1<h.next) (hb2:b2<h.next) (hSS:SSok SS) (hTT:SSok TT) (hin:∀ p∈R,(0<=p.1/\p.1<(SS.length:Int))/\(0<=p.2/\p.2<(TT.length:Int))) {V:Bool}
  (hV:V=(decide ((0,0)∈R)&&allK kind R SS TT&&allK kind (R.map zC0) TT SS)) :
  P72_10 false (KR E [.tmp 6] (fun x l=>x=.bool V/\k.next<=l.wm)) (ptr b5) (ptr b8) h:=by
 refine P72_10_of ?_
 have l5:=zD (P:=E) zAQ (o:=0) h5
 simp only [lnth] at l5
 have l5n:zG E 3 (h.new (.row [.nilFunc,.nilFunc,.string ⟨#[]⟩] 112 0 false)) (some (ptr b5))=some (.int .i64 kind):=by
  have:=zD (P:=E) zAQ (o:=0) ((zK (o:=.row [.nilFunc,.nilFunc,.string ⟨#[]⟩] 112 0 false) (by omega)).trans h5)
  simpa only [lnth] using this
 have fxf:Fx NoB h ((h.new (.row [.nilFunc,.nilFunc,.string ⟨#[]⟩] 112 0 false)).upd h.next (some (.row (z8 kind) 112 0 false))):=((Fx.refl ho.ext.ok).new _).upd (.inr (Nat.le_refl _)) _
 have hget:∀ c,c<h.next->((h.new (.row [.nilFunc,.nilFunc,.string ⟨#[]⟩] 112 0 false)).upd h.next (some (.row (z8 kind) 112 0 false))).get c=h.get c:=fun c hc=>fxf.get c hc (fun h=>h)
 have hnx:((h.new (.row [.nilFunc,.nilFunc,.string ⟨#[]⟩] 112 0 false)).upd h.next (some (.row (z8 kind) 112 0 false))).next=h.next+1:=rfl
 have fin:P72_11 false (KR E [.tmp 6] (fun x l=>x=.bool V/\k.next<=l.wm)) (ptr b8) (ptr h.next) ((h.new (.row [.nilFunc,.nilFunc,.string ⟨#[]⟩] 112 0 false)).upd h.next (some (.row (z8 kind) 112 0 false))):=
  rel11 (fxf.own ho (fun _ h=>h.elim)) hkind ((hget _ h8l).trans h8) (by omega) (zQ _ _ _) (by omega) ((hget _ hml).trans hm) (by omega) hR (hg1.fx fxf) (hg2.fx fxf) (by omega) (by omega) hSS hTT hin hV
 have hok1:(h.new (.row [.nilFunc,.nilFunc,.string ⟨#[]⟩] 112 0 false)).ok:=zCE ho.ext.ok _
 simp only [fa_32_0,Nat.add_zero,l5,zA,zR,call79 ho.ext.ok,call79 hok1,zO,zCA,true_and,pim hkind,z_112,zd,zL,zS,l5n,box112]
 exact ⟨fin,fin⟩
theorem GV.fxm {k l:AH} {bg m ver:Nat} {SS:List zAF} {es:List (Value×Value)} (g:GV k bg SS) (f:Fx (fun c=>c=m) k l) (hm:k.get m=some (.map es ver)):GV l bg SS:=by
 obtain ⟨loc,bs,cells,G⟩:=g.ex
 have hne:∀ {a:Nat} {vs:List Value} {ty es:Nat} {ro:Bool},k.get a=some (.row vs ty es ro)->a≠m:=by
  rintro a vs ty es ro h rfl
  rw [hm] at h;cases h
 refine ⟨loc,bs,cells,(f.get bg G.ltg (hne G.g)).trans G.g,(f.get bs G.lts (hne G.s)).trans G.s,G.len,G.ne,Nat.lt_of_lt_of_le G.ltg f.next,Nat.lt_of_lt_of_le G.lts f.next,G.locg,G.locs,fun i c S hc hS=>?_,G.blk,G.dis⟩
 rcases G.cell i c S hc hS with a|⟨b,a1,a2,a3⟩
 ·exact .inl a
 ·exact .inr ⟨b,a1,(f.get b a3 (hne a2)).trans a2,Nat.lt_of_lt_of_le a3 f.next⟩
theorem ne_map {k:AH} {a m ver:Nat} {vs:List Value} {ty es:Nat} {ro:Bool} {en:List (Value×Value)} (h:k.get a=some (.row vs ty es ro)) (hm:k.get m=some (.map en ver)):a≠m:=by
 rintro rfl
 rw [hm] at h;cases h
theorem rel4 {k h1:AH} {kind n1 n2:Int} {vp vl ve wl we:Value} {prs:Rel} {b1 b2 m b3 b4 b5 b8 ver0:Nat} {es0:List (Value×Value)} {SS TT:List zAF} (hkind:zCi kind=true)
  (hm0:h1.get m=some (.map es0 ver0)) (hml:m<h1.next) (hkm:k.next<=m)
  (h3:h1.get b3=some (.row [.int .i64 n1,vl,ve] 25 0 false)) (h3l:b3<h1.next) (h4:h1.get b4=some (.row [.int .i64 n2,wl,we] 25 0 false)) (h4l:b4<h1.next)
  (h5:h1.get b5=some (.row [.int .i64 kind,vp] 32 0 false)) (h5l:b5<h1.next)
  (h8:h1.get b8=some (.row (zAk (ptr b1) (ptr b2) m) 176 0 false)) (h8l:b8<h1.next)
  (hg1:GV h1 b1 SS) (hg2:GV h1 b2 TT) (hb1:b1<h1.next) (hb2:b2<h1.next) (hSS:SSok SS) (hTT:SSok TT) (hn1:n1=(SS.length:Int)) (hn2:n2=(TT.length:Int))
  {ap:Option Addr} {cp:Nat} (hvp:vp=.slice ap prs.length cp) (ha:Arr k 2 vp (prs.map zE)) (hpl:prs.length<=200000) (hpos:∀ p∈prs,0<=p.1/\0<=p.2) {V:Bool} (hV:V=relB kind prs SS TT n1 n2) :
  ∀ (r i:Nat),i+r=prs.length->∀ h Rn ver,Own k h->Fx (fun c=>c=m) h1 h->h.get m=some (.map (ent Rn) ver)->Rn.Nodup->(∀ p,p∈Rn ↔ p∈prs.take i)->(prs.take i).all (inB n1 n2)=true->
   P72_4 false (KR E [.tmp 6] (fun x l=>x=.bool V/\k.next<=l.wm)) (ptr b3) (ptr b4) (ptr b5) (ptr b8) vp (.int .i64 (prs.length:Int)) (.int .i64 (i:Int)) h:=by
 intro r
 induction r with
 | zero=>
  intro i hi h Rn ver ho f hm hnd hmem hall
  refine P72_4_of ?_
  have:¬ ((i:Int)<(prs.length:Int)):=by omega
  simp only [zb,zA,this,decide_false,zAA]
  rw [List.take_of_length_le (by omega)] at hmem hall
  have hin:∀ p∈Rn,(0<=p.1/\p.1<(SS.length:Int))/\(0<=p.2/\p.2<(TT.length:Int)):=fun p hp=>by
   have hp':=(hmem p).1 hp
   have h1':=List.all_eq_true.1 hall p hp'
   simp only [inB,Bool.and_eq_true,decide_eq_true_eq] at h1'
   have h2':=hpos p hp'
   omega
  have hnx:=f.next
  refine rel10 ho hkind ((f.get b5 h5l (ne_map h5 hm0)).trans h5) (by omega) ((f.get b8 h8l (ne_map h8 hm0)).trans h8) (by omega) hm (by omega) hnd (hg1.fxm f hm0) (hg2.fxm f hm0) (by omega) (by omega) hSS hTT hin ?_
  rw [hV]
  unfold relB
  rw [hall,SameR.dec hmem,allK_same hmem,allK_same (R:=Rn.map zC0) (R':=prs.map zC0) (fun p=>by
   simp only [List.mem_map]
   exact ⟨fun ⟨q,a,b⟩=>⟨q,(hmem q).1 a,b⟩,fun ⟨q,a,b⟩=>⟨q,(hmem q).2 a,b⟩⟩)]
  rfl
 | succ r ih=>
  intro i hi h Rn ver ho f hm hnd hmem hall
  have hin:i<prs.length:=by omega
  refine P72_4_of ?_
  have hlt:((i:Int)<(prs.length:Int)):=by omega
  simp only [zb,zA,hlt,decide_true,z7]
  refine P72_5_of ?_
  have hat:(prs.map zE)[i]?=some (zE prs[i]):=by simp [hin]
  obtain ⟨b,o,c,vs,ty,es,ro,hv,hb,hlt',hle,hz,hzl⟩:=ha.load hat
  have hp:=hpos prs[i] (List.getElem_mem hin)
  have hpt:prs.take (i+1)=prs.take i++[prs[i]]:=by rw [List.take_add_one];simp [hin]
  have hpm:prs[i]∈prs:=List.getElem_mem hin
  generalize prs[i]=p at hz hp hpt hpm
  rw [hvp] at hv
  simp only [Value.slice.injEq] at hv
  obtain ⟨hv1,_,_⟩:=hv
  subst hv1
  have gb:=(ho.ext.get b hlt').trans hb
  simp only [hvp,ia_26 hin,zA,za ta_54 gb hle,hz,z_54,zd,zL,zS,box54]
  refine P72_6_of ?_
  have fb:Fx NoB h ((h.new (.row [.int .i64 0,.int .i64 0] 54 0 false)).upd h.next (some (.row (zE p) 54 0 false))):=((Fx.refl ho.ext.ok).new _).upd (.inr (Nat.le_refl _)) _
  have tb:((h.new (.row [.int .i64 0,.int .i64 0] 54 0 false)).upd h.next (some (.row (zE p) 54 0 false))).get h.next=some (.row (zE p) 54 0 false):=zQ _ _ _
  have nb:((h.new (.row [.int .i64 0,.int .i64 0] 54 0 false)).upd h.next (some (.row (zE p) 54 0 false))).next=h.next+1:=rfl
  generalize ((h.new (.row [.int .i64 0,.int .i64 0] 54 0 false)).upd h.next (some (.row (zE p) 54 0 false)))=k1 at fb tb nb
  have o1:=fb.own ho (fun _ h=>h.elim)
  have f1:Fx (fun c=>c=m) h1 k1:=f.trans fb (fun _ h=>h.elim)
  have hm1:k1.get m=_:=(fb.get m (by have:=f.next;omega) (fun h=>h)).trans hm
  have c0:=zD (P:=E) zAQ (o:=0) tb
  have c1:=zD (P:=E) zAQ (o:=1) tb
  have x0:=zD (P:=E) zAQ (o:=0) ((f1.get b3 h3l (ne_map h3 hm0)).trans h3)
  have y0:=zD (P:=E) zAQ (o:=0) ((f1.get b4 h4l (ne_map h4 hm0)).trans h4)
  simp only [lnth,zE] at c0 c1 x0 y0
  simp only [ia54_0,ia54_1,c0,zBT,Nat.add_zero,x0,zA,zAx]
  have bad:inB n1 n2 p=false->P72_7 false (KR E [.tmp 6] (fun x l=>x=.bool V/\k.next<=l.wm)) k1:=by
   intro hb
   refine P72_7_of ?_
   simp only [zA,zAD,zT,true_and]
   refine ⟨?_,o1.wm⟩
   rw [hV]
   have:prs.all (inB n1 n2)=false:=by
    rw [List.all_eq_false]
    exact ⟨p,hpm,by rw [hb];simp⟩
   unfold relB
   rw [this];rfl
  by_cases e1:n1<=p.1
  ·simp only [e1,decide_true,zN,show (true==false)=false from rfl,cond_false,zA,zJ,cond_true,z7]
   exact bad (by simp [inB];omega)
  ·simp only [e1,decide_false,zN,beq_self_eq_true,cond_true,c1,zBT,Nat.add_zero,y0,zA,zAx,zJ,cond_false]
   by_cases e2:n2<=p.2
   ·simp only [e2,decide_true,z7]
    exact bad (by simp [inB];omega)
   ·simp only [e2,decide_false,zAA]
    refine P72_8_of ?_
    have l8:=zD (P:=E) ta_174 (o:=2) ((f1.get b8 h8l (ne_map h8 hm0)).trans h8)
    simp only [lnth,zAk] at l8
    have lp:=za (P:=E) ta_54 (o:=0) tb (by simp [zE])
    rw [List.drop_zero,List.take_of_length_le (by simp [zE])] at lp
    obtain ⟨R',u1,u2,u3⟩:=upd174 hm1 hnd p
    simp only [fa_176_2,Nat.zero_add,l8,lp,zA,u1,zL]
    refine P72_9_of ?_
    simp only [zAM _ (add1 hin (by omega)),zA]
    have f2:Fx (fun c=>c=m) h1 (k1.upd m (some (.map (ent R') (ver+1)))):=f1.upd (.inl rfl) _
    have f3:Fx (fun c=>c=m) k1 (k1.upd m (some (.map (ent R') (ver+1)))):=Fx.upd (P:=fun c=>c=m) (Fx.refl o1.ext.ok) (.inl rfl) _
    have:=ih (i+1) (by omega) _ R' (ver+1) (f3.own o1 (fun c h=>by rw [h];exact hkm)) f2 (zQ _ _ _) u2 (fun q=>by
     rw [u3,hmem,hpt,List.mem_append,List.mem_singleton]
     exact Or.comm) (by
     rw [hpt,List.all_append,hall]
     simp [inB];omega)
    rw [hvp] at this
    simpa using this
theorem veq_ptr (n:Nat) (a:Option Addr):veq n (.pointer a) (.pointer a)=true:=by cases n <;> (show decide (a=a)=true;simp)
theorem bs82 {a b c a' b' c':Value} {h:AH}:zi E 82 2 (some [(0,.agg #[a,b,c]),(1,.agg #[a',b',c'])]) h=one (.slice (some ⟨h.next,0,none⟩) 2 2,h.new (.row [a,b,c,a',b',c'] 25 0 false)):=by kernel_rfl
def relV (L M:GL) (B:GB):Bool:=match graphsOf [L,M] with
 | [SS,TT]=>relB B.kind B.prs SS TT L.n M.n
 | _=>false
theorem GrOf.ss {L:GL} {x:Gr} {loc:Nat} {h:AH} (g:GrOf L x) (G:GG loc h x.1 x.2.1 x.2.2.1 x.2.2.2) (hL:zq L=false):SSok x.2.2.2/\L.n=(x.2.2.2.length:Int):=by
 have hs:=zC9 hL
 have h1:=g.1
 have h2:=G.len
 refine ⟨⟨by omega,fun i S hS=>?_⟩,by omega⟩
 obtain ⟨a,b⟩:=g.2 i S hS
 refine ⟨by omega,fun y hy=>?_⟩
 have:=(a y hy).1
 omega
theorem lnk_ok {B:GB} (h:zBD B=0):zCi B.kind=true/\B.prs.length<=200000/\∀ p∈B.prs,0<=p.1/\0<=p.2:=by
 unfold zBD at h
 cases h1:zCi B.kind with
 | false=>rw [h1] at h;simp at h
 | true=>
  rw [h1] at h
  simp only [Bool.true_eq_false,if_false] at h
  by_cases h2:200000<B.prs.length
  ·rw [if_pos h2] at h;omega
  ·rw [if_neg h2] at h
   cases h3:zAE (zCB B.prs) B.prs.length 0 with
   | true=>rw [h3] at h;simp at h
   | false=>
    refine ⟨rfl,by omega,fun p hp=>?_⟩
    obtain ⟨i,hi⟩:=List.mem_iff_getElem?.1 hp
    have:=zBk h3 i (Nat.zero_le _) (by have:=(List.getElem?_eq_some_iff.1 hi).1;omega)
    unfold zCB at this
    rw [hi] at this
    simp only [Bool.or_eq_false_iff,decide_eq_false_iff_not] at this
    omega
theorem call72 {k:AH} {x y:Value} {e:List Value} {L M:GL} {B:GB} (hok:k.ok) (hx:RL k x L) (hy:RL k y M) (hL:zq L=false) (hM:zq M=false) (he:RB k e B) (hB:zBD B=0) :
  (zX E).call 72 [x,y,.agg ⟨e⟩] k=some [(.bool (relV L M B),k)]:=by
 obtain ⟨vl,ve,elsL,rfl,x2,x3,x4⟩:=hx.ex
 obtain ⟨wl,we,elsM,rfl,y2,y3,y4⟩:=hy.ex
 obtain ⟨vp,rfl,e2⟩:=he.ex
 obtain ⟨hkind,hpl,hpos⟩:=lnk_ok hB
 refine F72_flat (s:=false) hok rfl (P72_0_of ?_)
 simp only [zd,zL,zS,zA]
 refine P72_1_of ?_
 have o1:=(((Own.fresh k).new (.row [.int .i64 L.n,vl,ve] 25 0 false)).new (.row [.int .i64 M.n,wl,we] 25 0 false)).new (.row [.int .i64 B.kind,vp] 32 0 false)
 have g3:(((k.fresh.new (.row [.int .i64 L.n,vl,ve] 25 0 false)).new (.row [.int .i64 M.n,wl,we] 25 0 false)).new (.row [.int .i64 B.kind,vp] 32 0 false)).get k.next=some (.row [.int .i64 L.n,vl,ve] 25 0 false):=
  (zK (by simp;omega)).trans ((zK (by simp)).trans (zI k.fresh _))
 have g4:(((k.fresh.new (.row [.int .i64 L.n,vl,ve] 25 0 false)).new (.row [.int .i64 M.n,wl,we] 25 0 false)).new (.row [.int .i64 B.kind,vp] 32 0 false)).get (k.next+1)=some (.row [.int .i64 M.n,wl,we] 25 0 false):=
  (zK (by simp)).trans (zI (k.fresh.new _) _)
 have g5:(((k.fresh.new (.row [.int .i64 L.n,vl,ve] 25 0 false)).new (.row [.int .i64 M.n,wl,we] 25 0 false)).new (.row [.int .i64 B.kind,vp] 32 0 false)).get (k.next+2)=some (.row [.int .i64 B.kind,vp] 32 0 false):=zI ((k.fresh.new _).new _) _
 have n1:(((k.fresh.new (.row [.int .i64 L.n,vl,ve] 25 0 false)).new (.row [.int .i64 M.n,wl,we] 25 0 false)).new (.row [.int .i64 B.kind,vp] 32 0 false)).next=k.next+3:=rfl
 simp only [zZ,AH.next_new]
 generalize (((k.fresh.new (.row [.int .i64 L.n,vl,ve] 25 0 false)).new (.row [.int .i64 M.n,wl,we] 25 0 false)).new (.row [.int .i64 B.kind,vp] 32 0 false))=k1 at o1 g3 g4 g5 n1
 have la:=za (P:=E) ta_25 (o:=0) g3 (by simp)
 have lb:=za (P:=E) ta_25 (o:=0) g4 (by simp)
 simp only [List.drop_zero,List.take] at la lb
 simp only [la,lb,zA,bs82,zL,zR]
 have o2:=o1.new (.row [.int .i64 L.n,vl,ve,.int .i64 M.n,wl,we] 25 0 false)
 have t2:=zI k1 (.row [.int .i64 L.n,vl,ve,.int .i64 M.n,wl,we] 25 0 false)
 have g3':(k1.new (.row [.int .i64 L.n,vl,ve,.int .i64 M.n,wl,we] 25 0 false)).get k.next=_:=(zK (by omega)).trans g3
 have g4':(k1.new (.row [.int .i64 L.n,vl,ve,.int .i64 M.n,wl,we] 25 0 false)).get (k.next+1)=_:=(zK (by omega)).trans g4
 have g5':(k1.new (.row [.int .i64 L.n,vl,ve,.int .i64 M.n,wl,we] 25 0 false)).get (k.next+2)=_:=(zK (by omega)).trans g5
 have n2:(k1.new (.row [.int .i64 L.n,vl,ve,.int .i64 M.n,wl,we] 25 0 false)).next=k1.next+1:=rfl
 generalize (k1.new (.row [.int .i64 L.n,vl,ve,.int .i64 M.n,wl,we] 25 0 false))=k2 at o2 t2 g3' g4' g5' n2
 have hargs:Args k2 (.slice (some ⟨k1.next,0,none⟩) 2 2) [[.int .i64 L.n,vl,ve],[.int .i64 M.n,wl,we]] [L,M]:=by
  refine ⟨?_,rfl,by simp,fun i ee LL h1 h2=>?_,fun i LL h=>?_⟩
  ·refine Arr.row (els:=[[.int .i64 L.n,vl,ve],[.int .i64 M.n,wl,we]]) t2 (by omega) (by simp) (fun i ee hee=>?_)
   match i with
   | 0=>simp at hee;subst hee;exact ⟨rfl,rfl⟩
   | 1=>simp at hee;subst hee;exact ⟨rfl,rfl⟩
   | i+2=>simp at hee
  ·match i with
   | 0=>simp at h1 h2;subst h1 h2;exact hx.ext o2.ext
   | 1=>simp at h1 h2;subst h1 h2;exact hy.ext o2.ext
   | i+2=>simp at h1
  ·match i with
   | 0=>simp at h;subst h;exact hL
   | 1=>simp at h;subst h;exact hM
   | i+2=>simp at h
 refine ((call90 o2.ext.ok (by simp) hargs).weak).mono fun z hz=>?_
 obtain ⟨gs,hO,hlen,hgr,hmap,fx⟩:=hz
 obtain ⟨out,k3⟩:=z
 simp only at hO fx ⊢
 match gs,hlen with
 | [x1,x2],_=>
  have o3:=fx.own o2 (fun _ h=>h.elim)
  have G1:=hO.gg x1 (by simp)
  have G2:=hO.gg x2 (by simp)
  obtain ⟨s1,s2⟩:=(hgr 0 x1 L rfl rfl).ss G1 hL
  obtain ⟨r1,r2⟩:=(hgr 1 x2 M rfl rfl).ss G2 hM
  have V1:GV k3 x1.1 x1.2.2.2:=⟨_,_,_,G1⟩
  have V2:GV k3 x2.1 x2.2.2.2:=⟨_,_,_,G2⟩
  have hrv:relV L M B=relB B.kind B.prs x1.2.2.2 x2.2.2.2 L.n M.n:=by
   unfold relV
   rw [← hmap]
   rfl
  rcases hO.sl with ⟨_,h⟩|⟨bo,rfl,hbo,hbol,hbolo⟩
  ·cases h
  ·have p3:k3.get k.next=_:=(fx.get _ (by omega) (fun h=>h)).trans g3'
   have p4:k3.get (k.next+1)=_:=(fx.get _ (by omega) (fun h=>h)).trans g4'
   have p5:k3.get (k.next+2)=_:=(fx.get _ (by omega) (fun h=>h)).trans g5'
   have hnx:=fx.next
   refine P72_2_of ?_
   have m0:=zD (P:=E) zCz (o:=0) hbo
   have m1:=zD (P:=E) zCz (o:=1) hbo
   simp only [List.map_cons,List.map_nil,lnth] at m0 m1
   have i0:zH E 126 (some (.slice (some ⟨bo,0,none⟩) [x1,x2].length (UNK+1))) (some (.int .i64 0))=some (.pointer (some ⟨bo,0,none⟩)):=ia_126 (k:=0) (by simp)
   have i1:zH E 126 (some (.slice (some ⟨bo,0,none⟩) [x1,x2].length (UNK+1))) (some (.int .i64 1))=some (.pointer (some ⟨bo,1,none⟩)):=ia_126 (k:=1) (by simp)
   have rest:∀ (h:AH) (m b8 ver:Nat),Fx NoB k3 h->h.get m=some (.map (ent []) ver)->m<h.next->k3.next<=m->h.get b8=some (.row (zAk (ptr x1.1) (ptr x2.1) m) 176 0 false)->b8<h.next->
     P72_3 false (KR E [.tmp 6] (fun x l=>x=.bool (relV L M B)/\k.next<=l.wm)) (ptr k.next) (ptr (k.next+1)) (ptr (k.next+2)) (ptr b8) h:=by
    intro h m b8 ver f hm hml hkm h8 h8l
    refine P72_3_of ?_
    have fn:=f.next
    have w3:=(f.get k.next (by omega) (fun h=>h)).trans p3
    have w4:=(f.get (k.next+1) (by omega) (fun h=>h)).trans p4
    have w5:=(f.get (k.next+2) (by omega) (fun h=>h)).trans p5
    have l1:=zD (P:=E) ta_26 (o:=1) w5
    simp only [lnth] at l1
    obtain ⟨ap,cp,hvp⟩:=e2.slice
    rw [List.length_map] at hvp
    rw [hvp] at l1
    simp only [zCD,Nat.zero_add,l1,zA,len72_3_2]
    have:=rel4 (k:=k) (h1:=h) (kind:=B.kind) (prs:=B.prs) (V:=relV L M B) hkind hm hml (by omega) w3 (by omega) w4 (by omega) w5 (by omega) h8 h8l (V1.fx f) (V2.fx f) (by have:=G1.ltg;omega) (by have:=G2.ltg;omega) s1 r1 s2 r2 hvp e2 hpl hpos hrv
     B.prs.length 0 (by omega) h [] ver (f.own o3 (fun _ h=>h.elim)) (Fx.refl f.ok) hm (by simp) (by simp) (by simp)
    rw [hvp] at this
    simpa using this
   have hne:∀ {o:AObj} {c:Nat},c<k3.next->(k3.new o).get c=k3.get c:=fun hc=>zK (by omega)
   have hne2:∀ {o o':AObj} {c:Nat},c<k3.next->((k3.new o).new o').get c=k3.get c:=fun hc=>(zK (by simp;omega)).trans (zK (by omega))
   have a0:∀ {o:AObj},zG E 128 (k3.new o) (some (.pointer (some ⟨bo,0,none⟩)))=some (ptr x1.1):=fun {o}=>by
    have:=zD (P:=E) zCz (o:=0) ((hne (o:=o) hbol).trans hbo)
    simpa only [List.map_cons,List.map_nil,lnth] using this
   have a1:∀ {o:AObj},zG E 128 (k3.new o) (some (.pointer (some ⟨bo,1,none⟩)))=some (ptr x2.1):=fun {o}=>by
    have:=zD (P:=E) zCz (o:=1) ((hne (o:=o) hbol).trans hbo)
    simpa only [List.map_cons,List.map_nil,lnth] using this
   have b0:∀ {o o':AObj},zG E 128 ((k3.new o).new o') (some (.pointer (some ⟨bo,0,none⟩)))=some (ptr x1.1):=fun {o o'}=>by
    have:=zD (P:=E) zCz (o:=0) ((hne2 (o:=o) (o':=o') hbol).trans hbo)
    simpa only [List.map_cons,List.map_nil,lnth] using this
   have b1:∀ {o o':AObj},zG E 128 ((k3.new o).new o') (some (.pointer (some ⟨bo,1,none⟩)))=some (ptr x2.1):=fun {o o'}=>by
    have:=zD (P:=E) zCz (o:=1) ((hne2 (o:=o) (o':=o') hbol).trans hbo)
    simpa only [List.map_cons,List.map_nil,lnth] using this
   have hst2:=zw (P:=E) ts_176 (o:=0) (h:=(k3.new (.row [.pointer none,.pointer none,.map none] 176 0 false)).new (.map [] 0)) (x:=.agg ⟨zAk (ptr x1.1) (ptr x2.1) (k3.next+1)⟩) (cs:=zAk (ptr x1.1) (ptr x2.1) (k3.next+1)) ((zK (by simp)).trans (zI k3 _)) rfl rfl (by simp) (by simp [zAk,zn])
   have hst1:=zw (P:=E) ts_176 (o:=0) (h:=(k3.new (.map [] 0)).new (.row [.pointer none,.pointer none,.map none] 176 0 false)) (b:=k3.next+1) (x:=.agg ⟨zAk (ptr x1.1) (ptr x2.1) k3.next⟩) (cs:=zAk (ptr x1.1) (ptr x2.1) k3.next) (zI (k3.new _) _) rfl rfl (by simp) (by simp [zAk,zn])
   simp only [zA,i0,i1,m0,m1,zL,a0,a1,b0,b1,veq_ptr,true_and,pb176,z_176,zd,zS,AH.next_new,hst1,hst2]
   refine ⟨?_,?_⟩
   ·have ff:Fx NoB k3 (((k3.new (.map [] 0)).new (.row [.pointer none,.pointer none,.map none] 176 0 false)).upd (k3.next+1) (some (.row (zAk (ptr x1.1) (ptr x2.1) k3.next) 176 0 false))):=(((Fx.refl o3.ext.ok).new _).new _).upd (.inr (by omega)) _
    exact rest _ k3.next (k3.next+1) 0 ff ((zU (by omega)).trans ((zK (by simp)).trans (zI k3 _))) (by show k3.next<k3.next+2;omega) (Nat.le_refl _) (zQ _ _ _) (by show k3.next+1<k3.next+2;omega)
   ·have ff:Fx NoB k3 (((k3.new (.row [.pointer none,.pointer none,.map none] 176 0 false)).new (.map [] 0)).upd k3.next (some (.row (zAk (ptr x1.1) (ptr x2.1) (k3.next+1)) 176 0 false))):=(((Fx.refl o3.ext.ok).new _).new _).upd (.inr (Nat.le_refl _)) _
    exact rest _ (k3.next+1) k3.next 0 ff ((zU (by omega)).trans (zI (k3.new _) _)) (by show k3.next+1<k3.next+2;omega) (by omega) (zQ _ _ _) (by show k3.next<k3.next+2;omega)
theorem bs83 {a b:Value} {h:AH}:zi E 83 1 (some [(0,.agg #[a,b])]) h=one (.slice (some ⟨h.next,0,none⟩) 1 1,h.new (.row [a,b] 32 0 false)):=by kernel_rfl
def zAu (L M:GL) (B:GB):Int:=if zq L||zq M then 8 else if zBD B≠0 then zBD B else if relV L M B then 0 else 360
theorem call15 {k:AH} {x y:Value} {e:List Value} {L M:GL} {B:GB} (hok:k.ok) (hx:RL k x L) (hy:RL k y M) (he:RB k e B) :
  (zX E).call 15 [x,y,.agg ⟨e⟩] k=some [(.int .i64 (zAu L M B),k)]:=by
 obtain ⟨vl,ve,elsL,rfl,x2,x3,x4⟩:=id hx.ex
 obtain ⟨wl,we,elsM,rfl,y2,y3,y4⟩:=id hy.ex
 obtain ⟨vp,rfl,e2⟩:=id he.ex
 refine F15_flat (s:=true) hok rfl (P15_0_of ?_)
 simp only [zd,zL,zS,zA]
 refine P15_1_of ?_
 have o1:=(((Own.fresh k).new (.row [.int .i64 L.n,vl,ve] 25 0 false)).new (.row [.int .i64 M.n,wl,we] 25 0 false)).new (.row [.int .i64 B.kind,vp] 32 0 false)
 have g3:(((k.fresh.new (.row [.int .i64 L.n,vl,ve] 25 0 false)).new (.row [.int .i64 M.n,wl,we] 25 0 false)).new (.row [.int .i64 B.kind,vp] 32 0 false)).get k.next=some (.row [.int .i64 L.n,vl,ve] 25 0 false):=
  (zK (by simp;omega)).trans ((zK (by simp)).trans (zI k.fresh _))
 have g4:(((k.fresh.new (.row [.int .i64 L.n,vl,ve] 25 0 false)).new (.row [.int .i64 M.n,wl,we] 25 0 false)).new (.row [.int .i64 B.kind,vp] 32 0 false)).get (k.next+1)=some (.row [.int .i64 M.n,wl,we] 25 0 false):=
  (zK (by simp)).trans (zI (k.fresh.new _) _)
 have g5:(((k.fresh.new (.row [.int .i64 L.n,vl,ve] 25 0 false)).new (.row [.int .i64 M.n,wl,we] 25 0 false)).new (.row [.int .i64 B.kind,vp] 32 0 false)).get (k.next+2)=some (.row [.int .i64 B.kind,vp] 32 0 false):=zI ((k.fresh.new _).new _) _
 have n1:(((k.fresh.new (.row [.int .i64 L.n,vl,ve] 25 0 false)).new (.row [.int .i64 M.n,wl,we] 25 0 false)).new (.row [.int .i64 B.kind,vp] 32 0 false)).next=k.next+3:=rfl
 simp only [zZ,AH.next_new]
 generalize (((k.fresh.new (.row [.int .i64 L.n,vl,ve] 25 0 false)).new (.row [.int .i64 M.n,wl,we] 25 0 false)).new (.row [.int .i64 B.kind,vp] 32 0 false))=k1 at o1 g3 g4 g5 n1
 have la:=za (P:=E) ta_25 (o:=0) g3 (by simp)
 have lb:=za (P:=E) ta_25 (o:=0) g4 (by simp)
 simp only [List.drop_zero,List.take] at la lb
 have o2:=o1.new (.row [.int .i64 L.n,vl,ve,.int .i64 M.n,wl,we] 25 0 false)
 have t2:=zI k1 (.row [.int .i64 L.n,vl,ve,.int .i64 M.n,wl,we] 25 0 false)
 have n2:(k1.new (.row [.int .i64 L.n,vl,ve,.int .i64 M.n,wl,we] 25 0 false)).next=k1.next+1:=rfl
 have g3':(k1.new (.row [.int .i64 L.n,vl,ve,.int .i64 M.n,wl,we] 25 0 false)).get k.next=_:=(zK (by omega)).trans g3
 have g4':(k1.new (.row [.int .i64 L.n,vl,ve,.int .i64 M.n,wl,we] 25 0 false)).get (k.next+1)=_:=(zK (by omega)).trans g4
 have g5':(k1.new (.row [.int .i64 L.n,vl,ve,.int .i64 M.n,wl,we] 25 0 false)).get (k.next+2)=_:=(zK (by omega)).trans g5
 simp only [la,lb,zA,bs82,zL,zR]
 generalize (k1.new (.row [.int .i64 L.n,vl,ve,.int .i64 M.n,wl,we] 25 0 false))=k2 at o2 t2 n2 g3' g4' g5'
 have hc70:=call70 (h0:=k2) (k:=k2) (v:=.slice (some ⟨k1.next,0,none⟩) 2 2) (els:=[[.int .i64 L.n,vl,ve],[.int .i64 M.n,wl,we]]) (Ls:=[L,M])
  (Arr.row (els:=[[.int .i64 L.n,vl,ve],[.int .i64 M.n,wl,we]]) t2 (by omega) (by simp) (fun i ee hee=>by
   match i with
   | 0=>simp at hee;subst hee;exact ⟨rfl,rfl⟩
   | 1=>simp at hee;subst hee;exact ⟨rfl,rfl⟩
   | i+2=>simp at hee)) rfl (by simp) (fun i ee LL h1 h2=>by
   match i with
   | 0=>simp at h1 h2;subst h1 h2;exact hx.ext o2.ext
   | 1=>simp at h1 h2;subst h1 h2;exact hy.ext o2.ext
   | i+2=>simp at h1) (Ext.refl o2.ext.ok)
 have hbad:zAE (badAt [L,M]) 2 0=(zq L||zq M):=by
  simp [zAE,badAt]
 simp only [List.length_cons,List.length_nil,hbad] at hc70
 simp only [hc70,zO]
 refine P15_2_of ?_
 cases hb:(zq L||zq M) with
 | true=>
  simp only [if_true,zA,zBL,show decide ((8:Int)=0)=false from rfl,Bool.not_false,z7]
  refine P15_3_of ?_
  simp only [zA,zAD,zT,true_and]
  exact ⟨by simp [zAu,hb],o2.wm⟩
 | false=>
  obtain ⟨hL,hM⟩:=Bool.or_eq_false_iff.1 hb
  simp only [Bool.false_eq_true,if_false,zA,zBL,decide_true,Bool.not_true,zAA]
  refine P15_4_of ?_
  have lc:=za (P:=E) ta_32 (o:=0) g5' (by simp)
  simp only [List.drop_zero,List.take] at lc
  simp only [lc,zA,bs83,zL,zR]
  have o3:=o2.new (.row [.int .i64 B.kind,vp] 32 0 false)
  have t3:=zI k2 (.row [.int .i64 B.kind,vp] 32 0 false)
  have g3'':(k2.new (.row [.int .i64 B.kind,vp] 32 0 false)).get k.next=_:=(zK (by omega)).trans g3'
  have g4'':(k2.new (.row [.int .i64 B.kind,vp] 32 0 false)).get (k.next+1)=_:=(zK (by omega)).trans g4'
  have g5'':(k2.new (.row [.int .i64 B.kind,vp] 32 0 false)).get (k.next+2)=_:=(zK (by omega)).trans g5'
  have n3:(k2.new (.row [.int .i64 B.kind,vp] 32 0 false)).next=k2.next+1:=rfl
  generalize (k2.new (.row [.int .i64 B.kind,vp] 32 0 false))=k3 at o3 t3 g3'' g4'' g5'' n3
  have hc71:=call71 (h0:=k3) (k:=k3) (v:=.slice (some ⟨k2.next,0,none⟩) 1 1) (els:=[[.int .i64 B.kind,vp]]) (Bs:=[B])
   (Arr.row (els:=[[.int .i64 B.kind,vp]]) t3 (by omega) (by simp) (fun i ee hee=>by
    match i with
    | 0=>simp at hee;subst hee;exact ⟨rfl,rfl⟩
    | i+1=>simp at hee)) rfl (by simp) (fun i ee BB h1 h2=>by
    match i with
    | 0=>simp at h1 h2;subst h1 h2;exact he.ext o3.ext
    | i+1=>simp at h1) (Ext.refl o3.ext.ok)
  have herr:zBF [B] 1 0=zBD B:=by
   simp only [zBF,errAt,List.getElem?_cons_zero]
   by_cases h:zBD B=0 <;> simp [h]
  simp only [List.length_cons,List.length_nil] at hc71
  rw [show (0+1:Nat)=1 from rfl,herr] at hc71
  simp only [hc71,zO]
  refine P15_5_of ?_
  by_cases hle:zBD B=0
  ·simp only [zA,zBL,hle,decide_true,Bool.not_true,zAA]
   refine P15_7_of ?_
   have la:=za (P:=E) ta_25 (o:=0) g3'' (by simp)
   have lb:=za (P:=E) ta_25 (o:=0) g4'' (by simp)
   have lc:=za (P:=E) ta_32 (o:=0) g5'' (by simp)
   simp only [List.drop_zero,List.take] at la lb lc
   simp only [la,lb,lc,zA,zR,call72 o3.ext.ok (hx.ext o3.ext) (hy.ext o3.ext) hL hM (he.ext o3.ext) hle,zO,zp,zBh]
   refine ⟨fun h=>P15_8_of ?_,fun h=>P15_9_of ?_⟩
   ·simp only [zA,zAD,zT,true_and]
    have:relV L M B=false:=by simpa using h
    exact ⟨by simp [zAu,hb,hle,this],o3.wm⟩
   ·simp only [zA,zAD,zT,true_and]
    have:relV L M B=true:=by simpa using h
    exact ⟨by simp [zAu,hb,hle,this],o3.wm⟩
  ·simp only [zA,zBL,hle,decide_false,Bool.not_false,z7]
   refine P15_6_of ?_
   simp only [zA,zAD,zT,true_and]
   exact ⟨by simp [zAu,hb,hle],o3.wm⟩
theorem stepsGo_len {nums:List Int}:∀ {l:List (Int×Int×Int)} {SS:List zAF},(zCr nums SS l).length=SS.length
 | [],_=>rfl
 | e::l,SS=>by simp only [zCr];rw [stepsGo_len];simp
theorem stepsOf_len (nums:List Int) (L:GL):(zAz nums L).length=L.n.toNat:=by
 unfold zAz
 rw [stepsGo_len,List.length_replicate]
theorem Fx.back {P:Nat->Prop} {k h:AH} (f:Fx P k.fresh h):Fx P k ⟨h.t,h.next,cond (Nat.ble k.wm h.wm) k.wm h.wm⟩:=by
 refine ⟨?_,f.next,fun c hc hn=>f.get c hc hn,fun m h1 h2 h3=>?_⟩
 ·have:=f.ok
  unfold AH.ok at this
  show cond (Nat.ble k.wm h.wm) k.wm h.wm<=h.next+UNK
  cases hc:Nat.ble k.wm h.wm with
  | true=>have:=ble_true.1 hc;simp only [cond_true];omega
  | false=>simpa using this
 ·have:=f.wm m (by rw [zAN];omega) h2 h3
  show m<=cond (Nat.ble k.wm h.wm) k.wm h.wm
  cases Nat.ble k.wm h.wm
  ·exact this
  ·exact h1
theorem Fx.ext1 {h0 k l:AH} {b:Nat} (f:Fx (fun c=>c=b) k l) (e:Ext h0 k) (hb:h0.next<=b):Ext h0 l:=
 ⟨f.ok,Nat.le_trans e.next f.next,fun c hc=>(f.get c (Nat.lt_of_lt_of_le hc e.next) (by omega)).trans (e.get c hc)⟩
theorem box173 {h:AH} {a b:Int} {v:Value} (hl:zn v=true):zh E 173 (h.new (.row [.int .i64 0,.int .i64 0,.slice none 0 0] 173 0 false)) (some (ptr h.next)) (some (.agg ⟨[.int .i64 a,.int .i64 b,v]⟩))=one (undef,(h.new (.row [.int .i64 0,.int .i64 0,.slice none 0 0] 173 0 false)).upd h.next (some (.row [.int .i64 a,.int .i64 b,v] 173 0 false))):=by
 rw [zw (P:=E) ts_173 (x:=.agg ⟨[.int .i64 a,.int .i64 b,v]⟩) (cs:=[.int .i64 a,.int .i64 b,v]) (zI h _) rfl rfl (by simp) (by simp [zn] at hl ⊢;exact hl)]
 rfl
def Nd (k:AH) (bL:Nat) (x:Value) (k':AH):Prop:=∃ b left,x=.bool b/\(b=true->0<=left)/\left<=2000/\k'.get bL=some (.row [.int .i64 left] 3 0 false)/\k'.wm<=k.wm/\Fx (fun c=>c=bL) k k'
theorem nodes_step {h0 k:AH} {v:Value} {ts:List GT} {bL:Nat} {left deep:Int} (hr:RT h0 v ts) (hk:Ext h0 k) (hb0:h0.next<=bL) (hbL:k.get bL=some (.row [.int .i64 left] 3 0 false)) (hbLl:bL<k.next) (hl0:0<=left) (hl1:left<=2000) (hd1:1<=deep) (hd2:deep<=102)
  (hrec:deep<=100->∀ {k':AH} {v':Value} {ts':List GT} {left':Int},RT h0 v' ts'->Ext h0 k'->k'.get bL=some (.row [.int .i64 left'] 3 0 false)->bL<k'.next->0<=left'->left'<=2000->Ev true ((zX E).call 69 [v',ptr bL,.int .i64 (deep+1)] k') fun x=>Nd k' bL x.1 x.2) :
  Ev true ((zX E).call 69 [v,ptr bL,.int .i64 deep] k) fun x=>Nd k bL x.1 x.2:=by
 obtain ⟨ad,cp,hv⟩:=hr.slice
 cases hr with
 | @mk _ els _ ha hn hc=>
 have hlen:=RC.length hc
 by_cases hts:ts.length=0
 ·have:(zX E).call 69 [v,ptr bL,.int .i64 deep] k=some [(.bool true,k)]:=by
   refine F69_flat (s:=true) hk.ok rfl (P69_0_of ?_)
   refine P69_1_of ?_
   rw [hv,hts]
   simp only [zA,len69_1_1]
   refine P69_2_of ?_
   simp only [zb,zA,zAK]
   refine ⟨fun h=>by omega,fun _=>P69_8_of ?_⟩
   simp only [zA,zAD,zT,true_and]
   show k.next<=k.next+UNK
   omega
  rw [this,zO]
  exact ⟨true,left,rfl,fun _=>hl0,hl1,hbL,Nat.le_refl _,Fx.refl hk.ok⟩
 ·refine F69_some (Rp:=fun x k'=>Nd k bL x k') (P69_0_of ?_)
  refine P69_1_of ?_
  rw [hv]
  simp only [zA,len69_1_1]
  have fin:∀ (b:Bool) (l:Int) (h:AH),(b=true->0<=l)->l<=2000->h.get bL=some (.row [.int .i64 l] 3 0 false)->Fx (fun c=>c=bL) k.fresh h->h.wm<=bL->KR E [.tmp 6] (fun x k'=>(zj x=false\/k'.wm<k.next)/\Nd k bL x ⟨k'.t,k'.next,cond (Nat.ble k.wm k'.wm) k.wm k'.wm⟩) .ret [.bool b] h:=by
   intro b l h h1 h2 h3 f hw
   simp only [zAD,zT,true_and]
   refine ⟨.inr (by omega),b,l,rfl,h1,h2,h3,?_,f.back⟩
   show cond (Nat.ble k.wm h.wm) k.wm h.wm<=k.wm
   cases hc:Nat.ble k.wm h.wm with
   | true=>exact Nat.le_refl _
   | false=>have:=ble_false.1 hc;simp only [cond_false];omega
  have loop:∀ (r i:Nat),i+r=ts.length->∀ (l:Int) (h:AH),Fx (fun c=>c=bL) k.fresh h->h.get bL=some (.row [.int .i64 l] 3 0 false)->0<=l->l<=2000->(i≠0->h.wm<=bL)->
    P69_2 true (KR E [.tmp 6] (fun x k'=>(zj x=false\/k'.wm<k.next)/\Nd k bL x ⟨k'.t,k'.next,cond (Nat.ble k.wm k'.wm) k.wm k'.wm⟩)) (ptr bL) (.int .i64 deep) (.slice ad ts.length cp) (.int .i64 (ts.length:Int)) (.int .i64 (i:Int)) h:=by
   intro r
   induction r with
   | zero=>
    intro i hi l h f hg h1 h2 hw
    refine P69_2_of ?_
    have:¬ ((i:Int)<(ts.length:Int)):=by omega
    simp only [zb,zA,this,decide_false,zAA]
    refine P69_8_of ?_
    exact fin true l h (fun _=>h1) h2 hg f (hw (by omega))
   | succ r ih=>
    intro i hi l h f hg h1 h2 hw
    have hin:i<ts.length:=by omega
    have hin2:i<els.length:=by omega
    refine P69_2_of ?_
    have:((i:Int)<(ts.length:Int)):=by omega
    simp only [zb,zA,this,decide_true,z7]
    refine P69_3_of ?_
    obtain ⟨kk,nn,vv,lv,hel,hrt,_⟩:=RC.at hc i _ (List.getElem?_eq_getElem hin2)
    obtain ⟨b,o,c,vs,ty,es,ro,hv',hb,hlt,hle,hz,hzl⟩:=ha.load (List.getElem?_eq_getElem hin2)
    rw [hel] at hz
    rw [hv] at hv'
    simp only [Value.slice.injEq] at hv'
    obtain ⟨hv1,_,_⟩:=hv'
    subst hv1
    have ek:Ext h0 h:=f.ext1 hk.fresh hb0
    have gb:=(ek.get b hlt).trans hb
    have hvl:zn vv=true:=zDF hrt
    simp only [ia_34 hin,zA,za zB3 gb hle,hz,z_173,zd,zL,zS,box173 hvl]
    refine P69_4_of ?_
    have hbh:bL<h.next:=Nat.lt_of_lt_of_le hbLl f.next
    have f1:Fx (fun c=>c=bL) k.fresh ((h.new (.row [.int .i64 0,.int .i64 0,.slice none 0 0] 173 0 false)).upd h.next (some (.row [.int .i64 kk,.int .i64 nn,vv] 173 0 false))):=(f.new _).upd (.inr f.next) _
    have t1:((h.new (.row [.int .i64 0,.int .i64 0,.slice none 0 0] 173 0 false)).upd h.next (some (.row [.int .i64 kk,.int .i64 nn,vv] 173 0 false))).get h.next=some (.row [.int .i64 kk,.int .i64 nn,vv] 173 0 false):=zQ _ _ _
    have g1:((h.new (.row [.int .i64 0,.int .i64 0,.slice none 0 0] 173 0 false)).upd h.next (some (.row [.int .i64 kk,.int .i64 nn,vv] 173 0 false))).get bL=_:=((zU (by omega)).trans (zK (by omega))).trans hg
    have n1:((h.new (.row [.int .i64 0,.int .i64 0,.slice none 0 0] 173 0 false)).upd h.next (some (.row [.int .i64 kk,.int .i64 nn,vv] 173 0 false))).next=h.next+1:=rfl
    generalize ((h.new (.row [.int .i64 0,.int .i64 0,.slice none 0 0] 173 0 false)).upd h.next (some (.row [.int .i64 kk,.int .i64 nn,vv] 173 0 false)))=k1 at f1 t1 g1 n1
    have lg:=zD (P:=E) zAQ (o:=0) g1
    simp only [lnth] at lg
    have hst:=zw (P:=E) ts_3 (o:=0) g1 (cells_int .i64 (l-1)) rfl (by simp) rfl
    have hput:lput [Value.int .i64 l] 0 [.int .i64 (l-1)]=[.int .i64 (l-1)]:=rfl
    rw [hput] at hst
    simp only [zA,zBQ,lg,bf_sub _ (show in64 (l-1) by unfold in64;omega),hst,zL]
    refine P69_5_of ?_
    have f2:Fx (fun c=>c=bL) k.fresh (k1.upd bL (some (.row [.int .i64 (l-1)] 3 0 false))):=f1.upd (.inl rfl) _
    have g2:(k1.upd bL (some (.row [.int .i64 (l-1)] 3 0 false))).get bL=some (.row [.int .i64 (l-1)] 3 0 false):=zQ _ _ _
    have t2:(k1.upd bL (some (.row [.int .i64 (l-1)] 3 0 false))).get h.next=_:=(zU (by omega)).trans t1
    have w2:(k1.upd bL (some (.row [.int .i64 (l-1)] 3 0 false))).wm<=bL:=(zCx _ _ _).2
    have n2:(k1.upd bL (some (.row [.int .i64 (l-1)] 3 0 false))).next=k1.next:=rfl
    generalize (k1.upd bL (some (.row [.int .i64 (l-1)] 3 0 false)))=k2 at f2 g2 t2 w2 n2
    have lg2:=zD (P:=E) zAQ (o:=0) g2
    have lv2:=zD (P:=E) zDB (o:=2) t2
    simp only [lnth] at lg2 lv2
    have stop:P69_6 true (KR E [.tmp 6] (fun x k'=>(zj x=false\/k'.wm<k.next)/\Nd k bL x ⟨k'.t,k'.next,cond (Nat.ble k.wm k'.wm) k.wm k'.wm⟩)) k2:=by
     refine P69_6_of ?_
     exact fin false _ k2 (fun h=>by cases h) (by omega) g2 f2 w2
    simp only [zA,zBQ,lg2,zb]
    by_cases e1:l-1<0
    ·simp only [e1,decide_true,zN,zY,show (true==false)=false from rfl,cond_false,cond_true,zA,zL,zJ,z7]
     exact stop
    ·simp only [e1,decide_false,zN,beq_self_eq_true,cond_true,zA,zAI,zJ,cond_false]
     by_cases e2:100<deep
     ·simp only [e2,decide_true,zN,zY,show (true==false)=false from rfl,cond_false,cond_true,zA,zL,zJ,z7]
      exact stop
     ·simp only [e2,decide_false,zN,zY,beq_self_eq_true,cond_true,zA,zAU,Nat.zero_add,lv2,zAM _ (show in64 (deep+1) by unfold in64;omega),zR]
      refine (hrec (by omega) hrt (f2.ext1 hk.fresh hb0) g2 (by omega) (by omega) (by omega)).mono fun y hy=>?_
      obtain ⟨bb,l3,y1,y2,y3,y4,y6,y5⟩:=hy
      rw [y1]
      have f3:Fx (fun c=>c=bL) k.fresh y.2:=f2.trans y5 (fun c h=>.inl h)
      have w3:y.2.wm<=bL:=by omega
      simp only [zp,zA,zJ,cond_false,zBh]
      refine ⟨fun hb=>P69_6_of ?_,fun hb=>P69_7_of ?_⟩
      ·skip
       exact fin false l3 y.2 (fun h=>by cases h) y3 y4 f3 w3
      ·have hbt:bb=true:=by simpa using hb
       simp only [zAM _ (add1 hin (by omega)),zA]
       have:=ih (i+1) (by omega) l3 y.2 f3 y4 (y2 hbt) y3 (fun _=>w3)
       simpa using this
  exact loop ts.length 0 (by omega) left k.fresh (Fx.refl (zAa k)) hbL hl0 hl1 (fun h=>absurd rfl h)
theorem call69:∀ (d:Nat) {h0 k:AH} {v:Value} {ts:List GT} {bL:Nat} {left deep:Int},RT h0 v ts->Ext h0 k->h0.next<=bL->k.get bL=some (.row [.int .i64 left] 3 0 false)->bL<k.next->0<=left->left<=2000->1<=deep->deep<=102->101<=deep+d->
  Ev true ((zX E).call 69 [v,ptr bL,.int .i64 deep] k) fun x=>Nd k bL x.1 x.2:=by
 intro d
 induction d with
 | zero=>
  intro h0 k v ts bL left deep hr hk hb0 hbL hbLl hl0 hl1 hd1 hd2 hd3
  exact nodes_step hr hk hb0 hbL hbLl hl0 hl1 hd1 hd2 (fun h=>by omega)
 | succ d ihd=>
  intro h0 k v ts bL left deep hr hk hb0 hbL hbLl hl0 hl1 hd1 hd2 hd3
  exact nodes_step hr hk hb0 hbL hbLl hl0 hl1 hd1 hd2 (fun h k' v' ts' left' a b c d e f=>ihd a b hb0 c d e f (by omega) (by omega) (by omega))
abbrev kfew (k:AH):KF:=KR E [.tmp 2] (fun x l=>(zj x=true/\∃ b,x=.bool b)/\k.next<=l.wm)
theorem few_stop {k h:AH} (ho:Own k h) (b:Bool):kfew k .ret [.bool b] h:=by
 simp only [kfew,zAD,zT,true_and]
 exact ⟨⟨rfl,b,rfl⟩,ho.wm⟩
theorem call14 {k:AH} {v:Value} {els:List (List Value)} {Ls:List GL} (hok:k.ok) (ha:Arr k 3 v els) (hlen:els.length=Ls.length) (hle:els.length<=10) (hr:∀ (i:Nat) (e:List Value) (L:GL),els[i]?=some e->Ls[i]?=some L->RL k (.agg ⟨e⟩) L) :
  ∃ b,(zX E).call 14 [v] k=some [(.bool b,k)]:=by
 have key:∃ w,(∃ b,w=.bool b)/\(zX E).call 14 [v] k=some [(w,k)]:=by
  obtain ⟨ad,cp,hv⟩:=ha.slice
  refine F14_flatE hok (P14_0_of ?_)
  refine P14_1_of ?_
  have hst:=zw (P:=E) ts_3 (o:=0) (zI k.fresh (.row [.int .i64 0] 3 0 false)) (cells_int .i64 2000) rfl (by simp) rfl
  simp only [zZ] at hst
  simp only [z_3,zd,zL,zf,zZ,hst]
  refine P14_2_of ?_
  have o1:=((Own.fresh k).new (.row [.int .i64 0] 3 0 false)).upd (b:=k.next) (Nat.le_refl _) (some (.row (lput [.int .i64 0] 0 [.int .i64 2000]) 3 0 false))
  have t1:((k.fresh.new (.row [.int .i64 0] 3 0 false)).upd k.next (some (.row (lput [.int .i64 0] 0 [.int .i64 2000]) 3 0 false))).get k.next=some (.row [.int .i64 2000] 3 0 false):=zQ _ _ _
  have n1:((k.fresh.new (.row [.int .i64 0] 3 0 false)).upd k.next (some (.row (lput [.int .i64 0] 0 [.int .i64 2000]) 3 0 false))).next=k.next+1:=rfl
  generalize ((k.fresh.new (.row [.int .i64 0] 3 0 false)).upd k.next (some (.row (lput [.int .i64 0] 0 [.int .i64 2000]) 3 0 false)))=k1 at o1 t1 n1
  rw [hv]
  simp only [zA,len14_2_1]
  have loop:∀ (r i:Nat),i+r=els.length->∀ (l:Int) (h:AH),Own k h->h.get k.next=some (.row [.int .i64 l] 3 0 false)->k.next<h.next->0<=l->l<=2000->
    P14_3 true (kfew k) (ptr k.next) (.slice ad els.length cp) (.int .i64 (els.length:Int)) (.int .i64 (i:Int)) h:=by
   intro r
   induction r with
   | zero=>
    intro i hi l h ho hg hlt h1 h2
    refine P14_3_of ?_
    have:¬ ((i:Int)<(els.length:Int)):=by omega
    simp only [zb,zA,this,decide_false,zAA]
    refine P14_14_of ?_
    exact few_stop ho true
   | succ r ih=>
    intro i hi l h ho hg hlt h1 h2
    have hin:i<els.length:=by omega
    refine P14_3_of ?_
    have:((i:Int)<(els.length:Int)):=by omega
    simp only [zb,zA,this,decide_true,z7]
    refine P14_4_of ?_
    have hRL:=hr i _ _ (List.getElem?_eq_getElem hin) (List.getElem?_eq_getElem (by omega))
    generalize Ls[i]=L at hRL
    obtain ⟨vl,ve,elsL,q1,q2,q3,q4⟩:=hRL.ex
    have he:els[i]=[.int .i64 L.n,vl,ve]:=by
     simp only [Value.agg.injEq] at q1
     have:=congrArg Array.toList q1
     simpa using this
    obtain ⟨b,o,c,vs,ty,es,ro,hv',hb,hltb,hle',hz,hzl⟩:=ha.load (List.getElem?_eq_getElem hin)
    rw [he] at hz
    rw [hv] at hv'
    simp only [Value.slice.injEq] at hv'
    obtain ⟨hv1,_,_⟩:=hv'
    subst hv1
    have gb:=(ho.ext.get b hltb).trans hb
    obtain ⟨al,cl,hvl⟩:=q2.slice
    rw [RLab.length q3] at hvl
    obtain ⟨ae,ce,hve⟩:=q4.slice
    rw [List.length_map] at hve
    have hbox:=box25 (k:=h) (e:=[.int .i64 L.n,vl,ve]) (by rw [hvl,hve];rfl) rfl
    simp only [ia_82 hin,zA,za ta_25 gb hle',hz,z_25,zd,zL,zS,hbox]
    refine P14_5_of ?_
    have f1:Fx NoB h ((h.new (.row [.int .i64 0,.slice none 0 0,.slice none 0 0] 25 0 false)).upd h.next (some (.row [.int .i64 L.n,vl,ve] 25 0 false))):=((Fx.refl ho.ext.ok).new _).upd (.inr (Nat.le_refl _)) _
    have t1:((h.new (.row [.int .i64 0,.slice none 0 0,.slice none 0 0] 25 0 false)).upd h.next (some (.row [.int .i64 L.n,vl,ve] 25 0 false))).get h.next=some (.row [.int .i64 L.n,vl,ve] 25 0 false):=zQ _ _ _
    generalize ((h.new (.row [.int .i64 0,.slice none 0 0,.slice none 0 0] 25 0 false)).upd h.next (some (.row [.int .i64 L.n,vl,ve] 25 0 false)))=k2 at f1 t1
    have o2:=f1.own ho (fun _ h=>h.elim)
    have g2:=(f1.get k.next hlt (fun h=>h)).trans hg
    have lt2:=Nat.lt_of_lt_of_le hlt f1.next
    have s0:=zD (P:=E) zAQ (o:=0) t1
    have s1:=zD (P:=E) ta_22 (o:=1) t1
    have s2:=zD (P:=E) ta_23 (o:=2) t1
    simp only [lnth] at s0 s1 s2
    have stop:P14_6 true (kfew k) k2:=by
     refine P14_6_of ?_
     exact few_stop o2 false
    rw [hvl] at s1
    rw [hve] at s2
    simp only [zBT,Nat.add_zero,s0,zA,zAI]
    by_cases e1:60<L.n
    ·simp only [e1,decide_true,zN,show (true==false)=false from rfl,cond_false,cond_true,zA,zJ,z7]
     exact stop
    ·simp only [e1,decide_false,zN,beq_self_eq_true,cond_true,zBA,Nat.zero_add,s2,zA,len14_5_6,zAI,zJ,cond_false]
     by_cases e2:300<(L.eds.length:Int)
     ·simp only [e2,decide_true,zN,show (true==false)=false from rfl,cond_false,cond_true,zA,zJ,z7]
      exact stop
     ·simp only [e2,decide_false,zN,beq_self_eq_true,cond_true,zBB,Nat.zero_add,s1,zA,len14_5_12,zAI,zJ,cond_false]
      by_cases e3:60<(L.labs.length:Int)
      ·simp only [e3,decide_true,z7]
       exact stop
      ·simp only [e3,decide_false,zAA]
       refine P14_7_of ?_
       simp only [zBB,Nat.zero_add,s1,zA,len14_7_2]
       have inner:∀ (r2 j:Nat),j+r2=L.labs.length->∀ (l:Int) (h:AH),Own k h->h.get k.next=some (.row [.int .i64 l] 3 0 false)->k.next<h.next->0<=l->l<=2000->
         P14_8 true (kfew k) (ptr k.next) (.slice (some ⟨b,o,none⟩) els.length cp) (.int .i64 (els.length:Int)) (.int .i64 (i:Int)) (.slice al L.labs.length cl) (.int .i64 (L.labs.length:Int)) (.int .i64 (j:Int)) h:=by
        intro r2
        induction r2 with
        | zero=>
         intro j hj l h ho hg hlt h1 h2
         refine P14_8_of ?_
         have:¬ ((j:Int)<(L.labs.length:Int)):=by omega
         simp only [zb,zA,this,decide_false,zAA]
         refine P14_13_of ?_
         simp only [zAM _ (add1 hin (by omega)),zA]
         have:=ih (i+1) (by omega) l h ho hg hlt h1 h2
         simpa using this
        | succ r2 ih2=>
         intro j hj l h ho hg hlt h1 h2
         have hjn:j<L.labs.length:=by omega
         have hjn2:j<elsL.length:=by rw [RLab.length q3];exact hjn
         refine P14_8_of ?_
         have:((j:Int)<(L.labs.length:Int)):=by omega
         simp only [zb,zA,this,decide_true,z7]
         refine P14_9_of ?_
         obtain ⟨g,vt,lt,hel,hrt,hat⟩:=RLab.at q3 j _ (List.getElem?_eq_getElem hjn2)
         obtain ⟨b',o',c',vs',ty',es',ro',hv',hb',hlt',hle',hz',hzl'⟩:=q2.load (List.getElem?_eq_getElem hjn2)
         rw [hel] at hz'
         rw [hvl] at hv'
         simp only [Value.slice.injEq] at hv'
         obtain ⟨hv1,_,_⟩:=hv'
         subst hv1
         have gb':=(ho.ext.get b' hlt').trans hb'
         simp only [ia_22 hjn,zA,za ta_36 gb' hle',hz',z_36,zd,zL,zS,box36 (zDF hrt)]
         refine P14_10_of ?_
         have f3:Fx NoB h ((h.new (.row [.int .i64 0,.slice none 0 0] 36 0 false)).upd h.next (some (.row [.int .i64 g,vt] 36 0 false))):=((Fx.refl ho.ext.ok).new _).upd (.inr (Nat.le_refl _)) _
         have t3:((h.new (.row [.int .i64 0,.slice none 0 0] 36 0 false)).upd h.next (some (.row [.int .i64 g,vt] 36 0 false))).get h.next=some (.row [.int .i64 g,vt] 36 0 false):=zQ _ _ _
         generalize ((h.new (.row [.int .i64 0,.slice none 0 0] 36 0 false)).upd h.next (some (.row [.int .i64 g,vt] 36 0 false)))=k3 at f3 t3
         have o3:=f3.own ho (fun _ h=>h.elim)
         have g3:=(f3.get k.next hlt (fun h=>h)).trans hg
         have lt3:=Nat.lt_of_lt_of_le hlt f3.next
         have u1:=zD (P:=E) zDB (o:=1) t3
         simp only [lnth] at u1
         simp only [zBt,Nat.zero_add,u1,zA,zR]
         refine (call69 100 hrt o3.ext (Nat.le_refl _) g3 lt3 h1 h2 (by omega) (by omega) (by omega)).mono fun y hy=>?_
         obtain ⟨bb,l3,y1,y2,y3,y4,y6,y5⟩:=hy
         have o4:=y5.own o3 (fun c h=>by rw [h];exact Nat.le_refl _)
         rw [y1]
         simp only [zp,zA,zBh]
         refine ⟨fun hb=>P14_11_of ?_,fun hb=>P14_12_of ?_⟩
         ·skip
          exact few_stop o4 false
         ·have hbt:bb=true:=by simpa using hb
          simp only [zAM _ (add1 hjn (by omega)),zA]
          have:=ih2 (j+1) (by omega) l3 y.2 o4 y4 (Nat.lt_of_lt_of_le lt3 y5.next) (y2 hbt) y3
          simpa using this
       exact inner L.labs.length 0 (by omega) l k2 o2 g2 lt2 h1 h2
  exact loop els.length 0 (by omega) 2000 k1 o1 t1 (by omega) (by omega) (by omega)
 obtain ⟨w,⟨b,rfl⟩,hc⟩:=key
 exact ⟨b,hc⟩
theorem pb32 {a:Int} {ad:Option Addr} {n c:Nat}:zAg E 32 (some [(0,.int .i64 a),(1,.slice ad n c)])=some (.agg ⟨[.int .i64 a,.slice ad n c]⟩):=by kernel_rfl
theorem call16 {k:AH} {a:Int} {ad:Option Addr} {n c:Nat} (hok:k.ok):Ev true ((zX E).call 16 [.int .i64 a,.slice ad n c] k) fun x=>x.1=.agg ⟨[.int .i64 a,.slice ad n c]⟩/\Fx NoB k x.2:=by
 have run:∀ {Rp:Value->AH->Prop},(∀ h,Own k h->Fx NoB k.fresh h->Rp (.agg ⟨[.int .i64 a,.slice ad n c]⟩) h)->P16_0 true (KR E [.cell 4 32] Rp) (.int .i64 a) (.slice ad n c) k.fresh:=by
  intro Rp hRp
  refine P16_0_of ?_
  simp only [z_32,zd,zL,zS]
  refine P16_1_of ?_
  have hst:=zw (P:=E) ts_32 (o:=0) (x:=.agg ⟨[.int .i64 a,.slice ad n c]⟩) (cs:=[.int .i64 a,.slice ad n c]) (zI k.fresh (.row [.int .i64 0,.slice none 0 0] 32 0 false)) rfl rfl (by simp) (by simp [zn])
  have hput:lput [Value.int .i64 0,.slice none 0 0] 0 [.int .i64 a,.slice ad n c]=[.int .i64 a,.slice ad n c]:=rfl
  rw [hput] at hst
  simp only [zZ] at hst ⊢
  simp only [zA,pb32,hst,zL,kR_c,zT,true_and]
  have g1:((k.fresh.new (.row [.int .i64 0,.slice none 0 0] 32 0 false)).upd k.next (some (.row [.int .i64 a,.slice ad n c] 32 0 false))).get k.next=some (.row [.int .i64 a,.slice ad n c] 32 0 false):=zQ _ _ _
  have la:=za (P:=E) ta_32 (o:=0) g1 (by simp)
  have:loadV E 32 (ptr k.next) ((k.fresh.new (.row [.int .i64 0,.slice none 0 0] 32 0 false)).upd k.next (some (.row [.int .i64 a,.slice ad n c] 32 0 false)))=some (.agg ⟨[.int .i64 a,.slice ad n c]⟩):=la
  rw [this,zA]
  exact hRp _ (((Own.fresh k).new _).upd (Nat.le_refl _) _) (((Fx.refl (zAa k)).new _).upd (.inr (Nat.le_refl _)) _)
 cases hfl:zj (.agg ⟨[.int .i64 a,.slice ad n c]⟩) with
 | true=>
  have:=F16_flat1 (v0:=.int .i64 a) (v1:=.slice ad n c) hok hfl (run fun h ho _=>⟨rfl,ho.wm⟩)
  rw [this,zO]
  exact ⟨rfl,Fx.refl hok⟩
 | false=>exact F16_some (Rp:=fun x k'=>x=.agg ⟨[.int .i64 a,.slice ad n c]⟩/\Fx NoB k k') (run fun h ho f=>⟨.inl hfl,rfl,f.back⟩)
theorem f13_get:E.tab.fn.get 13=some Tryz.f13:=by kernel_rfl
theorem f13_body:Tryz.f13.body=some (ze Tryz.f13):=by kernel_rfl
theorem call13 {k:AH}:(zX E).call 13 [] k=some [(.bool true,k)]:=call_sum f13_get f13_body (by kernel_rfl)
theorem veq_slice3 {n:Int} {a b:Option Addr} {m c m' c':Nat}:veq 100 (.agg #[.int .i64 n,.slice a m c,.slice b m' c']) (.agg #[.int .i64 n,.slice a m c,.slice b m' c'])=true:=by
 show veqs 99 [.int .i64 n,.slice a m c,.slice b m' c'] [.int .i64 n,.slice a m c,.slice b m' c']=true
 simp only [veqs,zCA,zB2,Bool.and_self]
end Go.Proofs
namespace Go.Proofs
open Go Go.AM
set_option maxRecDepth 100000
theorem nwF (k:AH) (x:AObj):∃ m,k.fresh.new x=m/\m.next=k.next+1/\m.get k.next=some x/\Own k m/\∀ b,b<k.next->m.get b=k.get b:=
 ⟨_,rfl,rfl,zI k.fresh x,(Own.fresh k).new x,fun b hb=>by rw [zK (by simp;omega)];rfl⟩
theorem nw {k l:AH} (o:Own k l) (x:AObj):∃ m,l.new x=m/\m.next=l.next+1/\m.get l.next=some x/\Own k m/\∀ b,b<l.next->m.get b=l.get b:=
 ⟨_,rfl,rfl,zI l x,o.new x,fun b hb=>zK (by omega)⟩
theorem idx_agg {T et z:Nat} (hT:und E T=some (.slice et)) (hz:zAO E et=some z) (hta:tAS E et=some (true,z)) {h k:AH} {v:Value} {els:List (List Value)} (ha:Arr h z v els) (e:Ext h k) {i:Nat} {x:List Value} (hi:els[i]?=some x) :
  ∃ p,zH E T (some v) (some (.int .i64 (i:Int)))=some p/\zG E et k (some p)=some (.agg ⟨x⟩):=by
 obtain ⟨b,o,c,vs,ty,es,ro,rfl,hb,hlt,hle,hx,hl⟩:=ha.load hi
 have hil:i<els.length:=(List.getElem?_eq_some_iff.1 hi).1
 refine ⟨_,zAL hT hz hil,?_⟩
 rw [za hta ((e.get b hlt).trans hb) hle,hx]
theorem idx34 {h k:AH} {v:Value} {els:List (List Value)} (ha:Arr h 3 v els) (e:Ext h k) {i:Nat} {x:List Value} (hi:els[i]?=some x) :
  ∃ p,zH E 34 (some v) (some (.int .i64 (i:Int)))=some p/\zG E 173 k (some p)=some (.agg ⟨x⟩):=idx_agg und_34 ts_173 zB3 ha e hi
theorem idx22 {h k:AH} {v:Value} {els:List (List Value)} (ha:Arr h 2 v els) (e:Ext h k) {i:Nat} {x:List Value} (hi:els[i]?=some x) :
  ∃ p,zH E 22 (some v) (some (.int .i64 (i:Int)))=some p/\zG E 36 k (some p)=some (.agg ⟨x⟩):=idx_agg und_22 ts_36 ta_36 ha e hi
theorem idx23 {h k:AH} {v:Value} {els:List (List Value)} (ha:Arr h 3 v els) (e:Ext h k) {i:Nat} {x:List Value} (hi:els[i]?=some x) :
  ∃ p,zH E 23 (some v) (some (.int .i64 (i:Int)))=some p/\zG E 52 k (some p)=some (.agg ⟨x⟩):=idx_agg und_23 ts_52 ta_52 ha e hi
def ordI (a b:Int):Int:=if a<b then -1 else if b<a then 1 else 0
theorem call232 {k:AH} {a b:Int} (hok:k.ok):(zX E).call 232 [.int .i64 a,.int .i64 b] k=some [(.int .i64 (ordI a b),k)]:=by
 refine F232_flat (s:=true) hok rfl (P232_0_of ?_)
 refine P232_1_of ?_
 simp only [zA,zb,zAK]
 refine ⟨fun h1=>P232_2_of ?_,fun h1=>P232_3_of ?_⟩
 ·simp [zA,zAD,zT,ordI,h1]
 simp only [zA,zAI,zAK]
 refine ⟨fun h2=>P232_4_of ?_,fun h2=>P232_5_of ?_⟩
 ·simp [zA,zAD,zT,ordI,h1,h2]
 ·simp [zA,zAD,zT,ordI,h1,h2]
mutual
def cmpR:GT->GT->Int
 | .mk k n l,.mk k' n' l'=>if ordI k k'=0 then (if ordI n n'=0 then (if ordI l.length l'.length=0 then cmpRL l l' else ordI l.length l'.length) else ordI n n') else ordI k k'
def cmpRL:List GT->List GT->Int
 | t::ts,u::us=>if cmpR t u=0 then cmpRL ts us else cmpR t u
 | [],_=>0
 | _::_,[]=>0
end
def Spec188 (h0:AH) (kk nn:Int) (v:Value) (l:List GT):Prop:=∀ (k:AH) (kk' nn':Int) (v':Value) (l':List GT),RT h0 v' l'->Ext h0 k->
 (zX E).call 188 [.agg #[.int .i64 kk,.int .i64 nn,v],.agg #[.int .i64 kk',.int .i64 nn',v']] k=some [(.int .i64 (cmpR (.mk kk nn l) (.mk kk' nn' l')),k)]
theorem ordI_len {a b:Nat} (h:ordI (a:Int) (b:Int)=0):a=b:=by
 unfold ordI at h
 split at h
 ·cases h
 ·split at h
  ·cases h
  ·omega
mutual
theorem spec188 {h0:AH}:∀ {v:Value} {l:List GT},RT h0 v l->∀ (kk nn:Int),Spec188 h0 kk nn v l
 | v,l,.mk (els:=els) ha hn hc,kk,nn=>by
  intro k kk' nn' v' l' hr' hk
  have hrt:RT h0 v l:=.mk ha hn hc
  have hch:=specs188 hc
  have hlen:=RC.length hc
  obtain ⟨sa,sc,rfl⟩:=hrt.slice
  obtain ⟨sa',sc',rfl⟩:=hr'.slice
  refine F188_flat (s:=true) hk.ok rfl (P188_0_of ?_)
  obtain ⟨k1,e1,n1,t1,o1,f1⟩:=nwF k (.row [.int .i64 kk,.int .i64 nn,.slice sa l.length sc] 173 0 false)
  obtain ⟨k2,e2,n2,t2,o2,f2⟩:=nw o1 (.row [.int .i64 kk',.int .i64 nn',.slice sa' l'.length sc'] 173 0 false)
  simp only [zd,zL,zS,zA,e1,e2,zZ]
  have g1:=(f2 k.next (by omega)).trans t1
  have l0:=zD (P:=E) zAQ (o:=0) g1
  have l1:=zD (P:=E) zAQ (o:=1) g1
  have l2:=zD (P:=E) zDB (o:=2) g1
  have m0:=zD (P:=E) zAQ (o:=0) t2
  have m1:=zD (P:=E) zAQ (o:=1) t2
  have m2:=zD (P:=E) zDB (o:=2) t2
  simp only [lnth] at l0 l1 l2 m0 m1 m2
  have ex2:=hk.trans o2.ext
  have stop:∀ c:Int,P188_10 true (KR E [.tmp 4] fun x m=>x=.int .i64 c/\k.next<=m.wm) (.int .i64 c) k2:=by
   intro c
   refine P188_10_of ?_
   simp only [zA,zAD,zT,true_and];exact o2.wm
  have quit:∀ (c i:Int),c≠0->P188_7 true (KR E [.tmp 4] fun x m=>x=.int .i64 c/\k.next<=m.wm) (.pointer (some ⟨k.next,0,none⟩)) (.pointer (some ⟨k1.next,0,none⟩)) (.int .i64 c) (.int .i64 i) k2:=by
   intro c i hc0
   refine P188_7_of ?_
   simp only [zAU,Nat.zero_add,l2,zA,len188_7_3,zb,zN,zAV,hc0,decide_false]
   by_cases hi:i<(l.length:Int)
   ·simp only [hi,decide_true,beq_self_eq_true,cond_true,zA,zJ,zN,zAV,hc0,decide_false,zAA];exact stop c
   ·simp only [hi,decide_false,show (false==true)=false from rfl,cond_false,zA,zJ,zAA];exact stop c
  have loop:∀ (m i:Nat),i+m=l.length->l.length=l'.length->P188_7 true (KR E [.tmp 4] fun x m=>x=.int .i64 (cmpRL (l.drop i) (l'.drop i))/\k.next<=m.wm) (.pointer (some ⟨k.next,0,none⟩)) (.pointer (some ⟨k1.next,0,none⟩)) (.int .i64 0) (.int .i64 (i:Int)) k2:=by
   intro m
   induction m with
   | zero=>
    intro i hi hl
    have:l.drop i=[]:=List.drop_eq_nil_of_le (by omega)
    rw [this]
    refine P188_7_of ?_
    simp only [zAU,Nat.zero_add,l2,zA,len188_7_3,zb,show decide ((i:Int)<(l.length:Int))=false from decide_eq_false (by omega),zN,show (false==true)=false from rfl,cond_false,zJ,zAA]
    exact stop 0
   | succ m ih=>
    intro i hi hl
    have hil:i<l.length:=by omega
    have hil':i<l'.length:=by omega
    refine P188_7_of ?_
    simp only [zAU,Nat.zero_add,l2,zA,len188_7_3,zb,show decide ((i:Int)<(l.length:Int))=true from decide_eq_true (by omega),zN,beq_self_eq_true,cond_true,zAV,decide_true,zJ,z7]
    refine P188_8_of ?_
    cases hr' with
    | @mk _ els' _ ha' hn' hc'=>
     have hlen':=RC.length hc'
     obtain ⟨x,hx⟩:∃ x,els[i]?=some x:=⟨_,List.getElem?_eq_getElem (by omega)⟩
     obtain ⟨y,hy⟩:∃ y,els'[i]?=some y:=⟨_,List.getElem?_eq_getElem (by omega)⟩
     obtain ⟨p1,q1,w1⟩:=idx34 ha ex2 hx
     obtain ⟨p2,q2,w2⟩:=idx34 ha' ex2 hy
     obtain ⟨ck,cn,cv,cl,rfl,r1,r2,r3⟩:=hch i x hx
     obtain ⟨dk,dn,dv,dl,rfl,s1,s2⟩:=RC.at hc' i y hy
     have hcall:=r3 k2 dk dn dv dl s1 ex2
     have e3:l.drop i=GT.mk ck cn cl::l.drop (i+1):=by rw [List.drop_eq_getElem_cons hil,(List.getElem?_eq_some_iff.1 r2).2]
     have e4:l'.drop i=GT.mk dk dn dl::l'.drop (i+1):=by rw [List.drop_eq_getElem_cons hil',(List.getElem?_eq_some_iff.1 s2).2]
     simp only [zAU,Nat.zero_add,l2,m2,zA,q1,w1,q2,w2,zR,hcall,zO]
     refine P188_9_of ?_
     simp only [zA,zAM _ (add1 hil (by omega))]
     rw [e3,e4]
     simp only [cmpRL]
     by_cases hz:cmpR (GT.mk ck cn cl) (GT.mk dk dn dl)=0
     ·rw [if_pos hz,hz];exact ih (i+1) (by omega) hl
     ·rw [if_neg hz];exact quit _ _ hz
  refine P188_1_of ?_
  simp only [fa_173_0,Nat.add_zero,l0,m0,zA,zR,call232 o2.ext.ok,zO]
  refine P188_2_of ?_
  simp only [zA,zAV,zAK,cmpR]
  refine ⟨fun h1=>?_,fun h1=>?_⟩
  rotate_left
  ·rw [if_neg h1]
   refine P188_4_of ?_
   simp only [zA,zAV,h1,decide_false,zAA]
   refine P188_6_of ?_
   exact quit _ _ h1
  rw [if_pos h1]
  refine P188_3_of ?_
  simp only [fa_173_1,Nat.zero_add,l1,m1,zA,zR,call232 o2.ext.ok,zO]
  refine P188_4_of ?_
  simp only [zA,zAV,zAK]
  refine ⟨fun h2=>?_,fun h2=>?_⟩
  rotate_left
  ·rw [if_neg h2]
   refine P188_6_of ?_
   exact quit _ _ h2
  rw [if_pos h2]
  refine P188_5_of ?_
  simp only [zAU,Nat.zero_add,l2,m2,zA,len188_5_2,len188_5_5,zR,call232 o2.ext.ok,zO]
  refine P188_6_of ?_
  by_cases h3:ordI (l.length:Int) (l'.length:Int)=0
  ·rw [if_pos h3,h3]
   have:=loop l.length 0 (by omega) (ordI_len h3)
   simpa using this
  ·rw [if_neg h3];exact quit _ _ h3
theorem specs188 {h0:AH}:∀ {els:List (List Value)} {ts:List GT},RC h0 els ts->∀ (i:Nat) (e:List Value),els[i]?=some e->
  ∃ (k n:Int) (v:Value) (l:List GT),e=[.int .i64 k,.int .i64 n,v]/\RT h0 v l/\ts[i]?=some (.mk k n l)/\Spec188 h0 k n v l
 | _,_,.nil,i,e,h=>by simp at h
 | _,_,.cons hv hs,0,e,h=>by simp at h;exact ⟨_,_,_,_,h.symm,hv,rfl,spec188 hv _ _⟩
 | _,_,.cons hv hs,i+1,e,h=>by
  simp only [List.getElem?_cons_succ] at h
  obtain ⟨k,n,v,l,a,b,c,d⟩:=specs188 hs i e h
  exact ⟨k,n,v,l,a,b,by simpa using c,d⟩
end
end Go.Proofs
namespace Go.Proofs
open Go Go.AM
set_option maxRecDepth 100000
set_option maxHeartbeats 1000000
abbrev Dt:=Array (Int×Int)
def zC3 (d:Dt):List Value:=d.toList.flatMap zE
theorem zCI:∀ l:List (Int×Int),(l.flatMap zE).length=l.length*2
 | []=>rfl
 | x::l=>by simp only [List.flatMap_cons,List.length_append,List.length_cons,zCI l];simp [zE];omega
theorem rowOf_len (d:Dt):(zC3 d).length=d.size*2:=zCI d.toList
theorem rowL_get:∀ (l:List (Int×Int)) (i:Nat) (x:Int×Int),l[i]?=some x->((l.flatMap zE).drop (i*2)).take 2=zE x
 | [],i,x,h=>by simp at h
 | y::l,0,x,h=>by simp at h;subst h;rfl
 | y::l,i+1,x,h=>by
  have:=rowL_get l i x (by simpa using h)
  rw [show (i+1)*2=i*2+2 by omega]
  exact this
theorem rowL_put:∀ (l:List (Int×Int)) (i:Nat) (x:Int×Int),i<l.length->lput (l.flatMap zE) (i*2) (zE x)=(l.set i x).flatMap zE
 | [],i,x,h=>by simp at h
 | y::l,0,x,h=>by
  show Value.int .i64 x.1::Value.int .i64 x.2::lput (l.flatMap zE) 0 []=_
  have:lput (l.flatMap zE) 0 []=l.flatMap zE:=by cases l.flatMap zE <;> rfl
  rw [this];rfl
 | y::l,i+1,x,h=>by
  have:=rowL_put l i x (by simpa using h)
  rw [show (i+1)*2=i*2+2 by omega]
  show Value.int .i64 y.1::Value.int .i64 y.2::lput (l.flatMap zE) (i*2) (zE x)=_
  rw [this];rfl
theorem prLeaf (x:Int×Int):(zE x).all zn=true:=by simp [zE,zn]
structure SR (b ty es:Nat) (k0:AH) (d0:Dt) (k:AH) (d:Dt):Prop where
 fx:Fx (fun c=>c=b) k0 k
 g:k.get b=some (.row (zC3 d) ty es false)
 wm:k.wm<=b\/d=d0
 wle:k.wm<=k0.wm
 sz:d.size=d0.size
 lt:b<k0.next
section
variable {b ty es:Nat} {k0 k:AH} {d0 d:Dt}
theorem SR.refl (hg:k.get b=some (.row (zC3 d) ty es false)) (hl:b<k.next) (hok:k.ok):SR b ty es k d k d:=⟨Fx.refl hok,hg,.inr rfl,Nat.le_refl _,rfl,hl⟩
theorem SR.fresh (hg:k.get b=some (.row (zC3 d) ty es false)) (hl:b<k.next):SR b ty es k.fresh d k.fresh d:=SR.refl hg hl (zAa k)
theorem SR.ok (R:SR b ty es k0 d0 k d):k.ok:=R.fx.ok
theorem SR.l (R:SR b ty es k0 d0 k d):b<k.next:=Nat.lt_of_lt_of_le R.lt R.fx.next
theorem SR.trans {k':AH} {d':Dt} (R:SR b ty es k0 d0 k d) (S:SR b ty es k d k' d'):SR b ty es k0 d0 k' d':=
 ⟨R.fx.trans S.fx fun c h=>.inl h,S.g,by
  rcases S.wm with h|h
  ·exact .inl h
  ·rcases R.wm with h2|h2
   ·have:=S.wle;exact .inl (by omega)
   ·exact .inr (h.trans h2),Nat.le_trans S.wle R.wle,S.sz.trans R.sz,R.lt⟩
theorem SR.ld (R:SR b ty es k0 d0 k d) {i:Nat} (hi:i<d.size):zG E 54 k (some (.pointer (some ⟨b,0+i*2,none⟩)))=some (.agg ⟨zE d[i]!⟩):=by
 rw [Nat.zero_add,za (P:=E) ta_54 R.g (by rw [rowOf_len];omega)]
 unfold zC3
 rw [rowL_get d.toList i d[i]! (by simp [hi])]
theorem wm_upd (h:AH) (b:Nat) (o:Option AObj):(h.upd b o).wm<=b/\(h.upd b o).wm<=h.wm:=by
 show cond (Nat.ble h.wm b) h.wm b<=b/\cond (Nat.ble h.wm b) h.wm b<=h.wm
 cases hc:Nat.ble h.wm b with
 | true=>have:=ble_true.1 hc;simp only [cond_true];omega
 | false=>have:=ble_false.1 hc;simp only [cond_false];omega
theorem SR.st (R:SR b ty es k0 d0 k d) {i:Nat} (hi:i<d.size) (x:Int×Int) :
  ∃ m,zh E 54 k (some (.pointer (some ⟨b,0+i*2,none⟩))) (some (.agg ⟨zE x⟩))=one (undef,m)/\SR b ty es k0 d0 m (d.setIfInBounds i x):=by
 refine ⟨_,by rw [Nat.zero_add];exact zw (P:=E) ts_54 (cs:=zE x) R.g rfl rfl (by rw [rowOf_len];omega) (prLeaf x),R.fx.upd (.inl rfl) _,?_,.inl (wm_upd _ _ _).1,Nat.le_trans (wm_upd _ _ _).2 R.wle,by simpa using R.sz,R.lt⟩
 rw [zQ]
 unfold zC3
 rw [rowL_put _ _ _ (by simpa using hi)]
 simp
theorem SR.sw (R:SR b ty es k0 d0 k d) {i j:Nat} (hi:i<d.size) (hj:j<d.size) :
  ∃ m m',zh E 54 k (some (.pointer (some ⟨b,0+i*2,none⟩))) (some (.agg ⟨zE d[j]!⟩))=one (undef,m)/\zh E 54 m (some (.pointer (some ⟨b,0+j*2,none⟩))) (some (.agg ⟨zE d[i]!⟩))=one (undef,m')/\SR b ty es k0 d0 m' (Go.Sort.swp d i j):=by
 obtain ⟨m,e1,R1⟩:=R.st hi d[j]!
 obtain ⟨m',e2,R2⟩:=R1.st (i:=j) (by simpa using hj) d[i]!
 exact ⟨m,m',e1,e2,R2⟩
end
theorem addN {a c:Nat} (h:a+c<=9223372036854775807) (t:TypeId):zF E .add t (.int .i64 (a:Int)) (.int .i64 (c:Int))=some (.int .i64 ((a+c:Nat):Int)):=by
 rw [zAM t (by unfold in64;omega)];rfl
theorem addN1 {a:Nat} (h:a+1<=9223372036854775807) (t:TypeId):zF E .add t (.int .i64 (a:Int)) (.int .i64 1)=some (.int .i64 ((a+1:Nat):Int)):=addN (c:=1) h t
theorem subN {a c:Nat} (h:c<=a) (ha:a<=9223372036854775807) (t:TypeId):zF E .sub t (.int .i64 (a:Int)) (.int .i64 (c:Int))=some (.int .i64 ((a-c:Nat):Int)):=by
 rw [bf_sub t (by unfold in64;omega)]
 congr 2;omega
theorem subM1 {a:Nat} (h:1<=a) (ha:a<=9223372036854775807) (t:TypeId):zF E .sub t (.int .i64 (a:Int)) (.int .i64 1)=some (.int .i64 ((a-1:Nat):Int)):=subN (c:=1) h ha t
abbrev sl (b n c:Nat):Value:=.slice (some ⟨b,0,none⟩) n c
section
variable {b ty es c:Nat} {k:AH} {d:Dt}
end
end Go.Proofs
namespace Go.Proofs
open Go Go.AM Go.Sort
set_option maxRecDepth 100000
set_option maxHeartbeats 1000000
theorem get_wm {m:AH} {w b:Nat} {o:Option AObj} (h:m.get b=o):AH.get ⟨m.t,m.next,w⟩ b=o:=h
section
variable {b ty es c:Nat} {k:AH} {d:Dt} {cf:Value} {cm:Int×Int->Int×Int->Int}
structure PV (b ty es:Nat) (d:Dt) (sw:Nat) (k0 k:AH):Prop where
 g:k.get b=some (.row (zC3 d) ty es false)
 l:b<k.next
 hz:∃ z,k.get sw=some (.row [.int .i64 z] 3 0 false)
 sl:sw<k.next
 ne:sw≠b
 fx:Fx (fun c=>c=sw) k0 k
theorem PV.step {sw:Nat} {k0 k m:AH} (p:PV b ty es d sw k0 k) (f:Fx (fun c=>c=sw) k m) (hz:∃ z,m.get sw=some (.row [.int .i64 z] 3 0 false)):PV b ty es d sw k0 m:=
 ⟨(f.get b p.l (fun h=>p.ne h.symm)).trans p.g,Nat.lt_of_lt_of_le p.l f.next,hz,Nat.lt_of_lt_of_le p.sl f.next,p.ne,p.fx.trans f fun c h=>.inl h⟩
theorem PV.start {sw:Nat} {k:AH} (hok:k.ok) (hg:k.get b=some (.row (zC3 d) ty es false)) (hl:b<k.next) (hz:∃ z,k.get sw=some (.row [.int .i64 z] 3 0 false)) (hsl:sw<k.next) (hne:sw≠b):PV b ty es d sw k k:=⟨hg,hl,hz,hsl,hne,Fx.refl hok⟩
theorem PV.fresh {sw:Nat} {k0 k:AH} (p:PV b ty es d sw k0 k):PV b ty es d sw k.fresh k.fresh:=⟨p.g,p.l,p.hz,p.sl,p.ne,Fx.refl (zAa k)⟩
theorem ex1 {a b:Value}:zAJ 1 (some (.tuple #[a,b]))=some b:=rfl
end
theorem arr_flat {z:Nat} {vs:List Value}:∀ (els:List (List Value)) (o:Nat),o+els.length*z<=vs.length->(∀ (i:Nat) (e:List Value),els[i]?=some e->e.length=z/\(vs.drop (o+i*z)).take z=e)->(vs.drop o).take (els.length*z)=els.flatten
 | [],o,_,_=>by simp
 | e::es,o,h,H=>by
  have h0:=H 0 e rfl
  rw [Nat.zero_mul,Nat.add_zero] at h0
  have ih:=arr_flat (z:=z) (vs:=vs) es (o+z) (by rw [List.length_cons,Nat.add_mul] at h;omega) fun i x hx=>by
   have:=H (i+1) x (by simpa using hx)
   rw [show o+(i+1)*z=o+z+i*z by rw [Nat.add_mul];omega] at this
   exact this
  rw [List.flatten_cons,← ih,List.length_cons,show (es.length+1)*z=z+es.length*z by rw [Nat.add_mul];omega,List.take_add,List.drop_drop,h0.2]
theorem elt26:Elt 26 54 2:=elt_of (by kernel_rfl) und_26 ta_54 (by kernel_rfl)
theorem bs26_0 {h:AH}:zi E 26 0 (some []) h=one (.slice (some ⟨h.next,0,none⟩) 0 0,h.new (.row [] 54 0 false)):=by kernel_rfl
theorem append_all {t e z:Nat} (H:Elt t e z) {h:AH} {b b2 o n c:Nat} {vs us:List Value} {ty ty2 es2:Nat} {ro2:Bool} (hb:h.get b=some (.row [] ty 0 false)) (hb2:h.get b2=some (.row vs ty2 es2 ro2)) (hn0:n≠0) (hn:n<=1000000)
  (hl:o+n*z<=vs.length) (hu:(vs.drop o).take (n*z)=us) :
  zAC E .append [t,t] (some [.slice (some ⟨b,0,none⟩) 0 0,.slice (some ⟨b2,o,none⟩) n c]) h=one (.slice (some ⟨h.next,0,none⟩) n (UNK+z),h.new (.row us e z false)):=by
 obtain ⟨ti,e1,e2,e3⟩:=H.ti
 show v2 (zAp E [t,t] (.slice (some ⟨b,0,none⟩) 0 0) (.slice (some ⟨b2,o,none⟩) n c) h)=_
 have hlen:us.length=n*z:=by rw [← hu,List.length_take,List.length_drop];omega
 have hn1:Nat.beq n 0=false:=by cases n with|zero=>exact absurd rfl hn0|succ n=>rfl
 have hn2:Nat.ble n 0=false:=by cases n with|zero=>exact absurd rfl hn0|succ n=>rfl
 have hn3:Nat.ble n 1000000=true:=ble_true.2 (by omega)
 simp only [zAp,H.el,H.un,isIntD,cond_false,e1,zBj,zAr,hb2,e2,zAj,zAq,zAH,hu,hlen,Nat.beq_refl,if_true,e3,cond_true,zBi,hn1,hb,zCg,show Nat.ble UNK 0=false from rfl,hn2,Nat.zero_mul,List.drop_nil,List.take_nil,List.length_nil,show Nat.beq 0 0=true from rfl,List.nil_append,zAv,hn3,v2,Nat.zero_add]
theorem nil32 {b o n c:Nat}:z6 E (zm [(3,.slice (some ⟨b,o,none⟩) n c)]) (zr B32 [1,0,0] 1)=some (.bool false):=by kernel_rfl
theorem flat_prs (l:List (Int×Int)):(l.map zE).flatten=l.flatMap zE:=by rw [List.flatMap_def]
theorem call32 {k:AH} {v:Value} {l:List (Int×Int)} (hok:k.ok) (ha:Arr k 2 v (l.map zE)) (hl:l≠[]) (hn:l.length<=1000000) :
  Ev true ((zX E).call 32 [v] k) fun x=>∃ b,x.1=sl b l.length (UNK+2)/\k.next<=b/\b<x.2.next/\x.2.get b=some (.row (l.flatMap zE) 54 2 false)/\Fx NoB k x.2:=by
 generalize hels:l.map zE=els at ha
 cases ha with
 | nil a c=>exact absurd (List.map_eq_nil_iff.1 hels) hl
 | @row b o c vs ty es ro _ hb hlt hle hz=>
 have hlen:els.length=l.length:=by rw [← hels,List.length_map]
 have hfl:=arr_flat els o hle hz
 have hl0:l.length≠0:=fun h=>hl (List.length_eq_zero_iff.1 h)
 refine F32_some (Rp:=fun x m=>∃ b,x=sl b l.length (UNK+2)/\k.next<=b/\b<m.next/\m.get b=some (.row (l.flatMap zE) 54 2 false)/\Fx NoB k m) (P32_0_of ?_)
 try simp only [zA]
 refine P32_1_of ?_
 simp only [zA,nil32,zAA]
 refine P32_3_of ?_
 obtain ⟨k1,e1,n1,t1,o1,f1⟩:=nwF k (.row [] 54 0 false)
 have x1:Fx NoB k.fresh k1:=by rw [← e1];exact (Fx.refl (zAa k)).new _
 have happ:=append_all elt26 (c:=c) t1 ((f1 b hlt).trans hb) (n:=els.length) (by omega) (by omega) hle hfl
 obtain ⟨k2,e2,n2,t2⟩:∃ k2,k1.new (.row els.flatten 54 2 false)=k2/\k2.next=k1.next+1/\k2.get k1.next=some (.row els.flatten 54 2 false):=⟨_,rfl,rfl,zI _ _⟩
 have x2:Fx NoB k.fresh k2:=by rw [← e2];exact x1.new _
 simp only [zA,bs26_0,zL,e1,zZ,happ,e2]
 rw [zAD]
 refine ⟨zT ▸ trivial,.inl rfl,k1.next,?_,by omega,by show k1.next<k2.next;omega,?_,x2.back⟩
 ·rw [hlen]
 ·rw [← flat_prs,hels];exact get_wm t2
theorem ia47 {b i:Nat} (h:i<2):zH E 47 (some (.slice (some ⟨b,0,none⟩) 2 2)) (some (.int .i64 (i:Int)))=some (.pointer (some ⟨b,0+i*1,none⟩)):=ia_47 h
theorem c94 {a b:Int} {h:AH} (hok:h.ok):(zX E).call 94 [.int .i64 a,.int .i64 b] h=some [(.int .i64 (c3 a b),h)]:=call94 hok
theorem call35 {k:AH} {a b:Nat} {x y:Int×Int} {t1 t2:Nat} {r1 r2:Bool} {e1 e2:Nat} (hok:k.ok) (ha:k.get a=some (.row (zE x) t1 e1 r1)) (hb:k.get b=some (.row (zE y) t2 e2 r2)) :
  (zX E).call 35 [.slice (some ⟨a,0,none⟩) 2 2,.slice (some ⟨b,0,none⟩) 2 2] k=some [(.int .i64 (cmpP x y),k)]:=by
 have la0:zG E 3 k.fresh (some (.pointer (some ⟨a,0+0*1,none⟩)))=some (.int .i64 x.1):=zD (P:=E) zAQ (o:=0) ha
 have la1:zG E 3 k.fresh (some (.pointer (some ⟨a,0+1*1,none⟩)))=some (.int .i64 x.2):=zD (P:=E) zAQ (o:=1) ha
 have lb0:zG E 3 k.fresh (some (.pointer (some ⟨b,0+0*1,none⟩)))=some (.int .i64 y.1):=zD (P:=E) zAQ (o:=0) hb
 have lb1:zG E 3 k.fresh (some (.pointer (some ⟨b,0+1*1,none⟩)))=some (.int .i64 y.2):=zD (P:=E) zAQ (o:=1) hb
 have i0:∀ c:Nat,zH E 47 (some (.slice (some ⟨c,0,none⟩) 2 2)) (some (.int .i64 0))=some (.pointer (some ⟨c,0+0*1,none⟩)):=fun c=>ia47 (i:=0) (by omega)
 have i1:∀ c:Nat,zH E 47 (some (.slice (some ⟨c,0,none⟩) 2 2)) (some (.int .i64 1))=some (.pointer (some ⟨c,0+1*1,none⟩)):=fun c=>ia47 (i:=1) (by omega)
 refine F35_flat (s:=true) hok rfl (P35_0_of ?_)
 try simp only [zA]
 refine P35_1_of ?_
 simp only [zA,len35_1_1]
 refine P35_2_of ?_
 simp only [zb,zA,show decide ((0:Int)<((2:Nat):Int))=true from rfl,z7]
 refine P35_3_of ?_
 simp only [zA,i0,la0]
 refine P35_4_of ?_
 simp only [zA,len35_4_2,zAx,show decide (((2:Nat):Int)<=(0:Int))=false from rfl,zAA]
 refine P35_6_of ?_
 simp only [zA,i0,lb0]
 refine P35_7_of ?_
 simp only [zA,zR,c94 (zAa k),zO]
 refine P35_8_of ?_
 simp only [zA,zBL]
 by_cases h1:c3 x.1 y.1=0
 rotate_left
 ·simp only [h1,decide_false,Bool.not_false,z7]
  refine P35_9_of ?_
  try simp only [zA]
  rw [zAD]
  refine ⟨zT ▸ trivial,by simp [cmpP,orI,h1],Nat.le_add_right _ _⟩
 simp only [h1,decide_true,Bool.not_true,zAA]
 refine P35_10_of ?_
 rw [zAM 3 (a:=0) (b:=1) (by unfold in64;omega)]
 try simp only [zA]
 refine P35_2_of ?_
 simp only [zb,zA,show decide ((0:Int)+1<((2:Nat):Int))=true from rfl,z7]
 refine P35_3_of ?_
 simp only [zA,show (0:Int)+1=1 from rfl,i1,la1]
 refine P35_4_of ?_
 simp only [zA,len35_4_2,zAx,show decide (((2:Nat):Int)<=(1:Int))=false from rfl,zAA]
 refine P35_6_of ?_
 simp only [zA,i1,lb1]
 refine P35_7_of ?_
 simp only [zA,zR,c94 (zAa k),zO]
 refine P35_8_of ?_
 simp only [zA,zBL]
 by_cases h2:c3 x.2 y.2=0
 rotate_left
 ·simp only [h2,decide_false,Bool.not_false,z7]
  refine P35_9_of ?_
  try simp only [zA]
  rw [zAD]
  refine ⟨zT ▸ trivial,by simp [cmpP,orI,h1,h2],Nat.le_add_right _ _⟩
 simp only [h2,decide_true,Bool.not_true,zAA]
 refine P35_10_of ?_
 rw [zAM 3 (a:=1) (b:=1) (by unfold in64;omega)]
 try simp only [zA]
 refine P35_2_of ?_
 simp only [zb,zA,show decide ((1:Int)+1<((2:Nat):Int))=false from rfl,zAA]
 refine P35_11_of ?_
 simp only [zA,len35_11_1,len35_11_3,zb,show decide (((2:Nat):Int)<((2:Nat):Int))=false from rfl,zAA]
 refine P35_13_of ?_
 try simp only [zA]
 rw [zAD]
 refine ⟨zT ▸ trivial,by simp [cmpP,orI,h1,h2],Nat.le_add_right _ _⟩
theorem c3_zero' {a b:Int}:c3 a b=0 ↔ a=b:=by
 unfold c3
 split
 ·constructor
  ·intro h;cases h
  ·intro h;omega
 ·split
  ·constructor
   ·intro h;cases h
   ·intro h;omega
  ·constructor
   ·intro;omega
   ·intro;rfl
theorem c3_neg' {a b:Int}:c3 a b<0 ↔ a<b:=by
 unfold c3
 split
 ·constructor <;> intro <;> omega
 ·split <;> constructor <;> intro h <;> first|omega|(exfalso;revert h;decide)
theorem cmpP_lt (x y:Int×Int):cmpP x y<0 ↔ x.1<y.1\/(x.1=y.1/\x.2<y.2):=by
 simp only [cmpP,orI]
 by_cases h:c3 x.1 y.1=0
 ·have e:=c3_zero'.1 h
  simp only [h,ne_eq,not_true_eq_false,if_false]
  by_cases h2:c3 x.2 y.2=0
  ·have e2:=c3_zero'.1 h2
   simp only [h2,ne_eq,not_true_eq_false,if_false]
   omega
  ·simp only [h2,ne_eq,not_false_eq_true,if_true]
   have:=c3_neg' (a:=x.2) (b:=y.2)
   omega
 ·have h0:x.1≠y.1:=fun e=>h (c3_zero'.2 e)
  simp only [h,ne_eq,not_false_eq_true,if_true]
  have:=c3_neg' (a:=x.1) (b:=y.1)
  omega
section
variable {b ty es c:Nat} {k h0:AH} {d:Dt} {cf:Value} {f:Int×Int->Bool}
end
theorem lput_app {α:Type}:∀ (x y z:List α),y.length=z.length->lput (x++y) x.length z=x++z
 | [],[],[],_=>rfl
 | [],a::y,b::z,h=>by
  have:=lput_app [] y z (by simpa using h)
  show b::lput y 0 z=b::z
  rw [show lput y 0 z=z from this]
 | [],[],_::_,h=>by simp at h
 | [],_::_,[],h=>by simp at h
 | a::x,y,[],h=>by
  have:y=[]:=List.length_eq_zero_iff.1 (by simpa using h)
  subst this
  cases x <;> rfl
 | a::x,y,b::z,h=>by
  have:=lput_app x y (b::z) h
  show a::lput (x++y) x.length (b::z)=_
  rw [this];rfl
theorem arr_row {h:AH} {b c:Nat} {vs rest:List Value} {ty es:Nat} {ro:Bool} {l:List (Int×Int)} (hb:h.get b=some (.row vs ty es ro)) (hl:b<h.next) (hv:vs=l.flatMap zE++rest):Arr h 2 (sl b l.length c) (l.map zE):=by
 have:=Arr.row (els:=l.map zE) (z:=2) (o:=0) (c:=c) hb hl (by rw [hv,List.length_append,zCI,List.length_map];omega) fun i e he=>by
  rw [List.getElem?_map] at he
  obtain ⟨p,hp,rfl⟩:=Option.map_eq_some_iff.1 he
  refine ⟨rfl,?_⟩
  have hi:=(List.getElem?_eq_some_iff.1 hp).1
  have h2:=rowL_get l i p hp
  rw [Nat.zero_add,hv,List.drop_append_of_le_length (by rw [zCI];omega),List.take_append_of_le_length (by rw [List.length_drop,zCI];omega)]
  exact h2
 rw [List.length_map] at this
 exact this
theorem cutLo {T:Tm} {o:Oper} {u v:Nat} {b n i:Nat} (ho:o.op=.slice 26 (.tmp u) (some (.tmp v)) none none) (h1:T.get u=.slice (some ⟨b,0,none⟩) n (UNK+2)) (h2:T.get v=.int .i64 (i:Int)) (hi:i<n) :
  z6 E T o=some (.slice (some ⟨b,i*2,none⟩) (n-i) (UNK+2)):=by
 have f1:zy T (.tmp u)=false:=by show zj (T.get u)=false;rw [h1];rfl
 have o1:zAb T (.tmp u)=some (.slice (some ⟨b,0,none⟩) n (UNK+2)):=by show some (T.get u)=_;rw [h1]
 have o2:zBY T [.tmp v]=some [.int .i64 (i:Int)]:=by show some [T.get v]=_;rw [h2]
 have e:z6 E T o=sliceV E 26 (.slice (some ⟨b,0,none⟩) n (UNK+2)) (some (.int .i64 (i:Int))) none none:=by
  simp only [z6,ho,pSlice,f1,cond_false,Option.isSome_none,Bool.false_and,o1,Option.toList_some,Option.toList_none,o2]
  rfl
 rw [e]
 simp only [sliceV,und_26,sliceS,ts_54,natOr,asNat]
 show cut2 2 (some ⟨b,0,none⟩) n (UNK+2) i n=_
 have hu:Nat.ble UNK (UNK+2)=true:=ble_true.2 (by omega)
 have hc:Nat.beq (UNK+2) (UNK+2)=true:=Nat.beq_refl _
 simp only [cut2,ble_true.2 (show i<=n by omega),cond_true,hu,Option.isSome_some,ble_true.2 (Nat.le_refl n),hc,Bool.and_self,ble_false.2 hi,cond_false]
 cases hz:Nat.beq i 0 with
 | true=>
  have:i=0:=Nat.eq_of_beq_eq_true hz
  subst this
  rfl
 | false=>
  simp only [cond_false,cutAt,Nat.zero_add]
theorem cutHi {T:Tm} {o:Oper} {u v:Nat} {b n i:Nat} (ho:o.op=.slice 26 (.tmp u) none (some (.tmp v)) none) (h1:T.get u=.slice (some ⟨b,0,none⟩) n (UNK+2)) (h2:T.get v=.int .i64 (i:Int)) (hi:i<=n) :
  z6 E T o=some (.slice (some ⟨b,0,none⟩) i (UNK+2)):=by
 have f1:zy T (.tmp u)=false:=by show zj (T.get u)=false;rw [h1];rfl
 have o1:zAb T (.tmp u)=some (.slice (some ⟨b,0,none⟩) n (UNK+2)):=by show some (T.get u)=_;rw [h1]
 have o2:zBY T [.tmp v]=some [.int .i64 (i:Int)]:=by show some [T.get v]=_;rw [h2]
 have e:z6 E T o=sliceV E 26 (.slice (some ⟨b,0,none⟩) n (UNK+2)) none (some (.int .i64 (i:Int))) none:=by
  simp only [z6,ho,pSlice,f1,cond_false,Option.isSome_none,Bool.false_and,o1,Option.toList_some,Option.toList_none,o2]
  rfl
 rw [e]
 simp only [sliceV,und_26,sliceS,ts_54,natOr,asNat]
 show cut2 2 (some ⟨b,0,none⟩) n (UNK+2) 0 i=_
 have hu:Nat.ble UNK (UNK+2)=true:=ble_true.2 (by omega)
 have hc:Nat.beq (UNK+2) (UNK+2)=true:=Nat.beq_refl _
 simp only [cut2,ble_true.2 (Nat.zero_le i),cond_true,hu,Option.isSome_some,ble_true.2 hi,hc,Bool.and_self,show Nat.beq 0 0=true from rfl]
theorem rep_len {α:Type} (l:List α):∀ n,(rep n l).length=n*l.length
 | 0=>by simp [rep]
 | n+1=>by simp only [rep,List.length_append,rep_len l n,Nat.add_mul];omega
theorem clear26 {h:AH} {b i m cp:Nat} {x y:List Value} {ty es:Nat} (hb:h.get b=some (.row (x++y) ty es false)) (hx:x.length=i*2) (hy:y.length=m*2) (hm:m≠0) :
  zAC E .clear [26] (some [.slice (some ⟨b,i*2,none⟩) m cp]) h=one (.tuple #[],h.upd b (some (.row (x++rep m [.int .i64 0,.int .i64 0]) ty es false))):=by
 show wClear E 26 (.slice (some ⟨b,i*2,none⟩) m cp) h=_
 have hm0:Nat.beq m 0=false:=by cases m with|zero=>exact absurd rfl hm|succ m=>rfl
 simp only [wClear,elt26.el,hm0,cond_false,clearRow,z_54,ts_54,hb,zAH,List.length_append,hx,hy,zS]
 have h1:Nat.ble (i*2+m*2) (i*2+m*2)=true:=ble_true.2 (Nat.le_refl _)
 have h2:lput (x++y) (i*2) (rep m [Value.int .i64 0,.int .i64 0])=x++rep m [.int .i64 0,.int .i64 0]:=by
  rw [← hx];exact lput_app _ _ _ (by rw [rep_len,hy];rfl)
 simp only [h1,h2]
 rfl
end Go.Proofs
namespace Go.Proofs
open Go Go.AM
set_option maxRecDepth 100000
theorem ordI_c3 (a b:Int):ordI a b=c3 a b:=rfl
mutual
theorem cmpR_eq:∀ t u:GT,cmpR t u=cmpT t u
 | .mk k n l,.mk k' n' l'=>by
  have h:=cmpRL_eq l l'
  simp only [cmpR,cmpT,orI,ordI_c3]
  by_cases h1:c3 k k'=0
  ·by_cases h2:c3 n n'=0
   ·by_cases h3:c3 (l.length:Int) (l'.length:Int)=0
    ·simp [h1,h2,h3,h (ordI_len h3)]
    ·simp [h1,h2,h3]
   ·simp [h1,h2]
  ·simp [h1]
theorem cmpRL_eq:∀ l l':List GT,l.length=l'.length->cmpRL l l'=cmpL l l'
 | [],[],_=>rfl
 | t::ts,u::us,h=>by
  simp only [cmpRL,cmpL,cmpR_eq t u,cmpRL_eq ts us (by simpa using h)]
  by_cases e:cmpT t u=0 <;> simp [e]
 | [],_::_,h=>by simp at h
 | _::_,[],h=>by simp at h
end
theorem cmpL_end {l l':List GT} {i:Nat} (h1:i<=l.length) (h2:i<=l'.length) (h:i=l.length\/i=l'.length):cmpL (l.drop i) (l'.drop i)=c3 l.length l'.length:=by
 cases e:l.drop i with
 | nil=>
  have e1:l.length<=i:=by simpa using e
  cases e':l'.drop i with
  | nil=>
   have e2:l'.length<=i:=by simpa using e'
   have:l.length=l'.length:=by omega
   simp [cmpL,c3,this]
  | cons y ys=>
   have e2:i<l'.length:=by
    rcases Nat.lt_or_ge i l'.length with h|h
    ·exact h
    ·rw [List.drop_eq_nil_of_le h] at e';cases e'
   simp only [cmpL,c3]
   rw [if_pos (by omega)]
 | cons x xs=>
  have e1:i<l.length:=by
   rcases Nat.lt_or_ge i l.length with h|h
   ·exact h
   ·rw [List.drop_eq_nil_of_le h] at e;cases e
  have e2:l'.drop i=[]:=List.drop_eq_nil_of_le (by omega)
  rw [e2]
  simp only [cmpL,c3]
  rw [if_neg (by omega),if_pos (by omega)]
theorem lab_or (g:Int) (l:List GT) (g':Int) (l':List GT):zBK g l g' l'=if c3 g g'=0 then cmpL l l' else c3 g g':=by
 simp only [zBK,orI]
 by_cases h:c3 g g'=0 <;> by_cases h2:cmpL l l'=0 <;> simp [h,h2]
theorem spec188' {h0 k:AH} {e e':List Value} {els els':List (List Value)} {ts ts':List GT} (hc:RC h0 els ts) (hc':RC h0 els' ts') {i:Nat} (he:els[i]?=some e) (he':els'[i]?=some e') (hk:Ext h0 k) :
  ∃ t u,ts[i]?=some t/\ts'[i]?=some u/\(zX E).call 188 [.agg ⟨e⟩,.agg ⟨e'⟩] k=some [(.int .i64 (cmpT t u),k)]:=by
 obtain ⟨ck,cn,cv,cl,rfl,r1,r2,r3⟩:=specs188 hc i e he
 obtain ⟨dk,dn,dv,dl,rfl,s1,s2⟩:=RC.at hc' i e' he'
 exact ⟨_,_,r2,s2,by rw [← cmpR_eq];exact r3 k dk dn dv dl s1 hk⟩
theorem c3_self (a:Int):c3 a a=0:=by simp [c3]
theorem call140 {h0 k:AH} {v v':Value} {l l':List GT} (hr:RT h0 v l) (hr':RT h0 v' l') (hk:Ext h0 k):(zX E).call 140 [v,v'] k=some [(.int .i64 (cmpL l l'),k)]:=by
 have hs:=hr.slice
 have hs':=hr'.slice
 cases hr with
 | @mk _ els _ ha hn hc=>
 cases hr' with
 | @mk _ els' _ ha' hn' hc'=>
 have hlen:=RC.length hc
 have hlen':=RC.length hc'
 obtain ⟨sa,sc,rfl⟩:=hs
 obtain ⟨sa',sc',rfl⟩:=hs'
 refine F140_flat (s:=true) hk.ok rfl (P140_0_of ?_)
 refine P140_1_of ?_
 have hkf:=hk.fresh
 have fin:c3 l.length l'.length=cmpL l l'->P140_7 true (KR E [.tmp 2] fun x m=>x=.int .i64 (cmpL l l')/\k.next<=m.wm) (.slice sa l.length sc) (.slice sa' l'.length sc') k.fresh:=by
  intro hc
  refine P140_7_of ?_
  simp only [zA,len140_7_1,len140_7_3,zR,call94 hkf.ok,zO,zAD,zT,true_and]
  exact ⟨congrArg (Value.int .i64) hc,by rw [zAN];omega⟩
 have loop:∀ (m i:Nat),i+m=l.length->i<=l'.length->cmpL (l.drop i) (l'.drop i)=cmpL l l'->P140_2 true (KR E [.tmp 2] fun x m=>x=.int .i64 (cmpL l l')/\k.next<=m.wm) (.slice sa l.length sc) (.slice sa' l'.length sc') (.int .i64 (i:Int)) k.fresh:=by
  intro m
  induction m with
  | zero=>
   intro i hi hi2 hV
   refine P140_2_of ?_
   simp only [zA,len140_2_2,zb,show decide ((i:Int)<(l.length:Int))=false from decide_eq_false (by omega),zN,show (false==true)=false from rfl,cond_false,zJ,zAA]
   exact fin (by rw [← hV,cmpL_end (by omega) hi2 (by omega)])
  | succ m ih=>
   intro i hi hi2 hV
   refine P140_2_of ?_
   simp only [zA,len140_2_2,zb,show decide ((i:Int)<(l.length:Int))=true from decide_eq_true (by omega),zN,beq_self_eq_true,cond_true,len140_2_7,zJ,zAK]
   refine ⟨fun hi'=>P140_3_of ?_,fun hni=>fin (by rw [← hV,cmpL_end (by omega) hi2 (by omega)])⟩
   have hi':i<l'.length:=by omega
   have hil:i<l.length:=by omega
   obtain ⟨x,hx⟩:∃ x,els[i]?=some x:=⟨_,List.getElem?_eq_getElem (by omega)⟩
   obtain ⟨y,hy⟩:∃ y,els'[i]?=some y:=⟨_,List.getElem?_eq_getElem (by omega)⟩
   obtain ⟨p1,q1,w1⟩:=idx34 ha hkf hx
   obtain ⟨p2,q2,w2⟩:=idx34 ha' hkf hy
   obtain ⟨t,u,ht,hu,hcall⟩:=spec188' hc hc' hx hy hkf
   have e3:l.drop i=t::l.drop (i+1):=by rw [List.drop_eq_getElem_cons hil,(List.getElem?_eq_some_iff.1 ht).2]
   have e4:l'.drop i=u::l'.drop (i+1):=by rw [List.drop_eq_getElem_cons hi',(List.getElem?_eq_some_iff.1 hu).2]
   rw [e3,e4] at hV
   simp only [cmpL] at hV
   simp only [zA,q1,w1,q2,w2,zR,hcall,zO]
   refine P140_4_of ?_
   simp only [zA,zBL,brK_n]
   refine ⟨fun hne=>P140_5_of ?_,fun he=>P140_6_of ?_⟩
   ·simp only [zA,zAD,zT,true_and]
    rw [if_pos hne] at hV
    exact ⟨by rw [hV],by rw [zAN];omega⟩
   ·simp only [zA,zAM _ (add1 (show i<l.length by omega) (by omega))]
    rw [if_neg (by simp [he])] at hV
    exact ih (i+1) (by omega) (by omega) hV
 have:=loop l.length 0 (by omega) (by omega) (by simp)
 exact this
theorem call88 {h0 k:AH} {g g':Int} {v v':Value} {l l':List GT} (hr:RT h0 v l) (hr':RT h0 v' l') (hk:Ext h0 k) :
  (zX E).call 88 [.agg ⟨[.int .i64 g,v]⟩,.agg ⟨[.int .i64 g',v']⟩] k=some [(.int .i64 (zBK g l g' l'),k)]:=by
 refine F88_flat (s:=true) hk.ok rfl (P88_0_of ?_)
 obtain ⟨k1,e1,n1,t1,o1,f1⟩:=nwF k (.row [.int .i64 g,v] 36 0 false)
 obtain ⟨k2,e2,n2,t2,o2,f2⟩:=nw o1 (.row [.int .i64 g',v'] 36 0 false)
 simp only [zd,zL,zS,zA,e1,e2,zZ]
 have g1:=(f2 k.next (by omega)).trans t1
 have l0:=zD (P:=E) zAQ (o:=0) g1
 have l1:=zD (P:=E) zDB (o:=1) g1
 have m0:=zD (P:=E) zAQ (o:=0) t2
 have m1:=zD (P:=E) zDB (o:=1) t2
 simp only [lnth] at l0 l1 m0 m1
 have ex2:=hk.trans o2.ext
 refine P88_1_of ?_
 simp only [zBS,Nat.add_zero,l0,m0,zA,zR,call94 ex2.ok,zO]
 refine P88_2_of ?_
 simp only [zA,zBL,brK_n]
 refine ⟨fun hne=>P88_3_of ?_,fun he=>P88_4_of ?_⟩
 ·simp only [zA,zAD,zT,true_and]
  have hne:¬ c3 g g'=0:=hne
  exact ⟨congrArg (Value.int .i64) (show c3 g g'=_ by rw [lab_or,if_neg hne]),o2.wm⟩
 ·simp only [zBt,Nat.zero_add,l1,m1,zA,zR,call140 hr hr' ex2,zO,zAD,zT,true_and]
  have he:c3 g g'=0:=he
  exact ⟨by rw [lab_or,if_pos he],o2.wm⟩
theorem call28e {h0 k:AH} {g g':Int} {v v':Value} {l l':List GT} (hr:RT h0 v l) (hr':RT h0 v' l') (hk:Ext h0 k) :
  (zX E).call 28 [.agg ⟨[.int .i64 g,v]⟩,.agg ⟨[.int .i64 g',v']⟩] k=some [(.bool (decide (zBK g l g' l'=0)),k)]:=by
 refine F28_flat (s:=true) hk.ok rfl (P28_0_of ?_)
 obtain ⟨k1,e1,n1,t1,o1,f1⟩:=nwF k (.row [.int .i64 g,v] 36 0 false)
 obtain ⟨k2,e2,n2,t2,o2,f2⟩:=nw o1 (.row [.int .i64 g',v'] 36 0 false)
 simp only [zd,zL,zS,zA,e1,e2,zZ]
 refine P28_1_of ?_
 have g1:=(f2 k.next (by omega)).trans t1
 have a1:=za (P:=E) ta_36 (o:=0) g1 (by simp)
 have a2:=za (P:=E) ta_36 (o:=0) t2 (by simp)
 simp only [List.drop_zero,List.take] at a1 a2
 have ex2:=hk.trans o2.ext
 simp only [a1,a2,zA,zR,call88 (g:=g) (g':=g') hr hr' ex2,zO,zAV,zAD,zT,true_and]
 exact o2.wm
mutual
theorem cmpT_self:∀ t:GT,cmpT t t=0
 | .mk k n l=>by simp only [cmpT,orI,c3_self];simp [cmpL_self l]
theorem cmpL_self:∀ l:List GT,cmpL l l=0
 | []=>rfl
 | t::ts=>by simp [cmpL,cmpT_self t,cmpL_self ts]
end
end Go.Proofs
namespace Go.Proofs
open Go Go.AM
set_option maxRecDepth 100000
set_option maxHeartbeats 1000000
theorem bf_subw (t:TypeId) (a b:Int):zF E .sub t (.int .i64 a) (.int .i64 b)=some (.int .i64 (zB1 .i64 (a-b))):=rfl
abbrev KB (k:AH) (rs:List ResultVar) (Rp:Value->Prop):KF:=KR E rs (fun x m=>(zj x=true/\Rp x)/\k.next<=m.wm)
def zAX (Q:Prop) (x:Value):Prop:=∃ b:Bool,x=.bool b/\(b=true->Q)
def SpecB (f:FuncId) (h0:AH) (kk nn:Int) (v:Value) (Q:Prop):Prop:=∀ k,Ext h0 k->∃ b:Bool,(b=true->Q)/\(zX E).call f [.agg #[.int .i64 kk,.int .i64 nn,v]] k=some [(.bool b,k)]
mutual
theorem spec230 {h0:AH}:∀ {v:Value} {l:List GT},RT h0 v l->∀ (kk nn:Int),SpecB 230 h0 kk nn v (okT (.mk kk nn l)=true)
 | v,l,.mk (els:=els) ha hn hc,kk,nn=>by
  intro k hk
  have hrt:RT h0 v l:=.mk ha hn hc
  have hch:=specs230 hc
  have hlen:=RC.length hc
  obtain ⟨sa,sc,rfl⟩:=hrt.slice
  have key:∃ x,zAX (okT (.mk kk nn l)=true) x/\(zX E).call 230 [.agg #[.int .i64 kk,.int .i64 nn,.slice sa l.length sc]] k=some [(x,k)]:=by
   refine F230_flatE hk.ok (P230_0_of ?_)
   obtain ⟨k1,e1,n1,t1,o1,f1⟩:=nwF k (.row [.int .i64 kk,.int .i64 nn,.slice sa l.length sc] 173 0 false)
   simp only [zd,zL,zS,zA,e1,zZ]
   have l0:=zD (P:=E) zAQ (o:=0) t1
   have l1:=zD (P:=E) zAQ (o:=1) t1
   have l2:=zD (P:=E) zDB (o:=2) t1
   simp only [lnth] at l0 l1 l2
   have ex:=hk.trans o1.ext
   have no:P230_2 true (KB k [.tmp 2] (zAX (okT (.mk kk nn l)=true))) k1:=P230_2_of (by simp only [zA,zAD,zT,true_and];exact ⟨⟨rfl,_,rfl,fun h=>by cases h⟩,o1.wm⟩)
   have no':P230_7 true (KB k [.tmp 2] (zAX (okT (.mk kk nn l)=true))) k1:=P230_7_of (by simp only [zA,zAD,zT,true_and];exact ⟨⟨rfl,_,rfl,fun h=>by cases h⟩,o1.wm⟩)
   have yes':okT (.mk kk nn l)=true->P230_9 true (KB k [.tmp 2] (zAX (okT (.mk kk nn l)=true))) k1:=fun h=>P230_9_of (by simp only [zA,zAD,zT,true_and];exact ⟨⟨rfl,_,rfl,fun _=>h⟩,o1.wm⟩)
   have loop:(kk=2/\¬ nn<0/\¬ 255<nn/\¬ (8:Int)<(l.length:Int))->∀ (m i:Nat),i+m=l.length->(∀ (j:Nat) (t:GT),j<i->l[j]?=some t->okT t=true)->P230_4 true (KB k [.tmp 2] (zAX (okT (.mk kk nn l)=true))) (.pointer (some ⟨k.next,0,none⟩)) (.int .i64 (i:Int)) k1:=by
    intro hcond m
    induction m with
    | zero=>
     intro i hi hp
     refine P230_4_of ?_
     simp only [zAU,Nat.zero_add,l2,zA,len230_4_3,zb,show decide ((i:Int)<(l.length:Int))=false from decide_eq_false (by omega),zAA]
     refine yes' ?_
     simp only [okT,Bool.and_eq_true,decide_eq_true_eq]
     exact ⟨⟨⟨⟨hcond.1,by omega⟩,by omega⟩,by omega⟩,okL_iff.2 fun j t hj=>hp j t (by have:=(List.getElem?_eq_some_iff.1 hj).1;omega) hj⟩
    | succ m ih=>
     intro i hi hp
     refine P230_4_of ?_
     simp only [zAU,Nat.zero_add,l2,zA,len230_4_3,zb,show decide ((i:Int)<(l.length:Int))=true from decide_eq_true (by omega),z7]
     refine P230_5_of ?_
     obtain ⟨x,hx⟩:∃ x,els[i]?=some x:=⟨_,List.getElem?_eq_getElem (by omega)⟩
     obtain ⟨p1,q1,w1⟩:=idx34 ha ex hx
     obtain ⟨ck,cn,cv,cl,rfl,hcl,hs⟩:=hch i x hx
     obtain ⟨b,hbt,hb⟩:=hs k1 ex
     simp only [zAU,Nat.zero_add,l2,zA,q1,w1,zR,hb,zO]
     refine P230_6_of ?_
     simp only [zA,zp]
     cases b with
     | false=>simp only [Bool.not_false,z7];exact no'
     | true=>
      simp only [Bool.not_true,zAA]
      refine P230_8_of ?_
      simp only [zA,zAM _ (add1 (show i<l.length by omega) (by omega))]
      refine ih (i+1) (by omega) fun j t hj ht=>?_
      rcases Nat.lt_succ_iff_lt_or_eq.1 hj with h|h
      ·exact hp j t h ht
      ·subst h;rw [hcl] at ht;cases ht;exact hbt rfl
   have yes:(kk=2/\¬ nn<0/\¬ 255<nn/\¬ (8:Int)<(l.length:Int))->P230_3 true (KB k [.tmp 2] (zAX (okT (.mk kk nn l)=true))) (.pointer (some ⟨k.next,0,none⟩)) k1:=fun h=>P230_3_of (by exact loop h l.length 0 (by omega) fun j t hj=>by omega)
   refine P230_1_of ?_
   cases h1:decide (kk=2) <;> cases h2:decide (nn<0) <;> cases h3:decide (255<nn) <;> cases h4:decide ((8:Int)<(l.length:Int)) <;>
    simp only [fa_173_0,fa_173_1,zAU,Nat.zero_add,Nat.add_zero,l0,l1,l2,zA,len230_1_16,zBL,zb,zAI,h1,h2,h3,h4,decide_true,decide_false,Bool.not_true,Bool.not_false,zN,beq_self_eq_true,show (true==false)=false from rfl,show (false==true)=false from rfl,cond_true,cond_false,zJ,z7,zAA] <;> first|exact no|exact yes ⟨of_decide_eq_true h1,of_decide_eq_false h2,of_decide_eq_false h3,of_decide_eq_false h4⟩
  obtain ⟨x,⟨b,rfl,hbt⟩,hx⟩:=key
  exact ⟨b,hbt,hx⟩
theorem specs230 {h0:AH}:∀ {els:List (List Value)} {ts:List GT},RC h0 els ts->∀ (i:Nat) (e:List Value),els[i]?=some e->
  ∃ (k n:Int) (v:Value) (l:List GT),e=[.int .i64 k,.int .i64 n,v]/\ts[i]?=some (.mk k n l)/\SpecB 230 h0 k n v (okT (.mk k n l)=true)
 | _,_,.nil,i,e,h=>by simp at h
 | _,_,.cons hv hs,0,e,h=>by simp at h;exact ⟨_,_,_,_,h.symm,rfl,spec230 hv _ _⟩
 | _,_,.cons hv hs,i+1,e,h=>by
  simp only [List.getElem?_cons_succ] at h
  obtain ⟨k,n,v,l,a,b,c⟩:=specs230 hs i e h
  exact ⟨k,n,v,l,a,by simpa using b,c⟩
end
mutual
theorem spec281 {h0:AH}:∀ {v:Value} {l:List GT},RT h0 v l->∀ (kk nn:Int),SpecB 281 h0 kk nn v True
 | v,l,.mk (els:=els) ha hn hc,kk,nn=>by
  intro k hk
  have hrt:RT h0 v l:=.mk ha hn hc
  have hch:=specs281 hc
  have hlen:=RC.length hc
  obtain ⟨sa,sc,rfl⟩:=hrt.slice
  have key:∃ x,zAX True x/\(zX E).call 281 [.agg #[.int .i64 kk,.int .i64 nn,.slice sa l.length sc]] k=some [(x,k)]:=by
   refine F281_flatE hk.ok (P281_0_of ?_)
   obtain ⟨k1,e1,n1,t1,o1,f1⟩:=nwF k (.row [.int .i64 kk,.int .i64 nn,.slice sa l.length sc] 173 0 false)
   simp only [zd,zL,zS,zA,e1,zZ]
   have l0:=zD (P:=E) zAQ (o:=0) t1
   have l1:=zD (P:=E) zAQ (o:=1) t1
   have l2:=zD (P:=E) zDB (o:=2) t1
   simp only [lnth] at l0 l1 l2
   have ex:=hk.trans o1.ext
   have no:P281_2 true (KB k [.tmp 2] (zAX True)) k1:=P281_2_of (by simp only [zA,zAD,zT,true_and];exact ⟨⟨rfl,_,rfl,fun _=>trivial⟩,o1.wm⟩)
   have no':P281_6 true (KB k [.tmp 2] (zAX True)) k1:=P281_6_of (by simp only [zA,zAD,zT,true_and];exact ⟨⟨rfl,_,rfl,fun _=>trivial⟩,o1.wm⟩)
   have yes':P281_8 true (KB k [.tmp 2] (zAX True)) k1:=P281_8_of (by simp only [zA,zAD,zT,true_and];exact ⟨⟨rfl,_,rfl,fun _=>trivial⟩,o1.wm⟩)
   have loop:∀ (m i:Nat),i+m=l.length->P281_4 true (KB k [.tmp 2] (zAX True)) (.pointer (some ⟨k.next,0,none⟩)) (.int .i64 (i:Int)) k1:=by
    intro m
    induction m with
    | zero=>
     intro i hi
     refine P281_4_of ?_
     simp only [zAU,Nat.zero_add,l2,zA,len281_4_3,zb,show decide ((i:Int)<(l.length:Int))=false from decide_eq_false (by omega),zAA]
     exact yes'
    | succ m ih=>
     intro i hi
     refine P281_4_of ?_
     simp only [zAU,Nat.zero_add,l2,zA,len281_4_3,zb,show decide ((i:Int)<(l.length:Int))=true from decide_eq_true (by omega),z7]
     refine P281_5_of ?_
     obtain ⟨x,hx⟩:∃ x,els[i]?=some x:=⟨_,List.getElem?_eq_getElem (by omega)⟩
     obtain ⟨p1,q1,w1⟩:=idx34 ha ex hx
     obtain ⟨ck,cn,cv,rfl,hs⟩:=hch i x hx
     obtain ⟨b,_,hb⟩:=hs k1 ex
     simp only [zAU,Nat.zero_add,l2,zA,q1,w1,zR,hb,zO,zp]
     cases b with
     | false=>simp only [Bool.not_false,z7];exact no'
     | true=>
      simp only [Bool.not_true,zAA]
      refine P281_7_of ?_
      simp only [zA,zAM _ (add1 (show i<l.length by omega) (by omega))]
      exact ih (i+1) (by omega)
   have yes:P281_3 true (KB k [.tmp 2] (zAX True)) (.pointer (some ⟨k.next,0,none⟩)) k1:=P281_3_of (by exact loop l.length 0 (by omega))
   refine P281_1_of ?_
   cases h1:decide (nn<0) <;> cases h2:decide (kk=1) <;> cases h3:decide (kk=2) <;> cases h4:decide ((0:Int)<(l.length:Int)) <;> cases h5:decide ((8:Int)<(l.length:Int)) <;>
    simp only [fa_173_0,fa_173_1,zAU,Nat.zero_add,Nat.add_zero,l0,l1,l2,zA,len281_1_20,len281_1_27,zBL,zAV,zb,zAI,h1,h2,h3,h4,h5,decide_true,decide_false,Bool.not_true,Bool.not_false,zN,zt,beq_self_eq_true,show (true==false)=false from rfl,show (false==true)=false from rfl,cond_true,cond_false,zJ,z7,zAA] <;> first|exact no|exact yes
  obtain ⟨x,⟨b,rfl,hbt⟩,hx⟩:=key
  exact ⟨b,hbt,hx⟩
theorem specs281 {h0:AH}:∀ {els:List (List Value)} {ts:List GT},RC h0 els ts->∀ (i:Nat) (e:List Value),els[i]?=some e->
  ∃ (k n:Int) (v:Value),e=[.int .i64 k,.int .i64 n,v]/\SpecB 281 h0 k n v True
 | _,_,.nil,i,e,h=>by simp at h
 | _,_,.cons hv hs,0,e,h=>by simp at h;exact ⟨_,_,_,h.symm,spec281 hv _ _⟩
 | _,_,.cons hv hs,i+1,e,h=>by
  simp only [List.getElem?_cons_succ] at h
  exact specs281 hs i e h
end
mutual
def szT:GT->Int
 | .mk _ _ l=>1+szL l
def szL:List GT->Int
 | []=>0
 | t::ts=>szT t+szL ts
end
mutual
def dpT:GT->Int->Bool
 | .mk _ _ l,d=>decide (d<=200)&&dpL l (d+1)
def dpL:List GT->Int->Bool
 | [],_=>true
 | t::ts,d=>dpT t d&&dpL ts d
end
mutual
theorem szT_pos:∀ t:GT,1<=szT t
 | .mk _ _ l=>by have:=szL_pos l;simp only [szT];omega
theorem szL_pos:∀ l:List GT,0<=szL l
 | []=>Int.le_refl _
 | t::ts=>by have:=szT_pos t;have:=szL_pos ts;simp only [szL];omega
end
theorem szL_app:∀ l m:List GT,szL (l++m)=szL l+szL m
 | [],m=>by simp [szL]
 | t::l,m=>by simp only [List.cons_append,szL,szL_app l m];omega
theorem dpL_iff:∀ {l:List GT} {d:Int},dpL l d=true ↔ ∀ (i:Nat) (t:GT),l[i]?=some t->dpT t d=true
 | [],_=>by simp [dpL]
 | t::ts,d=>by
  simp only [dpL,Bool.and_eq_true,dpL_iff (l:=ts)]
  constructor
  ·rintro ⟨a,b⟩ i u hu
   cases i with
   | zero=>simp at hu;rw [← hu];exact a
   | succ i=>exact b i u (by simpa using hu)
  ·intro h
   exact ⟨h 0 t rfl,fun i u hu=>h (i+1) u (by simpa using hu)⟩
def CntP (t:GT) (a d n:Int) (b:Bool):Prop:=b=true->0<=a->a<=2000->0<=d->n=a-szT t/\0<=n/\dpT t d=true
def CntOut (t:GT) (a d:Int) (x:Value):Prop:=∃ (n:Int) (b:Bool),x=.tuple #[.int .i64 n,.bool b]/\CntP t a d n b
def SpecC (h0:AH) (kk nn:Int) (v:Value) (l:List GT):Prop:=∀ k (a d:Int),Ext h0 k->∃ (n:Int) (b:Bool),CntP (.mk kk nn l) a d n b/\(zX E).call 280 [.agg #[.int .i64 kk,.int .i64 nn,v],.int .i64 a,.int .i64 d] k=some [(.tuple #[.int .i64 n,.bool b],k)]
mutual
theorem spec280 {h0:AH}:∀ {v:Value} {l:List GT},RT h0 v l->∀ (kk nn:Int),SpecC h0 kk nn v l
 | v,l,.mk (els:=els) ha hn hc,kk,nn=>by
  intro k a d hk
  have hrt:RT h0 v l:=.mk ha hn hc
  have hch:=specs280 hc
  have hlen:=RC.length hc
  obtain ⟨sa,sc,rfl⟩:=hrt.slice
  have key:∃ x,CntOut (.mk kk nn l) a d x/\(zX E).call 280 [.agg #[.int .i64 kk,.int .i64 nn,.slice sa l.length sc],.int .i64 a,.int .i64 d] k=some [(x,k)]:=by
   refine F280_flatE hk.ok (P280_0_of ?_)
   obtain ⟨k1,e1,n1,t1,o1,f1⟩:=nwF k (.row [.int .i64 kk,.int .i64 nn,.slice sa l.length sc] 173 0 false)
   simp only [zd,zL,zS,zA,e1,zZ]
   have l2:=zD (P:=E) zDB (o:=2) t1
   simp only [lnth] at l2
   have ex:=hk.trans o1.ext
   have no:∀ n,P280_3 true (KB k [.tmp 4,.tmp 5] (CntOut (.mk kk nn l) a d)) (.int .i64 n) k1:=fun n=>P280_3_of (by simp only [zA,kR_2,zT,true_and];exact ⟨⟨rfl,_,_,rfl,fun h=>by cases h⟩,o1.wm⟩)
   have no':∀ n,P280_9 true (KB k [.tmp 4,.tmp 5] (CntOut (.mk kk nn l) a d)) (.int .i64 n) k1:=fun n=>P280_9_of (by simp only [zA,kR_2,zT,true_and];exact ⟨⟨rfl,_,_,rfl,fun h=>by cases h⟩,o1.wm⟩)
   have yes':∀ n,CntP (.mk kk nn l) a d n true->P280_11 true (KB k [.tmp 4,.tmp 5] (CntOut (.mk kk nn l) a d)) (.int .i64 n) k1:=fun n hn=>P280_11_of (by simp only [zA,kR_2,zT,true_and];exact ⟨⟨rfl,_,_,rfl,hn⟩,o1.wm⟩)
   have loop:¬ 200<d->∀ (m i:Nat),i+m=l.length->∀ n:Int,(0<=a->a<=2000->0<=d->n=a-1-szL (l.take i)/\0<=n/\∀ (j:Nat) (t:GT),j<i->l[j]?=some t->dpT t (d+1)=true)->P280_5 true (KB k [.tmp 4,.tmp 5] (CntOut (.mk kk nn l) a d)) (.int .i64 n) (.int .i64 d) (.pointer (some ⟨k.next,0,none⟩)) (.int .i64 (i:Int)) k1:=by
    intro hd m
    induction m with
    | zero=>
     intro i hi n hp
     refine P280_5_of ?_
     simp only [zAU,Nat.zero_add,l2,zA,len280_5_3,zb,show decide ((i:Int)<(l.length:Int))=false from decide_eq_false (by omega),zAA]
     refine yes' n fun _ h1 h2 h3=>?_
     obtain ⟨p1,p2,p3⟩:=hp h1 h2 h3
     rw [List.take_of_length_le (by omega)] at p1
     refine ⟨by simp only [szT];omega,p2,?_⟩
     simp only [dpT,Bool.and_eq_true,decide_eq_true_eq]
     exact ⟨by omega,dpL_iff.2 fun j t hj=>p3 j t (by have:=(List.getElem?_eq_some_iff.1 hj).1;omega) hj⟩
    | succ m ih=>
     intro i hi n hp
     refine P280_5_of ?_
     simp only [zAU,Nat.zero_add,l2,zA,len280_5_3,zb,show decide ((i:Int)<(l.length:Int))=true from decide_eq_true (by omega),z7]
     refine P280_6_of ?_
     obtain ⟨x,hx⟩:∃ x,els[i]?=some x:=⟨_,List.getElem?_eq_getElem (by omega)⟩
     obtain ⟨p1,q1,w1⟩:=idx34 ha ex hx
     obtain ⟨ck,cn,cv,cl,rfl,hcl,hs⟩:=hch i x hx
     obtain ⟨n2,b,hbt,hb⟩:=hs k1 n (zB1 .i64 (d+1)) ex
     simp only [zAU,Nat.zero_add,l2,zA,q1,w1,bf_addw,zR,hb,zO,zAJ,lnth]
     refine P280_7_of ?_
     refine P280_8_of ?_
     simp only [zA,zp]
     cases b with
     | false=>simp only [Bool.not_false,z7];exact no' n2
     | true=>
      simp only [Bool.not_true,zAA]
      refine P280_10_of ?_
      simp only [zA,zAM _ (add1 (show i<l.length by omega) (by omega))]
      refine ih (i+1) (by omega) n2 fun h1 h2 h3=>?_
      obtain ⟨p1,p2,p3⟩:=hp h1 h2 h3
      have hz:=szL_pos (l.take i)
      rw [wrap_in (show in64 (d+1) by unfold in64;omega)] at hbt
      obtain ⟨q1,q2,q3⟩:=hbt rfl p2 (by omega) (by omega)
      refine ⟨?_,q2,fun j t hj ht=>?_⟩
      ·rw [List.take_succ,hcl,szL_app];simp only [Option.toList,szL];omega
      ·rcases Nat.lt_succ_iff_lt_or_eq.1 hj with h|h
       ·exact p3 j t h ht
       ·subst h;rw [hcl] at ht;cases ht;exact q3
   refine P280_1_of ?_
   simp only [zA,bf_subw]
   refine P280_2_of ?_
   have yes:¬ zB1 .i64 (a-1)<0->¬ 200<d->P280_4 true (KB k [.tmp 4,.tmp 5] (CntOut (.mk kk nn l) a d)) (.int .i64 (zB1 .i64 (a-1))) (.int .i64 d) (.pointer (some ⟨k.next,0,none⟩)) k1:=fun h1 h2=>P280_4_of (by exact loop h2 l.length 0 (by omega) _ fun h3 h4 h5=>by rw [wrap_in (show in64 (a-1) by unfold in64;omega)] at h1 ⊢;exact ⟨by simp [szL],by omega,fun j t hj=>by omega⟩)
   by_cases h1:zB1 .i64 (a-1)<0 <;> by_cases h2:200<d <;>
    simp only [zA,zb,zAI,h1,h2,decide_true,decide_false,zN,beq_self_eq_true,show (true==false)=false from rfl,show (false==true)=false from rfl,cond_true,cond_false,zJ,z7,zAA] <;> first|exact no _|exact yes h1 h2
  obtain ⟨x,⟨n,b,rfl,hbt⟩,hx⟩:=key
  exact ⟨n,b,hbt,hx⟩
theorem specs280 {h0:AH}:∀ {els:List (List Value)} {ts:List GT},RC h0 els ts->∀ (i:Nat) (e:List Value),els[i]?=some e->
  ∃ (k n:Int) (v:Value) (l:List GT),e=[.int .i64 k,.int .i64 n,v]/\ts[i]?=some (.mk k n l)/\SpecC h0 k n v l
 | _,_,.nil,i,e,h=>by simp at h
 | _,_,.cons hv hs,0,e,h=>by simp at h;exact ⟨_,_,_,_,h.symm,rfl,spec280 hv _ _⟩
 | _,_,.cons hv hs,i+1,e,h=>by
  simp only [List.getElem?_cons_succ] at h
  obtain ⟨k,n,v,l,a,b,c⟩:=specs280 hs i e h
  exact ⟨k,n,v,l,a,by simpa using b,c⟩
end
theorem call264 {h0 k:AH} {v:Value} {l:List GT} (hr:RT h0 v l) (hk:Ext h0 k) (kk nn:Int):∃ x,zAX (szT (.mk kk nn l)<=2000/\dpT (.mk kk nn l) 1=true) x/\(zX E).call 264 [.agg ⟨[.int .i64 kk,.int .i64 nn,v]⟩] k=some [(x,k)]:=by
 refine F264_flatE hk.ok (P264_0_of ?_)
 obtain ⟨k1,e1,n1,t1,o1,f1⟩:=nwF k (.row [.int .i64 kk,.int .i64 nn,v] 173 0 false)
 simp only [zd,zL,zS,zA,e1,zZ]
 have a1:=za (P:=E) zB3 (o:=0) t1 (by simp)
 simp only [List.drop_zero,List.take] at a1
 have ex:=hk.trans o1.ext
 obtain ⟨n,b,hbt,hb⟩:=spec280 hr kk nn k1 2000 1 ex
 obtain ⟨c,_,hc⟩:=spec281 hr kk nn k1 ex
 refine P264_1_of ?_
 simp only [a1,zA,zR,hb,zO,zAJ,lnth]
 refine P264_2_of ?_
 cases b with
 | true=>simp only [a1,zA,zN,zY,beq_self_eq_true,cond_true,zR,hc,zO,zJ,zAD,zT,true_and];exact ⟨⟨rfl,_,rfl,fun _=>by have:=hbt rfl (by omega) (by omega) (by omega);exact ⟨by omega,this.2.2⟩⟩,o1.wm⟩
 | false=>simp only [a1,zA,zN,zY,show (false==true)=false from rfl,cond_false,zL,zJ,zAD,zT,true_and];exact ⟨⟨rfl,_,rfl,fun h=>by cases h⟩,o1.wm⟩
theorem call231 {h0 k:AH} {v:Value} {l:List GT} (hr:RT h0 v l) (hk:Ext h0 k) (kk nn:Int):∃ x,(∃ n:Int,x=.int .i64 n/\(n=0->szT (.mk kk nn l)<=2000/\dpT (.mk kk nn l) 1=true))/\(zX E).call 231 [.agg ⟨[.int .i64 kk,.int .i64 nn,v]⟩] k=some [(x,k)]:=by
 refine F231_flatE hk.ok (P231_0_of ?_)
 obtain ⟨k1,e1,n1,t1,o1,f1⟩:=nwF k (.row [.int .i64 kk,.int .i64 nn,v] 173 0 false)
 simp only [zd,zL,zS,zA,e1,zZ]
 have a1:=za (P:=E) zB3 (o:=0) t1 (by simp)
 simp only [List.drop_zero,List.take] at a1
 obtain ⟨x,⟨b,rfl,hbt⟩,hb⟩:=call264 hr (hk.trans o1.ext) kk nn
 refine P231_1_of ?_
 simp only [a1,zA,zR,hb,zO,zp]
 cases b with
 | true=>simp only [Bool.not_true,zAA];refine P231_3_of ?_;simp only [zA,zAD,zT,true_and];exact ⟨⟨rfl,_,rfl,fun _=>hbt rfl⟩,o1.wm⟩
 | false=>simp only [Bool.not_false,z7];refine P231_2_of ?_;simp only [zA,zAD,zT,true_and];exact ⟨⟨rfl,_,rfl,fun h=>by omega⟩,o1.wm⟩
mutual
theorem cntT_fit:∀ (t:GT) (d:Int) (s:Int×Int),dpT t d=true->0<=d->0<=s.1->s.1+szT t<=2000->s.2<=200->(cntT t d s).1=s.1+szT t/\(cntT t d s).2<=200
 | .mk k n l,d,s,h1,h2,h3,h4,h5=>by
  simp only [dpT,Bool.and_eq_true,decide_eq_true_eq] at h1
  have hz:=szL_pos l
  simp only [szT] at h4 ⊢
  simp only [cntT]
  rw [wrap_in (show in64 (s.1+1) by unfold in64;omega)]
  have:=cntL_fit l d (s.1+1,if d > s.2 then d else s.2) h1.2 h1.1 h2 (by simp only;omega) (by simp only;omega) (by simp only;split <;> omega)
  simp only at this
  exact ⟨by omega,this.2⟩
theorem cntL_fit:∀ (l:List GT) (d:Int) (s:Int×Int),dpL l (d+1)=true->d<=200->0<=d->0<=s.1->s.1+szL l<=2000->s.2<=200->(cntL l d s).1=s.1+szL l/\(cntL l d s).2<=200
 | [],d,s,_,_,_,_,_,h=>by simp [cntL,szL,h]
 | t::ts,d,s,h1,h2,h3,h4,h5,h6=>by
  simp only [dpL,Bool.and_eq_true] at h1
  have hz:=szL_pos ts
  have hz2:=szT_pos t
  simp only [szL] at h5 ⊢
  simp only [cntL]
  rw [if_neg (by omega),wrap_in (show in64 (d+1) by unfold in64;omega)]
  obtain ⟨a,b⟩:=cntT_fit t (d+1) s h1.1 (by omega) h4 (by omega) h6
  obtain ⟨a',b'⟩:=cntL_fit ts d (cntT t (d+1) s) h1.2 h2 h3 (by omega) (by omega) b
  exact ⟨by omega,b'⟩
end
theorem val_fit {t:GT} (h1:szT t<=2000) (h2:dpT t 1=true) (h3:okT t=true):isVal t=true:=by
 obtain ⟨a,b⟩:=cntT_fit t 1 (0,0) h2 (by omega) (by simp) (by simpa using h1) (by simp)
 simp only [Int.zero_add] at a
 unfold isVal sizeT
 rw [h3,if_neg (by omega)]
 simp only [Bool.and_true,decide_eq_true_eq]
 omega
theorem call187 {h0 k:AH} {v:Value} {l:List GT} (hr:RT h0 v l) (hk:Ext h0 k) (kk nn:Int):∃ x,zAX (isVal (.mk kk nn l)=true) x/\(zX E).call 187 [.agg ⟨[.int .i64 kk,.int .i64 nn,v]⟩] k=some [(x,k)]:=by
 refine F187_flatE hk.ok (P187_0_of ?_)
 obtain ⟨k1,e1,n1,t1,o1,f1⟩:=nwF k (.row [.int .i64 kk,.int .i64 nn,v] 173 0 false)
 simp only [zd,zL,zS,zA,e1,zZ]
 have a1:=za (P:=E) zB3 (o:=0) t1 (by simp)
 simp only [List.drop_zero,List.take] at a1
 have ex:=hk.trans o1.ext
 obtain ⟨b,hbt,hb⟩:=spec230 hr kk nn k1 ex
 obtain ⟨x,⟨n,rfl,hn⟩,hc⟩:=call231 hr ex kk nn
 refine P187_1_of ?_
 simp only [a1,zA,zR,hb,zO]
 cases b with
 | true=>simp only [a1,zA,zN,zY,beq_self_eq_true,cond_true,zR,hc,zO,zAV,zJ,zAD,zT,true_and];exact ⟨⟨rfl,_,rfl,fun h=>by have:=hn (of_decide_eq_true h);exact val_fit this.1 this.2 (hbt rfl)⟩,o1.wm⟩
 | false=>simp only [a1,zA,zN,zY,show (false==true)=false from rfl,cond_false,zL,zJ,zAD,zT,true_and];exact ⟨⟨rfl,_,rfl,fun h=>by cases h⟩,o1.wm⟩
end Go.Proofs
namespace Go.Proofs
open Go Go.AM
set_option maxRecDepth 100000
set_option maxHeartbeats 2000000
theorem nwUp {k l:AH} (o:Own k l) (x y:AObj):∃ m,(l.new x).upd l.next (some y)=m/\m.next=l.next+1/\m.get l.next=some y/\Own k m/\∀ b,b<l.next->m.get b=l.get b:=
 ⟨_,rfl,rfl,zQ _ _ _,(o.new x).upd o.ext.next _,fun b hb=>by rw [zU (by omega),zK (by omega)]⟩
theorem badLab_of {g:Int} {l:List GT} (c1:¬ g < -3) (c2:¬ 31<g) (c3:¬ (8:Int)<(l.length:Int)) (c4:(bare g&&decide ((0:Int)<(l.length:Int)))=false) (c5:∀ (j:Nat) (t:GT),l[j]?=some t->isVal t=true):zAy g l=false:=by
 have h5:zl (pNot l isVal) l.length 0<0:=(zA9 _ _).1 fun j _ _=>by
  unfold pNot
  cases ht:l[j]? with
  | none=>rfl
  | some t=>simp [c5 j t ht]
 simp only [zAy,Bool.or_eq_false_iff,decide_eq_false_iff_not]
 refine ⟨⟨⟨⟨c1,by omega⟩,by omega⟩,?_⟩,by omega⟩
 cases hb:bare g with
 | false=>rfl
 | true=>
  rw [hb] at c4
  simp only [Bool.true_and,decide_eq_false_iff_not] at c4 ⊢
  omega
theorem c3_val (a b:Int):(a<b/\c3 a b=-1)\/(a=b/\c3 a b=0)\/(b<a/\c3 a b=1):=by
 unfold c3
 split
 ·exact .inl ⟨by assumption,rfl⟩
 ·split
  ·exact .inr (.inr ⟨by assumption,rfl⟩)
  ·exact .inr (.inl ⟨by omega,rfl⟩)
theorem cmpE_lt (e f:Int×Int×Int):cmpE e f<0 ↔ e.1<f.1\/(e.1=f.1/\(e.2.1<f.2.1\/(e.2.1=f.2.1/\e.2.2<f.2.2))):=by
 simp only [cmpE,orI]
 rcases c3_val e.1 f.1 with ⟨a,a'⟩|⟨a,a'⟩|⟨a,a'⟩ <;> rcases c3_val e.2.1 f.2.1 with ⟨b,b'⟩|⟨b,b'⟩|⟨b,b'⟩ <;> rcases c3_val e.2.2 f.2.2 with ⟨c,c'⟩|⟨c,c'⟩|⟨c,c'⟩ <;> rw [a',b',c'] <;> simp <;> omega
theorem anyFrom_of {p:Nat->Bool}:∀ {m i:Nat},(∀ j,i<=j->j<i+m->p j=false)->zAE p m i=false
 | 0,_,_=>rfl
 | m+1,i,h=>by
  simp only [zAE,Bool.or_eq_false_iff]
  exact ⟨h i (by omega) (by omega),anyFrom_of fun j h1 h2=>h j (by omega) (by omega)⟩
theorem badLts_of {L:GL} (h1:zA0 L=false) (h2:∀ j,j<L.labs.length->zA2 L.labs j=false) (h3:∀ j,j<L.eds.length->zBG L.n L.labs.length L.eds j=false):zq L=false:=by
 unfold zq
 rw [h1,anyFrom_of fun j _ h=>h2 j (by omega),anyFrom_of fun j _ h=>h3 j (by omega)]
 rfl
theorem edBad_of {n m:Int} {es:List (Int×Int×Int)} {i:Nat} {e:Int×Int×Int} (he:es[i]?=some e) (r:0<=e.1/\e.1<n/\0<=e.2.2/\e.2.2<n/\0<=e.2.1/\e.2.1<m) (hp:0<i->∀ f,es[i-1]?=some f->cmpE f e<0):zBG n m es i=false:=by
 unfold zBG
 obtain ⟨a1,a2,a3,a4,a5,a6⟩:=r
 simp only [he,a1,a2,a3,a4,a5,a6,decide_true,Bool.and_self,Bool.not_true,Bool.false_or]
 by_cases hi:0<i
 ·rw [decide_eq_true hi]
  cases hf:es[i-1]? with
  | none=>rfl
  | some f=>exact (Bool.true_and _).trans (decide_eq_false (by have:=hp hi f hf;omega))
 ·rw [decide_eq_false hi];rfl
theorem labBad_of {ls:List (Int×List GT)} {i:Nat} {x:Int×List GT} (he:ls[i]?=some x) (h1:zAy x.1 x.2=false) (hp:0<i->∀ y,ls[i-1]?=some y->zBK y.1 y.2 x.1 x.2<0):zA2 ls i=false:=by
 unfold zA2
 simp only [he,h1,Bool.false_or]
 by_cases hi:0<i
 ·rw [decide_eq_true hi]
  cases hf:ls[i-1]? with
  | none=>rfl
  | some f=>exact (Bool.true_and _).trans (decide_eq_false (by have:=hp hi f hf;omega))
 ·rw [decide_eq_false hi];rfl
theorem call138 {h0 k:AH} {g:Int} {v:Value} {l:List GT} (hr:RT h0 v l) (hk:Ext h0 k):∃ x,zAX (zAy g l=false) x/\(zX E).call 138 [.agg ⟨[.int .i64 g,v]⟩] k=some [(x,k)]:=by
 have hs:=hr.slice
 cases hr with
 | @mk _ els _ ha hn hc=>
 have hlen:=RC.length hc
 obtain ⟨sa,sc,rfl⟩:=hs
 refine F138_flatE hk.ok (P138_0_of ?_)
 obtain ⟨k1,e1,n1,t1,o1,f1⟩:=nwF k (.row [.int .i64 g,.slice sa l.length sc] 36 0 false)
 simp only [zd,zL,zS,zA,e1,zZ]
 have l0:=zD (P:=E) zAQ (o:=0) t1
 have l1:=zD (P:=E) zDB (o:=1) t1
 simp only [lnth] at l0 l1
 have ex:=hk.trans o1.ext
 have no:P138_2 true (KB k [.tmp 2] (zAX (zAy g l=false))) k1:=P138_2_of (by simp only [zA,zAD,zT,true_and];exact ⟨⟨rfl,_,rfl,fun h=>by cases h⟩,o1.wm⟩)
 have no4:P138_4 true (KB k [.tmp 2] (zAX (zAy g l=false))) k1:=P138_4_of (by simp only [zA,zAD,zT,true_and];exact ⟨⟨rfl,_,rfl,fun h=>by cases h⟩,o1.wm⟩)
 have no9:P138_9 true (KB k [.tmp 2] (zAX (zAy g l=false))) k1:=P138_9_of (by simp only [zA,zAD,zT,true_and];exact ⟨⟨rfl,_,rfl,fun h=>by cases h⟩,o1.wm⟩)
 have yes:zAy g l=false->P138_11 true (KB k [.tmp 2] (zAX (zAy g l=false))) k1:=fun h=>P138_11_of (by simp only [zA,zAD,zT,true_and];exact ⟨⟨rfl,_,rfl,fun _=>h⟩,o1.wm⟩)
 have loop:¬ g < -3->¬ 31<g->¬ (8:Int)<(l.length:Int)->(bare g&&decide ((0:Int)<(l.length:Int)))=false->∀ (m i:Nat),i+m=l.length->(∀ (j:Nat) (t:GT),j<i->l[j]?=some t->isVal t=true)->P138_6 true (KB k [.tmp 2] (zAX (zAy g l=false))) (.pointer (some ⟨k.next,0,none⟩)) (.int .i64 (i:Int)) k1:=by
  intro c1 c2 c3 c4 m
  induction m with
  | zero=>
   intro i hi hp
   refine P138_6_of ?_
   simp only [zBt,Nat.zero_add,l1,zA,len138_6_3,zb,show decide ((i:Int)<(l.length:Int))=false from decide_eq_false (by omega),zAA]
   exact yes (badLab_of c1 c2 c3 c4 fun j t hj=>hp j t (by have:=(List.getElem?_eq_some_iff.1 hj).1;omega) hj)
  | succ m ih=>
   intro i hi hp
   refine P138_6_of ?_
   simp only [zBt,Nat.zero_add,l1,zA,len138_6_3,zb,show decide ((i:Int)<(l.length:Int))=true from decide_eq_true (by omega),z7]
   refine P138_7_of ?_
   obtain ⟨x,hx⟩:∃ x,els[i]?=some x:=⟨_,List.getElem?_eq_getElem (by omega)⟩
   obtain ⟨p1,q1,w1⟩:=idx34 ha ex hx
   obtain ⟨ck,cn,cv,cl,rfl,hcr,hcl⟩:=RC.at hc i x hx
   obtain ⟨y,⟨b,rfl,hbt⟩,hb⟩:=call187 hcr ex ck cn
   simp only [zBt,Nat.zero_add,l1,zA,q1,w1,zR,hb,zO]
   refine P138_8_of ?_
   simp only [zA,zp]
   cases b with
   | false=>simp only [Bool.not_false,z7];exact no9
   | true=>
    simp only [Bool.not_true,zAA]
    refine P138_10_of ?_
    simp only [zA,zAM _ (add1 (show i<l.length by omega) (by omega))]
    refine ih (i+1) (by omega) fun j t hj ht=>?_
    rcases Nat.lt_succ_iff_lt_or_eq.1 hj with h|h
    ·exact hp j t h ht
    ·subst h;rw [hcl] at ht;cases ht;exact hbt rfl
 have go:¬ g < -3->¬ 31<g->¬ (8:Int)<(l.length:Int)->(bare g&&decide ((0:Int)<(l.length:Int)))=false->P138_5 true (KB k [.tmp 2] (zAX (zAy g l=false))) (.pointer (some ⟨k.next,0,none⟩)) k1:=fun c1 c2 c3 c4=>P138_5_of (by exact loop c1 c2 c3 c4 l.length 0 (by omega) fun j t hj=>by omega)
 have mid:¬ g < -3->¬ 31<g->¬ (8:Int)<(l.length:Int)->P138_3 true (KB k [.tmp 2] (zAX (zAy g l=false))) (.pointer (some ⟨k.next,0,none⟩)) k1:=by
  intro c1 c2 c3
  refine P138_3_of ?_
  cases h1:decide (g=-3) <;> cases h2:decide (g=-1) <;> cases h3:decide ((0:Int)<(l.length:Int)) <;>
   simp only [zBS,zBt,Nat.zero_add,Nat.add_zero,l0,l1,zA,len138_3_11,zAV,zAI,h1,h2,h3,zN,beq_self_eq_true,show (true==false)=false from rfl,show (false==true)=false from rfl,cond_true,cond_false,zJ,z7,zAA] <;> first|exact no4|exact go c1 c2 c3 (by simp only [bare,h1,h2,h3];rfl)
 refine P138_1_of ?_
 cases h1:decide (g < -3) <;> cases h2:decide (31<g) <;> cases h3:decide ((8:Int)<(l.length:Int)) <;>
  simp only [zBS,zBt,Nat.zero_add,Nat.add_zero,l0,l1,zA,len138_1_11,zb,zAI,h1,h2,h3,zN,beq_self_eq_true,show (true==false)=false from rfl,show (false==true)=false from rfl,cond_true,cond_false,zJ,z7,zAA] <;> first|exact no|exact mid (of_decide_eq_false h1) (of_decide_eq_false h2) (of_decide_eq_false h3)
theorem call139 {k:AH} {e f:Int×Int×Int} (hok:k.ok):(zX E).call 139 [.agg ⟨zW e⟩,.agg ⟨zW f⟩] k=some [(.bool (decide (cmpE e f<0)),k)]:=by
 refine F139_flat (s:=true) hok rfl (P139_0_of ?_)
 obtain ⟨k1,e1,n1,t1,o1,f1⟩:=nwF k (.row (zW e) 52 0 false)
 obtain ⟨k2,e2,n2,t2,o2,f2⟩:=nw o1 (.row (zW f) 52 0 false)
 simp only [zd,zL,zS,zA,e1,e2,zZ]
 have g1:=(f2 k.next (by omega)).trans t1
 have l0:=zD (P:=E) zAQ (o:=0) g1
 have l1:=zD (P:=E) zAQ (o:=1) g1
 have l2:=zD (P:=E) zAQ (o:=2) g1
 have m0:=zD (P:=E) zAQ (o:=0) t2
 have m1:=zD (P:=E) zAQ (o:=1) t2
 have m2:=zD (P:=E) zAQ (o:=2) t2
 simp only [lnth,zW] at l0 l1 l2 m0 m1 m2
 refine P139_1_of ?_
 simp only [zDL,Nat.add_zero,l0,m0,zA,zBL,brK_n]
 refine ⟨fun h1=>P139_2_of ?_,fun h1=>P139_3_of ?_⟩
 ·simp only [zDL,Nat.add_zero,l0,m0,zA,zb,zAD,zT,true_and];exact ⟨congrArg Value.bool (decide_eq_decide.2 (by rw [cmpE_lt];omega)),o2.wm⟩
 simp only [zDK,Nat.zero_add,l1,m1,zA,zBL,brK_n]
 refine ⟨fun h2=>P139_4_of ?_,fun h2=>P139_5_of ?_⟩
 ·simp only [zDK,Nat.zero_add,l1,m1,zA,zb,zAD,zT,true_and];exact ⟨congrArg Value.bool (decide_eq_decide.2 (by rw [cmpE_lt];omega)),o2.wm⟩
 ·simp only [zCZ,Nat.zero_add,l2,m2,zA,zb,zAD,zT,true_and];exact ⟨congrArg Value.bool (decide_eq_decide.2 (by rw [cmpE_lt];omega)),o2.wm⟩
theorem subN1 {i:Nat} (hi:0<i) (hn:i<=9223372036854775807):zF E .sub 3 (.int .i64 (i:Int)) (.int .i64 1)=some (.int .i64 ((i-1:Nat):Int)):=by
 rw [bf_sub _ (show in64 ((i:Int)-1) by unfold in64;omega)]
 congr 2;omega
theorem call85 {k:AH} {x:Value} {L:GL} (hok:k.ok) (hx:RL k x L):∃ y,zAX (zq L=false) y/\(zX E).call 85 [x] k=some [(y,k)]:=by
 obtain ⟨vl,ve,els,rfl,x2,x3,x4⟩:=hx.ex
 refine F85_flatE hok (P85_0_of ?_)
 obtain ⟨k1,e1,n1,t1,o1,f1⟩:=nwF k (.row [.int .i64 L.n,vl,ve] 25 0 false)
 simp only [zd,zL,zS,zA,e1,zZ]
 have l0:=zD (P:=E) zAQ (o:=0) t1
 have l1:=zD (P:=E) ta_22 (o:=1) t1
 have l2:=zD (P:=E) ta_23 (o:=2) t1
 simp only [lnth] at l0 l1 l2
 have hL:=RLab.length x3
 obtain ⟨sa,sc,hvl⟩:=x2.slice
 obtain ⟨sb,sd,hve⟩:=x4.slice
 rw [List.length_map] at hve
 have no:P85_2 true (KB k [.tmp 2] (zAX (zq L=false))) k1:=P85_2_of (by simp only [zA,zAD,zT,true_and];exact ⟨⟨rfl,_,rfl,fun h=>by cases h⟩,o1.wm⟩)
 have no7:P85_7 true (KB k [.tmp 2] (zAX (zq L=false))) k1:=P85_7_of (by simp only [zA,zAD,zT,true_and];exact ⟨⟨rfl,_,rfl,fun h=>by cases h⟩,o1.wm⟩)
 have no9:P85_9 true (KB k [.tmp 2] (zAX (zq L=false))) k1:=P85_9_of (by simp only [zA,zAD,zT,true_and];exact ⟨⟨rfl,_,rfl,fun h=>by cases h⟩,o1.wm⟩)
 have eloop:L.eds.length<=100000->zA0 L=false->(∀ j,j<L.labs.length->zA2 L.labs j=false)->∀ (m i:Nat),i+m=L.eds.length->(∀ j,j<i->zBG L.n L.labs.length L.eds j=false)->∀ l,Own k l->l.get k.next=some (.row [.int .i64 L.n,vl,ve] 25 0 false)->k.next<l.next->
   P85_12 true (KB k [.tmp 2] (zAX (zq L=false))) (.pointer (some ⟨k.next,0,none⟩)) (.int .i64 (i:Int)) l:=by
  intro hb hz hlb m
  induction m with
  | zero=>
   intro i hi hp l ol tl hn
   have l2:=zD (P:=E) ta_23 (o:=2) tl
   simp only [lnth] at l2
   refine P85_12_of ?_
   rw [hve] at l2
   simp only [zBA,Nat.zero_add,l2,zA,len85_12_3,zb,show decide ((i:Int)<(L.eds.length:Int))=false from decide_eq_false (by omega),zAA]
   exact P85_19_of (by simp only [zA,zAD,zT,true_and];exact ⟨⟨rfl,_,rfl,fun _=>badLts_of hz hlb fun j hj=>hp j (by omega)⟩,ol.wm⟩)
  | succ m ih=>
   intro i hi hp l ol tl hn
   have l2:=zD (P:=E) ta_23 (o:=2) tl
   simp only [lnth] at l2
   have hil:i<L.eds.length:=by omega
   obtain ⟨e,he⟩:∃ e,L.eds[i]?=some e:=⟨_,List.getElem?_eq_getElem hil⟩
   have hx':(L.eds.map zW)[i]?=some (zW e):=by rw [List.getElem?_map,he];rfl
   obtain ⟨p1,q1,w1⟩:=idx23 x4 ol.ext hx'
   refine P85_12_of ?_
   have l2':=l2
   rw [hve] at l2'
   simp only [zBA,Nat.zero_add,l2',zA,len85_12_3,zb,show decide ((i:Int)<(L.eds.length:Int))=true from decide_eq_true (by omega),z7]
   refine P85_13_of ?_
   obtain ⟨l1',e3,n3,t3,o3,f3⟩:=nwUp ol (.row [.int .i64 0,.int .i64 0,.int .i64 0] 52 0 false) (.row (zW e) 52 0 false)
   simp only [zBA,Nat.zero_add,l2,zA,q1,w1,z_52,zd,zL,zS,box52,e3]
   have tl':=(f3 k.next hn).trans tl
   have a0:=zD (P:=E) zAQ (o:=0) tl'
   have a1:=zD (P:=E) ta_22 (o:=1) tl'
   have a2:=zD (P:=E) ta_23 (o:=2) tl'
   have b0:=zD (P:=E) zAQ (o:=0) t3
   have b1:=zD (P:=E) zAQ (o:=1) t3
   have b2:=zD (P:=E) zAQ (o:=2) t3
   simp only [lnth,zW] at a0 a1 a2 b0 b1 b2
   have next:(0<=e.1/\e.1<L.n/\0<=e.2.2/\e.2.2<L.n/\0<=e.2.1/\e.2.1<(L.labs.length:Int))->P85_16 true (KB k [.tmp 2] (zAX (zq L=false))) (.pointer (some ⟨k.next,0,none⟩)) (.int .i64 (i:Int)) (.pointer (some ⟨l.next,0,none⟩)) l1':=by
    intro hrg
    have on:(0<i->∀ f,L.eds[i-1]?=some f->cmpE f e<0)->P85_18 true (KB k [.tmp 2] (zAX (zq L=false))) (.pointer (some ⟨k.next,0,none⟩)) (.int .i64 (i:Int)) l1':=by
     intro hpv
     refine P85_18_of ?_
     simp only [zA,zAM _ (add1 hil (by omega))]
     refine ih (i+1) (by omega) (fun j hj=>?_) l1' o3 tl' (by omega)
     rcases Nat.lt_succ_iff_lt_or_eq.1 hj with h|h
     ·exact hp j h
     ·subst h;exact edBad_of he hrg hpv
    refine P85_16_of ?_
    simp only [zA,zAI]
    by_cases h0:(0:Int)<(i:Int)
    ·obtain ⟨f,hf⟩:∃ f,L.eds[i-1]?=some f:=⟨_,List.getElem?_eq_getElem (by omega)⟩
     have hy':(L.eds.map zW)[i-1]?=some (zW f):=by rw [List.getElem?_map,hf];rfl
     obtain ⟨p2,q2,w2⟩:=idx23 x4 o3.ext hy'
     have ag:=za (P:=E) ta_52 (o:=0) t3 (by simp [zW])
     rw [show ((zW e).drop 0).take 3=zW e from rfl] at ag
     have hc:=call139 (e:=f) (f:=e) o3.ext.ok
     cases hdec:decide (cmpE f e<0) <;> rw [hdec] at hc
     ·simp only [h0,decide_true,zN,zY,beq_self_eq_true,cond_true,zBA,Nat.zero_add,a2,zA,subN1 (show 0<i by omega) (by omega),q2,w2,ag,zR,hc,zO,zp,zJ]
      simp only [Bool.not_false,z7];exact P85_17_of (by simp only [zA,zAD,zT,true_and];exact ⟨⟨rfl,_,rfl,fun h=>by cases h⟩,o3.wm⟩)
     ·simp only [h0,decide_true,zN,zY,beq_self_eq_true,cond_true,zBA,Nat.zero_add,a2,zA,subN1 (show 0<i by omega) (by omega),q2,w2,ag,zR,hc,zO,zp,zJ]
      simp only [Bool.not_true,zAA];exact on fun _ g hg=>by rw [hf] at hg;cases hg;exact of_decide_eq_true hdec
    ·simp only [h0,decide_false,zN,zY,show (false==true)=false from rfl,cond_false,zA,zL,zJ,zAA]
     exact on fun h=>absurd (by omega) h0
   have no15:P85_15 true (KB k [.tmp 2] (zAX (zq L=false))) l1':=P85_15_of (by simp only [zA,zAD,zT,true_and];exact ⟨⟨rfl,_,rfl,fun h=>by cases h⟩,o3.wm⟩)
   refine P85_14_of ?_
   rw [hvl] at a1
   cases h1:decide (e.1<0) <;> cases h2:decide (L.n<=e.1) <;> cases h3:decide (e.2.2<0) <;> cases h4:decide (L.n<=e.2.2) <;> cases h5:decide (e.2.1<0) <;> cases h6:decide ((els.length:Int)<=e.2.1) <;>
    simp only [zBT,zBB,zDL,zDK,zCZ,Nat.zero_add,Nat.add_zero,a0,a1,b0,b1,b2,zA,len85_14_32,zb,zAx,h1,h2,h3,h4,h5,h6,zN,beq_self_eq_true,show (true==false)=false from rfl,show (false==true)=false from rfl,cond_true,cond_false,zJ,z7,zAA] <;> first|exact no15|exact next (by have:=of_decide_eq_false h1;have:=of_decide_eq_false h2;have:=of_decide_eq_false h3;have:=of_decide_eq_false h4;have:=of_decide_eq_false h5;have:=of_decide_eq_false h6;omega)
 have lloop:els.length<=4000->L.eds.length<=100000->zA0 L=false->∀ (m i:Nat),i+m=els.length->(∀ j,j<i->zA2 L.labs j=false)->P85_4 true (KB k [.tmp 2] (zAX (zq L=false))) (.pointer (some ⟨k.next,0,none⟩)) (.int .i64 (i:Int)) k1:=by
  intro hb hb2 hz m
  induction m with
  | zero=>
   intro i hi hp
   refine P85_4_of ?_
   have l1':=l1
   rw [hvl] at l1'
   simp only [zBB,Nat.zero_add,l1',zA,len85_4_3,zb,show decide ((i:Int)<(els.length:Int))=false from decide_eq_false (by omega),zAA]
   refine P85_11_of ?_
   exact eloop hb2 hz (fun j hj=>hp j (by omega)) L.eds.length 0 (by omega) (fun j hj=>by omega) k1 o1 t1 (by omega)
  | succ m ih=>
   intro i hi hp
   have hil:i<els.length:=by omega
   obtain ⟨x,hx⟩:∃ x,els[i]?=some x:=⟨_,List.getElem?_eq_getElem hil⟩
   obtain ⟨p1,q1,w1⟩:=idx22 x2 o1.ext hx
   obtain ⟨g,v,l,rfl,hr,hlab⟩:=RLab.at x3 i x hx
   obtain ⟨y,⟨b,rfl,hbt⟩,hcl⟩:=call138 (g:=g) hr o1.ext
   refine P85_4_of ?_
   have l1':=l1
   rw [hvl] at l1'
   simp only [zBB,Nat.zero_add,l1',zA,len85_4_3,zb,show decide ((i:Int)<(els.length:Int))=true from decide_eq_true (by omega),z7]
   refine P85_5_of ?_
   simp only [zBB,Nat.zero_add,l1,zA,q1,w1,zR,hcl,zO]
   refine P85_6_of ?_
   simp only [zA,zp]
   have on:zAy g l=false->(0<i->∀ y,L.labs[i-1]?=some y->zBK y.1 y.2 g l<0)->P85_10 true (KB k [.tmp 2] (zAX (zq L=false))) (.pointer (some ⟨k.next,0,none⟩)) (.int .i64 (i:Int)) k1:=by
    intro hb1 hb2
    refine P85_10_of ?_
    simp only [zA,zAM _ (add1 hil (by omega))]
    refine ih (i+1) (by omega) fun j hj=>?_
    rcases Nat.lt_succ_iff_lt_or_eq.1 hj with h|h
    ·exact hp j h
    ·subst h;exact labBad_of hlab hb1 hb2
   cases b with
   | false=>simp only [Bool.not_false,z7];exact no7
   | true=>
    simp only [Bool.not_true,zAA]
    refine P85_8_of ?_
    simp only [zA,zAI]
    by_cases h0:(0:Int)<(i:Int)
    ·obtain ⟨z,hz'⟩:∃ z,els[i-1]?=some z:=⟨_,List.getElem?_eq_getElem (by omega)⟩
     obtain ⟨p2,q2,w2⟩:=idx22 x2 o1.ext hz'
     obtain ⟨g2,v2,l2',rfl,hr2,hlab2⟩:=RLab.at x3 (i-1) z hz'
     have hc:=call88 (g:=g2) (g':=g) hr2 hr o1.ext
     simp only [h0,decide_true,zN,zY,beq_self_eq_true,cond_true,zBB,Nat.zero_add,l1,zA,subN1 (show 0<i by omega) (by omega),q1,w1,q2,w2,zR,hc,zO,zAx,zJ,zAK]
     exact ⟨fun _=>no9,fun hlt=>on (hbt rfl) fun _ y hy=>by rw [hlab2] at hy;cases hy;simp only;omega⟩
    ·simp only [h0,decide_false,zN,zY,show (false==true)=false from rfl,cond_false,zA,zL,zJ,zAA]
     exact on (hbt rfl) fun h=>absurd (by omega) h0
 refine P85_1_of ?_
 have go:els.length<=4000->L.eds.length<=100000->zA0 L=false->P85_3 true (KB k [.tmp 2] (zAX (zq L=false))) (.pointer (some ⟨k.next,0,none⟩)) k1:=fun h1 h2 h3=>P85_3_of (by exact lloop h1 h2 h3 els.length 0 (by omega) fun j hj=>by omega)
 rw [hvl] at l1
 rw [hve] at l2
 cases h1:decide (L.n<1) <;> cases h2:decide (20000<L.n) <;> cases h3:decide ((4000:Int)<(els.length:Int)) <;> cases h4:decide ((100000:Int)<(L.eds.length:Int)) <;>
  simp only [zBT,zBB,zBA,Nat.zero_add,Nat.add_zero,l0,l1,l2,zA,len85_1_11,len85_1_17,zb,zAI,h1,h2,h3,h4,zN,beq_self_eq_true,show (true==false)=false from rfl,show (false==true)=false from rfl,cond_true,cond_false,zJ,z7,zAA] <;>
  first|exact no|exact go (by have:=of_decide_eq_false h3;omega) (by have:=of_decide_eq_false h4;omega) (by have:=of_decide_eq_false h1;have:=of_decide_eq_false h2;have:=of_decide_eq_false h3;have:=of_decide_eq_false h4;simp only [zA0,Bool.or_eq_false_iff,decide_eq_false_iff_not];omega)
theorem call23 {k:AH} {x:Value} {L:GL} (hok:k.ok) (hx:RL k x L):∃ n:Int,(n=0->zq L=false)/\(zX E).call 23 [x] k=some [(.int .i64 n,k)]:=by
 obtain ⟨vl,ve,els,rfl,x2,x3,x4⟩:=id hx.ex
 have key:∃ y,(∃ n:Int,y=.int .i64 n/\(n=0->zq L=false))/\(zX E).call 23 [.agg #[.int .i64 L.n,vl,ve]] k=some [(y,k)]:=by
  refine F23_flatE hok (P23_0_of ?_)
  obtain ⟨k1,e1,n1,t1,o1,f1⟩:=nwF k (.row [.int .i64 L.n,vl,ve] 25 0 false)
  simp only [zd,zL,zS,zA,e1,zZ]
  have a1:=za (P:=E) ta_25 (o:=0) t1 (by simp)
  simp only [List.drop_zero,List.take] at a1
  obtain ⟨y,⟨b,rfl,hbt⟩,hb⟩:=call85 o1.ext.ok (hx.ext o1.ext)
  refine P23_1_of ?_
  simp only [a1,zA,zR,hb,zO]
  refine P23_2_of ?_
  simp only [zA,zp]
  cases b with
  | true=>simp only [Bool.not_true,zAA];refine P23_4_of ?_;simp only [zA,zAD,zT,true_and];exact ⟨⟨rfl,_,rfl,fun _=>hbt rfl⟩,o1.wm⟩
  | false=>simp only [Bool.not_false,z7];refine P23_3_of ?_;simp only [zA,zAD,zT,true_and];exact ⟨⟨rfl,_,rfl,fun h=>by omega⟩,o1.wm⟩
 obtain ⟨y,⟨n,rfl,hn⟩,h⟩:=key
 exact ⟨n,hn,h⟩
end Go.Proofs
