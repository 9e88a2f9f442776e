import Derived.Test.YthmnhjcmefjgjaaGreatDoorXAR
import Derived.Test.YthmnhjcmefjgjaaGreatDoorXAP
set_option linter.all false
set_option linter.unusedSectionVars false
set_option autoImplicit true
set_option relaxedAutoImplicit true
namespace Go.Proofs
open Go Go.AM Go.Sort
set_option maxRecDepth 100000
set_option maxHeartbeats 4000000
inductive Vis (L:GL):Int->Prop
 | here {e:Ed} {cx:CL} (he:e∈L.eds) (hc:L.labs[e.2.1.toNat]?=some cx) (hg:cx.1≠-1):Vis L e.1
 | step {e:Ed} {cx:CL} (he:e∈L.eds) (hc:L.labs[e.2.1.toNat]?=some cx) (hg:cx.1=-1) (h:Vis L e.2.2):Vis L e.1
def Calm (L:GL) (t:Int) (lc:List Int):Prop:=t∈lc/\∀ u∈lc,(0<=u/\u<L.n)/\∀ e∈L.eds,e.1=u->zNu L e (-1)/\e.2.2∈lc
structure C9 (g:AH) (lo a2 bs:Nat) (L:GL) (cells:List Value) (vl ve:Value) (els:List (List Value)):Prop where
 r2:g.get a2=some (.row [.int .i64 L.n,vl,ve] 25 0 false)
 l2:a2<g.next
 aL:Arr g 2 vl els
 lL:RLab g els L.labs
 O:LoL lo g bs cells (outOf L)
structure H9 (k g h:AH) (v:Value) (lc:List Int):Prop where
 ow:Own k h
 ex:Ext g h
 kg:k.next<=g.next
 ic:LS g.next h v lc
structure P9 (L:GL) (t:Int) (lc:List Int):Prop where
 nd:lc.Nodup
 rg:∀ u∈lc,0<=u/\u<L.n
 back:∀ u∈lc,Vis L u->Vis L t
 t:t∈lc
def Done9 (L:GL) (lc:List Int) (y:Ed):Prop:=zNu L y (-1)/\y.2.2∈lc
theorem Done9.mono {L:GL} {lc lc':List Int} {y:Ed} (d:Done9 L lc y) (h:∃ t,lc'=lc++t):Done9 L lc' y:=by
 obtain ⟨t,rfl⟩:=h
 exact ⟨d.1,by simp [d.2]⟩
theorem P9.len {L:GL} {t:Int} {lc:List Int} {N:Nat} (p:P9 L t lc) (hN:L.n=(N:Int)):lc.length<=N:=zBv N lc p.nd fun x hx=>by have:=p.rg x hx;omega
abbrev K9 (k:AH) (L:GL) (t:Int):KF:=KR E [.tmp 3] (fun x m=>(zh x=true/\∃ b:Bool,x=.bool b/\(b=true->Vis L t)/\(b=false->∃ lc,Calm L t lc))/\k.next<=m.wm)
section
variable {k g:AH} {lo a2 bs:Nat} {L:GL} {cells:List Value} {vl ve:Value} {els:List (List Value)} {t:Int} {N:Nat}
theorem edges9 (C:C9 g lo a2 bs L cells vl ve els) (hN:L.n=(N:Int)) (hN2:N<=20000) {v5 v7 cS:Value} {S:List Ed} {u:Int} {lc0:List Int} (hu:u∈lc0)
  (ha:Arr g 3 cS (S.map zb)) (hSl:S.length<=100000) (hy:∀ y∈S,(y∈L.eds/\y.1=u)/\(0<=y.2.1/\y.2.1<L.labs.length)/\0<=y.2.2/\y.2.2<L.n)
  (hK:∀ h v lc,H9 k g h v lc->P9 L t lc->(∃ tl,lc=lc0++tl)->(∀ y∈S,Done9 L lc y)->P39_12 true (K9 k L t) (ptr a2) v5 v v7 h) :
  ∀ (m j:Nat),j+m=S.length->∀ h v lc,H9 k g h v lc->P9 L t lc->(∃ tl,lc=lc0++tl)->(∀ (i:Nat) (y:Ed),i<j->S[i]?=some y->Done9 L lc y)->
   P39_5 true (K9 k L t) (ptr a2) v5 v v7 cS (.int .i64 (S.length:Int)) (.int .i64 (j:Int)) h:=by
 intro m
 induction m with
 | zero=>
  intro j hj h v lc H P G D
  refine zOa ?_
  simp only [zA,zY,show decide ((j:Int)<(S.length:Int))=false from decide_eq_false (by omega),zk]
  refine hK h v lc H P G fun y hy=>?_
  obtain ⟨i,hi⟩:=List.getElem?_of_mem hy
  exact D i y (by have:=(List.getElem?_eq_some_iff.1 hi).1;omega) hi
 | succ m ih=>
  intro j hj h v lc H P G D
  have hjn:j<S.length:=by omega
  obtain ⟨y,hyj⟩:∃ y,S[j]?=some y:=⟨_,List.getElem?_eq_getElem hjn⟩
  obtain ⟨⟨hye,hyu⟩,⟨hy1,hy2⟩,hy3,hy4⟩:=hy y (List.mem_of_getElem? hyj)
  have hul:u∈lc:=by obtain ⟨tl,rfl⟩:=G;simp [hu]
  refine zOa ?_
  simp only [zA,zY,show decide ((j:Int)<(S.length:Int))=true from decide_eq_true (by omega),zu]
  refine zdd ?_
  have hx':(S.map zb)[j]?=some (zb y):=by rw [List.getElem?_map,hyj];rfl
  obtain ⟨p1,q1,w1⟩:=zbj ha H.ex hx'
  obtain ⟨m1,e1,n1,t1,o1,f1⟩:=nwUp H.ow (.row [.int .i64 0,.int .i64 0,.int .i64 0] 52 0 false) (.row (zb y) 52 0 false)
  simp only [zA,q1,w1,z_52,zd,zL,zV,zb1,e1]
  have H1:H9 k g m1 v lc:=⟨o1,⟨o1.ext.ok,by have:=H.ex.next;omega,fun b hb=>(f1 b (Nat.lt_of_lt_of_le hb H.ex.next)).trans (H.ex.get b hb)⟩,H.kg,H.ic.mono (by omega) fun b _ hb _=>f1 b hb⟩
  obtain ⟨la,hla⟩:=Int.eq_ofNat_of_zero_le hy1
  obtain ⟨eM,heM⟩:∃ e,els[la]?=some e:=⟨_,List.getElem?_eq_getElem (by rw [RLab.length C.lL];omega)⟩
  obtain ⟨gy,vy,ly,rfl,hry,hlabM⟩:=RLab.at C.lL la eM heM
  have hlab:L.labs[y.2.1.toNat]?=some (gy,ly):=by rw [hla];exact hlabM
  have r2:=(H1.ex.get _ C.l2).trans C.r2
  have b2:=zF (P:=E) zGI (o:=1) r2
  have c1:=zF (P:=E) zAS (o:=1) t1
  have c2:=zF (P:=E) zAS (o:=2) t1
  simp only [lnth,zb,hla] at b2 c1 c2
  obtain ⟨p4,p5,q4,q5,w5⟩:=idx22f C.aL H1.ex heM
  refine zdc ?_
  simp only [zBB,zDX,Nat.zero_add,b2,c1,zA,q4,q5,w5,zAz]
  by_cases hg:gy=-1
  rotate_left
  ·simp only [hg,decide_false,Bool.not_false,zu]
   refine zdb ?_
   try simp only [zA]
   rw [K9,zAJ]
   have hv:Vis L y.1:=Vis.here (cx:=(gy,ly)) hye hlab hg
   rw [hyu] at hv
   exact ⟨zT ▸ trivial,⟨rfl,true,rfl,fun _=>P.back u hul hv,fun h=>by cases h⟩,o1.wm⟩
  simp only [hg,decide_true,Bool.not_true,zk]
  have hgate:zNu L y (-1):=⟨ly,by rw [hlab,hg]⟩
  have on:∀ h3 v' lc',H9 k g h3 v' lc'->P9 L t lc'->(∃ tl,lc'=lc++tl)->y.2.2∈lc'->P39_11 true (K9 k L t) (ptr a2) v5 v' v7 cS (.int .i64 (S.length:Int)) (.int .i64 (j:Int)) h3:=by
   intro h3 v' lc' H3 P3 hpre hin
   refine zUw ?_
   simp only [zAM _ (zD7 hjn (by omega)),zA]
   refine ih (j+1) (by omega) h3 v' lc' H3 P3 (by obtain ⟨a,rfl⟩:=G;obtain ⟨b,rfl⟩:=hpre;exact ⟨a++b,by simp⟩) fun i z hi hz=>?_
   by_cases hij:i=j
   ·subst hij
    rw [hyj] at hz;cases hz
    exact ⟨hgate,hin⟩
   ·exact (D i z (by omega) hz).mono hpre
  have hlen:=P.len hN
  have c27:=call27 (x:=y.2.2) H1.ic.arr (by omega) (Ext.refl H1.ow.ext.ok)
  refine zda ?_
  by_cases hin:y.2.2∈lc
  ·simp only [zBx,Nat.zero_add,c2,zA,zS,c27,zN,hin,decide_true,zv,Bool.not_true,zk]
   exact on m1 v lc H1 P ⟨[],by simp⟩ hin
  ·simp only [zBx,Nat.zero_add,c2,zA,zS,c27,zN,hin,decide_false,zv,Bool.not_false,zu]
   refine zUx ?_
   have hgm:=H1.ex.next
   obtain ⟨m2,a1,a2',a3,a4⟩:=IS.app (.inr H1.ic) (by omega) (by omega) y.2.2
   simp only [zBx,Nat.zero_add,c2,zA,bs47,zL,a1]
   have hfx:=a4 o1.ext.ok
   have hlo:∀ c,zy v c->g.next<=c:=fun c hc=>(H1.ic.blk hc).1
   have hkg:=H.kg
   refine on m2 _ (lc++[y.2.2]) ⟨hfx.own o1 fun c hc=>Nat.le_trans hkg (hlo c hc),hfx.ext H1.ex fun c hc=>hlo c hc,hkg,a2'⟩ ⟨?_,?_,?_,by simp [P.t]⟩ ⟨_,rfl⟩ (by simp)
   ·rw [List.nodup_append]
    refine ⟨P.nd,by simp,fun a ha b hb=>?_⟩
    rw [List.mem_singleton.1 hb]
    intro e;subst e;exact hin ha
   ·intro w hw
    rcases List.mem_append.1 hw with hw|hw
    ·exact P.rg w hw
    ·rw [List.mem_singleton.1 hw];exact ⟨hy3,hy4⟩
   ·intro w hw hv
    rcases List.mem_append.1 hw with hw|hw
    ·exact P.back w hw hv
    ·rw [List.mem_singleton.1 hw] at hv
     have:=Vis.step (cx:=(gy,ly)) hye hlab hg hv
     rw [hyu] at this
     exact P.back u hul this
theorem outer9 (C:C9 g lo a2 bs L cells vl ve els) (hN:L.n=(N:Int)) (hN2:N<=20000) (hc2:cells.length=N)
  (hS:∀ (i:Nat) (S:List Ed),(outOf L)[i]?=some S->S.length<=100000/\∀ y∈S,(0<=y.2.1/\y.2.1<L.labs.length)/\(0<=y.2.2/\y.2.2<L.n)/\0<=y.1) :
  ∀ (m i:Nat),N<=i+m->∀ h v lc,H9 k g h v lc->P9 L t lc->(∀ (j:Nat) (u:Int),j<i->lc[j]?=some u->∀ y∈L.eds,y.1=u->Done9 L lc y)->
   P39_3 true (K9 k L t) (ptr a2) (.slice (some ⟨bs,0,none⟩) N N) v (.int .i64 (i:Int)) h:=by
 have fin:∀ h v lc,H9 k g h v lc->P9 L t lc->(∀ (j:Nat) (u:Int),lc[j]?=some u->∀ y∈L.eds,y.1=u->Done9 L lc y)->P39_13 true (K9 k L t) h:=by
  intro h v lc H P D
  refine zUu ?_
  try simp only [zA]
  rw [K9,zAJ]
  refine ⟨zT ▸ trivial,⟨rfl,false,rfl,(fun h=>by cases h),fun _=>⟨lc,P.t,fun u hu=>⟨P.rg u hu,fun e he heu=>?_⟩⟩⟩,H.ow.wm⟩
  obtain ⟨j,hj⟩:=List.getElem?_of_mem hu
  exact D j u hj e he heu
 intro m
 induction m with
 | zero=>
  intro i hi h v lc H P D
  have hl:=P.len hN
  obtain ⟨ad,cp,hv⟩:=(IS.slice (lo:=g.next) (.inr H.ic))
  refine zOb ?_
  rw [hv]
  simp only [zA,zKR,zY,show decide ((i:Int)<(lc.length:Int))=false from decide_eq_false (by omega),zk]
  exact fin h v lc H P fun j u hj=>D j u (by have:=(List.getElem?_eq_some_iff.1 hj).1;omega) hj
 | succ m ih=>
  intro i hi h v lc H P D
  have hl:=P.len hN
  obtain ⟨ad,cp,hv⟩:=(IS.slice (lo:=g.next) (.inr H.ic))
  refine zOb ?_
  rw [hv]
  simp only [zA,zKR,zY,zAA]
  rw [← hv]
  refine ⟨fun hlt=>?_,fun hge=>fin h v lc H P fun j u hj=>D j u (by have:=(List.getElem?_eq_some_iff.1 hj).1;omega) hj⟩
  have hil:i<lc.length:=by omega
  obtain ⟨u,hu⟩:∃ u,lc[i]?=some u:=⟨_,List.getElem?_eq_getElem hil⟩
  have hum:=List.mem_of_getElem? hu
  obtain ⟨hu1,hu2⟩:=P.rg u hum
  obtain ⟨un,rfl⟩:=Int.eq_ofNat_of_zero_le hu1
  have hunN:un<N:=by omega
  obtain ⟨p,q1,q2⟩:=idx47 H.ic.arr (Ext.refl H.ow.ext.ok) hu
  obtain ⟨cc,hcell⟩:∃ c,cells[un]?=some c:=⟨_,List.getElem?_eq_getElem (by omega)⟩
  obtain ⟨SS,hout⟩:∃ S,(outOf L)[un]?=some S:=⟨_,List.getElem?_eq_getElem (by rw [← C.O.len];omega)⟩
  have hC:=C.O.cell un _ _ hcell hout
  obtain ⟨hSl,hSy⟩:=hS un _ hout
  have gs:=(H.ex.get _ C.O.lts).trans C.O.s
  have ls:=zF (P:=E) zEe (o:=0+un*1) gs
  rw [zAk,show 0+un*1=un by omega,hcell] at ls
  have ia:=ia_49 (b:=bs) (o:=0) (c:=N) (len:=N) (k:=un) hunN
  rw [show 0+un*1=un by omega] at ia
  have harr:=hC.arr
  obtain ⟨ad3,cp3,hv3⟩:=harr.slice
  rw [List.length_map] at hv3
  refine zde ?_
  simp only [zA,q1,q2,ia,ls]
  rw [hv3]
  simp only [zSU,zA]
  rw [← hv3]
  have hmemS:∀ y∈SS,y∈L.eds/\y.1=(un:Int):=fun y hy=>by
   obtain ⟨a,b⟩:=(zGy hout y).1 hy
   have:=(hSy y hy).2.2
   exact ⟨a,by omega⟩
  refine edges9 C hN hN2 (lc0:=lc) hum harr hSl (fun y hy=>⟨hmemS y hy,(hSy y hy).1,(hSy y hy).2.1⟩) (fun h3 v3 lc3 H3 P3 G3 D3=>?_) SS.length 0 (by omega) h v lc H P ⟨[],by simp⟩ (fun i y h=>absurd h (Nat.not_lt_zero _))
  refine zUv ?_
  simp only [zA,zAM _ (zD7 hil (by omega))]
  refine ih (i+1) (by omega) h3 v3 lc3 H3 P3 fun j w hj hw y hy hyw=>?_
  obtain ⟨tl,htl⟩:=G3
  have hw':lc[j]?=some w:=by
   rw [htl,List.getElem?_append_left (by omega)] at hw;exact hw
  by_cases hji:j=i
  ·subst hji
   rw [hu] at hw'
   cases hw'
   exact D3 y ((zGy hout y).2 ⟨hy,by omega⟩)
  ·exact (D j w (by omega) hw' y hy hyw).mono ⟨tl,htl⟩
end
theorem call39 {k:AH} {x:Value} {L:GL} {t:Int} (hok:k.ok) (hx:RL k x L) (hL:zAL L=false) (ht:0<=t/\t<L.n) :
  ∃ b:Bool,((b=true->Vis L t)/\(b=false->∃ lc,Calm L t lc))/\(zW E).call 39 [x,.int .i64 t] k=some [(.bool b,k)]:=by
 obtain ⟨z1,z2,z3,z4⟩:=zDN hL
 obtain ⟨N,hN⟩:=Int.eq_ofNat_of_zero_le (show 0<=L.n by omega)
 obtain ⟨vl,ve,els,rfl,x2,x3,x4⟩:=id hx.ex
 obtain ⟨xa,xb,hvl⟩:=x2.slice
 obtain ⟨xc,xd,hve⟩:=x4.slice
 have main:∃ v,(∃ b:Bool,v=.bool b/\(b=true->Vis L t)/\(b=false->∃ lc,Calm L t lc))/\(zW E).call 39 [.agg ⟨[.int .i64 L.n,vl,ve]⟩,.int .i64 t] k=some [(v,k)]:=by
  refine zaL hok (zdh ?_)
  obtain ⟨k1,e1,n1,t1,o1,f1⟩:=nwF k (.row [.int .i64 L.n,vl,ve] 25 0 false)
  simp only [zd,zL,zV,zA,e1,zZ]
  refine zdg ?_
  have l1:zH E 25 k1 (some (.pointer (some ⟨k.next,0,none⟩)))=some (.agg ⟨[.int .i64 L.n,vl,ve]⟩):=za (P:=E) zEd (o:=0) t1 (by simp)
  simp only [l1,zA,zS]
  refine (call24 o1.ext.ok (hx.ext o1.ext) hL hN).mono ?_
  rintro ⟨w,h2⟩ ⟨bs,cells,hw,O,hc,hS,fx⟩
  simp only at hw O fx
  subst hw
  have hn2:=fx.next
  have ow2:=fx.own o1 (fun _ h=>h.elim)
  simp only [zA,bs47,zL]
  obtain ⟨h3,e3,n3,t3,o3,f3⟩:=nw ow2 (.row [.int .i64 t] 3 0 false)
  simp only [e3]
  refine zdf ?_
  try simp only [zA]
  have g2:h2.get k.next=some (.row [.int .i64 L.n,vl,ve] 25 0 false):=(fx.get _ (by omega) (fun h=>h)).trans t1
  have E2:Ext k1 h2:=⟨fx.ok,fx.next,fun c hc=>fx.get c hc (fun h=>h)⟩
  exact outer9 (k:=k) (g:=h2) (t:=t) ⟨g2,by omega,x2.ext (o1.ext.trans E2),x3.ext (o1.ext.trans E2),O⟩ hN (by omega) hc
   (fun i S hi=>⟨hS S (List.mem_of_getElem? hi),fun y hy=>by
    obtain ⟨ya,yb⟩:=(zGy hi y).1 hy
    obtain ⟨q,hq⟩:=List.getElem?_of_mem ya
    obtain ⟨b1,b2,b3⟩:=zFT hL hq
    exact ⟨b3,b2,b1.1⟩⟩) N 0 (by omega) h3 _ [t] ⟨o3,⟨o3.ext.ok,by omega,f3⟩,by omega,⟨h2.next,1,rfl,Nat.le_refl _,by omega,.inl ⟨rfl,rfl,t3⟩⟩⟩
   ⟨by simp,fun u hu=>by rw [List.mem_singleton.1 hu];exact ht,fun u hu hv=>by rw [List.mem_singleton.1 hu] at hv;exact hv,by simp⟩ fun j u hj=>absurd hj (Nat.not_lt_zero _)
 obtain ⟨v,⟨b,rfl,h1⟩,h2⟩:=main
 exact ⟨b,h1,h2⟩
end Go.Proofs
namespace Go.Proofs
open Go Go.AM
set_option maxHeartbeats 1000000
def Sim (L M:GL) (R:List (Int×Int)):Prop:=∀ (s t:Int) (x:Ed) (cx:CL),(s,t)∈R->x∈L.eds->x.1=s->L.labs[x.2.1.toNat]?=some cx->∀ lc,Calm M t lc->cx.1=-1/\∃ u∈lc,(x.2.2,u)∈R
theorem Sim.vis {L M:GL} {R:List (Int×Int)} (S:Sim L M R) {s:Int} (hv:Vis L s):∀ t lc,(s,t)∈R->Calm M t lc->False:=by
 induction hv with
 | here he hc hg=>exact fun t lc hst C=>hg (S _ t _ _ hst he rfl hc lc C).1
 | step he hc hg h ih=>
  intro t lc hst C
  obtain ⟨_,u,hu,hr⟩:=S _ t _ _ hst he rfl hc lc C
  exact ih u lc hr ⟨hu,C.2⟩
theorem sim_of {L M:GL} {cs:List CL} {R:List (Int×Int)} {kind:Int} (c1:zDq cs) (c2:∀ c∈L.labs,c.1≠-1->c∈cs) (c3':∀ c∈M.labs,c.1≠-1->c∈cs) (hL:zAL L=false) (hM:zAL M=false) (hkind:kind=1\/kind=2)
  (hrng:∀ p∈R,(0<=p.1/\p.1<L.n)/\(0<=p.2/\p.2<M.n)) (hall:zOE kind R (zBh (L.labs.map (zCq cs)) L) (zBh (M.labs.map (zCq cs)) M)=true):Sim L M R:=by
 intro s t x cx hst hx hs hcx lc C
 have hlc:∀ u∈lc,0<=u/\u<M.n:=fun u hu=>(C.2 u hu).1
 obtain ⟨⟨s1,s2⟩,t1,t2⟩:=hrng _ hst
 simp only at s1 s2 t1 t2
 obtain ⟨SS,hSS⟩:∃ S,(zBh (L.labs.map (zCq cs)) L)[s.toNat]?=some S:=⟨_,List.getElem?_eq_getElem (by rw [zLx];omega)⟩
 have hxv:zRb (L.labs.map (zCq cs)) x=(zCq cs cx,x.2.2):=by simp [zRb,hcx]
 have hmem:(zCq cs cx,x.2.2)∈SS:=(zGl hSS _).2 ⟨x,hx,by rw [hs],hxv.symm⟩
 have hcxm:cx.1≠-1->cx∈cs:=c2 cx (List.mem_of_getElem? hcx)
 have back:∀ (u:Int) (S:zAF),0<=u->(zBh (M.labs.map (zCq cs)) M)[u.toNat]?=some S->∀ y∈S,∃ f cy,(f∈M.eds/\f.1=u)/\M.labs[f.2.1.toNat]?=some cy/\y=(zCq cs cy,f.2.2):=by
  intro u S hu1 hS y hy
  obtain ⟨f,hf,hf1,hf2⟩:=(zGl hS y).1 hy
  obtain ⟨j,hj⟩:=List.getElem?_of_mem hf
  obtain ⟨d1,_,d3,d4⟩:=zFT hM hj
  obtain ⟨cy,hcy⟩:∃ c,M.labs[f.2.1.toNat]?=some c:=⟨_,List.getElem?_eq_getElem (by omega)⟩
  exact ⟨f,cy,⟨hf,by omega⟩,hcy,by rw [hf2];simp [zRb,hcy]⟩
 have strong:∀ u∈lc,zB1 R (zBh (M.labs.map (zCq cs)) M) u (zCq cs cx,x.2.2)=true->cx.1=-1/\∃ u∈lc,(x.2.2,u)∈R:=by
  intro u hu hs
  obtain ⟨⟨u1,u2⟩,hC⟩:=C.2 u hu
  unfold zB1 at hs
  split at hs
  ·rename_i S hS
   simp only [zDt,List.any_eq_true,zEz,Bool.and_eq_true,decide_eq_true_eq] at hs
   obtain ⟨y,hy,hy1,hy2⟩:=hs
   obtain ⟨f,cy,⟨hf,hfu⟩,hcy,rfl⟩:=back u S u1 hS y hy
   simp only at hy1 hy2
   obtain ⟨⟨l,hl⟩,hto⟩:=hC f hf hfu
   rw [hcy] at hl
   have hcy1:cy.1=-1:=by rw [Option.some.inj hl]
   have hcx1:cx.1=-1:=by
    rcases zSC c1 (c3' cy (List.mem_of_getElem? hcy)) hcxm hy1 with ⟨_,e2⟩|e
    ·exact e2
    ·rw [← e];exact hcy1
   exact ⟨hcx1,f.2.2,hto,hy2⟩
  ·cases hs
 have hf:zCg kind R (zBh (M.labs.map (zCq cs)) M) (s,t) (zCq cs cx,x.2.2)=true:=by
  simp only [zOE,zTm,List.all_eq_true] at hall
  have:=hall _ hst
  rw [hSS] at this
  exact List.all_eq_true.1 this _ hmem
 unfold zCg at hf
 split at hf
 ·exact strong t C.1 hf
 ·obtain ⟨u,hu,hb⟩:=zOC (lc:=lc) (fun u hu S hS y hy h0=>by
   obtain ⟨⟨u1,u2⟩,hC⟩:=C.2 u hu
   obtain ⟨f,cy,⟨hf,hfu⟩,hcy,rfl⟩:=back u S u1 hS y hy
   exact (hC f hf hfu).2) _ _ _ (fun u hu=>by rw [List.mem_singleton.1 hu];exact C.1) hf
  simp only [zDj,Bool.and_eq_true,Bool.or_eq_true,decide_eq_true_eq] at hb
  rcases hb.2 with ⟨h0,h1⟩|h1
  ·exact ⟨zPB h0,u,hu,h1⟩
  ·exact strong u hu h1
theorem zLz {L M:GL} {B:GB} (h:zBq L M B=0) {s t:Int} (hst:(s,t)∈B.prs):(Vis L s->∀ lc,¬ Calm M t lc)/\(Vis M t->∀ lc,¬ Calm L s lc):=by
 obtain ⟨hL,hM,hlk,hrel⟩:=zTE h
 obtain ⟨hkind,hpos⟩:=zR5 hlk
 obtain ⟨c1,c2,c3'⟩:=zS6 L M
 unfold zRs at hrel
 rw [zKd] at hrel
 simp only [relB,Bool.and_eq_true,List.all_eq_true,decide_eq_true_eq,inB] at hrel
 obtain ⟨hin,⟨hz,hall⟩,hall2⟩:=hrel
 have hrng:∀ p∈B.prs,(0<=p.1/\p.1<L.n)/\(0<=p.2/\p.2<M.n):=fun p hp=>⟨⟨(hpos p hp).1,(hin p hp).1⟩,(hpos p hp).2,(hin p hp).2⟩
 refine ⟨fun hv lc C=>(sim_of c1 c2 c3' hL hM hkind hrng hall).vis hv t lc hst C,fun hv lc C=>(sim_of c1 c3' c2 hM hL hkind (R:=B.prs.map zEf) (fun p hp=>?_) hall2).vis hv s lc (List.mem_map.2 ⟨(s,t),hst,rfl⟩) C⟩
 obtain ⟨q,hq,rfl⟩:=List.mem_map.1 hp
 exact ⟨(hrng q hq).2,(hrng q hq).1⟩
theorem zDf {L M:GL} {B:GB} (h:zBq L M B=0):(∀ p∈B.prs,(0<=p.1/\p.1<L.n)/\(0<=p.2/\p.2<M.n))/\((0:Int),(0:Int))∈B.prs:=by
 obtain ⟨hL,hM,hlk,hrel⟩:=zTE h
 obtain ⟨hkind,hpos⟩:=zR5 hlk
 unfold zRs at hrel
 rw [zKd] at hrel
 simp only [relB,Bool.and_eq_true,List.all_eq_true,decide_eq_true_eq,inB] at hrel
 obtain ⟨hin,⟨hz,hall⟩,_⟩:=hrel
 exact ⟨fun p hp=>⟨⟨(hpos p hp).1,(hin p hp).1⟩,(hpos p hp).2,(hin p hp).2⟩,hz⟩
theorem zI8 {L M:GL} {B:GB} (hL:zAL L=false) (hM:zAL M=false) (hk:zDI B.kind=true) (h:zBq L M B≠0):zBq L M B=360:=by
 have he:zBb B=0\/zBb B=360:=by
  unfold zBb
  rw [if_neg (by rw [hk];decide)]
  split
  ·exact .inr rfl
  ·split
   ·exact .inr rfl
   ·exact .inl rfl
 unfold zBq at h ⊢
 rw [hL,hM] at h ⊢
 rw [if_neg (by decide)] at h ⊢
 rcases he with he|he
 ·rw [he] at h ⊢
  rw [if_neg (by decide)] at h ⊢
  split
  ·rename_i h1;rw [if_pos h1] at h;exact absurd rfl h
  ·rfl
 ·rw [he,if_pos (by decide)]
end Go.Proofs
namespace Go.Proofs
open Go Go.AM Go.Sort
set_option maxRecDepth 100000
set_option maxHeartbeats 8000000
structure St7 (k h:AH) (L M:GL) (B:GB) (vl ve wl we vp:Value):Prop where
 ow:Own k h
 r4:h.get k.next=some (.row [.int .i64 L.n,vl,ve] 25 0 false)
 r5:h.get (k.next+1)=some (.row [.int .i64 M.n,wl,we] 25 0 false)
 r6:h.get (k.next+2)=some (.row [.int .i64 B.kind,vp] 32 0 false)
 lt:k.next+2<h.next
section
variable {k h m:AH} {L M:GL} {B:GB} {vl ve wl we vp:Value}
theorem St7.fx (S:St7 k h L M B vl ve wl we vp) (f:Fx NoB h m):St7 k m L M B vl ve wl we vp:=by
 have:=S.lt
 exact ⟨f.own S.ow fun c hc=>hc.elim,(f.get _ (by omega) (fun h=>h)).trans S.r4,(f.get _ (by omega) (fun h=>h)).trans S.r5,(f.get _ (by omega) (fun h=>h)).trans S.r6,Nat.lt_of_lt_of_le S.lt f.next⟩
theorem St7.fxb {b:Nat} (S:St7 k h L M B vl ve wl we vp) (f:Fx (fun c=>c=b) h m) (hb:k.next+2<b):St7 k m L M B vl ve wl we vp:=by
 have:=S.lt
 exact ⟨f.own S.ow fun c hc=>by have:c=b:=hc;omega,(f.get _ (by omega) (by omega)).trans S.r4,(f.get _ (by omega) (by omega)).trans S.r5,(f.get _ (by omega) (by omega)).trans S.r6,Nat.lt_of_lt_of_le S.lt f.next⟩
theorem St7.l4 (S:St7 k h L M B vl ve wl we vp):zH E 25 h (some (.pointer (some ⟨k.next,0,none⟩)))=some (.agg ⟨[.int .i64 L.n,vl,ve]⟩):=za (P:=E) zEd (o:=0) S.r4 (by simp)
theorem St7.l5 (S:St7 k h L M B vl ve wl we vp):zH E 25 h (some (.pointer (some ⟨k.next+1,0,none⟩)))=some (.agg ⟨[.int .i64 M.n,wl,we]⟩):=za (P:=E) zEd (o:=0) S.r5 (by simp)
theorem St7.l6 (S:St7 k h L M B vl ve wl we vp):zH E 32 h (some (.pointer (some ⟨k.next+2,0,none⟩)))=some (.agg ⟨[.int .i64 B.kind,vp]⟩):=za (P:=E) zLv (o:=0) S.r6 (by simp)
theorem St7.n4 (S:St7 k h L M B vl ve wl we vp):zH E 3 h (some (.pointer (some ⟨k.next,0,none⟩)))=some (.int .i64 L.n):=zF (P:=E) zAS (o:=0) S.r4
theorem St7.n5 (S:St7 k h L M B vl ve wl we vp):zH E 3 h (some (.pointer (some ⟨k.next+1,0,none⟩)))=some (.int .i64 M.n):=zF (P:=E) zAS (o:=0) S.r5
theorem St7.k6 (S:St7 k h L M B vl ve wl we vp):zH E 3 h (some (.pointer (some ⟨k.next+2,0,none⟩)))=some (.int .i64 B.kind):=zF (P:=E) zAS (o:=0) S.r6
theorem St7.p6 (S:St7 k h L M B vl ve wl we vp):zH E 26 h (some (.pointer (some ⟨k.next+2,1,none⟩)))=some vp:=zF (P:=E) zLw (o:=1) S.r6
end
theorem mk31 {a:Nat}:zAt (.func 31) (some []) (some [ptr a])=some (.func (.func 31) #[] #[ptr a]):=rfl
theorem zLr {a:Nat} {t:Value} {h:AH}:zQ (zW E) (some (.func (.func 31) #[] #[ptr a])) (some [t]) h=(zW E).call 31 [t,ptr a] h:=by
 rw [zD9];rfl
theorem eqb7 (a b:Bool):zi E (zl [(100,.bool a),(104,.bool b)]) (zn B7 [1,1,1,1,1,1,1,1,0] 8)=some (.bool (a==b)):=by cases a <;> cases b <;> kernel_rfl
abbrev K7 (k:AH):KF:=KR E [.tmp 10] (fun x m=>x=.bool true/\k.next<=m.wm)
theorem call7 {k:AH} {x y:Value} {L M:GL} {e:List Value} {B:GB} {s t:Int} (hok:k.ok) (hx:RL k x L) (hy:RL k y M) (he:RB k e B) :
  (zW E).call 7 [x,y,.agg ⟨e⟩,.int .i64 s,.int .i64 t] k=some [(.bool true,k)]:=by
 obtain ⟨vl,ve,elsL,rfl,x2,x3,x4⟩:=id hx.ex
 obtain ⟨wl,we,elsM,rfl,y2,y3,y4⟩:=id hy.ex
 obtain ⟨vp,rfl,e2⟩:=id he.ex
 obtain ⟨xa,xb,hvl⟩:=x2.slice
 obtain ⟨xc,xd,hve⟩:=x4.slice
 obtain ⟨ya,yb,hwl⟩:=y2.slice
 obtain ⟨yc,yd,hwe⟩:=y4.slice
 obtain ⟨pa,pb,hvp⟩:=e2.slice
 rw [List.length_map] at hve hwe hvp
 refine F7_flat (s:=false) hok rfl (P7_0_of ?_)
 obtain ⟨k1,e1,n1,t1,o1,f1⟩:=nwF k (.row [.int .i64 L.n,vl,ve] 25 0 false)
 obtain ⟨k2,e2',n2,t2,o2,f2⟩:=nw o1 (.row [.int .i64 M.n,wl,we] 25 0 false)
 obtain ⟨k3,e3,n3,t3,o3,f3⟩:=nw o2 (.row [.int .i64 B.kind,vp] 32 0 false)
 simp only [zd,zL,zV,zA,e1,e2',e3,zZ,n1,n2]
 rw [n1] at t2
 rw [n2,n1] at t3
 have S3:St7 k k3 L M B vl ve wl we vp:=⟨o3,(f3 _ (by omega)).trans ((f2 _ (by omega)).trans t1),(f3 _ (by omega)).trans t2,t3,by omega⟩
 refine P7_1_of ?_
 simp only [zS,call13,zN,zv,zA,Bool.not_true,zk]
 have fin:∀ h,Own k h->P7_4 false (K7 k) h:=fun h ho=>P7_4_of (by simp only [zA,zAJ,zT,true_and];exact ho.wm)
 refine P7_3_of ?_
 have a4:=S3.l4
 have a5:=S3.l5
 obtain ⟨k4,e4,n4,t4,o4,f4⟩:=nw o3 (.row [.int .i64 L.n,vl,ve,.int .i64 M.n,wl,we] 25 0 false)
 have S4:St7 k k4 L M B vl ve wl we vp:=S3.fx (by rw [← e4];exact (Fx.refl o3.ext.ok).new _)
 have X4:Ext k k4:=o4.ext
 obtain ⟨b14,c14⟩:=call14 (k:=k4) (v:=.slice (some ⟨k3.next,0,none⟩) 2 2) (els:=[[.int .i64 L.n,vl,ve],[.int .i64 M.n,wl,we]]) (Ls:=[L,M]) o4.ext.ok (arr2 rfl rfl t4 (by omega)) rfl (by simp) (fun i ee LL h1 h2=>by
  match i with
  | 0=>simp at h1 h2;subst h1 h2;exact hx.ext X4
  | 1=>simp at h1 h2;subst h1 h2;exact hy.ext X4
  | i+2=>simp at h1)
 simp only [a4,a5,zA,bs82,zL,e4,zS,c14,zN,zv]
 cases b14 with
 | false=>
  simp only [Bool.not_false,zA,zM,zP,show (true==false)=false from rfl,cond_false,zL,zJ,cond_true,zu]
  exact fin _ o4
 | true=>
 have a6:=S4.l6
 obtain ⟨k5,e5,n5,t5,o5,f5⟩:=nw o4 (.row [.int .i64 B.kind,vp] 32 0 false)
 have S5:St7 k k5 L M B vl ve wl we vp:=S4.fx (by rw [← e5];exact (Fx.refl o4.ext.ok).new _)
 have hc19:=call19 (h0:=k5) (k:=k5) (v:=.slice (some ⟨k4.next,0,none⟩) 1 1) (els:=[[.int .i64 B.kind,vp]]) (Bs:=[B])
  (Arr.row (els:=[[.int .i64 B.kind,vp]]) t5 (by omega) (by simp) (fun i ee hee=>by
   match i with
   | 0=>simp at hee;subst hee;exact ⟨rfl,rfl⟩
   | i+1=>simp at hee)) rfl (by simp) (fun i ee BB h1 h2=>by
   match i with
   | 0=>simp at h1 h2;subst h1 h2;exact he.ext o5.ext
   | i+1=>simp at h1) (Ext.refl o5.ext.ok)
 simp only [List.length_cons,List.length_nil,Nat.zero_add,idx_one,zKN,List.getElem?_cons_zero] at hc19
 have hc19':(zW E).call 19 [.slice (some ⟨k4.next,0,none⟩) 1 1] k5=some [(.bool (!decide ((4000:Int)<(B.prs.length:Int))),k5)]:=hc19
 simp only [Bool.not_true,zA,zM,zP,beq_self_eq_true,cond_true,a6,bs83,zL,e5,zS,hc19',zN,zv,zJ,cond_false]
 by_cases hlong:(4000:Int)<(B.prs.length:Int)
 ·simp only [hlong,decide_true,Bool.not_true,Bool.not_false,zA,zM,zP,show (true==false)=false from rfl,cond_false,zL,zJ,cond_true,zu]
  exact fin _ o5
 have c4:=S5.l4
 have c5:=S5.l5
 have c6:=S5.l6
 have hc15:=call15 o5.ext.ok (hx.ext o5.ext) (hy.ext o5.ext) (he.ext o5.ext)
 obtain ⟨r1,_,hc23a⟩:=call23 o5.ext.ok (hx.ext o5.ext)
 obtain ⟨r2,_,hc23b⟩:=call23 o5.ext.ok (hy.ext o5.ext)
 simp only [hlong,decide_false,Bool.not_false,Bool.not_true,zA,zM,zP,beq_self_eq_true,cond_true,c4,c5,c6,zS,hc15,zN,zAz,zJ,cond_false]
 by_cases hck:zBq L M B=0
 rotate_left
 ·simp only [hck,decide_false,Bool.not_false,zA,zM,zP,show (true==false)=false from rfl,cond_false,zL,zJ,cond_true,zu]
  exact fin _ o5
 simp only [hck,decide_true,Bool.not_true,zA,zM,zP,beq_self_eq_true,cond_true,c4,hc23a,zN,zAz,zJ,cond_false]
 by_cases hr1:r1=0
 rotate_left
 ·simp only [hr1,decide_false,Bool.not_false,zA,zM,zP,show (true==false)=false from rfl,cond_false,zL,zJ,cond_true,zu]
  exact fin _ o5
 simp only [hr1,decide_true,Bool.not_true,zA,zM,zP,beq_self_eq_true,cond_true,c5,hc23b,zN,zAz,zJ,cond_false]
 by_cases hr2:r2=0
 rotate_left
 ·simp only [hr2,decide_false,Bool.not_false,zu]
  exact fin _ o5
 simp only [hr2,decide_true,Bool.not_true,zk]
 obtain ⟨hL,hM,hlk,_⟩:=zTE hck
 obtain ⟨hkind,_⟩:=zR5 hlk
 have hman:zDI B.kind=true:=by rcases hkind with h|h <;> simp [zDI,h]
 have W:=zDf hck
 have hne:B.prs≠[]:=fun h=>by have:=W.2;rw [h] at this;cases this
 have hlen:B.prs.length<=4000:=by omega
 have chk:∀ h e' B',Own k h->RB h e' B'->(zW E).call 15 [.agg ⟨[.int .i64 L.n,vl,ve]⟩,.agg ⟨[.int .i64 M.n,wl,we]⟩,.agg ⟨e'⟩] h=some [(.int .i64 (zBq L M B'),h)]:=fun h e' B' ho hr=>call15 ho.ext.ok (hx.ext ho.ext) (hy.ext ho.ext) hr
 have hveqL:veq 100 (.agg ⟨[.int .i64 L.n,vl,ve]⟩) (.agg ⟨[.int .i64 L.n,vl,ve]⟩)=true:=by rw [hvl,hve];exact zHr
 have hveqM:veq 100 (.agg ⟨[.int .i64 M.n,wl,we]⟩) (.agg ⟨[.int .i64 M.n,wl,we]⟩)=true:=by rw [hwl,hwe];exact zHr
 have wth:∀ h p,St7 k h L M B vl ve wl we vp->Ev false ((zW E).call 31 [.agg ⟨zG p⟩,ptr (k.next+2)] h) fun x=>With h B p x.1 x.2:=fun h p S=>call31 S.ow.ext.ok S.r6 S.lt (e2.ext S.ow.ext) hne (by omega)
 refine P7_5_of ?_
 simp only [mk31,zA]
 refine P7_6_of ?_
 simp only [zC7,Nat.zero_add,S5.p6,zA,zS]
 refine ((zTI (v:=vp) o5.ext.ok (e2.ext o5.ext) hne (by omega)).weak).mono ?_
 rintro ⟨v6,k6⟩ ⟨b6,hv6,hb6,hb6l,hb6r,fx6⟩
 simp only at hv6 hb6l hb6r fx6
 subst hv6
 have S6:=S5.fx fx6
 have h5n:=S5.lt
 refine ((call37 (h0:=k5) (d:=B.prs.toArray) (cf:=.func (.func 38) #[] #[]) (f:=fun p=>decide (p=(0,0))) hb6r hb6l (by simp) (by simp;omega) ⟨fx6.ok,fx6.next,fun c hc=>fx6.get c hc (fun h=>h)⟩ hb6 test38).weak).mono ?_
 rintro ⟨v7,k7⟩ C7
 have hv7:=C7.v
 simp only at hv7
 subst hv7
 obtain ⟨rs7,hrow7,_⟩:=C7.row
 simp only at hrow7
 have St7':=S6.fxb C7.fx (by omega)
 try simp only [zA]
 refine P7_7_of ?_
 simp only [St7'.l4,St7'.l5,zJV,Nat.add_zero,Nat.zero_add,St7'.k6,zA,zS]
 refine ((call16 (a:=B.kind) (ad:=some ⟨b6,0,none⟩) (n:=(B.prs.toArray.toList.filter fun p=>!decide (p=(0,0))).length) (c:=UNK+2) St7'.ow.ext.ok).weak).mono ?_
 rintro ⟨v8,k8⟩ ⟨hv8,fx8⟩
 simp only at hv8 fx8
 subst hv8
 have S8:=St7'.fx fx8
 have hn7:k6.next<=k7.next:=C7.fx.next
 have rb8:RB k8 [.int .i64 B.kind,sl b6 (B.prs.toArray.toList.filter fun p=>!decide (p=(0,0))).length (UNK+2)] ⟨B.kind,B.prs.toArray.toList.filter fun p=>!decide (p=(0,0))⟩:=
  ⟨_,rfl,zTh ((fx8.get _ (by omega) (fun h=>h)).trans hrow7) (by have:=fx8.next;omega) rfl⟩
 have q8:=chk k8 _ _ S8.ow rb8
 have n8:zBq L M ⟨B.kind,B.prs.toArray.toList.filter fun p=>!decide (p=(0,0))⟩=360:=by
  refine zI8 hL hM hman fun h0=>?_
  have:=(zDf h0).2
  simp at this
 rw [n8] at q8
 simp only [S8.l4,S8.l5,hveqL,hveqM,zA,true_and,q8,zN,zAz,decide_true,Bool.not_true,zM,zP,beq_self_eq_true,cond_true,zA2,Nat.add_zero,S8.n4,pb54,zLr]
 refine (wth k8 (L.n,0) S8).mono ?_
 rintro ⟨v9,k9⟩ ⟨⟨e9,B9,hv9,hr9,hk9,hm9,hl9⟩,fx9⟩
 simp only at hv9 fx9 hr9
 subst hv9
 have S9:=S8.fx fx9
 have n9:zBq L M B9=360:=zI8 hL hM (by rw [hk9];exact hman) fun h0=>by
  have:=((zDf h0).1 _ hm9).1
  simp only at this
  omega
 have q9:=chk k9 _ _ S9.ow hr9
 rw [n9] at q9
 simp only [S9.l4,S9.l5,hveqL,hveqM,zA,true_and,q9,zN,zAz,decide_true,Bool.not_true,zJ,cond_false,zM,zP,beq_self_eq_true,cond_true,zA2,Nat.add_zero,S9.n5,pb54,zLr]
 refine (wth k9 (0,M.n) S9).mono ?_
 rintro ⟨v10,k10⟩ ⟨⟨e10,B10,hv10,hr10,hk10,hm10,hl10⟩,fx10⟩
 simp only at hv10 fx10 hr10
 subst hv10
 have S10:=S9.fx fx10
 have n10:zBq L M B10=360:=zI8 hL hM (by rw [hk10];exact hman) fun h0=>by
  have:=((zDf h0).1 _ hm10).2
  simp only at this
  omega
 have q10:=chk k10 _ _ S10.ow hr10
 rw [n10] at q10
 simp only [S10.l4,S10.l5,hveqL,hveqM,zA,true_and,q10,zN,zAz,decide_true,Bool.not_true,zJ,cond_false,zk]
 have fin2:∀ h,Own k h->P7_10 false (K7 k) h:=fun h ho=>zc1 (by simp only [zA,zAJ,zT,true_and];exact ho.wm)
 have tf:(true==false)=false:=rfl
 refine P7_9_of ?_
 by_cases hs0:s<0
 ·simp only [zA,zY,hs0,decide_true,zM,zP,tf,cond_false,zL,zJ,cond_true,zu]
  exact fin2 _ S10.ow
 by_cases hs1:L.n<=s
 ·simp only [zA,zY,hs0,decide_true,decide_false,zM,zP,tf,beq_self_eq_true,cond_false,zL,zJ,cond_true,zA2,Nat.add_zero,S10.n4,zAP,hs1,zu]
  exact fin2 _ S10.ow
 by_cases ht0:t<0
 ·simp only [zA,zY,hs0,ht0,decide_true,decide_false,zM,zP,tf,beq_self_eq_true,cond_false,zL,zJ,cond_true,zA2,Nat.add_zero,S10.n4,zAP,hs1,zu]
  exact fin2 _ S10.ow
 by_cases ht1:M.n<=t
 ·simp only [zA,zY,hs0,ht0,ht1,decide_true,decide_false,zM,zP,tf,beq_self_eq_true,cond_false,zL,zJ,cond_true,zA2,Nat.add_zero,S10.n4,S10.n5,zAP,hs1,zu]
  exact fin2 _ S10.ow
 simp only [zA,zY,hs0,ht0,ht1,decide_true,decide_false,zM,zP,tf,beq_self_eq_true,cond_false,zL,zJ,cond_true,zA2,Nat.add_zero,S10.n4,S10.n5,zAP,hs1,zk]
 refine zc0 ?_
 try simp only [zA]
 refine zcz ?_
 obtain ⟨b1,⟨hb1t,hb1f⟩,c39a⟩:=call39 (t:=s) S10.ow.ext.ok (hx.ext S10.ow.ext) hL ⟨by omega,by omega⟩
 obtain ⟨b2,⟨hb2t,hb2f⟩,c39b⟩:=call39 (t:=t) S10.ow.ext.ok (hy.ext S10.ow.ext) hM ⟨by omega,by omega⟩
 simp only [zA,S10.l4,S10.l5,zS,c39a,zN,hveqM,true_and,c39b,eqb7]
 cases hbb:(b1==b2) with
 | true=>
  simp only [zM,zP,tf,cond_false,zA,show veq 100 undef undef=true from rfl,true_and,zL,zJ,cond_true]
  rw [zAJ]
  exact ⟨zT ▸ trivial,rfl,S10.ow.wm⟩
 | false=>
  simp only [zM,zP,beq_self_eq_true,cond_true,zA,S10.l4,S10.l5,pb54,zLr]
  refine (wth k10 (s,t) S10).mono ?_
  rintro ⟨v11,k11⟩ ⟨⟨e11,B11,hv11,hr11,hk11,hm11,hl11⟩,fx11⟩
  simp only at hv11 fx11 hr11
  subst hv11
  have S11:=S10.fx fx11
  have n11:zBq L M B11=360:=zI8 hL hM (by rw [hk11];exact hman) fun h0=>by
   obtain ⟨q1,q2⟩:=zLz h0 hm11
   cases b1 with
   | true=>
    cases b2 with
    | true=>cases hbb
    | false=>obtain ⟨lc,hlc⟩:=hb2f rfl;exact q1 (hb1t rfl) lc hlc
   | false=>
    cases b2 with
    | true=>obtain ⟨lc,hlc⟩:=hb1f rfl;exact q2 (hb2t rfl) lc hlc
    | false=>cases hbb
  have q11:=chk k11 _ _ S11.ow hr11
  rw [n11] at q11
  simp only [S11.l4,S11.l5,hveqL,hveqM,zA,true_and,q11,zN,zAZ,decide_true,zJ,cond_false]
  rw [zAJ]
  exact ⟨zT ▸ trivial,rfl,S11.ow.wm⟩
end Go.Proofs
namespace Go.Proofs.YthmnhjcmefjgjaaGreatDoor
open Go Go.AM Go.ChangeShapes Go.WideShapes Go.ChangeAt Go.RowKit
set_option maxRecDepth 100000
theorem zSB {W:World} {base:Nat} {v:Value} (h:Value.okWide Tryz.prog W .any base 3 v):∃ i,v=.int .i64 i:=okWide_int ar_u3 h
theorem fin7 {lo:Nat} {σ:Sg} {h:AH} {w:World} {x y:Value} {e:List Value} {L M:GL} {B:GB} {s t:Int} {args':List Value} (H:HR lo σ h w) (hok:h.ok) (hx:RL h x L) (hy:RL h y M) (he:RB h e B)
  (ha:VRs σ [x,y,.agg ⟨e⟩,.int .i64 s,.int .i64 t] args'):Calls Tryz.prog 7 args'.toArray w (Ret (zFU lo σ w [(.bool true,h)])):=
 zEc envE extE (by kernel_rfl) H ha (call7 hok hx hy he)
theorem zKq {H:Type} {enc:TypeId×Value->H} {W:World} {base:Nat} {v0 v1 v2 v3 v4:Value} {d0 d1 d2 d3 d4:DataW H} {p0 p1 p2 p3 p4:List MemPlace}
  (k0:Value.okWide Tryz.prog W .any base 25 v0) (k1:Value.okWide Tryz.prog W .any base 25 v1) (k2:Value.okWide Tryz.prog W .any base 32 v2) (k3:Value.okWide Tryz.prog W .any base 3 v3) (k4:Value.okWide Tryz.prog W .any base 3 v4)
  (h0:DataW.Trod enc Tryz.prog W 0 (fun _=>true) true 25 v0 d0 p0) (h1:DataW.Trod enc Tryz.prog W 0 (fun _=>true) true 25 v1 d1 p1) (h2:DataW.Trod enc Tryz.prog W 0 (fun _=>true) true 32 v2 d2 p2) (h3:DataW.Trod enc Tryz.prog W 0 (fun _=>true) true 3 v3 d3 p3) (h4:DataW.Trod enc Tryz.prog W 0 (fun _=>true) true 3 v4 d4 p4) :
  Calls Tryz.prog 7 #[v0,v1,v2,v3,v4] W fun e W'=>e=.returned (.bool true)/\Below W.heap.size W W':=by
 obtain ⟨c0,rfl⟩:=zTo zTi k0
 obtain ⟨c1,rfl⟩:=zTo zTi k1
 obtain ⟨c2,rfl⟩:=zTo ar_f32 k2
 obtain ⟨i3,rfl⟩:∃ i,v3=.int .i64 i:=by
  exact zSB k3
 obtain ⟨i4,rfl⟩:∃ i,v4=.int .i64 i:=by
  exact zSB k4
 obtain ⟨u0,t0⟩:=h0
 obtain ⟨u1,t1⟩:=h1
 obtain ⟨u2,t2⟩:=h2
 have ok0:AH.ok ⟨.e,0,UNK⟩:=by unfold AH.ok;simp
 obtain ⟨s1,g1,x,L,m1,x1,x2,x3⟩:=zOB ok0 (HR.empty W) t0
 obtain ⟨s2,g2,y,M,m2,y1,y2,y3⟩:=zOB m1.ok m1.hr t1
 obtain ⟨s3,g3,e,B,m3,z1,z2⟩:=zbz m2.ok m2.hr t2
 have hargs:VRs s3 [.agg ⟨x⟩,.agg ⟨y⟩,.agg ⟨e⟩,.int .i64 i3,.int .i64 i4] [.agg c0,.agg c1,.agg c2,.int .i64 i3,.int .i64 i4]:=
  .cons (.agg (x1.mono (Sg.le_trans m2.le m3.le))) (.cons (.agg (y1.mono m3.le)) (.cons (.agg z1) (.cons (.int _ _) (.cons (.int _ _) .nil))))
 refine (fin7 m3.hr m3.ok (x2.ext (m2.ext.trans m3.ext)) (y2.ext m3.ext) z2 hargs).mono fun e W' he=>?_
 cases e with
 | returned r=>
  obtain ⟨o,ho,τ,_,_,hv,hb⟩:=he
  simp only [List.mem_singleton] at ho
  subst ho
  cases hv
  exact ⟨rfl,hb⟩
 | _=>exact he.elim
end Go.Proofs.YthmnhjcmefjgjaaGreatDoor
