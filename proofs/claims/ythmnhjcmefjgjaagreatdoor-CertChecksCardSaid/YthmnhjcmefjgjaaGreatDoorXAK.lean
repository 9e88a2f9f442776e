import Derived.Test.YthmnhjcmefjgjaaGreatDoorXAJ
import Derived.Test.YthmnhjcmefjgjaaGreatDoorXAI
set_option linter.all false
set_option linter.unusedSectionVars false
set_option autoImplicit true
set_option relaxedAutoImplicit true
set_option maxRecDepth 100000
set_option maxHeartbeats 1000000
namespace Go.Proofs
open Go Go.AM
def LoA.weak{h0 h:AH}{loc loc' bs:Nat}{cells:List Value}{rows:List (List CA)}(G:LoA h0 loc h bs cells rows)(hl:loc'<=loc):LoA h0 loc' h bs cells rows:=
 ⟨G.s,G.len,G.lts,xCx hl G.locs,G.cell,λ i c b hc hb=>⟨(G.blk i c b hc hb).1,xCx hl (G.blk i c b hc hb).2⟩,G.dis⟩
def zvX(k:AH)(L M:GL)(N:Nat)(v:Value)(m:AH):Prop:=∃ bs cells,v=.slice (some ⟨bs,0,none⟩) N N/\LoA k k.qa m bs cells (jOf L M)/\cells.length=N/\Fx NoB k m
def zqR{k:AH}{x y:Value}{L M:GL}(aa:k.ok)(hx:RL k x L)(hy:RL k y M)(hL:zT L=false)(hM:zT M=false){N:Nat}(hN:L.n+M.n=(N:Int)) :
  Ev true ((zc E).call 102 [x,y] k) λ r=>zvX k L M N r.1 r.2:=by
 obtain⟨z1,z2,z3,z4⟩:=zf hL;obtain⟨y1,y2,y3,y4⟩:=zf hM;obtain⟨vl,ve,elsL,rfl,aL,rL,aE⟩:=hx.ex;obtain⟨wl,we,elsM,rfl,aM,rM,aF⟩:=hy.ex;obtain⟨sb,sd,bJ⟩:=aE.slice;obtain⟨sb',sd',kD⟩:=aF.slice;obtain⟨sl,sl',aP⟩:=aL.slice;obtain⟨tl,tl',fO⟩:=aM.slice;rw[xCY] at bJ kD;refine zgp (Rp:=zvX k L M N) (zfZ ?_);obtain⟨k1,e1,n1,t1,o1,f1⟩:=nwF k (rO [iI L.n,vl,ve] 25);obtain⟨k2,e2,n2,t2,o2,f2⟩:=nw o1 (rO [iI M.n,wl,we] 25);simp only[zU,zF,zK,zA,e1,e2,zR];rw[n1] at t2;have u1:=(f2 k.qa (by omega)).trans t1;have l0:=zB (P:=E) zAE (o:=0) u1;have m0:=zB (P:=E) zAE (o:=0) t2;simp only[lnth] at l0 m0;refine zfY ?_;obtain⟨k3,e3,n3,t3,o3,f3⟩:=nw o2 (.row (List.replicate N (.slice none 0 0)) 212 0 false);simp only[zAP,xCu,l0,m0,zA,n1,zk _ (show zC2 (L.n+M.n) from ⟨by omega,by omega⟩),hN,zwj (show N<=1000000 by omega),e3,zF];refine zfX ?_;have dM:∀(i:Nat) (c:Value),(List.replicate N (Value.slice none 0 0))[i]?=some c->c=.slice none 0 0:=λ i c h=>by
  rw[xAq] at h;split at h
  ·exact (xCc h).symm
  ·cases h
 have bZ:∀ c,¬ zY (.slice none 0 0) c:=by rintro c ⟨n,cap,h⟩;cases h
 have aN:k2.qa=k.qa+2:=by omega
 have G0:LoA k k2.qa k3 k2.qa (List.replicate N (.slice none 0 0)) (List.replicate N []):=
  ⟨t3,by simp,by omega,by omega,λ i c S hc hS=>.inl ⟨dM i c hc,by rw[xAq] at hS;split at hS <;> simp_all⟩,λ i c b hc hb=>absurd (by rw[dM i c hc] at hb;exact hb) (bZ b),λ i j c d b hc hd hb _=>absurd (by rw[dM i c hc] at hb;exact hb) (bZ b)⟩
 have b1:=(f3 k.qa (by omega)).trans u1;have b2:=(f3 (k.qa+1) (by omega)).trans t2;have hjo:jGo (jGo (List.replicate N []) (L.eds.map (zMD 0 L))) (M.eds.map (zMD L.n M))=jOf L M:=by
  rw[← zXU];unfold jOf zL4;rw[hN];rfl
 have loop2:∀(m j:Nat),j+m=M.eds.length->∀ kk cells rows,Own k kk->kk.get k.qa=some (rO [iI L.n,vl,ve] 25)->kk.get (k.qa+1)=some (rO [iI M.n,wl,we] 25)->LoA k k2.qa kk k2.qa cells rows->cells.length=N->(∀ i:Nat,(rows[i]?.getD []).length<=L.eds.length+j)->jGo rows ((M.eds.drop j).map (zMD L.n M))=jOf L M->
   PI (zO2 true) (KR E [.tmp 4] λ v m=>(zm v=false\/m.wm<k.qa)/\(zvX k L M N) v ⟨m.t,m.qa,cond (Nat.ble k.wm m.wm) k.wm m.wm⟩) 8 [.pointer (some ⟨k.qa,0,none⟩),.pointer (some ⟨k.qa+1,0,none⟩),.slice (some ⟨k2.qa,0,none⟩) N N,iI (j:Int)] kk:=by
  intro m
  induction m with
  | zero=>
   intro j hj kk cells rows ho tb1 tb2 hG hNc hlen hout;have l2:=zB (P:=E) zEF (o:=2) tb2;simp only[lnth] at l2;rw[kD] at l2;refine zOf ?_;simp only[zA7,xAK,l2,zA,zKV,zP,show decide ((j:Int)<(M.eds.length:Int))=false from xAI (by omega),zZ];refine zUv ?_;simp only[zA,zAC,zO,xDJ];have hO:rows=jOf L M:=by rw[← hout,xAs (show M.eds.length<=j by omega)];rfl
   subst hO;refine⟨.inl rfl,k2.qa,cells,rfl,(hG.weak (by omega)).same _,hNc,?_⟩;refine⟨?_,ho.ext.qa,λ c hc _=>ho.ext.get c hc,λ m h1 _ h3=>?_⟩
   ·show cond (Nat.ble k.wm kk.wm) k.wm kk.wm<=kk.qa+UNK;have:=ho.ext.ok;unfold AH.ok at this;cases bv:Nat.ble k.wm kk.wm with
    | true=>rw[ble_true] at bv;simp only[xAG];omega
    | false=>exact this
   ·show m<=cond (Nat.ble k.wm kk.wm) k.wm kk.wm;have:=ho.wm;cases bv:Nat.ble k.wm kk.wm with
    | true=>exact h1
    | false=>simp only[xAH];omega
  | succ m ih=>
   intro j hj kk cells rows ho tb1 tb2 hG hNc hlen hout;have aJ:j<M.eds.length:=by omega
   have l2:=zB (P:=E) zEF (o:=2) tb2;simp only[lnth] at l2;refine zOf ?_;have l2':=l2;rw[kD] at l2';simp only[zA7,xAK,l2',zA,zKV,zP,show decide ((j:Int)<(M.eds.length:Int))=true from xAJ (by omega),ze];refine zfS ?_;obtain⟨e,he⟩:∃ e,M.eds[j]?=some e:=⟨_,xAA aJ⟩;obtain⟨⟨d1,d2⟩,⟨d3,d4⟩,d5,d6⟩:=zA1 hM he;rw[zEu he] at hout;have bM:(M.eds.map zQ)[j]?=some (zQ e):=by rw[xBi,he];rfl
   obtain⟨p1,q1,w1⟩:=zJk aF ho.ext bM;obtain⟨k4,e4,n4,t4,o4,f4⟩:=zho ho (rO [iI 0,iI 0,iI 0] 52) (rO (zQ e) 52);simp only[zA7,xAK,l2,zA,q1,w1,zmk,zU,zF,zK,zQN,e4];refine zUx ?_;have fb:Fx NoB kk k4:=⟨o4.ext.ok,by omega,λ c hc _=>f4 c hc,λ m h1 _ h3=>by
    rw[← e4];exact zp (show m<=(kk.new _).wm from h1) h3⟩
   have be:=hG.nb fb;have dr:=ho.ext.qa;have ab:=hG.lts;obtain⟨ef,hef⟩:=xAp d1;obtain⟨la,dP⟩:∃ la:Nat,e.2.1=(la:Int):=xAp (by omega);obtain⟨el,aS⟩:∃ z,elsM[la]?=some z:=⟨_,xAA (by rw[RLab.length rM];omega)⟩;obtain⟨gx,wx,lx,rfl,ii,aY⟩:=RLab.at rM la el aS;obtain⟨sa,sc,ky⟩:=ii.slice;obtain⟨fr,bI⟩:∃ fr:Nat,L.n+e.1=(fr:Int):=xAp (by omega);have jH:fr<N:=by omega
   obtain⟨R,hR⟩:∃ R,rows[fr]?=some R:=⟨_,xAA (by rw[← hG.len];omega)⟩;have jX:=hlen fr;rw[hR] at jX;simp only[xCH] at jX;have jV:zMD L.n M e=(fr,((gx,lx),L.n+e.2.2)):=by
    unfold zMD;rw[bI,dP,show ((la:Int)).toNat=la from rfl,aY];rfl
   rw[xCi,jV,jGo,hR] at hout;have hu:RArc k [iI gx,wx,iI (L.n+e.2.2)] ((gx,lx),L.n+e.2.2):=⟨wx,rfl,ii⟩;obtain⟨c,v',h3,h4,cells',g1,g2,g3,g4,g5,g6,g7,g8,g9,g10,g11⟩:=zWd be hNc o4.ext.ok jH hu hR (by omega);have tb1a:∀ m:AH,m.get k.qa=some (rO [iI L.n,vl,ve] 25)->zb E 3 m (sP k.qa 0)=some (iI L.n):=λ m hm=>zB (P:=E) zAE (o:=0) hm;have tbe:∀ m:AH,m.get kk.qa=some (rO (zQ e) 52)->zb E 3 m (sP kk.qa 0)=some (iI e.1):=λ m hm=>zB (P:=E) zAE (o:=0) hm;have c1:=zB (P:=E) zAE (o:=1) t4;have c2:=zB (P:=E) zAE (o:=2) t4;simp only[lnth,zQ] at c1 c2;have y1':=(f4 k.qa (by omega)).trans tb1;have y2':=(f4 (k.qa+1) (by omega)).trans tb2;have lv:=zB (P:=E) zF4 (o:=1) y2';simp only[lnth] at lv;obtain⟨p3,s1,s2⟩:=zM6 aM o4.ext aS;rw[← dP] at s1;have fn:Fx NoB k4 (k4.new (rO [iI gx,wx,iI (L.n+e.2.2)] 214)):=(Fx.refl o4.ext.ok).new _;have a0:=tb1a _ ((fn.get _ (by omega) id).trans y1');have a1:=tbe _ ((fn.get _ (by omega) id).trans t4);have hold:∀ b,b<kk.qa->¬ zY c b\/k2.qa<=b:=λ b _=>by
    by_cases hb:zY c b
    ·exact .inr (g11 b hb).2.1
    ·exact .inl hb
   have hnE:¬ zY c kk.qa:=λ hb=>by
    obtain⟨i,hi⟩:∃ i,cells[i]?=some c:=by
     refine⟨fr,?_⟩;have:=zB (P:=E) zJv (o:=fr) be.s;rw[g3,zAI] at this;have hc:=(xAA (show fr<cells.length by omega));rw[hc] at this ⊢;exact this.symm
    have eR:i<rows.length:=by rw[← hG.len];exact (xAc.1 hi).1
    have:=(hG.cell i c _ hi (xAA eR)).lt hb;omega
   have il:¬ zY c k.qa:=λ hb=>by have:=(g11 _ hb).2.1;omega
   have jq:¬ zY c (k.qa+1):=λ hb=>by have:=(g11 _ hb).2.1;omega
   have a0':=tb1a _ ((g6.get _ (by omega) il).trans y1');have a1':=tbe _ ((g6.get _ (by omega) hnE).trans t4);have cc0:=tbe _ t4;have ll0:=tb1a _ y1';have aK:zg E 212 1 (some [(0,.agg ⟨[iI gx,wx,iI (L.n+e.2.2)]⟩)]) k4=one (.slice (some ⟨k4.qa,0,none⟩) 1 1,k4.new (rO [iI gx,wx,iI (L.n+e.2.2)] 214)):=ztY;have fT:zAT E 214 (some [(0,.agg ⟨[iI gx,wx]⟩),(1,iI (L.n+e.2.2))])=some (.agg ⟨[iI gx,wx,iI (L.n+e.2.2)]⟩):=by rw[ky];exact zsG
   rw[← bI] at g2;simp only[zAP,zA0,zDU,zCe,zBo,xCu,xAK,zA,ll0,cc0,c1,c2,zk _ (show zC2 (L.n+e.1) from ⟨by omega,by omega⟩),zk _ (show zC2 (L.n+e.2.2) from ⟨by omega,by omega⟩),g2,g3,lv,s1,s2,fT,aK,zF,g4,a1,a0,g1,zBF,xDJ,g5,a1',a0',g7];refine zUw ?_;simp only[zA,zk _ (zCS aJ (by omega))];have o5:=g10.own o4 (λ b hb=>hb.elim (λ h=>by omega) λ h=>by have:=(g11 b h).2.1;omega);refine ih (j+1) (by omega) _ cells' _ o5 ?_ ?_ g8 g9 ?_ ?_
   ·exact (g10.get _ (by omega) (λ h=>h.elim (λ h=>by omega) il)).trans y1'
   ·exact (g10.get _ (by omega) (λ h=>h.elim (λ h=>by omega) jq)).trans y2'
   ·intro i;by_cases hi:fr=i
    ·subst hi;rw[xAt (xAc.1 hR).1];simp only[xCH,xBY,xCG,xCR];omega
    ·rw[xBM hi];have:=hlen i;omega
   ·exact hout
 have loop1:∀(m j:Nat),j+m=L.eds.length->∀ kk cells rows,Own k kk->kk.get k.qa=some (rO [iI L.n,vl,ve] 25)->kk.get (k.qa+1)=some (rO [iI M.n,wl,we] 25)->LoA k k2.qa kk k2.qa cells rows->cells.length=N->(∀ i:Nat,(rows[i]?.getD []).length<=j)->jGo rows ((L.eds.drop j).map (zMD 0 L))=jGo (List.replicate N []) (L.eds.map (zMD 0 L))->
   PI (zO2 true) (KR E [.tmp 4] λ v m=>(zm v=false\/m.wm<k.qa)/\(zvX k L M N) v ⟨m.t,m.qa,cond (Nat.ble k.wm m.wm) k.wm m.wm⟩) 3 [.pointer (some ⟨k.qa,0,none⟩),.pointer (some ⟨k.qa+1,0,none⟩),.slice (some ⟨k2.qa,0,none⟩) N N,iI (j:Int)] kk:=by
  intro m
  induction m with
  | zero=>
   intro j hj kk cells rows ho tb1 tb2 hG hNc hlen hout;have l2:=zB (P:=E) zEF (o:=2) tb1;simp only[lnth] at l2;rw[bJ] at l2;refine zOg ?_;simp only[zA7,xAK,l2,zA,zKW,zP,show decide ((j:Int)<(L.eds.length:Int))=false from xAI (by omega),zZ];refine zfT ?_;rw[xAs (show L.eds.length<=j by omega)] at hout;exact loop2 M.eds.length 0 (by omega) kk cells rows ho tb1 tb2 hG hNc (λ i=>by have:=hlen i;omega) (by rw[xCe,← hjo,← hout];rfl)
  | succ m ih=>
   intro j hj kk cells rows ho tb1 tb2 hG hNc hlen hout;have aJ:j<L.eds.length:=by omega
   have l2:=zB (P:=E) zEF (o:=2) tb1;simp only[lnth] at l2;refine zOg ?_;have l2':=l2;rw[bJ] at l2';simp only[zA7,xAK,l2',zA,zKW,zP,show decide ((j:Int)<(L.eds.length:Int))=true from xAJ (by omega),ze];refine zfW ?_;obtain⟨e,he⟩:∃ e,L.eds[j]?=some e:=⟨_,xAA aJ⟩;obtain⟨⟨d1,d2⟩,⟨d3,d4⟩,d5,d6⟩:=zA1 hL he;rw[zEu he] at hout;have bM:(L.eds.map zQ)[j]?=some (zQ e):=by rw[xBi,he];rfl
   obtain⟨p1,q1,w1⟩:=zJk aE ho.ext bM;obtain⟨k4,e4,n4,t4,o4,f4⟩:=zho ho (rO [iI 0,iI 0,iI 0] 52) (rO (zQ e) 52);simp only[zA7,xAK,l2,zA,q1,w1,zmk,zU,zF,zK,zQN,e4];refine zfV ?_;have fb:Fx NoB kk k4:=⟨o4.ext.ok,by omega,λ c hc _=>f4 c hc,λ m h1 _ h3=>by
    rw[← e4];exact zp (show m<=(kk.new _).wm from h1) h3⟩
   have be:=hG.nb fb;have dr:=ho.ext.qa;have ab:=hG.lts;obtain⟨fr,bI⟩:=xAp d1;obtain⟨la,dP⟩:∃ la:Nat,e.2.1=(la:Int):=xAp (by omega);obtain⟨el,aS⟩:∃ z,elsL[la]?=some z:=⟨_,xAA (by rw[RLab.length rL];omega)⟩;obtain⟨gx,wx,lx,rfl,ii,aY⟩:=RLab.at rL la el aS;obtain⟨sa,sc,ky⟩:=ii.slice;have jH:fr<N:=by omega
   obtain⟨R,hR⟩:∃ R,rows[fr]?=some R:=⟨_,xAA (by rw[← hG.len];omega)⟩;have jX:=hlen fr;rw[hR] at jX;simp only[xCH] at jX;have jV:zMD 0 L e=(fr,((gx,lx),e.2.2)):=by
    unfold zMD;rw[bI,dP,show ((la:Int)).toNat=la from rfl,aY,xDA,xDA];rfl
   rw[xCi,jV,jGo,hR] at hout;have hu:RArc k [iI gx,wx,iI e.2.2] ((gx,lx),e.2.2):=⟨wx,rfl,ii⟩;obtain⟨c,v',h3,h4,cells',g1,g2,g3,g4,g5,g6,g7,g8,g9,g10,g11⟩:=zWd be hNc o4.ext.ok jH hu hR (by omega);have tbe:∀ m:AH,m.get kk.qa=some (rO (zQ e) 52)->zb E 3 m (sP kk.qa 0)=some (iI e.1):=λ m hm=>zB (P:=E) zAE (o:=0) hm;have c1:=zB (P:=E) zAE (o:=1) t4;have c2:=zB (P:=E) zAE (o:=2) t4;simp only[lnth,zQ] at c1 c2;have y1':=(f4 k.qa (by omega)).trans tb1;have y2':=(f4 (k.qa+1) (by omega)).trans tb2;have lv:=zB (P:=E) zF4 (o:=1) y1';simp only[lnth] at lv;obtain⟨p3,s1,s2⟩:=zM6 aL o4.ext aS;rw[← dP] at s1;have fn:Fx NoB k4 (k4.new (rO [iI gx,wx,iI e.2.2] 214)):=(Fx.refl o4.ext.ok).new _;have a1:=tbe _ ((fn.get _ (by omega) id).trans t4);have hnE:¬ zY c kk.qa:=λ hb=>by
    obtain⟨i,hi⟩:∃ i,cells[i]?=some c:=by
     refine⟨fr,?_⟩;have:=zB (P:=E) zJv (o:=fr) be.s;rw[g3,zAI] at this;have hc:=(xAA (show fr<cells.length by omega));rw[hc] at this ⊢;exact this.symm
    have eR:i<rows.length:=by rw[← hG.len];exact (xAc.1 hi).1
    have:=(hG.cell i c _ hi (xAA eR)).lt hb;omega
   have il:¬ zY c k.qa:=λ hb=>by have:=(g11 _ hb).2.1;omega
   have jq:¬ zY c (k.qa+1):=λ hb=>by have:=(g11 _ hb).2.1;omega
   have a1':=tbe _ ((g6.get _ (by omega) hnE).trans t4);have cc0:=tbe _ t4;have aK:zg E 212 1 (some [(0,.agg ⟨[iI gx,wx,iI e.2.2]⟩)]) k4=one (.slice (some ⟨k4.qa,0,none⟩) 1 1,k4.new (rO [iI gx,wx,iI e.2.2] 214)):=ztY;have fT:zAT E 214 (some [(0,.agg ⟨[iI gx,wx]⟩),(1,iI e.2.2)])=some (.agg ⟨[iI gx,wx,iI e.2.2]⟩):=by rw[ky];exact zsG
   rw[← bI] at g2;simp only[zAP,zA0,zDU,zCe,zBo,xCu,xAK,zA,cc0,c1,c2,g2,g3,lv,s1,s2,fT,aK,zF,g4,a1,g1,zBF,xDJ,g5,a1',g7];refine zfU ?_;simp only[zA,zk _ (zCS aJ (by omega))];have o5:=g10.own o4 (λ b hb=>hb.elim (λ h=>by omega) λ h=>by have:=(g11 b h).2.1;omega);refine ih (j+1) (by omega) _ cells' _ o5 ?_ ?_ g8 g9 ?_ ?_
   ·exact (g10.get _ (by omega) (λ h=>h.elim (λ h=>by omega) il)).trans y1'
   ·exact (g10.get _ (by omega) (λ h=>h.elim (λ h=>by omega) jq)).trans y2'
   ·intro i;by_cases hi:fr=i
    ·subst hi;rw[xAt (xAc.1 hR).1];simp only[xCH,xBY,xCG,xCR];omega
    ·rw[xBM hi];have:=hlen i;omega
   ·exact hout
 exact loop1 L.eds.length 0 (by omega) k3 _ _ o3 b1 b2 G0 (by simp) (λ i=>by rw[xAq];split <;> simp) (by rw[xCe])
abbrev zHu:=CellT 217
def zs3:Elt 158 217 3:=zGd zpR zV3 zQm (by kernel_rfl)
def zxP{a b c:Value}{h:AH}:zg E 158 1 (some [(0,.agg ⟨[a,b,c]⟩)]) h=one (.slice (some ⟨h.qa,0,none⟩) 1 1,h.new (rO [a,b,c] 217)):=by kernel_rfl
def el3{T ty:Nat}(hia:∀ {b o len c i:Nat},i<len->zV E T (some (.slice (some ⟨b,o,none⟩) len c)) (some (iI (i:Int)))=some (.pointer (some ⟨b,o+i*3,none⟩)))(hta:tAS E ty=some (true,3)){h0 h m:AH}{v:Value}{S:List (List Value)}{R:List CA}{i:Nat}{a:CA}(ha:Arr h 3 v S)(hR:RArcs h0 S R)(e:Ext h m)(hi:R[i]?=some a) :
  ∃ b o w,RT h0 w a.1.2/\zV E T (some v) (some (iI (i:Int)))=some (.pointer (some ⟨b,o,none⟩))/\zb E 3 m (some (.pointer (some ⟨b,o+2,none⟩)))=some (iI a.2)/\zb E 36 m (some (.pointer (some ⟨b,o+0,none⟩)))=some (.agg ⟨[iI a.1.1,w]⟩)/\zb E ty m (some (.pointer (some ⟨b,o,none⟩)))=some (.agg ⟨[iI a.1.1,w,iI a.2]⟩):=by
 have ax:i<S.length:=by rw[hR.1];exact (xAc.1 hi).1
 obtain⟨u,hu⟩:∃ u,S[i]?=some u:=⟨_,xAA ax⟩;obtain⟨a',cR,w,rfl,hw⟩:=hR.2 i u hu;rw[hi] at cR;cases cR;obtain⟨b,o,c,vs,ty',es,ro,hv,hb,ba,bK,hz,bN⟩:=ha.load hu;have gb:=(e.get b ba).trans hb;have q0:=hia (b:=b) (o:=o) (c:=c) (i:=i) (len:=S.length) ax;rw[← hv] at q0;have z2:((vs.drop (o+i*3)).take 3)[2]?=some (iI a.2):=by rw[hz];rfl
 rw[xAg (by omega),xBW] at z2;refine⟨b,o+i*3,w,hw,q0,?_,?_,?_⟩
 ·rw[zB (P:=E) zAE gb,zAI];exact z2
 ·have:=zN (P:=E) zC7 (o:=o+i*3+0) gb (by omega);rw[this,show o+i*3+0=o+i*3 by omega,show (vs.drop (o+i*3)).take 2=((vs.drop (o+i*3)).take 3).take 2 by rw[List.take_take];rfl,hz];rfl
 ·rw[zN (P:=E) hta gb (by omega),hz]
def CellT.slice{ty:Nat}{h0 h:AH}{c:Value}{R:List CA}(k:CellT ty h0 h c R):∃ a cp,c=.slice a R.length cp:=by
 rcases k with ⟨rfl,rfl⟩|⟨b,S,rfl,_⟩
 ·exact⟨_,_,rfl⟩
 ·exact⟨_,_,rfl⟩
def cmp_eq{c d:CL}:zBd c.1 c.2 d.1 d.2=0 ↔ c=d:=by
 rw[zFQ];exact⟨zhs,λ h=>by rw[h,zH4]⟩
def zvx(h0 k:AH)(v:Value)(R:List CA)(a:CA)(y:Value)(m:AH):Prop:=(a∈R/\zHu h0 m y R/\y=v/\Fx NoB k m)\/(a ∉ R/\zHu h0 m y (R++[a])/\Fx (λ x=>zY v x) k m/\∀ b,zY y b->k.qa<=b)
def zYE{h0 k:AH}{v:Value}{R:List CA}{u:List Value}{a:CA}(aa:k.ok)(ek:Ext h0 k)(hc:zHu h0 k v R)(hu:RArc h0 u a)(hn:R.length+1<=1000000) :
  Ev true ((zc E).call 159 [v,.agg ⟨u⟩] k) λ y=>zvx h0 k v R a y.1 y.2:=by
 refine zgO (Rp:=zvx h0 k v R a) (zdQ ?_);obtain⟨x0,x1,hv⟩:=hc.slice;obtain⟨w,dF,hw⟩:=id hu;obtain⟨wa,wc,kz⟩:=hw.slice;subst dF;obtain⟨k1,e1,n1,t1,⟨f1,_⟩,o1⟩:=nwG (Fx.refl (P:=NoB) (zAR k)) (xAF _) (rO [iI a.1.1,w,iI a.2] 217);simp only[zU,zF,zK,zA,e1,zR] at *;refine zdP ?_;have eI:zHu h0 k1 v R:=hc.fx (P:=NoB) ⟨f1.ok,f1.qa,λ c hc hp=>f1.get c hc hp,λ m h1 h2 h3=>f1.wm m (by rw[zAN];omega) h2 h3⟩ (λ _ _ h=>h);have ek1:Ext h0 k1:=ek.trans ⟨f1.ok,f1.qa,λ c hc=>f1.get c hc id⟩;obtain⟨S,hA,mt⟩:=eI.arr;have b2:=zB (P:=E) zAE (o:=0+2) t1;have b36:=zN (P:=E) zC7 (o:=0+0) t1 (by simp);have b217:=zN (P:=E) zQm (o:=0) t1 (by simp);simp only[lnth,xAK,xCe,List.take] at b2 b36 b217;have hlen:zh E (zAc [(7,v)]) (zA4 zg4 [1,0,1,0,0,0,0] 2) k1=some (iI (R.length:Int)):=by rw[hv];exact @zTZ _ _ _ _
 have back:∀ {P:Nat->Prop} {m:AH},Fx P k.qb m->Fx P k ⟨m.t,m.qa,cond (Nat.ble k.wm m.wm) k.wm m.wm⟩:=λ f=>f.back;have loop:∀(d i:Nat),i+d=R.length->(∀(j:Nat) (c:CA),j<i->R[j]?=some c->c≠a)->
   PI (zhI true) (KR E [.tmp 4] λ x m=>(zm x=false\/m.wm<k.qa)/\zvx h0 k v R a x ⟨m.t,m.qa,cond (Nat.ble k.wm m.wm) k.wm m.wm⟩) 2 [v,ptr k.qa,iI (i:Int)] k1:=by
  intro d
  induction d with
  | zero=>
   intro i hi cw;refine zOK ?_;rw[hlen,zA,zP,zA,xAI (by omega),zZ];refine zdL ?_;rw[b217,zA,zxP,zF];obtain⟨h3,r1,r2,r3,r4⟩:=zYj zs3 f1.ok eI hu hn;rw[r1,zF,zAC];refine⟨zO ▸ trivial,.inl rfl,.inr ⟨λ hm=>?_,?_,back ((f1.mono (P':=λ x=>zY v x) λ c h=>h.elim).trans r4 λ c h=>.inl h),?_⟩⟩
   ·obtain⟨j,hj⟩:=xBN hm;exact cw j a (by have:=(xAc.1 hj).1;omega) hj rfl
   ·rcases r2 with ⟨e,_⟩|⟨b,S,e,hg,hl,hr⟩
    ·cases e
    ·exact .inr ⟨b,S,e,hg,hl,hr⟩
   ·rintro b ⟨n,cp,hb⟩;simp only[xBu,xAN,xCo] at hb;have:=hb.1.1;omega
  | succ d ih=>
   intro i hi cw;have ax:i<R.length:=by omega
   obtain⟨c,gI⟩:∃ c,R[i]?=some c:=⟨_,xAA ax⟩;obtain⟨b,o,w',dg,q0,q1,q2,q3⟩:=el3 znJ zQm hA mt (Ext.refl f1.ok) gI;refine zOK ?_;rw[hlen,zA,zP,zA,xAJ (by omega),ze];refine zdO ?_;have c28:=zX7 (g:=c.1.1) (g':=a.1.1) dg hw ek1;have on:c≠a->PI (zhI true) (KR E [.tmp 4] λ x m=>(zm x=false\/m.wm<k.qa)/\zvx h0 k v R a x ⟨m.t,m.qa,cond (Nat.ble k.wm m.wm) k.wm m.wm⟩) 5 [v,ptr k.qa,iI (i:Int)] k1:=λ aj=>by
    refine zdM ?_;rw[zk _ (zCS ax (by omega)),zA];refine ih (i+1) (by omega) λ j c' hj am=>?_;rcases xAi.1 hj with h|h
    ·exact cw j c' h am
    ·subst h;rw[gI] at am;cases am;exact aj
   simp only[q0,zhz,zRX,xAK,zA,q1,b2,zAD];by_cases h1:c.2=a.2
   ·simp only[h1,xDG,zI,zS,xAO,xAG,zA,q0,zRX,xAK,q2,b36,zM,c28,zJ,zE,zAq];refine⟨λ ht=>?_,λ hf=>on λ he=>?_⟩
    ·have hca:c=a:=Prod.ext (cmp_eq.1 (xBm ht)) h1;refine zdN ?_;rw[zAC];have aO:a∈R:=by rw[← hca];exact xBI gI
     refine⟨zO ▸ trivial,.inl ?_,.inl ⟨aO,?_,rfl,back f1⟩⟩
     ·rcases eI with ⟨_,e⟩|⟨b,S,e,_⟩
      ·rw[e] at aO;cases aO
      ·rw[e];rfl
     ·rcases eI with e|⟨b,S,e,hg,hl,hr⟩
      ·exact .inl e
      ·exact .inr ⟨b,S,e,hg,hl,hr⟩
    ·rw[he] at hf;exact absurd (cmp_eq.2 rfl) (xBe hf)
   ·simp only[h1,xCz,zI,zS,show (false==true)=false from rfl,xAH,zA,zF,zE,zZ];exact on λ he=>h1 (by rw[he])
 exact loop R.length 0 (by omega) λ j c hj=>by omega
def zT0(A B:List CA):Prop:=A.length=B.length/\∀ a∈A,a∈B
def zqQ{h0 k:AH}{v w:Value}{A B:List CA}(aa:k.ok)(ek:Ext h0 k)(ha:zHu h0 k v A)(hb:zHu h0 k w B)(hdis:∀ b,zY v b->¬ zY w b)(hn:B.length+1<=1000000)(jr:A.length<=1000000) :
  ∃ r:Bool,(r=true ↔ zT0 A B)/\Ev true ((zc E).call 103 [v,w] k) λ y=>y.1=.bool r/\Fx (λ x=>zY w x) k y.2:=by
 obtain⟨x0,x1,hv⟩:=ha.slice;obtain⟨x2,x3,hw⟩:=hb.slice;have hd:Decidable (zT0 A B):=Classical.propDecidable _;refine⟨decide (zT0 A B),decide_eq_true_iff,?_⟩;have main:PI (zVZ true) (KR E [.tmp 4] λ x m=>x=.bool (decide (zT0 A B))/\Fx (λ x=>zY w x) k.qb m) 0 [v,w] k.qb:=by
  have f0:Fx NoB k k.qb:=Fx.toFresh aa;have ok0:k.qb.ok:=zAR k;have ha0:=ha.fx f0 (λ _ _ h=>h);have df:=hb.fx f0 (λ _ _ h=>h);have ek0:=ek.trans f0.ext0;generalize k.qb=g at ok0 ha0 df ek0;refine zfR (zfQ ?_);rw[show zh E (zAc [(6,v)]) (zA4 zIL [1,0,0] 1) g=some (iI (A.length:Int)) by rw[hv];exact @zTk _ _ _ _,zA,show zh E (zAc [(8,w)]) (zA4 zIL [1,0,0] 3) g=some (iI (B.length:Int)) by rw[hw];exact @zTj _ _ _ _,zA,zAS,zA];by_cases hl:(A.length:Int)=B.length;rotate_left
  ·rw[xAI hl,xAM,ze];refine zfP ?_;rw[zAC];exact⟨zO ▸ trivial,by rw[xAI λ h=>hl (by rw[h.1])],Fx.refl ok0⟩
  rw[xAJ hl,xAL,zZ];refine zfO ?_;have loop:∀(d i:Nat),i+d=A.length->∀ m,Fx NoB g m->(∀(j:Nat) (c:CA),j<i->A[j]?=some c->c∈B)->
    PI (zVZ true) (KR E [.tmp 4] λ x m=>x=.bool (decide (zT0 A B))/\Fx (λ x=>zY w x) g m) 4 [v,w,iI (i:Int)] m:=by
   intro d
   induction d with
   | zero=>
    intro i hi m f cw;refine zOe ?_;rw[show zh E (zAc [(12,v)]) (zA4 zIL [1,1,0,1,0,0,0,0] 2) m=some (iI (A.length:Int)) by rw[hv];exact @zKU _ _ _ _,zA,zP,zA,xAI (by omega),zZ];refine zfK ?_;rw[zAC];refine⟨zO ▸ trivial,?_,f.mono λ c h=>h.elim⟩;rw[xAJ];refine⟨by omega,λ a ha=>?_⟩;obtain⟨j,hj⟩:=xBN ha;exact cw j a (by have:=(xAc.1 hj).1;omega) hj
   | succ d ih=>
    intro i hi m f cw;have ax:i<A.length:=by omega
    obtain⟨c,gI⟩:∃ c,A[i]?=some c:=⟨_,xAA ax⟩;have ham:=ha0.fx f (λ _ _ h=>h);have bj:=df.fx f (λ _ _ h=>h);obtain⟨S,hA,mt⟩:=ham.arr;obtain⟨b,o,w',dg,q0,q1,q2,q3⟩:=el3 znJ zQm hA mt (Ext.refl f.ok) gI;refine zOe ?_;rw[show zh E (zAc [(12,v)]) (zA4 zIL [1,1,0,1,0,0,0,0] 2) m=some (iI (A.length:Int)) by rw[hv];exact @zKU _ _ _ _,zA,zP,zA,xAJ (by omega),ze];refine zfN ?_;rw[q0,zA,q3,zA,zM];refine (zYE (a:=c) f.ok (ek0.trans f.ext0) bj ⟨w',rfl,dg⟩ hn).mono ?_;rintro⟨y,m2⟩ hy;have lw:zh E (zAc [(24,w)]) (zA4 zIL [1,1,0,1,0,0,1,0,0,0] 8) m2=some (iI (B.length:Int)):=by rw[hw];exact @zTi _ _ _ _
    rcases hy with ⟨hm,r1,r2,r3⟩|⟨hm,r1,r2,r3⟩
    ·simp only at r1 r2 r3 ⊢;subst r2;rw[show zh E (zAc [(22,y)]) (zA4 zIL [1,1,0,1,0,0,1,0,0,0] 6) m2=some (iI (B.length:Int)) by rw[hw];exact @zKT _ _ _ _,zA,lw,zA,zAS,zA,xAJ rfl,xAL,zZ];refine zfL ?_;rw[zk _ (zCS ax (by omega)),zA];refine ih (i+1) (by omega) m2 (f.trans r3 λ c h=>h.elim) λ j c' hj am=>?_;rcases xAi.1 hj with h|h
     ·exact cw j c' h am
     ·subst h;rw[gI] at am;cases am;exact hm
    ·obtain⟨x4,x5,hy⟩:=r1.slice;simp only at r1 r2 r3 hy ⊢;rw[show zh E (zAc [(22,y)]) (zA4 zIL [1,1,0,1,0,0,1,0,0,0] 6) m2=some (iI ((B++[c]).length:Int)) by rw[hy];exact @zKT _ _ _ _,zA,lw,zA,zAS,zA,xAI (by simp;omega),xAM,ze];refine zfM ?_;rw[zAC];exact⟨zO ▸ trivial,by rw[xAI λ h=>hm (h.2 c (xBI gI))],(f.mono (P':=λ x=>zY w x) λ c h=>h.elim).trans r2 λ c h=>.inl h⟩
  exact loop A.length 0 (by omega) g (Fx.refl ok0) λ j c hj=>by omega
 refine (zCP (Q:=λ x m=>x=.bool (decide (zT0 A B))/\Fx (λ x=>zY w x) k.qb m) aa zmc zgo (zmb _ _) (by kernel_rfl) (zq8 main)).mono ?_;rintro⟨y,m⟩ ⟨k',⟨hq,hf⟩,⟨_,_,h2⟩|h2⟩
 ·exact⟨hq,by simp only at h2;rw[h2];exact Fx.refl aa⟩
 ·exact⟨hq,by simp only at h2;rw[h2];exact hf.back⟩
def zFj(rows:List (List CA))(u:Int):List CA:=rows[u.toNat]?.getD []
def zJ0(kind:Int)(a:CA):Bool:=decide (kind=2)&&(decide (a.1.1=-1)&&decide (a.1.2=[]))
def zXu(kind:Int)(cl:List Int)(s u:Int)(a:CA):Bool:=decide (zAg cl u=zAg cl s)&&!(zJ0 kind a&&decide (zAg cl a.2=zAg cl s))
inductive zhE(rows:List (List CA))(kind:Int)(s:Int):Int->Prop where
 | refl:zhE rows kind s s
 | step {u:Int} {a:CA}:zhE rows kind s u->a∈zFj rows u->zJ0 kind a=true->zhE rows kind s a.2
def Done(rows:List (List CA))(l:List Int)(i j:Nat)(u:Int)(a:CA):Prop:=(∃ i',i'<i/\l[i']?=some u/\a∈zFj rows u)\/(l[i]?=some u/\a∈(zFj rows u).take j)
section
variable {rows:List (List CA)} {l:List Int} {i j:Nat} {u U:Int} {a:CA}
def ziC{x:Int}(hi:i<l.length):Done rows (l++[x]) i j u a ↔ Done rows l i j u a:=by
 unfold Done;rw[xAb hi];refine or_congr (xDC λ i'=>and_congr_right λ h=>?_) Iff.rfl;rw[xAb (by omega)]
def zXv{R:List CA}{b:CA}(hi:l[i]?=some U)(hR:zFj rows U=R)(hb:R[j]?=some b):Done rows l i (j+1) u a ↔ Done rows l i j u a\/(u=U/\a=b):=by
 unfold Done;rw[hi];subst hR;constructor
 ·rintro (h|⟨h1,h2⟩)
  ·exact .inl (.inl h)
  ·cases h1;rw[List.take_succ,hb] at h2;simp only[xBc,xCU,xAE] at h2;exact h2.elim (λ h=>.inl (.inr ⟨rfl,h⟩)) λ h=>.inr ⟨rfl,h⟩
 ·rintro ((h|⟨h1,h2⟩)|⟨rfl,rfl⟩)
  ·exact .inl h
  ·cases h1;refine .inr ⟨rfl,?_⟩;rw[List.take_succ];exact xBK _ h2
  ·refine .inr ⟨rfl,?_⟩;rw[List.take_succ,hb];simp
def zNM{R:List CA}(hi:l[i]?=some U)(hR:zFj rows U=R):Done rows l (i+1) 0 u a ↔ Done rows l i R.length u a:=by
 unfold Done;subst hR;rw[List.take_zero];constructor
 ·rintro (⟨i',h1,h2,h3⟩|⟨_,h⟩)
  ·rcases xAi.1 h1 with h|h
   ·exact .inl ⟨i',h,h2,h3⟩
   ·subst h;rw[hi] at h2;cases h2;exact .inr ⟨hi,by rw[xCQ];exact h3⟩
  ·cases h
 ·rintro (⟨i',h1,h2,h3⟩|⟨h1,h2⟩)
  ·exact .inl ⟨i',by omega,h2,h3⟩
  ·rw[hi] at h1;cases h1;rw[xCQ] at h2;exact .inl ⟨i,by omega,hi,h2⟩
def zRf(h:l.length<=i):Done rows l i 0 u a ↔ u∈l/\a∈zFj rows u:=by
 unfold Done;rw[List.take_zero];constructor
 ·rintro (⟨i',h1,h2,h3⟩|⟨_,h⟩)
  ·exact⟨xBI h2,h3⟩
  ·cases h
 ·rintro⟨h1,h2⟩;obtain⟨i',cV⟩:=xBN h1;exact .inl ⟨i',xAC (xAc.1 cV).1 h,cV,h2⟩
end
structure Mt(m g:AH)(bm N:Nat)(v6:Value)(l:List Int):Prop where
 fx:Fx NoB m g
 nx:m.qa<=bm
 lt:bm<g.qa
 met:g.get bm=some (rO (zDu N l) 4)
 ls:LS (bm+1) g v6 l
 nd:l.Nodup
structure Ab(h0 m g:AH)(bm N:Nat)(v10 v11:Value)(rows:List (List CA))(cl:List Int)(kind s:Int)(l:List Int)(R:List CA)(i j:Nat):Prop where
 ms:Mt m g bm N v10 l
 out:zHu h0 g v11 R
 dj:∀ b,zY v11 b->bm+1<=b/\¬ zY v10 b
 rnd:R.Nodup
 cnt:R.length<=i*900+j
 mem:∀ c,c∈R ↔ ∃ u a,Done rows l i j u a/\zXu kind cl s u a=true/\c=(a.1,zAg cl a.2)
 clo:∀ u a,Done rows l i j u a->zJ0 kind a=true->a.2∈l
 rch:∀ u∈l,zhE rows kind s u
 hs:s∈l
 rg:∀ u∈l,0<=u/\u<(N:Int)
def LoA.row{h0 h:AH}{lo bs N u:Nat}{cells:List Value}{rows:List (List CA)}(G:LoA h0 lo h bs cells rows)(hN:cells.length=N)(hu:u<N) :
  ∃ c,zV E 155 (some (.slice (some ⟨bs,0,none⟩) N N)) (some (iI (u:Int)))=some (.pointer (some ⟨bs,u,none⟩))/\zb E 212 h (some (.pointer (some ⟨bs,u,none⟩)))=some c/\zvA h0 h c (zFj rows u):=by
 subst hN;have ac:cells[u]?=some cells[u]:=xAA hu;have hr:rows[u]?=some (zFj rows u):=by
  unfold zFj;rw[show ((u:Int)).toNat=u from rfl,xAA (by rw[← G.len];exact hu)];rfl
 have ia1:=znK (b:=bs) (o:=0) (c:=cells.length) (len:=cells.length) (k:=u) hu;rw[show 0+u*1=u by omega] at ia1;refine⟨cells[u],ia1,?_,G.cell u _ _ ac hr⟩;rw[zB (P:=E) zJv G.s,zAI,ac]
def ztZ{k:AH}{u:List Value}{a:CA}{h0:AH}(hu:RArc h0 u a):zAM E 214 (k.new (rO [iI 0,.slice none 0 0,iI 0] 214)) (some (ptr k.qa)) (some (.agg ⟨u⟩))=one (undef,(k.new (rO [iI 0,.slice none 0 0,iI 0] 214)).upd k.qa (some (rO u 214))):=by
 obtain⟨ulf,ul3⟩:=hu.leaf;have:=zi (P:=E) zrg (o:=0) (x:=.agg ⟨u⟩) (cs:=u) (zD k (rO [iI 0,.slice none 0 0,iI 0] 214)) rfl ul3 (by simp) ulf;rw[this];obtain⟨v,rfl,_⟩:=hu;rfl
def zwd{g t:Int}{a:Option Addr}{n c:Nat}:zAT E 217 (some [(0,.agg ⟨[iI g,.slice a n c]⟩),(1,iI t)])=some (.agg ⟨[iI g,.slice a n c,iI t]⟩):=by kernel_rfl
def zBP{cl:List Int}{u:Nat}(hu:u<cl.length):cl[u]?=some (zAg cl (u:Int)):=by
 unfold zAg;rw[show ((u:Int)).toNat=u from rfl,xAA hu];rfl
section
variable {h0 k:AH} {lo bs N s:Nat} {cells:List Value} {rows:List (List CA)} {cl:List Int} {kind:Int} {vc:Value} {K:KF}
def zr8{m:AH}{bm u i:Nat}(e0:Ext h0 m)(G:LoA h0 lo m bs cells rows)(hN:cells.length=N)(hN9:N<=900)(kf:∀ u:Int,(zFj rows u).length<=900)(ij:∀(u:Int) (a:CA),a∈zFj rows u->0<=a.2/\a.2<(N:Int))(hc:Arr m 1 vc (cl.map i1))(an:cl.length=N)(hs:s<N)(hu:u<N)(hi9:i<=900)
  (hK:∀ g v10 v11 l R,Ab h0 m g bm N v10 v11 rows cl kind s l R (i+1) 0->i<l.length->PI (zFx true) K 17 [iI kind,.slice (some ⟨bs,0,none⟩) N N,vc,iI (s:Int),.slice (some ⟨bm,0,none⟩) N N,v10,v11,iI (i:Int)] g) :
  ∀(d j:Nat),j+d=(zFj rows u).length->∀ g v10 v11 l R,Ab h0 m g bm N v10 v11 rows cl kind s l R i j->l[i]?=some (u:Int)->
   PI (zFx true) K 8 [iI kind,.slice (some ⟨bs,0,none⟩) N N,vc,iI (s:Int),.slice (some ⟨bm,0,none⟩) N N,v10,v11,iI (i:Int),iI (j:Int)] g:=by
 intro d
 induction d with
 | zero=>
  intro j hj g v10 v11 l R H hi;obtain⟨c,q1,q2,q3⟩:=(G.nb H.ms.fx).row hN hu;obtain⟨p2,r1,r2⟩:=zCc H.ms.ls.arr (Ext.refl H.ms.fx.ok) hi;obtain⟨ad,cp,hv⟩:=q3.slice;refine zOc ?_;rw[r1,zA,r2,zA,q1,zA,q2,zA,show zh E (zAc [(37,c)]) (zA4 zGk [1,1,1,1,1,0,1,0,0,1,0,0,1,0,0,0,0] 8) g=some (iI ((zFj rows u).length:Int)) by rw[hv];exact @zKR _ _ _ _,zA,zP,zA,xAI (by omega),zZ];have kl:j=(zFj rows u).length:=by omega
  refine hK g v10 v11 l R ⟨H.ms,H.out,H.dj,H.rnd,?_,λ c=>?_,λ u' a hd=>H.clo u' a ?_,H.rch,H.hs,H.rg⟩ (xAc.1 hi).1
  ·have:=H.cnt;have:=kf u;omega
  ·rw[H.mem c];refine xDC λ u'=>xDC λ a=>and_congr_left' ?_;rw[zNM hi rfl,kl]
  ·rw[kl];exact (zNM hi rfl).1 hd
 | succ d ih=>
  intro j hj g v10 v11 l R H hi;have aJ:j<(zFj rows u).length:=by omega
  obtain⟨y,gf⟩:∃ y,(zFj rows u)[j]?=some y:=⟨_,xAA aJ⟩;have hym:=xBI gf;obtain⟨hy3,hy4⟩:=ij u y hym;obtain⟨ty,cY⟩:=xAp hy3;have cX:ty<N:=by omega
  obtain⟨c,q1,q2,q3⟩:=(G.nb H.ms.fx).row hN hu;obtain⟨p2,r1,r2⟩:=zCc H.ms.ls.arr (Ext.refl H.ms.fx.ok) hi;obtain⟨ad,cp,hv⟩:=q3.slice;obtain⟨S,hA,mt⟩:=q3.arr;refine zOc ?_;rw[r1,zA,r2,zA,q1,zA,q2,zA,show zh E (zAc [(37,c)]) (zA4 zGk [1,1,1,1,1,0,1,0,0,1,0,0,1,0,0,0,0] 8) g=some (iI ((zFj rows u).length:Int)) by rw[hv];exact @zKR _ _ _ _,zA,zP,zA,xAJ (by omega),ze];refine zfC ?_;obtain⟨b,o,w,hw,w0,_,_,w3⟩:=el3 zsj zmq hA mt (Ext.refl H.ms.fx.ok) gf;rw[r1,zA,r2,zA,q1,zA,q2,zA,w0,zA,w3,zA];have dF:RArc h0 [iI y.1.1,w,iI y.2] y:=⟨w,rfl,hw⟩;obtain⟨wa,wc,kz⟩:=hw.slice;simp only[zv0,zU,zF,zK];obtain⟨g2,e2,n2,t2,⟨f2g,_⟩,o2⟩:=zWq (Fx.refl (P:=NoB) H.ms.fx.ok) (xAF _) (rO [iI 0,.slice none 0 0,iI 0] 214) (rO [iI y.1.1,w,iI y.2] 214);have f2:Fx NoB m g2:=H.ms.fx.trans f2g λ _ h=>h.elim;have eV:=ztZ (k:=g) dF;rw[e2] at eV;rw[show (Value.pointer (some ⟨g.qa,0,none⟩))=ptr g.qa from rfl,eV,zF];refine zUu ?_;have l36:=zN (P:=E) zC7 (o:=0+0) t2 (by simp);have l3:=zB (P:=E) zAE (o:=0+2) t2;simp only[lnth,xAK,xCu,xCe,List.take] at l36 l3;have e02:=e0.trans f2.ext0;have c158:=zLz (g:=y.1.1) hw e02;have ed:g2.get bm=some (rO (zDu N l) 4):=(o2 _ H.ms.lt).trans H.ms.met;have lm:zb E 4 g2 (some (.pointer (some ⟨bm,ty,none⟩)))=some (.bool (decide (y.2∈l))):=by
   rw[zB (P:=E) zrm ed,zAI,zQ9 cX,cY]
  have ls2:LS (bm+1) g2 v10 l:=H.ms.ls.mono (by omega) λ b _ hb _=>o2 b hb;have ax:=(xAc.1 hi).1;have hlen:l.length<=N:=zAB N l H.ms.nd λ x hx=>by have:=H.rg x hx;omega
  have out2:zHu h0 g2 v11 R:=H.out.fx f2g (λ _ _ h=>h);have dO:=H.ms.nx;have ab:=H.ms.lt;have jk:s<cl.length:=by omega
  have fQ:ty<cl.length:=by omega
  have huc:u<cl.length:=by omega
  have next:∀ g3 v3 l3,Mt m g3 bm N v3 l3->zHu h0 g3 v11 R->(∀ b,zY v11 b->bm+1<=b/\¬ zY v3 b)->g3.get g.qa=some (rO [iI y.1.1,w,iI y.2] 214)->((l3=l/\(zJ0 kind y=true->y.2∈l))\/(l3=l++[y.2]/\zJ0 kind y=true))->
    PI (zFx true) K 13 [iI kind,.slice (some ⟨bs,0,none⟩) N N,vc,iI (s:Int),.slice (some ⟨bm,0,none⟩) N N,v3,v11,iI (i:Int),iI (j:Int),ptr g.qa] g3:=by
   intro g3 v3 l3 H3 out3 dj3 t3 hl3;have e03:=e0.trans H3.fx.ext0;have m36:=zN (P:=E) zC7 (o:=0+0) t3 (by simp);have m3:=zB (P:=E) zAE (o:=0+2) t3;simp only[lnth,xAK,xCu,xCe,List.take] at m36 m3;rw[cY] at m3;have d158:=zLz (g:=y.1.1) hw e03;obtain⟨pt,a1,a2⟩:=zCc hc H3.fx.ext0 (zBP fQ);obtain⟨ps,a3,a4⟩:=zCc hc H3.fx.ext0 (zBP jk);obtain⟨pu,a5,a6⟩:=zCc hc H3.fx.ext0 (zBP huc);have hi3:l3[i]?=some (u:Int):=by
    rcases hl3 with ⟨rfl,_⟩|⟨rfl,_⟩
    ·exact hi
    ·rw[xAb ax];exact hi
   obtain⟨pl,a7,a8⟩:=zCc H3.ls.arr (Ext.refl H3.fx.ok) hi3;have aq:∀ x∈l,x∈l3:=λ x hx=>by
    rcases hl3 with ⟨rfl,_⟩|⟨rfl,_⟩
    ·exact hx
    ·exact xBK _ hx
   have dJ:∀ u' a',Done rows l3 i (j+1) u' a' ↔ Done rows l i j u' a'\/(u'=(u:Int)/\a'=y):=λ u' a'=>by
    rw[zXv hi3 rfl gf];rcases hl3 with ⟨rfl,_⟩|⟨rfl,_⟩
    ·exact Iff.rfl
    ·rw[ziC ax]
   have aO:∀ c,(∃ u' a',Done rows l3 i (j+1) u' a'/\zXu kind cl s u' a'=true/\c=(a'.1,zAg cl a'.2)) ↔ c∈R\/(zXu kind cl s u y=true/\c=(y.1,zAg cl y.2)):=λ c=>by
    rw[H.mem c];constructor
    ·rintro⟨u',a',h1,h2,h3⟩;rcases (dJ u' a').1 h1 with h|⟨rfl,rfl⟩
     ·exact .inl ⟨u',a',h,h2,h3⟩
     ·exact .inr ⟨h2,h3⟩
    ·rintro (⟨u',a',h1,h2,h3⟩|⟨h2,h3⟩)
     ·exact⟨u',a',(dJ u' a').2 (.inl h1),h2,h3⟩
     ·exact⟨u,y,(dJ u y).2 (.inr ⟨rfl,rfl⟩),h2,h3⟩
   have hclo:∀ u' a',Done rows l3 i (j+1) u' a'->zJ0 kind a'=true->a'.2∈l3:=λ u' a' h1 h2=>by
    rcases (dJ u' a').1 h1 with h|⟨rfl,rfl⟩
    ·exact aq _ (H.clo u' a' h h2)
    ·rcases hl3 with ⟨rfl,h⟩|⟨rfl,_⟩
     ·exact h h2
     ·simp
   have hrch:∀ x∈l3,zhE rows kind s x:=λ x hx=>by
    rcases hl3 with ⟨rfl,_⟩|⟨rfl,h⟩
    ·exact H.rch x hx
    ·rcases xCU.1 hx with hx|hx
     ·exact H.rch x hx
     ·rw[xBV.1 hx];exact .step (H.rch u (xBI hi)) hym h
   have hrg3:∀ x∈l3,0<=x/\x<(N:Int):=λ x hx=>by
    rcases hl3 with ⟨rfl,_⟩|⟨rfl,h⟩
    ·exact H.rg x hx
    ·rcases xCU.1 hx with hx|hx
     ·exact H.rg x hx
     ·rw[xBV.1 hx];exact ij u y hym
   have go16:∀ g4 v4 R',Mt m g4 bm N v3 l3->zHu h0 g4 v4 R'->(∀ b,zY v4 b->bm+1<=b/\¬ zY v3 b)->R'.Nodup->R'.length<=R.length+1->(∀ c,c∈R' ↔ c∈R\/(zXu kind cl s u y=true/\c=(y.1,zAg cl y.2)))->
     PI (zFx true) K 16 [iI kind,.slice (some ⟨bs,0,none⟩) N N,vc,iI (s:Int),.slice (some ⟨bm,0,none⟩) N N,v3,v4,iI (i:Int),iI (j:Int)] g4:=λ g4 v4 R' H4 o4 d4 n4 l4 m4=>by
    refine zUo ?_;have:=kf u;rw[zk _ (zCS aJ (by omega)),zA];exact ih (j+1) (by omega) g4 v3 v4 l3 R' ⟨H4,o4,d4,n4,by have:=H.cnt;omega,λ c=>by rw[aO c];exact m4 c,hclo,hrch,aq _ H.hs,hrg3⟩ hi3
   have go14:PI (zFx true) K 14 [iI kind,.slice (some ⟨bs,0,none⟩) N N,vc,iI (s:Int),.slice (some ⟨bm,0,none⟩) N N,v3,v11,iI (i:Int),iI (j:Int),ptr g.qa,.bool (zJ0 kind y&&decide (zAg cl y.2=zAg cl s))] g3:=by
    refine zUq ?_;have fin:∀ b:Bool,b=zXu kind cl s u y->BrK (some (.bool b)) (PI (zFx true) K 15 [iI kind,.slice (some ⟨bs,0,none⟩) N N,vc,iI (s:Int),.slice (some ⟨bm,0,none⟩) N N,v3,v11,iI (i:Int),iI (j:Int),ptr g.qa] g3) (PI (zFx true) K 16 [iI kind,.slice (some ⟨bs,0,none⟩) N N,vc,iI (s:Int),.slice (some ⟨bm,0,none⟩) N N,v3,v11,iI (i:Int),iI (j:Int)] g3):=λ b hb=>by
     cases b with
     | false=>
      rw[zZ];exact go16 g3 v11 R H3 out3 dj3 H.rnd (by omega) λ c=>by rw[← hb];simp
     | true=>
      rw[ze];refine zUp ?_;have fT:zAT E 217 (some [(0,.agg ⟨[iI y.1.1,w]⟩),(1,iI (zAg cl (ty:Int)))])=some (.agg ⟨[iI y.1.1,w,iI (zAg cl (ty:Int))]⟩):=by rw[kz];exact zwd
      simp only[zGV,zEM,xAK,xCu,zA,m36,m3,a1,a2,fT,zM];have hR9:R.length+1<=1000000:=by
       have:=H.cnt;have:i*900<=900*900:=xBH _ hi9;have:=kf u;omega
      refine (zYE (a:=(y.1,zAg cl (ty:Int))) H3.fx.ok e03 out3 ⟨w,rfl,hw⟩ hR9).mono ?_;rintro⟨v4,g4⟩ hA4;rw[cY] at *;rcases hA4 with ⟨hm,r1,r2,r3⟩|⟨hm,r1,r2,r3⟩
      ·simp only at r1 r2 r3 ⊢;subst r2;exact go16 g4 v4 R ⟨H3.fx.trans r3 λ _ h=>h.elim,H3.nx,xAC H3.lt r3.qa,(r3.get _ H3.lt id).trans H3.met,H3.ls.mono r3.qa λ b _ hb _=>r3.get b hb id,H3.nd⟩ r1 dj3 H.rnd (by omega) λ c=>⟨.inl,λ h=>h.elim id λ h=>by rw[h.2];exact hm⟩
      ·simp only at r1 r2 r3 ⊢;have hd:∀ b,zY v11 b->m.qa<=b:=λ b hb=>by have:=(dj3 b hb).1;omega
       refine go16 g4 v4 _ ⟨H3.fx.trans r2 λ c hc=>.inr (hd c hc),H3.nx,xAC H3.lt r2.qa,(r2.get _ H3.lt λ hb=>by have:=(dj3 _ hb).1;omega).trans H3.met,H3.ls.mono r2.qa λ b _ hb c8=>r2.get b hb λ h=>(dj3 b h).2 c8,H3.nd⟩ r1 (λ b hb=>⟨by have:=r3 b hb;have:=H3.lt;omega,λ hb3=>by have:=r3 b hb;have:=(H3.ls.blk hb3).2;omega⟩) ?_ (by simp) λ c=>?_
       ·rw[xBr];exact⟨H.rnd,by simp,λ a ha b hb=>by rw[xBV.1 hb];exact λ e=>hm (e ▸ ha)⟩
       ·rw[xCU,xAE];exact or_congr Iff.rfl ⟨λ h=>⟨hb.symm,h⟩,λ h=>h.2⟩
    rw[a7,zA,a8,zA,a5,zA,a6,zA,a3,zA,a4,zA,zAD,zA];by_cases hcu:zAg cl (u:Int)=zAg cl (s:Int)
    ·simp only[hcu,xDG,zI,xAO,xAG,zA,zq,zE];exact fin _ (by unfold zXu;rw[xAJ hcu];simp)
    ·simp only[hcu,xCz,zI,show (false==true)=false from rfl,xAH,zA,zE];exact fin _ (by unfold zXu;rw[xAI hcu];simp)
   refine zUr ?_;cases cT:zJ0 kind y with
   | true=>
    unfold zJ0 at cT;rw[xAP] at cT;have hk:=xBm cT.1;rw[cT.2] at d158;have go14':=go14;unfold zJ0 at go14';rw[cT.1,cT.2,cY] at go14';simp only[xCk] at go14';rw[zAD,cT.1];simp only[zI,zS,xAO,xAG,zGV,zEM,xAK,xCu,zA,m36,zM,d158,zJ,zE,m3,a1,a2,a3,a4,zAD];exact go14'
   | false=>
    rw[cT,xCf] at go14;unfold zJ0 at cT;by_cases hk:kind=2
    ·rw[xAJ hk,xCk] at cT;rw[cT] at d158;rw[zAD,xAJ hk];simp only[zI,zS,xAO,xAG,zGV,zEM,xAK,xCu,zA,m36,zM,d158,zJ,zE,show (false==true)=false from rfl,xAH];exact go14
    ·rw[zAD,xAI hk];simp only[zI,zS,show (false==true)=false from rfl,xAH,zA,zF,zE];exact go14
  cases cT:zJ0 kind y with
  | true=>
   have hsl0:=cT;unfold zJ0 at cT;rw[xAP] at cT;rw[cT.2] at c158;rw[zAD,cT.1];simp only[zI,zS,xAO,xAG,zGV,zEM,xAK,xCu,zA,l36,zM,c158,zJ,zE,l3,cY,zPq cX,lm,zq];rw[cY] at lm;by_cases hm:y.2∈l
   ·rw[← cY,xAJ hm,xAL,zZ];exact next g2 v10 l ⟨f2,dO,by omega,ed,ls2,H.ms.nd⟩ out2 H.dj t2 (.inl ⟨rfl,λ _=>hm⟩)
   ·rw[← cY,xAI hm,xAM,ze];refine zUt ?_;have af:=zi (P:=E) zrH (o:=ty) (h:=g2) (x:=.bool true) (cs:=[.bool true]) ed rfl rfl (by simp[zDu];exact cX) rfl;rw[zH3 cX] at af;rw[cY] at l3;simp only[zEM,xAK,zA,l3,zPq cX,af,zF];have fu:Fx (λ c=>c=bm) g2 (g2.upd bm (some (.row (zDu N (l++[(ty:Int)])) 4 0 false))):=Fx.upd (P:=λ c=>c=bm) (Fx.refl f2.ok) (.inl rfl) _;have jv:(g2.upd bm (some (.row (zDu N (l++[(ty:Int)])) 4 0 false))).get bm=some (.row (zDu N (l++[(ty:Int)])) 4 0 false):=zH _ _ _;have hn3:(g2.upd bm (some (.row (zDu N (l++[(ty:Int)])) 4 0 false))).qa=g2.qa:=rfl;have dz:∀ c,c≠bm->(g2.upd bm (some (.row (zDu N (l++[(ty:Int)])) 4 0 false))).get c=g2.get c:=λ c hc=>zL hc;generalize (g2.upd bm (some (.row (zDu N (l++[(ty:Int)])) 4 0 false)))=g3 at fu jv hn3 dz;have ls3:LS (bm+1) g3 v10 l:=ls2.mono (by omega) λ b hb _ _=>dz b (by omega);have t3:=(dz g.qa (by omega)).trans t2;have c2':=zB (P:=E) zAE (o:=0+2) t3;simp only[lnth,xAK,cY] at c2';refine zUs ?_;obtain⟨m4,b1,b2,b3,b4,b5⟩:=IS.app2 (.inr ls3) (by omega) (by omega) (ty:Int);simp only[zEM,xAK,c2',zA,zhD,zF,b1];have b4:=b4 fu.ok;have ba:∀ c,zY v10 c->bm+1<=c/\c<g3.qa:=λ c hc=>ls3.blk hc;have f3:Fx NoB m g3:=f2.trans fu λ c hc=>.inr (by have:c=bm:=hc;omega);have out3:zHu h0 g3 v11 R:=out2.fx fu λ b hb hc=>by have:b=bm:=hc;have:=(H.dj b hb).1;omega
    refine next m4 _ (l++[(ty:Int)]) ⟨f3.trans b4 λ c hc=>.inr (by have:=(ba c hc).1;omega),dO,by omega,(b4.get bm (by omega) λ hc=>by have:=(ba _ hc).1;omega).trans jv,b2,?_⟩ (out3.fx b4 λ b hb aN=>(H.dj b hb).2 aN) (λ b hb=>⟨(H.dj b hb).1,?_⟩) ((b4.get _ (by omega) λ hc=>by have:=(H.ms.ls.blk hc).2;omega).trans t3) (.inr ⟨by rw[cY],hsl0⟩)
    ·rw[xBr];exact⟨H.ms.nd,by simp,λ a ha b hb=>by rw[xBV.1 hb,← cY];exact λ e=>hm (e ▸ ha)⟩
    ·rintro⟨n,cp,e⟩;simp only[xBu,xAN,xCo] at e;have:=out3.lt hb;have:=e.1.1;omega
  | false=>
   have hx:zJ0 kind y=true->y.2∈l:=λ h=>by rw[cT] at h;cases h
   unfold zJ0 at cT;have go:=next g2 v10 l ⟨f2,dO,by omega,ed,ls2,H.ms.nd⟩ out2 H.dj t2 (.inl ⟨rfl,hx⟩);by_cases hk:kind=2
   ·rw[xAJ hk,xCk] at cT;rw[cT] at c158;rw[zAD,xAJ hk];simp only[zI,zS,xAO,xAG,zGV,zEM,xAK,xCu,zA,l36,zM,c158,zJ,zE,show (false==true)=false from rfl,xAH,zZ];exact go
   ·rw[zAD,xAI hk];simp only[zI,zS,show (false==true)=false from rfl,xAH,zA,zF,zE,zZ];exact go
def zF0(rows:List (List CA))(kind:Int)(cl:List Int)(s:Int)(c:CA):Prop:=∃ u a,zhE rows kind s u/\a∈zFj rows u/\zXu kind cl s u a=true/\c=(a.1,zAg cl a.2)
def Ab.fin{m g:AH}{bm i:Nat}{v10 v11:Value}{l:List Int}{R:List CA}{s':Int}(H:Ab h0 m g bm N v10 v11 rows cl kind s' l R i 0)(hi:l.length<=i):∀ c,c∈R ↔ zF0 rows kind cl s' c:=by
 have hl:∀ u,u∈l ↔ zhE rows kind s' u:=λ u=>⟨H.rch u,λ h=>by
  induction h with
  | refl=>exact H.hs
  | step _ h2 h3 ih=>exact H.clo _ _ ((zRf hi).2 ⟨ih,h2⟩) h3⟩
 intro c;rw[H.mem c];refine xDC λ u=>xDC λ a=>?_;rw[zRf hi,hl u,and_assoc]
def zu3(h0 k:AH)(rows:List (List CA))(kind:Int)(cl:List Int)(s:Int)(v:Value)(m:AH)(f:AH):Prop:=∃ R,zHu h0 m v R/\R.Nodup/\R.length<=900000/\(∀ c,c∈R ↔ zF0 rows kind cl s c)/\(∀ b,zY v b->k.qa<=b)/\Fx NoB f m
def zYL(aa:k.ok)(ek:Ext h0 k)(G:LoA h0 lo k bs cells rows)(hN:cells.length=N)(hN9:N<=900)(kf:∀ u:Int,(zFj rows u).length<=900)(ij:∀(u:Int) (a:CA),a∈zFj rows u->0<=a.2/\a.2<(N:Int))(hc:Arr k 1 vc (cl.map i1))(an:cl.length=N)(hs:s<N) :
  Ev true ((zc E).call 104 [iI kind,.slice (some ⟨bs,0,none⟩) N N,vc,iI (s:Int)] k) λ y=>zu3 h0 k rows kind cl s y.1 y.2 k:=by
 have main:PI (zFx true) (KR E [.tmp 8] λ v m=>zu3 h0 k rows kind cl s v m k.qb) 0 [iI kind,.slice (some ⟨bs,0,none⟩) N N,vc,iI (s:Int)] k.qb:=by
  have f0:Fx NoB k k.qb:=Fx.toFresh aa;have G0:=G.nb f0;have e0:=ek.trans f0.ext0;have eB:=hc.ext f0.ext0;have cJ:k.qb.qa=k.qa:=rfl;have mok:k.qb.ok:=zAR k;generalize k.qb=m at G0 e0 eB cJ mok;refine zfJ (zfI ?_);rw[zTh,zA,zsU (by omega),zF];obtain⟨m1,e1,n1,t1,⟨f1,w1⟩,o1⟩:=nwG (Fx.refl mok) (xAF _) (.row (List.replicate N (.bool false)) 4 0 false);rw[e1];refine zfH ?_;rw[zQ8] at t1;have af:=zi (P:=E) zrH (o:=s) (h:=m1) (x:=.bool true) (cs:=[.bool true]) t1 rfl rfl (by simp[zDu];exact hs) rfl;rw[zH3 hs] at af;rw[zPq hs,zA,af,zF];have f2:Fx NoB m (m1.upd m.qa (some (.row (zDu N ([]++[(s:Int)])) 4 0 false))):=f1.upd (.inr (xAF _)) _;have t2:(m1.upd m.qa (some (.row (zDu N ([]++[(s:Int)])) 4 0 false))).get m.qa=some (.row (zDu N ([]++[(s:Int)])) 4 0 false):=zH _ _ _;have n2:(m1.upd m.qa (some (.row (zDu N ([]++[(s:Int)])) 4 0 false))).qa=m1.qa:=rfl;generalize (m1.upd m.qa (some (.row (zDu N ([]++[(s:Int)])) 4 0 false)))=m2 at f2 t2 n2;refine zfG ?_;obtain⟨m3,e3,n3,t3,⟨f3,w3⟩,o3⟩:=nwG f2 (xAF _) (rO [iI (s:Int)] 3);rw[zhD,zF,e3];refine zfF (zfE ?_);have nod:∀ u a,¬ Done rows [(s:Int)] 0 0 u a:=by
   rintro u a (⟨i',h,_⟩|⟨_,h⟩)
   ·omega
   ·simp at h
  have H0:Ab h0 m m3 m.qa N (.slice (some ⟨m2.qa,0,none⟩) 1 1) (.slice none 0 0) rows cl kind s [(s:Int)] [] 0 0:=
   ⟨⟨f3,xAF _,by omega,(o3 _ (by omega)).trans t2,⟨m2.qa,1,rfl,by omega,by omega,.inl ⟨rfl,rfl,t3⟩⟩,by simp⟩,.inl ⟨rfl,rfl⟩,(by rintro b ⟨n,cp,e⟩;cases e),by simp,by simp,λ c=>⟨λ h=>(by cases h),λ ⟨u,a,h,_⟩=>absurd h (nod u a)⟩,λ u a h=>absurd h (nod u a),λ u hu=>by rw[xBV.1 hu];exact .refl,by simp,λ u hu=>by rw[xBV.1 hu];omega⟩
  have fin:∀ g v10 v11 l R i,Ab h0 m g m.qa N v10 v11 rows cl kind s l R i 0->l.length<=i->i<=900->PI (zFx true) (KR E [.tmp 8] λ v g=>zu3 h0 k rows kind cl s v g m) 18 [v11] g:=λ g v10 v11 l R i H hi h9=>by
   refine zUm ?_;rw[zAC];have:=H.cnt;have:i*900<=900*900:=xBH _ h9;exact⟨zO ▸ trivial,R,H.out,H.rnd,by omega,H.fin hi,λ b hb=>by have:=(H.dj b hb).1;omega,H.ms.fx⟩
  have loop:∀(d i:Nat),i+d=N->∀ g v10 v11 l R,Ab h0 m g m.qa N v10 v11 rows cl kind s l R i 0->
    PI (zFx true) (KR E [.tmp 8] λ v g=>zu3 h0 k rows kind cl s v g m) 6 [iI kind,.slice (some ⟨bs,0,none⟩) N N,vc,iI (s:Int),.slice (some ⟨m.qa,0,none⟩) N N,v10,v11,iI (i:Int)] g:=by
   intro d
   induction d with
   | zero=>
    intro i hi g v10 v11 l R H;have hlen:l.length<=N:=zAB N l H.ms.nd λ x hx=>by have:=H.rg x hx;omega
    obtain⟨ad,cp,hv⟩:=(IS.slice (lo:=m.qa+1) (.inr H.ms.ls));refine zOd ?_;rw[show zh E (zAc [(25,v10)]) (zA4 zGk [1,1,1,1,1,0,1,0,0,0,0] 2) g=some (iI (l.length:Int)) by rw[hv];exact @zKS _ _ _ _,zA,zP,zA,xAI (by omega),zZ];exact fin g v10 v11 l R i H (by omega) (by omega)
   | succ d ih=>
    intro i hi g v10 v11 l R H;have hlen:l.length<=N:=zAB N l H.ms.nd λ x hx=>by have:=H.rg x hx;omega
    obtain⟨ad,cp,hv⟩:=(IS.slice (lo:=m.qa+1) (.inr H.ms.ls));refine zOd ?_;rw[show zh E (zAc [(25,v10)]) (zA4 zGk [1,1,1,1,1,0,1,0,0,0,0] 2) g=some (iI (l.length:Int)) by rw[hv];exact @zKS _ _ _ _,zA,zP,zA];by_cases ax:i<l.length
    ·rw[xAJ (by omega),ze];refine zfD ?_;obtain⟨ui,hu⟩:∃ u,l[i]?=some u:=⟨_,xAA ax⟩;have de:=H.rg ui (xBI hu);obtain⟨u,rfl⟩:=xAp de.1;refine zr8 e0 G0 hN hN9 kf ij eB an hs (u:=u) (by omega) (by omega) (λ g' v10' v11' l' R' H' cV=>?_) (zFj rows u).length 0 (by omega) g v10 v11 l R H hu;refine zUn ?_;rw[zk _ ⟨by omega,by omega⟩,zA];exact ih (i+1) (by omega) g' v10' v11' l' R' H'
    ·rw[xAI (by omega),zZ];exact fin g v10 v11 l R i H (by omega) (by omega)
  exact loop N 0 (by omega) m3 _ _ _ _ H0
 refine (zCP (Q:=λ v m=>zu3 h0 k rows kind cl s v m k.qb) aa zma zgn (zmZ _ _) (by kernel_rfl) (zq7 main)).mono ?_;rintro⟨y,m⟩ ⟨k',⟨R,h1,h2,h3,h4,h5,h6⟩,⟨_,cM,hx⟩|hx⟩
 ·simp only at hx cM ⊢;subst hx;refine⟨R,?_,h2,h3,h4,h5,Fx.refl aa⟩;rcases h1 with e|⟨b,S,e,_⟩
  ·exact .inl e
  ·simp only at e;rw[e] at cM;cases cM
 ·simp only at hx ⊢;subst hx;refine⟨R,?_,h2,h3,h4,h5,h6.back⟩;rcases h1 with e|⟨b,S,e,hg,hl,hr⟩
  ·exact .inl e
  ·exact .inr ⟨b,S,e,hg,hl,hr⟩
end
end Go.Proofs
namespace Go.Proofs
open Go Go.AM Go.Sort
def CanL(SS:List za)(cl:List Int)(kind:Int)(s:Nat)(F:za):Prop:=zBM F/\∀ p,p∈F ↔ zgt (wst SS) (zAg cl) kind (s:Int) p.1 p.2
def zGq:∀ {F G:za},zBM F->zBM G->(∀ p,p∈F ↔ p∈G)->F=G
 | [],[],_,_,_=>rfl
 | [],b::G,_,_,h=>absurd ((h b).2 (by simp)) (by simp)
 | a::F,[],_,_,h=>absurd ((h a).1 (by simp)) (by simp)
 | a::F,b::G,hF,hG,h=>by
  obtain⟨f1,f2⟩:=xBf.1 hF;obtain⟨g1,g2⟩:=xBf.1 hG;have e:a=b:=by
   rcases xCg.1 ((h a).1 (by simp)) with e|h1
   ·exact e
   ·rcases xCg.1 ((h b).2 (by simp)) with e|h2
    ·exact e.symm
    ·have x:=(zAp _ _).1 (g1 a h1);have y:=(zAp _ _).1 (f1 b h2);omega
  subst e;have irr:∀ {l:za},(∀ x∈l,zDH a x<0)->a ∉ l:=λ h hm=>by have:=(zAp _ _).1 (h a hm);omega
  have:=zGq f2 g2 λ p=>by
   have:=h p;simp only[xAQ] at this;constructor
   ·intro hp;rcases this.1 (.inr hp) with e|e
    ·exact absurd (e ▸ hp) (irr f1)
    ·exact e
   ·intro hp;rcases this.2 (.inr hp) with e|e
    ·exact absurd (e ▸ hp) (irr g1)
    ·exact e
  rw[this]
def CanL.uniq{SS:List za}{cl:List Int}{kind:Int}{s s':Nat}{F G:za}(a:CanL SS cl kind s F)(b:CanL SS cl kind s' G):F=G ↔ ∀ n k,zgt (wst SS) (zAg cl) kind s n k ↔ zgt (wst SS) (zAg cl) kind s' n k:=by
 constructor
 ·rintro rfl n k;exact ((a.2 (n,k)).symm.trans (b.2 (n,k)))
 ·intro h;exact zGq a.1 b.1 λ p=>(a.2 p).trans ((h p.1 p.2).trans (b.2 p).symm)
def mem_canL{S:za}{cl:List Int}{p:Int×Int}:p∈zJE S cl ↔ ∃ v,(p.1,v)∈S/\zAg cl v=p.2:=by
 obtain⟨n,k⟩:=p;unfold zJE;rw[xCv];constructor
 ·rintro⟨⟨a,b⟩,h,e⟩;simp only[xCl] at e;exact⟨b,e.1 ▸ h,e.2⟩
 ·rintro⟨v,h,e⟩;exact⟨(n,v),h,by simp[show zAg cl v=k from e]⟩
abbrev zvU(kind:Int):Value:=.func (.func (if kind=1 then 129 else 131)) #[] #[]
structure zxU(SS:List za)(cl:List Int):Prop where
 ss:zQX SS
 cl:cl.length=SS.length
 n:SS.length<=900
 s9:∀(i:Nat) (S:za),SS[i]?=some S->S.length<=900
def zpl{k:AH}{bg s:Nat}{SS:List za}{v:Value}{cl:List Int}{kind:Int}(aa:k.ok)(hg:GW k bg SS)(hW:zxU SS cl)(hc:Arr k 1 v (cl.map i1))(hs:s<SS.length) :
  Ev true (zAs (zc E) (some (zvU kind)) (some [ptr bg,v,iI (s:Int)]) k) λ x=>∃ F,CanL SS cl kind s F/\F.length<=900000/\Sl k.qa x.2 x.1 F/\Fx NoB k x.2:=by
 have hS:SS[s]?=some SS[s]:=xAA hs;have vld:zvV SS:=λ i S h=>(hW.ss.stp i S h).2;rw[zM];by_cases h1:kind=1
 ·rw[xDO h1];refine (zYJ aa hg hS hc (λ y hy=>by rw[hW.cl];exact vld s _ hS y hy) (by have:=hW.s9 s _ hS;omega)).mono ?_;rintro⟨x,m⟩ ⟨F,s1,s2,s3,s4,s5⟩;refine⟨F,⟨s1,λ p=>(s2 p).trans (mem_canL.trans ?_)⟩,by have:=hW.s9 s _ hS;omega,s4,s5⟩;unfold zgt;rw[xDO h1];constructor
  ·rintro⟨v,a,b⟩;exact⟨v,⟨by omega,_,hS,a⟩,b⟩
  ·rintro⟨v,⟨_,S,a,b⟩,c⟩;rw[show ((s:Int)).toNat=s from rfl,hS] at a;cases a;exact⟨v,b,c⟩
 ·rw[xDN h1];refine (zqJ aa hg hW.ss hc hs hW.cl hW.n hW.s9).mono ?_;rintro⟨x,m⟩ ⟨F,s1,s2,s3,s4,s5⟩;refine⟨F,⟨s1,λ p=>(s2 p).trans ?_⟩,s3,s4,s5⟩;unfold zgt;rw[xDN h1];obtain⟨n,k⟩:=p;constructor
  ·rintro⟨⟨u,a1,a2,S,a3,a4⟩,a5⟩;obtain⟨v,a6,a7⟩:=mem_canL.1 a4;have hu:=(zRA vld (by omega)).1 a1;refine⟨u,v,hu,a2,⟨?_,S,a3,a6⟩,a7,λ e=>a5 (Prod.ext e.1 e.2)⟩;have:∀ u,zYw (wst SS) s u->0<=u:=λ u hu=>by
    cases hu with
    | refl=>omega
    | step h e=>obtain⟨_,S',h3,h4⟩:=e;exact (vld _ S' h3 _ h4).1
   exact this u hu
  ·rintro⟨w,v,a1,a2,⟨_,S,a3,a4⟩,a5,a6⟩;exact⟨⟨w,(zRA vld (by omega)).2 a1,a2,S,a3,mem_canL.2 ⟨v,a4,a5⟩⟩,λ e=>a6 (by simpa using e)⟩
def zow:zMs E 135=some (3,132):=by kernel_rfl
def zo0{h:AH}{m ver:Nat}{M:List (Int×Value)}(hm:h.get m=some (.map (zNK M) ver))(hM:(zBQ M).Nodup)(q:Int) :
  zAy E 135 true (some (.map (some m))) (some (iI q)) h=some (.tuple #[(lkV q M).getD (.slice none 0 0),.bool (lkV q M).isSome]):=by
 simp only[zAy,zFm,zow,zEA,hm,zHX,xAG,zPt hM];cases lkV q M with
 | none=>simp[zEt,zn9,okV]
 | some v=>simp[zEt,okV]
def znC{q:Int}:∀ {M:List (Int×Value)},q∈zBQ M->lkV q M≠none
 | [],h=>by cases h
 | p::M,h=>by
  simp only[lkV];split
  ·simp
  ·rename_i e;have h:q=p.1\/q∈zBQ M:=by simpa[zBQ] using h
   exact znC (h.resolve_left e)
def zrZ{h:AH}{m ver:Nat}{M:List (Int×Value)}(hm:h.get m=some (.map (zNK M) ver))(hM:(zBQ M).Nodup)(q:Int)(v:Value) :
  ∃ M',zu E 135 (some (.map (some m))) (some (iI q)) (some v) h=one (undef,h.upd m (some (.map (zNK M') (ver+1))))/\(zBQ M').Nodup/\∀ x,lkV x M'=if x=q then some v else lkV x M:=by
 have cM:zm (iI q)=true:=rfl;cases hl:lkV q M with
 | none=>
  have hq:q ∉ zBQ M:=λ hq=>znC hq hl;refine⟨zRK q v M,?_,zG5 hM hq,λ x=>zPm x M hq⟩;simp only[zu,zA8,zow,hm,zHX,cM,xCm,xAG,zBe,zPt hM,hl,zLf,u1]
 | some w=>
  refine⟨zhX q v M,?_,by rw[zMZ];exact hM,λ x=>?_⟩
  ·simp only[zu,zA8,zow,hm,zHX,cM,xCm,xAG,zBe,zPt hM,hl,zLQ,u1]
  ·rw[zPE];by_cases e:x=q
   ·simp[e,hl]
   ·simp[e]
def zNa{t e z:Nat}(H:Elt t e z){h:AH}{b c n:Nat}{vs us:List Value}{ty es:Nat}{ro:Bool}{ty' es':Nat}{ro':Bool}(hb:h.get b=some (.row vs ty' es' ro'))(cO:vs.length=n*z)(hn:n+1<=1000000)
  (hc:h.get c=some (.row us ty es ro)) (hl:us.length=z) :
  zy E .append [t,t] (some [.slice (some ⟨b,0,none⟩) n n,.slice (some ⟨c,0,none⟩) 1 1]) h=one (.slice (some ⟨h.qa,0,none⟩) (n+1) (UNK+z),h.new (.row (vs++us) e z false)):=by
 obtain⟨ti,e1,e2,e3⟩:=H.ti;show v2 (zBD E [t,t] (.slice (some ⟨b,0,none⟩) n n) (.slice (some ⟨c,0,none⟩) 1 1) h)=_;simp only[zBD,H.el,H.un,zFb,xAH,e1,zCQ,zBG,hc,e2,Nat.one_mul,zAl,zAo,zAL,xCe];rw[xAD (by omega),hl,xCp];have h1:Nat.ble UNK n=false:=ble_false.2 (by have:UNK=18446744073709551616:=rfl;omega);have h2:Nat.ble (n+1) n=false:=ble_false.2 (by omega);simp only[xDM,e3,xAG,zBj,show Nat.beq 1 0=false from rfl,xAH,hb,zCs,h1,h2,zAl,zAo,zAL,xCe];rw[xAD (by omega),cO,xCp];simp only[xAG,zA2,ble_true.2 hn,v2]
def zxQ{a:Option Addr}{n c:Nat}{h:AH}:zg E 129 1 (some [(0,.slice a n c)]) h=one (.slice (some ⟨h.qa,0,none⟩) 1 1,h.new (rO [.slice a n c] 132)):=by kernel_rfl
def znS:Elt 129 132 1:=zGd (by kernel_rfl) zV4 zC3 (by kernel_rfl)
structure W30(kL:AH)(bw:Nat)(C:List Value)(SSc:List za)(h:AH):Prop where
 fx:Fx (λ c=>c=bw) kL h
 row:∃ b cp es,h.get bw=some (rO [.slice (some ⟨b,0,none⟩) C.length cp] 131)/\h.get b=some (.row C 132 es false)/\b<h.qa/\((cp=C.length/\b<kL.qa)\/(cp=UNK+1/\es=1/\kL.qa<=b))
 bl:bw<kL.qa
 len:C.length=SSc.length
 cells:∀(i:Nat) (c:Value) (S:za),C[i]?=some c->SSc[i]?=some S->CellOK h c S
section
variable {kL h h':AH} {bw:Nat} {C:List Value} {SSc:List za}
def W30.step(w:W30 kL bw C SSc h)(f:Fx NoB h h'):W30 kL bw C SSc h':=by
 obtain⟨b,cp,es,r1,r2,r3,r4⟩:=w.row;have hn:=w.fx.qa;have hl:=w.bl;exact⟨w.fx.trans f λ c hc=>hc.elim,⟨b,cp,es,(f.get _ (by omega) (λ h=>h)).trans r1,(f.get _ r3 (λ h=>h)).trans r2,xAC r3 f.qa,r4⟩,hl,w.len,λ i c S h1 h2=>(w.cells i c S h1 h2).fx f λ _ _ h=>h⟩
def W30.gw(w:W30 kL bw C SSc h):GW h bw SSc:=by
 obtain⟨b,cp,es,r1,r2,r3,r4⟩:=w.row;exact⟨b,C,cp,es,r1,xAC w.bl w.fx.qa,r2,r3,w.len,w.cells⟩
def W30.add(w:W30 kL bw C SSc h){c:Value}{S:za}(hc:CellOK h c S)(hn:C.length+1<=1000000) :
  ∃ sl0 sl1 h1 h2 h3,zb E 129 h (sP bw (0+0))=some sl0/\zg E 129 1 (some [(0,c)]) h=one (.slice (some ⟨h.qa,0,none⟩) 1 1,h1)/\zy E .append [129,129] (some [sl0,.slice (some ⟨h.qa,0,none⟩) 1 1]) h1=one (sl1,h2) ∧
   zAM E 129 h2 (sP bw (0+0)) (some sl1)=one (undef,h3)/\W30 kL bw (C++[c]) (SSc++[S]) h3:=by
 obtain⟨b,cp,es,r1,r2,r3,r4⟩:=w.row;have cJ:=w.fx.qa;have hl:=w.bl;have jU:b≠bw:=by rintro rfl;rw[r1] at r2;simp at r2
 obtain⟨ca,cl,cc,dw⟩:∃ ca cl cc,c=.slice ca cl cc:=by rcases hc with ⟨e,_⟩|⟨q,e,_⟩ <;> exact⟨_,_,_,e⟩
 have cne:∀ {x:Value} {T:za} {q:Nat},CellOK h x T->zY x q->q≠b/\q≠bw:=by
  rintro x T q hx ⟨m,cp',e⟩;rcases hx with ⟨e2,_⟩|⟨q',e2,g,_⟩
  ·rw[e2] at e;cases e
  ·rw[e2] at e;simp only[xBu,xAN,xCo] at e;obtain⟨rfl,_⟩:=e.1;exact⟨by rintro rfl;rw[r2] at g;simp at g,by rintro rfl;rw[r1] at g;simp at g⟩
 have l0:zb E 129 h (sP bw (0+0))=some (.slice (some ⟨b,0,none⟩) C.length cp):=zB (P:=E) zEh (o:=0+0) r1;have g1:=zD h (rO [c] 132);have gb1:(h.new (rO [c] 132)).get b=some (.row C 132 es false):=(zG (by omega)).trans r2;have aK:zg E 129 1 (some [(0,c)]) h=one (.slice (some ⟨h.qa,0,none⟩) 1 1,h.new (rO [c] 132)):=by rw[dw];exact zxQ
 have fin:∀(h2:AH) (fx2:Fx (λ q=>kL.qa<=q/\q=b) h h2) (iL:h2.get (h.qa+1)=some (.row (C++[c]) 132 1 false)) (fh:h2.qa=h.qa+2),
   ∃ h3,zAM E 129 h2 (sP bw (0+0)) (some (.slice (some ⟨h.qa+1,0,none⟩) (C.length+1) (UNK+1)))=one (undef,h3)/\W30 kL bw (C++[c]) (SSc++[S]) h3:=by
  intro h2 fx2 iL fh;have gw2:h2.get bw=_:=(fx2.get bw (by omega) (λ e=>jU e.2.symm)).trans r1;refine⟨_,zi (P:=E) zri (o:=0+0) (x:=.slice (some ⟨h.qa+1,0,none⟩) (C.length+1) (UNK+1)) (cs:=[.slice (some ⟨h.qa+1,0,none⟩) (C.length+1) (UNK+1)]) gw2 rfl rfl (by simp) (by simp[zl]),?_⟩;have fx3:Fx (λ q=>q=bw\/(kL.qa<=q/\q=b)) h (h2.upd bw (some (.row (lput [.slice (some ⟨b,0,none⟩) C.length cp] (0+0) [.slice (some ⟨h.qa+1,0,none⟩) (C.length+1) (UNK+1)]) 131 0 false))):=(fx2.mono (P':=λ q=>q=bw\/(kL.qa<=q/\q=b)) λ q hq=>.inl (.inr hq)).upd (.inl (.inl rfl)) _;have gB:=zH h2 bw (some (.row (lput [.slice (some ⟨b,0,none⟩) C.length cp] (0+0) [.slice (some ⟨h.qa+1,0,none⟩) (C.length+1) (UNK+1)]) 131 0 false));have gN:(h2.upd bw (some (.row (lput [.slice (some ⟨b,0,none⟩) C.length cp] (0+0) [.slice (some ⟨h.qa+1,0,none⟩) (C.length+1) (UNK+1)]) 131 0 false))).get (h.qa+1)=some (.row (C++[c]) 132 1 false):=(zL (by omega)).trans iL;have nN:(h2.upd bw (some (.row (lput [.slice (some ⟨b,0,none⟩) C.length cp] (0+0) [.slice (some ⟨h.qa+1,0,none⟩) (C.length+1) (UNK+1)]) 131 0 false))).qa=h.qa+2:=fh;generalize h2.upd bw (some (.row (lput [.slice (some ⟨b,0,none⟩) C.length cp] (0+0) [.slice (some ⟨h.qa+1,0,none⟩) (C.length+1) (UNK+1)]) 131 0 false))=h3 at fx3 gB gN nN;have keep:∀ {x:Value} {T:za},CellOK h x T->CellOK h3 x T:=λ hx=>hx.fx fx3 λ q hq hP=>hP.elim (cne hx hq).2 λ e=>(cne hx hq).1 e.2;refine⟨w.fx.trans fx3 λ q hq=>hq.elim .inl λ e=>.inr e.1,⟨h.qa+1,UNK+1,1,?_,gN,by omega,.inr ⟨rfl,rfl,by omega⟩⟩,hl,by simp[w.len],λ i x T h1 h2=>?_⟩
  ·rw[xBY];exact gB
  ·by_cases hi:i<C.length
   ·rw[xAb hi] at h1;rw[xAb (by rw[← w.len];exact hi)] at h2;exact keep (w.cells i x T h1 h2)
   ·have hie:i=C.length:=by
     have:=(xAc.1 h1).1;simp at this;omega
    subst hie;rw[xAX (xAF _),Nat.sub_self] at h1;rw[xAX (by rw[w.len];exact xAF _),w.len,Nat.sub_self] at h2;simp at h1 h2;subst h1 h2;exact keep hc
 rcases r4 with ⟨rfl,hb⟩|⟨rfl,rfl,hb⟩
 ·have f0:Fx (λ q=>kL.qa<=q/\q=b) h (h.new (rO [c] 132)):=(Fx.refl (by exact w.fx.ok)).new _;obtain⟨h3,s1,s2⟩:=fin ((h.new (rO [c] 132)).new (.row (C++[c]) 132 1 false)) (f0.new _) (zD (h.new _) _) rfl;exact⟨_,_,_,_,h3,l0,aK,zNa znS gb1 (by omega) hn g1 rfl,s1,s2⟩
 ·have f0:Fx (λ q=>kL.qa<=q/\q=b) h (h.new (rO [c] 132)):=(Fx.refl (by exact w.fx.ok)).new _;obtain⟨h3,s1,s2⟩:=fin (((h.new (rO [c] 132)).upd b none).new (.row (C++[c]) 132 1 false)) ((f0.upd (.inl ⟨hb,rfl⟩) none).new _) (zD ((h.new _).upd b none) _) rfl;exact⟨_,_,_,_,h3,l0,aK,zB8 znS (by omega) gb1 (by omega) hn g1 rfl (by rw[dw];rfl),s1,s2⟩
end
end Go.Proofs
namespace Go.Proofs
open Go Go.AM
def zII(L:GL):Prop:=L.n<=60/\L.eds.length<=300/\L.labs.length<=60
def zqD{k:AH}{v:Value}{els:List (List Value)}{Ls:List GL}(aa:k.ok)(ha:Arr k 3 v els)(hlen:els.length=Ls.length)(bK:els.length<=10)(hr:∀(i:Nat) (e:List Value) (L:GL),els[i]?=some e->Ls[i]?=some L->RL k (.agg ⟨e⟩) L) :
  ∃ b,(b=true->∀(i:Nat) (L:GL),Ls[i]?=some L->zII L)/\(zc E).call 14 [v] k=some [(.bool b,k)]:=by
 have key:∃ w,(∃ b,w=.bool b/\(b=true->∀(i:Nat) (L:GL),Ls[i]?=some L->zII L))/\(zc E).call 14 [v] k=some [(w,k)]:=by
  obtain⟨ad,cp,hv⟩:=ha.slice;refine zgU aa (zll ?_);refine zlk ?_;have af:=zi (P:=E) zg8 (o:=0) (zD k.qb (rO [iI 0] 3)) (zEw .i64 2000) rfl (by simp) rfl;simp only[zR] at af;simp only[z_3,zU,zF,zd,zR,af];refine zlj ?_;have o1:=((Own.qb k).new (rO [iI 0] 3)).upd (b:=k.qa) (xAF _) (some (rO (lput [iI 0] 0 [iI 2000]) 3));have t1:((k.qb.new (rO [iI 0] 3)).upd k.qa (some (rO (lput [iI 0] 0 [iI 2000]) 3))).get k.qa=some (rO [iI 2000] 3):=zH _ _ _;have n1:((k.qb.new (rO [iI 0] 3)).upd k.qa (some (rO (lput [iI 0] 0 [iI 2000]) 3))).qa=k.qa+1:=rfl;generalize ((k.qb.new (rO [iI 0] 3)).upd k.qa (some (rO (lput [iI 0] 0 [iI 2000]) 3)))=k1 at o1 t1 n1;rw[hv];simp only[zA,zXL];have loop:∀(r i:Nat),i+r=els.length->∀(l:Int) (h:AH),Own k h->h.get k.qa=some (rO [iI l] 3)->k.qa<h.qa->0<=l->l<=2000->(∀(j:Nat) (L:GL),j<i->Ls[j]?=some L->zII L)->
    zxp true (zXN (∀(i:Nat) (L:GL),Ls[i]?=some L->zII L) k) (ptr k.qa) (.slice ad els.length cp) (iI (els.length:Int)) (iI (i:Int)) h:=by
   intro r
   induction r with
   | zero=>
    intro i hi l h ho hg ab h1 h2 hq;refine zSd ?_;have:¬ ((i:Int)<(els.length:Int)):=by omega
    simp only[zP,zA,this,xCz,zZ];refine zdn ?_;exact zI3 ho true λ _ j L hj=>hq j L (by have:=(xAc.1 hj).1;omega) hj
   | succ r ih=>
    intro i hi l h ho hg ab h1 h2 hq;have ai:i<els.length:=by omega
    refine zSd ?_;have:((i:Int)<(els.length:Int)):=by omega
    simp only[zP,zA,this,xDG,ze];refine zli ?_;have j6:=hr i _ _ (xAA ai) (xAA (by omega));have hLi:Ls[i]?=some Ls[i]:=xAA (by omega);generalize Ls[i]=L at j6 hLi;obtain⟨vl,ve,elsL,q1,q2,q3,q4⟩:=j6.ex;have he:els[i]=[iI L.n,vl,ve]:=by
     simp only[Value.agg.injEq] at q1;have:=congrArg Array.toList q1;simpa using this
    obtain⟨b,o,c,vs,ty,es,ro,aH,hb,dB,cy,hz,bN⟩:=ha.load (xAA ai);rw[he] at hz;rw[hv] at aH;simp only[xBu] at aH;obtain⟨bP,_,_⟩:=aH;subst bP;have gb:=(ho.ext.get b dB).trans hb;obtain⟨al,cl,aP⟩:=q2.slice;rw[RLab.length q3] at aP;obtain⟨ae,ce,bJ⟩:=q4.slice;rw[xCY] at bJ;have bz:=zqV (k:=h) (e:=[iI L.n,vl,ve]) (by rw[aP,bJ];rfl) rfl;simp only[zhw ai,zA,zN zBT gb cy,hz,zvI,zU,zF,zK,bz];refine zlh ?_;have f1:Fx NoB h ((h.new (rO [iI 0,.slice none 0 0,.slice none 0 0] 25)).upd h.qa (some (rO [iI L.n,vl,ve] 25))):=((Fx.refl ho.ext.ok).new _).upd (.inr (xAF _)) _;have t1:((h.new (rO [iI 0,.slice none 0 0,.slice none 0 0] 25)).upd h.qa (some (rO [iI L.n,vl,ve] 25))).get h.qa=some (rO [iI L.n,vl,ve] 25):=zH _ _ _;generalize ((h.new (rO [iI 0,.slice none 0 0,.slice none 0 0] 25)).upd h.qa (some (rO [iI L.n,vl,ve] 25)))=k2 at f1 t1;have o2:=f1.own ho (λ _ h=>h.elim);have g2:=(f1.get k.qa ab (λ h=>h)).trans hg;have lt2:=xAC ab f1.qa;have s0:=zB (P:=E) zAE (o:=0) t1;have s1:=zB (P:=E) zF4 (o:=1) t1;have s2:=zB (P:=E) zEF (o:=2) t1;simp only[lnth] at s0 s1 s2;have stop:zxo true (zXN (∀(i:Nat) (L:GL),Ls[i]?=some L->zII L) k) k2:=by
     refine zlg ?_;exact zI3 o2 false (λ h=>Bool.noConfusion h)
    rw[aP] at s1;rw[bJ] at s2;simp only[zAP,xCu,s0,zA,zAK];by_cases e1:60<L.n
    ·simp only[e1,xDG,zI,show (true==false)=false from rfl,xAH,xAG,zA,zE,ze];exact stop
    ·simp only[e1,xCz,zI,xAO,xAG,zA7,xAK,s2,zA,zXK,zAK,zE,xAH];by_cases e2:300<(L.eds.length:Int)
     ·simp only[e2,xDG,zI,show (true==false)=false from rfl,xAH,xAG,zA,zE,ze];exact stop
     ·simp only[e2,xCz,zI,xAO,xAG,zA0,xAK,s1,zA,zTb,zAK,zE,xAH];by_cases e3:60<(L.labs.length:Int)
      ·simp only[e3,xDG,ze];exact stop
      ·simp only[e3,xCz,zZ];refine zlf ?_;simp only[zA0,xAK,s1,zA,zXJ];have inner:∀(r2 j:Nat),j+r2=L.labs.length->∀(l:Int) (h:AH),Own k h->h.get k.qa=some (rO [iI l] 3)->k.qa<h.qa->0<=l->l<=2000->
         zxn true (zXN (∀(i:Nat) (L:GL),Ls[i]?=some L->zII L) k) (ptr k.qa) (.slice (some ⟨b,o,none⟩) els.length cp) (iI (els.length:Int)) (iI (i:Int)) (.slice al L.labs.length cl) (iI (L.labs.length:Int)) (iI (j:Int)) h:=by
        intro r2
        induction r2 with
        | zero=>
         intro j hj l h ho hg ab h1 h2;refine zSc ?_;have:¬ ((j:Int)<(L.labs.length:Int)):=by omega
         simp only[zP,zA,this,xCz,zZ];refine zdo ?_;simp only[zk _ (zCS ai (by omega)),zA];have:=ih (i+1) (by omega) l h ho hg ab h1 h2 (λ j L' hj hL'=>by
          rcases xAi.1 hj with ab|dU
          ·exact hq j L' ab hL'
          ·subst dU;rw[hLi] at hL';cases hL';exact⟨by omega,by omega,by omega⟩)
         simpa using this
        | succ r2 ih2=>
         intro j hj l h ho hg ab h1 h2;have aJ:j<L.labs.length:=by omega
         have er:j<elsL.length:=by rw[RLab.length q3];exact aJ
         refine zSc ?_;have:((j:Int)<(L.labs.length:Int)):=by omega
         simp only[zP,zA,this,xDG,ze];refine zle ?_;obtain⟨g,vt,lt,aS,bS,aU⟩:=RLab.at q3 j _ (xAA er);obtain⟨b',o',c',vs',ty',es',ro',aH,ar,aI,cy,cK,cF⟩:=q2.load (xAA er);rw[aS] at cK;rw[aP] at aH;simp only[xBu] at aH;obtain⟨bP,_,_⟩:=aH;subst bP;have gb':=(ho.ext.get b' aI).trans ar;simp only[zPp aJ,zA,zN zC7 gb' cy,cK,zrU,zU,zF,zK,ziQ (zDt bS)];refine zdr ?_;have f3:Fx NoB h ((h.new (rO [iI 0,.slice none 0 0] 36)).upd h.qa (some (rO [iI g,vt] 36))):=((Fx.refl ho.ext.ok).new _).upd (.inr (xAF _)) _;have t3:((h.new (rO [iI 0,.slice none 0 0] 36)).upd h.qa (some (rO [iI g,vt] 36))).get h.qa=some (rO [iI g,vt] 36):=zH _ _ _;generalize ((h.new (rO [iI 0,.slice none 0 0] 36)).upd h.qa (some (rO [iI g,vt] 36)))=k3 at f3 t3;have o3:=f3.own ho (λ _ h=>h.elim);have g3:=(f3.get k.qa ab (λ h=>h)).trans hg;have lt3:=xAC ab f3.qa;have u1:=zB (P:=E) zD0 (o:=1) t3;simp only[lnth] at u1;simp only[zCL,xAK,u1,zA,zM];refine (ztL 100 bS o3.ext (xAF _) g3 lt3 h1 h2 (by omega) (by omega) (by omega)).mono λ y hy=>?_;obtain⟨bb,l3,y1,y2,y3,y4,y6,y5⟩:=hy;have o4:=y5.own o3 (λ c h=>by rw[h];exact xAF _);rw[y1];simp only[zq,zA,zAq];refine⟨λ hb=>zdq ?_,λ hb=>zdp ?_⟩
         ·skip
          exact zI3 o4 false (λ h=>Bool.noConfusion h)
         ·have bF:bb=true:=by simpa using hb
          simp only[zk _ (zCS aJ (by omega)),zA];have:=ih2 (j+1) (by omega) l3 y.2 o4 y4 (xAC lt3 y5.qa) (y2 bF) y3;simpa using this
       exact inner L.labs.length 0 (by omega) l k2 o2 g2 lt2 h1 h2
  exact loop els.length 0 (by omega) 2000 k1 o1 t1 (by omega) (by omega) (by omega) (λ j L hj=>by omega)
 obtain⟨w,⟨b,rfl,hb⟩,hc⟩:=key;exact⟨b,hb,hc⟩
end Go.Proofs
namespace Go.Proofs
open Go Go.AM Go.Sort
def zoV(n:Int)(S:za)(x:Int×Int):shS n (S++[x])=shS n S++[(x.1,x.2+n)]:=by simp[shS]
def zwe{K:KF}{v0 v3 v49 v50 v51:Value}{b5 bw:Nat}{n:Int}{a2 a3:Value}{h0:AH}{c:Value}{S:za}(aa:h0.ok)(ac:CellOK h0 c S)(h5:h0.get b5=some (rO [iI n,a2,a3] 25))(l5:b5<h0.qa)(cJ:0<=n)(hn:n<=100000)(hS:∀ y∈S,0<=y.2/\y.2<=100000)(gZ:S.length<=900000)
  (H:∀ h w,Fx NoB h0 h->CellOK h w (shS n S)->PI (C30 true) K 15 [v0,v3,ptr b5,ptr bw,w,v49,v50,v51] h) :
  PI (C30 true) K 9 [v0,v3,ptr b5,ptr bw,c,v49,v50,v51] h0:=by
 refine zk0 (zaO ?_);obtain⟨ca,cc,dw⟩:=(zCO ac).slice;rw[xCY] at dw;rw[dw];simp only[zTK,zA];rw[← dw];have loop:∀(m i:Nat),i+m=S.length->∀ h w,Fx NoB h0 h->CellOK h w (shS n (S.take i))->(∀ c,zY w c->h0.qa<=c)->
   PI (C30 true) K 11 [v0,v3,ptr b5,ptr bw,w,v49,v50,v51,c,iI (S.length:Int),iI (i:Int)] h:=by
  intro m
  induction m with
  | zero=>
   intro i hi h w hf hw hb;have hi:i=S.length:=by omega
   subst hi;rw[xCQ] at hw;refine zNo ?_;simp only[zP,zA,show decide ((S.length:Int)<(S.length:Int))=false from xAI (by omega),zZ];exact H h w hf hw
  | succ m ih=>
   intro i hi h w hf hw hb;have ai:i<S.length:=by omega
   refine zNo ?_;simp only[zP,zA,show decide ((i:Int)<(S.length:Int))=true from xAJ (by omega),ze];refine zaN ?_;have bM:(S.map zC)[i]?=some (zC S[i]):=by rw[xBi,xAA ai];rfl
   obtain⟨p,q1,q2⟩:=zRN (zCO ac) hf.ext0 bM;obtain⟨h1,e1,f1,g1',n1⟩:∃ h1,(h.new (rO [iI 0,iI 0] 134)).upd h.qa (some (rO (zC S[i]) 134))=h1/\Fx NoB h h1/\h1.get h.qa=some (rO (zC S[i]) 134)/\h1.qa=h.qa+1:=
    ⟨_,rfl,((Fx.refl hf.ok).new _).upd (.inr (xAF _)) _,zH _ _ _,rfl⟩
   simp only[q1,q2,zO6,zU,zF,zK,zA,zYW,e1];refine zaM ?_;have eT:Fx NoB h0 h1:=hf.trans f1 λ c hc=>hc.elim;have m0:zb E 3 h1 (sP h.qa (0+0))=some (iI S[i].1):=zB (P:=E) zAE (o:=0+0) g1';have m1:zb E 3 h1 (sP h.qa (0+1))=some (iI S[i].2):=zB (P:=E) zAE (o:=0+1) g1';have m5:zb E 3 h1 (sP b5 (0+0))=some (iI n):=zB (P:=E) zAE (o:=0+0) ((eT.get b5 l5 (λ h=>h)).trans h5);have fS:=hS S[i] (xCF ai);obtain⟨h2,s1,s2,s3,s4⟩:=zFv eT.ok (hw.fx f1 λ _ _ h=>h) (by simp[shS];omega) S[i].1 (S[i].2+n);simp only[zDn,zBB,zAP,m0,m1,m5,zA,zk _ (show zC2 (S[i].2+n) from ⟨by omega,by omega⟩),zoj,zqT,zF,s1];refine zaL ?_;simp only[zA,zk _ (zCS ai (by omega))];have hh:h1.qa+1<h2.qa:=by omega
   refine ih (i+1) (by omega) h2 _ (eT.trans s4 λ c hc=>.inr (hb c hc)) ?_ ?_
   ·rw[zMP ai,zoV];exact .inr ⟨h1.qa+1,by rw[xBY];rfl,s2,hh⟩
   ·rintro c ⟨n,cp,e⟩;simp only[xBu,xAN,xCo] at e;have:h0.qa<=h1.qa:=eT.qa;omega
 exact loop S.length 0 (by omega) h0 (.slice none 0 0) (Fx.refl aa) (.inl ⟨rfl,rfl⟩) λ c hc=>by obtain⟨n,cp,e⟩:=hc;cases e
def zwl{K:KF}{v0 v3:Value}{b5 bw bs2 es2 cp2 n1:Nat}{n:Int}{a2 a3:Value}{kL:AH}{C2:List Value}{S1 S2:List za}
  (g2:kL.get bs2=some (.row C2 132 es2 false)) (l2:bs2<kL.qa) (nb2:bs2≠bw) (zvP:C2.length=S2.length) (cell2:∀(i:Nat) (c:Value) (S:za),C2[i]?=some c->S2[i]?=some S->CellOK kL c S) (nbc:∀(i:Nat) (c:Value) (b:Nat),C2[i]?=some c->zY c b->b≠bw)
  (h5:kL.get b5=some (rO [iI n,a2,a3] 25)) (l5:b5<kL.qa) (n5:b5≠bw) (cJ:0<=n) (hn:n<=100000) (hS:∀(i:Nat) (S:za),S2[i]?=some S->S.length<=900000/\∀ y∈S,0<=y.2/\y.2<=100000) (hC:n1+C2.length<=900000)
  (H:∀ h C,W30 kL bw C (S1++S2.map (shS n)) h->PI (C30 true) K 17 [v0,v3,ptr b5,ptr bw] h) :
  ∀ m j,j+m=C2.length->∀ h C,W30 kL bw C (S1++(S2.take j).map (shS n)) h->C.length=n1+j->PI (C30 true) K 7 [v0,v3,ptr b5,ptr bw,.slice (some ⟨bs2,0,none⟩) C2.length cp2,iI (C2.length:Int),iI (j:Int)] h:=by
 intro m
 induction m with
 | zero=>
  intro j hj h C w hCl;refine zST ?_;simp only[zP,zA,show decide ((j:Int)<(C2.length:Int))=false from xAI (by omega),zZ];rw[xAD (by omega)] at w;exact H h C w
 | succ m ih=>
  intro j hj h C w hCl;have hjc:j<C2.length:=by omega
  refine zST ?_;simp only[zP,zA,show decide ((j:Int)<(C2.length:Int))=true from xAJ (by omega),ze];refine zk1 ?_;have gb:=(w.fx.get bs2 l2 nb2).trans g2;have lc:=zB (P:=E) zC3 (o:=0+j*1) gb;have hcj:C2[j]?=some C2[j]:=xAA hjc;have hsj:S2[j]?=some S2[j]:=xAA (by omega);rw[zAI,show 0+j*1=j by omega,hcj] at lc;have ia:=zI0 (b:=bs2) (o:=0) (c:=cp2) hjc;rw[show 0+j*1=j by omega] at ia;simp only[ia,lc,zA];have jr:=w.fx.qa;obtain⟨z1,z2⟩:=hS j _ hsj;refine zwe w.fx.ok ((cell2 j _ _ hcj hsj).fx w.fx λ b hb e=>nbc j _ b hcj hb e) ((w.fx.get b5 l5 n5).trans h5) (by omega) cJ hn z2 z1 λ h' wv f hw=>?_;refine zaK ?_;obtain⟨sl0,sl1,h1,h2,h3,r1,r2,r3,r4,r5⟩:=(w.step f).add hw (by omega);simp only[zx,zA,zCj,r1,r2,zF,r3,r4];refine zaJ ?_;simp only[zA,zk _ (zCS hjc (by omega))];refine ih (j+1) (by omega) h3 (C++[wv]) ?_ (by rw[xBY,List.length_singleton];omega);rw[xBw,hsj,xBc,xCX,← List.append_assoc];exact r5
def Sl.fx{lo:Nat}{h h':AH}{v:Value}{F:za}{P:Nat->Prop}(s:Sl lo h v F)(f:Fx P h h')(hP:∀ c,lo<=c->¬ P c):Sl lo h' v F:=by
 rcases s with e|⟨b,rest,e,h1,h2,h3⟩
 ·exact .inl e
 ·exact .inr ⟨b,rest,e,h1,xAC h2 f.qa,(f.get b h2 (hP b h1)).trans h3⟩
def Sl.lo{lo lo':Nat}{h:AH}{v:Value}{F:za}(s:Sl lo h v F)(hl:lo'<=lo):Sl lo' h v F:=by
 rcases s with e|⟨b,rest,e,h1,h2,h3⟩
 ·exact .inl e
 ·exact .inr ⟨b,rest,e,xCx hl h1,h2,h3⟩
def Sl.arr{lo:Nat}{h:AH}{v:Value}{F:za}(s:Sl lo h v F):Arr h 2 v (F.map zC):=by
 rcases s with ⟨rfl,rfl⟩|⟨b,rest,rfl,h1,h2,h3⟩
 ·exact .nil _ _
 ·exact zYe h3 h2 rfl
def Sl.leaf{lo:Nat}{h:AH}{v:Value}{F:za}(s:Sl lo h v F):∃ a n c,v=.slice a n c:=by
 rcases s with ⟨_,rfl⟩|⟨b,rest,rfl,_⟩ <;> exact⟨_,_,_,rfl⟩
structure M30(kM:AH)(m:Nat)(SS:List za)(cl:List Int)(kind:Int)(i:Nat)(h:AH):Prop where
 fx:Fx (λ c=>c=m) kM h
 ml:m<kM.qa
 ex:∃ M ver,h.get m=some (.map (zNK M) ver)/\(zBQ M).Nodup/\(∀ s,s<i->∃ F v,lkV (zAg cl (s:Int)) M=some v/\CanL SS cl kind s F/\F.length<=900000/\Sl kM.qa h v F)/\∀ q,(∀ s:Nat,s<i->zAg cl (s:Int)≠q)->lkV q M=none
 same:∀ s s':Nat,s<i->s'<i->zAg cl (s:Int)=zAg cl (s':Int)->∀ n k,zgt (wst SS) (zAg cl) kind s n k ↔ zgt (wst SS) (zAg cl) kind s' n k
def M30.step{kM h h':AH}{m:Nat}{SS:List za}{cl:List Int}{kind:Int}{i:Nat}(w:M30 kM m SS cl kind i h)(f:Fx NoB h h'):M30 kM m SS cl kind i h':=by
 obtain⟨M,ver,a1,a2,a3,a4⟩:=w.ex;have hn:=w.fx.qa;have hl:=w.ml;refine⟨w.fx.trans f λ c hc=>hc.elim,hl,⟨M,ver,(f.get m (by omega) (λ h=>h)).trans a1,a2,λ s hs=>?_,a4⟩,w.same⟩;obtain⟨F,v,b1,b2,b3,b4⟩:=a3 s hs;exact⟨F,v,b1,b2,b3,b4.fx f λ _ _ h=>h⟩
abbrev K30(k:AH)(Q:Prop):KF:=KR E [.tmp 8] λ x l=>(zm x=true/\∃ r,x=iI r/\(r=0 ↔ Q)/\(r=0\/r=360))/\k.qa<=l.wm
def zPk{k h:AH}{Q:Prop}(o:Own k h)(r:Int)(hr:r=0 ↔ Q)(h3:r=0\/r=360:=by first|exact .inl rfl|exact .inr rfl):K30 k Q .ret [iI r] h:=by
 simp only[K30,zAC,zO,xDJ];exact⟨⟨rfl,r,rfl,hr,h3⟩,o.wm⟩
def zJN(SS:List za)(cl:List Int)(kind:Int)(i:Nat):Prop:=∀ s s':Nat,s<i->s'<i->zAg cl (s:Int)=zAg cl (s':Int)->∀ n k,zgt (wst SS) (zAg cl) kind s n k ↔ zgt (wst SS) (zAg cl) kind s' n k
def zsY{k kM:AH}{v:Value}{b5 b17 bw m:Nat}{SS:List za}{cl:List Int}{kind N:Int}{a2 a3:Value}(hW:zxU SS cl)(hM:Own k kM)(aW:m<kM.qa)(jy:k.qa<=m)(hg:∀ h,Fx (λ c=>c=m) kM h->GW h bw SS)(hc:∀ h,Fx (λ c=>c=m) kM h->Arr h 1 v (cl.map i1))
  (h17:∀ h,Fx (λ c=>c=m) kM h->zb E 110 h (sP b17 (0+1))=some (zvU kind)) (h5:kM.get b5=some (rO [iI N,a2,a3] 25)) (l5:b5<kM.qa) (n5:b5≠m) (hN0:0<=N) (hN:N<(cl.length:Int)) :
  ∀ r i,i+r=cl.length->∀ h,M30 kM m SS cl kind i h->PI (C30 true) (K30 k (zJN SS cl kind cl.length/\zAg cl 0=zAg cl N)) 20 [v,ptr b5,ptr bw,ptr b17,.map (some m),v,iI (cl.length:Int),iI (i:Int)] h:=by
 have own:∀ h,Fx (λ c=>c=m) kM h->Own k h:=λ h f=>f.own hM λ c hc=>by have:c=m:=hc;omega
 intro r
 induction r with
 | zero=>
  intro i hi h w;have hi:i=cl.length:=by omega
  subst hi;refine zNn ?_;simp only[zP,zA,show decide ((cl.length:Int)<(cl.length:Int))=false from xAI (by omega),zZ];refine zZ8 ?_;obtain⟨n,rfl⟩:=xAp hN0;have hn:n<cl.length:=by omega
  have h0:0<cl.length:=by omega
  obtain⟨p0,q1,q2⟩:=zCc (hc h w.fx) (Ext.refl w.fx.ok) (xAA h0);obtain⟨p1,q3,q4⟩:=zCc (hc h w.fx) (Ext.refl w.fx.ok) (xAA hn);have m5:zb E 3 h (sP b5 (0+0))=some (iI (n:Int)):=zB (P:=E) zAE (o:=0+0) ((w.fx.get b5 l5 n5).trans h5);rw[show ((0:Nat):Int)=0 from rfl] at q1;have e0:zAg cl 0=cl[0]:=by unfold zAg;rw[show ((0:Int)).toNat=0 from rfl,xAA h0];rfl
  have e1:zAg cl (n:Int)=cl[n]:=by unfold zAg;rw[show ((n:Int)).toNat=n from rfl,xAA hn];rfl
  simp only[q1,q2,zA,zAP,m5,q3,q4,zAS,zJn];refine⟨λ aj=>zZ7 (zPk (own h w.fx) 360 ?_),λ he=>zZ6 (zPk (own h w.fx) 0 ?_)⟩
  ·exact⟨λ h=>absurd h (by decide),λ h=>absurd (by rw[← e0,← e1];exact h.2) aj⟩
  ·exact⟨λ _=>⟨w.same,by rw[e0,e1];exact he⟩,λ _=>rfl⟩
 | succ r ih=>
  intro i hi h w;have gF:i<cl.length:=by omega
  have his:i<SS.length:=by rw[← hW.cl];exact gF
  refine zNn ?_;simp only[zP,zA,show decide ((i:Int)<(cl.length:Int))=true from xAJ (by omega),ze];refine zaF ?_;obtain⟨p0,q1,q2⟩:=zCc (hc h w.fx) (Ext.refl w.fx.ok) (xAA gF);have ei:zAg cl (i:Int)=cl[i]:=by unfold zAg;rw[show ((i:Int)).toNat=i from rfl,xAA gF];rfl
  simp only[q1,q2,zA];rw[← ei];refine zaE ?_;simp only[zh2,h17 h w.fx,zA];refine (zpl (kind:=kind) w.fx.ok (hg h w.fx) hW (hc h w.fx) his).mono ?_;rintro⟨x,h1⟩ ⟨F,s1,s2,s3,s4⟩;simp only at s3 s4 ⊢;have w1:=w.step s4;have s3':Sl kM.qa h1 x F:=s3.lo w.fx.qa;obtain⟨M,ver,a1,a2',a3',a4⟩:=w1.ex;refine zaD ?_;simp only[zo0 a1 a2',zA,pe0,pe1];refine zaC ?_;obtain⟨M',u1,u2,u3⟩:=zrZ a1 a2' (zAg cl (i:Int)) x;obtain⟨xa,xn,xc,hx⟩:=s3.leaf;have next:(∀ s:Nat,s<i->zAg cl (s:Int)=zAg cl (i:Int)->CanL SS cl kind s F)->PI (C30 true) (K30 k (zJN SS cl kind cl.length/\zAg cl 0=zAg cl N)) 26 [v,ptr b5,ptr bw,ptr b17,.map (some m),iI (zAg cl (i:Int)),x,v,iI (cl.length:Int),iI (i:Int)] h1:=by
   intro lV;refine zaA ?_;simp only[u1,zF];refine zZ9 ?_;simp only[zA,zk _ (zCS gF (by have:=hW.n;have:=hW.cl;omega))];refine ih (i+1) (by omega) _ ⟨w1.fx.upd (.inl rfl) _,aW,⟨M',ver+1,zH _ _ _,u2,λ s hs=>?_,λ q hq=>?_⟩,λ s s' hs aV he n k=>?_⟩
   ·by_cases hsi:zAg cl (s:Int)=zAg cl (i:Int)
    ·refine⟨F,x,by rw[u3,xDO hsi],?_,s2,?_⟩
     ·by_cases jj:s<i
      ·exact lV s jj hsi
      ·have:s=i:=by omega
       subst this;exact s1
     ·rcases s3' with e|⟨b,rest,e,y1,y2,y3⟩
      ·exact .inl e
      ·exact .inr ⟨b,rest,e,y1,y2,(zL (by omega)).trans y3⟩
    ·have jj:s<i:=by
      rcases xAi.1 hs with h|h
      ·exact h
      ·exact absurd (by rw[h]) hsi
     obtain⟨F',v',b1,b2,b3,b4⟩:=a3' s jj;refine⟨F',v',by rw[u3,xDN hsi];exact b1,b2,b3,?_⟩;rcases b4 with e|⟨b,rest,e,y1,y2,y3⟩
     ·exact .inl e
     ·exact .inr ⟨b,rest,e,y1,y2,(zL (by omega)).trans y3⟩
   ·have:=hq i (by omega);rw[u3,xDN (λ e=>this e.symm)];exact a4 q λ s hs=>hq s (by omega)
   ·have key:∀ s:Nat,s<i+1->zAg cl (s:Int)=zAg cl (i:Int)->CanL SS cl kind s F:=λ s hs he=>by
     rcases xAi.1 hs with h|h
     ·exact lV s h he
     ·subst h;exact s1
    by_cases hsi:zAg cl (s:Int)=zAg cl (i:Int)
    ·exact ((key s hs hsi).uniq (key s' aV (he.symm.trans hsi))).1 rfl n k
    ·have fR:s<i:=by
      rcases xAi.1 hs with h|h
      ·exact h
      ·exact absurd (by rw[h]) hsi
     have iF:s'<i:=by
      rcases xAi.1 aV with h|h
      ·exact h
      ·exact absurd (by rw[he,h]) hsi
     exact w1.same s s' fR iF he n k
  by_cases hex:∃ s:Nat,s<i/\zAg cl (s:Int)=zAg cl (i:Int)
  ·obtain⟨s0,kS,fD⟩:=hex;obtain⟨F0,v0,b1,b2,b3,b4⟩:=a3' s0 kS;rw[fD] at b1;have bT:=ztE (h0:=h1) (k:=h1) s3.arr b4.arr (by omega) (Ext.refl w1.fx.ok);simp only[b1,xBa,xCH,zI,zS,xAO,xAG,zA,zM,bT,zJ,zq,zE];by_cases hF:F=F0
   ·simp only[hF,xDG,xAL,zZ];rw[hF] at next;refine next λ s hs he=>?_;have aA:=w1.same s s0 hs kS (he.trans fD.symm);exact⟨b2.1,λ p=>(b2.2 p).trans (aA p.1 p.2).symm⟩
   ·simp only[hF,xCz,xAM,ze];refine zaB (zPk (own h1 w1.fx) 360 ⟨λ h=>absurd h (by decide),λ h=>absurd ((s1.uniq b2).2 (h.1 i s0 gF (by omega) fD.symm)) hF⟩)
  ·have fe:=a4 (zAg cl (i:Int)) λ s hs he=>hex ⟨s,hs,he⟩;simp only[fe,xBg,Option.getD_none,zI,zS,show (false==true)=false from rfl,xAH,zA,zF,zE,zZ];exact next λ s hs he=>absurd ⟨s,hs,he⟩ hex
def zHQ(nums:List Int):∀(l:List (Int×Int×Int)) (SS:List za) (b:Nat),(∀(i:Nat) (S:za),SS[i]?=some S->S.length<=b)->∀(i:Nat) (S:za),(zDN nums SS l)[i]?=some S->S.length<=b+l.length
 | [],SS,b,h,i,S,hS=>h i S hS
 | e::l,SS,b,h,i,S,hS=>by
  have:=zHQ nums l _ (b+1) (λ j T hT=>by
   rw[xBp] at hT;split at hT
   ·split at hT
    ·cases hT;rw[xBY];rename_i h1 h2;have:=h e.1.toNat (SS[e.1.toNat]?.getD []);rw[xAA h2,xCH] at this ⊢;have:=this rfl;simp;omega
    ·cases hT
   ·have:=h j T hT;omega) i S hS
  simp only[xCG];omega
def zEj{nums:List Int}{L:GL}{i:Nat}{S:za}(h:(zAO nums L)[i]?=some S):S.length<=L.eds.length:=by
 have:=zHQ nums L.eds (List.replicate L.n.toNat []) 0 (λ j T hT=>by
  rw[xAq] at hT;split at hT
  ·cases hT;simp
  ·cases hT) i S h
 omega
def zhL{L M:GL}{cs:List CL}{cl:List Int}(hL:zT L=false)(hM:zT M=false)(fL:zII L)(fM:zII M)(hn:(cl.length:Int)=L.n+M.n):zxU (SSW L M cs) cl:=by
 obtain⟨l1,l2,_⟩:=zf hL;obtain⟨m1,m2,_⟩:=zf hM;have hlen:(SSW L M cs).length=L.n.toNat+M.n.toNat:=zMH;have j8:=fL.1;have mu:=fM.1;have s9:∀(i:Nat) (S:za),(SSW L M cs)[i]?=some S->S.length<=900:=by
  intro i S hS;have e1:=fL.2.1;have e2:=fM.2.1;unfold SSW zMI at hS;by_cases h:i<(zAO (L.labs.map (zAY cs)) L).length
  ·rw[xAb h] at hS;have:=zEj hS;omega
  ·rw[xAX (by omega),xBi] at hS;obtain⟨T,hT,rfl⟩:=xAu.1 hS;have:=zEj hT;simp only[shS,xCY];omega
 exact⟨⟨by omega,λ i S hS=>⟨by have:=s9 i S hS;omega,zVs hL hM i S hS⟩⟩,by omega,by omega,s9⟩
def ziG{kind:Int}:lnth (z7 kind) (0+1)=some (zvU kind):=by
 unfold z7 zvU;by_cases h:kind=1
 ·simp only[xDO h];rfl
 ·simp only[xDN h];rfl
def zpn{k:AH}{x y v:Value}{L M:GL}{kind:Int}{cl:List Int}(aa:k.ok)(hx:RL k x L)(hy:RL k y M)(hL:zT L=false)(hM:zT M=false)(hk:kind=1\/kind=2)(hc:Arr k 1 v (cl.map i1))(hn:(cl.length:Int)=L.n+M.n)(hl:∀ c∈cl,0<=c/\c<=40000)(fL:zII L)(fM:zII M) :
  ∃ r,(r=0\/r=360)/\(r=0 ↔ zJN (SSW L M (zHg L M)) cl kind cl.length/\zAg cl 0=zAg cl L.n)/\(zc E).call 30 [iI kind,x,y,v] k=some [(iI r,k)]:=by
 have hW:=zhL (cs:=zHg L M) hL hM fL fM hn;obtain⟨l1,l2,_⟩:=zf hL;obtain⟨m1,m2,_⟩:=zf hM;generalize hQ:(zJN (SSW L M (zHg L M)) cl kind cl.length/\zAg cl 0=zAg cl L.n)=Q
 suffices h:∃ w,(∃ r,w=iI r/\(r=0 ↔ Q)/\(r=0\/r=360))/\(zc E).call 30 [iI kind,x,y,v] k=some [(w,k)] by
  obtain⟨w,⟨r,rfl,h1,h3⟩,h2⟩:=h;exact⟨r,h3,h1,h2⟩
 obtain⟨vl,ve,elsL,rfl,x2,x3,x4⟩:=id hx.ex;obtain⟨wl,we,elsM,rfl,y2,y3,y4⟩:=id hy.ex;refine zfu aa (zSW ?_);obtain⟨k1,e1,n1,t1,o1,f1⟩:=nwF k (rO [iI L.n,vl,ve] 25);obtain⟨k2,e2,n2,t2,o2,f2⟩:=nw o1 (rO [iI M.n,wl,we] 25);obtain⟨k3,e3,n3,t3,o3,f3⟩:=nw o2 (rO [iI L.n,vl,ve,iI M.n,wl,we] 25);rw[n1] at t2;have g0:k2.get k.qa=some (rO [iI L.n,vl,ve] 25):=(f2 _ (by omega)).trans t1;have g0':=(f3 k.qa (by omega)).trans g0;simp only[zU,zF,zK,zA,e1,e2,zR,n1];refine zSV ?_;have la:zb E 25 k2 (sP k.qa 0)=some (.agg ⟨[iI L.n,vl,ve]⟩):=zN (P:=E) zBT (o:=0) g0 (by simp);have lb:zb E 25 k2 (some (.pointer (some ⟨k.qa+1,0,none⟩)))=some (.agg ⟨[iI M.n,wl,we]⟩):=zN (P:=E) zBT (o:=0) t2 (by simp);have c89:=zna (k:=k2) o2.ext.ok (hx.ext o2.ext) (hy.ext o2.ext) hL hM hk (hc.ext o2.ext) hn hl;simp only[la,lb,zA,zM,c89,zJ];refine zSU ?_;simp only[zAS,zA,xDG,xAL,zZ];refine zk4 ?_;have eD:=ztX (a:=iI L.n) (b:=vl) (c:=ve) (a':=iI M.n) (b':=wl) (c':=we) (h:=k2);rw[e3] at eD;have ao:Args k3 (.slice (some ⟨k2.qa,0,none⟩) 2 2) [[iI L.n,vl,ve],[iI M.n,wl,we]] [L,M]:=by
  refine⟨?_,rfl,by simp,λ i ee LL h1 h2=>?_,λ i LL h=>?_⟩
  ·refine Arr.row (els:=[[iI L.n,vl,ve],[iI M.n,wl,we]]) t3 (by omega) (by simp) (λ i ee aC=>?_)
   match i with
   | 0=>simp at aC;subst aC;exact⟨rfl,rfl⟩
   | 1=>simp at aC;subst aC;exact⟨rfl,rfl⟩
   | i+2=>simp at aC
  ·match i with
   | 0=>simp at h1 h2;subst h1 h2;exact hx.ext o3.ext
   | 1=>simp at h1 h2;subst h1 h2;exact hy.ext o3.ext
   | i+2=>simp at h1
  ·match i with
   | 0=>simp at h;subst h;exact hL
   | 1=>simp at h;subst h;exact hM
   | i+2=>simp at h
 simp only[la,lb,zA,eD,zF,zM];refine (znZ o3.ext.ok (by simp) ao).mono λ z hz=>?_;obtain⟨gs,hO,hlen,eS,eN,fx⟩:=hz;obtain⟨out,k4⟩:=z;simp only at hO fx ⊢
 match gs,hlen with
 | [z1,z2],_=>
  have o4:=fx.own o3 (λ _ h=>h.elim);have G1:=hO.gg z1 (by simp);have G2:=hO.gg z2 (by simp);rw[zI1] at eN;simp only[xCi,xCy,xCd,xDL] at eN;obtain⟨fR,iF⟩:=eN;rcases hO.sl with ⟨_,h⟩|⟨bo,rfl,iy,fI,lY⟩
  ·cases h
  ·have dO:=fx.qa;have m0:=zB (P:=E) zCU (o:=0) iy;simp only[xCi,xCy,lnth] at m0;have i0:zV E 126 (some (.slice (some ⟨bo,0,none⟩) [z1,z2].length (UNK+1))) (some (iI 0))=some (.pointer (some ⟨bo,0,none⟩)):=zRP (k:=0) (by simp);have i1':zV E 126 (some (.slice (some ⟨bo,0,none⟩) [z1,z2].length (UNK+1))) (some (iI 1))=some (.pointer (some ⟨bo,1,none⟩)):=zRP (k:=1) (by simp);have lg1:zb E 129 k4 (sP z1.1 (0+0))=some (.slice (some ⟨z1.2.1,0,none⟩) z1.2.2.1.length z1.2.2.1.length):=zB (P:=E) zEh (o:=0+0) G1.g;obtain⟨kL,e5,n5,t5,o5,f5⟩:=nw o4 (rO [.slice (some ⟨z1.2.1,0,none⟩) z1.2.2.1.length z1.2.2.1.length] 131);refine zk3 ?_;simp only[i0,m0,zA,zx,zCj,lg1,zsM,zU,zF,show zd (.agg #[.slice (some ⟨z1.2.1,0,none⟩) z1.2.2.1.length z1.2.2.1.length])=[.slice (some ⟨z1.2.1,0,none⟩) z1.2.2.1.length z1.2.2.1.length] from rfl,e5];refine zk2 ?_;have xL:Fx NoB k4 kL:=by rw[← e5];exact (Fx.refl o4.ext.ok).new _
   have m1':=zB (P:=E) zCU (o:=1) ((f5 bo fI).trans iy);simp only[xCi,xCy,lnth] at m1';have lg2:zb E 129 kL (sP z2.1 (0+0))=some (.slice (some ⟨z2.2.1,0,none⟩) z2.2.2.1.length z2.2.2.1.length):=zB (P:=E) zEh (o:=0+0) ((f5 _ G2.ltg).trans G2.g);simp only[i1',m1',zA,zx,zCj,lg2,zXH];have g0L:kL.get k.qa=some (rO [iI L.n,vl,ve] 25):=(f5 _ (by omega)).trans ((fx.get _ (by omega) (λ h=>h)).trans g0');have dQ:=G1.len;have fh:=G2.len;have hsl1:=zAx (L.labs.map (zAY (zHg L M))) L;have hsl2:=zAx (M.labs.map (zAY (zHg L M))) M;rw[fR] at dQ;rw[iF] at fh;have j8:=fL.1;have mu:=fM.1;have c1:∀(i:Nat) (c:Value) (S:za),z1.2.2.1[i]?=some c->(zAO (L.labs.map (zAY (zHg L M))) L)[i]?=some S->CellOK kL c S:=λ i c S hc hS=>(G1.cell i c S hc (by rw[fR];exact hS)).fx xL λ _ _ h=>h;have c2:∀(i:Nat) (c:Value) (S:za),z2.2.2.1[i]?=some c->(zAO (M.labs.map (zAY (zHg L M))) M)[i]?=some S->CellOK kL c S:=λ i c S hc hS=>(G2.cell i c S hc (by rw[iF];exact hS)).fx xL λ _ _ h=>h;have W0:W30 kL k4.qa z1.2.2.1 (zAO (L.labs.map (zAY (zHg L M))) L) kL:=⟨Fx.refl o5.ext.ok,⟨z1.2.1,z1.2.2.1.length,0,t5,(f5 _ G1.lts).trans G1.s,by have:=G1.lts;omega,.inl ⟨rfl,by have:=G1.lts;omega⟩⟩,by omega,dQ,c1⟩;refine zwl (bs2:=z2.2.1) (es2:=0) (n1:=z1.2.2.1.length) (n:=L.n) (a2:=vl) (a3:=ve) (kL:=kL) (C2:=z2.2.2.1) (S1:=zAO (L.labs.map (zAY (zHg L M))) L) (S2:=zAO (M.labs.map (zAY (zHg L M))) M) ((f5 _ G2.lts).trans G2.s) (by have:=G2.lts;omega) (by have:=G2.lts;omega) fh c2 (λ i c b bv hb=>?_) g0L (by omega) (by omega) (by omega) (by omega) (λ i S hS=>?_) (by omega) ?_ z2.2.2.1.length 0 (by omega) kL z1.2.2.1 ?_ rfl
   ·have hi:i<z2.2.2.1.length:=(xAc.1 bv).1;have:=(G2.cell i c _ bv (xAA (by rw[← G2.len];exact hi))).lt hb;omega
   ·refine⟨by have:=zEj hS;have:=fM.2.1;omega,λ q hq=>?_⟩;obtain⟨e,he,_,rfl⟩:=(zIR hS q).1 hq;obtain⟨j,hj⟩:=xBN he;obtain⟨_,d2,_⟩:=zA1 hM hj;simp only[zSt];omega
   ·
    intro h C w;have hg:=w.gw;have lG:=w.fx;have oh:Own k h:=lG.own o5 λ c hc=>by have:c=k4.qa:=hc;omega
    refine zaI ?_;have hman:zBV kind=true:=by rcases hk with rfl|rfl <;> rfl
    obtain⟨h1,e6,n6,t6,o6,f6⟩:=nw oh (.row [.nilFunc,.nilFunc,.string ⟨#[]⟩] 112 0 false);obtain⟨h2,e7,n7,t7,o7,f7⟩:=up o6 (b:=h.qa) oh.ext.qa (rO (z7 kind) 112);have bz:=zni (h:=h) (kind:=kind);rw[e6,e7] at bz;simp only[zM,zX6 oh.ext.ok,zJ,pim hman,zA,zrV,zU,zF,zK,e6,bz];refine zaH ?_;obtain⟨kM,e8,n8,t8,o8,f8⟩:=nw o7 (.map [] 0);have fO:=w.bl;have iV:=lG.qa;have eM:Ext h kM:=⟨o8.ext.ok,by omega,λ b hb=>(f8 b (by omega)).trans ((f7 b (by omega)).trans (f6 b hb))⟩;simp only[zF,e8];refine zaG ?_;obtain⟨ca,cc,hv⟩:=hc.slice;rw[xCY] at hv;rw[hv];simp only[zTJ,zA];rw[← hv,← hQ];have g17:kM.get h.qa=some (rO (z7 kind) 112):=(f8 _ (by omega)).trans t7;refine zsY (kM:=kM) (m:=h2.qa) (SS:=SSW L M (zHg L M)) (a2:=vl) (a3:=ve) hW o8 (by omega) (by have:=o7.ext.qa;omega) (λ g f=>hg.ext (f.ext eM λ c hc=>by have:c=h2.qa:=hc;omega)) (λ g f=>hc.ext (f.ext o8.ext λ c hc=>by have:c=h2.qa:=hc;have:=o7.ext.qa;omega)) (λ g f=>?_) (b5:=k.qa) (N:=L.n) ?_ (by have:=o8.ext.qa;omega) (by have:=o5.ext.qa;omega) (by omega) (by omega) cl.length 0 (by omega) kM ⟨Fx.refl o8.ext.ok,by omega,⟨[],0,t8,List.nodup_nil,λ s hs=>absurd hs (by omega),λ q _=>rfl⟩,λ s s' hs=>absurd hs (by omega)⟩
    ·have:=zB (P:=E) zrq (o:=0+1) ((f.get h.qa (by omega) (by omega)).trans g17);rw[this,ziG]
    ·exact (eM.get _ (by omega)).trans ((lG.get _ (by omega) (by omega)).trans g0L)
   ·rw[List.take_zero,xCy,xCb];exact W0
end Go.Proofs
namespace Go.Proofs
open Go Go.AM
def zQ5{α:Type}:∀(A B:List α),A.Nodup->(∀ a∈A,a∈B)->A.length<=B.length
 | [],_,_,_=>xDF _
 | a::A,B,h,hs=>by
  obtain⟨B1,B2,rfl⟩:=List.append_of_mem (hs a xBZ);rw[xCV] at h;have:=zQ5 A (B1++B2) h.2 λ x hx=>by
   have:=hs x (xBG _ hx);rw[xCU,xAQ] at this;rcases this with h1|rfl|h1
   ·exact xBK _ h1
   ·exact absurd hx h.1
   ·exact xBB _ h1
  simp only[xBY,xCG] at this ⊢;omega
def zot{α:Type}{A B:List α}(hA:A.Nodup)(hB:B.Nodup):(A.length=B.length/\∀ a∈A,a∈B) ↔ ∀ a,a∈A ↔ a∈B:=by
 constructor
 ·rintro⟨h1,h2⟩ a;refine⟨h2 a,λ hb=>xAd λ ha=>?_⟩;have:=zQ5 (a::A) B (xCV.2 ⟨ha,hA⟩) λ x hx=>by
   rcases xCg.1 hx with rfl|hx
   ·exact hb
   ·exact h2 x hx
  simp only[xCG] at this;omega
 ·intro h;have a:=zQ5 A B hA λ x hx=>(h x).1 hx;have b:=zQ5 B A hB λ x hx=>(h x).2 hx;exact⟨by omega,λ x hx=>(h x).1 hx⟩
def zsc{L M:GL}(hL:zT L=false)(hM:zT M=false){a:CA}{u:Int}(hu:0<=u/\u<L.n+M.n):a∈zFj (jOf L M) u ↔ (u.toNat,a)∈zL4 L M:=by
 obtain⟨z1,z2,_,_⟩:=zf hL;obtain⟨y1,y2,_,_⟩:=zf hM;unfold zFj jOf;rw[zXS]
 ·rw[xAq,xDO (by omega)];simp
 ·intro x hx;rw[xBC];unfold zL4 at hx;rcases xCU.1 hx with h|h
  ·obtain⟨e,he,rfl⟩:=xCv.1 h;obtain⟨j,hj⟩:=xBN he;obtain⟨⟨d1,d2⟩,_⟩:=zA1 hL hj;unfold zMD;simp only;omega
  ·obtain⟨e,he,rfl⟩:=xCv.1 h;obtain⟨j,hj⟩:=xBN he;obtain⟨⟨d1,d2⟩,_⟩:=zA1 hM hj;unfold zMD;simp only;omega
def zXR{L M:GL}(fL:zII L)(fM:zII M)(u:Int):(zFj (jOf L M) u).length<=900:=by
 have:=zM2 (zL4 L M) (List.replicate (L.n+M.n).toNat []) u.toNat
 have h1:=fL.2.1;have h2:=fM.2.1;unfold zFj jOf;have h3:((List.replicate (L.n+M.n).toNat ([]:List CA))[u.toNat]?.getD []).length=0:=by rw[xAq];split <;> rfl
 rw[h3] at this;have h4:(zL4 L M).length=L.eds.length+M.eds.length:=by unfold zL4;simp
 omega
def j_rg{L M:GL}(hL:zT L=false)(hM:zT M=false)(u:Int)(a:CA)(ha:a∈zFj (jOf L M) u):0<=a.2/\a.2<L.n+M.n:=by
 obtain⟨z1,z2,_,_⟩:=zf hL;obtain⟨y1,y2,_,_⟩:=zf hM;have ab:u.toNat<(jOf L M).length:=by
  rcases xCq u.toNat (jOf L M).length with h|h
  ·exact h
  ·unfold zFj at ha;rw[xAx h] at ha;cases ha
 have hlen:(jOf L M).length=(L.n+M.n).toNat:=by unfold jOf;rw[zXT,xBC]
 have:a∈zFj (jOf L M) ((u.toNat:Nat):Int):=by unfold zFj at ha ⊢;exact ha
 rw[zsc hL hM ⟨by omega,by omega⟩] at this;unfold zL4 at this;rcases xCU.1 this with h|h
 ·obtain⟨e,he,h⟩:=xCv.1 h;obtain⟨j,hj⟩:=xBN he;obtain⟨_,_,d5,d6⟩:=zA1 hL hj;unfold zMD at h;have:=congrArg (λ x=>x.2.2) h;simp only at this;omega
 ·obtain⟨e,he,h⟩:=xCv.1 h;obtain⟨j,hj⟩:=xBN he;obtain⟨_,_,d5,d6⟩:=zA1 hM hj;unfold zMD at h;have:=congrArg (λ x=>x.2.2) h;simp only at this;omega
def zIH(rows:List (List CA))(kind:Int)(cl:List Int):Prop:=∀ s s':Nat,s<cl.length->s'<cl.length->zAg cl (s:Int)=zAg cl (s':Int)->∀ c,zF0 rows kind cl s c ↔ zF0 rows kind cl s' c
def zLl{cl:List Int}{s:Nat}(hs:s<cl.length):∃ f:Nat,f<=s/\zj (λ i=>decide (cl[i]?=some (zAg cl (s:Int)))) cl.length 0=(f:Int)/\zAg cl (f:Int)=zAg cl (s:Int):=by
 rcases zDm (λ i=>decide (cl[i]?=some (zAg cl (s:Int)))) cl.length 0 with ⟨_,h⟩|⟨j,h1,h2,h3,h4⟩
 ·have:=h s (xDF _) (by omega);rw[zBP hs] at this;simp at this
 ·refine⟨j,?_,h2,?_⟩
  ·rcases xCq s j with h|h
   ·have:=h4 s (xDF _) h;rw[zBP hs] at this;simp at this
   ·exact h
  ·have h3:=xBm h3;rw[zBP (show j<cl.length by omega)] at h3;exact xCc h3
def ztP{k:AH}{x y v:Value}{L M:GL}{kind:Int}{cl:List Int}(aa:k.ok)(hx:RL k x L)(hy:RL k y M)(hc:Arr k 1 v (cl.map i1))(an:cl.length<=9223372036854775807)(fL:zII L)(fM:zII M) :
  ∃ r,((zCR kind L M cl≠0->r=zCR kind L M cl)/\(zCR kind L M cl=0->(r=0\/r=360)/\(r=0 ↔ zIH (jOf L M) kind cl/\zAg cl 0=zAg cl L.n)))/\(zc E).call 51 [iI kind,x,y,v] k=some [(iI r,k)]:=by
 obtain⟨vl,ve,elsL,rfl,x2,x3,x4⟩:=id hx.ex;obtain⟨wl,we,elsM,rfl,y2,y3,y4⟩:=id hy.ex;obtain⟨ca,cc,hv⟩:=hc.slice;rw[xCY] at hv;generalize hQ:(λ r:Int=>(zCR kind L M cl≠0->r=zCR kind L M cl)/\(zCR kind L M cl=0->(r=0\/r=360)/\(r=0 ↔ zIH (jOf L M) kind cl/\zAg cl 0=zAg cl L.n)))=Q
 suffices h:∃ w,(∃ r,w=iI r/\Q r)/\(zc E).call 51 [iI kind,.agg ⟨[iI L.n,vl,ve]⟩,.agg ⟨[iI M.n,wl,we]⟩,v] k=some [(w,k)] by
  obtain⟨w,⟨r,rfl,hr⟩,e⟩:=h;exact⟨r,by rw[← hQ] at hr;exact hr,e⟩
 refine zft aa (zks ?_);obtain⟨k1,e1,n1,t1,⟨f1,w1⟩,o1⟩:=nwG (Fx.refl (P:=NoB) (zAR k)) (xAF _) (rO [iI L.n,vl,ve] 25);obtain⟨k2,e2,n2,t2,⟨f2,w2⟩,o2⟩:=nwG f1 w1 (rO [iI M.n,wl,we] 25);simp only[zU,zF,zK,e1,e2,zR];have fin:∀(r:Int) (m:AH),Q r->Fx NoB k.qb m->KR E [.tmp 4] (λ x m=>(zm x=true/\∃ r,x=iI r/\Q r)/\k.qa<=m.wm) .ret [iI r] m:=λ r m hr f=>by
  rw[zAC];exact⟨zO ▸ trivial,⟨rfl,r,rfl,hr⟩,f.wm k.qa (by rw[zAN];omega) (λ _ h=>h.elim) (xAF _)⟩
 have g1:=(o2 k.qa (by simp at n1;omega)).trans t1;have a1:=zN (P:=E) zBT (o:=0) g1 (by simp);have a2:=zN (P:=E) zBT (o:=0) t2 (by simp);simp only[xCe,List.take] at a1 a2;have ek:Ext k k2:=(Fx.toFresh (P:=NoB) aa).ext0.trans f2.ext0;have hx2:=hx.ext ek;have iD:=hy.ext ek;have cN:=hc.ext ek;refine zkr ?_;simp only[a1,a2,zA,zM,zYM f2.ok hx2 iD cN an,zJ];refine zkq ?_;rw[zAS,zA];by_cases hz:zCR kind L M cl=0;rotate_left
 ·rw[xAI hz,xAM,ze];exact zkp (fin _ k2 (by rw[← hQ];exact⟨λ _=>rfl,λ h=>absurd h hz⟩) f2)
 rw[xAJ hz,xAL,zZ];have hQ':∀ r:Int,(r=0\/r=360)->(r=0 ↔ zIH (jOf L M) kind cl/\zAg cl 0=zAg cl L.n)->Q r:=λ r h1 h2=>by rw[← hQ];exact⟨λ h=>absurd hz h,λ _=>⟨h1,h2⟩⟩
 obtain⟨hL,hM,hn⟩:zT L=false/\zT M=false/\(cl.length:Int)=L.n+M.n:=by
  unfold zCR at hz;cases hb:(zT L||zT M) with
  | true=>rw[hb] at hz;simp at hz
  | false=>
   rw[hb] at hz;obtain⟨h1,h2⟩:=xBJ.1 hb;refine⟨h1,h2,xAd λ h=>?_⟩;simp only[xBX,xDI,ne_eq,h,xBx,xDM] at hz;split at hz <;> simp at hz
 obtain⟨z1,z2,_,_⟩:=zf hL;obtain⟨y1,y2',_,_⟩:=zf hM;have j8:=fL.1;have mu:=fM.1;obtain⟨N1,fY⟩:=xAp (show 0<=L.n by omega);have lL:zb E 3 k2 (sP k.qa (0+0))=some (iI (N1:Int)):=by rw[← fY];exact zB (P:=E) zAE (o:=0+0) g1
 refine zko ?_;obtain⟨p0,q1,q2⟩:=zCc cN (Ext.refl f2.ok) (zBP (show 0<cl.length by omega));obtain⟨p1,q3,q4⟩:=zCc cN (Ext.refl f2.ok) (zBP (show N1<cl.length by omega));rw[show (some (iI 0))=some (iI ((0:Nat):Int)) from rfl,q1,zA,q2,zA,zAP,zA,lL,zA,q3,zA,q4,zA,zAS,zA];by_cases h0:zAg cl ((0:Nat):Int)=zAg cl (N1:Int);rotate_left
 ·rw[xAI h0,xAM,ze];exact zkn (fin _ k2 (hQ' 360 (.inr rfl) ⟨λ h=>(by cases h),λ h=>absurd (by rw[← fY];exact h.2) h0⟩) f2)
 rw[xAJ h0,xAL,zZ];refine zkm ?_;have hNN:L.n+M.n=(cl.length:Int):=hn.symm;simp only[a1,a2,zA,zM];refine (zqR f2.ok hx2 iD hL hM hNN).mono ?_;rintro⟨va,m⟩ ⟨bs,cells,rfl,G,cC,fm⟩;simp only at fm G ⊢;refine zkl ?_;have ij:∀(u:Int) (a:CA),a∈zFj (jOf L M) u->0<=a.2/\a.2<(cl.length:Int):=λ u a h=>by rw[hn];exact j_rg hL hM u a h
 have loop:∀(d i:Nat),i+d=cl.length->∀ g,Fx NoB m g->(∀ s:Nat,s<i->∀ f:Nat,f<=s->zAg cl (f:Int)=zAg cl (s:Int)->zj (λ i=>decide (cl[i]?=some (zAg cl (s:Int)))) cl.length 0=(f:Int)->∀ c,zF0 (jOf L M) kind cl f c ↔ zF0 (jOf L M) kind cl s c)->
   PI (C51 true) (KR E [.tmp 4] λ x m=>(zm x=true/\∃ r,x=iI r/\Q r)/\k.qa<=m.wm) 8 [iI kind,v,.slice (some ⟨bs,0,none⟩) cl.length cl.length,iI (i:Int)] g:=by
  intro d
  induction d with
  | zero=>
   intro i hi g f hS;refine zSP ?_;rw[show zh E (zAc [(34,v)]) (zA4 B51 [1,1,1,1,0,1,0,0,0,0] 2) g=some (iI (cl.length:Int)) by rw[hv];exact @zMx _ _ _ _,zA,zP,zA,xAI (by omega),zZ];refine zZi (fin 0 g (hQ' 0 (.inl rfl) ⟨λ _=>⟨λ s s' hs aV he c=>?_,by rw[fY];exact h0⟩,λ _=>rfl⟩) (f2.trans fm (λ _ h=>h.elim) |>.trans f λ _ h=>h.elim));obtain⟨f1,a1,a2,a3⟩:=zLl hs;obtain⟨f1',b1,b2,b3⟩:=zLl aV;have:f1=f1':=by rw[he] at a2;have:=a2.symm.trans b2;omega
   subst this;rw[← hS s (by omega) f1 a1 a3 a2 c,hS s' (by omega) f1 b1 b3 b2 c]
  | succ d ih=>
   intro i hi g f hS;have gF:i<cl.length:=by omega
   refine zSP ?_;rw[show zh E (zAc [(34,v)]) (zA4 B51 [1,1,1,1,0,1,0,0,0,0] 2) g=some (iI (cl.length:Int)) by rw[hv];exact @zMx _ _ _ _,zA,zP,zA,xAJ (by omega),ze];refine zkk ?_;have eg:Ext k2 g:=fm.ext0.trans f.ext0;obtain⟨pi,r1,r2⟩:=zCc cN eg (zBP gF);obtain⟨fi,c1,c2,c3⟩:=zLl gF;rw[r1,zA,r2,zA,zM,ztF cN an eg,zJ,c2];refine zZl ?_;rw[zAS];have next:∀ g',Fx NoB m g'->(∀ c,zF0 (jOf L M) kind cl fi c ↔ zF0 (jOf L M) kind cl i c)->PI (C51 true) (KR E [.tmp 4] λ x m=>(zm x=true/\∃ r,x=iI r/\Q r)/\k.qa<=m.wm) 12 [iI kind,v,.slice (some ⟨bs,0,none⟩) cl.length cl.length,iI (i:Int)] g':=λ g' f' h=>by
    refine zZj ?_;rw[zk _ (zCS gF an),zA];refine ih (i+1) (by omega) g' f' λ s hs f0 eT lJ ix=>?_;rcases xAi.1 hs with hs|rfl
    ·exact hS s hs f0 eT lJ ix
    ·have:f0=fi:=by have:=ix.symm.trans c2;omega
     subst this;exact h
   by_cases he:(fi:Int)=(i:Int)
   ·rw[xAJ he];simp only[xAL,zI,zS,show (false==true)=false from rfl,xAH,zA,zF,zE,zZ];exact next g f λ c=>by rw[he]
   ·rw[xAI he];simp only[xAM,zI,zS,xAO,xAG,zA,zM];refine (zYL f.ok eg (G.nb f) cC (by omega) (zXR fL fM) ij (cN.ext eg) rfl (s:=fi) (by omega)).mono ?_;rintro⟨v1,g1⟩ ⟨A,A1,A2,A3,A4,A5,A6⟩;simp only at A1 A5 A6 ⊢;have f1:=f.trans A6 λ _ h=>h.elim;have eg1:=eg.trans A6.ext0;refine (zYL A6.ok eg1 (G.nb f1) cC (by omega) (zXR fL fM) ij (cN.ext eg1) rfl gF).mono ?_;rintro⟨v2,g2⟩ ⟨B,B1,B2,B3,B4,B5,B6⟩;simp only at B1 B5 B6 ⊢;have f2':=f1.trans B6 λ _ h=>h.elim;have eg2:=eg1.trans B6.ext0;obtain⟨r,hr,ev⟩:=zqQ B6.ok eg2 (A1.fx B6 λ _ _ h=>h) B1 (λ b h1 h2=>by have:=A1.lt h1;have:=B5 b h2;omega) (by omega) (by omega);refine ev.mono ?_;rintro⟨v3,g3⟩ ⟨rfl,f3⟩;simp only at f3 ⊢;have f3':Fx NoB m g3:=f2'.trans f3 λ c hc=>.inr (by have:=B5 c hc;have:=f1.qa;omega);have aA:r=true ↔ ∀ c,zF0 (jOf L M) kind cl fi c ↔ zF0 (jOf L M) kind cl i c:=by
     rw[hr];refine (zot A2 B2).trans (forall_congr' λ c=>?_);rw[A4 c,B4 c]
    simp only[zq,zA,zE,zAq];refine⟨λ ht=>zZk (fin 360 g3 (hQ' 360 (.inr rfl) ⟨λ h=>(by cases h),λ h=>?_⟩) (f2.trans fm (λ _ h=>h.elim) |>.trans f3' λ _ h=>h.elim)),λ hf=>next g3 f3' (aA.1 (by simpa using hf))⟩;have:=aA.2 λ c=>h.1 fi i (by omega) gF c3 c;rw[this] at ht;cases ht
 exact loop cl.length 0 (by omega) m (Fx.refl fm.ok) λ s hs=>by omega
end Go.Proofs
namespace Go.Proofs
open Go Go.AM
def jst(L M:GL)(u:Int)(c:CL)(v:Int):Prop:=(u<L.n/\stp L u c v)\/(L.n<=u/\stp M (u-L.n) c (v-L.n))
section
variable {L M:GL} {kind:Int} {cl:List Int}
def zYf{L:GL}(hL:zT L=false){d:Int}(hd:0<=d){u v:Int}{c:CL}(hu:0<=u):(u.toNat,(c,v))∈L.eds.map (zMD d L) ↔ d<=u/\stp L (u-d) c (v-d):=by
 rw[xCv];constructor
 ·rintro⟨e,he,h⟩;obtain⟨j,hj⟩:=xBN he;obtain⟨⟨d1,d2⟩,⟨d3,d4⟩,d5,d6⟩:=zA1 hL hj;unfold zMD at h;simp only[xCl] at h;obtain⟨h1,h2,h3⟩:=h;refine⟨by omega,e,he,by omega,?_,by omega⟩;have ab:e.2.1.toNat<L.labs.length:=by omega
  rw[xAA ab] at h2 ⊢;rw[← h2];rfl
 ·rintro⟨h0,e,he,h1,h2,h3⟩;refine⟨e,he,?_⟩;unfold zMD;rw[h2,h1,h3];simp only[xCH,xCl];exact⟨by omega,trivial,by omega⟩
def zPl(hL:zT L=false)(hM:zT M=false){u v:Int}{c:CL}(hu:0<=u/\u<L.n+M.n):(c,v)∈zFj (jOf L M) u ↔ jst L M u c v:=by
 obtain⟨z1,z2,_,_⟩:=zf hL;rw[zsc hL hM hu];unfold zL4 jst;rw[xCU,zYf hL (Int.le_refl 0) hu.1,zYf hM (by omega) hu.1];refine or_congr ?_ Iff.rfl;rw[Int.sub_zero,Int.sub_zero];exact⟨λ h=>⟨(zCx hL h.2).1.2,h.2⟩,λ h=>⟨hu.1,h.2⟩⟩
def zIv(hL:zT L=false)(hM:zT M=false){u v:Int}{c:CL}(h:jst L M u c v):(0<=v/\v<L.n+M.n)/\(c∈L.labs\/c∈M.labs):=by
 obtain⟨z1,z2,_,_⟩:=zf hL;obtain⟨y1,y2,_,_⟩:=zf hM;rcases h with ⟨_,h⟩|⟨_,h⟩
 ·obtain⟨_,a,b⟩:=zCx hL h;exact⟨by omega,.inl b⟩
 ·obtain⟨_,a,b⟩:=zCx hM h;exact⟨by omega,.inr b⟩
def zTm(hL:zT L=false)(hM:zT M=false){cs:List CL}{u n v:Int}(hu:0<=u/\u<L.n+M.n):wst (SSW L M cs) u n v ↔ ∃ c,jst L M u c v/\n=zAY cs c:=by
 by_cases h:u<L.n
 ·have:=zsx (M:=M) (cs:=cs) hL u hu.1 h n v;rw[xDA] at this;rw[this];constructor
  ·rintro⟨c,s',h1,h2,h3⟩;rw[xDA] at h2;subst h2;exact⟨c,.inl ⟨h,h1⟩,h3⟩
  ·rintro⟨c,⟨_,h1⟩|⟨h1,_⟩,h3⟩
   ·exact⟨c,v,h1,(xDA v).symm,h3⟩
   ·omega
 ·have:=zsw (cs:=cs) hL hM (u-L.n) (by omega) (by omega) n v;rw[show L.n+(u-L.n)=u by omega] at this;rw[this];constructor
  ·rintro⟨c,s',h1,rfl,h3⟩;refine⟨c,.inr ⟨by omega,?_⟩,h3⟩;rw[show L.n+s'-L.n=s' by omega];exact h1
  ·rintro⟨c,⟨h1,_⟩|⟨_,h1⟩,h3⟩
   ·omega
   ·exact⟨c,v-L.n,h1,by omega,h3⟩
def zhr(hL:zT L=false)(hM:zT M=false){c:CL}(hc:c∈L.labs\/c∈M.labs)(h:c.1=-1):c.2=[]:=by
 rcases hc with hc|hc
 ·obtain⟨i,hi⟩:=xBN hc;exact zCo hL hi h
 ·obtain⟨i,hi⟩:=xBN hc;exact zCo hM hi h
def zsS(hL:zT L=false)(hM:zT M=false){c d:CL}(hc:c∈L.labs\/c∈M.labs)(hd:d∈L.labs\/d∈M.labs)(e:zAY (zHg L M) d=zAY (zHg L M) c):d=c:=by
 obtain⟨c1,c2,c3⟩:=zP7 L M;rcases hc with hc|hc <;> rcases hd with hd|hd
 ·exact zLU c1 c2 c2 hL hL hc hd e
 ·exact zLU c1 c2 c3 hL hM hc hd e
 ·exact zLU c1 c3 c2 hM hL hc hd e
 ·exact zLU c1 c3 c3 hM hM hc hd e
def zLP(hL:zT L=false)(hM:zT M=false){a:CA}(hc:a.1∈L.labs\/a.1∈M.labs):zJ0 2 a=true ↔ zAY (zHg L M) a.1=0:=by
 unfold zJ0;rw[num_zero];simp only[xDG,xCk,xAP,xBl];exact⟨λ h=>h.1,λ h=>⟨h,zhr hL hM hc h⟩⟩
def zPJ(hL:zT L=false)(hM:zT M=false){s u:Int}(hs:0<=s/\s<L.n+M.n):(zhE (jOf L M) 2 s u->(0<=u/\u<L.n+M.n)/\zYw (wst (SSW L M (zHg L M))) s u)/\(zYw (wst (SSW L M (zHg L M))) s u->(0<=u/\u<L.n+M.n)/\zhE (jOf L M) 2 s u):=by
 constructor
 ·intro h
  induction h with
  | refl=>exact⟨hs,.refl⟩
  | @step u a _ h2 h3 ih=>
   obtain⟨i1,i2⟩:=ih;obtain⟨c,v⟩:=a;have hj:=(zPl hL hM i1).1 h2;have hr:=zIv hL hM hj;exact⟨hr.1,.step i2 ((zTm hL hM i1).2 ⟨c,hj,((zLP hL hM (a:=(c,v)) hr.2).1 h3).symm⟩)⟩
 ·intro h
  induction h with
  | refl=>exact⟨hs,.refl⟩
  | @step v w _ e ih=>
   obtain⟨i1,i2⟩:=ih;obtain⟨c,hj,hn⟩:=(zTm hL hM i1).1 e;have hr:=zIv hL hM hj;exact⟨hr.1,.step (a:=(c,w)) i2 ((zPl hL hM i1).2 hj) ((zLP hL hM (a:=(c,w)) hr.2).2 hn.symm)⟩
def rch_one{rows:List (List CA)}{s u:Int}:zhE rows 1 s u ↔ u=s:=
 ⟨λ h=>by
  induction h with
  | refl=>rfl
  | step _ _ h _=>simp[zJ0] at h,λ h=>by rw[h];exact .refl⟩
def zIG(hL:zT L=false)(hM:zT M=false)(hk:kind=1\/kind=2){s:Int}(hs:0<=s/\s<L.n+M.n){n k:Int}:zgt (wst (SSW L M (zHg L M))) (zAg cl) kind s n k ↔ ∃ c,zF0 (jOf L M) kind cl s (c,k)/\n=zAY (zHg L M) c:=by
 unfold zgt zF0;rcases hk with rfl|rfl
 ·rw[xDO rfl];constructor
  ·rintro⟨v,h1,h2⟩;obtain⟨c,hj,hn⟩:=(zTm hL hM hs).1 h1;exact⟨c,⟨s,(c,v),.refl,(zPl hL hM hs).2 hj,by simp[zXu,zJ0],by rw[h2]⟩,hn⟩
  ·rintro⟨c,⟨u,⟨d,v⟩,h1,h2,_,h4⟩,hn⟩;obtain rfl:=rch_one.1 h1;simp only[xCl] at h4;obtain⟨rfl,h5⟩:=h4;exact⟨v,(zTm hL hM hs).2 ⟨c,(zPl hL hM hs).1 h2,hn⟩,h5.symm⟩
 ·rw[xDN (by decide)];constructor
  ·rintro⟨w,v,h1,h2,h3,h4,h5⟩;obtain⟨hw,hr⟩:=(zPJ hL hM hs).2 h1;obtain⟨c,hj,hn⟩:=(zTm hL hM hw).1 h3;have aY:=(zIv hL hM hj).2;refine⟨c,⟨w,(c,v),hr,(zPl hL hM hw).2 hj,?_,by rw[h4]⟩,hn⟩;unfold zXu;rw[xAJ h2,xCk];cases hq:(zJ0 2 (c,v)&&decide (zAg cl v=zAg cl s)) with
   | false=>rfl
   | true=>
    rw[xAP,xBl,zLP hL hM (a:=(c,v)) aY] at hq;exact absurd ⟨hn.trans hq.1,h4.symm.trans hq.2⟩ h5
  ·rintro⟨c,⟨u,⟨d,v⟩,h1,h2,h3,h4⟩,hn⟩;obtain⟨hu,hr⟩:=(zPJ hL hM hs).1 h1;simp only[xCl] at h4;obtain⟨rfl,h5⟩:=h4;have hj:=(zPl hL hM hu).1 h2;have aY:=(zIv hL hM hj).2;unfold zXu at h3;rw[xAP,xBl] at h3;refine⟨u,v,hr,h3.1,(zTm hL hM hu).2 ⟨c,hj,hn⟩,h5.symm,λ h=>?_⟩;have:=h3.2;rw[(zLP hL hM (a:=(c,v)) aY).2 (hn.symm.trans h.1),xAJ (h5.symm.trans h.2)] at this;cases this
def zRy(hL:zT L=false)(hM:zT M=false)(hk:kind=1\/kind=2){s:Int}(hs:0<=s/\s<L.n+M.n){c:CA}(h:zF0 (jOf L M) kind cl s c):c.1∈L.labs\/c.1∈M.labs:=by
 obtain⟨u,⟨d,v⟩,h1,h2,_,rfl⟩:=h;have hu:0<=u/\u<L.n+M.n:=by
  rcases hk with rfl|rfl
  ·rw[rch_one.1 h1];exact hs
  ·exact ((zPJ hL hM hs).1 h1).1
 exact (zIv hL hM ((zPl hL hM hu).1 h2)).2
def zhY(hL:zT L=false)(hM:zT M=false)(hk:kind=1\/kind=2)(hn:(cl.length:Int)=L.n+M.n):zIH (jOf L M) kind cl ↔ zJN (SSW L M (zHg L M)) cl kind cl.length:=by
 constructor
 ·intro h s s' hs aV he n k;rw[zIG hL hM hk ⟨by omega,by omega⟩,zIG hL hM hk ⟨by omega,by omega⟩];exact xDC λ c=>and_congr_left' (h s s' hs aV he (c,k))
 ·intro h s s' hs aV he c;have one:∀ s s':Nat,s<cl.length->s'<cl.length->zAg cl (s:Int)=zAg cl (s':Int)->zF0 (jOf L M) kind cl s c->zF0 (jOf L M) kind cl s' c:=λ s s' hs aV he hc=>by
   have h1:=(h s s' hs aV he (zAY (zHg L M) c.1) c.2).1 ((zIG hL hM hk ⟨by omega,by omega⟩).2 ⟨c.1,hc,rfl⟩);obtain⟨d,h2,h3⟩:=(zIG hL hM hk ⟨by omega,by omega⟩).1 h1;have:=zsS hL hM (zRy hL hM hk ⟨by omega,by omega⟩ h2) (zRy hL hM hk (s:=(s:Int)) ⟨by omega,by omega⟩ hc) h3;simp only at this;rw[← this] at h2;exact h2
  exact⟨one s s' hs aV he,one s' s aV hs he.symm⟩
end
end Go.Proofs
namespace Go.Proofs
open Go Go.AM Go.Sort
abbrev loV(b o n c i:Nat):Value:=.slice (cond (Nat.beq c i) (some ⟨b,o,none⟩) (some ⟨b,o+i*1,none⟩)) (n-i) (c-i)
abbrev hiV(b o c i:Nat):Value:=.slice (cond (Nat.beq c 0) (some ⟨b,o,none⟩) (some ⟨b,o+0*1,none⟩)) i (c-0)
def zpZ{T:Tm}{p:Oper}{u w b o n c i:Nat}(ho:p.op=.slice 47 (.tmp u) (some (.tmp w)) none none)(h1:T.get u=.slice (some ⟨b,o,none⟩) n c)(h2:T.get w=iI (i:Int))(hn:n<=c)(hc:c<UNK)(hi:i<=n) :
  zw E T p=some (loV b o n c i):=by
 have f1:zr T (.tmp u)=false:=by show zm (T.get u)=false;rw[h1];rfl
 have o1:zAj T (.tmp u)=some (.slice (some ⟨b,o,none⟩) n c):=by show some (T.get u)=_;rw[h1]
 have o2:zBu T [.tmp w]=some [iI (i:Int)]:=by show some [T.get w]=_;rw[h2]
 have e:zw E T p=zEk E 47 (.slice (some ⟨b,o,none⟩) n c) (some (iI (i:Int))) none none:=by
  simp only[zw,ho,zIe,f1,xAH,xBg,xCf,o1,xBc,xBb,o2];rfl
 rw[e];simp only[zEk,zMK,sliceS,zg8,zGK,zE0];show zhC 1 (some ⟨b,o,none⟩) n c i n=_;have hu:Nat.ble UNK c=false:=ble_false.2 (by omega);simp only[zhC,ble_true.2 hi,xAG,hu,ble_true.2 hn,zGe]
def zpa{T:Tm}{p:Oper}{u w b o n c i:Nat}(ho:p.op=.slice 47 (.tmp u) none (some (.tmp w)) none)(h1:T.get u=.slice (some ⟨b,o,none⟩) n c)(h2:T.get w=iI (i:Int))(hn:n<=c)(hc:c<UNK)(hi:i<=n) :
  zw E T p=some (hiV b o c i):=by
 have f1:zr T (.tmp u)=false:=by show zm (T.get u)=false;rw[h1];rfl
 have o1:zAj T (.tmp u)=some (.slice (some ⟨b,o,none⟩) n c):=by show some (T.get u)=_;rw[h1]
 have o2:zBu T [.tmp w]=some [iI (i:Int)]:=by show some [T.get w]=_;rw[h2]
 have e:zw E T p=zEk E 47 (.slice (some ⟨b,o,none⟩) n c) none (some (iI (i:Int))) none:=by
  simp only[zw,ho,zIe,f1,xAH,xBg,xCf,o1,xBc,xBb,o2];rfl
 rw[e];simp only[zEk,zMK,sliceS,zg8,zGK,zE0];show zhC 1 (some ⟨b,o,none⟩) n c 0 i=_;have hu:Nat.ble UNK c=false:=ble_false.2 (by omega);simp only[zhC,ble_true.2 (xDF i),xAG,hu,ble_true.2 (show i<=c by omega),zGe,Nat.sub_zero];rfl
def zsZ{h:AH}{b o n c i:Nat}{els:List (List Value)}(A:Arr h 1 (.slice (some ⟨b,o,none⟩) n c) els)(hn:n<=c)(hi:i<=n):Arr h 1 (loV b o n c i) (els.drop i):=by
 generalize hv:Value.slice (some ⟨b,o,none⟩) n c=v at A;cases A with
 | nil a c'=>
  simp only[xBu] at hv;obtain⟨_,rfl,_⟩:=hv;have:i=0:=by omega
  subst this;exact .nil _ _
 | @row b' o' c' vs ty es ro _ hb ab hl hz=>
  simp only[xBu,xAN,xCo,xDL] at hv;obtain⟨⟨rfl,rfl⟩,rfl,rfl⟩:=hv;unfold loV;cases hbq:Nat.beq c i with
  | true=>
   have e:=xAw hbq;subst e;have:els.length=c:=by omega
   rw[show els.length-c=0 by omega,xAs (by omega)];exact .nil _ _
  | false=>
   have:=Arr.row (h:=h) (z:=1) (b:=b) (o:=o+i*1) (c:=c-i) (els:=els.drop i) hb ab (by rw[xCE];omega) λ j e he=>by
    rw[xBW] at he;obtain⟨a1,a2⟩:=hz (i+j) e he;exact⟨a1,by rw[← a2];congr 2;omega⟩
   rw[xCE] at this;exact this
def zsl{h:AH}{b o n c i:Nat}{els:List (List Value)}(A:Arr h 1 (.slice (some ⟨b,o,none⟩) n c) els)(hi:i<=n)(hn:n<=c):Arr h 1 (hiV b o c i) (els.take i):=by
 generalize hv:Value.slice (some ⟨b,o,none⟩) n c=v at A;cases A with
 | nil a c'=>
  simp only[xBu] at hv;obtain⟨_,rfl,_⟩:=hv;have:i=0:=by omega
  subst this;exact .nil _ _
 | @row b' o' c' vs ty es ro _ hb ab hl hz=>
  simp only[xBu,xAN,xCo,xDL] at hv;obtain⟨⟨rfl,rfl⟩,rfl,rfl⟩:=hv;unfold hiV;have hlen:(els.take i).length=i:=by rw[xCD];omega
  have:=Arr.row (h:=h) (z:=1) (b:=b) (o:=o) (c:=c-0) (els:=els.take i) hb ab (by omega) λ j e he=>by
   rw[List.getElem?_take] at he;split at he
   ·exact hz j e he
   ·cases he
  rw[hlen] at this;rw[show o+0*1=o by omega];cases Nat.beq c 0 <;> exact this
def zD5(l:List Int):List (Int×Int):=l.zipIdx.map λ p=>(p.1,(p.2:Int))
def zGI(l:List Int):(zD5 l).length=l.length:=by simp[zD5]
def zFK(l:List Int)(i:Nat):(zD5 l)[i]?=(l[i]?).map λ x=>(x,(i:Int)):=by
 simp only[zD5,xBi,List.getElem?_zipIdx,Option.map_map];cases l[i]? <;> simp
def numb_mem{l:List Int}{x t:Int}:(x,t)∈zD5 l ↔ 0<=t/\l[t.toNat]?=some x:=by
 constructor
 ·intro h;obtain⟨i,hi⟩:=xBN h;rw[zFK] at hi;obtain⟨y,hy,e⟩:=xAu.1 hi;simp only[xCl] at e;obtain⟨rfl,rfl⟩:=e;exact⟨by omega,by simpa using hy⟩
 ·rintro⟨h0,h1⟩;refine xBI (i:=t.toNat) ?_;rw[zFK,h1,xCS,show ((t.toNat:Nat):Int)=t by omega]
def zC0(cl:List Int)(N:Nat):List (Int×Int):=zJ6 ((zD5 (cl.take N)).map zB9) (zD5 (cl.drop N))
def prs_mem{cl:List Int}{N:Nat}{s t:Int}:(s,t)∈zC0 cl N ↔ (0<=s/\s<(N:Int))/\0<=t/\∃ c,cl[s.toNat]?=some c/\cl[N+t.toNat]?=some c:=by
 unfold zC0;rw[zon];constructor
 ·rintro⟨c,h1,h2⟩;obtain⟨⟨a,b⟩,h3,e⟩:=xCv.1 h1;simp only[zB9,xCl] at e;obtain⟨rfl,rfl⟩:=e;obtain⟨h4,h5⟩:=numb_mem.1 h3;obtain⟨h6,h7⟩:=numb_mem.1 h2;rw[List.getElem?_take] at h5;split at h5
  ·rename_i h8;rw[xBW] at h7;exact⟨⟨h4,by omega⟩,h6,_,h5,h7⟩
  ·cases h5
 ·rintro⟨⟨h1,h2⟩,h3,c,h4,h5⟩;refine⟨c,xCv.2 ⟨(c,s),numb_mem.2 ⟨h1,?_⟩,rfl⟩,numb_mem.2 ⟨h3,?_⟩⟩
  ·rw[xAg (by omega)];exact h4
  ·rw[xBW];exact h5
def zIj(l:List Int):(zD5 l).Pairwise λ p q=>p.2<q.2:=by
 rw[xAe];intro i j hi hj eQ;have a:=zFK l i;have b:=zFK l j;rw[xAA hi] at a;rw[xAA hj] at b;rw[zGI] at hi hj;rw[xAA hi] at a;rw[xAA hj] at b;simp only[xCS,xAN] at a b;rw[a,b];simp;omega
def zPL{A B:List (Int×Int)}(hA:A.Pairwise λ p q=>p.1<q.1)(hB:B.Pairwise λ p q=>p.2<q.2):zBM (zJ6 A B):=by
 have hT:∀ q,(toL B q).Pairwise λ a b=>a<b:=λ q=>by
  unfold toL;rw[xBz];exact hB.filter _
 unfold zJ6
 induction A with
 | nil=>exact List.Pairwise.nil
 | cons p A ih=>
  obtain⟨h1,h2⟩:=xBf.1 hA;rw[xBv];refine xBO.2 ⟨?_,ih h2,?_⟩
  ·rw[xBz];exact List.Pairwise.imp (λ {a b} (h:a<b)=>(zAp (p.1,a) (p.1,b)).2 (.inr ⟨rfl,h⟩)) (hT p.2)
  ·intro a ha b hb;obtain⟨u,_,rfl⟩:=xCv.1 ha;obtain⟨q,hq,hb⟩:=xCM.1 hb;obtain⟨w,_,rfl⟩:=xCv.1 hb;exact (zAp _ _).2 (.inl (h1 q hq))
def zJ5(cl:List Int)(N:Nat):zBM (zC0 cl N):=by
 refine zPL ?_ (zIj _);rw[xBz];exact (zIj _).imp λ {a b} h=>h
def zwg:(zA4 B29 [1,1,1,0,0] 3).op=.slice 47 (.tmp 29) (some (.tmp 31)) none none:=by kernel_rfl
def zwf:(zA4 B29 [1,1,1,1,1,0,0] 3).op=.slice 47 (.tmp 50) none (some (.tmp 52)) none:=by kernel_rfl
def zs6{b o n c i:Nat}(hn:n<=c)(hc:c<UNK)(hi:i<=n):zw E (zAc [(29,.slice (some ⟨b,o,none⟩) n c),(31,iI (i:Int))]) (zA4 B29 [1,1,1,0,0] 3)=some (loV b o n c i):=zpZ zwg (by kernel_rfl) (by kernel_rfl) hn hc hi
def zs5{b o n c i:Nat}(hn:n<=c)(hc:c<UNK)(hi:i<=n):zw E (zAc [(50,.slice (some ⟨b,o,none⟩) n c),(52,iI (i:Int))]) (zA4 B29 [1,1,1,1,1,0,0] 3)=some (hiV b o c i):=zpa zwf (by kernel_rfl) (by kernel_rfl) hn hc hi
def zS3:zAT E 32 (some [])=some (.agg ⟨[iI 0,.slice none 0 0]⟩):=by kernel_rfl
def PrO(k:AH)(kd e:Int)(F:List (Int×Int))(v:Value)(m:AH):Prop:=∃ w,v=.tuple #[.agg ⟨[iI kd,w]⟩,iI e]/\Arr m 2 w (F.map zC)/\Fx NoB k m
def PrQ(k:AH)(kd e:Int)(F:List (Int×Int))(v:Value)(m:AH):Prop:=∃ w,v=.tuple #[.agg ⟨[iI kd,w]⟩,iI e]/\Ac k.qa m w F/\Fx NoB k.qb m
def PrO.of{k:AH}{kd e:Int}{F:List (Int×Int)}{x:Value×AH}(aa:k.ok)(h:∃ k',PrQ k kd e F x.1 k'/\((k.qa<=k'.wm/\zm x.1=true/\x.2=k)\/x.2=⟨k'.t,k'.qa,cond (Nat.ble k.wm k'.wm) k.wm k'.wm⟩)):PrO k kd e F x.1 x.2:=by
 obtain⟨v,m⟩:=x;obtain⟨k',⟨w,h1,h2,h3⟩,⟨_,h4,h5⟩|h5⟩:=h
 ·simp only at h1 h4 h5 ⊢;subst h5;rcases h2 with ⟨rfl,rfl⟩|⟨b,rfl,_⟩
  ·exact⟨_,h1,.nil _ _,Fx.refl aa⟩
  ·rw[h1] at h4;cases h4
 ·simp only at h1 h5 ⊢;subst h5;exact⟨w,h1,(h2.wm _).arr,h3.back⟩
def ztR{k:AH}{x y:Value}{b o n c:Nat}{L M:GL}{kind:Int}{cl:List Int}(aa:k.ok)(hx:RL k x L)(hy:RL k y M)(hL:zT L=false)(hM:zT M=false)(hk:kind=1\/kind=2)(hc:Arr k 1 (.slice (some ⟨b,o,none⟩) n c) (cl.map i1))(aB:n<=c)(hU:c<UNK)(hn:(cl.length:Int)=L.n+M.n)(hl:∀ c∈cl,0<=c/\c<=40000)(fL:zII L)(fM:zII M) :
  Ev true ((zc E).call 29 [iI kind,x,y,.slice (some ⟨b,o,none⟩) n c] k) λ z=>PrO k kind 0 (zC0 cl L.n.toNat) z.1 z.2:=by
 obtain⟨l1,l2,_⟩:=zf hL;obtain⟨m1,m2,_⟩:=zf hM;have j8:=fL.1;have mu:=fM.1;obtain⟨ca,cc,dw⟩:=hc.slice;simp only[xCY,xBu] at dw;obtain⟨_,hnl,_⟩:=dw;obtain⟨N,hN⟩:=xAp (show 0<=L.n by omega);have hNt:L.n.toNat=N:=by omega
 rw[hNt];have hNn:N<=n:=by omega
 obtain⟨vl,ve,elsL,rfl,x2,x3,x4⟩:=id hx.ex;obtain⟨wl,we,elsM,rfl,y2,y3,y4⟩:=id hy.ex;refine (zCP (Q:=PrQ k kind 0 (zC0 cl N)) aa zfw zSf (zfv _ _) (by kernel_rfl) (zn0 (zSa ?_))).mono λ x hx=>PrO.of aa hx;obtain⟨k1,e1,n1,t1,o1,f1⟩:=nwF k (rO [iI L.n,vl,ve] 25);obtain⟨k2,e2,n2,t2,o2,f2⟩:=nw o1 (rO [iI M.n,wl,we] 25);obtain⟨k3,e3,n3,t3,o3,f3⟩:=nw o2 (rO [iI 0,.slice none 0 0] 32);rw[n1] at t2;rw[n2,n1] at t3;have g0:k3.get k.qa=some (rO [iI L.n,vl,ve] 25):=(f3 _ (by omega)).trans ((f2 _ (by omega)).trans t1);have g1:k3.get (k.qa+1)=some (rO [iI M.n,wl,we] 25):=(f3 _ (by omega)).trans t2;simp only[zSo,zU,zF,zK,zA,zR,e1,n1,e2,n2,e3];refine zSZ ?_;have la:zb E 25 k3 (sP k.qa 0)=some (.agg ⟨[iI L.n,vl,ve]⟩):=zN (P:=E) zBT (o:=0) g0 (by simp);have lb:zb E 25 k3 (some (.pointer (some ⟨k.qa+1,0,none⟩)))=some (.agg ⟨[iI M.n,wl,we]⟩):=zN (P:=E) zBT (o:=0) g1 (by simp);have c89:=zna (k:=k3) o3.ext.ok (hx.ext o3.ext) (hy.ext o3.ext) hL hM hk (hc.ext o3.ext) hn hl;simp only[la,lb,zA,zM,c89,zJ];refine zSY ?_;simp only[zAS,zA,xDG,xAL,zZ];refine zlA ?_;obtain⟨kM,e4,n4,t4,o4,f4⟩:=nw o3 (.map [] 0);simp only[zF,e4];refine zk9 ?_;have hm:k3.qa<kM.qa:=by omega
 have gN:∀ h,Fx (λ c=>c=k3.qa) kM h->zb E 3 h (sP k.qa (0+0))=some (iI (N:Int)):=λ h f=>by
  rw[← hN];exact zB (P:=E) zAE (o:=0+0) ((f.get _ (by omega) (by omega)).trans ((f4 _ (by omega)).trans g0))
 have exK:∀ h,Fx (λ c=>c=k3.qa) kM h->Ext k h:=λ h f=>f.ext o4.ext λ c hc=>by have:c=k3.qa:=hc;have:=o3.ext.qa;omega
 have alo:=zsZ hc aB hNn;have ahi:=zsl hc hNn aB;rw[← List.map_drop] at alo;rw[← List.map_take] at ahi;have dl:(cl.drop N).length=n-N:=by rw[xCE];omega
 have tl:(cl.take N).length=N:=by rw[xCD];omega
 have hB:∀ q,(toL (zD5 (cl.drop N)) q).length<=60:=λ q=>by
  have:=zV7 (zD5 (cl.drop N)) q;rw[zGI,dl] at this;omega
 simp only[zAP,gN kM (Fx.refl o4.ext.ok),zA,zs6 aB hU hNn,zXI];generalize hK:KR E [.cell 8 32,.tmp 9] (PrQ k kind 0 (zC0 cl N))=K;have second:∀ hE,Fx (λ c=>c=k3.qa) kM hE->MI kM.qa hE k3.qa (toL (zD5 (cl.drop N)))->PI (C29 true) K 10 [iI kind,.slice (some ⟨b,o,none⟩) n c,ptr k.qa,ptr (k.qa+2),.map (some k3.qa)] hE:=by
  intro hE fE IE;refine zaY ?_;have nE:=fE.qa;obtain⟨kL,e5,f5,g5,n5⟩:∃ kL,(hE.new (rO [iI 0,.slice none 0 0] 32)).upd hE.qa (some (rO [iI kind,.slice none 0 0] 32))=kL/\Fx NoB hE kL/\kL.get hE.qa=some (rO [iI kind,.slice none 0 0] 32)/\kL.qa=hE.qa+1:=
   ⟨_,rfl,((Fx.refl fE.ok).new _).upd (.inr (xAF _)) _,zH _ _ _,rfl⟩
  have bz:=zGg (m:=hE.new (rO [iI 0,.slice none 0 0] 32)) (b:=hE.qa) (a:=kind) (v:=.slice none 0 0) (zD hE _) rfl rfl;rw[e5] at bz;simp only[zhh,zA,zSo,zU,zF,zK,bz];refine zaX ?_;have fL':Fx (λ c=>c=k3.qa) kM kL:=fE.trans f5 λ c hc=>hc.elim;simp only[zAP,gN kL fL',zA,zs5 aB hU hNn,zTN];have eX:∀ h,Fx (λ c=>c=hE.qa) kL h->Ext hE h:=λ h f=>⟨f.ok,by have:=f.qa;omega,λ c hc=>(f.get c (by omega) (by omega)).trans (f5.get c hc (λ h=>h))⟩;have hA:((zD5 (cl.take N)).map zB9).length=N:=by rw[xCY,zGI,tl]
  have lD:∀ i,i<N->∃ a,(cl.take N)[i]?=some a/\((zD5 (cl.take N)).map zB9).take (i+1)=((zD5 (cl.take N)).map zB9).take i++[((i:Int),a)]:=by
   intro i hi;have h1:(cl.take N)[i]?=some (cl.take N)[i]:=xAA (by omega);refine⟨_,h1,?_⟩;rw[xBw,xBi,zFK,h1];rfl
  have fin:∀ h w,Fx (λ c=>c=hE.qa) kL h->h.get hE.qa=some (rO [iI kind,w] 32)->Ac kL.qa h w (zC0 cl N)->PI (C29 true) K 22 [ptr (k.qa+2),ptr hE.qa] h:=by
   intro h w f g A;refine zaP ?_;obtain⟨lf,cf,wa,wc,hw⟩:=A.leaf;have nh:=f.qa;have l32:zb E 32 h (sP hE.qa 0)=some (.agg ⟨[iI kind,w]⟩):=zN (P:=E) zD1 (o:=0) g (by simp);have gR:h.get (k.qa+2)=some (rO [iI 0,.slice none 0 0] 32):=(f.get _ (by omega) (by omega)).trans ((f5.get _ (by omega) (λ h=>h)).trans ((fE.get _ (by omega) (by omega)).trans ((f4 _ (by omega)).trans t3)));have s2:=zGg (a:=kind) (v:=w) gR rfl lf;simp only[l32,zA,s2,zF];have fk:Fx NoB k.qb h:=((zHb o4).trans fL' λ c hc=>.inr (by have:c=k3.qa:=hc;have e':k.qb.qa=k.qa:=rfl;have:=o3.ext.qa;omega)).trans f λ c hc=>.inr (by have:c=hE.qa:=hc;have e':k.qb.qa=k.qa:=rfl;have:=o4.ext.qa;omega);have fo:=fk.upd (b:=k.qa+2) (.inr (by show k.qa<=k.qa+2;omega)) (some (rO [iI kind,w] 32));have A':Ac k.qa (h.upd (k.qa+2) (some (rO [iI kind,w] 32))) w (zC0 cl N):=by
    have A2:=A.fx (P:=λ c=>c=k.qa+2) (Fx.upd (P:=λ c=>c=k.qa+2) (Fx.refl f.ok) (.inl rfl) (some (rO [iI kind,w] 32))) λ c hc e=>by have:=A.blk c hc;have:c=k.qa+2:=e;have:=o4.ext.qa;have:=f5.qa;have:=fE.qa;omega
    rcases A2 with e|⟨b,e,h1,h2⟩
    ·exact .inl e
    ·exact .inr ⟨b,e,by have:=o4.ext.qa;have:=f5.qa;have:=fE.qa;omega,h2⟩
   have gu:=zH h (k.qa+2) (some (rO [iI kind,w] 32));generalize h.upd (k.qa+2) (some (rO [iI kind,w] 32))=hh at fo A' gu;rw[← hK,zJj];have lv:zC1 E 32 (ptr (k.qa+2)) hh=some (.agg ⟨[iI kind,w]⟩):=zN (P:=E) zD1 (o:=0) gu (by simp);simp only[lv,zA];exact⟨zO ▸ trivial,w,rfl,A',fo⟩
  have lenP:(zC0 cl N).length<=3600:=by
   have:=zhm (A:=(zD5 (cl.take N)).map zB9) hB;rw[hA] at this;unfold zC0;have:N*60<=60*60:=xBH _ (by omega);omega
  have loop2:∀ mm i,i+mm=N->∀ h w,Fx (λ c=>c=hE.qa) kL h->h.get hE.qa=some (rO [iI kind,w] 32)->Ac kL.qa h w (zJ6 (((zD5 (cl.take N)).map zB9).take i) (zD5 (cl.drop N)))->
    PI (C29 true) K 12 [ptr (k.qa+2),.map (some k3.qa),ptr hE.qa,hiV b o c N,iI (N:Int),iI (i:Int)] h:=by
   intro mm
   induction mm with
   | zero=>
    intro i hi h w f g A;have hi:i=N:=by omega
    subst hi;refine zNq ?_;simp only[zP,zA,show decide ((i:Int)<(i:Int))=false from xAI (by omega),zZ];rw[xAD (by omega)] at A;exact fin h w f g A
   | succ mm ih=>
    intro i hi h w f g A;have ai:i<N:=by omega
    refine zNq ?_;simp only[zP,zA,show decide ((i:Int)<(N:Int))=true from xAJ (by omega),ze];refine zaW ?_;obtain⟨a,ha,kK⟩:=lD i ai;obtain⟨p,q1,q2⟩:=zCc ahi (((exK hE fE)).trans (eX h f)) ha;simp only[q1,q2,zA];refine zaV ?_;obtain⟨wv,I1,I2⟩:=IE.look a;obtain⟨wa,wc,hw⟩:=I1.slice;have gm:∀ h,Fx (λ c=>c=hE.qa) kL h->h.get k3.qa=hE.get k3.qa:=λ h f=>(eX h f).get _ (by omega);simp only[I2 h (gm h f),zA];rw[hw];simp only[zTM,zA];rw[← hw];have hpre:=zhl (A:=(zD5 (cl.take N)).map zB9) (B:=zD5 (cl.drop N)) (i+1);rw[kK,zQ0,xBY,xCY] at hpre
    dsimp only at hpre
    have hpr:(zJ6 ((zD5 (cl.take N)).map zB9) (zD5 (cl.drop N))).length<=3600:=lenP;have inner:∀ mj j,j+mj=(toL (zD5 (cl.drop N)) a).length->∀ h w,Fx (λ c=>c=hE.qa) kL h->h.get hE.qa=some (rO [iI kind,w] 32)->Ac kL.qa h w (zJ6 (((zD5 (cl.take N)).map zB9).take i) (zD5 (cl.drop N))++((toL (zD5 (cl.drop N)) a).take j).map λ u=>((i:Int),u))->
      PI (C29 true) K 15 [ptr (k.qa+2),.map (some k3.qa),ptr hE.qa,iI (i:Int),hiV b o c N,iI (N:Int),iI (i:Int),wv,iI ((toL (zD5 (cl.drop N)) a).length:Int),iI (j:Int)] h:=by
     intro mj
     induction mj with
     | zero=>
      intro j hj h w f g A;have hj:j=(toL (zD5 (cl.drop N)) a).length:=by omega
      subst hj;rw[xCQ] at A;refine zNp ?_;simp only[zP,zA,show decide (((toL (zD5 (cl.drop N)) a).length:Int)<((toL (zD5 (cl.drop N)) a).length:Int))=false from xAI (by omega),zZ];refine zaQ ?_;simp only[zA,zk _ (zCS ai (by omega))];refine ih (i+1) (by omega) h w f g ?_;rw[kK,zQ0];exact A
     | succ mj ihj=>
      intro j hj h w f g A;have aJ:j<(toL (zD5 (cl.drop N)) a).length:=by omega
      refine zNp ?_;simp only[zP,zA,show decide ((j:Int)<((toL (zD5 (cl.drop N)) a).length:Int))=true from xAJ (by omega),ze];refine zaU ?_;obtain⟨pw,r1,r2⟩:=zCc (I1.arr) (eX h f) (xAA aJ);simp only[r1,r2,zA];refine zaT ?_;have hbd:(zJ6 (((zD5 (cl.take N)).map zB9).take i) (zD5 (cl.drop N))++((toL (zD5 (cl.drop N)) a).take j).map λ u=>((i:Int),u)).length+1<=200000:=by
       rw[xBY,xCY,xCD];omega
      have nh:=f.qa;obtain⟨h2,w',s1,A2,fx2,aN⟩:=A.app f.ok nh (by omega) ((i:Int),(toL (zD5 (cl.drop N)) a)[j]);have lw:zb E 26 h (sP hE.qa (0+1))=some w:=zB (P:=E) zEc (o:=0+1) g;have g2:=(fx2.get hE.qa (by omega) λ hc=>by have:=A.blk _ hc;omega).trans g;obtain⟨lf,cf,_⟩:=A2.leaf;have af:=zi (P:=E) zhQ (o:=0+1) (x:=w') (cs:=[w']) g2 cf rfl (by simp) (by simp[lf]);have g3:=zH h2 hE.qa (some (.row (lput [iI kind,w] (0+1) [w']) 32 0 false));have f3:Fx (λ c=>c=hE.qa) kL (h2.upd hE.qa (some (.row (lput [iI kind,w] (0+1) [w']) 32 0 false))):=(f.trans fx2 λ c hc=>.inr (A.blk c hc)).upd (.inl rfl) _;have A3:Ac kL.qa (h2.upd hE.qa (some (.row (lput [iI kind,w] (0+1) [w']) 32 0 false))) w' _:=A2.fx (P:=λ c=>c=hE.qa) (Fx.upd (P:=λ c=>c=hE.qa) (Fx.refl fx2.ok) (.inl rfl) _) λ c hc e=>by have:=(aN c hc).1;have:c=hE.qa:=e;omega
      simp only[zAZ,lw,zA,pbI,zRu,zF,s1,af];generalize h2.upd hE.qa (some (.row (lput [iI kind,w] (0+1) [w']) 32 0 false))=h3 at g3 f3 A3;have g3':h3.get hE.qa=some (rO [iI kind,w'] 32):=g3;refine zaS ?_;have lw3:zb E 26 h3 (sP hE.qa (0+1))=some w':=zB (P:=E) zEc (o:=0+1) g3';obtain⟨_,_,wa',wc',dg⟩:=A3.leaf;simp only[zAZ,lw3,zA];rw[dg];simp only[zTL,zA,zAK];rw[show decide ((200000:Int)<((zJ6 (((zD5 (cl.take N)).map zB9).take i) (zD5 (cl.drop N))++((toL (zD5 (cl.drop N)) a).take j).map (λ u=>((i:Int),u))++[((i:Int),(toL (zD5 (cl.drop N)) a)[j])]).length:Int))=false from xAI (by rw[xBY];simp only[List.length_singleton];omega)];simp only[zZ];refine zaR ?_;simp only[zA,zk _ (zCS aJ (by have:=hB a;omega))];refine ihj (j+1) (by omega) h3 w' f3 g3' ?_;rw[xBw,xAA aJ,xCX,← List.append_assoc];exact A3
    refine inner _ 0 (xAK _) h w f g ?_;rw[List.take_zero,xCy,xCb];exact A
  exact loop2 N 0 (by omega) kL _ (Fx.refl f5.ok) g5 (.inl ⟨rfl,rfl⟩)
 have loop1:∀ mm i,i+mm=n-N->∀ h,Fx (λ c=>c=k3.qa) kM h->MI kM.qa h k3.qa (toL ((zD5 (cl.drop N)).take i))->
   PI (C29 true) K 6 [iI kind,.slice (some ⟨b,o,none⟩) n c,ptr k.qa,ptr (k.qa+2),.map (some k3.qa),loV b o n c N,iI ((n-N:Nat):Int),iI (i:Int)] h:=by
  intro mm
  induction mm with
  | zero=>
   intro i hi h f I;have hi:i=n-N:=by omega
   subst hi;refine zSX ?_;simp only[zP,zA,show decide (((n-N:Nat):Int)<((n-N:Nat):Int))=false from xAI (by omega),zZ];rw[xAD (by rw[zGI,dl];omega)] at I;exact second h f I
  | succ mm ih=>
   intro i hi h f I;have ai:i<(cl.drop N).length:=by omega
   refine zSX ?_;simp only[zP,zA,show decide ((i:Int)<((n-N:Nat):Int))=true from xAJ (by omega),ze];refine zk8 ?_;obtain⟨p,q1,q2⟩:=zCc alo (exK h f) (xAA ai);simp only[q1,q2,zA];refine zk7 ?_;have hf:=zV7 ((zD5 (cl.drop N)).take i) (cl.drop N)[i];rw[xCD,zGI,dl] at hf;obtain⟨v,h1,v',h2,r1,r2,r3,r4,r5,r6,r7,r8⟩:=I.add (Fx.refl f.ok) hm f.qa (q:=(cl.drop N)[i]) (u:=(i:Int)) (by omega);simp only[r1 h rfl,zA,zhD,zF,r4,r5];refine zk6 ?_;simp only[zA,zk _ (zCS (show i<n-N by omega) (by omega))];refine ih (i+1) (by omega) h2 (f.trans r8 λ c hc=>hc) ?_;rw[xBw,zFK,xAA ai];simp only[xCS,xBc];rw[zoM];exact r7
 exact loop1 (n-N) 0 (by omega) kM (Fx.refl o4.ext.ok) ⟨[],0,t4,List.nodup_nil,λ q=>.inl ⟨rfl,rfl⟩,λ q q' bb _ hb=>by obtain⟨_,_,e⟩:=hb;cases e⟩
end Go.Proofs
