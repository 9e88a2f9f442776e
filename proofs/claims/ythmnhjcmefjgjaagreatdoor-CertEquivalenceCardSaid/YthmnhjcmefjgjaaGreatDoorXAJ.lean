import Derived.Laws.Bits64
import Derived.Test.YthmnhjcmefjgjaaGreatDoorXAI
import Derived.Test.YthmnhjcmefjgjaaGreatDoorXAF
set_option linter.all false
set_option linter.unusedSectionVars false
set_option autoImplicit true
set_option relaxedAutoImplicit true
namespace Go.Proofs
open Go Go.AM Go.Sort
set_option maxRecDepth 100000
set_option maxHeartbeats 1000000
theorem zU2 (t:TypeId) {a b:Int} (h:zC3 (a*b)):zC E .mul t (iI a) (iI b)=some (iI (a*b)):=by
 show some (iI (zB4 .i64 (a*b)))=_
 rw [zDC h]
theorem ft:(false==true)=false:=rfl
section
variable {b ty es c:Nat} {k:AH} {d:Dt} {cf:Value} {cm:Int×Int->Int×Int->Int}
theorem zT3 (hn:d.size<=1000000) (hc:zCV cf cm) {K:KF} {a:Nat} {v2 v8:Value}:∀ (j:Nat) (d':Dt) (h:AH),j<d.size->SR b ty es k.fresh d h d'->
  (∀ h2 d2,SR b ty es k.fresh d h2 d2->d2=insInner (zAY cm) a j d'->zoA true K (sl b d.size c) (iI (a:Int)) v2 cf v8 h2)->
  zoB true K (sl b d.size c) (iI (a:Int)) v2 cf v8 (iI (j:Int)) h:=by
 intro j
 induction j with
 | zero=>
  intro d' h hj R hK
  refine zMH ?_
  simp only [zA,zAK,show decide ((a:Int)<((0:Nat):Int))=false from decide_eq_false (by omega),zM,zU,ft,cond_false,zK,zJ,zj]
  exact hK h d' R rfl
 | succ j ih=>
  intro d' h hj R hK
  have hsz:=R.sz
  refine zMH ?_
  by_cases ab:a<j+1
  rotate_left
  ·simp only [zA,zAK,show decide ((a:Int)<((j+1:Nat):Int))=false from decide_eq_false (by omega),zM,zU,ft,cond_false,zK,zJ,zj]
   exact hK h d' R (by simp only [insInner];rw [if_neg (by simp;omega)])
  ·simp only [zA,zAK,show decide ((a:Int)<((j+1:Nat):Int))=true from decide_eq_true (by omega),zM,zU,beq_self_eq_true,cond_true,zAR hj,R.ld (i:=j+1) (by omega),zBo (show 1<=j+1 by omega) (show j+1<=9223372036854775807 by omega),Nat.add_sub_cancel,zAR (show j<d.size by omega),R.ld (i:=j) (by omega),hc _ _ _ R.ok,zP,zZ,zJ,zAM]
   refine ⟨fun h1=>zaV ?_,fun h1=>hK h d' R (by simp only [insInner];rw [if_neg (by simp;omega)])⟩
   obtain ⟨m1,m2,e1,e2,R2⟩:=R.sw (i:=j+1) (j:=j) (by omega) (by omega)
   simp only [zA,zAR hj,R.ld (i:=j+1) (by omega),zBo (show 1<=j+1 by omega) (show j+1<=9223372036854775807 by omega),Nat.add_sub_cancel,zAR (show j<d.size by omega),R.ld (i:=j) (by omega),e1,e2,zK]
   refine zaU ?_
   simp only [zA,zBo (show 1<=j+1 by omega) (show j+1<=9223372036854775807 by omega),Nat.add_sub_cancel]
   exact ih _ _ (by omega) R2 fun h2 d2 R3 e=>hK h2 d2 R3 (by
    rw [e]
    conv=>rhs;simp only [insInner]
    rw [if_pos (by simp [h1];omega)])
theorem zUl (hg:k.get b=some (.row (zB1 d) ty es false)) (aB:b<k.next) (aa:k.ok) {n:Nat} (hs:d.size=n) (hn:d.size<=1000000) (hc:zCV cf cm) {a e:Nat} (dD:a<=e) (he:e<=d.size) :
  Ev true ((zY E).call 144 [sl b n c,iI (a:Int),iI (e:Int),cf] k) fun x=>∃ d',QF (insertionSort (zAY cm) d a e) x.1 d'/\SR b ty es k d x.2 d':=by
 subst hs
 refine zEC hg aB aa zg1 zcs (zg0 _ _) (by kernel_rfl) (zks (Rp:=RS b ty es k d (QF (insertionSort (zAY cm) d a e))) (zaX ?_))
 simp only [zA,zBy (show a+1<=9223372036854775807 by omega)]
 have loop:∀ (m i:Nat),e<=i+m->i<=d.size+1->∀ d' h,SR b ty es k.fresh d h d'->insOuter (zAY cm) a e i d'=insertionSort (zAY cm) d a e->
   zoC true (KS b ty es k d (insertionSort (zAY cm) d a e)) (sl b d.size c) (iI (a:Int)) (iI (e:Int)) cf (iI (i:Int)) h:=by
  intro m
  induction m with
  | zero=>
   intro i hm hi d' h R hF
   refine zMI ?_
   simp only [zA,zZ,show decide ((i:Int)<(e:Int))=false from decide_eq_false (by omega),zj]
   exact zIj R (by rw [← hF];unfold insOuter;rw [if_neg (by omega)])
  | succ m ih=>
   intro i hm hi d' h R hF
   refine zMI ?_
   simp only [zA,zZ,zAM]
   refine ⟨fun ab=>zaW ?_,fun cV=>zIj R (by rw [← hF];unfold insOuter;rw [if_neg (by omega)])⟩
   try simp only [zA]
   refine zT3 hn hc i d' h (by omega) R fun h2 d2 R2 e2=>zaT ?_
   simp only [zA,zBy (show i+1<=9223372036854775807 by omega)]
   refine ih (i+1) (by omega) (by omega) d2 h2 R2 ?_
   rw [← hF,e2]
   conv=>rhs;unfold insOuter
   rw [if_pos (by omega)]
 exact loop e (a+1) (by omega) (by omega) d _ (SR.fresh hg aB) rfl
theorem ziX (hn:d.size<=1000000) (hc:zCV cf cm) {hi first:Nat} (hh:first+hi<=d.size) {K:KF} {F:Dt} (hK:∀ ex h2 d2,(ex=.normal\/ex=.ret)->SR b ty es k.fresh d h2 d2->d2=F->K ex [] h2) :
  ∀ (m root:Nat) (d':Dt) (h:AH),hi<=root+m->root<=d.size->SR b ty es k.fresh d h d'->siftDown (zAY cm) hi first root d'=F->
  znq true K (sl b d.size c) (iI (hi:Int)) (iI (first:Int)) cf (iI (root:Int)) h:=by
 intro m
 induction m with
 | zero=>
  intro root d' h hm hr R hF
  have hsz:=R.sz
  refine zL1 ?_
  try simp only [zA]
  rw [zU2 3 (a:=2) (b:=(root:Int)) (by unfold zC3;omega)]
  try simp only [zA]
  rw [zAD 3 (a:=2*(root:Int)) (b:=1) (by unfold zC3;omega),show 2*(root:Int)+1=((2*root+1:Nat):Int) by omega]
  try simp only [zA]
  refine zL0 ?_
  simp only [zA,zAa,show decide ((hi:Int)<=((2*root+1:Nat):Int))=true from decide_eq_true (by omega),zz]
  exact hK _ _ _ (.inl rfl) R (by rw [← hF];unfold siftDown;rw [dif_pos (by omega)])
 | succ m ih=>
  intro root d' h hm hr R hF
  have hsz:=R.sz
  refine zL1 ?_
  try simp only [zA]
  rw [zU2 3 (a:=2) (b:=(root:Int)) (by unfold zC3;omega)]
  try simp only [zA]
  rw [zAD 3 (a:=2*(root:Int)) (b:=1) (by unfold zC3;omega),show 2*(root:Int)+1=((2*root+1:Nat):Int) by omega]
  try simp only [zA]
  refine zL0 ?_
  simp only [zA,zAa,zAM]
  refine ⟨fun h1=>hK _ _ _ (.inl rfl) R (by rw [← hF];unfold siftDown;rw [dif_pos (by omega)]),fun h1=>zYX ?_⟩
  have rest:∀ child:Nat,child<hi->root<child->(∀ D,(if !zAY cm d'[first+root]! d'[first+child]! then d' else siftDown (zAY cm) hi first child (swp d' (first+root) (first+child)))=D->D=F)->
    znp true K (sl b d.size c) (iI (hi:Int)) (iI (first:Int)) cf (iI (root:Int)) (iI (child:Int)) h:=by
   intro child dN hrc hD
   refine zYV ?_
   simp only [zA,zN3 (show first+root<=9223372036854775807 by omega),zN3 (show first+child<=9223372036854775807 by omega),zAR (show first+root<d.size by omega),zAR (show first+child<d.size by omega),R.ld (i:=first+root) (by omega),R.ld (i:=first+child) (by omega),hc _ _ _ R.ok,zP,zZ,z6]
   by_cases ab:cm d'[first+root]! d'[first+child]! < 0
   ·simp only [ab,decide_true,Bool.not_true,zj]
    refine zYU ?_
    obtain ⟨m1,m2,e1,e2,R2⟩:=R.sw (i:=first+root) (j:=first+child) (by omega) (by omega)
    simp only [zA,zN3 (show first+root<=9223372036854775807 by omega),zN3 (show first+child<=9223372036854775807 by omega),zAR (show first+root<d.size by omega),zAR (show first+child<d.size by omega),R.ld (i:=first+root) (by omega),R.ld (i:=first+child) (by omega),e1,e2,zK]
    refine zYT ?_
    try simp only [zA]
    exact ih child _ _ (by omega) (by omega) R2 (hD _ (by simp [ab]))
   ·simp only [ab,decide_false,Bool.not_false,zz]
    exact hK _ _ _ (.inr rfl) R (hD _ (by simp [ab]))
  have hu:siftDown (zAY cm) hi first root d'=if 2*root+1+1<hi&&zAY cm d'[first+(2*root+1)]! d'[first+(2*root+1)+1]! then
    (if !zAY cm d'[first+root]! d'[first+(2*root+2)]! then d' else if 2*root+2<hi then siftDown (zAY cm) hi first (2*root+2) (swp d' (first+root) (first+(2*root+2))) else d')
    else if !zAY cm d'[first+root]! d'[first+(2*root+1)]! then d' else siftDown (zAY cm) hi first (2*root+1) (swp d' (first+root) (first+(2*root+1))):=by
   conv=>lhs;unfold siftDown
   rw [dif_neg (by omega)]
   rfl
  rw [hu] at hF
  simp only [zA,zBy (show 2*root+1+1<=9223372036854775807 by omega),zZ]
  by_cases h2:2*root+1+1<hi
  ·simp only [show decide (((2*root+1+1:Nat):Int)<(hi:Int))=true from decide_eq_true (by omega),zM,zU,beq_self_eq_true,cond_true,zA,zN3 (show first+(2*root+1)<=9223372036854775807 by omega),zAR (show first+(2*root+1)<d.size by omega),R.ld (i:=first+(2*root+1)) (by omega),zBy (show first+(2*root+1)+1<=9223372036854775807 by omega),zAR (show first+(2*root+1)+1<d.size by omega),R.ld (i:=first+(2*root+1)+1) (by omega),hc _ _ _ R.ok,zP,zZ,zJ,zAM]
   refine ⟨fun h3=>zYW ?_,fun h3=>rest (2*root+1) (by omega) (by omega) fun D hD=>?_⟩
   ·simp only [zA,zBy (show 2*root+1+1<=9223372036854775807 by omega)]
    refine rest (2*root+1+1) (by omega) (by omega) fun D hD=>?_
    rw [if_pos (by simp [h2,h3]),if_pos (show 2*root+2<hi from h2)] at hF
    rw [← hF,← hD]
   ·rw [if_neg (by simp [h3])] at hF
    rw [← hF,← hD]
  ·simp only [show decide (((2*root+1+1:Nat):Int)<(hi:Int))=false from decide_eq_false (by omega),zM,zU,ft,cond_false,zA,zK,zJ,zj]
   refine rest (2*root+1) (by omega) (by omega) fun D hD=>?_
   rw [if_neg (by simp [h2])] at hF
   rw [← hF,← hD]
theorem zUi (hg:k.get b=some (.row (zB1 d) ty es false)) (aB:b<k.next) (aa:k.ok) {n:Nat} (hs:d.size=n) (hn:d.size<=1000000) (hc:zCV cf cm) {lo hi first:Nat} (gG:lo<=d.size) (hh:first+hi<=d.size) :
  Ev true ((zY E).call 192 [sl b n c,iI (lo:Int),iI (hi:Int),iI (first:Int),cf] k) fun x=>∃ d',QF (siftDown (zAY cm) hi first lo d) x.1 d'/\SR b ty es k d x.2 d':=by
 subst hs
 refine zEC hg aB aa zgm zca (zgl _ _) (by kernel_rfl) (zkk (Rp:=RS b ty es k d (QF (siftDown (zAY cm) hi first lo d))) (zYY ?_))
 try simp only [zA]
 refine ziX hn hc hh (F:=siftDown (zAY cm) hi first lo d) (fun ex h2 d2 hx R e=>?_) hi lo d _ (by omega) gG (SR.fresh hg aB) rfl
 rcases hx with rfl|rfl
 ·exact zIj R e
 ·exact zlx R e
end
theorem zSz {T:Tm} {o:Oper} {op:BinOp} {t u:TypeId} {x y:Operand} {va vb v:Value} (ho:o.op=.binOp op t x y u) (h1:rho T x=va) (h2:rho T y=vb) (fx:zu T x=true) (fy:zu T y=true)
  (fast:zC E op t va vb=none) (hg:eqGuard op t x y va vb=pure ()) (hv:binOp op t va vb=pure v) (fv:zi v=true):zp E T o=some v:=by
 have hx:zDE E.prog (execOp (rho T) o)=some (.value v):=by
  unfold execOp
  simp only [ho,h1,h2]
  show zDE E.prog (Bind.bind (Bind.bind (eqGuard op t x y va vb) fun _=>binOp op t va vb) fun x=>pure (Next.value x))=_
  rw [hg,hv]
  rfl
 have hf:(o.op.operands.toList.all (zu T)&&zDR o.op)=true:=by
  rw [ho]
  show (zu T x&&(zu T y&&true))&&true=true
  rw [fx,fy];rfl
 have hp:zBZ E T o=some v:=by
  unfold zBZ
  rw [hf,hx]
  simp only [cond_true,fv]
 simp only [zp,ho,ziq,h1,h2,fast,zGu,fx,fy,Bool.and_self,cond_true,hp]
theorem zHK {T:Tm} {o:Oper} {u cc:Nat} (ho:o.op=.binOp .quo 3 (.tmp u) (.const (iI (cc:Int))) 3) {a:Nat} (h1:T.get u=iI (a:Int)) (hc:0<cc) (ha:a<=9223372036854775807):zp E T o=some (iI ((a / cc:Nat):Int)):=by
 refine zSz ho (va:=iI (a:Int)) (vb:=iI (cc:Int)) h1 rfl (by show zi (T.get u)=true;rw [h1];rfl) rfl rfl rfl ?_ rfl
 show Op.intDiv .quo .i64 (a:Int) (cc:Int)=_
 unfold Op.intDiv
 rw [if_neg (by omega)]
 have:IntKind.i64.wrap ((a:Int).tdiv (cc:Int))=((a / cc:Nat):Int):=by
  rw [← zFI]
  have e:(a:Int).tdiv (cc:Int)=((a / cc:Nat):Int):=rfl
  rw [e]
  refine zDC ?_
  have:=Nat.div_le_self a cc
  have h2:(0:Int)<=((a / cc:Nat):Int):=Int.natCast_nonneg _
  have h3:((a / cc:Nat):Int)<=(a:Int):=by exact_mod_cast this
  unfold zC3;omega
 show pure (iI (IntKind.i64.wrap ((a:Int).tdiv (cc:Int))))=_
 rw [this]
theorem zlk {x:Nat} (h:x<=9223372036854775807):zp E (zk [(18,iI (x:Int))]) (zo zo5 [1,1,1,0,0] 2)=some (iI ((x / 2:Nat):Int)):=zHK (u:=18) (cc:=2) (by kernel_rfl) (by kernel_rfl) (by omega) h
section
variable {b ty es c:Nat} {k:AH} {d:Dt} {cf:Value} {cm:Int×Int->Int×Int->Int}
theorem zj6 (hg:k.get b=some (.row (zB1 d) ty es false)) (aB:b<k.next) (aa:k.ok) {n:Nat} (hs:d.size=n) (hn:d.size<=1000000) (hc:zCV cf cm) {a e:Nat} (dD:a<e) (he:e<=d.size) :
  Ev true ((zY E).call 145 [sl b n c,iI (a:Int),iI (e:Int),cf] k) fun x=>∃ d',QF (heapSort (zAY cm) d a e) x.1 d'/\SR b ty es k d x.2 d':=by
 subst hs
 refine zEC hg aB aa zgz zcr (zgy _ _) (by kernel_rfl) (zkr (Rp:=RS b ty es k d (QF (heapSort (zAY cm) d a e))) (zaS ?_))
 try simp only [zA]
 refine zaR ?_
 try simp only [zA]
 refine zaQ ?_
 simp only [zA,subN (show a<=e by omega) (show e<=9223372036854775807 by omega)]
 refine zaP ?_
 simp only [zA,zBo (show 1<=e-a by omega) (show e-a<=9223372036854775807 by omega),zlk (show e-a-1<=9223372036854775807 by omega)]
 have pop:∀ (r:Nat),r<=e-a->∀ d' h,SR b ty es k.fresh d h d'->heapPop (zAY cm) a r d'=heapSort (zAY cm) d a e->
   zn8 true (KS b ty es k d (heapSort (zAY cm) d a e)) (sl b d.size c) cf (iI (a:Int)) (iI 0) (iI ((r:Int)-1)) h:=by
  intro r
  induction r with
  | zero=>
   intro hr d' h R hF
   refine zMF ?_
   simp only [zA,zAa,show decide ((0:Int)<=((0:Nat):Int)-1)=false from rfl,zj]
   exact zIj R hF
  | succ r ih=>
   intro hr d' h R hF
   have hsz:=R.sz
   rw [show ((r+1:Nat):Int)-1=(r:Int) by omega]
   refine zMF ?_
   simp only [zA,zAa,show decide ((0:Int)<=(r:Int))=true from decide_eq_true (by omega),zz]
   refine zaL ?_
   obtain ⟨m1,m2,e1,e2,R2⟩:=R.sw (i:=a) (j:=a+r) (by omega) (by omega)
   simp only [zA,zN3 (show a+r<=9223372036854775807 by omega),zAR (show a+r<d.size by omega),zAR (show a<d.size by omega),R.ld (i:=a) (by omega),R.ld (i:=a+r) (by omega),e1,e2,zK]
   refine zRY ?_
   have hz:=zdP d' a (a+r)
   simp only [zA,zQ]
   refine (zUi (lo:=0) (hi:=r) (first:=a) R2.g R2.l R2.ok (R2.sz) (by omega) hc (by omega) (by omega)).mono fun x hx=>?_
   obtain ⟨d3,⟨_,e3⟩,R3⟩:=hx
   have R4:=R2.trans R3
   refine zRX ?_
   try simp only [zA]
   rw [zGf 3 (a:=(r:Int)) (b:=1) (by unfold zC3;omega)]
   try simp only [zA]
   exact ih (by omega) d3 _ R4 (by rw [← hF,e3];rfl)
 have build:∀ (r:Nat),r<=d.size->∀ d' h,SR b ty es k.fresh d h d'->heapPop (zAY cm) a (e-a) (heapBuild (zAY cm) (e-a) a r d')=heapSort (zAY cm) d a e->
   zn9 true (KS b ty es k d (heapSort (zAY cm) d a e)) (sl b d.size c) cf (iI (a:Int)) (iI 0) (iI ((e-a:Nat):Int)) (iI ((r:Int)-1)) h:=by
  intro r
  induction r with
  | zero=>
   intro hr d' h R hF
   refine zMG ?_
   simp only [zA,zAa,show decide ((0:Int)<=((0:Nat):Int)-1)=false from rfl,zj]
   refine zaM ?_
   try simp only [zA]
   rw [zGf 3 (a:=((e-a:Nat):Int)) (b:=1) (by unfold zC3;omega)]
   try simp only [zA]
   exact pop (e-a) (Nat.le_refl _) d' h R hF
  | succ r ih=>
   intro hr d' h R hF
   have hsz:=R.sz
   rw [show ((r+1:Nat):Int)-1=(r:Int) by omega]
   refine zMG ?_
   simp only [zA,zAa,show decide ((0:Int)<=(r:Int))=true from decide_eq_true (by omega),zz]
   refine zaO ?_
   simp only [zA,zQ]
   refine (zUi (lo:=r) (hi:=e-a) (first:=a) R.g R.l R.ok R.sz (by omega) hc (by omega) (by omega)).mono fun x hx=>?_
   obtain ⟨d3,⟨_,e3⟩,R3⟩:=hx
   refine zaN ?_
   try simp only [zA]
   rw [zGf 3 (a:=(r:Int)) (b:=1) (by unfold zC3;omega)]
   try simp only [zA]
   exact ih (by omega) d3 _ (R.trans R3) (by rw [← hF,e3];rfl)
 have:=build ((e-a-1) / 2+1) (by omega) d _ (SR.fresh hg aB) rfl
 rw [show (((e-a-1) / 2+1:Nat):Int)-1=(((e-a-1) / 2:Nat):Int) by omega] at this
 exact this
end
theorem zEy {m:AH} {w b:Nat} {o:Option AObj} (h:m.get b=o):AH.get ⟨m.t,m.next,w⟩ b=o:=h
section
variable {b ty es c:Nat} {k:AH} {d:Dt} {cf:Value} {cm:Int×Int->Int×Int->Int}
theorem zNl (hg:k.get b=some (.row (zB1 d) ty es false)) (aB:b<k.next) (aa:k.ok) {n:Nat} (hs:d.size=n) (hn:d.size<=1000000) (hc:zCV cf cm) {x y sw:Nat} (hx:x<d.size) (hy:y<d.size) {z:Int} (di:k.get sw=some (rO [iI z] 3)) (hswl:sw<k.next) (ah:sw≠b) :
  Ev true ((zY E).call 235 [sl b n c,iI (x:Int),iI (y:Int),ptr sw,cf] k) fun r=>((r.1=.tuple #[iI (x:Int),iI (y:Int)]\/r.1=.tuple #[iI (y:Int),iI (x:Int)])/\Fx (fun c=>c=sw) k r.2/\∃ z,r.2.get sw=some (rO [iI z] 3)):=by
 subst hs
 have e0:k.fresh.get b=some (.row (zB1 d) ty es false):=hg
 have R:=SR.fresh (ty:=ty) (es:=es) hg aB
 by_cases ab:cm d[y]! d[x]! < 0
 ·refine zcO (Rp:=fun v m=>(v=.tuple #[iI (x:Int),iI (y:Int)]\/v=.tuple #[iI (y:Int),iI (x:Int)])/\Fx (fun c=>c=sw) k m/\∃ z,m.get sw=some (rO [iI z] 3)) (zLv ?_)
  try simp only [zA]
  refine zLu ?_
  simp only [zA,zAR hx,zAR hy,R.ld hx,R.ld hy,hc _ _ _ R.ok,zP,zZ,ab,decide_true,zz]
  refine zXO ?_
  have hl:zG E 3 k.fresh (some (ptr sw))=some (iI z):=zF (P:=E) zAb (o:=0) di
  obtain ⟨z',bI⟩:∃ z',zC E .add 3 (iI z) (iI 1)=some (iI z'):=⟨_,zKO 3 z 1⟩
  have af:zf E 3 k.fresh (some (ptr sw)) (some (iI z'))=one (undef,k.fresh.upd sw (some (rO [iI z'] 3))):=z7 (P:=E) zhO (x:=iI z') (cs:=[iI z']) (o:=0) (h:=k.fresh) (vs:=[iI z]) di rfl rfl (by simp) rfl
  have f:=(Fx.refl (P:=fun c=>c=sw) (zAT k)).upd (b:=sw) (.inl rfl) (some (rO [iI z'] 3))
  have iY:=zO k.fresh sw (some (rO [iI z'] 3))
  have f0:=(zKe k.fresh sw (some (rO [iI z'] 3))).1
  generalize k.fresh.upd sw (some (rO [iI z'] 3))=m at f iY f0 af
  simp only [zA,zA1,hl,bI,af,zK]
  refine zXN ?_
  simp only [zA,zQX,zX,true_and]
  exact ⟨.inr (Nat.lt_of_le_of_lt f0 hswl),.inr True.intro,f.back,z',zEy iY⟩
 ·have:(zY E).call 235 [sl b d.size c,iI (x:Int),iI (y:Int),ptr sw,cf] k=some [(.tuple #[iI (x:Int),iI (y:Int)],k)]:=by
   refine zR7 aa rfl (zLv ?_)
   try simp only [zA]
   refine zLu ?_
   simp only [zA,zAR hx,zAR hy,R.ld hx,R.ld hy,hc _ _ _ R.ok,zP,zZ,ab,decide_false,zj]
   refine zXM ?_
   simp only [zA,zQX,zX,true_and]
   show k.next<=k.next+UNK
   omega
  rw [this,zP]
  exact ⟨.inl rfl,Fx.refl aa,z,di⟩
theorem zhS {sw:Nat} {z0:Int} {f:FuncId} {fn:Func} {cc:Code} {args:List Value} {Q:Value->Prop} (di:k.get sw=some (rO [iI z0] 3)) (aa:k.ok)
  (hf:E.tab.fn.get f=some fn) (hb:fn.body=some cc) (aK:E.sum f args k=none) (hl:Nat.ble (zBB args) fn.ntmps=true)
  (dh:Ev true (R.andThen (evC E (zY E) none (zh fn) ⟨⟨fn.ntmps,zCT args 0 .e⟩,k.fresh,[]⟩) (zAc E fn)) fun x=>Q x.1/\Fx (fun c=>c=sw) k.fresh x.2/\∃ z,x.2.get sw=some (rO [iI z] 3)) :
  Ev true ((zY E).call f args k) fun x=>Q x.1/\Fx (fun c=>c=sw) k x.2/\∃ z,x.2.get sw=some (rO [iI z] 3):=by
 refine (zKF (Q:=fun v m=>Q v/\Fx (fun c=>c=sw) k.fresh m/\∃ z,m.get sw=some (rO [iI z] 3)) aa hf hb aK hl dh).mono ?_
 rintro ⟨v,m⟩ ⟨k1,⟨hq,f,z,hz⟩,⟨h1,h2⟩|h2⟩
 ·simp only at h2 hq ⊢
  subst h2
  exact ⟨hq,Fx.refl aa,z0,di⟩
 ·simp only at h2 hq ⊢
  subst h2
  exact ⟨hq,f.back,z,zEy hz⟩
structure PV (b ty es:Nat) (d:Dt) (sw:Nat) (k0 k:AH):Prop where
 g:k.get b=some (.row (zB1 d) ty es false)
 l:b<k.next
 hz:∃ z,k.get sw=some (rO [iI z] 3)
 sl:sw<k.next
 ne:sw≠b
 fx:Fx (fun c=>c=sw) k0 k
theorem PV.step {sw:Nat} {k0 k m:AH} (p:PV b ty es d sw k0 k) (f:Fx (fun c=>c=sw) k m) (hz:∃ z,m.get sw=some (rO [iI z] 3)):PV b ty es d sw k0 m:=
 ⟨(f.get b p.l (fun h=>p.ne h.symm)).trans p.g,Nat.lt_of_lt_of_le p.l f.next,hz,Nat.lt_of_lt_of_le p.sl f.next,p.ne,p.fx.trans f fun c h=>.inl h⟩
theorem PV.start {sw:Nat} {k:AH} (aa:k.ok) (hg:k.get b=some (.row (zB1 d) ty es false)) (hl:b<k.next) (hz:∃ z,k.get sw=some (rO [iI z] 3)) (hsl:sw<k.next) (ah:sw≠b):PV b ty es d sw k k:=⟨hg,hl,hz,hsl,ah,Fx.refl aa⟩
theorem PV.fresh {sw:Nat} {k0 k:AH} (p:PV b ty es d sw k0 k):PV b ty es d sw k.fresh k.fresh:=⟨p.g,p.l,p.hz,p.sl,p.ne,Fx.refl (zAT k)⟩
theorem ex0 {a b:Value}:ze 0 (some (.tuple #[a,b]))=some a:=rfl
theorem ex1 {a b:Value}:ze 1 (some (.tuple #[a,b]))=some b:=rfl
theorem zUh {sw:Nat} {k0:AH} (p:PV b ty es d sw k0 k) (aa:k.ok) {n:Nat} (hs:d.size=n) (hn:d.size<=1000000) (hc:zCV cf cm) {x y z:Nat} (hx:x<d.size) (hy:y<d.size) (hz:z<d.size) :
  Ev true ((zY E).call 196 [sl b n c,iI (x:Int),iI (y:Int),iI (z:Int),ptr sw,cf] k) fun r=>(∃ q:Nat,r.1=iI (q:Int)/\(q=x\/q=y\/q=z))/\PV b ty es d sw k r.2:=by
 obtain ⟨z0,fY⟩:=p.hz
 refine (zhS (Q:=fun v=>∃ q:Nat,v=iI (q:Int)/\(q=x\/q=y\/q=z)) fY aa zgg zcX (zgf _ _) (by kernel_rfl) (zkh (Rp:=fun v m=>(∃ q:Nat,v=iI (q:Int)/\(q=x\/q=y\/q=z))/\Fx (fun c=>c=sw) k.fresh m/\∃ z,m.get sw=some (rO [iI z] 3)) (zYJ ?_))).mono ?_
 rotate_left
 ·rintro ⟨v,m⟩ ⟨hq,f,hz⟩
  exact ⟨hq,(PV.start aa p.g p.l p.hz p.sl p.ne).step f hz⟩
 try simp only [zA]
 refine zYI ?_
 simp only [zA,zQ]
 have pf:=p.fresh
 obtain ⟨z1,gY⟩:=pf.hz
 refine (zNl (c:=c) pf.g pf.l (zAT k) hs hn hc hx hy gY pf.sl pf.ne).mono ?_
 rintro ⟨v,m⟩ ⟨hv,f,d9⟩
 have p1:=pf.step f d9
 obtain ⟨i,j,hi,hj,bP,rfl⟩:∃ i j:Nat,i<d.size/\j<d.size/\((i=x\/i=y)/\(j=x\/j=y))/\v=.tuple #[iI (i:Int),iI (j:Int)]:=by
  rcases hv with h|h
  ·exact ⟨x,y,hx,hy,⟨.inl rfl,.inr rfl⟩,h⟩
  ·exact ⟨y,x,hy,hx,⟨.inr rfl,.inl rfl⟩,h⟩
 simp only [zA,ex0,ex1]
 refine zYH ?_
 simp only [zA,zQ]
 obtain ⟨z3,iv⟩:=p1.hz
 refine (zNl (c:=c) p1.g p1.l f.ok hs hn hc hj hz iv p1.sl p1.ne).mono ?_
 rintro ⟨v2,m2⟩ ⟨dO,f2,hz4⟩
 have p2:=p1.step f2 hz4
 obtain ⟨i2,j2,hi2,hij2,rfl⟩:∃ i2 j2:Nat,i2<d.size/\(i2=j\/i2=z)/\v2=.tuple #[iI (i2:Int),iI (j2:Int)]:=by
  rcases dO with h|h
  ·exact ⟨j,z,hj,.inl rfl,h⟩
  ·exact ⟨z,j,hz,.inr rfl,h⟩
 simp only [zA,ex0,ex1]
 refine zYG ?_
 simp only [zA,zQ]
 obtain ⟨z5,hz5⟩:=p2.hz
 refine (zNl (c:=c) p2.g p2.l f2.ok hs hn hc hi hi2 hz5 p2.sl p2.ne).mono ?_
 rintro ⟨v3,m3⟩ ⟨eT,f3,hz6⟩
 have p3:=p2.step f3 hz6
 obtain ⟨i3,j3,hij3,rfl⟩:∃ i3 j3:Nat,(j3=i\/j3=i2)/\v3=.tuple #[iI (i3:Int),iI (j3:Int)]:=by
  rcases eT with h|h
  ·exact ⟨i,i2,.inr rfl,h⟩
  ·exact ⟨i2,i,.inl rfl,h⟩
 simp only [zA,ex0,ex1]
 refine zYF ?_
 try simp only [zA]
 rw [zAS]
 refine ⟨zX ▸ trivial,⟨j3,rfl,?_⟩,p3.fx,p3.hz⟩
 omega
theorem zNn {sw:Nat} {k0:AH} (p:PV b ty es d sw k0 k) (aa:k.ok) {n:Nat} (hs:d.size=n) (hn:d.size<=1000000) (hc:zCV cf cm) {x:Nat} (fZ:1<=x) (hx:x+1<d.size) :
  Ev true ((zY E).call 195 [sl b n c,iI (x:Int),ptr sw,cf] k) fun r=>(∃ q:Nat,r.1=iI (q:Int)/\x-1<=q/\q<=x+1)/\PV b ty es d sw k r.2:=by
 obtain ⟨z0,fY⟩:=p.hz
 refine (zhS (Q:=fun v=>∃ q:Nat,v=iI (q:Int)/\x-1<=q/\q<=x+1) fY aa zgi zcY (zgh _ _) (by kernel_rfl) (zki (Rp:=fun v m=>(∃ q:Nat,v=iI (q:Int)/\x-1<=q/\q<=x+1)/\Fx (fun c=>c=sw) k.fresh m/\∃ z,m.get sw=some (rO [iI z] 3)) (zYL ?_))).mono ?_
 rotate_left
 ·rintro ⟨v,m⟩ ⟨hq,f,hz⟩
  exact ⟨hq,(PV.start aa p.g p.l p.hz p.sl p.ne).step f hz⟩
 try simp only [zA]
 refine zYK ?_
 simp only [zA,zQ,zBo fZ (show x<=9223372036854775807 by omega),zBy (show x+1<=9223372036854775807 by omega)]
 refine (zUh (c:=c) p.fresh (zAT k) hs hn hc (x:=x-1) (y:=x) (z:=x+1) (by omega) (by omega) hx).mono ?_
 rintro ⟨v,m⟩ ⟨⟨q,hq,dJ⟩,p1⟩
 simp only at hq
 subst hq
 try simp only [zA]
 rw [zAS]
 exact ⟨zX ▸ trivial,⟨q,rfl,by omega,by omega⟩,p1.fx,p1.hz⟩
end
theorem zin {x:Nat} (h:x<=9223372036854775807):zp E (zk [(19,iI (x:Int))]) (zo zkx [1,1,1,0] 2)=some (iI ((x / 4:Nat):Int)):=zHK (u:=19) (cc:=4) (by kernel_rfl) (by kernel_rfl) (by omega) h
theorem zim {x:Nat} (h:x<=9223372036854775807):zp E (zk [(24,iI (x:Int))]) (zo zkx [1,1,1,1,0] 2)=some (iI ((x / 4:Nat):Int)):=zHK (u:=24) (cc:=4) (by kernel_rfl) (by kernel_rfl) (by omega) h
theorem zil {x:Nat} (h:x<=9223372036854775807):zp E (zk [(29,iI (x:Int))]) (zo zkx [1,1,1,1,1,0] 2)=some (iI ((x / 4:Nat):Int)):=zHK (u:=29) (cc:=4) (by kernel_rfl) (by kernel_rfl) (by omega) h
theorem zpg {a c:Nat} (h:a*c<=9223372036854775807) (t:TypeId):zC E .mul t (iI (a:Int)) (iI (c:Int))=some (iI ((a*c:Nat):Int)):=by
 have h2:(a:Int)*(c:Int)=((a*c:Nat):Int):=by push_cast;rfl
 rw [zU2 t (by unfold zC3;omega),h2]
theorem zpf {a:Nat} (h:a*1<=9223372036854775807) (t:TypeId):zC E .mul t (iI (a:Int)) (iI 1)=some (iI ((a*1:Nat):Int)):=zpg (c:=1) h t
theorem zdd {a:Nat} (h:a*2<=9223372036854775807) (t:TypeId):zC E .mul t (iI (a:Int)) (iI 2)=some (iI ((a*2:Nat):Int)):=zpg (c:=2) h t
theorem zpe {a:Nat} (h:a*3<=9223372036854775807) (t:TypeId):zC E .mul t (iI (a:Int)) (iI 3)=some (iI ((a*3:Nat):Int)):=zpg (c:=3) h t
section
variable {b ty es c:Nat} {k:AH} {d:Dt} {cf:Value} {cm:Int×Int->Int×Int->Int}
theorem zj4 (hg:k.get b=some (.row (zB1 d) ty es false)) (aB:b<k.next) (aa:k.ok) {n:Nat} (hs:d.size=n) (hn:d.size<=1000000) (hc:zCV cf cm) {a e:Nat} (fV:a+13<=e) (he:e<=d.size) :
  ∃ (p:Nat) (an:Int),(a<=p/\p<e)/\(an=0\/an=1\/an=2)/\(zY E).call 147 [sl b n c,iI (a:Int),iI (e:Int),cf] k=some [(.tuple #[iI (p:Int),iI an],k)]:=by
 have main:∃ v,(∃ (p:Nat) (an:Int),(a<=p/\p<e)/\(an=0\/an=1\/an=2)/\v=.tuple #[iI (p:Int),iI an])/\(zY E).call 147 [sl b n c,iI (a:Int),iI (e:Int),cf] k=some [(v,k)]:=by
  refine zSD aa (zaB ?_)
  try simp only [zA]
  refine zaA ?_
  simp only [zA,subN (show a<=e by omega) (show e<=9223372036854775807 by omega)]
  refine zZ9 ?_
  obtain ⟨k1,e1,n1,t1,o1,f1⟩:=nwF k (rO [iI 0] 3)
  rw [z_3]
  simp only [zg,zK,zC0,e1,zb]
  have bp:k1.get b=some (.row (zB1 d) ty es false):=(o1.ext.get b aB).trans hg
  have p1:PV b ty es d k.next k1 k1:=PV.start o1.ext.ok bp (by omega) ⟨0,t1⟩ (by omega) (by omega)
  have hl:=show e-a<=9223372036854775807 by omega
  refine zZ8 ?_
  simp only [zA,zin hl]
  rw [zpf (a:=(e-a) / 4) (by omega)]
  simp only [zA,zN3 (show a+(e-a) / 4*1<=9223372036854775807 by omega)]
  refine zZ7 ?_
  simp only [zA,zim hl]
  rw [zdd (a:=(e-a) / 4) (by omega)]
  simp only [zA,zN3 (show a+(e-a) / 4*2<=9223372036854775807 by omega)]
  refine zZ6 ?_
  simp only [zA,zil hl]
  rw [zpe (a:=(e-a) / 4) (by omega)]
  simp only [zA,zN3 (show a+(e-a) / 4*3<=9223372036854775807 by omega)]
  refine zZ5 ?_
  simp only [zA,zAa,show decide ((8:Int)<=((e-a:Nat):Int))=true from decide_eq_true (by omega),zz]
  have fin:∀ (m:AH) (q:Nat),PV b ty es d k.next k1 m->a<=q->q<e->zkW true (KR E [.tmp 8,.tmp 9] (fun x m=>(zi x=true/\∃ (p:Nat) (an:Int),(a<=p/\p<e)/\(an=0\/an=1\/an=2)/\x=.tuple #[iI (p:Int),iI an])/\k.next<=m.wm)) (.pointer (some ⟨k.next,0,none⟩)) (iI (q:Int)) m:=by
   intro m q p h1 h2
   obtain ⟨z,hz⟩:=p.hz
   have f0:k.next<=m.wm:=p.fx.wm k.next o1.wm (fun c hc=>Nat.le_of_eq hc.symm) (by omega)
   refine zRT ?_
   rw [zF (P:=E) zAb (o:=0) hz]
   simp only [lnth,zA]
   refine zRS ?_
   have end_:∀ an:Int,(an=0\/an=1\/an=2)->KR E [.tmp 8,.tmp 9] (fun x m=>(zi x=true/\∃ (p:Nat) (an:Int),(a<=p/\p<e)/\(an=0\/an=1\/an=2)/\x=.tuple #[iI (p:Int),iI an])/\k.next<=m.wm) .ret [iI (q:Int),iI an] m:=by
    intro an hh
    rw [zQX]
    exact ⟨zX ▸ trivial,⟨rfl,q,an,⟨h1,h2⟩,hh,rfl⟩,f0⟩
   simp only [zA,zAg,zAM]
   refine ⟨fun _=>zRR ?_,fun _=>zRQ ?_⟩
   ·(try simp only [zA]);exact end_ 1 (.inr (.inl rfl))
   ·simp only [zA,zAg,zAM]
    refine ⟨fun _=>zRP ?_,fun _=>zRO ?_⟩
    ·(try simp only [zA]);exact end_ 2 (.inr (.inr rfl))
    ·(try simp only [zA]);exact end_ 0 (.inl rfl)
  have last:∀ (m:AH) (i j l:Nat),PV b ty es d k.next k1 m->m.ok->(a<=i/\i<e)->(a<=j/\j<e)->(a<=l/\l<e)->zkX true (KR E [.tmp 8,.tmp 9] (fun x m=>(zi x=true/\∃ (p:Nat) (an:Int),(a<=p/\p<e)/\(an=0\/an=1\/an=2)/\x=.tuple #[iI (p:Int),iI an])/\k.next<=m.wm)) (sl b n c) cf (.pointer (some ⟨k.next,0,none⟩)) (iI (i:Int)) (iI (j:Int)) (iI (l:Int)) m:=by
   intro m i j l p hm hi hj hl
   refine zRU ?_
   simp only [zA,zQ]
   refine (zUh (c:=c) p hm hs hn hc (x:=i) (y:=j) (z:=l) (by omega) (by omega) (by omega)).mono ?_
   rintro ⟨v,m2⟩ ⟨⟨q,hq,dJ⟩,p2⟩
   simp only at hq
   subst hq
   try simp only [zA]
   have:a<=q/\q<e:=by rcases dJ with rfl|rfl|rfl <;> assumption
   exact fin m2 q ((p.step p2.fx p2.hz)) this.1 this.2
  refine zZ4 ?_
  simp only [zA,zAa,zAM]
  refine ⟨fun h50=>zZ3 ?_,fun _=>last k1 _ _ _ p1 o1.ext.ok (by omega) (by omega) (by omega)⟩
  simp only [zA,zQ]
  refine (zNn (c:=c) p1 o1.ext.ok hs hn hc (x:=a+(e-a) / 4*1) (by omega) (by omega)).mono ?_
  rintro ⟨v,m2⟩ ⟨⟨q,hq,dJ,hq3⟩,p2⟩
  simp only at hq
  subst hq
  try simp only [zA]
  have p2':=p1.step p2.fx p2.hz
  refine zZ2 ?_
  simp only [zA,zQ]
  refine (zNn (c:=c) p2' p2.fx.ok hs hn hc (x:=a+(e-a) / 4*2) (by omega) (by omega)).mono ?_
  rintro ⟨v,m3⟩ ⟨⟨q2,hq,hq4,hq5⟩,p3⟩
  simp only at hq
  subst hq
  try simp only [zA]
  have p3':=p2'.step p3.fx p3.hz
  refine zRV ?_
  simp only [zA,zQ]
  refine (zNn (c:=c) p3' p3.fx.ok hs hn hc (x:=a+(e-a) / 4*3) (by omega) (by omega)).mono ?_
  rintro ⟨v,m4⟩ ⟨⟨q3,hq,hq6,hq7⟩,p4⟩
  simp only at hq
  subst hq
  try simp only [zA]
  exact last m4 q q2 q3 (p3'.step p4.fx p4.hz) p4.fx.ok (by omega) (by omega) (by omega)
 obtain ⟨v,⟨p,an,h1,h2,rfl⟩,h3⟩:=main
 exact ⟨p,an,h1,h2,h3⟩
end
theorem zPj {a:Nat} (h:a<18446744073709551616):IntKind.u64.wrap (a:Int)=(a:Int):=by rw [IntKind.wrap_u64];omega
theorem zlC {a:Nat} (h:a<=9223372036854775807):IntKind.i64.wrap (a:Int)=(a:Int):=by rw [← zFI];exact zDC (by unfold zC3;omega)
theorem ziU:((List.range 256).all fun i=>match zC9 E 9 (some (.string ⟨#[0,1,2,2,3,3,3,3,4,4,4,4,4,4,4,4,5,5,5,5,5,5,5,5,5,5,5,5,5,5,5,5,6,6,6,6,6,6,6,6,6,6,6,6,6,6,6,6,6,6,6,6,6,6,6,6,6,6,6,6,6,6,6,6,7,7,7,7,7,7,7,7,7,7,7,7,7,7,7,7,7,7,7,7,7,7,7,7,7,7,7,7,7,7,7,7,7,7,7,7,7,7,7,7,7,7,7,7,7,7,7,7,7,7,7,7,7,7,7,7,7,7,7,7,7,7,7,7,8,8,8,8,8,8,8,8,8,8,8,8,8,8,8,8,8,8,8,8,8,8,8,8,8,8,8,8,8,8,8,8,8,8,8,8,8,8,8,8,8,8,8,8,8,8,8,8,8,8,8,8,8,8,8,8,8,8,8,8,8,8,8,8,8,8,8,8,8,8,8,8,8,8,8,8,8,8,8,8,8,8,8,8,8,8,8,8,8,8,8,8,8,8,8,8,8,8,8,8,8,8,8,8,8,8,8,8,8,8,8,8,8,8,8,8,8,8,8,8,8,8,8,8,8,8,8,8]⟩)) (some (.int .u8 (i:Int))) with
 | some (.int .u8 (.ofNat t))=>Nat.ble t 8&&(Nat.beq i 0||Nat.ble (2 ^ t) (2*i))
 | _=>false)=true:=by kernel_rfl
theorem zlP {i:Nat} (h:i<256):∃ t:Nat,zC9 E 9 (some (.string ⟨#[0,1,2,2,3,3,3,3,4,4,4,4,4,4,4,4,5,5,5,5,5,5,5,5,5,5,5,5,5,5,5,5,6,6,6,6,6,6,6,6,6,6,6,6,6,6,6,6,6,6,6,6,6,6,6,6,6,6,6,6,6,6,6,6,7,7,7,7,7,7,7,7,7,7,7,7,7,7,7,7,7,7,7,7,7,7,7,7,7,7,7,7,7,7,7,7,7,7,7,7,7,7,7,7,7,7,7,7,7,7,7,7,7,7,7,7,7,7,7,7,7,7,7,7,7,7,7,7,8,8,8,8,8,8,8,8,8,8,8,8,8,8,8,8,8,8,8,8,8,8,8,8,8,8,8,8,8,8,8,8,8,8,8,8,8,8,8,8,8,8,8,8,8,8,8,8,8,8,8,8,8,8,8,8,8,8,8,8,8,8,8,8,8,8,8,8,8,8,8,8,8,8,8,8,8,8,8,8,8,8,8,8,8,8,8,8,8,8,8,8,8,8,8,8,8,8,8,8,8,8,8,8,8,8,8,8,8,8,8,8,8,8,8,8,8,8,8,8,8,8,8,8,8,8,8,8]⟩)) (some (.int .u8 (i:Int)))=some (.int .u8 (t:Int))/\t<=8/\(1<=i->2 ^ t<=2*i):=by
 have:=List.all_eq_true.1 ziU i (List.mem_range.2 h)
 split at this
 ·rename_i t he
  simp only [Bool.and_eq_true,Bool.or_eq_true] at this
  refine ⟨t,he,ble_true.1 this.1,fun h1=>?_⟩
  rcases this.2 with h2|h2
  ·have:=Nat.eq_of_beq_eq_true h2;omega
  ·exact ble_true.1 h2
 ·cases this
theorem zjZ (a:Int) (h:AH):zN E (zk [(20,.int .u64 a)]) (zo zhG [1,1,1,1,0] 2) h=some (.int .u8 (IntKind.u8.wrap a)):=by kernel_rfl
theorem zdx (a:Int) (h:AH):zN E (zk [(22,.int .u8 a)]) (zo zhG [1,1,1,1,0] 4) h=some (iI (IntKind.i64.wrap a)):=by kernel_rfl
theorem zlV (a:Int):zp E (zk [(15,.int .u64 a)]) (zo zhG [1,1,1,0,1,0,0] 1)=some (.int .u64 (a.fdiv (2 ^ (8:Nat)))):=by kernel_rfl
theorem ziY (a:Int):zp E (zk [(9,.int .u64 a)]) (zo zhG [1,1,0,1,0,0] 1)=some (.int .u64 (a.fdiv (2 ^ (16:Nat)))):=by kernel_rfl
theorem zDx (t:TypeId) (a b:Int):zC E .geq t (.int .u64 a) (.int .u64 b)=some (.bool (decide (b<=a))):=by
 show some (Value.bool (ile b a))=_
 rw [zGC]
theorem zjy {k:AH} (aa:k.ok) {x:Nat} (h2:x<16777216):∃ l:Nat,((1<=x->2 ^ l<=2*x)/\l<=24)/\(zY E).call 153 [.int .u64 (x:Int)] k=some [(iI (l:Int),k)]:=by
 have tail:∀ {y:Nat} {m:Nat} {F:Nat->Prop} {K:KF},y<256->m<=16->(∀ t:Nat,t<=8->(1<=y->2 ^ t<=2*y)->K .ret [iI ((m+t:Nat):Int)] k.fresh)->zkS true K (.int .u64 (y:Int)) (iI (m:Int)) k.fresh:=by
  intro y m F K hy hm hK
  refine zQ1 ?_
  obtain ⟨t,t1,t2,t3⟩:=zlP hy
  have e1:IntKind.u8.wrap (y:Int)=(y:Int):=by
   have:IntKind.u8.wrap (y:Int)=(y:Int) % 256:=by simp [IntKind.wrap,IntKind.bits,IntKind.signed]
   rw [this];omega
  simp only [zA,zjZ,e1,t1,zdx,zlC (show t<=9223372036854775807 by omega),zN3 (show m+t<=9223372036854775807 by omega)]
  exact hK t t2 t3
 by_cases gQ:65536<=x
 ·have main:∃ v,(∃ l:Nat,((1<=x->2 ^ l<=2*x)/\l<=24)/\v=iI (l:Int))/\(zY E).call 153 [.int .u64 (x:Int)] k=some [(v,k)]:=by
   refine zGO aa (zH2 (zH1 ?_))
   simp only [zA,zDx,show decide ((4294967296:Int)<=(x:Int))=false from decide_eq_false (by omega),zj]
   refine zH0 ?_
   simp only [zA,zDx,show decide ((65536:Int)<=(x:Int))=true from decide_eq_true (by omega),zz]
   refine zZQ ?_
   have e2:(x:Int).fdiv (2 ^ (16:Nat))=((x / 65536:Nat):Int):=by
    rw [Int.fdiv_eq_ediv_of_nonneg _ (by decide)]
    rfl
   simp only [zA,ziY,e2]
   refine zZP ?_
   rw [zAD 3 (a:=0) (b:=16) (by unfold zC3;omega)]
   try simp only [zA]
   refine zHz ?_
   simp only [zA,zDx,show decide ((256:Int)<=((x / 65536:Nat):Int))=false from decide_eq_false (by omega),zj]
   refine tail (m:=16) (F:=fun _=>True) (by omega) (by omega) fun t ht h3=>?_
   rw [zAS]
   refine ⟨zX ▸ trivial,⟨rfl,16+t,⟨?_,by omega⟩,rfl⟩,Nat.le_add_right _ _⟩
   intro _
   have:=h3 (by omega)
   rw [Nat.pow_add]
   omega
  obtain ⟨v,⟨l,hl,rfl⟩,h⟩:=main
  exact ⟨l,hl,h⟩
 by_cases hx:x<256
 ·have main:∃ v,(∃ l:Nat,((1<=x->2 ^ l<=2*x)/\l<=24)/\v=iI (l:Int))/\(zY E).call 153 [.int .u64 (x:Int)] k=some [(v,k)]:=by
   refine zGO aa (zH2 ?_)
   try simp only [zA]
   refine zH1 ?_
   simp only [zA,zDx,show decide ((4294967296:Int)<=(x:Int))=false from decide_eq_false (by omega),zj]
   refine zH0 ?_
   simp only [zA,zDx,show decide ((65536:Int)<=(x:Int))=false from decide_eq_false (by omega),zj]
   refine zHz ?_
   simp only [zA,zDx,show decide ((256:Int)<=(x:Int))=false from decide_eq_false (by omega),zj]
   refine tail (m:=0) (F:=fun _=>True) hx (by omega) fun t ht h3=>?_
   rw [zAS,Nat.zero_add]
   exact ⟨zX ▸ trivial,⟨rfl,t,⟨h3,by omega⟩,rfl⟩,Nat.le_add_right _ _⟩
  obtain ⟨v,⟨l,hl,rfl⟩,h⟩:=main
  exact ⟨l,hl,h⟩
 ·have main:∃ v,(∃ l:Nat,((1<=x->2 ^ l<=2*x)/\l<=24)/\v=iI (l:Int))/\(zY E).call 153 [.int .u64 (x:Int)] k=some [(v,k)]:=by
   refine zGO aa (zH2 ?_)
   try simp only [zA]
   refine zH1 ?_
   simp only [zA,zDx,show decide ((4294967296:Int)<=(x:Int))=false from decide_eq_false (by omega),zj]
   refine zH0 ?_
   simp only [zA,zDx,show decide ((65536:Int)<=(x:Int))=false from decide_eq_false (by omega),zj]
   refine zHz ?_
   simp only [zA,zDx,show decide ((256:Int)<=(x:Int))=true from decide_eq_true (by omega),zz]
   refine zZO ?_
   have e2:(x:Int).fdiv (2 ^ (8:Nat))=((x / 256:Nat):Int):=by
    rw [Int.fdiv_eq_ediv_of_nonneg _ (by decide)]
    rfl
   simp only [zA,zlV,e2]
   refine zZN ?_
   try simp only [zA]
   rw [zAD 3 (a:=0) (b:=8) (by unfold zC3;omega)]
   try simp only [zA]
   refine tail (m:=8) (F:=fun _=>True) (by omega) (by omega) fun t ht h3=>?_
   rw [zAS]
   refine ⟨zX ▸ trivial,⟨rfl,8+t,⟨?_,by omega⟩,rfl⟩,Nat.le_add_right _ _⟩
   intro _
   have:=h3 (by omega)
   rw [Nat.pow_add]
   omega
  obtain ⟨v,⟨l,hl,rfl⟩,h⟩:=main
  exact ⟨l,hl,h⟩
theorem zhq {k:AH} (aa:k.ok) {x:Nat} (h2:x<16777216):∃ l:Nat,((1<=x->2 ^ l<=2*x)/\l<=24)/\(zY E).call 93 [.int .u64 (x:Int)] k=some [(iI (l:Int),k)]:=by
 obtain ⟨l,hl,h⟩:=zjy (zAT k) h2
 refine ⟨l,hl,zcC aa rfl (zeC ?_)⟩
 simp only [zA,zj]
 refine zeB ?_
 simp only [zA,zQ,h,zP,zAS,zX,true_and]
 exact Nat.le_add_right _ _
theorem zjY (a:Int) (h:AH):zN E (zk [(3,iI a)]) (zo zk9 [1,0] 1) h=some (.int .u64 (IntKind.u64.wrap a)):=by kernel_rfl
theorem zS2:(zo zk9 [1,0] 3).op=.binOp .shl 140 (.const (.int .u64 1)) (.tmp 5) 3:=by kernel_rfl
theorem zlW {l:Nat} (hl:l<=24):zp E (zk [(5,iI (l:Int))]) (zo zk9 [1,0] 3)=some (.int .u64 ((2 ^ l:Nat):Int)):=by
 have h1:(zk [(5,iI (l:Int))]).get 5=iI (l:Int):=by kernel_rfl
 refine zSz zS2 (va:=.int .u64 1) (vb:=iI (l:Int)) rfl h1 rfl (by show zi _=true;rw [h1];rfl) rfl rfl ?_ rfl
 show Op.shift .shl .u64 1 .i64 (l:Int)=_
 unfold Op.shift
 rw [if_neg (by omega)]
 have e:min (l:Int).toNat IntKind.u64.bits=l:=by
  show min (l:Int).toNat 64=l
  omega
 have hp:2 ^ l<=2 ^ 24:=Nat.pow_le_pow_right (by decide) hl
 have:IntKind.u64.wrap (1*2 ^ (min (l:Int).toNat IntKind.u64.bits))=((2 ^ l:Nat):Int):=by
  rw [e,Int.one_mul,show ((2:Int) ^ l)=((2 ^ l:Nat):Int) by push_cast;rfl]
  exact zPj (by omega)
 show pure (Value.int .u64 (IntKind.u64.wrap (1*2 ^ (min (l:Int).toNat IntKind.u64.bits))))=_
 rw [this]
theorem zjr {k:AH} (aa:k.ok) {x:Nat} (h1:1<=x) (h2:x<16777216):∃ m:Nat,(1<=m/\m<=2*x)/\(zY E).call 193 [iI (x:Int)] k=some [(.int .u64 (m:Int),k)]:=by
 obtain ⟨l,hl,h⟩:=zhq (zAT k) h2
 refine ⟨2 ^ l,⟨Nat.one_le_two_pow,hl.1 h1⟩,zSA aa rfl (zYS ?_)⟩
 try simp only [zA]
 refine zYR ?_
 simp only [zA,zjY,zPj (show x<18446744073709551616 by omega),zQ,h,zP,zlW hl.2,zAS,zX,true_and]
 exact Nat.le_add_right _ _
theorem zpQ (a:Int):zp E (zk [(8,.int .u64 a)]) (zo zPh [1,0] 6)=some (.int .u64 (IntKind.u64.wrap (a*2 ^ (13:Nat)))):=by kernel_rfl
theorem zpG (a b:Int):zp E (zk [(5,.int .u64 a),(9,.int .u64 b)]) (zo zPh [1,0] 7)=some (.int .u64 (IntKind.u64.wrap (BitVec.ofInt 64 a ^^^ BitVec.ofInt 64 b).toNat)):=by kernel_rfl
theorem zpP (a:Int):zp E (zk [(17,.int .u64 a)]) (zo zPh [1,1,0] 6)=some (.int .u64 (a.fdiv (2 ^ (7:Nat)))):=by kernel_rfl
theorem zpF (a b:Int):zp E (zk [(14,.int .u64 a),(18,.int .u64 b)]) (zo zPh [1,1,0] 7)=some (.int .u64 (IntKind.u64.wrap (BitVec.ofInt 64 a ^^^ BitVec.ofInt 64 b).toNat)):=by kernel_rfl
theorem zpO (a:Int):zp E (zk [(26,.int .u64 a)]) (zo zPh [1,1,1,0] 6)=some (.int .u64 (IntKind.u64.wrap (a*2 ^ (17:Nat)))):=by kernel_rfl
theorem zpE (a b:Int):zp E (zk [(23,.int .u64 a),(27,.int .u64 b)]) (zo zPh [1,1,1,0] 7)=some (.int .u64 (IntKind.u64.wrap (BitVec.ofInt 64 a ^^^ BitVec.ofInt 64 b).toNat)):=by kernel_rfl
def U64 (h:AH) (r:Nat):Prop:=∃ z,h.get r=some (rO [.int .u64 z] 253)
theorem zOD {h:AH} {r:Nat} (H:U64 h r) (z:Int):∃ m,zf E 253 h (some (ptr r)) (some (.int .u64 z))=one (undef,m)/\U64 m r/\m.wm<=r/\m.wm<=h.wm/\∀ (k0:AH) (P:Nat->Prop),(P r\/k0.next<=r)->Fx P k0 h->Fx P k0 m:=by
 obtain ⟨y,hy⟩:=H
 exact ⟨_,z7 (P:=E) zlH (x:=.int .u64 z) (cs:=[.int .u64 z]) (o:=0) hy rfl rfl (by simp) rfl,⟨z,zO _ _ _⟩,(zKe _ _ _).1,(zKe _ _ _).2,fun k0 P hP f=>f.upd hP _⟩
theorem zjq {k:AH} {r:Nat} (hr:U64 k r) (hrl:r<k.next) (aa:k.ok):Ev true ((zY E).call 194 [ptr r] k) fun x=>(∃ u,x.1=.int .u64 u)/\Fx (fun c=>c=r) k x.2/\U64 x.2 r/\x.2.wm<=k.wm:=by
 refine (zKF (Q:=fun v m=>(∃ u,v=.int .u64 u)/\Fx (fun c=>c=r) k.fresh m/\U64 m r) aa zgk zcZ (zgj _ _) (by kernel_rfl) (zkj (Rp:=fun v m=>(∃ u,v=.int .u64 u)/\Fx (fun c=>c=r) k.fresh m/\U64 m r) (zYQ ?_))).mono ?_
 rotate_left
 ·rintro ⟨v,m⟩ ⟨k1,⟨hq,f,hz⟩,⟨h1,h2⟩|h2⟩
  ·simp only at h2 hq ⊢
   subst h2
   exact ⟨hq,Fx.refl aa,hr,Nat.le_refl _⟩
  ·simp only at h2 hq ⊢
   subst h2
   obtain ⟨z,hz⟩:=hz
   refine ⟨hq,f.back,⟨z,zEy hz⟩,?_⟩
   show cond (Nat.ble k.wm k1.wm) k.wm k1.wm<=k.wm
   cases hc:Nat.ble k.wm k1.wm with
   | true=>exact Nat.le_refl _
   | false=>have:=ble_false.1 hc;simp only [cond_false];omega
 have ld:∀ {h:AH} {z:Int},h.get r=some (rO [.int .u64 z] 253)->zG E 253 h (some (ptr r))=some (.int .u64 z):=fun hz=>zF (P:=E) zlQ (o:=0) hz
 try simp only [zA]
 refine zYP ?_
 obtain ⟨z1,gY⟩:U64 k.fresh r:=hr
 obtain ⟨m1,e1,u1,-,-,f1⟩:=zOD ⟨z1,gY⟩ (IntKind.u64.wrap (BitVec.ofInt 64 z1 ^^^ BitVec.ofInt 64 (IntKind.u64.wrap (z1*2 ^ (13:Nat)))).toNat)
 simp only [zA,zA1,ld gY,zpQ,zpG,e1,zK]
 have g1:=f1 k.fresh (fun c=>c=r) (.inl rfl) (Fx.refl (P:=fun c=>c=r) (zAT k))
 refine zYO ?_
 obtain ⟨z2,d9⟩:=u1
 obtain ⟨m2,e2,u2,-,-,f2⟩:=zOD ⟨z2,d9⟩ (IntKind.u64.wrap (BitVec.ofInt 64 z2 ^^^ BitVec.ofInt 64 (z2.fdiv (2 ^ (7:Nat)))).toNat)
 simp only [zA,zA1,ld d9,zpP,zpF,e2,zK]
 have g2:=f2 k.fresh (fun c=>c=r) (.inl rfl) g1
 refine zYN ?_
 obtain ⟨z3,iv⟩:=u2
 obtain ⟨m3,e3,u3,-,-,f3⟩:=zOD ⟨z3,iv⟩ (IntKind.u64.wrap (BitVec.ofInt 64 z3 ^^^ BitVec.ofInt 64 (IntKind.u64.wrap (z3*2 ^ (17:Nat)))).toNat)
 simp only [zA,zA1,ld iv,zpO,zpE,e3,zK]
 have g3:=f3 k.fresh (fun c=>c=r) (.inl rfl) g2
 refine zYM ?_
 obtain ⟨z4,hz4⟩:=u3
 simp only [zA,zA1,ld hz4]
 rw [zAS]
 exact ⟨zX ▸ trivial,⟨z4,rfl⟩,g3,z4,hz4⟩
theorem zja (a:Int) (h:AH):zN E (zk [(18,iI a)]) (zo zSX [1,1,0,0] 1) h=some (.int .u64 (IntKind.u64.wrap a)):=by kernel_rfl
theorem zm3 (a b:Int):zp E (zk [(38,.int .u64 a),(40,.int .u64 b)]) (zo zSX [1,1,0,1,1,1,0,0,1,0,0,0] 3)=some (.int .u64 (IntKind.u64.wrap (BitVec.ofInt 64 a &&& BitVec.ofInt 64 b).toNat)):=by kernel_rfl
theorem zdy (a:Int) (h:AH):zN E (zk [(41,.int .u64 a)]) (zo zSX [1,1,0,1,1,1,0,0,1,0,0,0] 4) h=some (iI (IntKind.i64.wrap a)):=by kernel_rfl
theorem zio {x:Nat} (h:x<=9223372036854775807):zp E (zk [(23,iI (x:Int))]) (zo zSX [1,1,0,1,1,0] 2)=some (iI ((x / 4:Nat):Int)):=zHK (u:=23) (cc:=4) (by kernel_rfl) (by kernel_rfl) (by omega) h
theorem zTJ {x:Nat} (h:x<=9223372036854775807):zp E (zk [(30,iI (x:Int))]) (zo zSX [1,1,0,1,1,1,0,0,0,0] 3)=some (iI ((x / 4:Nat):Int)):=zHK (u:=30) (cc:=4) (by kernel_rfl) (by kernel_rfl) (by omega) h
theorem subu {m:Nat} (h1:1<=m) (h2:m<=4000000) (t:TypeId):zC E .sub t (.int .u64 (m:Int)) (.int .u64 1)=some (.int .u64 ((m-1:Nat):Int)):=by
 show some (Value.int .u64 (zB4 .u64 ((m:Int)-1)))=_
 rw [zFI,show (m:Int)-1=((m-1:Nat):Int) by omega,zPj (by omega)]
theorem zm2 (u:Int) {v:Nat} (h:v<=4000000):∃ r:Nat,r<=v/\IntKind.u64.wrap (BitVec.ofInt 64 u &&& BitVec.ofInt 64 (v:Int)).toNat=(r:Int):=by
 have e:(BitVec.ofInt 64 u &&& BitVec.ofInt 64 (v:Int)).toNat<=v:=by
  rw [BitVec.toNat_and]
  refine Nat.le_trans Nat.and_le_right ?_
  rw [BitVec.toNat_ofInt]
  omega
 exact ⟨_,e,zPj (by omega)⟩
theorem SR.side {b ty es:Nat} {k0 h m:AH} {d0 d:Dt} {r:Nat} (R:SR b ty es k0 d0 h d) (f:Fx (fun c=>c=r) h m) (hr:k0.next<=r) (ah:b≠r) (hw:m.wm<=h.wm):SR b ty es k0 d0 m d:=
 ⟨R.fx.trans f fun c hc=>.inr (hc ▸ hr),(f.get b R.l ah).trans R.g,by
  rcases R.wm with h1|h1
  ·exact .inl (by omega)
  ·exact .inr h1,Nat.le_trans hw R.wle,R.sz,R.lt⟩
section
variable {b ty es c:Nat} {k:AH} {d:Dt} {cf:Value}
theorem zj5 (hg:k.get b=some (.row (zB1 d) ty es false)) (aB:b<k.next) (aa:k.ok) {n:Nat} (hs:d.size=n) (hn:d.size<=1000000) {a e:Nat} (fV:a+13<=e) (he:e<=d.size) :
  Ev true ((zY E).call 146 [sl b n c,iI (a:Int),iI (e:Int),cf] k) fun x=>∃ d',(x.1=.tuple #[]/\PermIn a e d d')/\SR b ty es k d x.2 d':=by
 subst hs
 refine zEC (Q:=fun v d'=>v=.tuple #[]/\PermIn a e d d') hg aB aa zgx zcq (zgw _ _) (by kernel_rfl) (zkq (Rp:=RS b ty es k d (fun v d'=>v=.tuple #[]/\PermIn a e d d')) (zaK ?_))
 simp only [zA,subN (show a<=e by omega) (show e<=9223372036854775807 by omega)]
 refine zaJ ?_
 simp only [zA,zAa,show decide ((8:Int)<=((e-a:Nat):Int))=true from decide_eq_true (by omega),zz]
 refine zaI ?_
 obtain ⟨k1,e1,n1,t1,o1,f1⟩:=nwF k (rO [.int .u64 0] 253)
 rw [zo8]
 simp only [zA,zja,zg,zK,zC0,e1,zb,zPj (show e-a<18446744073709551616 by omega)]
 have R1:SR b ty es k.fresh d k1 d:=by
  refine ⟨?_,(f1 b aB).trans hg,.inr rfl,?_,rfl,aB⟩
  ·rw [← e1];exact (Fx.refl (zAT k)).new _
  ·rw [← e1,zDK];exact Nat.le_refl _
 obtain ⟨m1,s1,u1,-,w1,g1⟩:=zOD ⟨0,t1⟩ ((e-a:Nat):Int)
 have R2:SR b ty es k.fresh d m1 d:=R1.side (g1 k1 (fun c=>c=k.next) (.inl rfl) (Fx.refl R1.ok)) (Nat.le_refl _) (by omega) w1
 simp only [s1,zK]
 have ep:k.next<m1.next:=by
  have:=(g1 k1 (fun c=>c=k.next) (.inl rfl) (Fx.refl R1.ok)).next
  omega
 refine zaH ?_
 obtain ⟨M,hM,c193⟩:=zjr R2.ok (x:=e-a) (by omega) (by omega)
 simp only [zA,zQ,c193,zP]
 refine zaG ?_
 simp only [zA,zio (show e-a<=9223372036854775807 by omega)]
 rw [zdd (by omega)]
 simp only [zA,zN3 (show a+(e-a) / 4*2<=9223372036854775807 by omega),zBo (show 1<=a+(e-a) / 4*2 by omega) (show a+(e-a) / 4*2<=9223372036854775807 by omega)]
 have loop:∀ (m i:Nat),i+m=a+(e-a) / 4*2+2->a<=i->∀ d' h,SR b ty es k.fresh d h d'->PermIn a e d d'->U64 h k.next->k.next<h.next->
   zn7 true (KR E [] (RS b ty es k d (fun v d'=>v=.tuple #[]/\PermIn a e d d'))) (sl b d.size c) (iI (a:Int)) (iI ((e-a:Nat):Int)) (.pointer (some ⟨k.next,0,none⟩)) (.int .u64 (M:Int)) (iI (i:Int)) h:=by
  intro m
  induction m with
  | zero=>
   intro i hm hi d' h R hp hu hl
   refine zME ?_
   simp only [zA,zTJ (show e-a<=9223372036854775807 by omega)]
   rw [zdd (by omega)]
   simp only [zA,zN3 (show a+(e-a) / 4*2<=9223372036854775807 by omega),zBy (show a+(e-a) / 4*2+1<=9223372036854775807 by omega),zBG,show decide ((i:Int)<=((a+(e-a) / 4*2+1:Nat):Int))=false from decide_eq_false (by omega),zj]
   rw [zSP]
   exact ⟨zEE ▸ trivial,d',⟨rfl,hp⟩,R⟩
  | succ m ih=>
   intro i hm hi d' h R hp hu hl
   have hsz:=R.sz
   refine zME ?_
   simp only [zA,zTJ (show e-a<=9223372036854775807 by omega)]
   rw [zdd (by omega)]
   simp only [zA,zN3 (show a+(e-a) / 4*2<=9223372036854775807 by omega),zBy (show a+(e-a) / 4*2+1<=9223372036854775807 by omega),zBG,show decide ((i:Int)<=((a+(e-a) / 4*2+1:Nat):Int))=true from decide_eq_true (by omega),zz]
   refine zaF ?_
   rw [zQ]
   refine (zjq hu hl R.ok).mono ?_
   rintro ⟨v,h2⟩ ⟨⟨u,rfl⟩,f2,u2,w2⟩
   have R3:=R.side f2 (Nat.le_refl _) (by omega) w2
   obtain ⟨r,hr,er⟩:=zm2 u (v:=M-1) (by omega)
   simp only [zA,subu hM.1 (show M<=4000000 by omega),zm3,er,zdy,zlC (show r<=9223372036854775807 by omega)]
   have fe:k.next<h2.next:=Nat.lt_of_lt_of_le hl f2.next
   have rest:∀ o:Nat,o<e-a->zn6 true (KR E [] (RS b ty es k d (fun v d'=>v=.tuple #[]/\PermIn a e d d'))) (sl b d.size c) (iI (a:Int)) (iI ((e-a:Nat):Int)) (.pointer (some ⟨k.next,0,none⟩)) (.int .u64 (M:Int)) (iI (i:Int)) (iI (o:Int)) h2:=by
    intro o ho
    refine zaC ?_
    obtain ⟨m3,m4,q1,q2,R4⟩:=R3.sw (i:=i) (j:=a+o) (by omega) (by omega)
    simp only [zA,zN3 (show a+o<=9223372036854775807 by omega),zAR (show a+o<d.size by omega),zAR (show i<d.size by omega),R3.ld (i:=i) (by omega),R3.ld (i:=a+o) (by omega),q1,q2,zK]
    refine zRW ?_
    simp only [zA,zBy (show i+1<=9223372036854775807 by omega)]
    have hn4:k.next<m4.next/\m4.get k.next=h2.get k.next:=by
     obtain ⟨p1,p2⟩:m3.next=h2.next/\m3.get k.next=h2.get k.next:=by
      have:=z7 (P:=E) zID (cs:=zH d'[a+o]!) (o:=i*2) (x:=.agg ⟨zH d'[a+o]!⟩) R3.g rfl rfl (by rw [zFU];omega) (zON _)
      rw [Nat.zero_add,this] at q1
      have e3:h2.upd b (some (.row (lput (zB1 d') (i*2) (zH d'[a+o]!)) ty es false))=m3:=by
       simp only [one,Option.some.injEq,List.cons.injEq,Prod.mk.injEq,true_and,and_true] at q1;exact q1
      rw [← e3]
      exact ⟨rfl,zW (by omega)⟩
     obtain ⟨vs,hv⟩:∃ vs,m3.get b=some (.row vs ty es false)/\vs.length=d'.size*2:=by
      have:=z7 (P:=E) zID (cs:=zH d'[a+o]!) (o:=i*2) (x:=.agg ⟨zH d'[a+o]!⟩) R3.g rfl rfl (by rw [zFU];omega) (zON _)
      rw [Nat.zero_add,this] at q1
      have e3:h2.upd b (some (.row (lput (zB1 d') (i*2) (zH d'[a+o]!)) ty es false))=m3:=by
       simp only [one,Option.some.injEq,List.cons.injEq,Prod.mk.injEq,true_and,and_true] at q1;exact q1
      rw [← e3,zO]
      refine ⟨_,rfl,?_⟩
      show (lput (d'.toList.flatMap zH) (i*2) (zH d'[a+o]!)).length=_
      rw [zJg _ _ _ (by simp;omega),zCF]
      simp
     have:=z7 (P:=E) zID (cs:=zH d'[i]!) (o:=(a+o)*2) (x:=.agg ⟨zH d'[i]!⟩) hv.1 rfl rfl (by rw [hv.2];omega) (zON _)
     rw [Nat.zero_add,this] at q2
     have e4:m3.upd b (some (.row (lput vs ((a+o)*2) (zH d'[i]!)) ty es false))=m4:=by
      simp only [one,Option.some.injEq,List.cons.injEq,Prod.mk.injEq,true_and,and_true] at q2;exact q2
     rw [← e4]
     exact ⟨by show k.next<m3.next;omega,(zW (by omega)).trans p2⟩
    refine ih (i+1) (by omega) (by omega) _ m4 R4 (permIn_trans _ _ _ _ _ hp (swp_permIn _ _ _ _ _ (by omega) (by omega) (by omega) (by omega) (by omega))) ?_ hn4.1
    obtain ⟨z,hz⟩:=u2
    exact ⟨z,hn4.2.trans hz⟩
   refine zaE ?_
   simp only [zA,zAa,zAM]
   refine ⟨fun h1=>zaD ?_,fun h1=>rest r (by omega)⟩
   simp only [zA,subN (show e-a<=r by omega) (show r<=9223372036854775807 by omega)]
   exact rest (r-(e-a)) (by omega)
 exact loop 3 (a+(e-a) / 4*2-1) (by omega) (by omega) d m1 R2 (permIn_refl _ _ _) u1 ep
end
section
variable {b ty es c:Nat} {k:AH} {d:Dt} {cf:Value} {cm:Int×Int->Int×Int->Int}
theorem zlF (hn:d.size<=1000000) (hc:zCV cf cm) {K:KF} {a j:Nat} {d':Dt} {h:AH} (R:SR b ty es k.fresh d h d') (ha:a<d.size) (hj:j<d.size):∀ (m i:Nat),j+1<=i+m->i<=d.size+1->
  (ziB true K (sl b d.size c) (iI (a:Int)) cf (iI ((scanUp (fun x=>!zAY cm d'[a]! x) d' j i:Nat):Int)) (iI (j:Int)) h)->
  ziC true K (sl b d.size c) (iI (a:Int)) cf (iI (i:Int)) (iI (j:Int)) h:=by
 have hsz:=R.sz
 intro m
 induction m with
 | zero=>
  intro i hm hi hK
  refine zMA ?_
  simp only [zA,zBG,show decide ((i:Int)<=(j:Int))=false from decide_eq_false (by omega),zM,zU,ft,cond_false,zK,zJ,zj]
  unfold scanUp at hK
  rw [if_neg (by simp;omega)] at hK
  exact hK
 | succ m ih=>
  intro i hm hi hK
  refine zMA ?_
  by_cases bP:i<=j
  rotate_left
  ·simp only [zA,zBG,show decide ((i:Int)<=(j:Int))=false from decide_eq_false (by omega),zM,zU,ft,cond_false,zK,zJ,zj]
   unfold scanUp at hK
   rw [if_neg (by simp;omega)] at hK
   exact hK
  ·simp only [zA,zBG,show decide ((i:Int)<=(j:Int))=true from decide_eq_true (by omega),zM,zU,beq_self_eq_true,cond_true,zAR ha,zAR (show i<d.size by omega),R.ld (i:=a) (by omega),R.ld (i:=i) (by omega),hc _ _ _ R.ok,zP,zZ,z6,zJ]
   by_cases ht:cm d'[a]! d'[i]! < 0
   ·simp only [ht,decide_true,Bool.not_true,zj]
    unfold scanUp at hK
    rw [if_neg (by simp [ht])] at hK
    exact hK
   ·simp only [ht,decide_false,Bool.not_false,zz]
    unfold scanUp at hK
    rw [if_pos (by simp [ht,bP] <;> omega)] at hK
    refine zZe ?_
    simp only [zA,zBy (show i+1<=9223372036854775807 by omega)]
    exact ih (i+1) (by omega) (by omega) hK
theorem zUP (hn:d.size<=1000000) (hc:zCV cf cm) {K:KF} {a i:Nat} {d':Dt} {h:AH} (R:SR b ty es k.fresh d h d') (ha:a<d.size) (hi:1<=i):∀ (j:Nat),j<d.size->
  (znz true K (sl b d.size c) (iI (a:Int)) cf (iI (i:Int)) (iI ((scanDown (fun x=>zAY cm d'[a]! x) d' i j:Nat):Int)) h)->
  ziB true K (sl b d.size c) (iI (a:Int)) cf (iI (i:Int)) (iI (j:Int)) h:=by
 have hsz:=R.sz
 intro j
 induction j with
 | zero=>
  intro hj hK
  refine zL9 ?_
  simp only [zA,zBG,show decide ((i:Int)<=((0:Nat):Int))=false from decide_eq_false (by omega),zM,zU,ft,cond_false,zK,zJ,zj]
  exact hK
 | succ j ih=>
  intro hj hK
  refine zL9 ?_
  by_cases bP:i<=j+1
  rotate_left
  ·simp only [zA,zBG,show decide ((i:Int)<=((j+1:Nat):Int))=false from decide_eq_false (by omega),zM,zU,ft,cond_false,zK,zJ,zj]
   unfold scanDown at hK
   rw [if_neg (by simp;omega)] at hK
   exact hK
  ·simp only [zA,zBG,show decide ((i:Int)<=((j+1:Nat):Int))=true from decide_eq_true (by omega),zM,zU,beq_self_eq_true,cond_true,zAR ha,zAR hj,R.ld (i:=a) (by omega),R.ld (i:=j+1) (by omega),hc _ _ _ R.ok,zP,zZ,zJ]
   by_cases ht:cm d'[a]! d'[j+1]! < 0
   ·simp only [ht,decide_true,zz]
    unfold scanDown at hK
    rw [if_pos (by simp [ht,bP])] at hK
    refine zZd ?_
    simp only [zA,zBo (show 1<=j+1 by omega) (show j+1<=9223372036854775807 by omega),Nat.add_sub_cancel]
    exact ih (by omega) hK
   ·simp only [ht,decide_false,zj]
    unfold scanDown at hK
    rw [if_neg (by simp [ht])] at hK
    exact hK
theorem zpI (hn:d.size<=1000000) (hc:zCV cf cm) {K:KF} {a j:Nat} {d':Dt} {h:AH} (R:SR b ty es k.fresh d h d') (ha:a<d.size) (hj:j<d.size):∀ (m i:Nat),j+1<=i+m->i<=d.size+1->
  (ziA true K (sl b d.size c) (iI (a:Int)) cf (iI ((scanUp (fun x=>zAY cm x d'[a]!) d' j i:Nat):Int)) (iI (j:Int)) h)->
  zny true K (sl b d.size c) (iI (a:Int)) cf (iI (i:Int)) (iI (j:Int)) h:=by
 have hsz:=R.sz
 intro m
 induction m with
 | zero=>
  intro i hm hi hK
  refine zL7 ?_
  simp only [zA,zBG,show decide ((i:Int)<=(j:Int))=false from decide_eq_false (by omega),zM,zU,ft,cond_false,zK,zJ,zj]
  unfold scanUp at hK
  rw [if_neg (by simp;omega)] at hK
  exact hK
 | succ m ih=>
  intro i hm hi hK
  refine zL7 ?_
  by_cases bP:i<=j
  rotate_left
  ·simp only [zA,zBG,show decide ((i:Int)<=(j:Int))=false from decide_eq_false (by omega),zM,zU,ft,cond_false,zK,zJ,zj]
   unfold scanUp at hK
   rw [if_neg (by simp;omega)] at hK
   exact hK
  ·simp only [zA,zBG,show decide ((i:Int)<=(j:Int))=true from decide_eq_true (by omega),zM,zU,beq_self_eq_true,cond_true,zAR ha,zAR (show i<d.size by omega),R.ld (i:=a) (by omega),R.ld (i:=i) (by omega),hc _ _ _ R.ok,zP,zZ,zJ]
   by_cases ht:cm d'[i]! d'[a]! < 0
   ·simp only [ht,decide_true,zz]
    unfold scanUp at hK
    rw [if_pos (by simp [ht,bP])] at hK
    refine zZV ?_
    simp only [zA,zBy (show i+1<=9223372036854775807 by omega)]
    exact ih (i+1) (by omega) (by omega) hK
   ·simp only [ht,decide_false,zj]
    unfold scanUp at hK
    rw [if_neg (by simp [ht])] at hK
    exact hK
theorem zjW (hn:d.size<=1000000) (hc:zCV cf cm) {K:KF} {a i:Nat} {d':Dt} {h:AH} (R:SR b ty es k.fresh d h d') (ha:a<d.size) (hi:1<=i):∀ (j:Nat),j<d.size->
  (znx true K (sl b d.size c) (iI (a:Int)) cf (iI (i:Int)) (iI ((scanDown (fun x=>!zAY cm x d'[a]!) d' i j:Nat):Int)) h)->
  ziA true K (sl b d.size c) (iI (a:Int)) cf (iI (i:Int)) (iI (j:Int)) h:=by
 have hsz:=R.sz
 intro j
 induction j with
 | zero=>
  intro hj hK
  refine zL6 ?_
  simp only [zA,zBG,show decide ((i:Int)<=((0:Nat):Int))=false from decide_eq_false (by omega),zM,zU,ft,cond_false,zK,zJ,zj]
  exact hK
 | succ j ih=>
  intro hj hK
  refine zL6 ?_
  by_cases bP:i<=j+1
  rotate_left
  ·simp only [zA,zBG,show decide ((i:Int)<=((j+1:Nat):Int))=false from decide_eq_false (by omega),zM,zU,ft,cond_false,zK,zJ,zj]
   unfold scanDown at hK
   rw [if_neg (by simp;omega)] at hK
   exact hK
  ·simp only [zA,zBG,show decide ((i:Int)<=((j+1:Nat):Int))=true from decide_eq_true (by omega),zM,zU,beq_self_eq_true,cond_true,zAR ha,zAR hj,R.ld (i:=a) (by omega),R.ld (i:=j+1) (by omega),hc _ _ _ R.ok,zP,zZ,z6,zJ]
   by_cases ht:cm d'[j+1]! d'[a]! < 0
   ·simp only [ht,decide_true,Bool.not_true,zj]
    unfold scanDown at hK
    rw [if_neg (by simp [ht])] at hK
    exact hK
   ·simp only [ht,decide_false,Bool.not_false,zz]
    unfold scanDown at hK
    rw [if_pos (by simp [ht,bP] <;> omega)] at hK
    refine zZU ?_
    simp only [zA,zBo (show 1<=j+1 by omega) (show j+1<=9223372036854775807 by omega),Nat.add_sub_cancel]
    exact ih (by omega) hK
theorem zhK (hn:d.size<=1000000) (hc:zCV cf cm) {K:KF} {a j:Nat} {d':Dt} {h:AH} (R:SR b ty es k.fresh d h d') (ha:a<d.size) (hj:j<d.size):∀ (m i:Nat),j+1<=i+m->i<=d.size+1->
  (zZY true K (sl b d.size c) (iI (a:Int)) cf (iI ((scanUp (fun x=>zAY cm x d'[a]!) d' j i:Nat):Int)) (iI (j:Int)) h)->
  zZZ true K (sl b d.size c) (iI (a:Int)) cf (iI (i:Int)) (iI (j:Int)) h:=by
 have hsz:=R.sz
 intro m
 induction m with
 | zero=>
  intro i hm hi hK
  refine zJJ ?_
  simp only [zA,zBG,show decide ((i:Int)<=(j:Int))=false from decide_eq_false (by omega),zM,zU,ft,cond_false,zK,zJ,zj]
  unfold scanUp at hK
  rw [if_neg (by simp;omega)] at hK
  exact hK
 | succ m ih=>
  intro i hm hi hK
  refine zJJ ?_
  by_cases bP:i<=j
  rotate_left
  ·simp only [zA,zBG,show decide ((i:Int)<=(j:Int))=false from decide_eq_false (by omega),zM,zU,ft,cond_false,zK,zJ,zj]
   unfold scanUp at hK
   rw [if_neg (by simp;omega)] at hK
   exact hK
  ·simp only [zA,zBG,show decide ((i:Int)<=(j:Int))=true from decide_eq_true (by omega),zM,zU,beq_self_eq_true,cond_true,zAR ha,zAR (show i<d.size by omega),R.ld (i:=a) (by omega),R.ld (i:=i) (by omega),hc _ _ _ R.ok,zP,zZ,zJ]
   by_cases ht:cm d'[i]! d'[a]! < 0
   ·simp only [ht,decide_true,zz]
    unfold scanUp at hK
    rw [if_pos (by simp [ht,bP])] at hK
    refine zQ6 ?_
    simp only [zA,zBy (show i+1<=9223372036854775807 by omega)]
    exact ih (i+1) (by omega) (by omega) hK
   ·simp only [ht,decide_false,zj]
    unfold scanUp at hK
    rw [if_neg (by simp [ht])] at hK
    exact hK
theorem zO0 (hn:d.size<=1000000) (hc:zCV cf cm) {K:KF} {a i:Nat} {d':Dt} {h:AH} (R:SR b ty es k.fresh d h d') (ha:a<d.size) (hi:1<=i):∀ (j:Nat),j<d.size->
  (zkT true K (sl b d.size c) (iI (a:Int)) cf (iI (i:Int)) (iI ((scanDown (fun x=>!zAY cm x d'[a]!) d' i j:Nat):Int)) h)->
  zZY true K (sl b d.size c) (iI (a:Int)) cf (iI (i:Int)) (iI (j:Int)) h:=by
 have hsz:=R.sz
 intro j
 induction j with
 | zero=>
  intro hj hK
  refine zJI ?_
  simp only [zA,zBG,show decide ((i:Int)<=((0:Nat):Int))=false from decide_eq_false (by omega),zM,zU,ft,cond_false,zK,zJ,zj]
  exact hK
 | succ j ih=>
  intro hj hK
  refine zJI ?_
  by_cases bP:i<=j+1
  rotate_left
  ·simp only [zA,zBG,show decide ((i:Int)<=((j+1:Nat):Int))=false from decide_eq_false (by omega),zM,zU,ft,cond_false,zK,zJ,zj]
   unfold scanDown at hK
   rw [if_neg (by simp;omega)] at hK
   exact hK
  ·simp only [zA,zBG,show decide ((i:Int)<=((j+1:Nat):Int))=true from decide_eq_true (by omega),zM,zU,beq_self_eq_true,cond_true,zAR ha,zAR hj,R.ld (i:=a) (by omega),R.ld (i:=j+1) (by omega),hc _ _ _ R.ok,zP,zZ,z6,zJ]
   by_cases ht:cm d'[j+1]! d'[a]! < 0
   ·simp only [ht,decide_true,Bool.not_true,zj]
    unfold scanDown at hK
    rw [if_neg (by simp [ht])] at hK
    exact hK
   ·simp only [ht,decide_false,Bool.not_false,zz]
    unfold scanDown at hK
    rw [if_pos (by simp [ht,bP] <;> omega)] at hK
    refine zQ5 ?_
    simp only [zA,zBo (show 1<=j+1 by omega) (show j+1<=9223372036854775807 by omega),Nat.add_sub_cancel]
    exact ih (by omega) hK
theorem zj0 (hg:k.get b=some (.row (zB1 d) ty es false)) (aB:b<k.next) (aa:k.ok) {n:Nat} (hs:d.size=n) (hn:d.size<=1000000) (hc:zCV cf cm) {a e q:Nat} (h2:a+2<=e) (he:e<=d.size) (hq:a<=q/\q<e) :
  Ev true ((zY E).call 150 [sl b n c,iI (a:Int),iI (e:Int),iI (q:Int),cf] k) fun x=>∃ d',(x.1=iI (((partitionEqual (zAY cm) d a e q).1:Nat):Int)/\d'=(partitionEqual (zAY cm) d a e q).2)/\SR b ty es k d x.2 d':=by
 subst hs
 refine zEC (Q:=fun v d'=>v=iI (((partitionEqual (zAY cm) d a e q).1:Nat):Int)/\d'=(partitionEqual (zAY cm) d a e q).2) hg aB aa zgr zcm (zgq _ _) (by kernel_rfl) (zkn (Rp:=RS b ty es k d (fun v d'=>v=iI (((partitionEqual (zAY cm) d a e q).1:Nat):Int)/\d'=(partitionEqual (zAY cm) d a e q).2)) (zZh ?_))
 try simp only [zA]
 refine zZg ?_
 have R0:SR b ty es k.fresh d k.fresh d:=SR.fresh hg aB
 obtain ⟨m1,m2,e1,e2,R1⟩:=R0.sw (i:=a) (j:=q) (by omega) (by omega)
 simp only [zA,zAR (show a<d.size by omega),zAR (show q<d.size by omega),R0.ld (i:=a) (by omega),R0.ld (i:=q) (by omega),e1,e2,zK]
 refine zZf ?_
 simp only [zA,zBy (show a+1<=9223372036854775807 by omega),zBo (show 1<=e by omega) (show e<=9223372036854775807 by omega)]
 have loop:∀ (m i j:Nat) (d':Dt) (h:AH),j+1<=i+m->a<i->i<=j+2->j<e->SR b ty es k.fresh d h d'->partEqLoop (zAY cm) a i j d'=partitionEqual (zAY cm) d a e q->
   ziC true (KR E [.tmp 10] (RS b ty es k d (fun v d'=>v=iI (((partitionEqual (zAY cm) d a e q).1:Nat):Int)/\d'=(partitionEqual (zAY cm) d a e q).2))) (sl b d.size c) (iI (a:Int)) cf (iI (i:Int)) (iI (j:Int)) h:=by
  intro m
  induction m with
  | zero=>
   intro i j d' h hm hai bP hj R hF
   refine zlF hn hc R (by omega) (by omega) (j+1) i (by omega) (by omega) (zUP hn hc R (by omega) ?_ j (by omega) (zL8 ?_))
   ·have:=scanUp_ge (fun x=>!zAY cm d'[a]! x) d' j i;omega
   have g1:=scanUp_ge (fun x=>!zAY cm d'[a]! x) d' j i
   have g2:=scanDown_le (fun x=>zAY cm d'[a]! x) d' (scanUp (fun x=>!zAY cm d'[a]! x) d' j i) j
   rw [partEqLoop_eq] at hF
   generalize scanUp (fun x=>!zAY cm d'[a]! x) d' j i=i2 at *
   generalize scanDown (fun x=>zAY cm d'[a]! x) d' i2 j=j2 at *
   rw [if_pos (by omega)] at hF
   simp only [zA,zAK,show decide ((j2:Int)<(i2:Int))=true from decide_eq_true (by omega),zz]
   refine zJK ?_
   try simp only [zA]
   rw [zAS]
   exact ⟨zX ▸ trivial,d',⟨by rw [← hF],by rw [← hF]⟩,R⟩
  | succ m ih=>
   intro i j d' h hm hai bP hj R hF
   have hsz:=R.sz
   have g1:=scanUp_ge (fun x=>!zAY cm d'[a]! x) d' j i
   refine zlF hn hc R (by omega) (by omega) (j+1) i (by omega) (by omega) (zUP hn hc R (by omega) (by omega) j (by omega) (zL8 ?_))
   have g2:=scanDown_le (fun x=>zAY cm d'[a]! x) d' (scanUp (fun x=>!zAY cm d'[a]! x) d' j i) j
   rw [partEqLoop_eq] at hF
   generalize scanUp (fun x=>!zAY cm d'[a]! x) d' j i=i2 at *
   generalize scanDown (fun x=>zAY cm d'[a]! x) d' i2 j=j2 at *
   simp only [zA,zAK,zAM]
   refine ⟨fun eE=>zJK ?_,fun aU=>zZc ?_⟩
   ·try simp only [zA]
    rw [if_pos (by omega)] at hF
    rw [zAS]
    exact ⟨zX ▸ trivial,d',⟨by rw [← hF],by rw [← hF]⟩,R⟩
   ·rw [if_neg (by omega)] at hF
    obtain ⟨m3,m4,e3,e4,R2⟩:=R.sw (i:=i2) (j:=j2) (by omega) (by omega)
    simp only [zA,zAR (show i2<d.size by omega),zAR (show j2<d.size by omega),R.ld (i:=i2) (by omega),R.ld (i:=j2) (by omega),e3,e4,zK]
    refine zZb ?_
    simp only [zA,zBy (show i2+1<=9223372036854775807 by omega)]
    refine zRA ?_
    simp only [zA,zBo (show 1<=j2 by omega) (show j2<=9223372036854775807 by omega)]
    exact ih (i2+1) (j2-1) _ m4 (by omega) (by omega) (by omega) (by omega) R2 hF
 exact loop e (a+1) (e-1) _ m2 (by omega) (by omega) (by omega) (by omega) R1 rfl
theorem zjz (hg:k.get b=some (.row (zB1 d) ty es false)) (aB:b<k.next) (aa:k.ok) {n:Nat} (hs:d.size=n) (hn:d.size<=1000000) (hc:zCV cf cm) {a e q:Nat} (h2:a+2<=e) (he:e<=d.size) (hq:a<=q/\q<e) :
  Ev true ((zY E).call 151 [sl b n c,iI (a:Int),iI (e:Int),iI (q:Int),cf] k) fun x=>∃ d',((∃ w:Bool,x.1=.tuple #[iI (((partition (zAY cm) d a e q).1:Nat):Int),.bool w])/\d'=(partition (zAY cm) d a e q).2.2)/\SR b ty es k d x.2 d':=by
 subst hs
 refine zEC (Q:=fun v d'=>(∃ w:Bool,v=.tuple #[iI (((partition (zAY cm) d a e q).1:Nat):Int),.bool w])/\d'=(partition (zAY cm) d a e q).2.2) hg aB aa zgp zcl (zgo _ _) (by kernel_rfl) (zkm (Rp:=RS b ty es k d (fun v d'=>(∃ w:Bool,v=.tuple #[iI (((partition (zAY cm) d a e q).1:Nat):Int),.bool w])/\d'=(partition (zAY cm) d a e q).2.2)) (zZa ?_))
 rw [partition_fst,partition_arr]
 generalize hF0:partLoop (zAY cm) a (a+1) (e-1) (swp d a q)=F
 try simp only [zA]
 refine zZX ?_
 have R0:SR b ty es k.fresh d k.fresh d:=SR.fresh hg aB
 obtain ⟨m1,m2,e1,e2,R1⟩:=R0.sw (i:=a) (j:=q) (by omega) (by omega)
 simp only [zA,zAR (show a<d.size by omega),zAR (show q<d.size by omega),R0.ld (i:=a) (by omega),R0.ld (i:=q) (by omega),e1,e2,zK]
 refine zZW ?_
 simp only [zA,zBy (show a+1<=9223372036854775807 by omega),zBo (show 1<=e by omega) (show e<=9223372036854775807 by omega)]
 have loop:∀ (m i j:Nat) (d':Dt) (h:AH),j+1<=i+m->a<i->i<=j+2->j<e->SR b ty es k.fresh d h d'->partLoop (zAY cm) a i j d'=F->
   zZZ true (KR E [.tmp 10,.tmp 11] (RS b ty es k d (fun v d'=>(∃ w:Bool,v=.tuple #[iI ((F.1:Nat):Int),.bool w])/\d'=swp F.2 F.1 a))) (sl b d.size c) (iI (a:Int)) cf (iI (i:Int)) (iI (j:Int)) h:=by
  intro m
  induction m with
  | zero=>
   intro i j d' h hm hai bP hj R hF
   have hsz:=R.sz
   have g1:=scanUp_ge (fun x=>zAY cm x d'[a]!) d' j i
   refine zhK hn hc R (by omega) (by omega) (j+1) i (by omega) (by omega) (zO0 hn hc R (by omega) (by omega) j (by omega) (zJH ?_))
   have g2:=scanDown_le (fun x=>!zAY cm x d'[a]!) d' (scanUp (fun x=>zAY cm x d'[a]!) d' j i) j
   rw [partLoop_eq] at hF
   generalize scanUp (fun x=>zAY cm x d'[a]!) d' j i=i2 at *
   generalize scanDown (fun x=>!zAY cm x d'[a]!) d' i2 j=j2 at *
   rw [if_pos (by omega)] at hF
   subst hF
   simp only [zA,zAK,show decide ((j2:Int)<(i2:Int))=true from decide_eq_true (by omega),zz]
   refine zJG ?_
   obtain ⟨m3,m4,e3,e4,R2⟩:=R.sw (i:=j2) (j:=a) (by omega) (by omega)
   simp only [zA,zAR (show a<d.size by omega),zAR (show j2<d.size by omega),R.ld (i:=a) (by omega),R.ld (i:=j2) (by omega),e3,e4,zK]
   refine zJF ?_
   try simp only [zA]
   rw [zQX]
   exact ⟨zX ▸ trivial,_,⟨⟨false,rfl⟩,rfl⟩,R2⟩
  | succ m ih=>
   intro i j d' h hm hai bP hj R hF
   have hsz:=R.sz
   have g1:=scanUp_ge (fun x=>zAY cm x d'[a]!) d' j i
   refine zhK hn hc R (by omega) (by omega) (j+1) i (by omega) (by omega) (zO0 hn hc R (by omega) (by omega) j (by omega) (zJH ?_))
   have g2:=scanDown_le (fun x=>!zAY cm x d'[a]!) d' (scanUp (fun x=>zAY cm x d'[a]!) d' j i) j
   rw [partLoop_eq] at hF
   generalize scanUp (fun x=>zAY cm x d'[a]!) d' j i=i2 at *
   generalize scanDown (fun x=>!zAY cm x d'[a]!) d' i2 j=j2 at *
   simp only [zA,zAK,zAM]
   refine ⟨fun eE=>zJG ?_,fun aU=>zQ4 ?_⟩
   ·rw [if_pos (by omega)] at hF
    subst hF
    obtain ⟨m3,m4,e3,e4,R2⟩:=R.sw (i:=j2) (j:=a) (by omega) (by omega)
    simp only [zA,zAR (show a<d.size by omega),zAR (show j2<d.size by omega),R.ld (i:=a) (by omega),R.ld (i:=j2) (by omega),e3,e4,zK]
    refine zJF ?_
    try simp only [zA]
    rw [zQX]
    exact ⟨zX ▸ trivial,_,⟨⟨false,rfl⟩,rfl⟩,R2⟩
   ·rw [if_neg (by omega)] at hF
    obtain ⟨m3,m4,e3,e4,R2⟩:=R.sw (i:=i2) (j:=j2) (by omega) (by omega)
    simp only [zA,zAR (show i2<d.size by omega),zAR (show j2<d.size by omega),R.ld (i:=i2) (by omega),R.ld (i:=j2) (by omega),e3,e4,zK]
    refine zQ3 ?_
    simp only [zA,zBy (show i2+1<=9223372036854775807 by omega)]
    refine zQ2 ?_
    simp only [zA,zBo (show 1<=j2 by omega) (show j2<=9223372036854775807 by omega)]
    exact ih (i2+1) (j2-1) _ m4 (by omega) (by omega) (by omega) (by omega) R2 hF
 have hsz:=R1.sz
 generalize swp d a q=d' at *
 have g1:=scanUp_ge (fun x=>zAY cm x d'[a]!) d' (e-1) (a+1)
 refine zpI hn hc R1 (by omega) (by omega) e (a+1) (by omega) (by omega) (zjW hn hc R1 (by omega) (by omega) (e-1) (by omega) (zZT ?_))
 have g2:=scanDown_le (fun x=>!zAY cm x d'[a]!) d' (scanUp (fun x=>zAY cm x d'[a]!) d' (e-1) (a+1)) (e-1)
 rw [partLoop_eq] at hF0
 generalize scanUp (fun x=>zAY cm x d'[a]!) d' (e-1) (a+1)=i2 at *
 generalize scanDown (fun x=>!zAY cm x d'[a]!) d' i2 (e-1)=j2 at *
 simp only [zA,zAK,zAM]
 refine ⟨fun eE=>zZS ?_,fun aU=>zQ9 ?_⟩
 ·rw [if_pos (by omega)] at hF0
  subst hF0
  obtain ⟨m3,m4,e3,e4,R2⟩:=R1.sw (i:=j2) (j:=a) (by omega) (by omega)
  simp only [zA,zAR (show a<d.size by omega),zAR (show j2<d.size by omega),R1.ld (i:=a) (by omega),R1.ld (i:=j2) (by omega),e3,e4,zK]
  refine zZR ?_
  try simp only [zA]
  rw [zQX]
  exact ⟨zX ▸ trivial,_,⟨⟨true,rfl⟩,rfl⟩,R2⟩
 ·rw [if_neg (by omega)] at hF0
  obtain ⟨m3,m4,e3,e4,R2⟩:=R1.sw (i:=i2) (j:=j2) (by omega) (by omega)
  simp only [zA,zAR (show i2<d.size by omega),zAR (show j2<d.size by omega),R1.ld (i:=i2) (by omega),R1.ld (i:=j2) (by omega),e3,e4,zK]
  refine zQ8 ?_
  simp only [zA,zBy (show i2+1<=9223372036854775807 by omega)]
  refine zQ7 ?_
  simp only [zA,zBo (show 1<=j2 by omega) (show j2<=9223372036854775807 by omega)]
  exact loop e (i2+1) (j2-1) _ m4 (by omega) (by omega) (by omega) (by omega) R2 hF0
end
section
variable {b ty es c:Nat} {k:AH} {d:Dt} {cf:Value} {cm:Int×Int->Int×Int->Int}
theorem ziZ (hn:d.size<=1000000) (hc:zCV cf cm) {K:KF} {a e:Nat} {v10:Value} {d':Dt} {h:AH} (R:SR b ty es k.fresh d h d') (he:e<=d.size):∀ (m i:Nat),e<=i+m->1<=i->i<=e->
  (zn0 true K (sl b d.size c) (iI (a:Int)) (iI (e:Int)) cf (iI ((scanSorted (zAY cm) d' e i:Nat):Int)) v10 h)->
  zn1 true K (sl b d.size c) (iI (a:Int)) (iI (e:Int)) cf (iI (i:Int)) v10 h:=by
 have hsz:=R.sz
 intro m
 induction m with
 | zero=>
  intro i hm h1 hi hK
  refine zMB ?_
  simp only [zA,zZ,show decide ((i:Int)<(e:Int))=false from decide_eq_false (by omega),zM,zU,ft,cond_false,zK,zJ,zj]
  unfold scanSorted at hK
  rw [if_neg (by simp;omega)] at hK
  exact hK
 | succ m ih=>
  intro i hm h1 hi hK
  refine zMB ?_
  by_cases hie:i<e
  rotate_left
  ·simp only [zA,zZ,show decide ((i:Int)<(e:Int))=false from decide_eq_false (by omega),zM,zU,ft,cond_false,zK,zJ,zj]
   unfold scanSorted at hK
   rw [if_neg (by simp;omega)] at hK
   exact hK
  ·simp only [zA,zZ,show decide ((i:Int)<(e:Int))=true from decide_eq_true (by omega),zM,zU,beq_self_eq_true,cond_true,zAR (show i<d.size by omega),R.ld (i:=i) (by omega),zBo h1 (show i<=9223372036854775807 by omega),zAR (show i-1<d.size by omega),R.ld (i:=i-1) (by omega),hc _ _ _ R.ok,zP,z6,zJ]
   by_cases ht:cm d'[i]! d'[i-1]! < 0
   ·simp only [ht,decide_true,Bool.not_true,zj]
    unfold scanSorted at hK
    rw [if_neg (by simp [ht])] at hK
    exact hK
   ·simp only [ht,decide_false,Bool.not_false,zz]
    unfold scanSorted at hK
    rw [if_pos (by simp [ht,hie] <;> omega)] at hK
    refine zZr ?_
    simp only [zA,zBy (show i+1<=9223372036854775807 by omega)]
    exact ih (i+1) (by omega) (by omega) (by omega) hK
theorem zjX (hn:d.size<=1000000) (hc:zCV cf cm) {K:KF} {v1 v2 v9 v10:Value}:∀ (j:Nat) (d':Dt) (h:AH),j<d.size->SR b ty es k.fresh d h d'->
  (∀ h2 d2,SR b ty es k.fresh d h2 d2->d2=shiftDown (zAY cm) j d'->zZv true K (sl b d.size c) v1 v2 cf v9 v10 h2)->
  zkV true K (sl b d.size c) v1 v2 cf v9 v10 (iI (j:Int)) h:=by
 intro j
 induction j with
 | zero=>
  intro d' h hj R hK
  refine zJM ?_
  simp only [zA,zAa,show decide ((1:Int)<=((0:Nat):Int))=false from rfl,zj]
  exact hK h d' R rfl
 | succ j ih=>
  intro d' h hj R hK
  have hsz:=R.sz
  refine zJM ?_
  simp only [zA,zAa,show decide ((1:Int)<=((j+1:Nat):Int))=true from decide_eq_true (by omega),zz]
  refine zRK ?_
  simp only [zA,zAR hj,R.ld (i:=j+1) (by omega),zBo (show 1<=j+1 by omega) (show j+1<=9223372036854775807 by omega),Nat.add_sub_cancel,zAR (show j<d.size by omega),R.ld (i:=j) (by omega),hc _ _ _ R.ok,zP,zZ,z6]
  by_cases ht:cm d'[j+1]! d'[j]! < 0
  ·simp only [ht,decide_true,Bool.not_true,zj]
   refine zRJ ?_
   obtain ⟨m1,m2,e1,e2,R2⟩:=R.sw (i:=j+1) (j:=j) (by omega) (by omega)
   simp only [zA,zAR hj,R.ld (i:=j+1) (by omega),zBo (show 1<=j+1 by omega) (show j+1<=9223372036854775807 by omega),Nat.add_sub_cancel,zAR (show j<d.size by omega),R.ld (i:=j) (by omega),e1,e2,zK]
   refine zRI ?_
   simp only [zA,zBo (show 1<=j+1 by omega) (show j+1<=9223372036854775807 by omega),Nat.add_sub_cancel]
   exact ih _ _ (by omega) R2 fun h2 d2 R3 e=>hK h2 d2 R3 (by
    rw [e]
    conv=>rhs;simp only [shiftDown]
    rw [if_neg (by simp [ht])])
  ·simp only [ht,decide_false,Bool.not_false,zz]
   exact hK h d' R (by simp only [shiftDown];rw [if_pos (by simp [ht])])
theorem zpJ (hn:d.size<=1000000) (hc:zCV cf cm) {K:KF} {e:Nat} {v1 v9 v10:Value} (he:e<=d.size):∀ (m j:Nat) (d':Dt) (h:AH),e<=j+m->1<=j->j<=e+1->SR b ty es k.fresh d h d'->
  (∀ h2 d2,SR b ty es k.fresh d h2 d2->d2=shiftUp (zAY cm) e j d'->zZt true K (sl b d.size c) v1 (iI (e:Int)) cf v9 v10 h2)->
  zkU true K (sl b d.size c) v1 (iI (e:Int)) cf v9 v10 (iI (j:Int)) h:=by
 intro m
 induction m with
 | zero=>
  intro j d' h hm h1 hj R hK
  refine zJL ?_
  simp only [zA,zZ,show decide ((j:Int)<(e:Int))=false from decide_eq_false (by omega),zj]
  exact hK h d' R (by unfold shiftUp;rw [if_neg (by omega)])
 | succ m ih=>
  intro j d' h hm h1 hj R hK
  have hsz:=R.sz
  refine zJL ?_
  simp only [zA,zZ,zAM]
  refine ⟨fun ab=>zRF ?_,fun cV=>hK h d' R (by unfold shiftUp;rw [if_neg (by omega)])⟩
  simp only [zA,zAR (show j<d.size by omega),R.ld (i:=j) (by omega),zBo h1 (show j<=9223372036854775807 by omega),zAR (show j-1<d.size by omega),R.ld (i:=j-1) (by omega),hc _ _ _ R.ok,zP,zZ,z6]
  by_cases ht:cm d'[j]! d'[j-1]! < 0
  ·simp only [ht,decide_true,Bool.not_true,zj]
   refine zRE ?_
   obtain ⟨m1,m2,e1,e2,R2⟩:=R.sw (i:=j) (j:=j-1) (by omega) (by omega)
   simp only [zA,zAR (show j<d.size by omega),R.ld (i:=j) (by omega),zBo h1 (show j<=9223372036854775807 by omega),zAR (show j-1<d.size by omega),R.ld (i:=j-1) (by omega),e1,e2,zK]
   refine zRD ?_
   simp only [zA,zBy (show j+1<=9223372036854775807 by omega)]
   exact ih (j+1) _ _ (by omega) (by omega) (by omega) R2 fun h2 d2 R3 e3=>hK h2 d2 R3 (by
    rw [e3]
    conv=>rhs;unfold shiftUp
    rw [if_pos (by omega),if_neg (by simp [ht])])
  ·simp only [ht,decide_false,Bool.not_false,zz]
   exact hK h d' R (by unfold shiftUp;rw [if_pos (by omega),if_pos (by simp [ht])])
theorem zJe (lt:Int×Int->Int×Int->Bool) (d:Dt) (e:Nat):∀ (m i:Nat),e<=i+m->i<=e->i<=scanSorted lt d e i/\scanSorted lt d e i<=e:=by
 intro m
 induction m with
 | zero=>
  intro i hm hi
  unfold scanSorted
  rw [if_neg (by simp;omega)]
  omega
 | succ m ih=>
  intro i hm hi
  unfold scanSorted
  split
  ·rename_i h
   simp only [Bool.and_eq_true,decide_eq_true_eq] at h
   have:=ih (i+1) (by omega) (by omega)
   omega
  ·omega
theorem zj2 (hg:k.get b=some (.row (zB1 d) ty es false)) (aB:b<k.next) (aa:k.ok) {n:Nat} (hs:d.size=n) (hn:d.size<=1000000) (hc:zCV cf cm) {a e:Nat} (h2:a+2<=e) (he:e<=d.size) :
  Ev true ((zY E).call 149 [sl b n c,iI (a:Int),iI (e:Int),cf] k) fun x=>∃ d',(x.1=.bool (partialInsertionSort (zAY cm) d a e).2/\d'=(partialInsertionSort (zAY cm) d a e).1)/\SR b ty es k d x.2 d':=by
 subst hs
 refine zEC (Q:=fun v d'=>v=.bool (partialInsertionSort (zAY cm) d a e).2/\d'=(partialInsertionSort (zAY cm) d a e).1) hg aB aa zgt zco (zgs _ _) (by kernel_rfl) (zko (Rp:=RS b ty es k d (fun v d'=>v=.bool (partialInsertionSort (zAY cm) d a e).2/\d'=(partialInsertionSort (zAY cm) d a e).1)) (zZw ?_))
 generalize hF0:partialInsertionSort (zAY cm) d a e=F
 try simp only [zA]
 refine zZu ?_
 simp only [zA,zBy (show a+1<=9223372036854775807 by omega)]
 refine zZs ?_
 try simp only [zA]
 have loop:∀ (s j i:Nat) (d':Dt) (h:AH),j+s=5->a+1<=i->i<=e->SR b ty es k.fresh d h d'->partialIns (zAY cm) a e s i d'=F->
   zn4 true (KR E [.tmp 8] (RS b ty es k d (fun v d'=>v=.bool F.2/\d'=F.1))) (sl b d.size c) (iI (a:Int)) (iI (e:Int)) cf (iI (i:Int)) (iI (j:Int)) h:=by
  intro s
  induction s with
  | zero=>
   intro j i d' h hj hi1 hi2 R hF
   simp only [partialIns] at hF
   subst hF
   refine zMC ?_
   simp only [zA,zZ,show decide ((j:Int)<5)=false from decide_eq_false (by omega),zj]
   refine zRB ?_
   try simp only [zA]
   rw [zAS]
   exact ⟨zX ▸ trivial,d',⟨rfl,rfl⟩,R⟩
  | succ s ih=>
   intro j i d' h hj hi1 hi2 R hF
   simp only [partialIns] at hF
   refine zMC ?_
   simp only [zA,zZ,show decide ((j:Int)<5)=true from decide_eq_true (by omega),zz]
   obtain ⟨g1,g2⟩:=zJe (zAY cm) d' e e i (by omega) hi2
   refine ziZ hn hc R he e i (by omega) (by omega) hi2 (zZq ?_)
   generalize scanSorted (zAY cm) d' e i=i2 at *
   simp only [zA,zAg,zAM]
   refine ⟨fun h1=>zZp ?_,fun h1=>zZo ?_⟩
   ·rw [if_pos (by omega)] at hF
    subst hF
    try simp only [zA]
    rw [zAS]
    exact ⟨zX ▸ trivial,d',⟨rfl,rfl⟩,R⟩
   rw [if_neg (by omega)] at hF
   simp only [zA,subN (show a<=e by omega) (show e<=9223372036854775807 by omega),zZ,zAM]
   refine ⟨fun h3=>zZn ?_,fun h3=>zRN ?_⟩
   ·rw [if_pos (by omega)] at hF
    subst hF
    try simp only [zA]
    rw [zAS]
    exact ⟨zX ▸ trivial,d',⟨rfl,rfl⟩,R⟩
   rw [if_neg (by omega)] at hF
   have hsz:=R.sz
   obtain ⟨m1,m2,e1,e2,R2⟩:=R.sw (i:=i2) (j:=i2-1) (by omega) (by omega)
   simp only [zA,zAR (show i2<d.size by omega),R.ld (i:=i2) (by omega),zBo (show 1<=i2 by omega) (show i2<=9223372036854775807 by omega),zAR (show i2-1<d.size by omega),R.ld (i:=i2-1) (by omega),e1,e2,zK]
   generalize swp d' i2 (i2-1)=d2 at *
   have tail:∀ (d4:Dt) (h4:AH),SR b ty es k.fresh d h4 d4->partialIns (zAY cm) a e s i2 d4=F->zZt true (KR E [.tmp 8] (RS b ty es k d (fun v d'=>v=.bool F.2/\d'=F.1))) (sl b d.size c) (iI (a:Int)) (iI (e:Int)) cf (iI (i2:Int)) (iI (j:Int)) h4:=by
    intro d4 h4 R4 hF4
    refine zRC ?_
    simp only [zA,zBy (show j+1<=9223372036854775807 by omega)]
    exact ih (j+1) i2 d4 h4 (by omega) (by omega) (by omega) R4 hF4
   have mid:∀ (d3:Dt) (h3:AH),SR b ty es k.fresh d h3 d3->partialIns (zAY cm) a e s i2 (if e-i2 ≥ 2 then shiftUp (zAY cm) e (i2+1) d3 else d3)=F->zZv true (KR E [.tmp 8] (RS b ty es k d (fun v d'=>v=.bool F.2/\d'=F.1))) (sl b d.size c) (iI (a:Int)) (iI (e:Int)) cf (iI (i2:Int)) (iI (j:Int)) h3:=by
    intro d3 h3 R3 hF3
    refine zRH ?_
    simp only [zA,subN (show i2<=e by omega) (show e<=9223372036854775807 by omega),zAa,zAM]
    refine ⟨fun h5=>zRG ?_,fun h5=>tail d3 h3 R3 (by rw [if_neg (by omega)] at hF3;exact hF3)⟩
    rw [if_pos (by omega)] at hF3
    simp only [zA,zBy (show i2+1<=9223372036854775807 by omega)]
    exact zpJ hn hc he e (i2+1) d3 h3 (by omega) (by omega) (by omega) R3 fun h5 d5 R5 e5=>tail d5 h5 R5 (by rw [e5];exact hF3)
   refine zRM ?_
   simp only [zA,subN (show a<=i2 by omega) (show i2<=9223372036854775807 by omega),zAa,zAM]
   refine ⟨fun h5=>zRL ?_,fun h5=>mid d2 m2 R2 (by rw [if_neg (show ¬ i2-a ≥ 2 by omega)] at hF;exact hF)⟩
   rw [if_pos (show i2-a ≥ 2 by omega)] at hF
   simp only [zA,zBo (show 1<=i2 by omega) (show i2<=9223372036854775807 by omega)]
   exact zjX hn hc (i2-1) d2 m2 (by omega) R2 fun h5 d5 R5 e5=>mid d5 h5 R5 (by rw [e5];exact hF)
 exact loop 5 0 (a+1) d _ rfl (Nat.le_refl _) (by omega) (SR.fresh hg aB) hF0
end
theorem zpT {x:Nat} (h:x<=9223372036854775807):zp E (zk [(121,iI (x:Int))]) (zo B92 [1,1,0,0,0,1,1,1,1,1,1,1,1,1,1,1,0] 1)=some (iI ((x / 8:Nat):Int)):=zHK (u:=121) (cc:=8) (by kernel_rfl) (by kernel_rfl) (by omega) h
section
variable {b ty es c:Nat} {k:AH} {d:Dt} {cf:Value} {cm:Int×Int->Int×Int->Int}
abbrev QP (cm:Int×Int->Int×Int->Int) (a e:Nat) (d:Dt):Value->Dt->Prop:=fun v d'=>v=.tuple #[]/\PermIn a e d d'/\SortedIn (zAY cm) a e d'
def PD (b ty es c:Nat) (cf:Value) (cm:Int×Int->Int×Int->Int) (N:Nat):Prop:=∀ (k:AH) (d:Dt) (n a e lim:Nat),e-a<=N->k.get b=some (.row (zB1 d) ty es false)->b<k.next->k.ok->d.size=n->d.size<=1000000->a<=e->e<=d.size->lim<=1000->Below (zAY cm) a e d->
 Ev true ((zY E).call 92 [sl b n c,iI (a:Int),iI (e:Int),iI (lim:Int),cf] k) fun x=>∃ d',QP cm a e d x.1 d'/\SR b ty es k d x.2 d'
theorem zlt {N a0 e0:Nat} (hd:d.size<=1000000) (hc:zCV cf cm) (hS:SWO (zAY cm)) (ih:PD b ty es c cf cm N) :
  ∀ (M a e lim:Nat) (wb wp:Bool) (d':Dt) (h:AH),e-a<=M->e-a<=N+1->a<=e->e<=d.size->lim<=1000->Below (zAY cm) a e d'->SR b ty es k.fresh d h d'->
   (∀ R,PermIn a e d' R->SortedIn (zAY cm) a e R->PermIn a0 e0 d R/\SortedIn (zAY cm) a0 e0 R)->
   zqR true (KR E [] (RS b ty es k d (QP cm a0 e0 d))) (sl b d.size c) (iI (a:Int)) (iI (e:Int)) (iI (lim:Int)) cf (.bool wb) (.bool wp) h:=by
 have hd':d.size<=1000000:=by omega
 intro M
 induction M using Nat.strongRecOn with
 | ind M ihM=>
 intro a e lim wb wp d' h hM hN dD he hlim hB R H
 have hsz:=R.sz
 refine zPI ?_
 simp only [zA,subN dD (show e<=9223372036854775807 by omega)]
 refine zPH ?_
 simp only [zA,zBG,zAM]
 refine ⟨fun fW=>zPG ?_,fun fW=>zeH ?_⟩
 ·simp only [zA,zQ]
  refine (zUl (c:=c) (a:=a) (e:=e) R.g R.l R.ok hsz (by omega) hc dD (by omega)).mono ?_
  rintro ⟨v,h2⟩ ⟨d2,⟨_,e2⟩,R2⟩
  obtain ⟨q1,q2⟩:=insertionSort_holds hS d' a e dD (by omega)
  obtain ⟨p1,p2⟩:=H d2 (by rw [e2];exact q1) (by rw [e2];exact q2)
  rw [zSP]
  exact ⟨zX ▸ trivial,d2,⟨rfl,p1,p2⟩,R.trans R2⟩
 have fV:a+13<=e:=by omega
 simp only [zA,zAg,zAM]
 refine ⟨fun ez=>zeG ?_,fun ez=>zeF ?_⟩
 ·simp only [zA,zQ]
  refine (zj6 (c:=c) (a:=a) (e:=e) R.g R.l R.ok hsz (by omega) hc (by omega) (by omega)).mono ?_
  rintro ⟨v,h2⟩ ⟨d2,⟨_,e2⟩,R2⟩
  obtain ⟨q1,q2⟩:=heapSort_holds hS d' a e dD (by omega)
  obtain ⟨p1,p2⟩:=H d2 (by rw [e2];exact q1) (by rw [e2];exact q2)
  rw [zSP]
  exact ⟨zX ▸ trivial,d2,⟨rfl,p1,p2⟩,R.trans R2⟩
 have p17:∀ (lim:Nat) (wb wp:Bool) (q:Nat) (d3:Dt) (h3:AH),lim<=1000->a<=q->q<e->PermIn a e d' d3->SR b ty es k.fresh d h3 d3->
   zm9 true (KR E [] (RS b ty es k d (QP cm a0 e0 d))) (sl b d.size c) (iI (a:Int)) (iI (e:Int)) (iI (lim:Int)) cf (.bool wb) (.bool wp) (iI ((e-a:Nat):Int)) (iI (q:Int)) h3:=by
  intro lim wb wp q d3 h3 hlim eX dJ hP R3
  have iE:=R3.sz
  have hB3:Below (zAY cm) a e d3:=hB.perm (by omega) hP
  have H3:∀ R,PermIn a e d3 R->SortedIn (zAY cm) a e R->PermIn a0 e0 d R/\SortedIn (zAY cm) a0 e0 R:=fun R r1 r2=>H R (permIn_trans _ _ _ _ _ hP r1) r2
  have p20:zm8 true (KR E [] (RS b ty es k d (QP cm a0 e0 d))) (sl b d.size c) (iI (a:Int)) (iI (e:Int)) (iI (lim:Int)) cf (iI ((e-a:Nat):Int)) (iI (q:Int)) h3:=by
   refine zVW ?_
   simp only [zA,zQ]
   refine (zjz (c:=c) (a:=a) (e:=e) (q:=q) R3.g R3.l R3.ok iE (by omega) hc (by omega) (by omega) ⟨eX,dJ⟩).mono ?_
   rintro ⟨v,h4⟩ ⟨d4,⟨⟨w,hv⟩,e4⟩,R4⟩
   simp only at hv
   subst hv
   obtain ⟨r1,r2,r3,r4,r5,r6,r7⟩:=round_part hS (partition_holds _) (ap:=(partition (zAY cm) d3 a e q).2.1) (d4:=d4) eX dJ (by omega) hB3 (by rw [e4])
   generalize (partition (zAY cm) d3 a e q).1=mid at *
   have R34:=R3.trans R4
   have iD:=R34.sz
   simp only [zA,ex0,ex1]
   refine zVV ?_
   try simp only [zA]
   refine zVU ?_
   simp only [zA,subN r1 (show mid<=9223372036854775807 by omega),subN (show mid<=e by omega) (show e<=9223372036854775807 by omega)]
   refine zVT ?_
   simp only [zA,zpT (show e-a<=9223372036854775807 by omega)]
   refine zVS ?_
   simp only [zA,zZ,zAM]
   refine ⟨fun hlr=>zVR ?_,fun hlr=>zVO ?_⟩
   ·simp only [zA,zAa]
    refine zVQ ?_
    simp only [zA,zQ]
    refine (ih h4 d4 d.size a mid lim (by omega) R34.g R34.l R34.ok iD (by omega) r1 (by omega) hlim r4).mono ?_
    rintro ⟨v,h5⟩ ⟨d5,⟨_,q1,q2⟩,R5⟩
    obtain ⟨s1,s2⟩:=r6 d5 q1 q2
    refine zVP ?_
    simp only [zA,zBy (show mid+1<=9223372036854775807 by omega)]
    exact ihM (e-(mid+1)) (by omega) (mid+1) e lim _ w d5 h5 (by omega) (by omega) (by omega) he hlim s1 (R34.trans R5) fun R u1 u2=>(s2 R u1 u2).elim fun t1 t2=>H3 R t1 t2
   ·simp only [zA,zAa]
    refine zVN ?_
    simp only [zA,zBy (show mid+1<=9223372036854775807 by omega),zQ]
    refine (ih h4 d4 d.size (mid+1) e lim (by omega) R34.g R34.l R34.ok iD (by omega) (by omega) (by omega) hlim r5).mono ?_
    rintro ⟨v,h5⟩ ⟨d5,⟨_,q1,q2⟩,R5⟩
    obtain ⟨s1,s2⟩:=r7 d5 q1 q2
    refine zVM ?_
    try simp only [zA]
    exact ihM (mid-a) (by omega) a mid lim _ w d5 h5 (by omega) (by omega) r1 (by omega) hlim s1 (R34.trans R5) fun R u1 u2=>(s2 R u1 u2).elim fun t1 t2=>H3 R t1 t2
  refine zVZ ?_
  by_cases ha0:0<a
  rotate_left
  ·simp only [zA,zAK,show decide ((0:Int)<(a:Int))=false from decide_eq_false (by omega),zM,zU,ft,cond_false,zK,zJ,zj]
   exact p20
  ·simp only [zA,zAK,show decide ((0:Int)<(a:Int))=true from decide_eq_true (by omega),zM,zU,beq_self_eq_true,cond_true,zBo ha0 (show a<=9223372036854775807 by omega),zAR (show a-1<d.size by omega),zAR (show q<d.size by omega),R3.ld (i:=a-1) (by omega),R3.ld (i:=q) (by omega),hc _ _ _ R3.ok,zP,zZ,z6,zJ]
   by_cases ht:cm d3[a-1]! d3[q]! < 0
   ·simp only [ht,decide_true,Bool.not_true,zj]
    exact p20
   ·simp only [ht,decide_false,Bool.not_false,zz]
    refine zVY ?_
    simp only [zA,zQ]
    refine (zj0 (c:=c) (a:=a) (e:=e) (q:=q) R3.g R3.l R3.ok iE (by omega) hc (by omega) (by omega) ⟨eX,dJ⟩).mono ?_
    rintro ⟨v,h4⟩ ⟨d4,⟨hv,e4⟩,R4⟩
    simp only at hv
    subst hv
    obtain ⟨r1,r2,r3,r4,r5⟩:=Go.Sort.round_eq hS (partitionEqual_holds _) (d4:=d4) ha0 eX dJ (by omega) hB3 (by simp [ht]) (mid:=(partitionEqual (zAY cm) d3 a e q).1) (by rw [e4])
    generalize (partitionEqual (zAY cm) d3 a e q).1=mid at *
    have R34:=R3.trans R4
    try simp only [zA]
    refine zVX ?_
    try simp only [zA]
    exact ihM (e-mid) (by omega) mid e lim wb wp d4 h4 (by omega) (by omega) r2 he hlim r4 R34 fun R u1 u2=>(r5 R u1 u2).elim fun t1 t2=>H3 R t1 t2
 have p15:∀ (lim:Nat) (wb wp:Bool) (q:Nat) (an:Int) (d2:Dt) (h2:AH),lim<=1000->a<=q->q<e->PermIn a e d' d2->SR b ty es k.fresh d h2 d2->
   znB true (KR E [] (RS b ty es k d (QP cm a0 e0 d))) (sl b d.size c) (iI (a:Int)) (iI (e:Int)) (iI (lim:Int)) cf (.bool wb) (.bool wp) (iI ((e-a:Nat):Int)) (iI (q:Int)) (iI an) h2:=by
  intro lim wb wp q an d2 h2 hlim eX dJ hP R2
  have eW:=R2.sz
  have hB2:Below (zAY cm) a e d2:=hB.perm (by omega) hP
  have go16:znA true (KR E [] (RS b ty es k d (QP cm a0 e0 d))) (sl b d.size c) (iI (a:Int)) (iI (e:Int)) (iI (lim:Int)) cf (.bool wb) (.bool wp) (iI ((e-a:Nat):Int)) (iI (q:Int)) h2:=by
   refine zVa ?_
   simp only [zA,zQ]
   refine (zj2 (c:=c) (a:=a) (e:=e) R2.g R2.l R2.ok eW (by omega) hc (by omega) (by omega)).mono ?_
   rintro ⟨v,h3⟩ ⟨d3,⟨hv,e3⟩,R3⟩
   simp only at hv
   subst hv
   obtain ⟨q1,q2⟩:=partialInsertionSort_holds hS d2 a e (by omega) (by omega) hB2
   have R23:=R2.trans R3
   cases hr:(partialInsertionSort (zAY cm) d2 a e).2 with
   | true=>
    simp only [zz]
    obtain ⟨p1,p2⟩:=H d3 (by rw [e3];exact permIn_trans _ _ _ _ _ hP q1) (by rw [e3];exact q2 hr)
    rw [zSP]
    exact ⟨zX ▸ trivial,d3,⟨rfl,p1,p2⟩,R23⟩
   | false=>
    simp only [zj]
    exact p17 lim wb wp q d3 h3 hlim eX dJ (by rw [e3];exact permIn_trans _ _ _ _ _ hP q1) R23
  have no16:=p17 lim wb wp q d2 h2 hlim eX dJ hP R2
  refine zVb ?_
  cases wb with
  | false=>
   simp only [zA,zM,ft,cond_false,zJ,zj]
   exact no16
  | true=>
   cases wp with
   | false=>
    simp only [zA,zM,ft,beq_self_eq_true,cond_true,cond_false,zJ,zj]
    exact no16
   | true=>
    simp only [zA,zM,beq_self_eq_true,cond_true,zJ,zAg,zAM]
    exact ⟨fun _=>go16,fun _=>no16⟩
 have p10:∀ (lim:Nat) (wb wp:Bool) (d1:Dt) (h1:AH),lim<=1000->PermIn a e d' d1->SR b ty es k.fresh d h1 d1->
   znC true (KR E [] (RS b ty es k d (QP cm a0 e0 d))) (sl b d.size c) (iI (a:Int)) (iI (e:Int)) (iI (lim:Int)) cf (.bool wb) (.bool wp) (iI ((e-a:Nat):Int)) h1:=by
  intro lim wb wp d1 h1 hlim hP R1
  have iF:=R1.sz
  refine zVg ?_
  obtain ⟨q,an,hq,hh,c147⟩:=zj4 (c:=c) (a:=a) (e:=e) R1.g R1.l R1.ok iF (by omega) hc fV (by omega)
  simp only [zA,zQ,c147,zP,ex0,ex1]
  refine zVf ?_
  simp only [zA,zAg,zAM]
  refine ⟨fun h2=>zVe ?_,fun h2=>p15 lim wb wp q an d1 h1 hlim hq.1 hq.2 hP R1⟩
  simp only [zA,zQ]
  refine (zj3 (c:=c) (a:=a) (e:=e) R1.g R1.l R1.ok iF (by omega) (by omega) dD (by omega)).mono ?_
  rintro ⟨v,h3⟩ ⟨d2,⟨_,e2⟩,R2⟩
  refine zVd ?_
  simp only [zA,zBo (show 1<=e by omega) (show e<=9223372036854775807 by omega),subN hq.1 (show q<=9223372036854775807 by omega),subN (show q-a<=e-1 by omega) (show e-1<=9223372036854775807 by omega)]
  refine zVc ?_
  try simp only [zA]
  exact p15 lim wb wp (e-1-(q-a)) 1 d2 h3 hlim (by omega) (by omega) (by rw [e2];exact permIn_trans _ _ _ _ _ hP (reverseRange_holds d1 a e dD (by omega))) (R1.trans R2)
 cases wb with
 | true=>
  simp only [zA,z6,Bool.not_true,zj]
  exact p10 lim true wp d' h hlim (permIn_refl _ _ _) R
 | false=>
  simp only [zA,z6,Bool.not_false,zz]
  refine zeE ?_
  simp only [zA,zQ]
  refine (zj5 (c:=c) (a:=a) (e:=e) R.g R.l R.ok hsz (by omega) fV (by omega)).mono ?_
  rintro ⟨v,h2⟩ ⟨d2,⟨_,e2⟩,R2⟩
  refine zeD ?_
  simp only [zA,zBo (show 1<=lim by omega) (show lim<=9223372036854775807 by omega)]
  exact p10 (lim-1) false wp d2 h2 (by omega) e2 (R.trans R2)
theorem pd92 (hc:zCV cf cm) (hS:SWO (zAY cm)):∀ N,PD b ty es c cf cm N:=by
 intro N
 induction N with
 | zero=>
  intro k d n a e lim hN hg aB aa hs hd dD he hlim hB
  subst hs
  refine zEC (Q:=QP cm a e d) hg aB aa zcE zPe (zcD _ _) (by kernel_rfl) (ziE (Rp:=RS b ty es k d (QP cm a e d)) (zPK ?_))
  try simp only [zA]
  refine zPJ ?_
  try simp only [zA]
  refine zPI ?_
  simp only [zA,subN dD (show e<=9223372036854775807 by omega)]
  refine zPH ?_
  simp only [zA,zBG,show decide (((e-a:Nat):Int)<=12)=true from decide_eq_true (by omega),zz]
  refine zPG ?_
  have R:SR b ty es k.fresh d k.fresh d:=SR.fresh hg aB
  simp only [zA,zQ]
  refine (zUl (c:=c) (a:=a) (e:=e) R.g R.l R.ok rfl (by omega) hc dD (by omega)).mono ?_
  rintro ⟨v,h2⟩ ⟨d2,⟨_,e2⟩,R2⟩
  obtain ⟨q1,q2⟩:=insertionSort_holds hS d a e dD (by omega)
  rw [zSP]
  exact ⟨zX ▸ trivial,d2,⟨rfl,by rw [e2];exact q1,by rw [e2];exact q2⟩,R.trans R2⟩
 | succ N ih=>
  intro k d n a e lim hN hg aB aa hs hd dD he hlim hB
  subst hs
  refine zEC (Q:=QP cm a e d) hg aB aa zcE zPe (zcD _ _) (by kernel_rfl) (ziE (Rp:=RS b ty es k d (QP cm a e d)) (zPK ?_))
  try simp only [zA]
  refine zPJ ?_
  try simp only [zA]
  exact zlt hd hc hS ih (e-a) a e lim true true d _ (Nat.le_refl _) hN dD he hlim hB (SR.fresh hg aB) fun R r1 r2=>⟨r1,r2⟩
end
theorem zmI (a:Int) (h:AH):zN E (zk [(9,iI a)]) (zo B33 [1] 3) h=some (.int .u64 (IntKind.u64.wrap a)):=by kernel_rfl
section
variable {b ty es c:Nat} {k:AH} {d:Dt} {cf:Value} {cm:Int×Int->Int×Int->Int}
theorem zmX (hg:k.get b=some (.row (zB1 d) ty es false)) (aB:b<k.next) (aa:k.ok) {n:Nat} (hs:d.size=n) (hn:d.size<=1000000) (hc:zCV cf cm) (hS:SWO (zAY cm)) :
  Ev true ((zY E).call 33 [sl b n c,cf] k) fun x=>∃ d',QP cm 0 n d x.1 d'/\SR b ty es k d x.2 d':=by
 subst hs
 refine zEC (Q:=QP cm 0 d.size d) hg aB aa zkg zgc (zkf _ _) (by kernel_rfl) (zoX (Rp:=RS b ty es k d (QP cm 0 d.size d)) (zfm ?_))
 simp only [zA,zTp]
 refine zfl ?_
 have R:SR b ty es k.fresh d k.fresh d:=SR.fresh hg aB
 obtain ⟨l,hl,c93⟩:=zhq (zAT k) (x:=d.size) (by omega)
 simp only [zA,zmI,zPj (show d.size<18446744073709551616 by omega),zQ,c93,zP]
 refine (pd92 (c:=c) hc hS d.size k.fresh d d.size 0 d.size l (by omega) R.g R.l R.ok rfl hn (Nat.zero_le _) (Nat.le_refl _) (by omega) (.inl rfl)).mono ?_
 rintro ⟨v,h2⟩ ⟨d2,⟨_,p1,p2⟩,R2⟩
 rw [zSP]
 exact ⟨zEE ▸ trivial,d2,⟨rfl,p1,p2⟩,R.trans R2⟩
end
theorem zKP {z:Nat} {vs:List Value}:∀ (els:List (List Value)) (o:Nat),o+els.length*z<=vs.length->(∀ (i:Nat) (e:List Value),els[i]?=some e->e.length=z/\(vs.drop (o+i*z)).take z=e)->(vs.drop o).take (els.length*z)=els.flatten
 | [],o,_,_=>by simp
 | e::es,o,h,H=>by
  have h0:=H 0 e rfl
  rw [Nat.zero_mul,Nat.add_zero] at h0
  have ih:=zKP (z:=z) (vs:=vs) es (o+z) (by rw [List.length_cons,Nat.add_mul] at h;omega) fun i x hx=>by
   have:=H (i+1) x (by simpa using hx)
   rw [show o+(i+1)*z=o+z+i*z by rw [Nat.add_mul];omega] at this
   exact this
  rw [List.flatten_cons,← ih,List.length_cons,show (es.length+1)*z=z+es.length*z by rw [Nat.add_mul];omega,List.take_add,List.drop_drop,h0.2]
theorem elt26:Elt 26 54 2:=zLV (by kernel_rfl) zIN zKj (by kernel_rfl)
theorem zmh {h:AH}:zd E 26 0 (some []) h=one (.slice (some ⟨h.next,0,none⟩) 0 0,h.new (rO [] 54)):=by kernel_rfl
theorem zUz {h:AH} {p:Int×Int}:zd E 26 1 (some [(0,.agg ⟨zH p⟩)]) h=one (.slice (some ⟨h.next,0,none⟩) 1 1,h.new (rO (zH p) 54)):=by kernel_rfl
theorem zQn {t e z:Nat} (H:Elt t e z) {h:AH} {b b2 o n c:Nat} {vs us:List Value} {ty ty2 es2:Nat} {ro2:Bool} (hb:h.get b=some (rO [] ty)) (aW:h.get b2=some (.row vs ty2 es2 ro2)) (dy:n≠0) (hn:n<=1000000)
  (hl:o+n*z<=vs.length) (hu:(vs.drop o).take (n*z)=us) :
  zAH E .append [t,t] (some [.slice (some ⟨b,0,none⟩) 0 0,.slice (some ⟨b2,o,none⟩) n c]) h=one (.slice (some ⟨h.next,0,none⟩) n (UNK+z),h.new (.row us e z false)):=by
 obtain ⟨ti,e1,e2,e3⟩:=H.ti
 show v2 (zAz E [t,t] (.slice (some ⟨b,0,none⟩) 0 0) (.slice (some ⟨b2,o,none⟩) n c) h)=_
 have hlen:us.length=n*z:=by rw [← hu,List.length_take,List.length_drop];omega
 have gz:Nat.beq n 0=false:=by cases n with|zero=>exact absurd rfl dy|succ n=>rfl
 have e8:Nat.ble n 0=false:=by cases n with|zero=>exact absurd rfl dy|succ n=>rfl
 have hn3:Nat.ble n 1000000=true:=ble_true.2 (by omega)
 simp only [zAz,H.el,H.un,zEw,cond_false,e1,zBx,zA9,aW,e2,zAn,zAt,zAO,hu,hlen,Nat.beq_refl,if_true,e3,cond_true,zBw,gz,hb,zCP,show Nat.ble UNK 0=false from rfl,e8,Nat.zero_mul,List.drop_nil,List.take_nil,List.length_nil,show Nat.beq 0 0=true from rfl,List.nil_append,zAx,hn3,v2,Nat.zero_add]
theorem zpd {b o n c:Nat}:zp E (zk [(3,.slice (some ⟨b,o,none⟩) n c)]) (zo B32 [1,0,0] 1)=some (.bool false):=by kernel_rfl
theorem zOr (l:List (Int×Int)):(l.map zH).flatten=l.flatMap zH:=by rw [List.flatMap_def]
theorem zmY {k:AH} {v:Value} {l:List (Int×Int)} (aa:k.ok) (ha:Arr k 2 v (l.map zH)) (hl:l≠[]) (hn:l.length<=1000000) :
  Ev true ((zY E).call 32 [v] k) fun x=>∃ b,x.1=sl b l.length (UNK+2)/\k.next<=b/\b<x.2.next/\x.2.get b=some (.row (l.flatMap zH) 54 2 false)/\Fx NoB k x.2:=by
 generalize hels:l.map zH=els at ha
 cases ha with
 | nil a c=>exact absurd (List.map_eq_nil_iff.1 hels) hl
 | @row b o c vs ty es ro _ hb ab aU hz=>
 have hlen:els.length=l.length:=by rw [← hels,List.length_map]
 have dg:=zKP els o aU hz
 have ez:l.length≠0:=fun h=>hl (List.length_eq_zero_iff.1 h)
 refine zgd (Rp:=fun x m=>∃ b,x=sl b l.length (UNK+2)/\k.next<=b/\b<m.next/\m.get b=some (.row (l.flatMap zH) 54 2 false)/\Fx NoB k m) (zfp ?_)
 try simp only [zA]
 refine zfo ?_
 simp only [zA,zpd,zj]
 refine zfn ?_
 obtain ⟨k1,e1,n1,t1,o1,f1⟩:=nwF k (rO [] 54)
 have x1:Fx NoB k.fresh k1:=by rw [← e1];exact (Fx.refl (zAT k)).new _
 have happ:=zQn elt26 (c:=c) t1 ((f1 b ab).trans hb) (n:=els.length) (by omega) (by omega) aU dg
 obtain ⟨k2,e2,n2,t2⟩:∃ k2,k1.new (.row els.flatten 54 2 false)=k2/\k2.next=k1.next+1/\k2.get k1.next=some (.row els.flatten 54 2 false):=⟨_,rfl,rfl,zI _ _⟩
 have x2:Fx NoB k.fresh k2:=by rw [← e2];exact x1.new _
 simp only [zA,zmh,zK,e1,zb,happ,e2]
 rw [zAS]
 refine ⟨zX ▸ trivial,.inl rfl,k1.next,?_,by omega,by show k1.next<k2.next;omega,?_,x2.back⟩
 ·rw [hlen]
 ·rw [← zOr,hels];exact zEy t2
theorem c3_zero' {a b:Int}:c3 a b=0 ↔ a=b:=by
 unfold c3
 split
 ·constructor
  ·intro h;cases h
  ·intro h;omega
 ·split
  ·constructor
   ·intro h;cases h
   ·intro h;omega
  ·constructor
   ·intro;omega
   ·intro;rfl
theorem zUt {a b:Int}:c3 a b<0 ↔ a<b:=by
 unfold c3
 split
 ·constructor <;> intro <;> omega
 ·split <;> constructor <;> intro h <;> first|omega|(exfalso;revert h;decide)
theorem zCy (x y:Int×Int):zKC x y<0 ↔ x.1<y.1\/(x.1=y.1/\x.2<y.2):=by
 simp only [zKC,orI]
 by_cases h:c3 x.1 y.1=0
 ·have e:=c3_zero'.1 h
  simp only [h,ne_eq,not_true_eq_false,if_false]
  by_cases h2:c3 x.2 y.2=0
  ·have e2:=c3_zero'.1 h2
   simp only [h2,ne_eq,not_true_eq_false,if_false]
   omega
  ·simp only [h2,ne_eq,not_false_eq_true,if_true]
   have:=zUt (a:=x.2) (b:=y.2)
   omega
 ·have h0:x.1≠y.1:=fun e=>h (c3_zero'.2 e)
  simp only [h,ne_eq,not_false_eq_true,if_true]
  have:=zUt (a:=x.1) (b:=y.1)
  omega
theorem swoP:SWO (zAY zKC) where
 irrefl x:=by simp only [decide_eq_false_iff_not,zCy];omega
 trans x y z h1 h2:=by simp only [decide_eq_true_eq,zCy] at *;omega
 ntrans x y z h1 h2:=by simp only [decide_eq_false_iff_not,zCy] at *;omega
section
variable {b ty es c:Nat} {k h0:AH} {d:Dt} {cf:Value} {f:Int×Int->Bool}
end
theorem zJo {α:Type}:∀ (x y z:List α),y.length=z.length->lput (x++y) x.length z=x++z
 | [],[],[],_=>rfl
 | [],a::y,b::z,h=>by
  have:=zJo [] y z (by simpa using h)
  show b::lput y 0 z=b::z
  rw [show lput y 0 z=z from this]
 | [],[],_::_,h=>by simp at h
 | [],_::_,[],h=>by simp at h
 | a::x,y,[],h=>by
  have:y=[]:=List.length_eq_zero_iff.1 (by simpa using h)
  subst this
  cases x <;> rfl
 | a::x,y,b::z,h=>by
  have:=zJo x y (b::z) h
  show a::lput (x++y) x.length (b::z)=_
  rw [this];rfl
theorem zU5 {h:AH} {b c:Nat} {vs rest:List Value} {ty es:Nat} {ro:Bool} {l:List (Int×Int)} (hb:h.get b=some (.row vs ty es ro)) (hl:b<h.next) (hv:vs=l.flatMap zH++rest):Arr h 2 (sl b l.length c) (l.map zH):=by
 have:=Arr.row (els:=l.map zH) (z:=2) (o:=0) (c:=c) hb hl (by rw [hv,List.length_append,zCF,List.length_map];omega) fun i e he=>by
  rw [List.getElem?_map] at he
  obtain ⟨p,hp,rfl⟩:=Option.map_eq_some_iff.1 he
  refine ⟨rfl,?_⟩
  have hi:=(List.getElem?_eq_some_iff.1 hp).1
  have h2:=zJh l i p hp
  rw [Nat.zero_add,hv,List.drop_append_of_le_length (by rw [zCF];omega),List.take_append_of_le_length (by rw [List.length_drop,zCF];omega)]
  exact h2
 rw [List.length_map] at this
 exact this
theorem zmE {T:Tm} {o:Oper} {u v:Nat} {b n i:Nat} (ho:o.op=.slice 26 (.tmp u) (some (.tmp v)) none none) (h1:T.get u=.slice (some ⟨b,0,none⟩) n (UNK+2)) (h2:T.get v=iI (i:Int)) (hi:i<n) :
  zp E T o=some (.slice (some ⟨b,i*2,none⟩) (n-i) (UNK+2)):=by
 have f1:zu T (.tmp u)=false:=by show zi (T.get u)=false;rw [h1];rfl
 have o1:zAj T (.tmp u)=some (.slice (some ⟨b,0,none⟩) n (UNK+2)):=by show some (T.get u)=_;rw [h1]
 have o2:zBk T [.tmp v]=some [iI (i:Int)]:=by show some [T.get v]=_;rw [h2]
 have e:zp E T o=zHE E 26 (.slice (some ⟨b,0,none⟩) n (UNK+2)) (some (iI (i:Int))) none none:=by
  simp only [zp,ho,zK1,f1,cond_false,Option.isSome_none,Bool.false_and,o1,Option.toList_some,Option.toList_none,o2]
  rfl
 rw [e]
 simp only [zHE,zIN,sliceS,zID,zGl,zFD]
 show zk7 2 (some ⟨b,0,none⟩) n (UNK+2) i n=_
 have hu:Nat.ble UNK (UNK+2)=true:=ble_true.2 (by omega)
 have hc:Nat.beq (UNK+2) (UNK+2)=true:=Nat.beq_refl _
 simp only [zk7,ble_true.2 (show i<=n by omega),cond_true,hu,Option.isSome_some,ble_true.2 (Nat.le_refl n),hc,Bool.and_self,ble_false.2 hi,cond_false]
 cases hz:Nat.beq i 0 with
 | true=>
  have:i=0:=Nat.eq_of_beq_eq_true hz
  subst this
  rfl
 | false=>
  simp only [cond_false,zGn,Nat.zero_add]
theorem zqD {T:Tm} {o:Oper} {u v:Nat} {b n i:Nat} (ho:o.op=.slice 26 (.tmp u) none (some (.tmp v)) none) (h1:T.get u=.slice (some ⟨b,0,none⟩) n (UNK+2)) (h2:T.get v=iI (i:Int)) (hi:i<=n) :
  zp E T o=some (.slice (some ⟨b,0,none⟩) i (UNK+2)):=by
 have f1:zu T (.tmp u)=false:=by show zi (T.get u)=false;rw [h1];rfl
 have o1:zAj T (.tmp u)=some (.slice (some ⟨b,0,none⟩) n (UNK+2)):=by show some (T.get u)=_;rw [h1]
 have o2:zBk T [.tmp v]=some [iI (i:Int)]:=by show some [T.get v]=_;rw [h2]
 have e:zp E T o=zHE E 26 (.slice (some ⟨b,0,none⟩) n (UNK+2)) none (some (iI (i:Int))) none:=by
  simp only [zp,ho,zK1,f1,cond_false,Option.isSome_none,Bool.false_and,o1,Option.toList_some,Option.toList_none,o2]
  rfl
 rw [e]
 simp only [zHE,zIN,sliceS,zID,zGl,zFD]
 show zk7 2 (some ⟨b,0,none⟩) n (UNK+2) 0 i=_
 have hu:Nat.ble UNK (UNK+2)=true:=ble_true.2 (by omega)
 have hc:Nat.beq (UNK+2) (UNK+2)=true:=Nat.beq_refl _
 simp only [zk7,ble_true.2 (Nat.zero_le i),cond_true,hu,Option.isSome_some,ble_true.2 hi,hc,Bool.and_self,show Nat.beq 0 0=true from rfl]
theorem zTA {α:Type} (l:List α):∀ n,(rep n l).length=n*l.length
 | 0=>by simp [rep]
 | n+1=>by simp only [rep,List.length_append,zTA l n,Nat.add_mul];omega
theorem zjd {h:AH} {b i m cp:Nat} {x y:List Value} {ty es:Nat} (hb:h.get b=some (.row (x++y) ty es false)) (hx:x.length=i*2) (hy:y.length=m*2) (hm:m≠0) :
  zAH E .clear [26] (some [.slice (some ⟨b,i*2,none⟩) m cp]) h=one (.tuple #[],h.upd b (some (.row (x++rep m [iI 0,iI 0]) ty es false))):=by
 show zG6 E 26 (.slice (some ⟨b,i*2,none⟩) m cp) h=_
 have fa:Nat.beq m 0=false:=by cases m with|zero=>exact absurd rfl hm|succ m=>rfl
 simp only [zG6,elt26.el,fa,cond_false,zG4,zdI,zID,hb,zAO,List.length_append,hx,hy,zT]
 have h1:Nat.ble (i*2+m*2) (i*2+m*2)=true:=ble_true.2 (Nat.le_refl _)
 have h2:lput (x++y) (i*2) (rep m [iI 0,iI 0])=x++rep m [iI 0,iI 0]:=by
  rw [← hx];exact zJo _ _ _ (by rw [zTA,hy];rfl)
 simp only [h1,h2]
 rfl
end Go.Proofs
namespace Go.Proofs
open Go Go.AM
set_option maxRecDepth 100000
theorem zir (a b:Int):zOS a b=c3 a b:=rfl
mutual
theorem zUW:∀ t u:GT,zjc t u=zKB t u
 | .mk k n l,.mk k' n' l'=>by
  have h:=zO5 l l'
  simp only [zjc,zKB,orI,zir]
  by_cases h1:c3 k k'=0
  ·by_cases h2:c3 n n'=0
   ·by_cases h3:c3 (l.length:Int) (l'.length:Int)=0
    ·simp [h1,h2,h3,h (zOR h3)]
    ·simp [h1,h2,h3]
   ·simp [h1,h2]
  ·simp [h1]
theorem zO5:∀ l l':List GT,l.length=l'.length->zQg l l'=zD9 l l'
 | [],[],_=>rfl
 | t::ts,u::us,h=>by
  simp only [zQg,zD9,zUW t u,zO5 ts us (by simpa using h)]
  by_cases e:zKB t u=0 <;> simp [e]
 | [],_::_,h=>by simp at h
 | _::_,[],h=>by simp at h
end
theorem zO7 {l l':List GT} {i:Nat} (h1:i<=l.length) (h2:i<=l'.length) (h:i=l.length\/i=l'.length):zD9 (l.drop i) (l'.drop i)=c3 l.length l'.length:=by
 cases e:l.drop i with
 | nil=>
  have e1:l.length<=i:=by simpa using e
  cases e':l'.drop i with
  | nil=>
   have e2:l'.length<=i:=by simpa using e'
   have:l.length=l'.length:=by omega
   simp [zD9,c3,this]
  | cons y ys=>
   have e2:i<l'.length:=by
    rcases Nat.lt_or_ge i l'.length with h|h
    ·exact h
    ·rw [List.drop_eq_nil_of_le h] at e';cases e'
   simp only [zD9,c3]
   rw [if_pos (by omega)]
 | cons x xs=>
  have e1:i<l.length:=by
   rcases Nat.lt_or_ge i l.length with h|h
   ·exact h
   ·rw [List.drop_eq_nil_of_le h] at e;cases e
  have e2:l'.drop i=[]:=List.drop_eq_nil_of_le (by omega)
  rw [e2]
  simp only [zD9,c3]
  rw [if_neg (by omega),if_pos (by omega)]
theorem zhd (g:Int) (l:List GT) (g':Int) (l':List GT):zCY g l g' l'=if c3 g g'=0 then zD9 l l' else c3 g g':=by
 simp only [zCY,orI]
 by_cases h:c3 g g'=0 <;> by_cases h2:zD9 l l'=0 <;> simp [h,h2]
theorem zdR {h0 k:AH} {e e':List Value} {els els':List (List Value)} {ts ts':List GT} (hc:RC h0 els ts) (aF:RC h0 els' ts') {i:Nat} (he:els[i]?=some e) (he':els'[i]?=some e') (hk:Ext h0 k) :
  ∃ t u,ts[i]?=some t/\ts'[i]?=some u/\(zY E).call 188 [.agg ⟨e⟩,.agg ⟨e'⟩] k=some [(iI (zKB t u),k)]:=by
 obtain ⟨ck,cn,cv,cl,rfl,r1,r2,r3⟩:=zJd hc i e he
 obtain ⟨dk,dn,dv,dl,rfl,s1,s2⟩:=RC.at aF i e' he'
 exact ⟨_,_,r2,s2,by rw [← zUW];exact r3 k dk dn dv dl s1 hk⟩
theorem zj7 {h0 k:AH} {v v':Value} {l l':List GT} (hr:RT h0 v l) (bE:RT h0 v' l') (hk:Ext h0 k):(zY E).call 140 [v,v'] k=some [(iI (zD9 l l'),k)]:=by
 have hs:=hr.slice
 have bu:=bE.slice
 cases hr with
 | @mk _ els _ ha hn hc=>
 cases bE with
 | @mk _ els' _ cS hn' aF=>
 have hlen:=RC.length hc
 have c7:=RC.length aF
 obtain ⟨sa,sc,rfl⟩:=hs
 obtain ⟨sa',sc',rfl⟩:=bu
 refine zcu (s:=true) hk.ok rfl (zaj ?_)
 refine zai ?_
 have fG:=hk.fresh
 have fin:c3 l.length l'.length=zD9 l l'->zoG true (KR E [.tmp 2] fun x m=>x=iI (zD9 l l')/\k.next<=m.wm) (.slice sa l.length sc) (.slice sa' l'.length sc') k.fresh:=by
  intro hc
  refine zad ?_
  simp only [zA,zQP,zQO,zQ,zI5 fG.ok,zP,zAS,zX,true_and]
  exact ⟨congrArg (Value.int .i64) hc,by rw [zCZ];omega⟩
 have loop:∀ (m i:Nat),i+m=l.length->i<=l'.length->zD9 (l.drop i) (l'.drop i)=zD9 l l'->zoH true (KR E [.tmp 2] fun x m=>x=iI (zD9 l l')/\k.next<=m.wm) (.slice sa l.length sc) (.slice sa' l'.length sc') (iI (i:Int)) k.fresh:=by
  intro m
  induction m with
  | zero=>
   intro i hi hi2 hV
   refine zML ?_
   simp only [zA,zIg,zZ,show decide ((i:Int)<(l.length:Int))=false from decide_eq_false (by omega),zM,show (false==true)=false from rfl,cond_false,zJ,zj]
   exact fin (by rw [← hV,zO7 (by omega) hi2 (by omega)])
  | succ m ih=>
   intro i hi hi2 hV
   refine zML ?_
   simp only [zA,zIg,zZ,show decide ((i:Int)<(l.length:Int))=true from decide_eq_true (by omega),zM,beq_self_eq_true,cond_true,zQQ,zJ,zAM]
   refine ⟨fun cx=>zah ?_,fun hni=>fin (by rw [← hV,zO7 (by omega) hi2 (by omega)])⟩
   have cx:i<l'.length:=by omega
   have cM:i<l.length:=by omega
   obtain ⟨x,hx⟩:∃ x,els[i]?=some x:=⟨_,List.getElem?_eq_getElem (by omega)⟩
   obtain ⟨y,hy⟩:∃ y,els'[i]?=some y:=⟨_,List.getElem?_eq_getElem (by omega)⟩
   obtain ⟨p1,q1,w1⟩:=zLI ha fG hx
   obtain ⟨p2,q2,w2⟩:=zLI cS fG hy
   obtain ⟨t,u,ht,hu,ct⟩:=zdR hc aF hx hy fG
   have e3:l.drop i=t::l.drop (i+1):=by rw [List.drop_eq_getElem_cons cM,(List.getElem?_eq_some_iff.1 ht).2]
   have e4:l'.drop i=u::l'.drop (i+1):=by rw [List.drop_eq_getElem_cons cx,(List.getElem?_eq_some_iff.1 hu).2]
   rw [e3,e4] at hV
   simp only [zD9] at hV
   simp only [zA,q1,w1,q2,w2,zQ,ct,zP]
   refine zag ?_
   simp only [zA,zAp,zKK]
   refine ⟨fun ah=>zaf ?_,fun he=>zae ?_⟩
   ·simp only [zA,zAS,zX,true_and]
    rw [if_pos ah] at hV
    exact ⟨by rw [hV],by rw [zCZ];omega⟩
   ·simp only [zA,zAD _ (zEA (show i<l.length by omega) (by omega))]
    rw [if_neg (by simp [he])] at hV
    exact ih (i+1) (by omega) (by omega) hV
 have:=loop l.length 0 (by omega) (by omega) (by simp)
 exact this
theorem zmN {h0 k:AH} {g g':Int} {v v':Value} {l l':List GT} (hr:RT h0 v l) (bE:RT h0 v' l') (hk:Ext h0 k) :
  (zY E).call 88 [.agg ⟨[iI g,v]⟩,.agg ⟨[iI g',v']⟩] k=some [(iI (zCY g l g' l'),k)]:=by
 refine zgO (s:=true) hk.ok rfl (zeU ?_)
 obtain ⟨k1,e1,n1,t1,o1,f1⟩:=nwF k (rO [iI g,v] 36)
 obtain ⟨k2,e2,n2,t2,o2,f2⟩:=nw o1 (rO [iI g',v'] 36)
 simp only [zg,zK,zT,zA,e1,e2,zb]
 have g1:=(f2 k.next (by omega)).trans t1
 have l0:=zF (P:=E) zAb (o:=0) g1
 have l1:=zF (P:=E) zDd (o:=1) g1
 have m0:=zF (P:=E) zAb (o:=0) t2
 have m1:=zF (P:=E) zDd (o:=1) t2
 simp only [lnth] at l0 l1 m0 m1
 have ex2:=hk.trans o2.ext
 refine zeT ?_
 simp only [zBg,Nat.add_zero,l0,m0,zA,zQ,zI5 ex2.ok,zP]
 refine zeS ?_
 simp only [zA,zAp,zKK]
 refine ⟨fun ah=>zeR ?_,fun he=>zeQ ?_⟩
 ·simp only [zA,zAS,zX,true_and]
  have ah:¬ c3 g g'=0:=ah
  exact ⟨congrArg (Value.int .i64) (show c3 g g'=_ by rw [zhd,if_neg ah]),o2.wm⟩
 ·simp only [zCB,Nat.zero_add,l1,m1,zA,zQ,zj7 hr bE ex2,zP,zAS,zX,true_and]
  have he:c3 g g'=0:=he
  exact ⟨by rw [zhd,if_pos he],o2.wm⟩
end Go.Proofs
