import Derived.ChangeArms
import Derived.DataReads
import Derived.Test.YthmnhjcmefjgjaaGreatDoorXAG
import Derived.Test.YthmnhjcmefjgjaaGreatDoorXAI
import Derived.Test.YthmnhjcmefjgjaaGreatDoorXAF
import Derived.Test.YthmnhjcmefjgjaaGreatDoorXAD
set_option linter.all false
set_option linter.unusedSectionVars false
set_option autoImplicit true
set_option relaxedAutoImplicit true
namespace Go.Proofs
open Go Go.AM
structure More (w:World) (σ:Sg) (h:AH) (σ':Sg) (h':AH):Prop where
 le:Sg.le σ σ'
 ext:Ext h h'
 hr:HR w.heap.size σ' h' w
theorem More.refl {w:World} {σ:Sg} {h:AH} (H:HR w.heap.size σ h w) (ok:h.ok):More w σ h σ h:=⟨Sg.le_refl σ,Ext.refl ok,H⟩
theorem More.trans {w:World} {σ σ1 σ2:Sg} {h h1 h2:AH} (a:More w σ h σ1 h1) (b:More w σ1 h1 σ2 h2):More w σ h σ2 h2:=⟨Sg.le_trans a.le b.le,a.ext.trans b.ext,b.hr⟩
theorem More.ok {w:World} {σ σ':Sg} {h h':AH} (a:More w σ h σ' h'):h'.ok:=a.ext.ok
theorem HR.addRO {σ:Sg} {h:AH} {w:World} (H:HR w.heap.size σ h w) (hok:h.ok) {vs:List Value} {el:TypeId} {cs:Array Value} {frz:Nat×Nat} {l:AM.Loc} (hb:w.heap[l.blk]?=some (.cells cs el frz))
  (hsz:l.base+vs.length<=cs.size) (hc:∀ i v,vs[i]?=some v->∃ v',cs[l.base+i]?=some v'/\VR σ v v') :
  More w σ h (σ.ext h.next l) (h.new (.row vs el 0 true)):=by
 have hlt:l.blk<w.heap.size:=zAd hb
 have le:Sg.le σ (σ.ext h.next l):=Sg.le_ext H.free
 refine ⟨le,(Ext.refl hok).new _,?_,?_,?_,?_,Nat.le_refl _⟩
 ·intro b m e
  unfold Sg.ext at e
  split at e
  ·rename_i hb;subst hb;simp
  ·have:=H.dom _ _ e;simp;omega
 ·intro b hb
  rw [AH.get_new]
  simp at hb
  rw [if_neg (by omega)];exact H.fresh b (by omega)
 ·intro b x e
  rw [AH.get_new] at e
  by_cases hb':b=h.next
  ·subst hb'
   rw [if_pos rfl] at e
   cases e
   exact ⟨l,Sg.ext_self ..,⟨cs,el,frz,hb,hsz,fun i v hi=>(let ⟨v',a,b⟩:=hc i v hi;⟨v',a,b.mono le⟩),fun e=>(by cases e),rfl,fun _ e=>(by cases e),fun e=>absurd rfl e⟩,fun e=>(by cases e)⟩
  ·rw [if_neg hb'] at e
   obtain ⟨m,a,c,d⟩:=H.live b x e
   refine ⟨m,le _ _ a,c.mono le rfl (fun i es v lm hi hs=>?_),d⟩
   rw [AH.get_new] at hi
   have hin:i≠h.next:=by intro e;subst e;rw [H.free] at hs;cases hs
   rw [if_neg hin] at hi
   exact ⟨hi,rfl⟩
 ·have other:∀ b' o2 l2,(h.new (.row vs el 0 true)).get b'=some o2->(σ.ext h.next l) b'=some l2->l.blk=l2.blk->b'≠h.next->isRO o2=true:=by
   intro b' o2 l2 e2 s2 hblk hne
   rw [AH.get_new,if_neg hne] at e2
   unfold Sg.ext at s2
   rw [if_neg hne] at s2
   obtain ⟨m,a,c,d⟩:=H.live b' _ e2
   rw [s2] at a;cases a
   cases hro:isRO o2 with
   | true=>rfl
   | false=>have:=d hro;omega
  intro b b' o1 o2 l1 l2 e1 e2 s1 s2 hblk hne
  by_cases hb1:b=h.next
  ·subst hb1
   have e1':=e1
   rw [AH.get_new,if_pos rfl] at e1';cases e1'
   have s1':=s1
   rw [Sg.ext_self] at s1';cases s1'
   exact ⟨rfl,other _ _ _ e2 s2 hblk (fun e=>hne e.symm)⟩
  ·by_cases hb2:b'=h.next
   ·subst hb2
    have e1':=e2
    rw [AH.get_new,if_pos rfl] at e1';cases e1'
    have s1':=s2
    rw [Sg.ext_self] at s1';cases s1'
    exact ⟨other _ _ _ e1 s1 hblk.symm hb1,rfl⟩
   ·rw [AH.get_new,if_neg hb1] at e1
    rw [AH.get_new,if_neg hb2] at e2
    unfold Sg.ext at s1 s2
    rw [if_neg hb1] at s1
    rw [if_neg hb2] at s2
    exact H.inj b b' o1 o2 l1 l2 e1 e2 s1 s2 hblk hne
inductive Els {α:Type} (R:List Value->α->Prop):List (List Value)->List α->Prop
 | nil:Els R [] []
 | cons {e:List Value} {a:α} {es:List (List Value)} {aas:List α} (h:R e a) (hs:Els R es aas):Els R (e::es) (a::aas)
theorem Els.mono {α:Type} {R S:List Value->α->Prop} (H:∀ e a,R e a->S e a):∀ {es:List (List Value)} {aas:List α},Els R es aas->Els S es aas
 | _,_,.nil=>.nil
 | _,_,.cons h hs=>.cons (H _ _ h) (Els.mono H hs)
theorem flat_len {z:Nat}:∀ (els:List (List Value)),(∀ e∈els,e.length=z)->els.flatten.length=els.length*z
 | [],_=>by simp
 | e::es,H=>by
  rw [List.flatten_cons,List.length_append,H e (by simp),flat_len es fun x hx=>H x (by simp [hx]),List.length_cons,Nat.add_mul];omega
theorem flat_get {z:Nat}:∀ (els:List (List Value)),(∀ e∈els,e.length=z)->∀ k e,els[k]?=some e->(els.flatten.drop (k*z)).take z=e
 | [],_,k,e,h=>by simp at h
 | x::es,H,0,e,h=>by
  simp at h;subst h
  rw [List.flatten_cons,Nat.zero_mul,List.drop_zero]
  have:=H x (by simp)
  rw [← this,List.take_left'];rfl
 | x::es,H,k+1,e,h=>by
  rw [List.flatten_cons]
  have hx:=H x (by simp)
  rw [show (k+1)*z=x.length+k*z by rw [hx,Nat.add_mul];omega,← List.drop_drop,List.drop_left']
  ·exact flat_get es (fun y hy=>H y (by simp [hy])) k e (by simpa using h)
  ·rfl
theorem flat_at {z:Nat}:∀ (els:List (List Value)),(∀ e∈els,e.length=z)->∀ i v,els.flatten[i]?=some v->∃ k e j,els[k]?=some e/\e[j]?=some v/\i=k*z+j
 | [],_,i,v,h=>by simp at h
 | x::es,H,i,v,h=>by
  have hx:=H x (by simp)
  rw [List.flatten_cons] at h
  by_cases hi:i<x.length
  ·rw [List.getElem?_append_left hi] at h
   exact ⟨0,x,i,rfl,h,by omega⟩
  ·rw [List.getElem?_append_right (by omega)] at h
   obtain ⟨k,e,j,a,b,c⟩:=flat_at es (fun y hy=>H y (by simp [hy])) _ _ h
   exact ⟨k+1,e,j,by simpa using a,b,by rw [Nat.add_mul];omega⟩
theorem cell_get {w:World} {a:Addr} {v:Value} (h:w.cell? a=some v):∃ C el frz,w.heap[a.block]?=some (.cells C el frz)/\a.spot=none/\C[a.off]?=some v:=by
 unfold World.cell? at h
 split at h
 ·rename_i C el frz hb
  cases hs:a.spot with
  | some s=>rw [hs] at h;simp at h
  | none=>rw [hs] at h;exact ⟨C,el,frz,hb,rfl,by simpa using h⟩
 ·cases h
theorem add_off (a:Addr) (n:Nat):(a.add n).off=a.off+n:=by unfold Addr.add;split <;> simp_all
theorem add_blk (a:Addr) (n:Nat):(a.add n).block=a.block:=by unfold Addr.add;split <;> rfl
theorem row_at {w:World} {base z i:Nat} {a:Addr} {cs:List Value} (hz:0<z) (h:w.cells? base (a.add (i*z)) z=some cs) :
  ∃ C el frz,w.heap[a.block]?=some (.cells C el frz)/\cs.length=z/\(i=0->a.spot=none)/\∀ j,j<z->C[a.off+i*z+j]?=cs[j]?:=by
 obtain ⟨_,hl,hg⟩:=World.cells?_some h
 have h0:=hg 0 hz
 have hv:∃ v,cs[0]?=some v:=⟨_,List.getElem?_eq_getElem (by omega)⟩
 obtain ⟨v,hv⟩:=hv
 rw [hv] at h0
 obtain ⟨C,el,frz,hb,hs,_⟩:=cell_get h0
 rw [add_blk,add_blk] at hb
 refine ⟨C,el,frz,hb,hl,fun hi=>?_,fun j hj=>?_⟩
 ·subst hi
  simp only [Nat.zero_mul] at hs
  have e:∀ b:Addr,b.add 0=b:=fun b=>by simp [Addr.add]
  rw [e,e] at hs;exact hs
 ·have hj':=hg j hj
  obtain ⟨u,hu⟩:∃ u,cs[j]?=some u:=⟨_,List.getElem?_eq_getElem (by omega)⟩
  rw [hu] at hj' ⊢
  obtain ⟨C',el',frz',hb',_,hc'⟩:=cell_get hj'
  rw [add_blk,add_blk,hb] at hb'
  cases hb'
  rw [add_off,add_off] at hc'
  exact hc'
section
variable {H:Type} {enc:TypeId×Value->H} {P:Program} {w:World} {base:Nat} {held:Bool}
def Step (enc:TypeId×Value->H) (P:Program) (w:World) (base:Nat) (held:Bool) {α:Type} (R:AH->List Value->α->Prop) (n:Nat) (t:TypeId):Prop:=
 ∀ (cs:List Value) (x:DataW H×List MemPlace) (σ:Sg) (h:AH),h.ok->HR w.heap.size σ h w->DataW.trod enc P w base (fun _=>true) held n t cs=some x->
  ∃ σ' h' vs a,More w σ h σ' h'/\VRs σ' vs cs/\R h' vs a
theorem build_els {α:Type} {R:AH->List Value->α->Prop} (hR:∀ h k es a,Ext h k->R h es a->R k es a) {e:TypeId} {z n:Nat} (hz:0<z) (hcz:P.cellsOf e=z) {a:Addr} {C:Array Value} {el:TypeId} {frz:Nat×Nat} (hC:w.heap[a.block]?=some (.cells C el frz))
  (step:Step enc P w base held R n e):∀ (m i:Nat) (σ:Sg) (h:AH),h.ok->HR w.heap.size σ h w->
   (∀ k,k<m->∃ x,(w.cells? base (a.add ((i+k)*z)) z).bind (DataW.trod enc P w base (fun _=>true) held n e)=some x)->
   ∃ σ' h' els aas,More w σ h σ' h'/\Els (R h') els aas/\els.length=m/\∀ k u,els[k]?=some u->u.length=z/\∀ j v,u[j]?=some v->∃ v',C[a.off+(i+k)*z+j]?=some v'/\VR σ' v v':=by
 intro m
 induction m with
 | zero=>intro i σ h hok hH _;exact ⟨σ,h,[],[],.refl hH hok,.nil,rfl,fun k u hk=>by simp at hk⟩
 | succ m ih=>
  intro i σ h hok hH hr
  obtain ⟨x,hx⟩:=hr 0 (by omega)
  obtain ⟨cs,hcs,htr⟩:=Option.bind_eq_some_iff.1 hx
  obtain ⟨C',el',frz',hb,hl,_,hg⟩:=row_at hz hcs
  rw [hC] at hb
  cases hb
  obtain ⟨σ1,h1,vs,b,m1,v1,r1⟩:=step cs x σ h hok hH htr
  obtain ⟨σ2,h2,els,aas,m2,e2,l2,g2⟩:=ih (i+1) σ1 h1 m1.ok m1.hr (fun k hk=>by
   have:=hr (k+1) (by omega)
   rw [show i+1+k=i+(k+1) by omega];exact this)
  refine ⟨σ2,h2,vs::els,b::aas,m1.trans m2,.cons (hR _ _ _ _ m2.ext r1) e2,by simp [l2],fun k u hk=>?_⟩
  cases k with
  | zero=>
   simp at hk;subst hk
   refine ⟨by rw [v1.length,hl],fun j v hj=>?_⟩
   obtain ⟨v',q1,q2⟩:=v1.get hj
   have hjz:j<z:=by have:=(List.getElem?_eq_some_iff.1 q1).1;omega
   exact ⟨v',by rw [hg j hjz];exact q1,q2.mono m2.le⟩
  | succ k=>
   simp only [List.getElem?_cons_succ] at hk
   rw [show i+(k+1)=i+1+k by omega]
   exact g2 k u hk
theorem zDS {α:Type} {R:AH->List Value->α->Prop} (hR:∀ h k es a,Ext h k->R h es a->R k es a) {t e:TypeId} {z n:Nat} (ht:P.underlying t=some (.slice e)) (hz:0<z) (hcz:P.cellsOf e=z)
  (step:∀ m,n=m+1->Step enc P w base held R m e) :
  ∀ (cs:List Value) (x:DataW H×List MemPlace) (σ:Sg) (h:AH),h.ok->HR w.heap.size σ h w->DataW.trod enc P w base (fun _=>true) held n t cs=some x->
   ∃ σ' h' v v' els aas,cs=[v']/\More w σ h σ' h'/\VR σ' v v'/\Arr h' z v els/\Els (R h') els aas/\els.length<=9223372036854775807:=by
 intro cs x σ h hok hH htr
 rcases DataW.trod_slice ht htr with ⟨rfl,_⟩|⟨a,len,cap,elems,rest,m,hm,rfl,_,_,hlc,hcm,hel,hE,hS,_⟩
 ·exact ⟨σ,h,.slice none 0 0,_,[],[],rfl,.refl hH hok,.sliceN 0 0,.nil _ _,.nil,by simp⟩
 have hmax:len<=9223372036854775807:=by unfold maxLen at hcm;omega
 by_cases hcap:cap=0
 ·subst hcap
  obtain rfl:len=0:=by omega
  exact ⟨σ,h,.slice (some ⟨0,0,some 0⟩) 0 0,_,[],[],rfl,.refl hH hok,.sliceS a,.nil _ _,.nil,by simp⟩
 have first:∃ cs0,w.cells? base (a.add (0*z)) z=some cs0:=by
  by_cases hl:len=0
  ·obtain ⟨s1,s2⟩:=hS rfl
   have:=s2 0 (by omega)
   rw [hl,Nat.add_zero,hcz,List.getElem?_eq_getElem (by omega)] at this
   obtain ⟨c0,q,_⟩:=Option.bind_eq_some_iff.1 this
   exact ⟨c0,q⟩
  ·have:=hE 0 (by omega)
   rw [hcz,List.getElem?_eq_getElem (by omega)] at this
   obtain ⟨c0,q,_⟩:=Option.bind_eq_some_iff.1 this
   exact ⟨c0,q⟩
 obtain ⟨cs0,hcs0⟩:=first
 obtain ⟨C,el,frz,hC,_,hsp,_⟩:=row_at hz hcs0
 have hsp:=hsp rfl
 obtain ⟨ablk,aoff,asp⟩:=a
 simp only at hsp hC
 subst hsp
 obtain ⟨σ1,h1,els,aas,m1,e1,l1,g1⟩:=build_els (a:=⟨ablk,aoff,none⟩) hR hz hcz hC (step m hm) len 0 σ h hok hH (fun k hk=>by
  have:=hE k hk
  rw [hcz,List.getElem?_eq_getElem (by omega)] at this
  rw [Nat.zero_add]
  exact ⟨_,this⟩)
 have hlen:∀ u∈els,u.length=z:=fun u hu=>by
  obtain ⟨k,hk⟩:=List.getElem?_of_mem hu
  exact (g1 k u hk).1
 have hfl:=flat_len els hlen
 have m2:=HR.addRO m1.hr m1.ok (vs:=els.flatten) (l:=⟨ablk,aoff,0,0⟩) hC (by
  by_cases h0:els.flatten.length=0
  ·rw [h0]
   simp only [Nat.add_zero]
   obtain ⟨C',_,_,hb',hl',_,hg'⟩:=row_at hz hcs0
   simp only at hb'
   rw [hC] at hb'
   cases hb'
   have:=hg' 0 hz
   simp only [Nat.zero_mul,Nat.add_zero] at this
   have h2:aoff<C.size:=by
    rcases Nat.lt_or_ge aoff C.size with h|h
    ·exact h
    ·rw [Array.getElem?_eq_none h,List.getElem?_eq_getElem (by omega)] at this;cases this
   omega
  ·have hlt:els.flatten.length-1<els.flatten.length:=by omega
   obtain ⟨k,u,j,a1,a2,a3⟩:=flat_at els hlen _ _ (List.getElem?_eq_getElem hlt)
   obtain ⟨v',q1,_⟩:=(g1 k u a1).2 j _ a2
   have:=(Array.getElem?_eq_some_iff.1 q1).1
   simp only [Nat.zero_add] at this
   simp only
   omega) (fun i v hi=>by
  obtain ⟨k,u,j,a1,a2,a3⟩:=flat_at els hlen _ _ hi
  obtain ⟨v',q1,q2⟩:=(g1 k u a1).2 j _ a2
  refine ⟨v',?_,q2⟩
  simp only [Nat.zero_add] at q1
  simp only
  rw [a3,← Nat.add_assoc];exact q1)
 refine ⟨_,_,.slice (some ⟨h1.next,0,none⟩) els.length cap,.slice (some ⟨ablk,aoff,none⟩) len cap,els,aas,rfl,m1.trans m2,?_,?_,e1.mono fun u a r=>hR _ _ _ _ m2.ext r,by omega⟩
 ·have:=VR.slice (σ:=σ1.ext h1.next ⟨ablk,aoff,0,0⟩) (b:=h1.next) (l:=⟨ablk,aoff,0,0⟩) 0 len cap (Sg.ext_self ..) (by unfold maxLen at hcm;unfold UNK;omega)
  rw [l1]
  exact this
 ·refine .row (vs:=els.flatten) (ty:=el) (es:=0) (ro:=true) (by rw [AH.get_new,if_pos rfl]) (by simp) (by rw [hfl];omega) fun i u hu=>⟨(g1 i u hu).1,by rw [Nat.zero_add];exact flat_get els hlen i u hu⟩
end
end Go.Proofs
namespace Go.Proofs
open Go Go.AM
set_option maxRecDepth 100000
set_option maxHeartbeats 2000000
abbrev Ed:=Int×Int×Int
def etc (S:List Ed):List Value:=(S.map zW).flatten
theorem eds_all (S:List Ed):∀ u∈S.map zW,u.length=3:=by
 intro u hu
 obtain ⟨e,_,rfl⟩:=List.mem_map.1 hu
 rfl
theorem etc_len (S:List Ed):(etc S).length=S.length*3:=by
 have:=flat_len (S.map zW) (eds_all S)
 rw [List.length_map] at this;exact this
def CellE (h:AH) (c:Value) (S:List Ed):Prop:=(c=.slice none 0 0/\S=[])\/∃ b,c=.slice (some ⟨b,0,none⟩) S.length (UNK+3)/\h.get b=some (.row (etc S) 52 3 false)/\b<h.next
structure LoL (loc:Nat) (h:AH) (bs:Nat) (cells:List Value) (EE:List (List Ed)):Prop where
 s:h.get bs=some (.row cells 23 0 false)
 len:cells.length=EE.length
 lts:bs<h.next
 locs:loc<=bs
 cell:∀ (i:Nat) (c:Value) (S:List Ed),cells[i]?=some c->EE[i]?=some S->CellE h c S
 blk:∀ (i:Nat) (c:Value) (b:Nat),cells[i]?=some c->zo c b->b≠bs/\loc<=b
 dis:∀ (i j:Nat) (c d:Value) (b:Nat),cells[i]?=some c->cells[j]?=some d->zo c b->zo d b->i=j
theorem CellE.lt {h:AH} {c:Value} {S:List Ed} (k:CellE h c S) {b:Nat} (hb:zo c b):b<h.next:=by
 obtain ⟨n,cap,rfl⟩:=hb
 rcases k with ⟨e,_⟩|⟨b',e,_,hlt⟩
 ·cases e
 ·simp only [Value.slice.injEq,Option.some.injEq,Addr.mk.injEq] at e
  rw [e.1.1];exact hlt
theorem CellE.fx {P:Nat->Prop} {h h':AH} {c:Value} {S:List Ed} (k:CellE h c S) (f:Fx P h h') (hn:∀ b,zo c b->¬ P b):CellE h' c S:=by
 rcases k with e|⟨b,e,hg,hlt⟩
 ·exact .inl e
 ·exact .inr ⟨b,e,(f.get b hlt (hn b ⟨_,_,e⟩)).trans hg,Nat.lt_of_lt_of_le hlt f.next⟩
theorem CellE.leaf {h:AH} {c:Value} {S:List Ed} (k:CellE h c S):zn c=true/\zf c=[c]/\veq 100 c c=true:=by
 rcases k with ⟨rfl,_⟩|⟨b,rfl,_⟩ <;> exact ⟨rfl,rfl,zB2 _ _ _ _⟩
theorem CellE.arr {h:AH} {c:Value} {S:List Ed} (k:CellE h c S):Arr h 3 c (S.map zW):=by
 rcases k with ⟨rfl,rfl⟩|⟨b,rfl,hg,hlt⟩
 ·exact .nil _ _
 ·have:=Arr.row (z:=3) (c:=UNK+3) (o:=0) (els:=S.map zW) hg hlt (by rw [etc_len,List.length_map];omega) (fun i e he=>⟨eds_all S e (List.mem_of_getElem? he),by rw [Nat.zero_add];exact flat_get _ (eds_all S) i e he⟩)
  rw [List.length_map] at this
  exact this
theorem LoL.fx {P:Nat->Prop} {loc bs:Nat} {h h':AH} {cells:List Value} {EE:List (List Ed)} (G:LoL loc h bs cells EE) (f:Fx P h h') (h2:¬ P bs) (h3:∀ (i:Nat) (c:Value) (b:Nat),cells[i]?=some c->zo c b->¬ P b):LoL loc h' bs cells EE:=
 ⟨(f.get bs G.lts h2).trans G.s,G.len,Nat.lt_of_lt_of_le G.lts f.next,G.locs,fun i c S hc hS=>(G.cell i c S hc hS).fx f (fun b hb=>h3 i c b hc hb),G.blk,G.dis⟩
theorem LoL.same {loc bs:Nat} {h:AH} {cells:List Value} {EE:List (List Ed)} (G:LoL loc h bs cells EE) (w:Nat):LoL loc ⟨h.t,h.next,w⟩ bs cells EE:=
 ⟨G.s,G.len,G.lts,G.locs,fun i c S hc hS=>G.cell i c S hc hS,G.blk,G.dis⟩
theorem elt23:Elt 23 52 3:=elt_of elt_23 und_23 ta_52 (by kernel_rfl)
theorem mk49 {n:Nat} (hn:n<=1000000) {h:AH}:zAn E 49 (some (.int .i64 (n:Int))) (some (.int .i64 (n:Int))) h=one (.slice (some ⟨h.next,0,none⟩) n n,h.new (.row (List.replicate n (.slice none 0 0)) 23 0 false)):=
 mkSlice (by obtain ⟨i,a⟩:=ti_of ta_23 z_23 (by kernel_rfl);exact ⟨i,elt_49,a⟩) rfl hn
theorem bs23 {a b c:Value} {h:AH}:zi E 23 1 (some [(0,.agg #[a,b,c])]) h=one (.slice (some ⟨h.next,0,none⟩) 1 1,h.new (.row [a,b,c] 52 0 false)):=by kernel_rfl
theorem append_ed {h:AH} (hok:h.ok) {c:Value} {S:List Ed} (hc:CellE h c S) (hS:S.length+1<=1000000) (e:Ed) :
  ∃ h3,zAC E .append [23,23] (some [c,.slice (some ⟨h.next,0,none⟩) 1 1]) (h.new (.row (zW e) 52 0 false))=one (.slice (some ⟨h.next+1,0,none⟩) (S.length+1) (UNK+3),h3) ∧
   h3.get (h.next+1)=some (.row (etc (S++[e])) 52 3 false)/\h3.next=h.next+2/\Fx (fun x=>zo c x) h h3:=by
 have hrow:=zI h (.row (zW e) 52 0 false)
 have hst:etc (S++[e])=etc S++zW e:=by simp [etc]
 rcases hc with ⟨rfl,rfl⟩|⟨bl,rfl,hg,hlt⟩
 ·refine ⟨_,append_nil elt23 hrow rfl,?_,rfl,((Fx.refl hok).new _).new _⟩
  rw [hst]
  exact zI (h.new _) _
 ·have hg':(h.new (.row (zW e) 52 0 false)).get bl=some (.row (etc S) 52 3 false):=by rw [zK (by omega)];exact hg
  refine ⟨_,zDA elt23 (by omega) hg' (etc_len S) hS hrow rfl (by simp [zW,zn]),?_,rfl,?_⟩
  ·rw [hst]
   exact zI ((h.new _).upd bl none) _
  ·have f1:Fx (fun x=>zo (.slice (some ⟨bl,0,none⟩) S.length (UNK+3)) x) h (h.new (.row (zW e) 52 0 false)):=(Fx.refl hok).new _
   exact (f1.upd (.inl ⟨_,_,rfl⟩) none).new _
def outGo:List (List Ed)->List Ed->List (List Ed)
 | EE,[]=>EE
 | EE,e::l=>outGo (EE.set e.1.toNat ((EE[e.1.toNat]?.getD [])++[e])) l
def outOf (L:GL):List (List Ed):=outGo (List.replicate L.n.toNat []) L.eds
theorem call24 {k:AH} {x:Value} {L:GL} (hok:k.ok) (hx:RL k x L) (hL:zq L=false) {N:Nat} (hN:L.n=(N:Int)) :
  Ev true ((zX E).call 24 [x] k) fun y=>∃ bs cells,y.1=.slice (some ⟨bs,0,none⟩) N N/\LoL k.next y.2 bs cells (outOf L)/\cells.length=N/\(∀ S∈outOf L,S.length<=100000)/\Fx NoB k y.2:=by
 obtain ⟨z1,z2,z3,z4⟩:=zC9 hL
 obtain ⟨vl,ve,els,rfl,x2,x3,x4⟩:=hx.ex
 obtain ⟨sb,sd,hve⟩:=x4.slice
 rw [List.length_map] at hve
 refine F24_some (Rp:=fun v m=>∃ bs cells,v=.slice (some ⟨bs,0,none⟩) N N/\LoL k.next m bs cells (outOf L)/\cells.length=N/\(∀ S∈outOf L,S.length<=100000)/\Fx NoB k m) (P24_0_of ?_)
 obtain ⟨k1,e1,n1,t1,o1,f1⟩:=nwF k (.row [.int .i64 L.n,vl,ve] 25 0 false)
 simp only [zd,zL,zS,zA,e1,zZ]
 have l0:=zD (P:=E) zAQ (o:=0) t1
 simp only [lnth] at l0
 refine P24_1_of ?_
 obtain ⟨k2,e2,n2,t2,o2,f2⟩:=nw o1 (.row (List.replicate N (.slice none 0 0)) 23 0 false)
 simp only [zBT,Nat.add_zero,l0,zA,hN,mk49 (show N<=1000000 by omega),e2,zL]
 refine P24_2_of ?_
 have hrep:∀ (i:Nat) (c:Value),(List.replicate N (Value.slice none 0 0))[i]?=some c->c=.slice none 0 0:=fun i c h=>by
  rw [List.getElem?_replicate] at h
  split at h
  ·exact (Option.some.inj h).symm
  ·cases h
 have hnb:∀ c,¬ zo (.slice none 0 0) c:=by rintro c ⟨n,cap,h⟩;cases h
 have G0:LoL k.next k2 k1.next (List.replicate N (.slice none 0 0)) (List.replicate N []):=
  ⟨t2,by simp,by omega,by omega,fun i c S hc hS=>.inl ⟨hrep i c hc,by rw [List.getElem?_replicate] at hS;split at hS <;> simp_all⟩,fun i c b hc hb=>absurd (by rw [hrep i c hc] at hb;exact hb) (hnb b),fun i j c d b hc hd hb _=>absurd (by rw [hrep i c hc] at hb;exact hb) (hnb b)⟩
 have loop:∀ (m j:Nat),j+m=L.eds.length->∀ kk cells EE,Own k kk->kk.get k.next=some (.row [.int .i64 L.n,vl,ve] 25 0 false)->k.next<k1.next->LoL k.next kk k1.next cells EE->(∀ (i:Nat) (c:Value) (b:Nat),cells[i]?=some c->zo c b->b≠k.next)->cells.length=N->(∀ S∈EE,S.length<=j)->outGo EE (L.eds.drop j)=outOf L->
   P24_3 true (KR E [.tmp 2] fun v m=>(zj v=false\/m.wm<k.next)/\(fun v m=>∃ bs cells,v=.slice (some ⟨bs,0,none⟩) N N/\LoL k.next m bs cells (outOf L)/\cells.length=N/\(∀ S∈outOf L,S.length<=100000)/\Fx NoB k m) v ⟨m.t,m.next,cond (Nat.ble k.wm m.wm) k.wm m.wm⟩) (.pointer (some ⟨k.next,0,none⟩)) (.slice (some ⟨k1.next,0,none⟩) N N) (.int .i64 (j:Int)) kk:=by
  intro m
  induction m with
  | zero=>
   intro j hj kk cells EE ho tb hb1 hG hnk hNc hlen hout
   have l2:=zD (P:=E) ta_23 (o:=2) tb
   simp only [lnth] at l2
   rw [hve] at l2
   refine P24_3_of ?_
   simp only [zBA,Nat.zero_add,l2,zA,len24_3_3,zb,show decide ((j:Int)<(L.eds.length:Int))=false from decide_eq_false (by omega),zAA]
   refine P24_7_of ?_
   simp only [zA,zAD,zT,true_and]
   have hO:EE=outOf L:=by rw [← hout,List.drop_eq_nil_of_le (show L.eds.length<=j by omega)];rfl
   subst hO
   refine ⟨.inl rfl,k1.next,cells,rfl,hG.same _,hNc,fun S hS=>by have:=hlen S hS;omega,?_⟩
   refine ⟨?_,ho.ext.next,fun c hc _=>ho.ext.get c hc,fun m h1 _ h3=>?_⟩
   ·show cond (Nat.ble k.wm kk.wm) k.wm kk.wm<=kk.next+UNK
    have:=ho.ext.ok
    unfold AH.ok at this
    cases hcc:Nat.ble k.wm kk.wm with
    | true=>rw [ble_true] at hcc;simp only [cond_true];omega
    | false=>exact this
   ·show m<=cond (Nat.ble k.wm kk.wm) k.wm kk.wm
    have:=ho.wm
    cases hcc:Nat.ble k.wm kk.wm with
    | true=>exact h1
    | false=>simp only [cond_false];omega
  | succ m ih=>
   intro j hj kk cells EE ho tb hb1 hG hnk hNc hlen hout
   have hjn:j<L.eds.length:=by omega
   have l2:=zD (P:=E) ta_23 (o:=2) tb
   simp only [lnth] at l2
   refine P24_3_of ?_
   have l2':=l2
   rw [hve] at l2'
   simp only [zBA,Nat.zero_add,l2',zA,len24_3_3,zb,show decide ((j:Int)<(L.eds.length:Int))=true from decide_eq_true (by omega),z7]
   refine P24_4_of ?_
   have hate:L.eds[j]?=some L.eds[j]:=List.getElem?_eq_getElem hjn
   obtain ⟨⟨f1',f2'⟩,_,_⟩:=bad_edges hL hate
   rw [drop_at hate] at hout
   generalize hee:L.eds[j]=e at hout f1' f2'
   have hx':(L.eds.map zW)[j]?=some (zW e):=by rw [List.getElem?_map,hate,hee];rfl
   obtain ⟨p1,q1,w1⟩:=idx23 x4 ho.ext hx'
   obtain ⟨k3,e3,n3,t3,o3,f3⟩:=nwUp ho (.row [.int .i64 0,.int .i64 0,.int .i64 0] 52 0 false) (.row (zW e) 52 0 false)
   simp only [zBA,Nat.zero_add,l2,zA,q1,w1,z_52,zd,zL,zS,box52,e3]
   refine P24_5_of ?_
   have fb:Fx NoB kk k3:=⟨o3.ext.ok,by omega,fun c hc _=>f3 c hc,fun m h1 _ h3=>by
    rw [← e3]
    exact z5 (show m<=(kk.new _).wm from h1) h3⟩
   have hG1:=hG.fx fb (fun h=>h) (fun _ _ _ _ _ h=>h)
   have hkn:=ho.ext.next
   have hk1k:=hG.lts
   obtain ⟨fr,hfr0⟩:=Int.eq_ofNat_of_zero_le f1'
   have hfr:fr<cells.length:=by omega
   have hfr':fr<EE.length:=by rw [← hG.len];exact hfr
   have hcell:cells[fr]?=some cells[fr]:=List.getElem?_eq_getElem hfr
   have hSS:EE[fr]?=some EE[fr]:=List.getElem?_eq_getElem hfr'
   have c0:=zD (P:=E) zAQ (o:=0) t3
   have ag:=za (P:=E) ta_52 (o:=0) t3 (by simp [zW])
   rw [show ((zW e).drop 0).take 3=zW e from rfl] at ag
   simp only [lnth,zW] at c0
   rw [hfr0] at c0
   have ls:=zD (P:=E) ta_23 (o:=0+fr*1) hG1.s
   rw [zAl,show 0+fr*1=fr by omega,hcell] at ls
   have ia1:=ia_49 (b:=k1.next) (o:=0) (c:=N) (len:=N) (k:=fr) (by omega)
   rw [show 0+fr*1=fr by omega] at ia1
   have hC:=hG1.cell fr _ _ hcell hSS
   obtain ⟨clf,cc1,cveq⟩:=hC.leaf
   have hSl:=hlen _ (List.getElem_mem hfr')
   obtain ⟨h3,r1,r2,r3,r4⟩:=append_ed o3.ext.ok hC (by omega) e
   have f2x:Fx NoB k3 (k3.new (.row (zW e) 52 0 false)):=(Fx.refl o3.ext.ok).new _
   have hG2:=hG1.fx f2x (fun h=>h) (fun _ _ _ _ _ h=>h)
   have tb2:(k3.new (.row (zW e) 52 0 false)).get kk.next=_:=(zK (by omega)).trans t3
   have d0:zG E 3 (k3.new (.row (zW e) 52 0 false)) (some (.pointer (some ⟨kk.next,0,none⟩)))=some (.int .i64 (fr:Int)):=by
    rw [zD (P:=E) zAQ (o:=0) tb2]
    simp only [lnth,zW,hfr0]
   have ls2:=zD (P:=E) ta_23 (o:=0+fr*1) hG2.s
   rw [zAl,show 0+fr*1=fr by omega,hcell] at ls2
   have hcl:∀ x,zo cells[fr] x->x≠k1.next/\k.next<=x:=fun x hx=>hG1.blk fr _ x hcell hx
   have tb3:h3.get kk.next=some (.row (zW e) 52 0 false):=(r4.get kk.next (by omega) (fun hx=>by have:=(hG.cell fr _ _ hcell hSS).lt hx;omega)).trans t3
   have e0:=zD (P:=E) zAQ (o:=0) tb3
   simp only [lnth,zW] at e0
   rw [hfr0] at e0
   have hs3:h3.get k1.next=_:=(r4.get k1.next hG1.lts (fun hx=>(hcl _ hx).1 rfl)).trans hG1.s
   have hsto:=zw (P:=E) ts_23 (o:=fr) hs3 (cells_slice (some ⟨k3.next+1,0,none⟩) (EE[fr].length+1) (UNK+3)) rfl (by omega) rfl
   rw [lput_set _ _ _ hfr] at hsto
   have bs:zi E 23 1 (some [(0,.agg ⟨zW e⟩)]) k3=one (.slice (some ⟨k3.next,0,none⟩) 1 1,k3.new (.row (zW e) 52 0 false)):=bs23
   simp only [zA,zDL,Nat.add_zero,c0,ia1,ls,ag,bs,zL,ls2,d0,cveq,zCA,true_and,r1,e0,hsto]
   refine P24_6_of ?_
   simp only [zA,zAM _ (add1 hjn (by omega))]
   have f5:Fx (fun c=>c=k1.next\/zo cells[fr] c) k3 (h3.upd k1.next (some (.row (cells.set fr (.slice (some ⟨k3.next+1,0,none⟩) (EE[fr].length+1) (UNK+3))) 23 0 false))):=
    (r4.mono (P':=fun c=>c=k1.next\/zo cells[fr] c) (fun c hc=>.inl (.inr hc))).upd (.inl (.inl rfl)) _
   have o5:=f5.own o3 (fun c hc=>hc.elim (fun h=>by rw [h];exact hG.locs) fun h=>(hcl c h).2)
   have hset:∀ (i:Nat) (c:Value),(cells.set fr (.slice (some ⟨k3.next+1,0,none⟩) (EE[fr].length+1) (UNK+3)))[i]?=some c->(i=fr/\c=.slice (some ⟨k3.next+1,0,none⟩) (EE[fr].length+1) (UNK+3))\/(i≠fr/\cells[i]?=some c):=by
    intro i c hc
    by_cases hi:i=fr
    ·subst hi
     rw [List.getElem?_set_self hfr] at hc
     exact .inl ⟨rfl,(Option.some.inj hc).symm⟩
    ·rw [List.getElem?_set_ne (fun h=>hi h.symm)] at hc
     exact .inr ⟨hi,hc⟩
   have hnew:∀ b,zo (.slice (some ⟨k3.next+1,0,none⟩) (EE[fr].length+1) (UNK+3)) b->b=k3.next+1:=by
    rintro b ⟨n,cap,h⟩
    simp only [Value.slice.injEq,Option.some.injEq,Addr.mk.injEq] at h
    exact h.1.1.symm
   have hltb:∀ (i:Nat) (c:Value) (b:Nat),cells[i]?=some c->zo c b->b<k3.next:=fun i c b hc hb=>by
    have hi:i<EE.length:=by rw [← hG.len];exact (List.getElem?_eq_some_iff.1 hc).1
    exact (hG1.cell i c _ hc (List.getElem?_eq_getElem hi)).lt hb
   refine ih (j+1) (by omega) _ (cells.set fr (.slice (some ⟨k3.next+1,0,none⟩) (EE[fr].length+1) (UNK+3))) (EE.set fr (EE[fr]++[e])) o5 ?_ hb1 ?_ ?_ (by simp [hNc]) ?_ ?_
   ·rw [zU (by omega)]
    refine (r4.get k.next (by omega) (fun hx=>hnk fr _ _ hcell hx rfl)).trans ((f3 k.next (by omega)).trans tb)
   ·refine ⟨zQ _ _ _,by simp [hG.len],?_,hG.locs,?_,?_,?_⟩
    ·show k1.next<h3.next;have:=hG1.lts;omega
    ·intro i c S hc hS
     rcases hset i c hc with ⟨rfl,rfl⟩|⟨hi,hc'⟩
     ·rw [List.getElem?_set_self hfr'] at hS
      cases hS
      refine .inr ⟨k3.next+1,by simp,?_,by show _<h3.next;omega⟩
      rw [zU (by have:=hG1.lts;omega)];exact r2
     ·rw [List.getElem?_set_ne (fun h=>hi h.symm)] at hS
      refine (hG1.cell i c S hc' hS).fx f5 (fun b hb=>?_)
      rintro (rfl|hb2)
      ·exact (hG1.blk i c _ hc' hb).1 rfl
      ·exact hi (hG1.dis i fr _ _ b hc' hcell hb hb2)
    ·intro i c b hc hb
     rcases hset i c hc with ⟨rfl,rfl⟩|⟨hi,hc'⟩
     ·rw [hnew b hb];have:=hG1.lts;exact ⟨by omega,by omega⟩
     ·exact hG1.blk i c b hc' hb
    ·intro i j' c d b hc hd hb hb2
     rcases hset i c hc with ⟨hi,hc'⟩|⟨hi,hc'⟩ <;> rcases hset j' d hd with ⟨hj',hd'⟩|⟨hj',hd'⟩
     ·rw [hi,hj']
     ·subst hc'
      have:=hltb j' d b hd' hb2
      rw [hnew b hb] at this;omega
     ·subst hd'
      have:=hltb i c b hc' hb
      rw [hnew b hb2] at this;omega
     ·exact hG1.dis i j' c d b hc' hd' hb hb2
   ·intro i c b hc hb
    rcases hset i c hc with ⟨rfl,rfl⟩|⟨hi,hc'⟩
    ·rw [hnew b hb];omega
    ·exact hnk i c b hc' hb
   ·intro S hS
    rcases List.mem_or_eq_of_mem_set hS with h|h
    ·have:=hlen S h;omega
    ·rw [h];simp;exact hSl
   ·rw [← hout]
    simp only [outGo,hfr0]
    rw [show ((fr:Int)).toNat=fr from rfl,hSS]
    rfl
 refine loop L.eds.length 0 (by omega) k2 _ _ o2 ((f2 k.next (by omega)).trans t1) (by omega) G0 (fun i c b hc hb=>absurd (by rw [hrep i c hc] at hb;exact hb) (hnb b)) (by simp) (fun S hS=>by rw [List.eq_of_mem_replicate hS];simp) ?_
 rw [List.drop_zero]
 show _=outGo (List.replicate L.n.toNat []) L.eds
 rw [hN];rfl
abbrev i1 (n:Int):List Value:=[.int .i64 n]
theorem idx47 {h k:AH} {v:Value} {l:List Int} (ha:Arr h 1 v (l.map i1)) (e:Ext h k) {i:Nat} {n:Int} (hi:l[i]?=some n) :
  ∃ p,zH E 47 (some v) (some (.int .i64 (i:Int)))=some p/\zG E 3 k (some p)=some (.int .i64 n):=by
 have hx:(l.map i1)[i]?=some (i1 n):=by rw [List.getElem?_map,hi];rfl
 obtain ⟨b,o,c,vs,ty,es,ro,rfl,hb,hlt,hle,hz,hl⟩:=ha.load hx
 have hil:i<(l.map i1).length:=(List.getElem?_eq_some_iff.1 hx).1
 refine ⟨_,ia_47 hil,?_⟩
 rw [zD (P:=E) zAQ ((e.get b hlt).trans hb),zAl]
 have:((vs.drop (o+i*1)).take 1)[0]?=some (.int .i64 n):=by rw [hz];rfl
 rw [List.getElem?_take_of_lt (by omega),List.getElem?_drop] at this
 simpa using this
theorem LS.arr {lo:Nat} {k:AH} {v:Value} {L:List Int} (h:LS lo k v L):Arr k 1 v (L.map i1):=by
 obtain ⟨b,c,rfl,h1,h2,h3⟩:=h
 have key:∀ es,k.get b=some (.row (ints L) 3 es false)->Arr k 1 (.slice (some ⟨b,0,none⟩) L.length c) (L.map i1):=by
  intro es hb
  have:=Arr.row (z:=1) (c:=c) (o:=0) (els:=L.map i1) hb h2 (by simp [ints]) (fun i e he=>by
   rw [List.getElem?_map] at he
   obtain ⟨n,hn,rfl⟩:=Option.map_eq_some_iff.1 he
   refine ⟨rfl,?_⟩
   have hil:i<L.length:=(List.getElem?_eq_some_iff.1 hn).1
   rw [show 0+i*1=i by omega,List.drop_eq_getElem_cons (by simpa [ints] using hil)]
   simp [ints,(List.getElem?_eq_some_iff.1 hn).2])
  rw [List.length_map] at this
  exact this
 rcases h3 with ⟨_,_,hb⟩|⟨_,hb⟩
 ·exact key _ hb
 ·exact key _ hb
theorem idx_in {α:Type} [DecidableEq α] (l:List α) (x:α):decide (0<=zl (fun i=>decide (l[i]?=some x)) l.length 0)=decide (x∈l):=by
 by_cases h:x∈l
 ·rw [decide_eq_true h,decide_eq_true]
  rcases Int.lt_or_le (zl (fun i=>decide (l[i]?=some x)) l.length 0) 0 with h'|h'
  ·have:=(zA9 l.length 0).2 h'
   obtain ⟨i,hi⟩:=List.getElem?_of_mem h
   have h2:=this i (Nat.zero_le _) (by have:=(List.getElem?_eq_some_iff.1 hi).1;omega)
   simp [hi] at h2
  ·exact h'
 ·rw [decide_eq_false h,decide_eq_false]
  have:zl (fun i=>decide (l[i]?=some x)) l.length 0<0:=(zA9 l.length 0).1 fun j _ _=>by
   refine decide_eq_false fun hj=>h (List.mem_of_getElem? hj)
  omega
theorem call87 {h0 k:AH} {v:Value} {l:List Int} {x:Int} (ha:Arr h0 1 v (l.map i1)) (hn:l.length<=9223372036854775807) (hk:Ext h0 k) :
  (zX E).call 87 [v,.int .i64 x] k=some [(.int .i64 (zl (fun i=>decide (l[i]?=some x)) l.length 0),k)]:=by
 obtain ⟨ad,c,hv⟩:=ha.slice
 rw [List.length_map] at hv
 refine F87_flat (s:=true) hk.ok rfl (P87_0_of ?_)
 refine P87_1_of ?_
 have loop:∀ (m i:Nat),i+m=l.length->P87_2 true (KR E [.tmp 2] (fun y l'=>y=.int .i64 (zl (fun i=>decide (l[i]?=some x)) m i)/\k.next<=l'.wm)) v (.int .i64 x) (.int .i64 (l.length:Int)) (.int .i64 (i:Int)) k.fresh:=by
  intro m
  induction m with
  | zero=>
   intro i hi
   refine P87_2_of ?_
   simp only [zb,zA,zAK]
   refine ⟨fun h=>by omega,fun _=>P87_7_of ?_⟩
   simp [zA,zAD,zT,zl]
  | succ m ih=>
   intro i hi
   have hin:i<l.length:=by omega
   refine P87_2_of ?_
   simp only [zb,zA,zAK]
   refine ⟨fun _=>P87_3_of ?_,fun h=>by omega⟩
   refine P87_4_of ?_
   obtain ⟨p,q1,q2⟩:=idx47 ha hk.fresh (List.getElem?_eq_getElem hin)
   simp only [zA,q1,q2,zAV,zAK]
   refine ⟨fun h=>P87_5_of ?_,fun h=>P87_6_of ?_⟩
   ·simp only [zA,zAD,zT,true_and,zl,List.getElem?_eq_getElem hin,← h,decide_true,if_true]
    rw [zAN];omega
   ·simp only [zA,zAM _ (add1 hin hn)]
    have:=ih (i+1) (by omega)
    have hne:decide (l[i]?=some x)=false:=decide_eq_false (by rw [List.getElem?_eq_getElem hin];intro e;exact h (Option.some.inj e).symm)
    simp only [zl,hne,Bool.false_eq_true,if_false]
    exact this
 rw [hv]
 simp only [zA,len87_1_1]
 rw [← hv]
 exact loop l.length 0 (by omega)
theorem call27 {h0 k:AH} {v:Value} {l:List Int} {x:Int} (ha:Arr h0 1 v (l.map i1)) (hn:l.length<=9223372036854775807) (hk:Ext h0 k) :
  (zX E).call 27 [v,.int .i64 x] k=some [(.bool (decide (x∈l)),k)]:=by
 refine F27_flat (s:=true) hk.ok rfl (P27_0_of ?_)
 refine P27_1_of ?_
 simp only [zA,zR,call87 ha hn hk.fresh,zO,zAx,idx_in,zAD,zT,true_and]
 rw [zAN];omega
theorem ev_eqp (a b c d:Int):eqInts E 54 [.int .i64 a,.int .i64 b] [.int .i64 c,.int .i64 d]=zAm [.int .i64 a,.int .i64 b] [.int .i64 c,.int .i64 d]:=by kernel_rfl
theorem bf_eqp (p q:Int×Int):zF E .eql 54 (.agg ⟨zE p⟩) (.agg ⟨zE q⟩)=some (.bool (decide (p=q))):=by
 obtain ⟨a,b⟩:=p
 obtain ⟨c,d⟩:=q
 have h:eqInts E 54 (zE (a,b)) (zE (c,d))=some (decide ((a,b)=(c,d))):=by
  simp only [zE,ev_eqp,zAm]
  by_cases h1:a=c <;> by_cases h2:b=d <;> simp [h1,h2,zCt,show keq IntKind.i64 IntKind.i64=true from rfl]
 unfold zF
 simp only [h]
theorem idx26 {h k:AH} {v:Value} {els:List (List Value)} (ha:Arr h 2 v els) (e:Ext h k) {i:Nat} {x:List Value} (hi:els[i]?=some x) :
  ∃ p,zH E 26 (some v) (some (.int .i64 (i:Int)))=some p/\zG E 54 k (some p)=some (.agg ⟨x⟩):=idx_agg und_26 ts_54 ta_54 ha e hi
theorem call86 {h0 k:AH} {v:Value} {l:List (Int×Int)} {x:Int×Int} (ha:Arr h0 2 v (l.map zE)) (hn:l.length<=9223372036854775807) (hk:Ext h0 k) :
  (zX E).call 86 [v,.agg ⟨zE x⟩] k=some [(.int .i64 (zl (fun i=>decide (l[i]?=some x)) l.length 0),k)]:=by
 obtain ⟨ad,c,hv⟩:=ha.slice
 rw [List.length_map] at hv
 refine F86_flat (s:=true) hk.ok rfl (P86_0_of ?_)
 obtain ⟨k1,e1,n1,t1,o1,f1⟩:=nwF k (.row (zE x) 54 0 false)
 simp only [zd,zL,zS,zA,e1,zZ]
 have ag:=za (P:=E) ta_54 (o:=0) t1 (by simp [zE])
 rw [show ((zE x).drop 0).take 2=zE x from rfl] at ag
 have ex:=hk.trans o1.ext
 refine P86_1_of ?_
 have loop:∀ (m i:Nat),i+m=l.length->P86_2 true (KR E [.tmp 2] (fun y l'=>y=.int .i64 (zl (fun i=>decide (l[i]?=some x)) m i)/\k.next<=l'.wm)) v (.pointer (some ⟨k.next,0,none⟩)) (.int .i64 (l.length:Int)) (.int .i64 (i:Int)) k1:=by
  intro m
  induction m with
  | zero=>
   intro i hi
   refine P86_2_of ?_
   simp only [zb,zA,zAK]
   refine ⟨fun h=>by omega,fun _=>P86_7_of ?_⟩
   simp only [zA,zAD,zT,zl,true_and];exact o1.wm
  | succ m ih=>
   intro i hi
   have hin:i<l.length:=by omega
   refine P86_2_of ?_
   simp only [zb,zA,zAK]
   refine ⟨fun _=>P86_3_of ?_,fun h=>by omega⟩
   refine P86_4_of ?_
   have hx':(l.map zE)[i]?=some (zE l[i]):=by rw [List.getElem?_map,List.getElem?_eq_getElem hin];rfl
   obtain ⟨p,q1,q2⟩:=idx26 ha ex hx'
   simp only [zA,ag,q1,q2,bf_eqp,zAK]
   refine ⟨fun h=>P86_5_of ?_,fun h=>P86_6_of ?_⟩
   ·simp only [zA,zAD,zT,true_and,zl,List.getElem?_eq_getElem hin,← h,decide_true,if_true]
    exact o1.wm
   ·simp only [zA,zAM _ (add1 hin hn)]
    have:=ih (i+1) (by omega)
    have hne:decide (l[i]?=some x)=false:=decide_eq_false (by rw [List.getElem?_eq_getElem hin];intro e;exact h (Option.some.inj e).symm)
    simp only [zl,hne,Bool.false_eq_true,if_false]
    exact this
 rw [hv]
 simp only [zA,len86_1_1]
 rw [← hv]
 exact loop l.length 0 (by omega)
theorem call26 {h0 k:AH} {v:Value} {l:List (Int×Int)} {x:Int×Int} (ha:Arr h0 2 v (l.map zE)) (hn:l.length<=9223372036854775807) (hk:Ext h0 k) :
  (zX E).call 26 [v,.agg ⟨zE x⟩] k=some [(.bool (decide (x∈l)),k)]:=by
 refine F26_flat (s:=true) hk.ok rfl (P26_0_of ?_)
 obtain ⟨k1,e1,n1,t1,o1,f1⟩:=nwF k (.row (zE x) 54 0 false)
 simp only [zd,zL,zS,zA,e1,zZ]
 have ag:=za (P:=E) ta_54 (o:=0) t1 (by simp [zE])
 rw [show ((zE x).drop 0).take 2=zE x from rfl] at ag
 refine P26_1_of ?_
 simp only [ag,zA,zR,call86 ha hn (hk.trans o1.ext),zO,zAx,idx_in,zAD,zT,true_and]
 exact ⟨congrArg Value.bool (decide_eq_decide.2 Iff.rfl),o1.wm⟩
end Go.Proofs
namespace Go.Proofs
open Go Go.AM Go.Sort
set_option maxRecDepth 100000
set_option maxHeartbeats 1000000
theorem idxFrom_spec (p:Nat->Bool):∀ (n i:Nat),(zl p n i=-1/\∀ j,i<=j->j<i+n->p j=false)\/∃ j,(i<=j/\j<i+n)/\zl p n i=(j:Int)/\p j=true/\∀ q,i<=q->q<j->p q=false
 | 0,i=>.inl ⟨rfl,fun j h1 h2=>by omega⟩
 | n+1,i=>by
  cases h:p i with
  | true=>exact .inr ⟨i,⟨Nat.le_refl _,by omega⟩,by simp [zl,h],h,fun q h1 h2=>by omega⟩
  | false=>
   rcases idxFrom_spec p n (i+1) with ⟨h1,h2⟩|⟨j,h1,h2,h3,h4⟩
   ·refine .inl ⟨by simp [zl,h,h1],fun j a b=>?_⟩
    by_cases e:j=i
    ·rw [e];exact h
    ·exact h2 j (by omega) (by omega)
   ·refine .inr ⟨j,by omega,by simp [zl,h,h2],h3,fun q a b=>?_⟩
    by_cases e:q=i
    ·rw [e];exact h
    ·exact h4 q (by omega) b
theorem SR.ldo {b ty es:Nat} {k0 k:AH} {d0 d:Dt} (R:SR b ty es k0 d0 k d) {i o:Nat} (hi:i<d.size) (ho:o=i*2):zG E 54 k (some (.pointer (some ⟨b,o,none⟩)))=some (.agg ⟨zE d[i]!⟩):=by
 have:=R.ld hi
 rw [Nat.zero_add] at this
 rw [ho];exact this
theorem row_splitP (d:Dt) (i:Nat):zC3 d=(d.toList.take i).flatMap zE++(d.toList.drop i).flatMap zE:=by
 unfold zC3
 rw [← List.flatMap_append,List.take_append_drop]
theorem take_setA {α:Type} (l:List α) (i:Nat) (v:α) (hi:i<l.length):(l.set i v).take (i+1)=l.take i++[v]:=by
 rw [List.take_add_one,List.take_set,List.set_eq_of_length_le (by simp;omega),List.getElem?_set_self hi]
 rfl
theorem get_list {d:Dt} {j:Nat} (h:j<d.size):d.toList[j]?=some d[j]!:=by
 rw [getElem!_pos d j h];simp [h]
theorem take_get {d:Dt} {j:Nat} (h:j<d.size):d.toList.take (j+1)=d.toList.take j++[d[j]!]:=by
 rw [List.take_add_one,get_list h];rfl
theorem op37a:(zr B37 [1,1,1,1,0] 2).op=.slice 26 (.tmp 36) (some (.tmp 37)) none none:=by kernel_rfl
theorem op37b:(zr B37 [1,1,1,1,1,0] 2).op=.slice 26 (.tmp 39) none (some (.tmp 40)) none:=by kernel_rfl
theorem cut37a {b n i:Nat} (hi:i<n):z6 E (zm [(36,sl b n (UNK+2)),(37,.int .i64 (i:Int))]) (zr B37 [1,1,1,1,0] 2)=some (.slice (some ⟨b,i*2,none⟩) (n-i) (UNK+2)):=cutLo op37a (by kernel_rfl) (by kernel_rfl) hi
theorem cut37b {b n i:Nat} (hi:i<=n):z6 E (zm [(39,sl b n (UNK+2)),(40,.int .i64 (i:Int))]) (zr B37 [1,1,1,1,1,0] 2)=some (.slice (some ⟨b,0,none⟩) i (UNK+2)):=cutHi op37b (by kernel_rfl) (by kernel_rfl) hi
theorem rep_ids:∀ n,(rep n [Value.int .i64 0,.int .i64 0]).flatMap (zCJ 4)=[]
 | 0=>rfl
 | n+1=>by simp only [rep,List.flatMap_append,rep_ids n];rfl
structure Cut (b ty es:Nat) (k:AH) (v:Value) (m:AH) (l:List (Int×Int)):Prop where
 v:v=sl b l.length (UNK+2)
 row:∃ rest,m.get b=some (.row (l.flatMap zE++rest) ty es false)/\rest.flatMap (zCJ 4)=[]
 fx:Fx (fun c=>c=b) k m
section
variable {b ty es:Nat} {k h0:AH} {d:Dt} {cf:Value} {f:Int×Int->Bool}
end
theorem bf_neqp (p q:Int×Int):zF E .neq 54 (.agg ⟨zE p⟩) (.agg ⟨zE q⟩)=some (.bool (!decide (p=q))):=by
 obtain ⟨a,b⟩:=p
 obtain ⟨c,d⟩:=q
 have h:eqInts E 54 (zE (a,b)) (zE (c,d))=some (decide ((a,b)=(c,d))):=by
  simp only [zE,ev_eqp,zAm]
  by_cases h1:a=c <;> by_cases h2:b=d <;> simp [h1,h2,zCt,show keq IntKind.i64 IntKind.i64=true from rfl]
 unfold zF
 simp only [h]
def dd (d:Dt):Nat->List (Int×Int)
 | 0=>[]
 | j+1=>if 0<j/\d[j]! = d[j-1]! then dd d j else dd d j++[d[j]!]
theorem op36a:(zr B36 [1,1,0,1,0,0,1,0,0,1,0,0] 2).op=.slice 26 (.tmp 26) (some (.tmp 27)) none none:=by kernel_rfl
theorem op36b:(zr B36 [1,1,0,1,0,0,1,0,0,1,0,1,1,0] 2).op=.slice 26 (.tmp 54) (some (.tmp 55)) none none:=by kernel_rfl
theorem op36c:(zr B36 [1,1,0,1,0,0,1,0,0,1,0,1,1,1,0] 2).op=.slice 26 (.tmp 57) none (some (.tmp 58)) none:=by kernel_rfl
theorem cut36a {b n i:Nat} (hi:i<n):z6 E (zm [(26,sl b n (UNK+2)),(27,.int .i64 (i:Int))]) (zr B36 [1,1,0,1,0,0,1,0,0,1,0,0] 2)=some (.slice (some ⟨b,i*2,none⟩) (n-i) (UNK+2)):=cutLo op36a (by kernel_rfl) (by kernel_rfl) hi
theorem cut36b {b n i:Nat} (hi:i<n):z6 E (zm [(54,sl b n (UNK+2)),(55,.int .i64 (i:Int))]) (zr B36 [1,1,0,1,0,0,1,0,0,1,0,1,1,0] 2)=some (.slice (some ⟨b,i*2,none⟩) (n-i) (UNK+2)):=cutLo op36b (by kernel_rfl) (by kernel_rfl) hi
theorem cut36c {b n i:Nat} (hi:i<=n):z6 E (zm [(57,sl b n (UNK+2)),(58,.int .i64 (i:Int))]) (zr B36 [1,1,0,1,0,0,1,0,0,1,0,1,1,1,0] 2)=some (.slice (some ⟨b,0,none⟩) i (UNK+2)):=cutHi op36c (by kernel_rfl) (by kernel_rfl) hi
section
variable {b ty es:Nat} {k:AH} {d:Dt}
theorem call36 (hg:k.get b=some (.row (zC3 d) ty es false)) (hbl:b<k.next) {n:Nat} (hs:d.size=n) (hn:d.size<=1000000) :
  Ev true ((zX E).call 36 [sl b n (UNK+2)] k) fun x=>Cut b ty es k x.1 x.2 (dd d d.size):=by
 subst hs
 have whole:dd d d.size=d.toList->∀ h,SR b ty es k.fresh d h d->KR E [.tmp 2] (fun x l=>(zj x=false\/l.wm<k.next)/\Cut b ty es k x ⟨l.t,l.next,cond (Nat.ble k.wm l.wm) k.wm l.wm⟩ (dd d d.size)) .ret [sl b d.size (UNK+2)] h:=by
  intro e h R
  rw [zAD]
  refine ⟨zT ▸ trivial,.inl rfl,by rw [e];simp [sl],⟨[],?_,rfl⟩,R.fx.back⟩
  rw [List.append_nil,e]
  exact get_wm R.g
 refine F36_some (Rp:=fun v m=>Cut b ty es k v m (dd d d.size)) (P36_0_of ?_)
 try simp only [zA]
 refine P36_1_of ?_
 simp only [zA,len36_1_1,zb,zAK]
 have R0:SR b ty es k.fresh d k.fresh d:=SR.fresh hg hbl
 have dd1:∀ j,(∀ q,1<=q->q<j->d[q]!≠d[q-1]!)->j<=d.size->dd d j=d.toList.take j:=by
  intro j
  induction j with
  | zero=>intro _ _;simp [dd]
  | succ j ih=>
   intro H hj
   simp only [dd]
   rw [if_neg (fun h=>H j (by omega) (by omega) h.2),ih (fun q a b=>H q a (by omega)) (by omega),take_get (by omega)]
 refine ⟨fun h2=>P36_2_of ?_,fun h2=>P36_3_of ?_⟩
 ·try simp only [zA]
  refine whole ?_ _ R0
  rw [dd1 _ (fun q a b=>by omega) (Nat.le_refl _)]
  exact List.take_of_length_le (by simp)
 try simp only [zA]
 have inner:∀ (k0:Nat),1<=k0->k0<d.size->∀ (m t w:Nat) (d':Dt) (h:AH),t+m=d.size->k0<t->w<t->SR b ty es k.fresh d h d'->d'.toList.take w=dd d t->(∀ x,t-1<=x->x<d.size->d'[x]! = d[x]!)->
   P36_8 true (KR E [.tmp 2] (fun x l=>(zj x=false\/l.wm<k.next)/\Cut b ty es k x ⟨l.t,l.next,cond (Nat.ble k.wm l.wm) k.wm l.wm⟩ (dd d d.size))) (sl b d.size (UNK+2)) (.int .i64 (w:Int)) (.slice (some ⟨b,k0*2,none⟩) (d.size-k0) (UNK+2)) (.int .i64 ((t-k0:Nat):Int)) h:=by
  intro k0 hk0 hk1 m
  induction m with
  | zero=>
   intro t w d' h hm hkt hwt R ht hx
   have hsz:=R.sz
   refine P36_8_of ?_
   simp only [zA,len36_8_2,zb,show decide (((t-k0:Nat):Int)<((d.size-k0:Nat):Int))=false from decide_eq_false (by omega),zAA]
   refine P36_13_of ?_
   have hcl:=clear26 (i:=w) (m:=d.size-w) (cp:=UNK+2) (x:=(d'.toList.take w).flatMap zE) (y:=(d'.toList.drop w).flatMap zE) (by rw [← row_splitP];exact R.g) (by rw [zCI];simp;omega) (by rw [zCI];simp;omega) (by omega)
   simp only [zA,cut36b (show w<d.size by omega),hcl,zL]
   refine P36_14_of ?_
   simp only [zA,cut36c (show w<=d.size by omega)]
   have e:t=d.size:=by omega
   subst e
   have hlen:(dd d d.size).length=w:=by rw [← ht];simp;omega
   rw [zAD]
   have f1:=R.fx.upd (b:=b) (.inl rfl) (some (.row ((d'.toList.take w).flatMap zE++rep (d.size-w) [.int .i64 0,.int .i64 0]) ty es false))
   have g1:=zQ h b (some (.row ((d'.toList.take w).flatMap zE++rep (d.size-w) [.int .i64 0,.int .i64 0]) ty es false))
   rw [ht] at f1 g1
   rw [ht]
   generalize h.upd b (some (.row ((dd d d.size).flatMap zE++rep (d.size-w) [.int .i64 0,.int .i64 0]) ty es false))=hh at f1 g1
   exact ⟨zT ▸ trivial,.inl rfl,by rw [hlen],⟨_,get_wm g1,rep_ids _⟩,f1.back⟩
  | succ m ih=>
   intro t w d' h hm hkt hwt R ht hx
   have hsz:=R.sz
   refine P36_8_of ?_
   simp only [zA,len36_8_2,zb,show decide (((t-k0:Nat):Int)<((d.size-k0:Nat):Int))=true from decide_eq_true (by omega),z7]
   refine P36_9_of ?_
   have l1:=R.ldo (i:=t) (o:=k0*2+(t-k0)*2) (by omega) (by omega)
   have l2:=R.ldo (i:=t-1) (o:=k0*2+(t-k0-1)*2) (by omega) (by omega)
   simp only [zA,ia_26 (show t-k0<d.size-k0 by omega),l1,subM1 (show 1<=t-k0 by omega) (show t-k0<=9223372036854775807 by omega),ia_26 (show t-k0-1<d.size-k0 by omega),l2,bf_neqp,hx t (by omega) (by omega),hx (t-1) (by omega) (by omega)]
   have hdd:dd d (t+1)=if d[t]! = d[t-1]! then dd d t else dd d t++[d[t]!]:=by
    simp only [dd]
    by_cases e:d[t]! = d[t-1]!
    ·rw [if_pos ⟨by omega,e⟩,if_pos e]
    ·rw [if_neg (fun h=>e h.2),if_neg e]
   have hnext:t-k0+1=t+1-k0:=by omega
   by_cases e:d[t]! = d[t-1]!
   ·simp only [e,decide_true,Bool.not_true,zAA]
    refine P36_12_of ?_
    simp only [zA,addN1 (show t-k0+1<=9223372036854775807 by omega),hnext]
    exact ih (t+1) w d' h (by omega) (by omega) (by omega) R (by rw [hdd,if_pos e];exact ht) fun x a b=>hx x (by omega) b
   ·simp only [e,decide_false,Bool.not_false,z7]
    refine P36_10_of ?_
    obtain ⟨h3,q1,R3⟩:=R.st (i:=w) (by omega) d[t]!
    simp only [zA,ia_26 (show t-k0<d.size-k0 by omega),l1,hx t (by omega) (by omega),ia_26 (show w<d.size by omega),q1,zL]
    refine P36_11_of ?_
    simp only [zA,addN1 (show w+1<=9223372036854775807 by omega)]
    refine P36_12_of ?_
    simp only [zA,addN1 (show t-k0+1<=9223372036854775807 by omega),hnext]
    refine ih (t+1) (w+1) _ h3 (by omega) (by omega) (by omega) R3 ?_ fun x a b=>?_
    ·rw [Array.toList_setIfInBounds,take_setA _ _ _ (by simp;omega),ht,hdd,if_neg e]
    ·rw [← hx x (by omega) b,getElem!_pos _ x (by simp;omega),getElem!_pos d' x (by omega),Array.getElem_setIfInBounds_ne (by omega) (by omega)]
 have outer:∀ (m q:Nat),q+m=d.size->1<=q->(∀ x,1<=x->x<q->d[x]!≠d[x-1]!)->
   P36_4 true (KR E [.tmp 2] (fun x l=>(zj x=false\/l.wm<k.next)/\Cut b ty es k x ⟨l.t,l.next,cond (Nat.ble k.wm l.wm) k.wm l.wm⟩ (dd d d.size))) (sl b d.size (UNK+2)) (.int .i64 (q:Int)) k.fresh:=by
  intro m
  induction m with
  | zero=>
   intro q hm hq H
   refine P36_4_of ?_
   simp only [zA,len36_4_2,zb,show decide ((q:Int)<(d.size:Int))=false from decide_eq_false (by omega),zAA]
   refine P36_16_of ?_
   try simp only [zA]
   refine whole ?_ _ R0
   rw [dd1 _ (fun x a b=>H x a (by omega)) (Nat.le_refl _)]
   exact List.take_of_length_le (by simp)
  | succ m ih=>
   intro q hm hq H
   refine P36_4_of ?_
   simp only [zA,len36_4_2,zb,show decide ((q:Int)<(d.size:Int))=true from decide_eq_true (by omega),z7]
   refine P36_5_of ?_
   simp only [zA,ia_26 (show q<d.size by omega),R0.ld (i:=q) (by omega),subM1 hq (show q<=9223372036854775807 by omega),ia_26 (show q-1<d.size by omega),R0.ld (i:=q-1) (by omega),bf_eqp]
   by_cases e:d[q]! = d[q-1]!
   ·simp only [e,decide_true,z7]
    refine P36_6_of ?_
    simp only [zA,cut36a (show q<d.size by omega)]
    refine P36_7_of ?_
    try simp only [zA]
    have:=inner q hq (by omega) m (q+1) q d k.fresh (by omega) (by omega) (by omega) R0 (by
     simp only [dd]
     rw [if_pos ⟨by omega,e⟩,dd1 q H (by omega)]) fun x _ _=>rfl
    rw [show q+1-q=1 by omega] at this
    exact this
   ·simp only [e,decide_false,zAA]
    refine P36_15_of ?_
    simp only [zA,addN1 (show q+1<=9223372036854775807 by omega)]
    refine ih (q+1) (by omega) (by omega) fun x a b=>?_
    by_cases hxq:x=q
    ·rw [hxq];exact e
    ·exact H x a (by omega)
 exact outer (d.size-1) 1 (by omega) (Nat.le_refl _) fun x a b=>by omega
end
end Go.Proofs
namespace Go.Proofs
open Go Go.AM
set_option maxRecDepth 100000
set_option maxHeartbeats 1000000
def TestE (h0:AH) (cf:Value) (S:List Ed) (f:Ed->Bool):Prop:=∀ k' y,y∈S->Ext h0 k'->zV (zX E) (some cf) (some [.agg ⟨zW y⟩]) k'=some [(.bool (f y),k')]
def eAt (S:List Ed) (f:Ed->Bool) (i:Nat):Bool:=match S[i]? with
 | some y=>f y
 | none=>false
theorem call96 {h0 k:AH} {v cf:Value} {S:List Ed} {f:Ed->Bool} (ha:Arr h0 3 v (S.map zW)) (hn:S.length<=9223372036854775807) (hk:Ext h0 k) (hf:TestE h0 cf S f) :
  (zX E).call 96 [v,cf] k=some [(.int .i64 (zl (eAt S f) S.length 0),k)]:=by
 obtain ⟨ad,c,hv⟩:=ha.slice
 rw [List.length_map] at hv
 refine F96_flat (s:=true) hk.ok rfl (P96_0_of (P96_1_of ?_))
 have loop:∀ (m i:Nat),i+m=S.length->PI (C96 true) (KR E [.tmp 4] fun y l'=>y=.int .i64 (zl (eAt S f) m i)/\k.next<=l'.wm) 2 [v,cf,.int .i64 (S.length:Int),.int .i64 (i:Int)] k.fresh:=by
  intro m
  induction m with
  | zero=>
   intro i hi
   refine P96_2_of ?_
   simp only [zb,zA,zAK]
   refine ⟨fun h=>by omega,fun _=>P96_7_of ?_⟩
   simp [zAD,zT,zl]
  | succ m ih=>
   intro i hi
   have hin:i<S.length:=by omega
   refine P96_2_of ?_
   simp only [zb,zA,zAK]
   refine ⟨fun _=>P96_3_of (P96_4_of ?_),fun h=>by omega⟩
   have hx:(S.map zW)[i]?=some (zW S[i]):=by rw [List.getElem?_map,List.getElem?_eq_getElem hin];rfl
   obtain ⟨p,q1,q2⟩:=idx23 ha hk.fresh hx
   simp only [zA,q1,q2,hf _ _ (List.getElem_mem hin) hk.fresh,zO]
   cases hb:f S[i] with
   | true=>
    rw [z7]
    refine P96_5_of ?_
    simp only [zAD,zT,true_and,zl,eAt,List.getElem?_eq_getElem hin,hb,if_true]
    rw [zAN];omega
   | false=>
    rw [zAA]
    refine P96_6_of ?_
    simp only [zA,zAM _ (add1 hin hn)]
    have:=ih (i+1) (by omega)
    simp only [zl,eAt,List.getElem?_eq_getElem hin,hb,Bool.false_eq_true,if_false]
    exact this
 rw [hv]
 simp only [zA,len96_1_1]
 rw [← hv]
 exact loop S.length 0 (by omega)
theorem any_idx {S:List Ed} {f:Ed->Bool}:decide (0<=zl (eAt S f) S.length 0)=S.any f:=by
 have hneg:=zA9 (p:=eAt S f) S.length 0
 cases hb:S.any f with
 | true=>
  obtain ⟨y,hy,hfy⟩:=List.any_eq_true.1 hb
  obtain ⟨j,hj⟩:=List.getElem?_of_mem hy
  have hjl:=(List.getElem?_eq_some_iff.1 hj).1
  refine decide_eq_true ?_
  rcases Int.lt_or_le (zl (eAt S f) S.length 0) 0 with h|h
  ·have:=hneg.2 h j (Nat.zero_le _) (by omega)
   simp only [eAt,hj,hfy] at this
   cases this
  ·exact h
 | false=>
  refine decide_eq_false ?_
  have:zl (eAt S f) S.length 0<0:=hneg.1 fun j _ _=>by
   unfold eAt
   cases hj:S[j]? with
   | none=>rfl
   | some y=>exact (Bool.eq_false_iff.2 fun h=>by rw [List.any_eq_true.2 ⟨y,List.mem_of_getElem? hj,h⟩] at hb;cases hb)
  omega
theorem call41 {h0 k:AH} {v cf:Value} {S:List Ed} {f:Ed->Bool} (ha:Arr h0 3 v (S.map zW)) (hn:S.length<=9223372036854775807) (hk:Ext h0 k) (hf:TestE h0 cf S f) :
  (zX E).call 41 [v,cf] k=some [(.bool (S.any f),k)]:=by
 refine F41_flat (s:=true) hk.ok rfl (P41_0_of (P41_1_of ?_))
 simp only [zA,zR,call96 ha hn hk.fresh hf,zO,zAx,any_idx,zAD,zT,true_and]
 rw [zAN];omega
def TestI (h0:AH) (cf:Value) (g:Int->Int->Bool):Prop:=∀ k' s t,Ext h0 k'->zV (zX E) (some cf) (some [.int .i64 s,.int .i64 t]) k'=some [(.bool (g s t),k')]
theorem pbI {a b:Int}:zAg E 54 (some [(0,.int .i64 a),(1,.int .i64 b)])=some (.agg ⟨zE (a,b)⟩):=by kernel_rfl
theorem call44 {h0 k:AH} {b:Nat} {vn:Value} {now:List (Int×Int)} {s t:Int} (hb:h0.get b=some (.row [vn] 26 0 false)) (hbl:b<h0.next) (ha:Arr h0 2 vn (now.map zE)) (hn:now.length<=9223372036854775807) (hk:Ext h0 k) :
  (zX E).call 44 [.int .i64 s,.int .i64 t,ptr b] k=some [(.bool (decide ((s,t)∈now)),k)]:=by
 refine F44_flat (s:=true) hk.ok rfl (P44_0_of (P44_1_of ?_))
 have l0:zG E 26 k.fresh (some (.pointer (some ⟨b,0,none⟩)))=some vn:=zD (P:=E) ta_26 (o:=0) ((hk.fresh.get b hbl).trans hb)
 simp only [l0,pbI,zA,zR,call26 ha hn hk.fresh,zO,zAD,zT,true_and]
 rw [zAN];omega
theorem call45 {h0 k:AH} {b:Nat} {vn:Value} {now:List (Int×Int)} {s t:Int} (hb:h0.get b=some (.row [vn] 26 0 false)) (hbl:b<h0.next) (ha:Arr h0 2 vn (now.map zE)) (hn:now.length<=9223372036854775807) (hk:Ext h0 k) :
  (zX E).call 45 [.int .i64 s,.int .i64 t,ptr b] k=some [(.bool (decide ((t,s)∈now)),k)]:=by
 refine F45_flat (s:=true) hk.ok rfl (P45_0_of (P45_1_of ?_))
 have l0:zG E 26 k.fresh (some (.pointer (some ⟨b,0,none⟩)))=some vn:=zD (P:=E) ta_26 (o:=0) ((hk.fresh.get b hbl).trans hb)
 simp only [l0,pbI,zA,zR,call26 ha hn hk.fresh,zO,zAD,zT,true_and]
 rw [zAN];omega
theorem wCall_1 {f a:Nat} {args:List Value} {h:AH}:zV (zX E) (some (.func (.func f) #[] #[ptr a])) (some args) h=(zX E).call f (args++[ptr a]) h:=by
 rw [zCl];rfl
theorem test44 {h0:AH} {b:Nat} {vn:Value} {now:List (Int×Int)} (hb:h0.get b=some (.row [vn] 26 0 false)) (hbl:b<h0.next) (ha:Arr h0 2 vn (now.map zE)) (hn:now.length<=9223372036854775807):TestI h0 (.func (.func 44) #[] #[ptr b]) fun s t=>decide ((s,t)∈now):=
 fun k' s t hk=>by rw [wCall_1];exact call44 hb hbl ha hn hk
theorem test45 {h0:AH} {b:Nat} {vn:Value} {now:List (Int×Int)} (hb:h0.get b=some (.row [vn] 26 0 false)) (hbl:b<h0.next) (ha:Arr h0 2 vn (now.map zE)) (hn:now.length<=9223372036854775807):TestI h0 (.func (.func 45) #[] #[ptr b]) fun s t=>decide ((t,s)∈now):=
 fun k' s t hk=>by rw [wCall_1];exact call45 hb hbl ha hn hk
structure Box (h:AH) (a:Nat) (L:GL):Prop where
 ex:∃ vl ve els,h.get a=some (.row [.int .i64 L.n,vl,ve] 25 0 false)/\a<h.next/\Arr h 2 vl els/\RLab h els L.labs/\Arr h 3 ve (L.eds.map zW)
theorem Box.ext {h k:AH} {a:Nat} {L:GL} (b:Box h a L) (e:Ext h k):Box k a L:=by
 obtain ⟨vl,ve,els,h1,h2,h3,h4,h5⟩:=b.ex
 exact ⟨vl,ve,els,(e.get a h2).trans h1,Nat.lt_of_lt_of_le h2 e.next,h3.ext e,h4.ext e,h5.ext e⟩
def sameE (A B:GL) (x y:Ed):Bool:=match A.labs[x.2.1.toNat]?,B.labs[y.2.1.toNat]? with
 | some c,some d=>decide (zBK c.1 c.2 d.1 d.2=0)
 | _,_=>false
theorem Box.lab {h k:AH} {a:Nat} {L:GL} (b:Box h a L) (e:Ext h k) {x:Int} (h0:0<=x) (h1:x<L.labs.length) :
  ∃ w p g v l,zG E 22 k (some (.pointer (some ⟨a,0+1,none⟩)))=some w/\zH E 22 (some w) (some (.int .i64 x))=some p/\zG E 36 k (some p)=some (.agg ⟨[.int .i64 g,v]⟩)/\RT h v l/\L.labs[x.toNat]?=some (g,l):=by
 obtain ⟨vl,ve,els,q1,q2,q3,q4,_⟩:=b.ex
 obtain ⟨i,rfl⟩:=Int.eq_ofNat_of_zero_le h0
 have hlen:=RLab.length q4
 obtain ⟨y,hy⟩:∃ y,els[i]?=some y:=⟨_,List.getElem?_eq_getElem (by omega)⟩
 obtain ⟨p,w1,w2⟩:=idx22 q3 e hy
 obtain ⟨g,v,l,rfl,r1,r2⟩:=RLab.at q4 i y hy
 exact ⟨vl,p,g,v,l,zD (P:=E) ta_22 (o:=0+1) ((e.get a q2).trans q1),w1,w2,r1,r2⟩
theorem call42 {h0 k:AH} {a b xb ib:Nat} {A B:GL} {x y:Ed} {vf:Value} {g:Int->Int->Bool} (hA:Box h0 a A) (hB:Box h0 b B) (hx:h0.get xb=some (.row (zW x) 52 0 false)) (hxl:xb<h0.next)
  (hi:h0.get ib=some (.row [vf] 71 0 false)) (hil:ib<h0.next) (hf:TestI h0 vf g) (x0:0<=x.2.1) (x1:x.2.1<A.labs.length) (y0:0<=y.2.1) (y1:y.2.1<B.labs.length) (hk:Ext h0 k) :
  (zX E).call 42 [.agg ⟨zW y⟩,ptr a,ptr xb,ptr b,ptr ib] k=some [(.bool (sameE A B x y&&g x.2.2 y.2.2),k)]:=by
 refine F42_flat (s:=true) hk.ok rfl (P42_0_of ?_)
 obtain ⟨k1,e1,n1,t1,o1,f1⟩:=nwF k (.row (zW y) 52 0 false)
 simp only [zd,zL,zS,e1,zZ]
 have ex:=hk.trans o1.ext
 refine P42_1_of ?_
 obtain ⟨w,p,gA,vA,lA,q1,q2,q3,q4,q5⟩:=hA.lab ex x0 x1
 obtain ⟨w',p',gB,vB,lB,r1,r2,r3,r4,r5⟩:=hB.lab ex y0 y1
 have xg:=(ex.get xb hxl).trans hx
 have l1:zG E 3 k1 (some (.pointer (some ⟨xb,0+1,none⟩)))=some (.int .i64 x.2.1):=zD (P:=E) zAQ (o:=0+1) xg
 have l2:zG E 3 k1 (some (.pointer (some ⟨xb,0+2,none⟩)))=some (.int .i64 x.2.2):=zD (P:=E) zAQ (o:=0+2) xg
 have m1:zG E 3 k1 (some (.pointer (some ⟨k.next,0+1,none⟩)))=some (.int .i64 y.2.1):=zD (P:=E) zAQ (o:=0+1) t1
 have m2:zG E 3 k1 (some (.pointer (some ⟨k.next,0+2,none⟩)))=some (.int .i64 y.2.2):=zD (P:=E) zAQ (o:=0+2) t1
 have li:zG E 71 k1 (some (.pointer (some ⟨ib,0,none⟩)))=some vf:=zD (P:=E) ta_71 (o:=0) ((ex.get ib hil).trans hi)
 simp only [zBB,zDK,zCZ,q1,q2,q3,r1,r2,r3,l1,m1,zA,zR,call28e (g:=gA) (g':=gB) q4 r4 ex,zO]
 have hs:sameE A B x y=decide (zBK gA lA gB lB=0):=by simp only [sameE,q5,r5]
 rw [hs]
 cases hd:decide (zBK gA lA gB lB=0) with
 | false=>simp only [zN,zY,show (false==true)=false from rfl,cond_false,zA,zL,zJ,zAD,zT,true_and,Bool.false_and];exact o1.wm
 | true=>simp only [zN,zY,beq_self_eq_true,cond_true,li,l2,m2,zA,hf _ _ _ ex,zO,zJ,zAD,zT,true_and,Bool.true_and];exact o1.wm
theorem wCall_4 {f a b c d:Nat} {args:List Value} {h:AH}:zV (zX E) (some (.func (.func f) #[] #[ptr a,ptr b,ptr c,ptr d])) (some args) h=(zX E).call f (args++[ptr a,ptr b,ptr c,ptr d]) h:=by
 rw [zCl];rfl
theorem wCall_6 {f a b c d e g:Nat} {args:List Value} {h:AH}:zV (zX E) (some (.func (.func f) #[] #[ptr a,ptr b,ptr c,ptr d,ptr e,ptr g])) (some args) h=(zX E).call f (args++[ptr a,ptr b,ptr c,ptr d,ptr e,ptr g]) h:=by
 rw [zCl];rfl
theorem mk_n {f:Nat} {l:List Value}:zAR (.func f) (some []) (some l)=some (.func (.func f) #[] ⟨l⟩):=rfl
def ansB (A B:GL) (g:Int->Int->Bool) (S:List Ed) (x:Ed):Bool:=S.any fun y=>sameE A B x y&&g x.2.2 y.2.2
def inLabs (L:GL) (x:Ed):Prop:=0<=x.2.1/\x.2.1<(L.labs.length:Int)
theorem call40 {h0 k:AH} {A B:GL} {vA vB wS vf:Value} {x:Ed} {S:List Ed} {g:Int->Int->Bool} (hA:RL h0 vA A) (hB:RL h0 vB B) (hS:Arr h0 3 wS (S.map zW)) (hn:S.length<=9223372036854775807) (hf:TestI h0 vf g) (hl:zn vf=true)
  (hx:inLabs A x) (hy:∀ y∈S,inLabs B y) (hk:Ext h0 k) :
  (zX E).call 40 [vA,vB,.agg ⟨zW x⟩,wS,vf] k=some [(.bool (ansB A B g S x),k)]:=by
 obtain ⟨al,ae,elsA,rfl,a1,a2,a3⟩:=hA.ex
 obtain ⟨bl,be,elsB,rfl,b1,b2,b3⟩:=hB.ex
 have hcv:zf vf=[vf]:=by cases vf <;> first|rfl|cases hl
 refine F40_flat (s:=true) hk.ok rfl (P40_0_of ?_)
 obtain ⟨k1,e1,n1,t1,o1,f1⟩:=nwF k (.row [.int .i64 A.n,al,ae] 25 0 false)
 obtain ⟨k2,e2,n2,t2,o2,f2⟩:=nw o1 (.row [.int .i64 B.n,bl,be] 25 0 false)
 obtain ⟨k3,e3,n3,t3,o3,f3⟩:=nw o2 (.row (zW x) 52 0 false)
 obtain ⟨k4,e4,n4,t4,o4,f4⟩:=nw o3 (.row [vf] 71 0 false)
 simp only [zd,zL,zS,hcv,e1,e2,e3,e4,zZ,n1,n2,n3]
 have ex:=hk.trans o4.ext
 rw [n1] at t2
 rw [n2,n1] at t3
 rw [n3,n2,n1] at t4
 have g1:k4.get k.next=some (.row [.int .i64 A.n,al,ae] 25 0 false):=by rw [f4 _ (by omega),f3 _ (by omega),f2 _ (by omega)];exact t1
 have g2:k4.get (k.next+1)=some (.row [.int .i64 B.n,bl,be] 25 0 false):=by rw [f4 _ (by omega),f3 _ (by omega)];exact t2
 have g3:k4.get (k.next+1+1)=some (.row (zW x) 52 0 false):=by rw [f4 _ (by omega)];exact t3
 have BA:Box k4 k.next A:=⟨al,ae,elsA,g1,by omega,a1.ext ex,RLab.ext ex a2,a3.ext ex⟩
 have BB:Box k4 (k.next+1) B:=⟨bl,be,elsB,g2,by omega,b1.ext ex,RLab.ext ex b2,b3.ext ex⟩
 refine P40_1_of ?_
 have ht:TestE k4 (.func (.func 42) #[] #[ptr k.next,ptr (k.next+1+1),ptr (k.next+1),ptr (k.next+1+1+1)]) S fun y=>sameE A B x y&&g x.2.2 y.2.2:=fun k' y hyS hk'=>by
  rw [wCall_4]
  exact call42 BA BB g3 (by omega) t4 (by omega) (fun k'' s t h''=>hf k'' s t (ex.trans h'')) hx.1 hx.2 (hy y hyS).1 (hy y hyS).2 hk'
 have hc:=call41 (hS.ext ex) hn (Ext.refl ex.ok) ht
 simp only [mk_n,zA,zR]
 rw [hc,zO,zAD]
 exact ⟨zT ▸ trivial,rfl,o4.wm⟩
end Go.Proofs
namespace Go.Proofs
open Go Go.AM
set_option maxRecDepth 100000
set_option maxHeartbeats 2000000
def IS (lo:Nat) (h:AH) (v:Value) (l:List Int):Prop:=(v=.slice none 0 0/\l=[])\/LS lo h v l
theorem IS.arr {lo:Nat} {h:AH} {v:Value} {l:List Int} (x:IS lo h v l):Arr h 1 v (l.map i1):=by
 rcases x with ⟨rfl,rfl⟩|x
 ·exact .nil _ _
 ·exact x.arr
theorem LS.blk {lo:Nat} {h:AH} {v:Value} {l:List Int} (x:LS lo h v l) {b:Nat} (hb:zo v b):lo<=b/\b<h.next:=by
 obtain ⟨c,cp,rfl,h1,h2,_⟩:=x
 obtain ⟨n,cap,e⟩:=hb
 simp only [Value.slice.injEq,Option.some.injEq,Addr.mk.injEq] at e
 rw [← e.1.1];exact ⟨h1,h2⟩
theorem IS.blk {lo:Nat} {h:AH} {v:Value} {l:List Int} (x:IS lo h v l) {b:Nat} (hb:zo v b):lo<=b/\b<h.next:=by
 rcases x with ⟨rfl,_⟩|x
 ·obtain ⟨n,cap,e⟩:=hb;cases e
 ·exact x.blk hb
theorem IS.mono {lo:Nat} {k k':AH} {v:Value} {L:List Int} (h:IS lo k v L) (hn:k.next<=k'.next) (hg:∀ b,b<k.next->zo v b->k'.get b=k.get b):IS lo k' v L:=by
 rcases h with h|h
 ·exact .inl h
 ·exact .inr (h.mono hn fun b _ h2 h3=>hg b h2 h3)
theorem IS.slice {lo:Nat} {h:AH} {v:Value} {l:List Int} (x:IS lo h v l):∃ a c,v=.slice a l.length c:=by
 rcases x with ⟨rfl,rfl⟩|⟨b,c,rfl,_⟩
 ·exact ⟨_,_,rfl⟩
 ·exact ⟨_,_,rfl⟩
theorem IS.app {lo:Nat} {h:AH} {v:Value} {l:List Int} (x:IS lo h v l) (hlo:lo<=h.next) (hl:l.length<=999998) (u:Int) :
  ∃ m,zAC E .append [47,47] (some [v,.slice (some ⟨h.next,0,none⟩) 1 1]) (h.new (.row [.int .i64 u] 3 0 false))=one (.slice (some ⟨h.next+1,0,none⟩) (l.length+1) (UNK+1),m) ∧
   LS lo m (.slice (some ⟨h.next+1,0,none⟩) (l.length+1) (UNK+1)) (l++[u])/\m.next=h.next+2/\(h.ok->Fx (fun c=>zo v c) h m):=by
 have hrow:=zI h (.row [.int .i64 u] 3 0 false)
 rcases x with ⟨rfl,rfl⟩|x
 ·refine ⟨_,append_nil elt47 hrow rfl,⟨h.next+1,UNK+1,by simp,by omega,by show h.next+1<h.next+1+1;omega,.inr ⟨rfl,zI (h.new _) _⟩⟩,rfl,fun hok=>((Fx.refl hok).new _).new _⟩
 ·obtain ⟨b0,c0,e0,hb0,hlt0,hc0⟩:=x.ex
  have xb:LS b0 h v l:=⟨b0,c0,e0,Nat.le_refl _,hlt0,hc0⟩
  have x1:LS b0 (h.new (.row [.int .i64 u] 3 0 false)) v l:=xb.mono (by simp) fun b _ hb _=>zK (by omega)
  obtain ⟨v',k1,a1,rfl,a3,a4,a5,a6,a7,a8⟩:=x1.app (by omega) hrow
  have e1:(h.new (.row [.int .i64 u] 3 0 false)).next=h.next+1:=rfl
  rw [e1] at a1 a3 a4 a5
  exact ⟨k1,a1,⟨h.next+1,UNK+1,by simp,by omega,by omega,.inr ⟨rfl,a4⟩⟩,by omega,fun hok=>⟨a6 (zCE hok _),by omega,fun c hc hn=>(a5 c (by omega) hn).trans (zK (by omega)),fun m h1 h2 h3=>a8 m h1 (h2 b0 ⟨_,_,e0⟩)⟩⟩
def addL (prs:List (Int×Int)) (x:Ed) (ln:List Int) (t:Int):List Int:=if (x.2.2,t)∈prs/\t ∉ ln then ln++[t] else ln
def AddR (lo b16:Nat) (vn:Value) (ln':List Int) (h h':AH):Prop:=∃ vn',h'.get b16=some (.row [vn'] 47 0 false)/\IS lo h' vn' ln'/\Fx (fun c=>c=b16\/zo vn c) h h'/\(∀ c,zo vn' c->zo vn c\/h.next<=c)
theorem call25 {h:AH} {b6 b15 b16 lo:Nat} {kind t:Int} {x:Ed} {vp vn:Value} {prs:List (Int×Int)} {ln:List Int} (hok:h.ok) (g6:h.get b6=some (.row [.int .i64 kind,vp] 32 0 false)) (ap:Arr h 2 vp (prs.map zE)) (hp:prs.length<=9223372036854775807)
  (g15:h.get b15=some (.row (zW x) 52 0 false)) (g16:h.get b16=some (.row [vn] 47 0 false)) (hb16:b16<h.next) (hv:IS lo h vn ln) (hlo:lo<=h.next) (hln:ln.length<=900000) (hd:¬ zo vn b16) :
  Ev true ((zX E).call 25 [.int .i64 t,ptr b6,ptr b15,ptr b16] h) fun y=>y.1=.tuple #[]/\AddR lo b16 vn (addL prs x ln t) h y.2:=by
 have hk:=Ext.refl hok
 have f6:h.fresh.get b6=some (.row [.int .i64 kind,vp] 32 0 false):=g6
 have f15:h.fresh.get b15=some (.row (zW x) 52 0 false):=g15
 have f16:h.fresh.get b16=some (.row [vn] 47 0 false):=g16
 have l6:=zD (P:=E) ta_26 (o:=1) f6
 have l15:=zD (P:=E) zAQ (o:=2) f15
 have l16:=zD (P:=E) ta_47 (o:=0) f16
 simp only [lnth,zW] at l6 l15 l16
 have c26:=call26 (x:=(x.2.2,t)) ap hp hk.fresh
 have c27:=call27 (x:=t) hv.arr (by omega) hk.fresh
 have pb:zAg E 54 (some [(0,.int .i64 x.2.2),(1,.int .i64 t)])=some (.agg ⟨zE (x.2.2,t)⟩):=pb54
 by_cases hc:(x.2.2,t)∈prs/\t ∉ ln
 ·
  obtain ⟨h1,h2⟩:=hc
  have heq:addL prs x ln t=ln++[t]:=if_pos ⟨h1,h2⟩
  rw [heq]
  refine F25_some (Rp:=fun v m=>v=.tuple #[]/\AddR lo b16 vn (ln++[t]) h m) (P25_0_of ?_)
  simp only [zCD,zCZ,Nat.zero_add,l6,l15,zA,pb,zR,c26,zO,h1,decide_true,zN,zY,beq_self_eq_true,cond_true,l16,c27,h2,decide_false,zp,Bool.not_false,zJ,z7]
  refine P25_1_of ?_
  obtain ⟨m,a1,a2,a3,a4⟩:=(show IS lo h.fresh vn ln from hv.mono (Nat.le_refl _) fun _ _ _=>rfl).app hlo (by omega) t
  have a4:=a4 (zAa h)
  have m16:m.get b16=some (.row [vn] 47 0 false):=(a4.get b16 hb16 hd).trans f16
  have hst:=zw (P:=E) ts_47 (o:=0) m16 (cells_slice (some ⟨h.fresh.next+1,0,none⟩) (ln.length+1) (UNK+1)) rfl (by simp) rfl
  have hput:lput [vn] 0 [Value.slice (some ⟨h.fresh.next+1,0,none⟩) (ln.length+1) (UNK+1)]=[.slice (some ⟨h.fresh.next+1,0,none⟩) (ln.length+1) (UNK+1)]:=rfl
  rw [hput] at hst
  simp only [l16,zA,bs47,zL,a1,hst,kR_0,zT,ne_normal,true_and]
  have hnm:m.next=h.next+2:=a3
  have hf:Fx (fun c=>c=b16\/zo vn c) h.fresh (m.upd b16 (some (.row [.slice (some ⟨h.fresh.next+1,0,none⟩) (ln.length+1) (UNK+1)] 47 0 false))):=
   (a4.mono (P':=fun c=>c=b16\/zo vn c) fun c hc=>.inl (.inr hc)).upd (.inl (.inl rfl)) _
  have hwm:(m.upd b16 (some (.row [.slice (some ⟨h.fresh.next+1,0,none⟩) (ln.length+1) (UNK+1)] 47 0 false))).wm<=b16:=(zCx m b16 _).2
  have hls:LS lo (m.upd b16 (some (.row [.slice (some ⟨h.fresh.next+1,0,none⟩) (ln.length+1) (UNK+1)] 47 0 false))) (.slice (some ⟨h.fresh.next+1,0,none⟩) (ln.length+1) (UNK+1)) (ln++[t]):=
   a2.mono (Nat.le_refl _) fun b _ hb hbk=>zU (by
    obtain ⟨n,cap,e⟩:=hbk
    simp only [Value.slice.injEq,Option.some.injEq,Addr.mk.injEq] at e
    have:=e.1.1
    simp only [zZ] at this
    omega)
  refine ⟨.inr (by omega),_,zQ _ _ _,?_,?_,?_⟩
  ·exact .inr (hls.mono (Nat.le_refl _) fun _ _ _ _=>rfl)
  ·refine ⟨?_,hf.next,fun c hc hn=>hf.get c hc hn,fun w h1 h2 h3=>?_⟩
   ·show cond (Nat.ble h.wm _) h.wm _<=m.next+UNK
    cases hcc:Nat.ble h.wm (m.upd b16 (some (.row [.slice (some ⟨h.fresh.next+1,0,none⟩) (ln.length+1) (UNK+1)] 47 0 false))).wm with
    | true=>rw [ble_true] at hcc;simp only [cond_true];have:=hwm;omega
    | false=>simp only [cond_false];omega
   ·show w<=cond (Nat.ble h.wm _) h.wm _
    cases hcc:Nat.ble h.wm (m.upd b16 (some (.row [.slice (some ⟨h.fresh.next+1,0,none⟩) (ln.length+1) (UNK+1)] 47 0 false))).wm with
    | true=>exact h1
    | false=>
     simp only [cond_false]
     exact hf.wm w (by rw [zAN];omega) h2 h3
  ·rintro c ⟨n,cap,e⟩
   simp only [Value.slice.injEq,Option.some.injEq,Addr.mk.injEq] at e
   have:=e.1.1
   simp only [zZ] at this
   exact .inr (by omega)
 ·
  have heq:addL prs x ln t=ln:=if_neg hc
  rw [heq]
  have:(zX E).call 25 [.int .i64 t,ptr b6,ptr b15,ptr b16] h=some [(.tuple #[],h)]:=by
   refine F25_flat1 hok rfl (P25_0_of ?_)
   by_cases h1:(x.2.2,t)∈prs
   ·have h2:t∈ln:=by
     by_cases h:t∈ln
     ·exact h
     ·exact absurd ⟨h1,h⟩ hc
    simp only [zCD,zCZ,Nat.zero_add,l6,l15,zA,pb,zR,c26,zO,h1,decide_true,zN,zY,beq_self_eq_true,cond_true,l16,c27,h2,zp,Bool.not_true,zJ,zAA,kR_0,ne_normal,true_and]
    rw [zAN];omega
   ·simp only [zCD,zCZ,Nat.zero_add,l6,l15,zA,pb,zR,c26,zO,h1,decide_false,zN,zY,show (false==true)=false from rfl,cond_false,zL,zJ,zAA,kR_0,ne_normal,true_and]
    rw [zAN];omega
  rw [this,zO]
  exact ⟨rfl,vn,g16,hv,Fx.refl hok,fun c h=>.inl h⟩
end Go.Proofs
namespace Go.Proofs
open Go Go.AM
set_option maxRecDepth 100000
set_option maxHeartbeats 4000000
structure Cxt (g:AH) (lo a4 a5 a6 b15 bs2:Nat) (L M:GL) (kind:Int) (prs:List (Int×Int)) (x:Ed) (cells2:List Value) (vlL veL vlM veM vp:Value) (elsL elsM:List (List Value)):Prop where
 r4:g.get a4=some (.row [.int .i64 L.n,vlL,veL] 25 0 false)
 r5:g.get a5=some (.row [.int .i64 M.n,vlM,veM] 25 0 false)
 r6:g.get a6=some (.row [.int .i64 kind,vp] 32 0 false)
 r15:g.get b15=some (.row (zW x) 52 0 false)
 l4:a4<g.next
 l5:a5<g.next
 l6:a6<g.next
 l15:b15<g.next
 aL:Arr g 2 vlL elsL
 lL:RLab g elsL L.labs
 aM:Arr g 2 vlM elsM
 lM:RLab g elsM M.labs
 ap:Arr g 2 vp (prs.map zE)
 hp:prs.length<=4000
 O2:LoL lo g bs2 cells2 (outOf M)
structure Hs (k g:AH) (h:AH) (v21 vn:Value) (lc ln:List Int):Prop where
 ow:Own k h
 ex:Ext g h
 kg:k.next<=g.next
 r16:h.get g.next=some (.row [vn] 47 0 false)
 lt:g.next<h.next
 ic:LS (g.next+1) h v21 lc
 ins:IS (g.next+1) h vn ln
 dis:∀ c,zo v21 c->¬ zo vn c
theorem Hs.step {k g h m:AH} {v21 vn:Value} {lc ln:List Int} (H:Hs k g h v21 vn lc ln) (ho:Own k m) (hn:h.next<=m.next) (hg:∀ b,b<h.next->m.get b=h.get b):Hs k g m v21 vn lc ln:=
 ⟨ho,⟨ho.ext.ok,Nat.le_trans H.ex.next hn,fun b hb=>(hg b (Nat.lt_of_lt_of_le hb H.ex.next)).trans (H.ex.get b hb)⟩,H.kg,(hg _ H.lt).trans H.r16,Nat.lt_of_lt_of_le H.lt hn,
  H.ic.mono hn fun b _ hb _=>hg b hb,H.ins.mono hn fun b hb _=>hg b hb,H.dis⟩
theorem Hs.add {k g h h':AH} {v21 vn:Value} {lc ln ln':List Int} (H:Hs k g h v21 vn lc ln) (A:AddR (g.next+1) g.next vn ln' h h'):∃ vn',Hs k g h' v21 vn' lc ln':=by
 obtain ⟨vn',a1,a2,a3,a4⟩:=A
 have hlo:∀ c,c=g.next\/zo vn c->g.next<=c:=by
  rintro c (rfl|hc)
  ·exact Nat.le_refl _
  ·have:=(H.ins.blk hc).1;omega
 have hk:=H.kg
 refine ⟨vn',a3.own H.ow fun c hc=>Nat.le_trans H.kg (hlo c hc),⟨a3.ok,Nat.le_trans H.ex.next a3.next,fun b hb=>(a3.get b (Nat.lt_of_lt_of_le hb H.ex.next) fun hc=>by have:=hlo b hc;omega).trans (H.ex.get b hb)⟩,H.kg,a1,Nat.lt_of_lt_of_le H.lt a3.next,?_,a2,?_⟩
 ·refine H.ic.mono a3.next fun b h1 h2 h3=>a3.get b h2 ?_
  rintro (hc|hc)
  ·omega
  ·exact H.dis b h3 hc
 ·intro c h1 h2
  rcases a4 c h2 with h3|h3
  ·exact H.dis c h1 h3
  ·have:=(H.ic.blk h1).2;omega
theorem Hs.calm {k g h:AH} {v21 vn:Value} {lc ln:List Int} (H:Hs k g h v21 vn lc ln) (hl:lc.length<=999998) (u:Int) :
  ∃ m,zAC E .append [47,47] (some [v21,.slice (some ⟨h.next,0,none⟩) 1 1]) (h.new (.row [.int .i64 u] 3 0 false))=one (.slice (some ⟨h.next+1,0,none⟩) (lc.length+1) (UNK+1),m) ∧
   Hs k g m (.slice (some ⟨h.next+1,0,none⟩) (lc.length+1) (UNK+1)) vn (lc++[u]) ln:=by
 have hgl:=H.lt
 have hk:=H.kg
 obtain ⟨m,a1,a2,a3,a4⟩:=IS.app (.inr H.ic) (by omega) hl u
 have a4:=a4 H.ow.ext.ok
 have hlo:∀ c,zo v21 c->g.next+1<=c:=fun c hc=>(H.ic.blk hc).1
 refine ⟨m,a1,a4.own H.ow (fun c hc=>by have:=hlo c hc;omega),⟨a4.ok,Nat.le_trans H.ex.next a4.next,fun b hb=>(a4.get b (Nat.lt_of_lt_of_le hb H.ex.next) fun hc=>by have:=hlo b hc;omega).trans (H.ex.get b hb)⟩,H.kg,
  (a4.get _ H.lt fun hc=>by have:=hlo _ hc;omega).trans H.r16,Nat.lt_of_lt_of_le H.lt a4.next,a2,H.ins.mono a4.next fun b hb hbk=>a4.get b hb fun hc=>H.dis b hc hbk,?_⟩
 rintro c ⟨n,cap,e⟩ h2
 simp only [Value.slice.injEq,Option.some.injEq,Addr.mk.injEq] at e
 have:=(H.ins.blk h2).2
 have:=e.1.1
 omega
def gateAt (M:GL) (y:Ed) (g:Int):Prop:=∃ l,M.labs[y.2.1.toNat]?=some (g,l)
structure DoneE (M:GL) (kind:Int) (prs:List (Int×Int)) (x:Ed) (cx:CL) (lc ln:List Int) (y:Ed):Prop where
 same:M.labs[y.2.1.toNat]?=some cx->(x.2.2,y.2.2)∈prs->ln≠[]
 calm:kind=2->gateAt M y (-1)->y.2.2∈lc
theorem DoneE.mono {M:GL} {kind:Int} {prs:List (Int×Int)} {x:Ed} {cx:CL} {lc ln lc' ln':List Int} {y:Ed} (d:DoneE M kind prs x cx lc ln y) (h1:∀ u∈lc,u∈lc') (h2:ln≠[]->ln'≠[]):DoneE M kind prs x cx lc' ln' y:=
 ⟨fun a b=>h2 (d.same a b),fun a b=>h1 _ (d.calm a b)⟩
structure Pure5 (M:GL) (prs:List (Int×Int)) (x:Ed) (lc ln:List Int):Prop where
 cN:lc.Nodup
 cR:∀ u∈lc,0<=u/\u<M.n
 nN:ln.Nodup
 nR:∀ v∈ln,(x.2.2,v)∈prs
theorem nodup_le {α:Type} [DecidableEq α]:∀ {l m:List α},l.Nodup->(∀ a∈l,a∈m)->l.length<=m.length
 | [],m,_,_=>Nat.zero_le _
 | a::l,m,hn,hs=>by
  rw [List.nodup_cons] at hn
  have h1:a∈m:=hs a (by simp)
  have:=nodup_le (m:=m.erase a) hn.2 fun b hb=>(List.mem_erase_of_ne (fun e=>by subst e;exact hn.1 hb)).2 (hs b (by simp [hb]))
  rw [List.length_erase_of_mem h1] at this
  have:0<m.length:=List.length_pos_of_mem h1
  simp only [List.length_cons];omega
theorem Pure5.lenn {M:GL} {prs:List (Int×Int)} {x:Ed} {lc ln:List Int} (p:Pure5 M prs x lc ln):ln.length<=prs.length:=by
 have:=nodup_le (l:=ln.map fun v=>(x.2.2,v)) (m:=prs) (by
  have hn:=p.nN
  clear p
  induction ln with
  | nil=>simp
  | cons a l ih=>
   rw [List.nodup_cons] at hn
   rw [List.map_cons,List.nodup_cons]
   refine ⟨fun h=>?_,ih hn.2⟩
   obtain ⟨b,hb,e⟩:=List.mem_map.1 h
   cases e
   exact hn.1 hb) fun q hq=>by
  obtain ⟨v,hv,rfl⟩:=List.mem_map.1 hq
  exact p.nR v hv
 simpa using this
theorem Pure5.addL {M:GL} {prs:List (Int×Int)} {x:Ed} {lc ln:List Int} (p:Pure5 M prs x lc ln) (t:Int):Pure5 M prs x lc (addL prs x ln t)/\(ln≠[]->Proofs.addL prs x ln t≠[])/\((x.2.2,t)∈prs->Proofs.addL prs x ln t≠[]):=by
 unfold Proofs.addL
 split
 ·rename_i h
  refine ⟨⟨p.cN,p.cR,?_,?_⟩,fun _=>by simp,fun _=>by simp⟩
  ·rw [List.nodup_append]
   exact ⟨p.nN,by simp,fun a ha b hb e=>by simp at hb;subst hb;subst e;exact h.2 ha⟩
  ·intro v hv
   rcases List.mem_append.1 hv with hv|hv
   ·exact p.nR v hv
   ·simp at hv;subst hv;exact h.1
 ·rename_i h
  refine ⟨p,id,fun h1=>?_⟩
  by_cases h2:t∈ln
  ·intro e;rw [e] at h2;cases h2
  ·exact absurd ⟨h1,h2⟩ h
theorem Pure5.app {M:GL} {prs:List (Int×Int)} {x:Ed} {lc ln:List Int} (p:Pure5 M prs x lc ln) {u:Int} (h:u ∉ lc) (h1:0<=u/\u<M.n):Pure5 M prs x (lc++[u]) ln:=by
 refine ⟨?_,?_,p.nN,p.nR⟩
 ·rw [List.nodup_append]
  exact ⟨p.cN,by simp,fun a ha b hb e=>by simp at hb;subst hb;subst e;exact h ha⟩
 ·intro v hv
  rcases List.mem_append.1 hv with hv|hv
  ·exact p.cR v hv
  ·simp at hv;subst hv;exact h1
structure Grow (lc0 ln0 lc ln:List Int):Prop where
 pre:∃ t,lc=lc0++t
 ne:ln0≠[]->ln≠[]
theorem Grow.refl (lc ln:List Int):Grow lc ln lc ln:=⟨⟨[],by simp⟩,id⟩
theorem Grow.trans {a b c d e f:List Int} (x:Grow a b c d) (y:Grow c d e f):Grow a b e f:=by
 obtain ⟨t,rfl⟩:=x.pre
 obtain ⟨u,rfl⟩:=y.pre
 exact ⟨⟨t++u,by simp⟩,fun h=>y.ne (x.ne h)⟩
theorem Grow.mem {a b c d:List Int} (x:Grow a b c d):∀ u∈a,u∈c:=by
 obtain ⟨t,rfl⟩:=x.pre
 intro u hu;simp [hu]
section
variable {k g:AH} {lo a4 a5 a6 b15 bs2:Nat} {L M:GL} {kind:Int} {prs:List (Int×Int)} {x:Ed} {cells2:List Value} {vlL veL vlM veM vp:Value} {elsL elsM:List (List Value)}
theorem Hs.call {h:AH} {v21 vn:Value} {lc ln:List Int} (C:Cxt g lo a4 a5 a6 b15 bs2 L M kind prs x cells2 vlL veL vlM veM vp elsL elsM) (H:Hs k g h v21 vn lc ln) (P:Pure5 M prs x lc ln) (t:Int) :
  Ev true ((zX E).call 25 [.int .i64 t,ptr a6,ptr b15,ptr g.next] h) fun y=>y.1=.tuple #[]/\∃ vn',Hs k g y.2 v21 vn' lc (addL prs x ln t):=by
 have hp:=C.hp
 have hl:=P.lenn
 have hlt:=H.lt
 refine (call25 (lo:=g.next+1) H.ow.ext.ok ((H.ex.get _ C.l6).trans C.r6) (C.ap.ext H.ex) (by omega) ((H.ex.get _ C.l15).trans C.r15) H.r16 H.lt H.ins (by omega) (by omega) (fun hb=>by have:=(H.ins.blk hb).1;omega)).mono fun y hy=>?_
 exact ⟨hy.1,H.add hy.2⟩
end
structure DoneS (M:GL) (kind:Int) (prs:List (Int×Int)) (x:Ed) (cx:CL) (inner:Bool) (lc ln:List Int) (u:Int):Prop where
 stay:kind=2->inner=true->(x.2.2,u)∈prs->ln≠[]
 eds:∀ S,(outOf M)[u.toNat]?=some S->∀ y∈S,DoneE M kind prs x cx lc ln y
theorem DoneS.mono {M:GL} {kind:Int} {prs:List (Int×Int)} {x:Ed} {cx:CL} {inner:Bool} {lc ln lc' ln':List Int} {u:Int} (d:DoneS M kind prs x cx inner lc ln u) (G:Grow lc ln lc' ln'):DoneS M kind prs x cx inner lc' ln' u:=
 ⟨fun a b c=>G.ne (d.stay a b c),fun S hS y hy=>(d.eds S hS y hy).mono G.mem G.ne⟩
section
variable {k g:AH} {lo a4 a5 a6 b15 bs2:Nat} {L M:GL} {kind:Int} {prs:List (Int×Int)} {x:Ed} {cells2:List Value} {vlL veL vlM veM vp:Value} {elsL elsM:List (List Value)}
end
theorem outGo_get:∀ (l:List Ed) (EE:List (List Ed)) (i:Nat) (S:List Ed),(outGo EE l)[i]?=some S->∃ S0,EE[i]?=some S0/\∀ y,y∈S ↔ y∈S0\/(y∈l/\y.1.toNat=i)
 | [],EE,i,S,h=>⟨S,h,fun y=>by simp⟩
 | e::l,EE,i,S,h=>by
  simp only [outGo] at h
  obtain ⟨S0,h0,hS⟩:=outGo_get l _ i S h
  by_cases hi:e.1.toNat=i
  ·subst hi
   rw [List.getElem?_set] at h0
   simp only [if_true] at h0
   split at h0
   ·rename_i hlt
    cases h0
    refine ⟨EE[e.1.toNat],List.getElem?_eq_getElem hlt,fun y=>?_⟩
    rw [hS y,List.getElem?_eq_getElem hlt]
    simp only [Option.getD_some,List.mem_append,List.mem_cons,List.not_mem_nil,or_false]
    constructor
    ·rintro ((h|rfl)|⟨h1,h2⟩)
     ·exact .inl h
     ·exact .inr ⟨.inl rfl,rfl⟩
     ·exact .inr ⟨.inr h1,h2⟩
    ·rintro (h|⟨rfl|h1,h2⟩)
     ·exact .inl (.inl h)
     ·exact .inl (.inr rfl)
     ·exact .inr ⟨h1,h2⟩
   ·cases h0
  ·rw [List.getElem?_set_ne hi] at h0
   refine ⟨S0,h0,fun y=>?_⟩
   rw [hS y]
   simp only [List.mem_cons]
   constructor
   ·rintro (h|⟨h1,h2⟩)
    ·exact .inl h
    ·exact .inr ⟨.inr h1,h2⟩
   ·rintro (h|⟨rfl|h1,h2⟩)
    ·exact .inl h
    ·exact absurd h2 hi
    ·exact .inr ⟨h1,h2⟩
theorem outOf_mem {L:GL} {i:Nat} {S:List Ed} (h:(outOf L)[i]?=some S) (y:Ed):y∈S ↔ y∈L.eds/\y.1.toNat=i:=by
 obtain ⟨S0,h0,hS⟩:=outGo_get _ _ i S h
 rw [List.getElem?_replicate] at h0
 split at h0
 ·cases h0;rw [hS y];simp
 ·cases h0
theorem outGo_len:∀ (l:List Ed) (EE:List (List Ed)),(outGo EE l).length=EE.length
 | [],EE=>rfl
 | e::l,EE=>by simp only [outGo];rw [outGo_len l];simp
theorem outOf_len (L:GL):(outOf L).length=L.n.toNat:=by unfold outOf;rw [outGo_len];simp
theorem LoL.ext {lo bs:Nat} {g h:AH} {cells:List Value} {EE:List (List Ed)} (G:LoL lo g bs cells EE) (e:Ext g h):LoL lo h bs cells EE:=
 ⟨(e.get _ G.lts).trans G.s,G.len,Nat.lt_of_lt_of_le G.lts e.next,G.locs,fun i c S hc hS=>by
  rcases G.cell i c S hc hS with h1|⟨b,h1,h2,h3⟩
  ·exact .inl h1
  ·exact .inr ⟨b,h1,(e.get b h3).trans h2,Nat.lt_of_lt_of_le h3 e.next⟩,G.blk,G.dis⟩
end Go.Proofs
namespace Go.Proofs
open Go Go.AM
set_option maxRecDepth 100000
set_option maxHeartbeats 8000000
theorem check0 {L M:GL} {B:GB} (h:zAu L M B=0):zq L=false/\zq M=false/\zBD B=0/\relV L M B=true:=by
 unfold zAu at h
 split at h
 ·cases h
 ·rename_i h1
  rw [Bool.or_eq_true,not_or] at h1
  split at h
  ·rename_i h2;exact absurd h h2
  ·rename_i h2
   split at h
   ·rename_i h3;exact ⟨by simpa using h1.1,by simpa using h1.2,by simpa using h2,h3⟩
   ·cases h
theorem arr2 {k:AH} {b:Nat} {e f:List Value} {z:Nat} {ty:TypeId} (he:e.length=z) (hf:f.length=z) (h:k.get b=some (.row (e++f) ty 0 false)) (hl:b<k.next):Arr k z (.slice (some ⟨b,0,none⟩) 2 2) [e,f]:=by
 refine Arr.row (els:=[e,f]) h hl (by simp [he,hf];omega) fun i x hx=>?_
 match i with
 | 0=>simp at hx;subst hx;exact ⟨he,by simp [← he]⟩
 | 1=>simp at hx;subst hx;exact ⟨hf,by rw [show 0+1*z=e.length by omega,List.drop_left];rw [← hf];simp⟩
 | i+2=>simp at hx
end Go.Proofs
namespace Go.Proofs
open Go Go.AM
set_option maxHeartbeats 1000000
def lexc:List Int->List Int->Int
 | [],[]=>0
 | [],_::_=>-1
 | _::_,[]=>1
 | a::aas,b::bs=>if c3 a b=0 then lexc aas bs else c3 a b
mutual
def encT:GT->List Int
 | .mk k n l=>k::n::(l.length:Int)::encL l
def encL:List GT->List Int
 | []=>[]
 | t::ts=>encT t++encL ts
end
theorem c3_zero {a b:Int}:c3 a b=0 ↔ a=b:=by
 unfold c3
 split
 ·constructor
  ·intro h;cases h
  ·intro h;omega
 ·split
  ·constructor
   ·intro h;cases h
   ·intro h;omega
  ·constructor
   ·intro;omega
   ·intro;rfl
theorem c3_neg {a b:Int}:c3 a b<0 ↔ a<b:=by
 unfold c3
 split
 ·constructor <;> intro <;> omega
 ·split <;> constructor <;> intro h <;> first|omega|(exfalso;revert h;decide)
mutual
theorem cmpT_lex:∀ (t u:GT) (r r':List Int),lexc (encT t++r) (encT u++r')=if cmpT t u=0 then lexc r r' else cmpT t u
 | .mk k n l,.mk k' n' l',r,r'=>by
  simp only [encT,List.cons_append,lexc,cmpT,orI]
  by_cases h1:c3 k k'=0
  ·by_cases h2:c3 n n'=0
   ·by_cases h3:c3 (l.length:Int) (l'.length:Int)=0
    ·have hlen:l.length=l'.length:=by have:=c3_zero.1 h3;omega
     simp only [h1,h2,h3,ne_eq,not_true_eq_false,if_true,if_false]
     exact cmpL_lex l l' hlen r r'
    ·simp only [h1,h2,h3,ne_eq,not_true_eq_false,not_false_eq_true,if_true,if_false]
   ·simp only [h1,h2,ne_eq,not_true_eq_false,not_false_eq_true,if_true,if_false]
  ·simp only [h1,ne_eq,not_true_eq_false,not_false_eq_true,if_true,if_false]
theorem cmpL_lex:∀ (l l':List GT),l.length=l'.length->∀ (r r':List Int),lexc (encL l++r) (encL l'++r')=if cmpL l l'=0 then lexc r r' else cmpL l l'
 | [],[],_,r,r'=>by simp [encL,cmpL]
 | t::ts,u::us,h,r,r'=>by
  simp only [encL,List.append_assoc,cmpL]
  rw [cmpT_lex t u,cmpL_lex ts us (by simpa using h) r r']
  by_cases h1:cmpT t u=0 <;> simp [h1]
 | [],_::_,h,_,_=>by simp at h
 | _::_,[],h,_,_=>by simp at h
end
theorem cmpL_lex0:∀ (l l':List GT),lexc (encL l) (encL l')=cmpL l l'
 | [],[]=>rfl
 | [],.mk k n l::us=>by simp [encL,encT,lexc,cmpL]
 | .mk k n l::ts,[]=>by simp [encL,encT,lexc,cmpL]
 | t::ts,u::us=>by
  simp only [encL,cmpL]
  rw [cmpT_lex t u,cmpL_lex0 ts us]
  by_cases h1:cmpT t u=0 <;> simp [h1]
def kc (c:CL):List Int:=c.1::encL c.2
theorem cmpLab_lex (c d:CL):zBK c.1 c.2 d.1 d.2=lexc (kc c) (kc d):=by
 simp only [zBK,orI,kc,lexc,cmpL_lex0]
 by_cases h:c3 c.1 d.1=0
 ·simp only [h,ne_eq,not_true_eq_false,if_false,if_true]
  by_cases h2:cmpL c.2 d.2=0
  ·rw [h2];simp
  ·simp [h2]
 ·simp [h]
theorem lex_self:∀ a:List Int,lexc a a=0
 | []=>rfl
 | a::aas=>by simp [lexc,c3_zero.2 rfl,lex_self aas]
theorem lex_flip:∀ a b:List Int,(lexc a b<0 ↔ 0<lexc b a)
 | [],[]=>by simp [lexc]
 | [],_::_=>by simp [lexc]
 | _::_,[]=>by simp [lexc]
 | a::aas,b::bs=>by
  simp only [lexc]
  rcases Int.lt_trichotomy a b with h|h|h
  ·have h1:c3 a b=-1:=by unfold c3;rw [if_pos h]
   have h2:c3 b a=1:=by unfold c3;rw [if_neg (by omega),if_pos h]
   simp [h1,h2]
  ·subst h
   simp only [c3_zero.2 rfl,if_true]
   exact lex_flip aas bs
  ·have h1:c3 a b=1:=by unfold c3;rw [if_neg (by omega),if_pos h]
   have h2:c3 b a=-1:=by unfold c3;rw [if_pos h]
   simp [h1,h2]
theorem lex_trans:∀ a b c:List Int,lexc a b<0->lexc b c<0->lexc a c<0
 | a,[],c,h1,h2=>by cases a <;> simp [lexc] at h1
 | [],b::bs,c,h1,h2=>by
  cases c with
  | nil=>simp [lexc] at h2
  | cons x xs=>simp [lexc]
 | a::aas,b::bs,c,h1,h2=>by
  cases c with
  | nil=>simp [lexc] at h2
  | cons x xs=>
   simp only [lexc] at h1 h2 ⊢
   by_cases e1:c3 a b=0
   ·rw [if_pos e1] at h1
    have:=c3_zero.1 e1
    subst this
    by_cases e2:c3 a x=0
    ·rw [if_pos e2] at h2 ⊢
     exact lex_trans aas bs xs h1 h2
    ·rw [if_neg e2] at h2 ⊢;exact h2
   ·rw [if_neg e1] at h1
    have hab:=c3_neg.1 h1
    by_cases e2:c3 b x=0
    ·have:=c3_zero.1 e2
     subst this
     rw [if_neg e1];exact h1
    ·rw [if_neg e2] at h2
     have hbx:=c3_neg.1 h2
     have:c3 a x<0:=c3_neg.2 (by omega)
     rw [if_neg (by omega)];exact this
mutual
theorem cmpT_eq:∀ t u:GT,cmpT t u=0->t=u
 | .mk k n l,.mk k' n' l',h=>by
  simp only [cmpT,orI] at h
  by_cases h1:c3 k k'=0
  ·by_cases h2:c3 n n'=0
   ·by_cases h3:c3 (l.length:Int) (l'.length:Int)=0
    ·simp only [h1,h2,h3,ne_eq,not_true_eq_false,if_false] at h
     rw [c3_zero.1 h1,c3_zero.1 h2,cmpL_eq l l' h]
    ·simp only [h1,h2,h3,ne_eq,not_true_eq_false,not_false_eq_true,if_true,if_false] at h
   ·simp only [h1,h2,ne_eq,not_true_eq_false,not_false_eq_true,if_true,if_false] at h
  ·simp only [h1,ne_eq,not_true_eq_false,not_false_eq_true,if_true,if_false] at h
theorem cmpL_eq:∀ l m:List GT,cmpL l m=0->l=m
 | [],[],_=>rfl
 | [],_::_,h=>by simp [cmpL] at h
 | _::_,[],h=>by simp [cmpL] at h
 | t::ts,u::us,h=>by
  simp only [cmpL] at h
  by_cases h1:cmpT t u=0
  ·simp only [h1,ne_eq,not_true_eq_false,if_false] at h
   rw [cmpT_eq t u h1,cmpL_eq ts us h]
  ·simp only [h1,ne_eq,not_false_eq_true,if_true] at h
end
def clt (c d:CL):Prop:=lexc (kc c) (kc d)<0
theorem kc_eq {c d:CL} (h:lexc (kc c) (kc d)=0):c=d:=by
 rw [← cmpLab_lex] at h
 obtain ⟨g,l⟩:=c
 obtain ⟨g',l'⟩:=d
 simp only [zBK,orI] at h
 by_cases h1:c3 g g'=0
 ·simp only [h1,ne_eq,not_true_eq_false,if_false] at h
  have h2:cmpL l l'=0:=by
   by_cases h3:cmpL l l'=0
   ·exact h3
   ·simp [h3] at h
  rw [c3_zero.1 h1,cmpL_eq l l' h2]
 ·simp [h1] at h
abbrev Sorted (cs:List CL):Prop:=cs.Pairwise clt
theorem zBg {ls:List CL} {c x:CL} {q:Nat} (h:ls[q]?=some x):cmpLb ls c q=lexc (kc x) (kc c):=by
 unfold cmpLb;rw [h];exact cmpLab_lex x c
theorem sorted_get {cs:List CL} (hs:Sorted cs) {i j:Nat} {x y:CL} (hx:cs[i]?=some x) (hy:cs[j]?=some y) (hij:i<j):clt x y:=by
 obtain ⟨h1,rfl⟩:=List.getElem?_eq_some_iff.1 hx
 obtain ⟨h2,rfl⟩:=List.getElem?_eq_some_iff.1 hy
 exact List.pairwise_iff_getElem.1 hs i j h1 h2 hij
theorem bsGo_ok {ls:List CL} (hs:Sorted ls) (c:CL):∀ (m i j:Nat),j<=i+m->i<=j->j<=ls.length->(∀ q,q<i->cmpLb ls c q<0)->(∀ q,j<=q->q<ls.length->0<=cmpLb ls c q)->
  bsGo ls c m i j<=ls.length/\(∀ q,q<bsGo ls c m i j->cmpLb ls c q<0)/\∀ q,bsGo ls c m i j<=q->q<ls.length->0<=cmpLb ls c q
 | 0,i,j,h1,h2,h3,ha,hb=>by
  have:i=j:=by omega
  subst this
  exact ⟨h3,ha,hb⟩
 | m+1,i,j,h1,h2,h3,ha,hb=>by
  simp only [bsGo]
  by_cases hij:i<j
  ·rw [if_pos hij]
   have hq:(i+j) / 2<ls.length:=by omega
   obtain ⟨x,hx⟩:∃ x,ls[(i+j) / 2]?=some x:=⟨_,List.getElem?_eq_getElem hq⟩
   by_cases hc:cmpLb ls c ((i+j) / 2)<0
   ·rw [if_pos hc]
    refine bsGo_ok hs c m _ j (by omega) (by omega) h3 (fun q hq'=>?_) hb
    by_cases e:q=(i+j) / 2
    ·rw [e];exact hc
    ·obtain ⟨y,hy⟩:∃ y,ls[q]?=some y:=⟨_,List.getElem?_eq_getElem (by omega)⟩
     rw [zBg hx] at hc
     rw [zBg hy]
     exact lex_trans _ _ _ (sorted_get hs hy hx (by omega)) hc
   ·rw [if_neg hc]
    refine bsGo_ok hs c m i _ (by omega) (by omega) (by omega) ha fun q hq1 hq2=>?_
    by_cases e:q=(i+j) / 2
    ·rw [e];omega
    ·obtain ⟨y,hy⟩:∃ y,ls[q]?=some y:=⟨_,List.getElem?_eq_getElem hq2⟩
     rw [zBg hx] at hc
     rw [zBg hy]
     have hxy:=sorted_get hs hx hy (by omega)
     rcases Int.lt_or_le (lexc (kc y) (kc c)) 0 with h|h
     ·exact absurd (lex_trans _ _ _ hxy h) hc
     ·exact h
  ·rw [if_neg hij]
   have:i=j:=by omega
   subst this
   exact ⟨h3,ha,hb⟩
theorem bsI_ok {ls:List CL} (hs:Sorted ls) (c:CL):bsI ls c<=ls.length/\(∀ q,q<bsI ls c->cmpLb ls c q<0)/\∀ q,bsI ls c<=q->q<ls.length->0<=cmpLb ls c q:=
 bsGo_ok hs c ls.length 0 ls.length (by omega) (Nat.zero_le _) (Nat.le_refl _) (fun q h=>absurd h (Nat.not_lt_zero _)) (fun q h1 h2=>by omega)
theorem bs_found {ls:List CL} (hs:Sorted ls) {c:CL} (hc:c∈ls):bsB ls c=true/\ls[bsI ls c]?=some c:=by
 obtain ⟨q,hq⟩:=List.getElem?_of_mem hc
 obtain ⟨h1,h2,h3⟩:=bsI_ok hs c
 have hql:=(List.getElem?_eq_some_iff.1 hq).1
 have hz:cmpLb ls c q=0:=by rw [zBg hq];exact lex_self _
 have hle:bsI ls c<=q:=by
  rcases Nat.lt_or_ge q (bsI ls c) with h|h
  ·have:=h2 q h;omega
  ·exact h
 have he:bsI ls c=q:=by
  rcases Nat.lt_or_ge (bsI ls c) q with h|h
  ·obtain ⟨x,hx⟩:∃ x,ls[bsI ls c]?=some x:=⟨_,List.getElem?_eq_getElem (by omega)⟩
   have h4:=h3 (bsI ls c) (Nat.le_refl _) (by omega)
   rw [zBg hx] at h4
   have h5:=sorted_get hs hx hq h
   unfold clt at h5
   omega
  ·omega
 refine ⟨?_,by rw [he];exact hq⟩
 unfold bsB
 rw [he]
 simp [hql,hz]
theorem bs_hit {ls:List CL} {c:CL} (h:bsB ls c=true):ls[bsI ls c]?=some c:=by
 unfold bsB at h
 simp only [Bool.and_eq_true,decide_eq_true_eq] at h
 obtain ⟨x,hx⟩:∃ x,ls[bsI ls c]?=some x:=⟨_,List.getElem?_eq_getElem h.1⟩
 have h2:=h.2
 rw [zBg hx] at h2
 rw [hx,kc_eq h2]
theorem numL_ok {cs:List CL} (hs:Sorted cs) (c:CL):Sorted (numL cs c).2/\(∀ d∈cs,d∈(numL cs c).2)/\(c.1≠-1->c∈(numL cs c).2):=by
 unfold numL
 by_cases h:c.1=-1
 ·rw [if_pos h];exact ⟨hs,fun d hd=>hd,fun h2=>absurd h h2⟩
 ·rw [if_neg h]
  simp only
  by_cases hb:bsB cs c=true
  ·rw [if_pos hb]
   exact ⟨hs,fun d hd=>hd,fun _=>List.mem_of_getElem? (bs_hit hb)⟩
  ·rw [if_neg hb]
   obtain ⟨h1,h2,h3⟩:=bsI_ok hs c
   have hsp:cs=cs.take (bsI cs c)++cs.drop (bsI cs c):=(List.take_append_drop _ _).symm
   refine ⟨?_,fun d hd=>?_,fun _=>by simp⟩
   ·rw [hsp] at hs
    obtain ⟨p1,p2,p3⟩:=List.pairwise_append.1 hs
    refine List.pairwise_append.2 ⟨p1,List.pairwise_cons.2 ⟨fun d hd=>?_,p2⟩,fun a ha d hd=>?_⟩
    ·obtain ⟨q,hq⟩:=List.getElem?_of_mem hd
     rw [List.getElem?_drop] at hq
     have h4:=h3 (bsI cs c+q) (by omega) (List.getElem?_eq_some_iff.1 hq).1
     rw [zBg hq] at h4
     have hne:lexc (kc d) (kc c)≠0:=by
      intro e
      have:=kc_eq e
      subst this
      exact hb (bs_found (by rw [hsp];exact hs) (List.mem_of_getElem? hq)).1
     exact (lex_flip _ _).2 (by omega)
    ·rcases List.mem_cons.1 hd with rfl|hd
     ·obtain ⟨q,hq⟩:=List.getElem?_of_mem ha
      have hql:=(List.getElem?_eq_some_iff.1 hq).1
      rw [List.length_take] at hql
      rw [List.getElem?_take_of_lt (by omega)] at hq
      have h4:=h2 q (by omega)
      rw [zBg hq] at h4
      exact h4
     ·exact p3 a ha d hd
   ·rw [hsp,List.mem_append] at hd
    simp only [List.mem_append,List.mem_cons]
    rcases hd with hd|hd
    ·exact .inl hd
    ·exact .inr (.inr hd)
theorem numAll_ok:∀ (l:List CL) {cs:List CL},Sorted cs->Sorted (zBV cs l).2/\(∀ d∈cs,d∈(zBV cs l).2)/\∀ c∈l,c.1≠-1->c∈(zBV cs l).2
 | [],cs,hs=>⟨hs,fun d hd=>hd,fun c hc=>by cases hc⟩
 | c::l,cs,hs=>by
  obtain ⟨a1,a2,a3⟩:=numL_ok hs c
  obtain ⟨b1,b2,b3⟩:=numAll_ok l a1
  simp only [zBV]
  refine ⟨b1,fun d hd=>b2 d (a2 d hd),fun d hd h=>?_⟩
  rcases List.mem_cons.1 hd with rfl|hd
  ·exact b2 _ (a3 h)
  ·exact b3 d hd h
def zBp (cs:List CL) (c:CL):Int:=if c.1=-1 then 0 else ((bsI cs c:Nat):Int)+1
theorem numAll_fix:∀ (l:List CL) {cs:List CL},Sorted cs->(∀ c∈l,c.1≠-1->c∈cs)->zBV cs l=(l.map (zBp cs),cs)
 | [],cs,_,_=>rfl
 | c::l,cs,hs,h=>by
  have h1:numL cs c=(zBp cs c,cs):=by
   unfold numL zBp
   by_cases hc:c.1=-1
   ·rw [if_pos hc,if_pos hc]
   ·rw [if_neg hc,if_neg hc,if_pos (bs_found hs (h c (by simp) hc)).1]
  simp only [zBV,h1,numAll_fix l hs fun d hd=>h d (by simp [hd]),List.map_cons]
theorem numOf_inj {cs:List CL} (hs:Sorted cs) {c d:CL} (hc:c.1≠-1->c∈cs) (hd:d.1≠-1->d∈cs) (h:zBp cs c=zBp cs d):(c.1=-1/\d.1=-1)\/c=d:=by
 unfold zBp at h
 by_cases h1:c.1=-1
 ·by_cases h2:d.1=-1
  ·exact .inl ⟨h1,h2⟩
  ·rw [if_pos h1,if_neg h2] at h;omega
 ·by_cases h2:d.1=-1
  ·rw [if_neg h1,if_pos h2] at h;omega
  ·rw [if_neg h1,if_neg h2] at h
   have e:bsI cs c=bsI cs d:=by omega
   have a:=(bs_found hs (hc h1)).2
   have b:=(bs_found hs (hd h2)).2
   rw [e,b] at a
   exact .inr (Option.some.inj a).symm
abbrev stepV (nums:List Int) (e:Ed):Int×Int:=((nums[e.2.1.toNat]?).getD 0,e.2.2)
theorem stepsGo_get (nums:List Int):∀ (l:List Ed) (SS:List zAF) (i:Nat) (S:zAF),(zCr nums SS l)[i]?=some S->∃ S0,SS[i]?=some S0/\∀ y,y∈S ↔ y∈S0\/∃ e∈l,e.1.toNat=i/\y=stepV nums e
 | [],SS,i,S,h=>⟨S,h,fun y=>by simp⟩
 | e::l,SS,i,S,h=>by
  simp only [zCr] at h
  obtain ⟨S0,h0,hS⟩:=stepsGo_get nums l _ i S h
  by_cases hi:e.1.toNat=i
  ·subst hi
   rw [List.getElem?_set] at h0
   simp only [if_true] at h0
   split at h0
   ·rename_i hlt
    cases h0
    refine ⟨SS[e.1.toNat],List.getElem?_eq_getElem hlt,fun y=>?_⟩
    rw [hS y,List.getElem?_eq_getElem hlt]
    simp only [Option.getD_some,List.mem_append,List.mem_cons,List.not_mem_nil,or_false]
    constructor
    ·rintro ((h|h)|⟨f,h1,h2⟩)
     ·exact .inl h
     ·exact .inr ⟨e,.inl rfl,rfl,h⟩
     ·exact .inr ⟨f,.inr h1,h2⟩
    ·rintro (h|⟨f,rfl|h1,h2,h3⟩)
     ·exact .inl (.inl h)
     ·exact .inl (.inr h3)
     ·exact .inr ⟨f,h1,h2,h3⟩
   ·cases h0
  ·rw [List.getElem?_set_ne hi] at h0
   refine ⟨S0,h0,fun y=>?_⟩
   rw [hS y]
   simp only [List.mem_cons]
   constructor
   ·rintro (h|⟨f,h1,h2⟩)
    ·exact .inl h
    ·exact .inr ⟨f,.inr h1,h2⟩
   ·rintro (h|⟨f,rfl|h1,h2,h3⟩)
    ·exact .inl h
    ·exact absurd h2 hi
    ·exact .inr ⟨f,h1,h2,h3⟩
theorem zDD {nums:List Int} {L:GL} {i:Nat} {S:zAF} (h:(zAz nums L)[i]?=some S) (y:Int×Int):y∈S ↔ ∃ e∈L.eds,e.1.toNat=i/\y=stepV nums e:=by
 obtain ⟨S0,h0,hS⟩:=stepsGo_get nums _ _ i S h
 rw [List.getElem?_replicate] at h0
 split at h0
 ·cases h0;rw [hS y];simp
 ·cases h0
theorem labs_bare {L:GL} (h:zq L=false) {i:Nat} {c:CL} (hc:L.labs[i]?=some c) (h1:c.1=-1):c.2=[]:=by
 simp only [zq,Bool.or_eq_false_iff] at h
 have hlt:=(List.getElem?_eq_some_iff.1 hc).1
 have:=zBk h.1.2 i (Nat.zero_le _) (by omega)
 simp only [zA2,hc,Bool.or_eq_false_iff,zAy,bare,h1,decide_true,Bool.or_true,Bool.true_and,decide_eq_false_iff_not] at this
 exact List.length_eq_zero_iff.1 (by omega)
def csOf (L M:GL):List CL:=(zBV (zBV [] L.labs).2 M.labs).2
theorem csOf_ok (L M:GL):Sorted (csOf L M)/\(∀ c∈L.labs,c.1≠-1->c∈csOf L M)/\∀ c∈M.labs,c.1≠-1->c∈csOf L M:=by
 obtain ⟨a1,a2,a3⟩:=numAll_ok L.labs (cs:=[]) List.Pairwise.nil
 obtain ⟨b1,b2,b3⟩:=numAll_ok M.labs a1
 exact ⟨b1,fun c h1 h2=>b2 c (a3 c h1 h2),b3⟩
theorem graphs_eq (L M:GL):graphsOf [L,M]=[zAz (L.labs.map (zBp (csOf L M))) L,zAz (M.labs.map (zBp (csOf L M))) M]:=by
 obtain ⟨h1,h2,h3⟩:=csOf_ok L M
 show zDT (csOf L M) [L,M]=_
 simp only [zDT,numAll_fix L.labs h1 h2,numAll_fix M.labs h1 h3]
theorem pr_pos {B:GB} (h:zBD B=0):(B.kind=1\/B.kind=2)/\∀ p∈B.prs,0<=p.1/\0<=p.2:=by
 unfold zBD at h
 split at h
 ·cases h
 ·rename_i h1
  split at h
  ·cases h
  ·split at h
   ·cases h
   ·rename_i h3
    refine ⟨?_,fun p hp=>?_⟩
    ·simp [zCi] at h1;omega
    ·obtain ⟨i,hi⟩:=List.getElem?_of_mem hp
     have hlt:=(List.getElem?_eq_some_iff.1 hi).1
     have:=zBk (Bool.eq_false_iff.2 h3) i (Nat.zero_le _) (by omega)
     simp only [zCB,hi,Bool.or_eq_false_iff,decide_eq_false_iff_not] at this
     omega
end Go.Proofs
namespace Go.Proofs
open Go Go.AM Go.Sort
set_option maxRecDepth 100000
set_option maxHeartbeats 1000000
theorem pb00:zAg E 54 (some [(0,.int .i64 0),(1,.int .i64 0)])=some (.agg ⟨zE (0,0)⟩):=by kernel_rfl
structure With (k:AH) (B:GB) (p:Int×Int) (x:Value) (m:AH):Prop where
 ex:∃ (e:List Value) (B':GB),x=.agg ⟨e⟩/\RB m e B'/\B'.kind=B.kind/\p∈B'.prs/\B'.prs.length<=B.prs.length+1
 fx:Fx NoB k m
theorem dd_len (d:Dt):∀ j,(dd d j).length<=j
 | 0=>Nat.le_refl _
 | j+1=>by
  have:=dd_len d j
  simp only [dd]
  split
  ·omega
  ·simp;omega
theorem ids_prs:∀ l:List (Int×Int),(l.flatMap zE).flatMap (zCJ 4)=[]
 | []=>rfl
 | x::l=>by simp only [List.flatMap_cons,List.flatMap_append,ids_prs l];rfl
structure With1 (k:AH) (B:GB) (p:Int×Int) (x:Value) (m:AH):Prop where
 ex:∃ (b2:Nat) (l':List (Int×Int)) (rest:List Value),x=.agg ⟨[.int .i64 B.kind,sl b2 l'.length (UNK+2)]⟩/\k.next<=b2/\b2<m.next/\m.get b2=some (.row (l'.flatMap zE++rest) 54 2 false)/\rest.flatMap (zCJ 4)=[]/\p∈l'/\l'.length<=B.prs.length+1
 ow:Own k m
theorem reach_one {h:AH} {lo b2:Nat} {vs:List Value} {ty es:Nat} {ro:Bool} {z:Int} {n c:Nat} (hb:lo<=b2) (hg:h.get b2=some (.row vs ty es ro)) (hi:vs.flatMap (zCJ 4)=[]):zCh h lo 1000 (zCJ 4 (.agg ⟨[.int .i64 z,sl b2 n c]⟩)) []=[b2]:=by
 have e0:zCJ 4 (.agg ⟨[.int .i64 z,sl b2 n c]⟩)=[b2]:=rfl
 rw [e0]
 have s3:zCh h lo 1000 [b2] []=zCh h lo 999 (idsIn (.row vs ty es ro)++[]) [b2]:=by
  show (if Nat.ble (b2+1) lo||[].any (Nat.beq b2) then _ else (match h.get b2 with|some o=>zCh h lo 999 (idsIn o++[]) [b2]|none=>_))=_
  rw [ble_false.2 (by omega),hg];rfl
 rw [s3]
 simp only [idsIn,hi,List.append_nil]
 rfl
theorem With1.fin {k:AH} {B:GB} {p:Int×Int} {x:Value} {m:AH} (w:With1 k B p x m):zj x=false/\With k B p x (m.wmTo k.wm)/\With k B p x ((AH.kept k.fresh x m).wmTo k.wm):=by
 obtain ⟨b2,l',rest,rfl,h1,h2,h3,h4,h5,h6⟩:=w.ex
 have hids:=reach_one (lo:=k.fresh.next) (z:=B.kind) (n:=l'.length) (c:=UNK+2) h1 h3 (by rw [List.flatMap_append,ids_prs,h4];rfl)
 have rb:∀ m':AH,m'.next=m.next->m'.get b2=m.get b2->∃ (e:List Value) (B':GB),Value.agg ⟨[.int .i64 B.kind,sl b2 l'.length (UNK+2)]⟩=.agg ⟨e⟩/\RB m' e B'/\B'.kind=B.kind/\p∈B'.prs/\B'.prs.length<=B.prs.length+1:=fun m' hn hg=>
  ⟨_,⟨B.kind,l'⟩,rfl,⟨_,rfl,arr_row (hg.trans h3) (by omega) rfl⟩,rfl,h5,h6⟩
 refine ⟨rfl,⟨rb _ rfl rfl,wmTo_fx w.ow⟩,⟨rb _ rfl ?_,wmTo_fx ?_⟩⟩
 ·show (AH.kept k.fresh _ m).get b2=_
  unfold AH.kept
  rw [hids,zA7,if_pos (by simp)]
 ·have h7:=w.ow
  refine ⟨⟨h7.ext.ok,h7.ext.next,fun c hc=>?_⟩,h7.wm⟩
  unfold AH.kept
  rw [hids,zA7]
  split
  ·exact h7.ext.get c hc
  ·rfl
end Go.Proofs
namespace Go.Proofs
open Go Go.AM Go.Sort
set_option maxRecDepth 100000
set_option maxHeartbeats 4000000
inductive Vis (L:GL):Int->Prop
 | here {e:Ed} {cx:CL} (he:e∈L.eds) (hc:L.labs[e.2.1.toNat]?=some cx) (hg:cx.1≠-1):Vis L e.1
 | step {e:Ed} {cx:CL} (he:e∈L.eds) (hc:L.labs[e.2.1.toNat]?=some cx) (hg:cx.1=-1) (h:Vis L e.2.2):Vis L e.1
def Calm (L:GL) (t:Int) (lc:List Int):Prop:=t∈lc/\∀ u∈lc,(0<=u/\u<L.n)/\∀ e∈L.eds,e.1=u->gateAt L e (-1)/\e.2.2∈lc
structure P9 (L:GL) (t:Int) (lc:List Int):Prop where
 nd:lc.Nodup
 rg:∀ u∈lc,0<=u/\u<L.n
 back:∀ u∈lc,Vis L u->Vis L t
 t:t∈lc
def Done9 (L:GL) (lc:List Int) (y:Ed):Prop:=gateAt L y (-1)/\y.2.2∈lc
theorem Done9.mono {L:GL} {lc lc':List Int} {y:Ed} (d:Done9 L lc y) (h:∃ t,lc'=lc++t):Done9 L lc' y:=by
 obtain ⟨t,rfl⟩:=h
 exact ⟨d.1,by simp [d.2]⟩
theorem P9.len {L:GL} {t:Int} {lc:List Int} {N:Nat} (p:P9 L t lc) (hN:L.n=(N:Int)):lc.length<=N:=zBq N lc p.nd fun x hx=>by have:=p.rg x hx;omega
section
variable {k g:AH} {lo a2 bs:Nat} {L:GL} {cells:List Value} {vl ve:Value} {els:List (List Value)} {t:Int} {N:Nat}
end
end Go.Proofs
namespace Go.Proofs
open Go Go.AM
set_option maxHeartbeats 1000000
def Sim (L M:GL) (R:List (Int×Int)):Prop:=∀ (s t:Int) (x:Ed) (cx:CL),(s,t)∈R->x∈L.eds->x.1=s->L.labs[x.2.1.toNat]?=some cx->∀ lc,Calm M t lc->cx.1=-1/\∃ u∈lc,(x.2.2,u)∈R
theorem Sim.vis {L M:GL} {R:List (Int×Int)} (S:Sim L M R) {s:Int} (hv:Vis L s):∀ t lc,(s,t)∈R->Calm M t lc->False:=by
 induction hv with
 | here he hc hg=>exact fun t lc hst C=>hg (S _ t _ _ hst he rfl hc lc C).1
 | step he hc hg h ih=>
  intro t lc hst C
  obtain ⟨_,u,hu,hr⟩:=S _ t _ _ hst he rfl hc lc C
  exact ih u lc hr ⟨hu,C.2⟩
theorem check_basic {L M:GL} {B:GB} (h:zAu L M B=0):(∀ p∈B.prs,(0<=p.1/\p.1<L.n)/\(0<=p.2/\p.2<M.n))/\((0:Int),(0:Int))∈B.prs:=by
 obtain ⟨hL,hM,hlk,hrel⟩:=check0 h
 obtain ⟨hkind,hpos⟩:=pr_pos hlk
 unfold relV at hrel
 rw [graphs_eq] at hrel
 simp only [relB,Bool.and_eq_true,List.all_eq_true,decide_eq_true_eq,inB] at hrel
 obtain ⟨hin,⟨hz,hall⟩,_⟩:=hrel
 exact ⟨fun p hp=>⟨⟨(hpos p hp).1,(hin p hp).1⟩,(hpos p hp).2,(hin p hp).2⟩,hz⟩
theorem refused {L M:GL} {B:GB} (hL:zq L=false) (hM:zq M=false) (hk:zCi B.kind=true) (h:zAu L M B≠0):zAu L M B=360:=by
 have he:zBD B=0\/zBD B=360:=by
  unfold zBD
  rw [if_neg (by rw [hk];decide)]
  split
  ·exact .inr rfl
  ·split
   ·exact .inr rfl
   ·exact .inl rfl
 unfold zAu at h ⊢
 rw [hL,hM] at h ⊢
 rw [if_neg (by decide)] at h ⊢
 rcases he with he|he
 ·rw [he] at h ⊢
  rw [if_neg (by decide)] at h ⊢
  split
  ·rename_i h1;rw [if_pos h1] at h;exact absurd rfl h
  ·rfl
 ·rw [he,if_pos (by decide)]
end Go.Proofs
namespace Go.Proofs
open Go Go.AM
set_option maxRecDepth 100000
set_option maxHeartbeats 2000000
structure OutC (h:AH) (c:Nat) (L:GL):Prop where
 ex:∃ bs cells N lo,h.get c=some (.row [.slice (some ⟨bs,0,none⟩) N N] 49 0 false)/\c<h.next/\LoL lo h bs cells (outOf L)/\cells.length=N/\L.n=(N:Int)/\(∀ S∈outOf L,S.length<=100000)
theorem OutC.ext {h k:AH} {c:Nat} {L:GL} (o:OutC h c L) (e:Ext h k):OutC k c L:=by
 obtain ⟨bs,cells,N,lo,a1,a2,a3,a4,a5,a6⟩:=o.ex
 exact ⟨bs,cells,N,lo,(e.get c a2).trans a1,Nat.lt_of_lt_of_le a2 e.next,a3.ext e,a4,a5,a6⟩
def zB5 (L:GL) (i:Int):List Ed:=((outOf L)[i.toNat]?).getD []
theorem outAt_mem {L:GL} {i:Int} (h0:0<=i) (h1:i<L.n) (y:Ed):y∈zB5 L i ↔ y∈L.eds/\y.1.toNat=i.toNat:=by
 obtain ⟨S,hS⟩:∃ S,(outOf L)[i.toNat]?=some S:=⟨_,List.getElem?_eq_getElem (by rw [outOf_len];omega)⟩
 unfold zB5
 rw [hS]
 exact outOf_mem hS y
theorem outAt_labs {L:GL} (hL:zq L=false) {i:Int} (h0:0<=i) (h1:i<L.n):∀ y∈zB5 L i,inLabs L y:=by
 intro y hy
 obtain ⟨j,hj⟩:=List.getElem?_of_mem ((outAt_mem h0 h1 y).1 hy).1
 obtain ⟨_,_,d3,d4⟩:=bad_edges hL hj
 unfold inLabs
 omega
theorem OutC.at {h k:AH} {c:Nat} {L:GL} (o:OutC h c L) (e:Ext h k) {i:Int} (h0:0<=i) (h1:i<L.n) :
  ∃ w p cS,zG E 49 k (some (.pointer (some ⟨c,0,none⟩)))=some w/\zH E 49 (some w) (some (.int .i64 i))=some p/\zG E 23 k (some p)=some cS/\Arr k 3 cS ((zB5 L i).map zW)/\(zB5 L i).length<=100000:=by
 obtain ⟨bs,cells,N,lo,a1,a2,a3,a4,a5,a6⟩:=(o.ext e).ex
 obtain ⟨j,rfl⟩:=Int.eq_ofNat_of_zero_le h0
 have hjN:j<N:=by omega
 obtain ⟨S,hS⟩:∃ S,(outOf L)[j]?=some S:=⟨_,List.getElem?_eq_getElem (by rw [outOf_len];omega)⟩
 obtain ⟨cS,hc⟩:∃ cS,cells[j]?=some cS:=⟨_,List.getElem?_eq_getElem (by omega)⟩
 have hat:zB5 L ((j:Nat):Int)=S:=by unfold zB5;simp [hS]
 refine ⟨_,_,cS,zD (P:=E) ta_49 (o:=0) a1,ia_49 (o:=0) hjN,?_,?_,?_⟩
 ·rw [zD (P:=E) ta_23 a3.s,zAl,show 0+j*1=j by omega];exact hc
 ·rw [hat];exact (a3.cell j cS S hc hS).arr
 ·rw [hat];exact a6 S (List.mem_of_getElem? hS)
theorem Box.rl {h k:AH} {a:Nat} {L:GL} (b:Box h a L) (e:Ext h k):∃ v,zG E 25 k (some (.pointer (some ⟨a,0,none⟩)))=some v/\RL k v L:=by
 obtain ⟨vl,ve,els,h1,h2,h3,h4,h5⟩:=(b.ext e).ex
 exact ⟨_,za (P:=E) ta_25 (o:=0) h1 (by simp),vl,ve,els,rfl,h3,h4,h5⟩
theorem boxS {t:TypeId} (ht:zAO E t=some 1) {k:AH} {z x:Value} (hx:zf x=[x]) (hl:zn x=true):zh E t (k.new (.row [z] t 0 false)) (some (.pointer (some ⟨k.next,0,none⟩))) (some x)=one (undef,(k.new (.row [z] t 0 false)).upd k.next (some (.row [x] t 0 false))):=
 zw (P:=E) ht (zI k _) hx rfl (by simp) (by simp [hl])
theorem call46 {h0 k:AH} {c13 a b c9 pb ib:Nat} {A B:GL} {x:Ed} {p:Int×Int} {vf:Value} {g:Int->Int->Bool} (hc:h0.get c13=some (.row [.func (.func 40) #[] #[]] 74 0 false)) (hcl:c13<h0.next) (hA:Box h0 a A) (hB:Box h0 b B) (hO:OutC h0 c9 B)
  (hp:h0.get pb=some (.row (zE p) 54 0 false)) (hpl:pb<h0.next) (hi:h0.get ib=some (.row [vf] 71 0 false)) (hil:ib<h0.next) (hf:TestI h0 vf g) (hl:zn vf=true) (hbB:zq B=false) (p0:0<=p.2) (p1:p.2<B.n) (hx:inLabs A x) (hk:Ext h0 k) :
  (zX E).call 46 [.agg ⟨zW x⟩,ptr c13,ptr a,ptr b,ptr c9,ptr pb,ptr ib] k=some [(.bool (!ansB A B g (zB5 B p.2) x),k)]:=by
 refine F46_flat (s:=true) hk.ok rfl (P46_0_of ?_)
 obtain ⟨k1,e1,n1,t1,o1,f1⟩:=nwF k (.row (zW x) 52 0 false)
 simp only [zd,zL,zS,e1,zZ]
 have ex:=hk.trans o1.ext
 obtain ⟨vA,q1,q2⟩:=hA.rl ex
 obtain ⟨vB,q3,q4⟩:=hB.rl ex
 obtain ⟨w,pp,cS,r1,r2,r3,r4,r5⟩:=hO.at ex p0 p1
 have l0:zG E 74 k1 (some (.pointer (some ⟨c13,0,none⟩)))=some (.func (.func 40) #[] #[]):=zD (P:=E) ta_74 (o:=0) ((ex.get _ hcl).trans hc)
 have lx:zG E 52 k1 (some (.pointer (some ⟨k.next,0,none⟩)))=some (.agg ⟨zW x⟩):=za (P:=E) ta_52 (o:=0) t1 (by simp [zW])
 have lp:zG E 3 k1 (some (.pointer (some ⟨pb,0+1*1,none⟩)))=some (.int .i64 p.2):=zD (P:=E) zAQ (o:=0+1*1) ((ex.get _ hpl).trans hp)
 have li:zG E 71 k1 (some (.pointer (some ⟨ib,0,none⟩)))=some vf:=zD (P:=E) ta_71 (o:=0) ((ex.get _ hil).trans hi)
 have hia:=ia_54 (b:=pb) (o:=0) (k:=1) (by omega)
 have h40:=call40 (g:=g) (k:=k1) q2 q4 r4 (by omega) (fun k'' s t h''=>hf k'' s t (ex.trans h'')) hl hx (outAt_labs hbB p0 p1) (Ext.refl ex.ok)
 refine P46_1_of ?_
 simp only [l0,q1,q3,lx,r1,zA]
 have hia':zH E 54 (some (.pointer (some ⟨pb,0,none⟩))) (some (.int .i64 1))=some (.pointer (some ⟨pb,0+1*1,none⟩)):=hia
 simp only [hia',lp,r2,r3,li,zA,zR]
 rw [h40,zO]
 simp only [zp,zA,zAD,zT,true_and]
 exact o1.wm
theorem call47 {h0 k:AH} {c13 a b c9 pb ib:Nat} {A B:GL} {x:Ed} {p:Int×Int} {vf:Value} {g:Int->Int->Bool} (hc:h0.get c13=some (.row [.func (.func 40) #[] #[]] 74 0 false)) (hcl:c13<h0.next) (hA:Box h0 a A) (hB:Box h0 b B) (hO:OutC h0 c9 B)
  (hp:h0.get pb=some (.row (zE p) 54 0 false)) (hpl:pb<h0.next) (hi:h0.get ib=some (.row [vf] 71 0 false)) (hil:ib<h0.next) (hf:TestI h0 vf g) (hl:zn vf=true) (hbB:zq B=false) (p0:0<=p.1) (p1:p.1<B.n) (hx:inLabs A x) (hk:Ext h0 k) :
  (zX E).call 47 [.agg ⟨zW x⟩,ptr c13,ptr a,ptr b,ptr c9,ptr pb,ptr ib] k=some [(.bool (!ansB A B g (zB5 B p.1) x),k)]:=by
 refine F47_flat (s:=true) hk.ok rfl (P47_0_of ?_)
 obtain ⟨k1,e1,n1,t1,o1,f1⟩:=nwF k (.row (zW x) 52 0 false)
 simp only [zd,zL,zS,e1,zZ]
 have ex:=hk.trans o1.ext
 obtain ⟨vA,q1,q2⟩:=hA.rl ex
 obtain ⟨vB,q3,q4⟩:=hB.rl ex
 obtain ⟨w,pp,cS,r1,r2,r3,r4,r5⟩:=hO.at ex p0 p1
 have l0:zG E 74 k1 (some (.pointer (some ⟨c13,0,none⟩)))=some (.func (.func 40) #[] #[]):=zD (P:=E) ta_74 (o:=0) ((ex.get _ hcl).trans hc)
 have lx:zG E 52 k1 (some (.pointer (some ⟨k.next,0,none⟩)))=some (.agg ⟨zW x⟩):=za (P:=E) ta_52 (o:=0) t1 (by simp [zW])
 have lp:zG E 3 k1 (some (.pointer (some ⟨pb,0+0*1,none⟩)))=some (.int .i64 p.1):=zD (P:=E) zAQ (o:=0+0*1) ((ex.get _ hpl).trans hp)
 have li:zG E 71 k1 (some (.pointer (some ⟨ib,0,none⟩)))=some vf:=zD (P:=E) ta_71 (o:=0) ((ex.get _ hil).trans hi)
 have hia:=ia_54 (b:=pb) (o:=0) (k:=0) (by omega)
 have h40:=call40 (g:=g) (k:=k1) q2 q4 r4 (by omega) (fun k'' s t h''=>hf k'' s t (ex.trans h'')) hl hx (outAt_labs hbB p0 p1) (Ext.refl ex.ok)
 refine P47_1_of ?_
 simp only [l0,q1,q3,lx,r1,zA]
 have hia':zH E 54 (some (.pointer (some ⟨pb,0,none⟩))) (some (.int .i64 0))=some (.pointer (some ⟨pb,0+0*1,none⟩)):=hia
 simp only [hia',lp,r2,r3,li,zA,zR]
 rw [h40,zO]
 simp only [zp,zA,zAD,zT,true_and]
 exact o1.wm
def badP (L M:GL) (now:List (Int×Int)) (p:Int×Int):Bool:=
 (zB5 L p.1).any (fun x=>!ansB L M (fun s t=>decide ((s,t)∈now)) (zB5 M p.2) x)||(zB5 M p.2).any (fun x=>!ansB M L (fun s t=>decide ((t,s)∈now)) (zB5 L p.1) x)
structure Nth (h:AH) (c15 c8 c13 a b c9:Nat) (L M:GL) (now:List (Int×Int)):Prop where
 g15:∃ vn,h.get c15=some (.row [vn] 26 0 false)/\c15<h.next/\Arr h 2 vn (now.map zE)
 g13:h.get c13=some (.row [.func (.func 40) #[] #[]] 74 0 false)
 l13:c13<h.next
 bA:Box h a L
 bB:Box h b M
 o8:OutC h c8 L
 o9:OutC h c9 M
 n:now.length<=1000000
theorem call43 {h0 k:AH} {c15 c8 c13 a b c9:Nat} {L M:GL} {now:List (Int×Int)} {p:Int×Int} (N:Nth h0 c15 c8 c13 a b c9 L M now) (hL:zq L=false) (hM:zq M=false) (hp:(0<=p.1/\p.1<L.n)/\(0<=p.2/\p.2<M.n)) (hk:Ext h0 k) :
  (zX E).call 43 [.agg ⟨zE p⟩,ptr c15,ptr c8,ptr c13,ptr a,ptr b,ptr c9] k=some [(.bool (badP L M now p),k)]:=by
 obtain ⟨⟨p0,p1⟩,p2,p3⟩:=hp
 refine F43_flat (s:=true) hk.ok rfl (P43_0_of ?_)
 obtain ⟨k1,e1,n1,t1,o1,f1⟩:=nwF k (.row (zE p) 54 0 false)
 simp only [zd,zL,zS,e1,zZ]
 obtain ⟨k2,e2,n2,t2,o2,f2⟩:=nwUp o1 (.row [.nilFunc] 71 0 false) (.row [.func (.func 44) #[] #[ptr c15]] 71 0 false)
 have s2:=boxS (t:=71) ts_71 (k:=k1) (z:=.nilFunc) (x:=.func (.func 44) #[] #[ptr c15]) rfl rfl
 rw [e2] at s2
 refine P43_1_of ?_
 simp only [mk_n,zA,z_71,zd,zL,show zf Value.nilFunc=[.nilFunc] from rfl,s2]
 obtain ⟨k3,e3,n3,t3,o3,f3⟩:=nwUp o2 (.row [.nilFunc] 71 0 false) (.row [.func (.func 45) #[] #[ptr c15]] 71 0 false)
 have s3:=boxS (t:=71) ts_71 (k:=k2) (z:=.nilFunc) (x:=.func (.func 45) #[] #[ptr c15]) rfl rfl
 rw [e3] at s3
 refine P43_2_of ?_
 simp only [mk_n,zA,z_71,zd,zL,show zf Value.nilFunc=[.nilFunc] from rfl,s3]
 have ex:=hk.trans o3.ext
 obtain ⟨vn,v1,v2,v3⟩:=N.g15
 have c15g:=(ex.get _ v2).trans v1
 have c15l:c15<k3.next:=Nat.lt_of_lt_of_le v2 ex.next
 have c15a:=v3.ext ex
 have gp:k3.get k.next=some (.row (zE p) 54 0 false):=by rw [f3 _ (by omega),f2 _ (by omega)];exact t1
 have g44:k3.get k1.next=some (.row [.func (.func 44) #[] #[ptr c15]] 71 0 false):=by rw [f3 _ (by omega)];exact t2
 obtain ⟨w,pp,cS,r1,r2,r3,r4,r5⟩:=N.o8.at ex p0 p1
 obtain ⟨w',pp',cS',r1',r2',r3',r4',r5'⟩:=N.o9.at ex p2 p3
 have lp0:zG E 3 k3 (some (.pointer (some ⟨k.next,0+0*1,none⟩)))=some (.int .i64 p.1):=zD (P:=E) zAQ (o:=0+0*1) gp
 have lp1:zG E 3 k3 (some (.pointer (some ⟨k.next,0+1*1,none⟩)))=some (.int .i64 p.2):=zD (P:=E) zAQ (o:=0+1*1) gp
 have i0:zH E 54 (some (.pointer (some ⟨k.next,0,none⟩))) (some (.int .i64 0))=some (.pointer (some ⟨k.next,0+0*1,none⟩)):=ia_54 (k:=0) (by omega)
 have i1:zH E 54 (some (.pointer (some ⟨k.next,0,none⟩))) (some (.int .i64 1))=some (.pointer (some ⟨k.next,0+1*1,none⟩)):=ia_54 (k:=1) (by omega)
 have N':k3.get c13=some (.row [.func (.func 40) #[] #[]] 74 0 false):=(ex.get _ N.l13).trans N.g13
 have l13':c13<k3.next:=Nat.lt_of_lt_of_le N.l13 ex.next
 have hn:=N.n
 have T46:TestE k3 (.func (.func 46) #[] #[ptr c13,ptr a,ptr b,ptr c9,ptr k.next,ptr k1.next]) (zB5 L p.1) fun x=>!ansB L M (fun s t=>decide ((s,t)∈now)) (zB5 M p.2) x:=fun k' y hy hk'=>by
  rw [wCall_6]
  exact call46 N' l13' (N.bA.ext ex) (N.bB.ext ex) (N.o9.ext ex) gp (by omega) g44 (by omega) (test44 c15g c15l c15a (by omega)) rfl hM p2 p3 (outAt_labs hL p0 p1 y hy) hk'
 have T47:TestE k3 (.func (.func 47) #[] #[ptr c13,ptr b,ptr a,ptr c8,ptr k.next,ptr k2.next]) (zB5 M p.2) fun x=>!ansB M L (fun s t=>decide ((t,s)∈now)) (zB5 L p.1) x:=fun k' y hy hk'=>by
  rw [wCall_6]
  exact call47 N' l13' (N.bB.ext ex) (N.bA.ext ex) (N.o8.ext ex) gp (by omega) t3 (by omega) (test45 c15g c15l c15a (by omega)) rfl hL p0 p1 (outAt_labs hM p2 p3 y hy) hk'
 have h1:=call41 (k:=k3) r4 (by omega) (Ext.refl ex.ok) T46
 have h2:=call41 (k:=k3) r4' (by omega) (Ext.refl ex.ok) T47
 refine P43_3_of ?_
 simp only [r1,i0,lp0,r2,r3,zA,mk_n,zR]
 rw [h1,zO]
 unfold badP
 cases hb:(zB5 L p.1).any fun x=>!ansB L M (fun s t=>decide ((s,t)∈now)) (zB5 M p.2) x with
 | true=>
  simp only [zN,zY,show (true==false)=false from rfl,cond_false,cond_true,zA,zL,zJ,zAD,zT,true_and,Bool.true_or]
  exact o3.wm
 | false=>
  simp only [zN,zY,beq_self_eq_true,cond_true,cond_false,r1',i1,lp1,r2',r3',zA,mk_n,zR,zJ]
  rw [h2,zO]
  simp only [zJ,cond_false,zA,zAD,zT,true_and,Bool.false_or]
  exact o3.wm
end Go.Proofs
namespace Go.Proofs
open Go Go.AM Go.Sort
set_option maxRecDepth 100000
set_option maxHeartbeats 1000000
theorem lab_same {c d:CL}:zBK c.1 c.2 d.1 d.2=0 ↔ c=d:=by
 constructor
 ·intro h
  rw [cmpLab_lex] at h
  exact kc_eq h
 ·rintro rfl
  simp [lab_or,c3_self,cmpL_self]
theorem follow_iff {L M:GL} {cs:List CL} {R:List (Int×Int)} {g:Int->Int->Bool} (c1:Sorted cs) (c2:∀ c∈L.labs,c.1≠-1->c∈cs) (c3':∀ c∈M.labs,c.1≠-1->c∈cs) (hL:zq L=false) (hM:zq M=false)
  (hg:∀ a b,g a b=true ↔ (a,b)∈R) {s t:Int} (hs:0<=s/\s<L.n) (ht:0<=t/\t<M.n) {SS:zAF} (hSS:(zAz (L.labs.map (zBp cs)) L)[s.toNat]?=some SS) :
  (SS.all (zBf 1 R (zAz (M.labs.map (zBp cs)) M) (s,t))=true) ↔ (zB5 L s).any (fun x=>!ansB L M g (zB5 M t) x)=false:=by
 obtain ⟨TT,hTT⟩:∃ S,(zAz (M.labs.map (zBp cs)) M)[t.toNat]?=some S:=⟨_,List.getElem?_eq_getElem (by rw [stepsOf_len];omega)⟩
 have lab:∀ (K:GL),zq K=false->∀ x∈K.eds,∃ c,K.labs[x.2.1.toNat]?=some c:=fun K hK x hx=>by
  obtain ⟨j,hj⟩:=List.getElem?_of_mem hx
  obtain ⟨_,_,d3,d4⟩:=bad_edges hK hj
  exact ⟨_,List.getElem?_eq_getElem (by omega)⟩
 have key:∀ x c,x∈L.eds->L.labs[x.2.1.toNat]?=some c->(zBf 1 R (zAz (M.labs.map (zBp cs)) M) (s,t) (zBp cs c,x.2.2)=true ↔ ansB L M g (zB5 M t) x=true):=by
  intro x c hx hc
  unfold zBf zCH
  rw [if_pos rfl]
  simp only [hTT,strongB,List.any_eq_true,stepIs,Bool.and_eq_true,decide_eq_true_eq,ansB]
  constructor
  ·rintro ⟨y,hy,h1,h2⟩
   obtain ⟨f,hf,hf1,rfl⟩:=(zDD hTT y).1 hy
   obtain ⟨d,hd⟩:=lab M hM f hf
   have hv:stepV (M.labs.map (zBp cs)) f=(zBp cs d,f.2.2):=by simp [stepV,hd]
   rw [hv] at h1 h2
   simp only at h1 h2
   refine ⟨f,(outAt_mem ht.1 ht.2 f).2 ⟨hf,hf1⟩,?_,(hg _ _).2 h2⟩
   simp only [sameE,hc,hd,decide_eq_true_eq]
   refine lab_same.2 ?_
   rcases numOf_inj c1 (c3' d (List.mem_of_getElem? hd)) (c2 c (List.mem_of_getElem? hc)) h1 with ⟨e1,e2⟩|e
   ·have a1:=labs_bare hM hd e1
    have a2:=labs_bare hL hc e2
    obtain ⟨g1,l1⟩:=d
    obtain ⟨g2,l2⟩:=c
    simp only at e1 e2 a1 a2
    rw [e1,e2,a1,a2]
   ·exact e.symm
  ·rintro ⟨f,hf,h1,h2⟩
   obtain ⟨hf,hf1⟩:=(outAt_mem ht.1 ht.2 f).1 hf
   obtain ⟨d,hd⟩:=lab M hM f hf
   have hv:stepV (M.labs.map (zBp cs)) f=(zBp cs d,f.2.2):=by simp [stepV,hd]
   simp only [sameE,hc,hd,decide_eq_true_eq] at h1
   have e:=lab_same.1 h1
   subst e
   exact ⟨_,(zDD hTT _).2 ⟨f,hf,hf1,rfl⟩,by rw [hv],by rw [hv];exact (hg _ _).1 h2⟩
 rw [List.all_eq_true,List.any_eq_false]
 constructor
 ·intro h x hx
  obtain ⟨hx,hx1⟩:=(outAt_mem hs.1 hs.2 x).1 hx
  obtain ⟨c,hc⟩:=lab L hL x hx
  have hv:stepV (L.labs.map (zBp cs)) x=(zBp cs c,x.2.2):=by simp [stepV,hc]
  have:=h _ ((zDD hSS _).2 ⟨x,hx,hx1,rfl⟩)
  rw [hv] at this
  rw [(key x c hx hc).1 this];simp
 ·intro h y hy
  obtain ⟨x,hx,hx1,rfl⟩:=(zDD hSS y).1 hy
  obtain ⟨c,hc⟩:=lab L hL x hx
  have hv:stepV (L.labs.map (zBp cs)) x=(zBp cs c,x.2.2):=by simp [stepV,hc]
  rw [hv]
  refine (key x c hx hc).2 ?_
  have:=h x ((outAt_mem hs.1 hs.2 x).2 ⟨hx,hx1⟩)
  simpa using this
def InR (L M:GL) (R:List (Int×Int)):Prop:=∀ p∈R,(0<=p.1/\p.1<L.n)/\(0<=p.2/\p.2<M.n)
theorem rel_good {L M:GL} {R:List (Int×Int)} (hL:zq L=false) (hM:zq M=false) (hr:InR L M R):relV L M ⟨1,R⟩=true ↔ ((0,0)∈R/\∀ p∈R,badP L M R p=false):=by
 obtain ⟨c1,c2,c3'⟩:=csOf_ok L M
 unfold relV
 rw [graphs_eq]
 simp only [relB,Bool.and_eq_true,List.all_eq_true,decide_eq_true_eq,inB,allK,allB]
 have hin:∀ x∈R,x.1<L.n/\x.2<M.n:=fun x hx=>⟨(hr x hx).1.2,(hr x hx).2.2⟩
 have one:∀ p∈R,∀ S,(zAz (L.labs.map (zBp (csOf L M))) L)[p.1.toNat]?=some S->(S.all (zBf 1 R (zAz (M.labs.map (zBp (csOf L M))) M) p)=true ↔ (zB5 L p.1).any (fun x=>!ansB L M (fun s t=>decide ((s,t)∈R)) (zB5 M p.2) x)=false):=fun p hp S hS=>follow_iff c1 c2 c3' hL hM (fun a b=>by simp) (hr p hp).1 (hr p hp).2 hS
 have two:∀ p∈R,∀ S,(zAz (M.labs.map (zBp (csOf L M))) M)[p.2.toNat]?=some S->(S.all (zBf 1 (R.map zC0) (zAz (L.labs.map (zBp (csOf L M))) L) (zC0 p))=true ↔ (zB5 M p.2).any (fun x=>!ansB M L (fun s t=>decide ((t,s)∈R)) (zB5 L p.1) x)=false):=fun p hp S hS=>
  follow_iff c1 c3' c2 hM hL (fun a b=>by
   simp only [decide_eq_true_eq,List.mem_map]
   constructor
   ·exact fun h=>⟨_,h,rfl⟩
   ·rintro ⟨q,hq,e⟩
    obtain ⟨q1,q2⟩:=q
    simp only [zC0,Prod.mk.injEq] at e
    rw [← e.1,← e.2];exact hq) (hr p hp).2 (hr p hp).1 hS
 have sl:∀ p∈R,∃ S,(zAz (L.labs.map (zBp (csOf L M))) L)[p.1.toNat]?=some S:=fun p hp=>⟨_,List.getElem?_eq_getElem (by rw [stepsOf_len];have:=(hr p hp).1;omega)⟩
 have sm:∀ p∈R,∃ S,(zAz (M.labs.map (zBp (csOf L M))) M)[p.2.toNat]?=some S:=fun p hp=>⟨_,List.getElem?_eq_getElem (by rw [stepsOf_len];have:=(hr p hp).2;omega)⟩
 constructor
 ·rintro ⟨_,⟨hz,h1⟩,h2⟩
  refine ⟨hz,fun p hp=>?_⟩
  obtain ⟨S,hS⟩:=sl p hp
  obtain ⟨T,hT⟩:=sm p hp
  have a1:=h1 p hp
  rw [hS] at a1
  have a2:=h2 (zC0 p) (List.mem_map.2 ⟨p,hp,rfl⟩)
  rw [show (zC0 p).1=p.2 from rfl,hT] at a2
  unfold badP
  rw [(one p hp S hS).1 (by simpa using a1),(two p hp T hT).1 (by simpa using a2)]
  rfl
 ·rintro ⟨hz,hb⟩
  refine ⟨hin,⟨hz,fun p hp=>?_⟩,fun q hq=>?_⟩
  ·obtain ⟨S,hS⟩:=sl p hp
   rw [hS]
   have:=hb p hp
   unfold badP at this
   simp only [Bool.or_eq_false_iff] at this
   simpa using (one p hp S hS).2 this.1
  ·obtain ⟨p,hp,rfl⟩:=List.mem_map.1 hq
   obtain ⟨T,hT⟩:=sm p hp
   rw [show (zC0 p).1=p.2 from rfl,hT]
   have:=hb p hp
   unfold badP at this
   simp only [Bool.or_eq_false_iff] at this
   simpa using (two p hp T hT).2 this.2
theorem cmpP_trans {p q r:Int×Int} (h1:cmpP p q<0) (h2:cmpP q r<0):cmpP p r<0:=by
 rw [cmpP_lt] at *;omega
def Strict (l:List (Int×Int)):Prop:=l.Pairwise fun p q=>cmpP p q<0
theorem lnk_of {F:List (Int×Int)} (hn:F.length<=200000) (h0:∀ p∈F,0<=p.1/\0<=p.2) (hs:Strict F):zBD ⟨1,F⟩=0:=by
 unfold zBD
 rw [if_neg (by simp [zCi]),if_neg (by simp only;omega),if_neg]
 rw [Bool.not_eq_true]
 refine anyFrom_of fun j _ hj=>?_
 simp only at hj
 obtain ⟨p,hp⟩:∃ p,F[j]?=some p:=⟨_,List.getElem?_eq_getElem (by omega)⟩
 have hpm:=h0 p (List.mem_of_getElem? hp)
 simp only [zCB,hp,Bool.or_eq_false_iff,decide_eq_false_iff_not]
 refine ⟨by omega,?_⟩
 by_cases hj0:0<j
 ·rw [decide_eq_true hj0]
  obtain ⟨q,hq⟩:∃ q,F[j-1]?=some q:=⟨_,List.getElem?_eq_getElem (by omega)⟩
  simp only [hq,Bool.true_and,decide_eq_false_iff_not]
  have:=List.pairwise_iff_getElem.1 hs (j-1) j (by omega) (by omega) (by omega)
  rw [(List.getElem?_eq_some_iff.1 hp).2,(List.getElem?_eq_some_iff.1 hq).2] at this
  omega
 ·rw [decide_eq_false hj0];rfl
theorem strict_of {l:List (Int×Int)} (h:∀ (j:Nat) (p q:Int×Int),l[j]?=some p->l[j+1]?=some q->cmpP p q<0):Strict l:=by
 have:∀ (m i:Nat) (p q:Int×Int),l[i]?=some p->l[i+1+m]?=some q->cmpP p q<0:=by
  intro m
  induction m with
  | zero=>intro i p q hp hq;exact h i p q hp hq
  | succ m ih=>
   intro i p q hp hq
   have hlt:=(List.getElem?_eq_some_iff.1 hq).1
   obtain ⟨r,hr⟩:∃ r,l[i+1+m]?=some r:=⟨_,List.getElem?_eq_getElem (by omega)⟩
   exact cmpP_trans (ih i p r hp hr) (h _ r q hr hq)
 refine List.pairwise_iff_getElem.2 fun i j hi hj hij=>?_
 exact this (j-i-1) i _ _ (List.getElem?_eq_getElem hi) (by rw [show i+1+(j-i-1)=j by omega];exact List.getElem?_eq_getElem hj)
theorem dd_eq {d:Dt}:∀ j,(dd d j).length=j->∀ q,1<=q->q<j->d[q]!≠d[q-1]!
 | 0,_,q,_,h=>by omega
 | j+1,hl,q,h1,h2=>by
  simp only [dd] at hl
  split at hl
  ·have:=dd_len d j;omega
  ·rename_i hne
   have hl':(dd d j).length=j:=by simpa using hl
   by_cases e:q=j
   ·subst e;exact fun h=>hne ⟨by omega,h⟩
   ·exact dd_eq j hl' q h1 (by omega)
structure Fin8 (L M:GL) (P F:List (Int×Int)):Prop where
 sub:F.Sublist P
 same:zAu L M ⟨1,P⟩=0->F=P
 good:∀ p∈F,badP L M F p=false
theorem fin_no {L M:GL} {P F:List (Int×Int)} (hL:zq L=false) (hM:zq M=false) (H:Fin8 L M P F) (hz:((0:Int),(0:Int)) ∉ F):zAu L M ⟨1,P⟩=360/\zAu L M ⟨1,F⟩=360:=by
 refine ⟨refused hL hM (by simp [zCi]) fun h=>?_,refused hL hM (by simp [zCi]) fun h=>hz (check_basic h).2⟩
 have:=(check_basic h).2
 simp only at this
 rw [H.same h] at hz
 exact hz this
theorem fin_yes {L M:GL} {P F:List (Int×Int)} (hL:zq L=false) (hM:zq M=false) (hr:InR L M P) (hn:P.length<=300) (H:Fin8 L M P F) (hz:((0:Int),(0:Int))∈F) (hs:Strict P) :
  zAu L M ⟨1,F⟩=0/\(zAu L M ⟨1,P⟩=0 ↔ F.length=P.length):=by
 have hsub:=H.sub
 have hlen:=hsub.length_le
 have hrF:InR L M F:=fun p hp=>hr p (hsub.subset hp)
 have hv:zAu L M ⟨1,F⟩=0:=by
  unfold zAu
  rw [hL,hM,if_neg (by decide),lnk_of (by omega) (fun p hp=>⟨(hrF p hp).1.1,(hrF p hp).2.1⟩) (List.Pairwise.sublist hsub hs),if_neg (by decide),if_pos ((rel_good hL hM hrF).2 ⟨hz,H.good⟩)]
 refine ⟨hv,fun h=>by rw [H.same h],fun h=>?_⟩
 rw [← hsub.eq_of_length h];exact hv
theorem good_of {L M:GL} {P:List (Int×Int)} (hL:zq L=false) (hM:zq M=false) (hr:InR L M P) (h:zAu L M ⟨1,P⟩=0):∀ p∈P,badP L M P p=false:=
 ((rel_good hL hM hr).1 (check0 h).2.2.2).2
end Go.Proofs
