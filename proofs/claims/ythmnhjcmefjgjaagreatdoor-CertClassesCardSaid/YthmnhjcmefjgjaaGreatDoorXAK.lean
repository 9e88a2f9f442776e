import Derived.ChangeArms
import Derived.DataReads
import Derived.Laws.StructEq
import Derived.Test.YthmnhjcmefjgjaaGreatDoorXAH
import Derived.Test.YthmnhjcmefjgjaaGreatDoorXAJ
import Derived.Test.YthmnhjcmefjgjaaGreatDoorXAD
import Derived.Test.YthmnhjcmefjgjaaGreatDoorXAG
set_option linter.all false
set_option linter.unusedSectionVars false
set_option autoImplicit true
set_option relaxedAutoImplicit true
set_option maxRecDepth 100000
set_option maxHeartbeats 1000000
namespace Go.Proofs
open Go Go.AM
structure More(w:World)(σ:Sg)(h:AH)(σ':Sg)(h':AH):Prop where
 le:Sg.le σ σ'
 ext:Ext h h'
 hr:HR w.heap.size σ' h' w
def More.refl{w:World}{σ:Sg}{h:AH}(H:HR w.heap.size σ h w)(ok:h.ok):More w σ h σ h:=⟨Sg.le_refl σ,Ext.refl ok,H⟩
def More.trans{w:World}{σ σ1 σ2:Sg}{h h1 h2:AH}(a:More w σ h σ1 h1)(b:More w σ1 h1 σ2 h2):More w σ h σ2 h2:=⟨Sg.le_trans a.le b.le,a.ext.trans b.ext,b.hr⟩
def More.ok{w:World}{σ σ':Sg}{h h':AH}(a:More w σ h σ' h'):h'.ok:=a.ext.ok
def HR.addRO{σ:Sg}{h:AH}{w:World}(H:HR w.heap.size σ h w)(aa:h.ok){vs:List Value}{el:TypeId}{cs:Array Value}{frz:Nat×Nat}{l:AM.Loc}(hb:w.heap[l.blk]?=some (.cells cs el frz))
  (hsz:l.base+vs.length<=cs.size) (hc:∀ i v,vs[i]?=some v->∃ v',cs[l.base+i]?=some v'/\VR σ v v') :
  More w σ h (σ.ext h.qa l) (h.new (.row vs el 0 true)):=by
 have ab:l.blk<w.heap.size:=zAr hb;have le:Sg.le σ (σ.ext h.qa l):=Sg.le_ext H.free;refine⟨le,(Ext.refl aa).new _,?_,?_,?_,?_,xAF _⟩
 ·intro b m e;unfold Sg.ext at e;split at e
  ·rename_i hb;subst hb;simp
  ·have:=H.dom _ _ e;simp;omega
 ·intro b hb;rw[AH.get_new];simp at hb;rw[if_neg (by omega)];exact H.qb b (by omega)
 ·intro b x e;rw[AH.get_new] at e;by_cases ao:b=h.qa
  ·subst ao;rw[if_pos rfl] at e;cases e;exact⟨l,Sg.ext_self ..,⟨cs,el,frz,hb,hsz,fun i v hi=>(let ⟨v',a,b⟩:=hc i v hi;⟨v',a,b.mono le⟩),fun e=>(by cases e),rfl,fun _ e=>(by cases e),fun e=>absurd rfl e⟩,fun e=>(by cases e)⟩
  ·rw[if_neg ao] at e;obtain⟨m,a,c,d⟩:=H.live b x e;refine⟨m,le _ _ a,c.mono le rfl (fun i es v lm hi hs=>?_),d⟩;rw[AH.get_new] at hi;have ai:i≠h.qa:=by intro e;subst e;rw[H.free] at hs;cases hs
   rw[if_neg ai] at hi;exact⟨hi,rfl⟩
 ·have other:∀ b' o2 l2,(h.new (.row vs el 0 true)).get b'=some o2->(σ.ext h.qa l) b'=some l2->l.blk=l2.blk->b'≠h.qa->zin o2=true:=by
   intro b' o2 l2 e2 s2 be ah;rw[AH.get_new,if_neg ah] at e2;unfold Sg.ext at s2;rw[if_neg ah] at s2;obtain⟨m,a,c,d⟩:=H.live b' _ e2;rw[s2] at a;cases a;cases c6:zin o2 with
   | true=>rfl
   | false=>have:=d c6;omega
  intro b b' o1 o2 l1 l2 e1 e2 s1 s2 be ah;by_cases bN:b=h.qa
  ·subst bN;have e1':=e1;rw[AH.get_new,if_pos rfl] at e1';cases e1';have s1':=s1;rw[Sg.ext_self] at s1';cases s1';exact⟨rfl,other _ _ _ e2 s2 be (fun e=>ah e.symm)⟩
  ·by_cases bz:b'=h.qa
   ·subst bz;have e1':=e2;rw[AH.get_new,if_pos rfl] at e1';cases e1';have s1':=s2;rw[Sg.ext_self] at s1';cases s1';exact⟨other _ _ _ e1 s1 be.symm bN,rfl⟩
   ·rw[AH.get_new,if_neg bN] at e1;rw[AH.get_new,if_neg bz] at e2;unfold Sg.ext at s1 s2;rw[if_neg bN] at s1;rw[if_neg bz] at s2;exact H.inj b b' o1 o2 l1 l2 e1 e2 s1 s2 be ah
inductive Els{α:Type}(R:List Value->α->Prop):List (List Value)->List α->Prop
 | nil:Els R [] []
 | cons {e:List Value} {a:α} {es:List (List Value)} {aas:List α} (h:R e a) (hs:Els R es aas):Els R (e::es) (a::aas)
def Els.mono{α:Type}{R S:List Value->α->Prop}(H:∀ e a,R e a->S e a):∀ {es:List (List Value)} {aas:List α},Els R es aas->Els S es aas
 | _,_,.nil=>.nil
 | _,_,.cons h hs=>.cons (H _ _ h) (Els.mono H hs)
def zPs{z:Nat}:∀(els:List (List Value)),(∀ e∈els,e.length=z)->els.flatten.length=els.length*z
 | [],_=>by simp
 | e::es,H=>by
  rw[List.flatten_cons,List.length_append,H e (by simp),zPs es fun x hx=>H x (by simp[hx]),List.length_cons,Nat.add_mul];omega
def zPt{z:Nat}:∀(els:List (List Value)),(∀ e∈els,e.length=z)->∀ k e,els[k]?=some e->(els.flatten.drop (k*z)).take z=e
 | [],_,k,e,h=>by simp at h
 | x::es,H,0,e,h=>by
  simp at h;subst h;rw[List.flatten_cons,Nat.zero_mul,List.drop_zero];have:=H x (by simp);rw[← this,List.take_left'];rfl
 | x::es,H,k+1,e,h=>by
  rw[List.flatten_cons];have hx:=H x (by simp);rw[show (k+1)*z=x.length+k*z by rw[hx,Nat.add_mul];omega,← List.drop_drop,List.drop_left']
  ·exact zPt es (fun y hy=>H y (by simp[hy])) k e (by simpa using h)
  ·rfl
def zOO{z:Nat}:∀(els:List (List Value)),(∀ e∈els,e.length=z)->∀ i v,els.flatten[i]?=some v->∃ k e j,els[k]?=some e/\e[j]?=some v/\i=k*z+j
 | [],_,i,v,h=>by simp at h
 | x::es,H,i,v,h=>by
  have hx:=H x (by simp);rw[List.flatten_cons] at h;by_cases hi:i<x.length
  ·rw[List.getElem?_append_left hi] at h;exact⟨0,x,i,rfl,h,by omega⟩
  ·rw[List.getElem?_append_right (by omega)] at h;obtain⟨k,e,j,a,b,c⟩:=zOO es (fun y hy=>H y (by simp[hy])) _ _ h;exact⟨k+1,e,j,by simpa using a,b,by rw[Nat.add_mul];omega⟩
def zQA{w:World}{a:Addr}{v:Value}(h:w.cell? a=some v):∃ C el frz,w.heap[a.block]?=some (.cells C el frz)/\a.spot=none/\C[a.off]?=some v:=by
 unfold World.cell? at h;split at h
 ·rename_i C el frz hb;cases hs:a.spot with
  | some s=>rw[hs] at h;simp at h
  | none=>rw[hs] at h;exact⟨C,el,frz,hb,rfl,by simpa using h⟩
 ·cases h
def zWd(a:Addr)(n:Nat):(a.add n).off=a.off+n:=by unfold Addr.add;split <;> simp_all
def zK7(a:Addr)(n:Nat):(a.add n).block=a.block:=by unfold Addr.add;split <;> rfl
def zUT{w:World}{base z i:Nat}{a:Addr}{cs:List Value}(hz:0<z)(h:w.cells? base (a.add (i*z)) z=some cs) :
  ∃ C el frz,w.heap[a.block]?=some (.cells C el frz)/\cs.length=z/\(i=0->a.spot=none)/\∀ j,j<z->C[a.off+i*z+j]?=cs[j]?:=by
 obtain⟨_,hl,hg⟩:=World.cells?_some h;have h0:=hg 0 hz;have hv:∃ v,cs[0]?=some v:=⟨_,xAA (by omega)⟩;obtain⟨v,hv⟩:=hv;rw[hv] at h0;obtain⟨C,el,frz,hb,hs,_⟩:=zQA h0;rw[zK7,zK7] at hb;refine⟨C,el,frz,hb,hl,fun hi=>?_,fun j hj=>?_⟩
 ·subst hi;simp only[Nat.zero_mul] at hs;have e:∀ b:Addr,b.add 0=b:=fun b=>by simp[Addr.add]
  rw[e,e] at hs;exact hs
 ·have fh:=hg j hj;obtain⟨u,hu⟩:∃ u,cs[j]?=some u:=⟨_,xAA (by omega)⟩;rw[hu] at fh ⊢;obtain⟨C',el',frz',ao,_,aH⟩:=zQA fh;rw[zK7,zK7,hb] at ao;cases ao;rw[zWd,zWd] at aH;exact aH
section
variable {H:Type} {enc:TypeId×Value->H} {P:Program} {w:World} {base:Nat} {held:Bool}
def Step(enc:TypeId×Value->H)(P:Program)(w:World)(base:Nat)(held:Bool){α:Type}(R:AH->List Value->α->Prop)(n:Nat)(t:TypeId):Prop:=
 ∀(cs:List Value) (x:DataW H×List MemPlace) (σ:Sg) (h:AH),h.ok->HR w.heap.size σ h w->DataW.trod enc P w base (fun _=>true) held n t cs=some x->
  ∃ σ' h' vs a,More w σ h σ' h'/\VRs σ' vs cs/\R h' vs a
def zWI{α:Type}{R:AH->List Value->α->Prop}(hR:∀ h k es a,Ext h k->R h es a->R k es a){e:TypeId}{z n:Nat}(hz:0<z)(io:P.cellsOf e=z){a:Addr}{C:Array Value}{el:TypeId}{frz:Nat×Nat}(hC:w.heap[a.block]?=some (.cells C el frz))
  (step:Step enc P w base held R n e):∀(m i:Nat) (σ:Sg) (h:AH),h.ok->HR w.heap.size σ h w->
   (∀ k,k<m->∃ x,(w.cells? base (a.add ((i+k)*z)) z).bind (DataW.trod enc P w base (fun _=>true) held n e)=some x)->
   ∃ σ' h' els aas,More w σ h σ' h'/\Els (R h') els aas/\els.length=m/\∀ k u,els[k]?=some u->u.length=z/\∀ j v,u[j]?=some v->∃ v',C[a.off+(i+k)*z+j]?=some v'/\VR σ' v v':=by
 intro m
 induction m with
 | zero=>intro i σ h aa hH _;exact⟨σ,h,[],[],.refl hH aa,.nil,rfl,fun k u hk=>by simp at hk⟩
 | succ m ih=>
  intro i σ h aa hH hr;obtain⟨x,hx⟩:=hr 0 (by omega);obtain⟨cs,aM,bW⟩:=Option.bind_eq_some_iff.1 hx;obtain⟨C',el',frz',hb,hl,_,hg⟩:=zUT hz aM;rw[hC] at hb;cases hb;obtain⟨σ1,h1,vs,b,m1,v1,r1⟩:=step cs x σ h aa hH bW;obtain⟨σ2,h2,els,aas,m2,e2,l2,g2⟩:=ih (i+1) σ1 h1 m1.ok m1.hr (fun k hk=>by
   have:=hr (k+1) (by omega);rw[show i+1+k=i+(k+1) by omega];exact this)
  refine⟨σ2,h2,vs::els,b::aas,m1.trans m2,.cons (hR _ _ _ _ m2.ext r1) e2,by simp[l2],fun k u hk=>?_⟩;cases k with
  | zero=>
   simp at hk;subst hk;refine⟨by rw[v1.length,hl],fun j v hj=>?_⟩;obtain⟨v',q1,q2⟩:=v1.get hj;have hjz:j<z:=by have:=(List.getElem?_eq_some_iff.1 q1).1;omega
   exact⟨v',by rw[hg j hjz];exact q1,q2.mono m2.le⟩
  | succ k=>
   simp only[List.getElem?_cons_succ] at hk;rw[show i+(k+1)=i+1+k by omega];exact g2 k u hk
def zG8{α:Type}{R:AH->List Value->α->Prop}(hR:∀ h k es a,Ext h k->R h es a->R k es a){t e:TypeId}{z n:Nat}(ht:P.underlying t=some (.slice e))(hz:0<z)(io:P.cellsOf e=z)
  (step:∀ m,n=m+1->Step enc P w base held R m e) :
  ∀(cs:List Value) (x:DataW H×List MemPlace) (σ:Sg) (h:AH),h.ok->HR w.heap.size σ h w->DataW.trod enc P w base (fun _=>true) held n t cs=some x->
   ∃ σ' h' v v' els aas,cs=[v']/\More w σ h σ' h'/\VR σ' v v'/\Arr h' z v els/\Els (R h') els aas/\els.length<=9223372036854775807/\∃ ad n c,v=.slice ad n c/\n<=c/\c<UNK:=by
 intro cs x σ h aa hH bW;rcases DataW.trod_slice ht bW with ⟨rfl,_⟩|⟨a,len,cap,elems,rest,m,hm,rfl,_,_,hlc,dD,bv,hE,hS,_⟩
 ·exact⟨σ,h,.slice none 0 0,_,[],[],rfl,.refl hH aa,.sliceN 0 0,.nil _ _,.nil,by simp,_,_,_,rfl,xAF _,by decide⟩
 have fH:len<=9223372036854775807:=by unfold maxLen at dD;omega
 by_cases aA:cap=0
 ·subst aA;obtain rfl:len=0:=by omega
  exact⟨σ,h,.slice (some ⟨0,0,some 0⟩) 0 0,_,[],[],rfl,.refl hH aa,.sliceS a,.nil _ _,.nil,by simp,_,_,_,rfl,xAF _,by decide⟩
 have first:∃ cs0,w.cells? base (a.add (0*z)) z=some cs0:=by
  by_cases hl:len=0
  ·obtain⟨s1,s2⟩:=hS rfl;have:=s2 0 (by omega);rw[hl,Nat.add_zero,io,xAA (by omega)] at this;obtain⟨c0,q,_⟩:=Option.bind_eq_some_iff.1 this;exact⟨c0,q⟩
  ·have:=hE 0 (by omega);rw[io,xAA (by omega)] at this;obtain⟨c0,q,_⟩:=Option.bind_eq_some_iff.1 this;exact⟨c0,q⟩
 obtain⟨cs0,jB⟩:=first
 obtain⟨C,el,frz,hC,_,dr,_⟩:=zUT hz jB;have dr:=dr rfl;obtain⟨ablk,aoff,asp⟩:=a;simp only at dr hC;subst dr;obtain⟨σ1,h1,els,aas,m1,e1,l1,g1⟩:=zWI (a:=⟨ablk,aoff,none⟩) hR hz io hC (step m hm) len 0 σ h aa hH (fun k hk=>by
  have:=hE k hk;rw[io,xAA (by omega)] at this;rw[xAK];exact⟨_,this⟩)
 have hlen:∀ u∈els,u.length=z:=fun u hu=>by
  obtain⟨k,hk⟩:=List.getElem?_of_mem hu;exact (g1 k u hk).1
 have cw:=zPs els hlen;have m2:=HR.addRO m1.hr m1.ok (vs:=els.flatten) (l:=⟨ablk,aoff,0,0⟩) hC (by
  by_cases h0:els.flatten.length=0
  ·rw[h0];simp only[Nat.add_zero];obtain⟨C',_,_,ao,ct,_,fj⟩:=zUT hz jB;simp only at ao;rw[hC] at ao;cases ao;have:=fj 0 hz;simp only[Nat.zero_mul,Nat.add_zero] at this;have h2:aoff<C.size:=by
    rcases Nat.lt_or_ge aoff C.size with h|h
    ·exact h
    ·rw[Array.getElem?_eq_none h,xAA (by omega)] at this;cases this
   omega
  ·have ab:els.flatten.length-1<els.flatten.length:=by omega
   obtain⟨k,u,j,a1,a2,a3⟩:=zOO els hlen _ _ (xAA ab);obtain⟨v',q1,_⟩:=(g1 k u a1).2 j _ a2;have:=(Array.getElem?_eq_some_iff.1 q1).1;simp only[xAK] at this;simp only;omega) (fun i v hi=>by
  obtain⟨k,u,j,a1,a2,a3⟩:=zOO els hlen _ _ hi;obtain⟨v',q1,q2⟩:=(g1 k u a1).2 j _ a2;refine⟨v',?_,q2⟩;simp only[xAK] at q1;simp only;rw[a3,← Nat.add_assoc];exact q1)
 refine⟨_,_,.slice (some ⟨h1.qa,0,none⟩) els.length cap,.slice (some ⟨ablk,aoff,none⟩) len cap,els,aas,rfl,m1.trans m2,?_,?_,e1.mono fun u a r=>hR _ _ _ _ m2.ext r,by omega,_,_,_,rfl,by omega,by unfold maxLen at dD;unfold UNK;omega⟩
 ·have:=VR.slice (σ:=σ1.ext h1.qa ⟨ablk,aoff,0,0⟩) (b:=h1.qa) (l:=⟨ablk,aoff,0,0⟩) 0 len cap (Sg.ext_self ..) (by unfold maxLen at dD;unfold UNK;omega);rw[l1];exact this
 ·refine .row (vs:=els.flatten) (ty:=el) (es:=0) (ro:=true) (by rw[AH.get_new,if_pos rfl]) (by simp) (by rw[cw];omega) fun i u hu=>⟨(g1 i u hu).1,by rw[xAK];exact zPt els hlen i u hu⟩
def zFT{α:Type}{R:AH->List Value->α->Prop}(hR:∀ h k es a,Ext h k->R h es a->R k es a){t e:TypeId}{z n:Nat}(ht:P.underlying t=some (.slice e))(hz:0<z)(io:P.cellsOf e=z)
  (step:∀ m,n=m+1->Step enc P w base held R m e) :
  ∀(cs:List Value) (x:DataW H×List MemPlace) (σ:Sg) (h:AH),h.ok->HR w.heap.size σ h w->DataW.trod enc P w base (fun _=>true) held n t cs=some x->
   ∃ σ' h' v v' els aas,cs=[v']/\More w σ h σ' h'/\VR σ' v v'/\Arr h' z v els/\Els (R h') els aas/\els.length<=9223372036854775807:=by
 intro cs x σ h aa hH bW;obtain⟨σ',h',v,v',els,aas,a,b,c,d,e,f,_⟩:=zG8 hR ht hz io step cs x σ h aa hH bW;exact⟨σ',h',v,v',els,aas,a,b,c,d,e,f⟩
end
end Go.Proofs
namespace Go.Proofs
open Go Go.AM
abbrev Ed:=Int×Int×Int
def znm:List (List Ed)->List Ed->List (List Ed)
 | EE,[]=>EE
 | EE,e::l=>znm (EE.set e.1.toNat ((EE[e.1.toNat]?.getD [])++[e])) l
def outOf(L:GL):List (List Ed):=znm (List.replicate L.n.toNat []) L.eds
abbrev i1(n:Int):List Value:=[iI n]
def zHF{h k:AH}{v:Value}{l:List Int}(ha:Arr h 1 v (l.map i1))(e:Ext h k){i:Nat}{n:Int}(hi:l[i]?=some n) :
  ∃ p,zE E 47 (some v) (some (iI (i:Int)))=some p/\zH E 3 k (some p)=some (iI n):=by
 have hx:(l.map i1)[i]?=some (i1 n):=by rw[List.getElem?_map,hi];rfl
 obtain⟨b,o,c,vs,ty,es,ro,rfl,hb,ab,bc,hz,hl⟩:=ha.load hx;have bi:i<(l.map i1).length:=(List.getElem?_eq_some_iff.1 hx).1;refine⟨_,zVQ bi,?_⟩;rw[zF (P:=E) zAa ((e.get b ab).trans hb),zA2];have:((vs.drop (o+i*1)).take 1)[0]?=some (iI n):=by rw[hz];rfl
 rw[List.getElem?_take_of_lt (by omega),List.getElem?_drop] at this;simpa using this
def LS.arr{lo:Nat}{k:AH}{v:Value}{L:List Int}(h:LS lo k v L):Arr k 1 v (L.map i1):=by
 obtain⟨b,c,rfl,h1,h2,h3⟩:=h;have key:∀ es,k.get b=some (.row (ints L) 3 es false)->Arr k 1 (.slice (some ⟨b,0,none⟩) L.length c) (L.map i1):=by
  intro es hb;have:=Arr.row (z:=1) (c:=c) (o:=0) (els:=L.map i1) hb h2 (by simp[ints]) (fun i e he=>by
   rw[List.getElem?_map] at he;obtain⟨n,hn,rfl⟩:=Option.map_eq_some_iff.1 he;refine⟨rfl,?_⟩;have bi:i<L.length:=(List.getElem?_eq_some_iff.1 hn).1;rw[show 0+i*1=i by omega,List.drop_eq_getElem_cons (by simpa[ints] using bi)];simp[ints,(List.getElem?_eq_some_iff.1 hn).2])
  rw[List.length_map] at this;exact this
 rcases h3 with ⟨_,_,hb⟩|⟨_,hb⟩
 ·exact key _ hb
 ·exact key _ hb
def zn4{α:Type}[DecidableEq α](l:List α)(x:α):decide (0<=zAH (fun i=>decide (l[i]?=some x)) l.length 0)=decide (x∈l):=by
 by_cases h:x∈l
 ·rw[xAJ h,xAJ];rcases Int.lt_or_le (zAH (fun i=>decide (l[i]?=some x)) l.length 0) 0 with h'|h'
  ·have:=(zBv l.length 0).2 h';obtain⟨i,hi⟩:=List.getElem?_of_mem h;have h2:=this i (Nat.zero_le _) (by have:=(List.getElem?_eq_some_iff.1 hi).1;omega);simp[hi] at h2
  ·exact h'
 ·rw[xAI h,xAI];have:zAH (fun i=>decide (l[i]?=some x)) l.length 0<0:=(zBv l.length 0).1 fun j _ _=>by
   refine xAI fun hj=>h (List.mem_of_getElem? hj)
  omega
def zoN{h0 k:AH}{v:Value}{l:List Int}{x:Int}(ha:Arr h0 1 v (l.map i1))(hn:l.length<=9223372036854775807)(hk:Ext h0 k) :
  (zV E).call 87 [v,iI x] k=some [(iI (zAH (fun i=>decide (l[i]?=some x)) l.length 0),k)]:=by
 obtain⟨ad,c,hv⟩:=ha.slice;rw[List.length_map] at hv;refine zhS (s:=true) hk.ok rfl (zf0 ?_);refine zfz ?_;have loop:∀(m i:Nat),i+m=l.length->zsB true (KR E [.tmp 2] (fun y l'=>y=iI (zAH (fun i=>decide (l[i]?=some x)) m i)/\k.qa<=l'.wm)) v (iI x) (iI (l.length:Int)) (iI (i:Int)) k.qb:=by
  intro m
  induction m with
  | zero=>
   intro i hi;refine zQN ?_;simp only[zY,zA,zAN];refine⟨fun h=>by omega,fun _=>zfu ?_⟩;simp[zA,zAS,zU,zAH]
  | succ m ih=>
   intro i hi;have ai:i<l.length:=by omega
   refine zQN ?_;simp only[zY,zA,zAN];refine⟨fun _=>zfy ?_,fun h=>by omega⟩;refine zfx ?_;obtain⟨p,q1,q2⟩:=zHF ha hk.qb (xAA ai);simp only[zA,q1,q2,zAd,zAN];refine⟨fun h=>zfw ?_,fun h=>zfv ?_⟩
   ·simp only[zA,zAS,zU,true_and,zAH,xAA ai,← h,decide_true,if_true];rw[zAm];omega
   ·simp only[zA,zAK _ (zDu ai hn)];have:=ih (i+1) (by omega);have ah:decide (l[i]?=some x)=false:=xAI (by rw[xAA ai];intro e;exact h (Option.some.inj e).symm);simp only[zAH,ah,Bool.false_eq_true,if_false];exact this
 rw[hv];simp only[zA,zU2];rw[← hv];exact loop l.length 0 (by omega)
def zi6{h0 k:AH}{v:Value}{l:List Int}{x:Int}(ha:Arr h0 1 v (l.map i1))(hn:l.length<=9223372036854775807)(hk:Ext h0 k) :
  (zV E).call 27 [v,iI x] k=some [(.bool (decide (x∈l)),k)]:=by
 refine zhZ (s:=true) hk.ok rfl (zgz ?_);refine zgy ?_;simp only[zA,zS,zoN ha hn hk.qb,zO,zAZ,zn4,zAS,zU,true_and];rw[zAm];omega
end Go.Proofs
namespace Go.Proofs
open Go Go.AM Go.Sort
def zEX(p:Nat->Bool):∀(n i:Nat),(zAH p n i=-1/\∀ j,i<=j->j<i+n->p j=false)\/∃ j,(i<=j/\j<i+n)/\zAH p n i=(j:Int)/\p j=true/\∀ q,i<=q->q<j->p q=false
 | 0,i=>.inl ⟨rfl,fun j h1 h2=>by omega⟩
 | n+1,i=>by
  cases h:p i with
  | true=>exact .inr ⟨i,⟨xAF _,by omega⟩,by simp[zAH,h],h,fun q h1 h2=>by omega⟩
  | false=>
   rcases zEX p n (i+1) with ⟨h1,h2⟩|⟨j,h1,h2,h3,h4⟩
   ·refine .inl ⟨by simp[zAH,h,h1],fun j a b=>?_⟩;by_cases e:j=i
    ·rw[e];exact h
    ·exact h2 j (by omega) (by omega)
   ·refine .inr ⟨j,by omega,by simp[zAH,h,h2],h3,fun q a b=>?_⟩;by_cases e:q=i
    ·rw[e];exact h
    ·exact h4 q (by omega) b
def zJK(d:Dt)(i:Nat):zHD d=(d.toList.take i).flatMap zG++(d.toList.drop i).flatMap zG:=by
 unfold zHD;rw[← List.flatMap_append,List.take_append_drop]
def zLO{α:Type}(l:List α)(i:Nat)(v:α)(hi:i<l.length):(l.set i v).take (i+1)=l.take i++[v]:=by
 rw[List.take_add_one,List.take_set,List.set_eq_of_length_le (by simp;omega),List.getElem?_set_self hi];rfl
def zF0{d:Dt}{j:Nat}(h:j<d.size):d.toList[j]?=some d[j]!:=by
 rw[getElem!_pos d j h];simp[h]
def zKS{d:Dt}{j:Nat}(h:j<d.size):d.toList.take (j+1)=d.toList.take j++[d[j]!]:=by
 rw[List.take_add_one,zF0 h];rfl
def zNt:∀ n,(rep n [iI 0,iI 0]).flatMap (zDm 4)=[]
 | 0=>rfl
 | n+1=>by simp only[rep,List.flatMap_append,zNt n];rfl
structure Cut(b ty es:Nat)(k:AH)(v:Value)(m:AH)(l:List (Int×Int)):Prop where
 v:v=sl b l.length (UNK+2)
 row:∃ rest,m.get b=some (.row (l.flatMap zG++rest) ty es false)/\rest.flatMap (zDm 4)=[]
 fx:Fx (fun c=>c=b) k m
section
variable {b ty es:Nat} {k h0:AH} {d:Dt} {cf:Value} {f:Int×Int->Bool}
end
def dd(d:Dt):Nat->List (Int×Int)
 | 0=>[]
 | j+1=>if 0<j/\d[j]! = d[j-1]! then dd d j else dd d j++[d[j]!]
def zVi(d:Dt):∀(j q:Nat),q<j->d[q]!∈dd d j
 | 0,q,h=>by omega
 | j+1,q,h=>by
  simp only[dd];by_cases e:q=j
  ·subst e;split
   ·rename_i h2;rw[h2.2];exact zVi d q (q-1) (by omega)
   ·simp
  ·have:=zVi d j q (by omega);split
   ·exact this
   ·simp[this]
def zP2(d:Dt):∀(j:Nat) (p:Int×Int),p∈dd d j->∃ q,q<j/\d[q]! = p
 | 0,p,h=>by simp[dd] at h
 | j+1,p,h=>by
  simp only[dd] at h;split at h
  ·obtain⟨q,a,b⟩:=zP2 d j p h;exact⟨q,by omega,b⟩
  ·rcases List.mem_append.1 h with h|h
   ·obtain⟨q,a,b⟩:=zP2 d j p h;exact⟨q,by omega,b⟩
   ·exact⟨j,by omega,(List.mem_singleton.1 h).symm⟩
section
variable {b ty es:Nat} {k:AH} {d:Dt}
end
def zVj(d:Dt):∀ j,(dd d j).length<=j
 | 0=>xAF _
 | j+1=>by
  have:=zVj d j;simp only[dd];split
  ·omega
  ·simp;omega
end Go.Proofs
namespace Go.Proofs
open Go Go.AM Go.RowKit
def zGQ{P:Program}{α β:Type}{x:Sem α}{f:α->Sem β}:zAU P (x >>= f)=(zAU P x).bind fun a=>zAU P (f a):=by
 show zAU P (Sem.bind x f)=_
 induction x with
 | pure a=>rfl
 | program k ih=>exact ih P
 | mark m k ih=>exact ih
 | _=>rfl
def zFK{P:Program}{α:Type}(a:α):zAU P (pure a:Sem α)=some a:=rfl
def zie{P:Program}{α:Type}(c:Prop)[Decidable c](x y:Sem α):zAU P (if c then x else y)=if c then zAU P x else zAU P y:=by split <;> rfl
def zec{P:Program}{t:TypeId}{d:TypeDesc}(h:P.underlying t=some d):zAU P (underlying t)=some d:=by
 unfold underlying;rw[zGQ];show ((some P).bind fun a=>zAU P (match a.underlying t with|some d=>pure d|none=>stuck "no such type"))=_;simp only[Option.bind_some,h];rfl
def zj6{P:Program}:zAU P program=some P:=rfl
def zUi{P:Program}(d:Nat)(t:TypeId)(xs ys:Array Value)(ht:P.underlying t=some (.struct (P.fieldsOf t)))(hp:P.stoodInHeld t=false) :
  zAU P (Op.equalIn (d+1) t (.agg xs) (.agg ys))=zAU P (Op.eqFields d xs ys (P.fieldsOf t).toList):=by
 simp only[Op.equalIn,zGQ,zec ht,Option.bind_some,zj6,hp,Bool.false_eq_true,if_false];rw[← Array.forIn_toList];generalize (P.fieldsOf t).toList=fs;clear ht
 induction fs with
 | nil=>simp[Op.eqFields,zFK]
 | cons f fs ih=>
  simp only[List.forIn_cons,Op.eqFields,zGQ,zie];split
  ·cases zAU P (part f.type xs f.offset) with
   | none=>rfl
   | some a=>
    simp only[Option.bind_some];cases zAU P (part f.type ys f.offset) with
    | none=>rfl
    | some b=>
     simp only[Option.bind_some];cases zAU P (Op.equalIn d f.type a b) with
     | none=>rfl
     | some r=>
      cases r
      ·simp only[Option.bind_some,xAM,if_true,zFK]
      ·simp only[Option.bind_some,xAL,Bool.false_eq_true,if_false,zFK];exact ih
  ·simp only[zFK,Option.bind_some];exact ih
def zm9:Tryz.prog.underlying 134=some (.struct (Tryz.prog.fieldsOf 134)):=by kernel_rfl
def zrK(d:Nat)(a b c e:Int):zAU Tryz.prog (Op.equalIn (d+2) 134 (.agg #[iI a,iI b]) (.agg #[iI c,iI e]))=some (decide (a=c)&&decide (b=e)):=by
 have h3:∀(a b:Int),zAU Tryz.prog (Op.equalIn (d+1) 3 (iI a) (iI b))=some (decide (a=b)):=fun a b=>by
  have:zAU Tryz.prog (Op.equalIn (d+1) 3 (iI a) (iI b))=some (a==b):=by kernel_rfl
  rw[this];rfl
 obtain⟨f,g,hfs,dY,hf2,hf3,gt,gq,ju⟩:∃ f g:Field,(Tryz.prog.fieldsOf 134).toList=[f,g]/\f.type=3/\f.offset=0/\(f.name=="_")=false/\g.type=3/\g.offset=1/\(g.name=="_")=false:=by
  refine⟨(Tryz.prog.fieldsOf 134).toList[0]!,(Tryz.prog.fieldsOf 134).toList[1]!,?_,?_,?_,?_,?_,?_,?_⟩ <;> kernel_rfl
 have p0:∀(x y:Int),zAU Tryz.prog (part 3 #[iI x,iI y] 0)=some (iI x):=fun x y=>by kernel_rfl
 have p1:∀(x y:Int),zAU Tryz.prog (part 3 #[iI x,iI y] 1)=some (iI y):=fun x y=>by kernel_rfl
 have nf:f.name≠"_":=by intro h;rw[h] at hf3;simp at hf3
 have ng:g.name≠"_":=by intro h;rw[h] at ju;simp at ju
 rw[zUi (d+1) 134 _ _ zm9 (by kernel_rfl),hfs];simp only[Op.eqFields,zie,zGQ,dY,hf2,gt,gq,p0,p1,h3,Option.bind_some,zFK,ne_eq,nf,ng,not_false_eq_true,if_true];by_cases h1:a=c <;> by_cases h2:b=e <;> simp[h1,h2]
def zei{op:BinOp}{neg:Bool}{i j yt:Nat}{T:Tm}{o:Oper}{p q:Int×Int}(ho:o.op=.binOp op 134 (.tmp i) (.tmp j) yt)(hop:(op=.eql/\neg=false)\/(op=.neq/\neg=true))(hi:T.get i=.agg ⟨zG p⟩)(hj:T.get j=.agg ⟨zG q⟩) :
  ze E T o=some (.bool (xor neg (decide (p=q)))):=by
 obtain⟨a,b⟩:=p;obtain⟨c,d⟩:=q;have hn:∀ l l',zJo E 134 l l'=none:=fun l l'=>by
  unfold zJo;rw[show zkQ E 134=none by kernel_rfl]
 have hd:decide ((a,b)=(c,d))=(decide (a=c)&&decide (b=d)):=by by_cases h1:a=c <;> by_cases h2:b=d <;> simp[h1,h2]
 have he:zAU Tryz.prog (Op.equal 134 (.agg #[iI a,iI b]) (.agg #[iI c,iI d]))=some (decide (a=c)&&decide (b=d)):=zrK 9998 a b c d;have hg:∀ u v,zAU Tryz.prog (eqGuard .eql 134 (.tmp i) (.tmp j) (.agg u) (.agg v))=some ():=fun u v=>by kernel_rfl
 have fj:∀ u v,zAU Tryz.prog (eqGuard .neq 134 (.tmp i) (.tmp j) (.agg u) (.agg v))=some ():=fun u v=>by kernel_rfl
 have hp:E.prog=Tryz.prog:=rfl;have f1:zl T (.tmp i)=true:=by show zg (T.get i)=true;rw[hi];rfl
 have f2:zl T (.tmp j)=true:=by show zg (T.get j)=true;rw[hj];rfl
 have r1:rho T (.tmp i)=.agg #[iI a,iI b]:=hi;have r2:rho T (.tmp j)=.agg #[iI c,iI d]:=hj;have ops:o.op.operands.toList.all (zl T)=true:=by rw[ho];simp[Op.operands,f1,f2]
 have ns:zDD o.op=true:=by rw[ho];rfl
 have main:zAU Tryz.prog (execOp (rho T) o)=some (.value (.bool (xor neg (decide (a=c)&&decide (b=d))))):=by
  rcases hop with ⟨rfl,rfl⟩|⟨rfl,rfl⟩
  ·simp only[execOp,ho,r1,r2,zGQ,hg,Option.bind_some,binOp,he,zFK];rw[Bool.false_xor]
  ·simp only[execOp,ho,r1,r2,zGQ,fj,Option.bind_some,binOp,he,zFK];rw[Bool.true_xor]
 rw[hd];have hb:zC E op 134 (rho T (.tmp i)) (rho T (.tmp j))=none:=by
  rw[r1,r2];unfold zC;simp only[hn]
 unfold ze;rw[ho];simp only[zig,hb,zFo,f1,f2,Bool.and_self,xAG,zBY,ops,ns,hp,main];rfl
def zUq(p q:Int×Int):ze E (zk [(19,.agg ⟨zG p⟩),(24,.agg ⟨zG q⟩)]) (zn zKM [1,1,0,1,0,0,1,0,0,0] 9)=some (.bool (decide (p=q))):=
 (zei (op:=.eql) (neg:=false) (i:=19) (j:=24) (yt:=134) (p:=p) (q:=q) (by kernel_rfl) (.inl ⟨rfl,rfl⟩) (by kernel_rfl) (by kernel_rfl)).trans (by rw[Bool.false_xor])
def zkE(p q:Int×Int):ze E (zk [(38,.agg ⟨zG p⟩),(43,.agg ⟨zG q⟩)]) (zn zKM [1,1,0,1,0,0,1,0,0,1,0,1,0,1,0,0,1,0,0,0] 9)=some (.bool (!decide (p=q))):=
 (zei (op:=.neq) (neg:=true) (i:=38) (j:=43) (yt:=134) (p:=p) (q:=q) (by kernel_rfl) (.inr ⟨rfl,rfl⟩) (by kernel_rfl) (by kernel_rfl)).trans (by rw[Bool.true_xor])
def zrQ(p q:Int×Int):ze E (zk [(19,.agg ⟨zG p⟩),(23,.agg ⟨zG q⟩)]) (zn B91 [1,1,0,1,0,0,1,1,0,0,1,0] 8)=some (.bool (!decide (p=q))):=
 (zei (op:=.neq) (neg:=true) (i:=19) (j:=23) (yt:=134) (p:=p) (q:=q) (by kernel_rfl) (.inr ⟨rfl,rfl⟩) (by kernel_rfl) (by kernel_rfl)).trans (by rw[Bool.true_xor])
def zoA(p q:Int×Int):ze E (zk [(4,.agg ⟨zG p⟩),(6,.agg ⟨zG q⟩)]) (zn zsa [1,0] 3)=some (.bool (decide (p=q))):=
 (zei (op:=.eql) (neg:=false) (i:=4) (j:=6) (yt:=134) (p:=p) (q:=q) (by kernel_rfl) (.inl ⟨rfl,rfl⟩) (by kernel_rfl) (by kernel_rfl)).trans (by rw[Bool.false_xor])
end Go.Proofs
namespace Go.Proofs
open Go Go.AM
def RowB(k:AH)(b ty es:Nat)(d:Dt):Prop:=∃ rs,k.get b=some (.row (zHD d++rs) ty es false)/\rs.flatMap (zDm 4)=[]
def RowB.eq{k m:AH}{b ty es:Nat}{d:Dt}(e:m.get b=k.get b)(h:RowB k b ty es d):RowB m b ty es d:=let ⟨rs,a,c⟩:=h;⟨rs,e.trans a,c⟩
def RowB.of{k:AH}{b ty es:Nat}{d:Dt}(h:k.get b=some (.row (zHD d) ty es false)):RowB k b ty es d:=⟨[],by rw[List.append_nil];exact h,rfl⟩
def zeW(d:Dt)(rs:List Value){i:Nat}(hi:i<d.size):((zHD d++rs).drop (i*2)).take 2=zG d[i]!:=by
 rw[List.drop_append_of_le_length (by rw[zES];omega),List.take_append_of_le_length (by rw[List.length_drop,zES];omega)];exact zKY d.toList i d[i]! (by simp[hi])
def zFv:∀(x y:List Value) (o:Nat) (z:List Value),o+z.length<=x.length->lput (x++y) o z=lput x o z++y
 | x,y,o,[],_=>by
  have e:∀(l:List Value) (o:Nat),lput l o []=l:=fun l o=>by cases l <;> cases o <;> rfl
  rw[e,e]
 | [],y,o,b::z,h=>by simp at h
 | a::x,y,0,b::z,h=>by
  have:=zFv x y 0 z (by simp at h;omega);show b::lput (x++y) 0 z=_;rw[this];rfl
 | a::x,y,o+1,b::z,h=>by
  have:=zFv x y o (b::z) (by simp at h ⊢;omega);show a::lput (x++y) o (b::z)=_;rw[this];rfl
def zeV(d:Dt)(rs:List Value){i:Nat}(hi:i<d.size)(x:Int×Int):lput (zHD d++rs) (i*2) (zG x)=zHD (d.setIfInBounds i x)++rs:=by
 rw[zFv _ _ _ _ (by rw[zES];simp[zG];omega)];unfold zHD;rw[zPL _ _ _ (by simpa using hi)];simp
structure SRt(b ty es:Nat)(k0:AH)(d0:Dt)(k:AH)(d:Dt):Prop where
 fx:Fx (fun c=>c=b) k0 k
 g:RowB k b ty es d
 wm:k.wm<=b\/d=d0
 wle:k.wm<=k0.wm
 sz:d.size=d0.size
 lt:b<k0.qa
section
variable {b ty es:Nat} {k0 k:AH} {d0 d:Dt}
def SRt.refl(hg:RowB k b ty es d)(hl:b<k.qa)(aa:k.ok):SRt b ty es k d k d:=⟨Fx.refl aa,hg,.inr rfl,xAF _,rfl,hl⟩
def SRt.qb(hg:RowB k b ty es d)(hl:b<k.qa):SRt b ty es k.qb d k.qb d:=SRt.refl hg hl (zAX k)
def SRt.ok(R:SRt b ty es k0 d0 k d):k.ok:=R.fx.ok
def SRt.l(R:SRt b ty es k0 d0 k d):b<k.qa:=xAC R.lt R.fx.qa
def SRt.trans{k':AH}{d':Dt}(R:SRt b ty es k0 d0 k d)(S:SRt b ty es k d k' d'):SRt b ty es k0 d0 k' d':=
 ⟨R.fx.trans S.fx fun c h=>.inl h,S.g,by
  rcases S.wm with h|h
  ·exact .inl h
  ·rcases R.wm with h2|h2
   ·have:=S.wle;exact .inl (by omega)
   ·exact .inr (h.trans h2),Nat.le_trans S.wle R.wle,S.sz.trans R.sz,R.lt⟩
def SRt.ld(R:SRt b ty es k0 d0 k d){i:Nat}(hi:i<d.size):zH E 134 k (sP b (0+i*2))=some (.agg ⟨zG d[i]!⟩):=by
 obtain⟨rs,hg,_⟩:=R.g;rw[xAK,zZ (P:=E) zEM hg (by rw[List.length_append,zES];omega)];rw[zeW d rs hi]
def SRt.stx(R:SRt b ty es k0 d0 k d){i:Nat}(hi:i<d.size)(x:Int×Int) :
  ∃ m,zb E 134 k (sP b (0+i*2)) (some (.agg ⟨zG x⟩))=one (undef,m)/\SRt b ty es k0 d0 m (d.setIfInBounds i x)/\m.qa=k.qa/\∀ c,c≠b->m.get c=k.get c:=by
 obtain⟨rs,hg,eP⟩:=R.g;refine⟨_,by rw[xAK];exact zAC (P:=E) zJC (cs:=zG x) hg rfl rfl (by rw[List.length_append,zES];omega) (zif x),⟨R.fx.upd (.inl rfl) _,⟨rs,?_,eP⟩,.inl (zJA _ _ _).1,Nat.le_trans (zJA _ _ _).2 R.wle,by simpa using R.sz,R.lt⟩,rfl,fun c hc=>zP hc⟩;rw[zN,zeV d rs hi]
def SRt.st(R:SRt b ty es k0 d0 k d){i:Nat}(hi:i<d.size)(x:Int×Int) :
  ∃ m,zb E 134 k (sP b (0+i*2)) (some (.agg ⟨zG x⟩))=one (undef,m)/\SRt b ty es k0 d0 m (d.setIfInBounds i x):=let ⟨m,e,h,_⟩:=R.stx hi x;⟨m,e,h⟩
def SRt.swx(R:SRt b ty es k0 d0 k d){i j:Nat}(hi:i<d.size)(hj:j<d.size) :
  ∃ m m',zb E 134 k (sP b (0+i*2)) (some (.agg ⟨zG d[j]!⟩))=one (undef,m)/\zb E 134 m (sP b (0+j*2)) (some (.agg ⟨zG d[i]!⟩))=one (undef,m')/\SRt b ty es k0 d0 m' (Go.Sort.swp d i j)/\m'.qa=k.qa/\∀ c,c≠b->m'.get c=k.get c:=by
 obtain⟨m,e1,R1,n1,g1⟩:=R.stx hi d[j]!;obtain⟨m',e2,R2,n2,g2⟩:=R1.stx (i:=j) (by simpa using hj) d[i]!;exact⟨m,m',e1,e2,R2,n2.trans n1,fun c hc=>(g2 c hc).trans (g1 c hc)⟩
def SRt.sw(R:SRt b ty es k0 d0 k d){i j:Nat}(hi:i<d.size)(hj:j<d.size) :
  ∃ m m',zb E 134 k (sP b (0+i*2)) (some (.agg ⟨zG d[j]!⟩))=one (undef,m)/\zb E 134 m (sP b (0+j*2)) (some (.agg ⟨zG d[i]!⟩))=one (undef,m')/\SRt b ty es k0 d0 m' (Go.Sort.swp d i j):=let ⟨m,m',e,e',h,_⟩:=R.swx hi hj;⟨m,m',e,e',h⟩
end
def zC8{b ty es:Nat}{k:AH}{d:Dt}{f:FuncId}{fn:Func}{c:Code}{args:List Value}{Q:Value->Dt->Prop}(hg:RowB k b ty es d)(ax:b<k.qa)(aa:k.ok)
  (hf:E.tab.fn.get f=some fn) (hb:fn.body=some c) (aF:E.sum f args k=none) (hl:Nat.ble (zBH args) fn.ntmps=true)
  (cP:Ev true (R.andThen (evC E (zV E) none (zc fn) ⟨⟨fn.ntmps,zCB args 0 .e⟩,k.qb,[]⟩) (zAW E fn)) fun x=>∃ d',Q x.1 d'/\SRt b ty es k.qb d x.2 d') :
  Ev true ((zV E).call f args k) fun x=>∃ d',Q x.1 d'/\SRt b ty es k d x.2 d':=by
 refine (zK0 (Q:=fun v m=>∃ d',Q v d'/\SRt b ty es k.qb d m d') aa hf hb aF hl cP).mono ?_;rintro⟨v,m⟩ ⟨k1,⟨d',hq,R⟩,⟨h1,h2⟩|h2⟩
 ·simp only at h2 hq ⊢;subst h2;have:d'=d:=by
   rcases R.wm with h|h
   ·omega
   ·exact h
  subst this;exact⟨_,hq,SRt.refl hg ax aa⟩
 ·simp only at h2 hq ⊢;subst h2;refine⟨d',hq,R.fx.back,R.g,?_,?_,R.sz,ax⟩
  ·rcases R.wm with h|h
   ·refine .inl ?_;show cond (Nat.ble k.wm k1.wm) k.wm k1.wm<=b;cases hc:Nat.ble k.wm k1.wm with
    | true=>have:=ble_true.1 hc;simp only[xAG];omega
    | false=>simpa using h
   ·exact .inr h
  ·show cond (Nat.ble k.wm k1.wm) k.wm k1.wm<=k.wm;cases hc:Nat.ble k.wm k1.wm with
   | true=>exact xAF _
   | false=>have:=ble_false.1 hc;simp only[xAH];omega
abbrev RSt(b ty es:Nat)(k:AH)(d:Dt)(Q:Value->Dt->Prop):Value->AH->Prop:=fun x m=>∃ d',Q x d'/\SRt b ty es k.qb d m d'
abbrev KSt(b ty es:Nat)(k:AH)(d F:Dt):KF:=KR E [] (RSt b ty es k d (QF F))
def zGX{b ty es:Nat}{k h:AH}{d d' F:Dt}(R:SRt b ty es k.qb d h d')(e:d'=F):KSt b ty es k d F .normal [] h:=by
 rw[KSt,zNi];exact⟨zCc ▸ trivial,d',⟨rfl,e⟩,R⟩
def zkN{b ty es:Nat}{k h:AH}{d d' F:Dt}(R:SRt b ty es k.qb d h d')(e:d'=F):KSt b ty es k d F .ret [] h:=by
 rw[KSt,zNi];exact⟨zU ▸ trivial,d',⟨rfl,e⟩,R⟩
section
variable {b ty es c:Nat} {k:AH} {d:Dt}
def zlB{cf:Value}(hg:RowB k b ty es d)(ax:b<k.qa)(aa:k.ok){n:Nat}(hs:d.size=n)(hn:d.size<=1000000){a e:Nat}(dB:1<=e)(dF:a<=e)(he:e<=d.size) :
  Ev true ((zV E).call 252 [sl b n c,iI (a:Int),iI (e:Int),cf] k) fun x=>∃ d',QF (Go.Sort.reverseRange d a e) x.1 d'/\SRt b ty es k d x.2 d':=by
 subst hs;refine zC8 hg ax aa zhn zdM (zhm _ _) (by kernel_rfl) (zmZ (Rp:=RSt b ty es k d (QF (Go.Sort.reverseRange d a e))) (zY6 ?_))
 try simp only[zA]
 refine zY5 ?_;simp only[zA,zB3 dB (show e<=9223372036854775807 by omega)];have loop:∀(m i j:Nat),j<=i+m->i<=d.size->j<d.size->∀ d' h,SRt b ty es k.qb d h d'->Go.Sort.reverseLoop i j d'=Go.Sort.reverseRange d a e->zpR true (KSt b ty es k d (Go.Sort.reverseRange d a e)) (sl b d.size c) (iI (i:Int)) (iI (j:Int)) h:=by
  intro m
  induction m with
  | zero=>
   intro i j hm hi hj d' h R hF;refine zMm ?_;simp only[zA,zY,show decide ((i:Int)<(j:Int))=false from xAI (by omega),zi];exact zGX R (by rw[← hF];unfold Go.Sort.reverseLoop;rw[if_neg (by omega)])
  | succ m ih=>
   intro i j hm hi hj d' h R hF;refine zMm ?_;simp only[zA,zY,zAN];refine⟨fun ab=>zY4 ?_,fun cW=>zGX R (by rw[← hF];unfold Go.Sort.reverseLoop;rw[if_neg (by omega)])⟩;have hsz:=R.sz;obtain⟨m1,m2,e1,e2,R2⟩:=R.sw (i:=i) (j:=j) (by omega) (by omega);simp only[zA,zv (show i<d.size by omega),zv hj,R.ld (i:=i) (by omega),R.ld (i:=j) (by omega),e1,e2,zL];refine zY3 ?_;simp only[zA,zBc (show i+1<=9223372036854775807 by omega)];refine zY2 ?_;simp only[zA,zB3 (show 1<=j by omega) (show j<=9223372036854775807 by omega)];refine ih (i+1) (j-1) (by omega) (by omega) (by omega) _ _ R2 ?_;rw[← hF]
   conv=>rhs;unfold Go.Sort.reverseLoop
   rw[if_pos (by omega)]
 exact loop (e-1) a (e-1) (by omega) (by omega) (by omega) d _ (SRt.qb hg ax) rfl
end
end Go.Proofs
namespace Go.Proofs
open Go Go.AM Go.Sort
section
variable {b ty es c:Nat} {k:AH} {d:Dt} {cf:Value} {cm:Int×Int->Int×Int->Int}
def zRV(hn:d.size<=1000000)(hc:zCk cf cm){K:KF}{a:Nat}{v2 v8:Value}:∀(j:Nat) (d':Dt) (h:AH),j<d.size->SRt b ty es k.qb d h d'->
  (∀ h2 d2,SRt b ty es k.qb d h2 d2->d2=insInner (zAe cm) a j d'->zpW true K (sl b d.size c) (iI (a:Int)) v2 cf v8 h2)->
  zpX true K (sl b d.size c) (iI (a:Int)) v2 cf v8 (iI (j:Int)) h:=by
 intro j
 induction j with
 | zero=>
  intro d' h hj R hK;refine zMq ?_;simp only[zA,zAO,show decide ((a:Int)<((0:Nat):Int))=false from xAI (by omega),zM,zR,ft,xAH,zL,zJ,zi];exact hK h d' R rfl
 | succ j ih=>
  intro d' h hj R hK;have hsz:=R.sz;refine zMq ?_;by_cases ab:a<j+1;rotate_left
  ·simp only[zA,zAO,show decide ((a:Int)<((j+1:Nat):Int))=false from xAI (by omega),zM,zR,ft,xAH,zL,zJ,zi];exact hK h d' R (by simp only[insInner];rw[if_neg (by simp;omega)])
  ·simp only[zA,zAO,show decide ((a:Int)<((j+1:Nat):Int))=true from xAJ (by omega),zM,zR,xAO,xAG,zv hj,R.ld (i:=j+1) (by omega),zB3 (show 1<=j+1 by omega) (show j+1<=9223372036854775807 by omega),Nat.add_sub_cancel,zv (show j<d.size by omega),R.ld (i:=j) (by omega),hc _ _ _ R.ok,zO,zY,zJ,zAN];refine⟨fun h1=>zZa ?_,fun h1=>hK h d' R (by simp only[insInner];rw[if_neg (by simp;omega)])⟩;obtain⟨m1,m2,e1,e2,R2⟩:=R.sw (i:=j+1) (j:=j) (by omega) (by omega);simp only[zA,zv hj,R.ld (i:=j+1) (by omega),zB3 (show 1<=j+1 by omega) (show j+1<=9223372036854775807 by omega),Nat.add_sub_cancel,zv (show j<d.size by omega),R.ld (i:=j) (by omega),e1,e2,zL];refine zZZ ?_;simp only[zA,zB3 (show 1<=j+1 by omega) (show j+1<=9223372036854775807 by omega),Nat.add_sub_cancel];exact ih _ _ (by omega) R2 fun h2 d2 R3 e=>hK h2 d2 R3 (by
    rw[e]
    conv=>rhs;simp only[insInner]
    rw[if_pos (by simp[h1];omega)])
def zV5(hg:RowB k b ty es d)(ax:b<k.qa)(aa:k.ok){n:Nat}(hs:d.size=n)(hn:d.size<=1000000)(hc:zCk cf cm){a e:Nat}(dF:a<=e)(he:e<=d.size) :
  Ev true ((zV E).call 248 [sl b n c,iI (a:Int),iI (e:Int),cf] k) fun x=>∃ d',QF (insertionSort (zAe cm) d a e) x.1 d'/\SRt b ty es k d x.2 d':=by
 subst hs;refine zC8 hg ax aa zht zdP (zhs _ _) (by kernel_rfl) (zmc (Rp:=RSt b ty es k d (QF (insertionSort (zAe cm) d a e))) (zMr ?_));simp only[zA,zBc (show a+1<=9223372036854775807 by omega)];have loop:∀(m i:Nat),e<=i+m->i<=d.size+1->∀ d' h,SRt b ty es k.qb d h d'->insOuter (zAe cm) a e i d'=insertionSort (zAe cm) d a e->
   zpY true (KSt b ty es k d (insertionSort (zAe cm) d a e)) (sl b d.size c) (iI (a:Int)) (iI (e:Int)) cf (iI (i:Int)) h:=by
  intro m
  induction m with
  | zero=>
   intro i hm hi d' h R hF;refine zIW ?_;simp only[zA,zY,show decide ((i:Int)<(e:Int))=false from xAI (by omega),zi];exact zGX R (by rw[← hF];unfold insOuter;rw[if_neg (by omega)])
  | succ m ih=>
   intro i hm hi d' h R hF;refine zIW ?_;simp only[zA,zY,zAN];refine⟨fun ab=>zZb ?_,fun cW=>zGX R (by rw[← hF];unfold insOuter;rw[if_neg (by omega)])⟩
   try simp only[zA]
   refine zRV hn hc i d' h (by omega) R fun h2 d2 R2 e2=>zZY ?_;simp only[zA,zBc (show i+1<=9223372036854775807 by omega)];refine ih (i+1) (by omega) (by omega) d2 h2 R2 ?_;rw[← hF,e2]
   conv=>rhs;unfold insOuter
   rw[if_pos (by omega)]
 exact loop e (a+1) (by omega) (by omega) d _ (SRt.qb hg ax) rfl
def zeT(hn:d.size<=1000000)(hc:zCk cf cm){hi first:Nat}(hh:first+hi<=d.size){K:KF}{F:Dt}(hK:∀ ex h2 d2,(ex=.normal\/ex=.ret)->SRt b ty es k.qb d h2 d2->d2=F->K ex [] h2) :
  ∀(m root:Nat) (d':Dt) (h:AH),hi<=root+m->root<=d.size->SRt b ty es k.qb d h d'->siftDown (zAe cm) hi first root d'=F->
  zpI true K (sl b d.size c) (iI (hi:Int)) (iI (first:Int)) cf (iI (root:Int)) h:=by
 intro m
 induction m with
 | zero=>
  intro root d' h hm hr R hF;have hsz:=R.sz;refine zMe ?_
  try simp only[zA]
  rw[zWS 3 (a:=2) (b:=(root:Int)) (by unfold zC1;omega)]
  try simp only[zA]
  rw[zAK 3 (a:=2*(root:Int)) (b:=1) (by unfold zC1;omega),show 2*(root:Int)+1=((2*root+1:Nat):Int) by omega]
  try simp only[zA]
  refine zMd ?_;simp only[zA,zAZ,show decide ((hi:Int)<=((2*root+1:Nat):Int))=true from xAJ (by omega),zy];exact hK _ _ _ (.inl rfl) R (by rw[← hF];unfold siftDown;rw[dif_pos (by omega)])
 | succ m ih=>
  intro root d' h hm hr R hF;have hsz:=R.sz;refine zMe ?_
  try simp only[zA]
  rw[zWS 3 (a:=2) (b:=(root:Int)) (by unfold zC1;omega)]
  try simp only[zA]
  rw[zAK 3 (a:=2*(root:Int)) (b:=1) (by unfold zC1;omega),show 2*(root:Int)+1=((2*root+1:Nat):Int) by omega]
  try simp only[zA]
  refine zMd ?_;simp only[zA,zAZ,zAN];refine⟨fun h1=>hK _ _ _ (.inl rfl) R (by rw[← hF];unfold siftDown;rw[dif_pos (by omega)]),fun h1=>zYL ?_⟩;have rest:∀ child:Nat,child<hi->root<child->(∀ D,(if !zAe cm d'[first+root]! d'[first+child]! then d' else siftDown (zAe cm) hi first child (swp d' (first+root) (first+child)))=D->D=F)->
    zpH true K (sl b d.size c) (iI (hi:Int)) (iI (first:Int)) cf (iI (root:Int)) (iI (child:Int)) h:=by
   intro child dR hrc hD;refine zYJ ?_;simp only[zA,zOy (show first+root<=9223372036854775807 by omega),zOy (show first+child<=9223372036854775807 by omega),zv (show first+root<d.size by omega),zv (show first+child<d.size by omega),R.ld (i:=first+root) (by omega),R.ld (i:=first+child) (by omega),hc _ _ _ R.ok,zO,zY,zAB];by_cases ab:cm d'[first+root]! d'[first+child]! < 0
   ·simp only[ab,decide_true,xAL,zi];refine zYI ?_;obtain⟨m1,m2,e1,e2,R2⟩:=R.sw (i:=first+root) (j:=first+child) (by omega) (by omega);simp only[zA,zOy (show first+root<=9223372036854775807 by omega),zOy (show first+child<=9223372036854775807 by omega),zv (show first+root<d.size by omega),zv (show first+child<d.size by omega),R.ld (i:=first+root) (by omega),R.ld (i:=first+child) (by omega),e1,e2,zL];refine zYH ?_
    try simp only[zA]
    exact ih child _ _ (by omega) (by omega) R2 (hD _ (by simp[ab]))
   ·simp only[ab,decide_false,xAM,zy];exact hK _ _ _ (.inr rfl) R (hD _ (by simp[ab]))
  have hu:siftDown (zAe cm) hi first root d'=if 2*root+1+1<hi&&zAe cm d'[first+(2*root+1)]! d'[first+(2*root+1)+1]! then
    (if !zAe cm d'[first+root]! d'[first+(2*root+2)]! then d' else if 2*root+2<hi then siftDown (zAe cm) hi first (2*root+2) (swp d' (first+root) (first+(2*root+2))) else d')
    else if !zAe cm d'[first+root]! d'[first+(2*root+1)]! then d' else siftDown (zAe cm) hi first (2*root+1) (swp d' (first+root) (first+(2*root+1))):=by
   conv=>lhs;unfold siftDown
   rw[dif_neg (by omega)];rfl
  rw[hu] at hF;simp only[zA,zBc (show 2*root+1+1<=9223372036854775807 by omega),zY];by_cases h2:2*root+1+1<hi
  ·simp only[show decide (((2*root+1+1:Nat):Int)<(hi:Int))=true from xAJ (by omega),zM,zR,xAO,xAG,zA,zOy (show first+(2*root+1)<=9223372036854775807 by omega),zv (show first+(2*root+1)<d.size by omega),R.ld (i:=first+(2*root+1)) (by omega),zBc (show first+(2*root+1)+1<=9223372036854775807 by omega),zv (show first+(2*root+1)+1<d.size by omega),R.ld (i:=first+(2*root+1)+1) (by omega),hc _ _ _ R.ok,zO,zY,zJ,zAN];refine⟨fun h3=>zYK ?_,fun h3=>rest (2*root+1) (by omega) (by omega) fun D hD=>?_⟩
   ·simp only[zA,zBc (show 2*root+1+1<=9223372036854775807 by omega)];refine rest (2*root+1+1) (by omega) (by omega) fun D hD=>?_;rw[if_pos (by simp[h2,h3]),if_pos (show 2*root+2<hi from h2)] at hF;rw[← hF,← hD]
   ·rw[if_neg (by simp[h3])] at hF;rw[← hF,← hD]
  ·simp only[show decide (((2*root+1+1:Nat):Int)<(hi:Int))=false from xAI (by omega),zM,zR,ft,xAH,zA,zL,zJ,zi];refine rest (2*root+1) (by omega) (by omega) fun D hD=>?_;rw[if_neg (by simp[h2])] at hF;rw[← hF,← hD]
def zV3(hg:RowB k b ty es d)(ax:b<k.qa)(aa:k.ok){n:Nat}(hs:d.size=n)(hn:d.size<=1000000)(hc:zCk cf cm){lo hi first:Nat}(f9:lo<=d.size)(hh:first+hi<=d.size) :
  Ev true ((zV E).call 270 [sl b n c,iI (lo:Int),iI (hi:Int),iI (first:Int),cf] k) fun x=>∃ d',QF (siftDown (zAe cm) hi first lo d) x.1 d'/\SRt b ty es k d x.2 d':=by
 subst hs;refine zC8 hg ax aa zhf zdG (zhe _ _) (by kernel_rfl) (zmV (Rp:=RSt b ty es k d (QF (siftDown (zAe cm) hi first lo d))) (zYM ?_))
 try simp only[zA]
 refine zeT hn hc hh (F:=siftDown (zAe cm) hi first lo d) (fun ex h2 d2 hx R e=>?_) hi lo d _ (by omega) f9 (SRt.qb hg ax) rfl;rcases hx with rfl|rfl
 ·exact zGX R e
 ·exact zkN R e
end
def znf{x:Nat}(h:x<=9223372036854775807):ze E (zk [(18,iI (x:Int))]) (zn zqv [1,1,1,0,0] 2)=some (iI ((x / 2:Nat):Int)):=zHs (u:=18) (cc:=2) (by kernel_rfl) (by kernel_rfl) (by omega) h
section
variable {b ty es c:Nat} {k:AH} {d:Dt} {cf:Value} {cm:Int×Int->Int×Int->Int}
def zlE(hg:RowB k b ty es d)(ax:b<k.qa)(aa:k.ok){n:Nat}(hs:d.size=n)(hn:d.size<=1000000)(hc:zCk cf cm){a e:Nat}(dF:a<e)(he:e<=d.size) :
  Ev true ((zV E).call 249 [sl b n c,iI (a:Int),iI (e:Int),cf] k) fun x=>∃ d',QF (heapSort (zAe cm) d a e) x.1 d'/\SRt b ty es k d x.2 d':=by
 subst hs;refine zC8 hg ax aa zhr zdO (zhq _ _) (by kernel_rfl) (zmb (Rp:=RSt b ty es k d (QF (heapSort (zAe cm) d a e))) (zZX ?_))
 try simp only[zA]
 refine zZW ?_
 try simp only[zA]
 refine zZV ?_;simp only[zA,subN (show a<=e by omega) (show e<=9223372036854775807 by omega)];refine zZU ?_;simp only[zA,zB3 (show 1<=e-a by omega) (show e-a<=9223372036854775807 by omega),znf (show e-a-1<=9223372036854775807 by omega)];have pop:∀(r:Nat),r<=e-a->∀ d' h,SRt b ty es k.qb d h d'->heapPop (zAe cm) a r d'=heapSort (zAe cm) d a e->
   zpU true (KSt b ty es k d (heapSort (zAe cm) d a e)) (sl b d.size c) cf (iI (a:Int)) (iI 0) (iI ((r:Int)-1)) h:=by
  intro r
  induction r with
  | zero=>
   intro hr d' h R hF;refine zMo ?_;simp only[zA,zAZ,show decide ((0:Int)<=((0:Nat):Int)-1)=false from rfl,zi];exact zGX R hF
  | succ r ih=>
   intro hr d' h R hF;have hsz:=R.sz;rw[show ((r+1:Nat):Int)-1=(r:Int) by omega];refine zMo ?_;simp only[zA,zAZ,show decide ((0:Int)<=(r:Int))=true from xAJ (by omega),zy];refine zZQ ?_;obtain⟨m1,m2,e1,e2,R2⟩:=R.sw (i:=a) (j:=a+r) (by omega) (by omega);simp only[zA,zOy (show a+r<=9223372036854775807 by omega),zv (show a+r<d.size by omega),zv (show a<d.size by omega),R.ld (i:=a) (by omega),R.ld (i:=a+r) (by omega),e1,e2,zL];refine zSI ?_;have hz:=zeP d' a (a+r);simp only[zA,zS];refine (zV3 (lo:=0) (hi:=r) (first:=a) R2.g R2.l R2.ok (R2.sz) (by omega) hc (by omega) (by omega)).mono fun x hx=>?_;obtain⟨d3,⟨_,e3⟩,R3⟩:=hx;have R4:=R2.trans R3;refine zSH ?_
   try simp only[zA]
   rw[zG9 3 (a:=(r:Int)) (b:=1) (by unfold zC1;omega)]
   try simp only[zA]
   exact ih (by omega) d3 _ R4 (by rw[← hF,e3];rfl)
 have build:∀(r:Nat),r<=d.size->∀ d' h,SRt b ty es k.qb d h d'->heapPop (zAe cm) a (e-a) (heapBuild (zAe cm) (e-a) a r d')=heapSort (zAe cm) d a e->
   zpV true (KSt b ty es k d (heapSort (zAe cm) d a e)) (sl b d.size c) cf (iI (a:Int)) (iI 0) (iI ((e-a:Nat):Int)) (iI ((r:Int)-1)) h:=by
  intro r
  induction r with
  | zero=>
   intro hr d' h R hF;refine zMp ?_;simp only[zA,zAZ,show decide ((0:Int)<=((0:Nat):Int)-1)=false from rfl,zi];refine zZR ?_
   try simp only[zA]
   rw[zG9 3 (a:=((e-a:Nat):Int)) (b:=1) (by unfold zC1;omega)]
   try simp only[zA]
   exact pop (e-a) (xAF _) d' h R hF
  | succ r ih=>
   intro hr d' h R hF;have hsz:=R.sz;rw[show ((r+1:Nat):Int)-1=(r:Int) by omega];refine zMp ?_;simp only[zA,zAZ,show decide ((0:Int)<=(r:Int))=true from xAJ (by omega),zy];refine zZT ?_;simp only[zA,zS];refine (zV3 (lo:=r) (hi:=e-a) (first:=a) R.g R.l R.ok R.sz (by omega) hc (by omega) (by omega)).mono fun x hx=>?_;obtain⟨d3,⟨_,e3⟩,R3⟩:=hx;refine zZS ?_
   try simp only[zA]
   rw[zG9 3 (a:=(r:Int)) (b:=1) (by unfold zC1;omega)]
   try simp only[zA]
   exact ih (by omega) d3 _ (R.trans R3) (by rw[← hF,e3];rfl)
 have:=build ((e-a-1) / 2+1) (by omega) d _ (SRt.qb hg ax) rfl;rw[show (((e-a-1) / 2+1:Nat):Int)-1=(((e-a-1) / 2:Nat):Int) by omega] at this;exact this
end
section
variable {b ty es c:Nat} {k:AH} {d:Dt} {cf:Value} {cm:Int×Int->Int×Int->Int}
def zOj(hg:RowB k b ty es d)(ax:b<k.qa)(aa:k.ok){n:Nat}(hs:d.size=n)(hn:d.size<=1000000)(hc:zCk cf cm){x y sw:Nat}(hx:x<d.size)(hy:y<d.size){z:Int}(dq:k.get sw=some (rO [iI z] 3))(hswl:sw<k.qa)(ah:sw≠b) :
  Ev true ((zV E).call 283 [sl b n c,iI (x:Int),iI (y:Int),ptr sw,cf] k) fun r=>((r.1=.tuple #[iI (x:Int),iI (y:Int)]\/r.1=.tuple #[iI (y:Int),iI (x:Int)])/\Fx (fun c=>c=sw) k r.2/\∃ z,r.2.get sw=some (rO [iI z] 3)):=by
 subst hs;have e0:RowB k.qb b ty es d:=hg;have R:=SRt.qb (ty:=ty) (es:=es) hg ax;by_cases ab:cm d[y]! d[x]! < 0
 ·refine zdD (Rp:=fun v m=>(v=.tuple #[iI (x:Int),iI (y:Int)]\/v=.tuple #[iI (y:Int),iI (x:Int)])/\Fx (fun c=>c=sw) k m/\∃ z,m.get sw=some (rO [iI z] 3)) (zMa ?_)
  try simp only[zA]
  refine zMZ ?_;simp only[zA,zv hx,zv hy,R.ld hx,R.ld hy,hc _ _ _ R.ok,zO,zY,ab,decide_true,zy];refine zXs ?_;have hl:zH E 3 k.qb (some (ptr sw))=some (iI z):=zF (P:=E) zAa (o:=0) dq;obtain⟨z',bB⟩:∃ z',zC E .add 3 (iI z) (iI 1)=some (iI z'):=⟨_,zK4 3 z 1⟩;have af:zb E 3 k.qb (some (ptr sw)) (some (iI z'))=one (undef,k.qb.upd sw (some (rO [iI z'] 3))):=zAC (P:=E) zT7 (x:=iI z') (cs:=[iI z']) (o:=0) (h:=k.qb) (vs:=[iI z]) dq rfl rfl (by simp) rfl;have f:=(Fx.refl (P:=fun c=>c=sw) (zAX k)).upd (b:=sw) (.inl rfl) (some (rO [iI z'] 3));have jr:=zN k.qb sw (some (rO [iI z'] 3));have fa:=(zJA k.qb sw (some (rO [iI z'] 3))).1;generalize k.qb.upd sw (some (rO [iI z'] 3))=m at f jr fa af;simp only[zA,zAj,hl,bB,af,zL];refine zXr ?_;simp only[zA,zRU,zU,true_and];exact⟨.inr (Nat.lt_of_le_of_lt fa hswl),.inr True.intro,f.back,z',zFD jr⟩
 ·have:(zV E).call 283 [sl b d.size c,iI (x:Int),iI (y:Int),ptr sw,cf] k=some [(.tuple #[iI (x:Int),iI (y:Int)],k)]:=by
   refine zTF aa rfl (zMa ?_)
   try simp only[zA]
   refine zMZ ?_;simp only[zA,zv hx,zv hy,R.ld hx,R.ld hy,hc _ _ _ R.ok,zO,zY,ab,decide_false,zi];refine zXq ?_;simp only[zA,zRU,zU,true_and];show k.qa<=k.qa+UNK;omega
  rw[this,zO];exact⟨.inl rfl,Fx.refl aa,z,dq⟩
structure PVt(b ty es:Nat)(d:Dt)(sw:Nat)(k0 k:AH):Prop where
 g:RowB k b ty es d
 l:b<k.qa
 hz:∃ z,k.get sw=some (rO [iI z] 3)
 sl:sw<k.qa
 ne:sw≠b
 fx:Fx (fun c=>c=sw) k0 k
def PVt.step{sw:Nat}{k0 k m:AH}(p:PVt b ty es d sw k0 k)(f:Fx (fun c=>c=sw) k m)(hz:∃ z,m.get sw=some (rO [iI z] 3)):PVt b ty es d sw k0 m:=
 ⟨p.g.eq (f.get b p.l (fun h=>p.ne h.symm)),xAC p.l f.qa,hz,xAC p.sl f.qa,p.ne,p.fx.trans f fun c h=>.inl h⟩
def PVt.start{sw:Nat}{k:AH}(aa:k.ok)(hg:RowB k b ty es d)(hl:b<k.qa)(hz:∃ z,k.get sw=some (rO [iI z] 3))(iD:sw<k.qa)(ah:sw≠b):PVt b ty es d sw k k:=⟨hg,hl,hz,iD,ah,Fx.refl aa⟩
def PVt.qb{sw:Nat}{k0 k:AH}(p:PVt b ty es d sw k0 k):PVt b ty es d sw k.qb k.qb:=⟨p.g,p.l,p.hz,p.sl,p.ne,Fx.refl (zAX k)⟩
def zV2{sw:Nat}{k0:AH}(p:PVt b ty es d sw k0 k)(aa:k.ok){n:Nat}(hs:d.size=n)(hn:d.size<=1000000)(hc:zCk cf cm){x y z:Nat}(hx:x<d.size)(hy:y<d.size)(hz:z<d.size) :
  Ev true ((zV E).call 272 [sl b n c,iI (x:Int),iI (y:Int),iI (z:Int),ptr sw,cf] k) fun r=>(∃ q:Nat,r.1=iI (q:Int)/\(q=x\/q=y\/q=z))/\PVt b ty es d sw k r.2:=by
 obtain⟨z0,gO⟩:=p.hz;refine (ziW (Q:=fun v=>∃ q:Nat,v=iI (q:Int)/\(q=x\/q=y\/q=z)) gO aa zhb zdE (zha _ _) (by kernel_rfl) (zmT (Rp:=fun v m=>(∃ q:Nat,v=iI (q:Int)/\(q=x\/q=y\/q=z))/\Fx (fun c=>c=sw) k.qb m/\∃ z,m.get sw=some (rO [iI z] 3)) (zYE ?_))).mono ?_;rotate_left
 ·rintro⟨v,m⟩ ⟨hq,f,hz⟩;exact⟨hq,(PVt.start aa p.g p.l p.hz p.sl p.ne).step f hz⟩
 try simp only[zA]
 refine zYD ?_;simp only[zA,zS];have pf:=p.qb;obtain⟨z1,iB⟩:=pf.hz;refine (zOj (c:=c) pf.g pf.l (zAX k) hs hn hc hx hy iB pf.sl pf.ne).mono ?_;rintro⟨v,m⟩ ⟨hv,f,ef⟩;have p1:=pf.step f ef;obtain⟨i,j,hi,hj,bH,rfl⟩:∃ i j:Nat,i<d.size/\j<d.size/\((i=x\/i=y)/\(j=x\/j=y))/\v=.tuple #[iI (i:Int),iI (j:Int)]:=by
  rcases hv with h|h
  ·exact⟨x,y,hx,hy,⟨.inl rfl,.inr rfl⟩,h⟩
  ·exact⟨y,x,hy,hx,⟨.inr rfl,.inl rfl⟩,h⟩
 simp only[zA,ex0,ex1];refine zYC ?_;simp only[zA,zS];obtain⟨z3,iO⟩:=p1.hz;refine (zOj (c:=c) p1.g p1.l f.ok hs hn hc hj hz iO p1.sl p1.ne).mono ?_;rintro⟨v2,m2⟩ ⟨dm,f2,hz4⟩;have p2:=p1.step f2 hz4;obtain⟨i2,j2,eP,hij2,rfl⟩:∃ i2 j2:Nat,i2<d.size/\(i2=j\/i2=z)/\v2=.tuple #[iI (i2:Int),iI (j2:Int)]:=by
  rcases dm with h|h
  ·exact⟨j,z,hj,.inl rfl,h⟩
  ·exact⟨z,j,hz,.inr rfl,h⟩
 simp only[zA,ex0,ex1];refine zYB ?_;simp only[zA,zS];obtain⟨z5,hz5⟩:=p2.hz;refine (zOj (c:=c) p2.g p2.l f2.ok hs hn hc hi eP hz5 p2.sl p2.ne).mono ?_;rintro⟨v3,m3⟩ ⟨fq,f3,hz6⟩;have p3:=p2.step f3 hz6;obtain⟨i3,j3,hij3,rfl⟩:∃ i3 j3:Nat,(j3=i\/j3=i2)/\v3=.tuple #[iI (i3:Int),iI (j3:Int)]:=by
  rcases fq with h|h
  ·exact⟨i,i2,.inr rfl,h⟩
  ·exact⟨i2,i,.inl rfl,h⟩
 simp only[zA,ex0,ex1];refine zYA ?_
 try simp only[zA]
 rw[zAS];refine⟨zU ▸ trivial,⟨j3,rfl,?_⟩,p3.fx,p3.hz⟩;omega
def zOk{sw:Nat}{k0:AH}(p:PVt b ty es d sw k0 k)(aa:k.ok){n:Nat}(hs:d.size=n)(hn:d.size<=1000000)(hc:zCk cf cm){x:Nat}(dS:1<=x)(hx:x+1<d.size) :
  Ev true ((zV E).call 271 [sl b n c,iI (x:Int),ptr sw,cf] k) fun r=>(∃ q:Nat,r.1=iI (q:Int)/\x-1<=q/\q<=x+1)/\PVt b ty es d sw k r.2:=by
 obtain⟨z0,gO⟩:=p.hz;refine (ziW (Q:=fun v=>∃ q:Nat,v=iI (q:Int)/\x-1<=q/\q<=x+1) gO aa zhd zdF (zhc _ _) (by kernel_rfl) (zmU (Rp:=fun v m=>(∃ q:Nat,v=iI (q:Int)/\x-1<=q/\q<=x+1)/\Fx (fun c=>c=sw) k.qb m/\∃ z,m.get sw=some (rO [iI z] 3)) (zYG ?_))).mono ?_;rotate_left
 ·rintro⟨v,m⟩ ⟨hq,f,hz⟩;exact⟨hq,(PVt.start aa p.g p.l p.hz p.sl p.ne).step f hz⟩
 try simp only[zA]
 refine zYF ?_;simp only[zA,zS,zB3 dS (show x<=9223372036854775807 by omega),zBc (show x+1<=9223372036854775807 by omega)];refine (zV2 (c:=c) p.qb (zAX k) hs hn hc (x:=x-1) (y:=x) (z:=x+1) (by omega) (by omega) hx).mono ?_;rintro⟨v,m⟩ ⟨⟨q,hq,dL⟩,p1⟩;simp only at hq;subst hq
 try simp only[zA]
 rw[zAS];exact⟨zU ▸ trivial,⟨q,rfl,by omega,by omega⟩,p1.fx,p1.hz⟩
end
def zj4{x:Nat}(h:x<=9223372036854775807):ze E (zk [(19,iI (x:Int))]) (zn zml [1,1,1,0] 2)=some (iI ((x / 4:Nat):Int)):=zHs (u:=19) (cc:=4) (by kernel_rfl) (by kernel_rfl) (by omega) h
def zj3{x:Nat}(h:x<=9223372036854775807):ze E (zk [(24,iI (x:Int))]) (zn zml [1,1,1,1,0] 2)=some (iI ((x / 4:Nat):Int)):=zHs (u:=24) (cc:=4) (by kernel_rfl) (by kernel_rfl) (by omega) h
def zj2{x:Nat}(h:x<=9223372036854775807):ze E (zk [(29,iI (x:Int))]) (zn zml [1,1,1,1,1,0] 2)=some (iI ((x / 4:Nat):Int)):=zHs (u:=29) (cc:=4) (by kernel_rfl) (by kernel_rfl) (by omega) h
section
variable {b ty es c:Nat} {k:AH} {d:Dt} {cf:Value} {cm:Int×Int->Int×Int->Int}
def zlC(hg:RowB k b ty es d)(ax:b<k.qa)(aa:k.ok){n:Nat}(hs:d.size=n)(hn:d.size<=1000000)(hc:zCk cf cm){a e:Nat}(h13:a+13<=e)(he:e<=d.size) :
  ∃(p:Nat) (aq:Int),(a<=p/\p<e)/\(aq=0\/aq=1\/aq=2)/\(zV E).call 251 [sl b n c,iI (a:Int),iI (e:Int),cf] k=some [(.tuple #[iI (p:Int),iI aq],k)]:=by
 have main:∃ v,(∃(p:Nat) (aq:Int),(a<=p/\p<e)/\(aq=0\/aq=1\/aq=2)/\v=.tuple #[iI (p:Int),iI aq])/\(zV E).call 251 [sl b n c,iI (a:Int),iI (e:Int),cf] k=some [(v,k)]:=by
  refine zTJ aa (zZG ?_)
  try simp only[zA]
  refine zZF ?_;simp only[zA,subN (show a<=e by omega) (show e<=9223372036854775807 by omega)];refine zZE ?_;obtain⟨k1,e1,n1,t1,o1,f1⟩:=nwF k (rO [iI 0] 3);rw[z_3];simp only[zd,zL,zDK,e1,za];have bN:RowB k1 b ty es d:=hg.eq (o1.ext.get b ax);have p1:PVt b ty es d k.qa k1 k1:=PVt.start o1.ext.ok bN (by omega) ⟨0,t1⟩ (by omega) (by omega);have hl:=show e-a<=9223372036854775807 by omega
  refine zZD ?_;simp only[zA,zj4 hl];rw[zrS (a:=(e-a) / 4) (by omega)];simp only[zA,zOy (show a+(e-a) / 4*1<=9223372036854775807 by omega)];refine zZC ?_;simp only[zA,zj3 hl];rw[zej (a:=(e-a) / 4) (by omega)];simp only[zA,zOy (show a+(e-a) / 4*2<=9223372036854775807 by omega)];refine zZB ?_;simp only[zA,zj2 hl];rw[zrR (a:=(e-a) / 4) (by omega)];simp only[zA,zOy (show a+(e-a) / 4*3<=9223372036854775807 by omega)];refine zZA ?_;simp only[zA,zAZ,show decide ((8:Int)<=((e-a:Nat):Int))=true from xAJ (by omega),zy];have fin:∀(m:AH) (q:Nat),PVt b ty es d k.qa k1 m->a<=q->q<e->zmC true (KR E [.tmp 8,.tmp 9] (fun x m=>(zg x=true/\∃(p:Nat) (aq:Int),(a<=p/\p<e)/\(aq=0\/aq=1\/aq=2)/\x=.tuple #[iI (p:Int),iI aq])/\k.qa<=m.wm)) (.pointer (some ⟨k.qa,0,none⟩)) (iI (q:Int)) m:=by
   intro m q p h1 h2;obtain⟨z,hz⟩:=p.hz;have fa:k.qa<=m.wm:=p.fx.wm k.qa o1.wm (fun c hc=>Nat.le_of_eq hc.symm) (by omega);refine zSD ?_;rw[zF (P:=E) zAa (o:=0) hz];simp only[lnth,zA];refine zSC ?_;have end_:∀ aq:Int,(aq=0\/aq=1\/aq=2)->KR E [.tmp 8,.tmp 9] (fun x m=>(zg x=true/\∃(p:Nat) (aq:Int),(a<=p/\p<e)/\(aq=0\/aq=1\/aq=2)/\x=.tuple #[iI (p:Int),iI aq])/\k.qa<=m.wm) .ret [iI (q:Int),iI aq] m:=by
    intro aq hh;rw[zRU];exact⟨zU ▸ trivial,⟨rfl,q,aq,⟨h1,h2⟩,hh,rfl⟩,fa⟩
   simp only[zA,zAd,zAN];refine⟨fun _=>zSB ?_,fun _=>zSA ?_⟩
   ·(try simp only[zA]);exact end_ 1 (.inr (.inl rfl))
   ·simp only[zA,zAd,zAN];refine⟨fun _=>zR9 ?_,fun _=>zR8 ?_⟩
    ·(try simp only[zA]);exact end_ 2 (.inr (.inr rfl))
    ·(try simp only[zA]);exact end_ 0 (.inl rfl)
  have last:∀(m:AH) (i j l:Nat),PVt b ty es d k.qa k1 m->m.ok->(a<=i/\i<e)->(a<=j/\j<e)->(a<=l/\l<e)->zmD true (KR E [.tmp 8,.tmp 9] (fun x m=>(zg x=true/\∃(p:Nat) (aq:Int),(a<=p/\p<e)/\(aq=0\/aq=1\/aq=2)/\x=.tuple #[iI (p:Int),iI aq])/\k.qa<=m.wm)) (sl b n c) cf (.pointer (some ⟨k.qa,0,none⟩)) (iI (i:Int)) (iI (j:Int)) (iI (l:Int)) m:=by
   intro m i j l p hm hi hj hl;refine zSE ?_;simp only[zA,zS];refine (zV2 (c:=c) p hm hs hn hc (x:=i) (y:=j) (z:=l) (by omega) (by omega) (by omega)).mono ?_;rintro⟨v,m2⟩ ⟨⟨q,hq,dL⟩,p2⟩;simp only at hq;subst hq
   try simp only[zA]
   have:a<=q/\q<e:=by rcases dL with rfl|rfl|rfl <;> assumption
   exact fin m2 q ((p.step p2.fx p2.hz)) this.1 this.2
  refine zY9 ?_;simp only[zA,zAZ,zAN];refine⟨fun h50=>zY8 ?_,fun _=>last k1 _ _ _ p1 o1.ext.ok (by omega) (by omega) (by omega)⟩;simp only[zA,zS];refine (zOk (c:=c) p1 o1.ext.ok hs hn hc (x:=a+(e-a) / 4*1) (by omega) (by omega)).mono ?_;rintro⟨v,m2⟩ ⟨⟨q,hq,dL,hq3⟩,p2⟩;simp only at hq;subst hq
  try simp only[zA]
  have p2':=p1.step p2.fx p2.hz;refine zY7 ?_;simp only[zA,zS];refine (zOk (c:=c) p2' p2.fx.ok hs hn hc (x:=a+(e-a) / 4*2) (by omega) (by omega)).mono ?_;rintro⟨v,m3⟩ ⟨⟨q2,hq,hq4,hq5⟩,p3⟩;simp only at hq;subst hq
  try simp only[zA]
  have p3':=p2'.step p3.fx p3.hz;refine zSF ?_;simp only[zA,zS];refine (zOk (c:=c) p3' p3.fx.ok hs hn hc (x:=a+(e-a) / 4*3) (by omega) (by omega)).mono ?_;rintro⟨v,m4⟩ ⟨⟨q3,hq,hq6,hq7⟩,p4⟩;simp only at hq;subst hq
  try simp only[zA]
  exact last m4 q q2 q3 (p3'.step p4.fx p4.hz) p4.fx.ok (by omega) (by omega) (by omega)
 obtain⟨v,⟨p,aq,h1,h2,rfl⟩,h3⟩:=main;exact⟨p,aq,h1,h2,h3⟩
end
def zkz(a:Int)(h:AH):zQ E (zk [(18,iI a)]) (zn zTu [1,1,0,0] 1) h=some (.int .u64 (IntKind.u64.wrap a)):=by kernel_rfl
def zoo(a b:Int):ze E (zk [(38,.int .u64 a),(40,.int .u64 b)]) (zn zTu [1,1,0,1,1,1,0,0,1,0,0,0] 3)=some (.int .u64 (IntKind.u64.wrap (BitVec.ofInt 64 a &&& BitVec.ofInt 64 b).toNat)):=by kernel_rfl
def ze3(a:Int)(h:AH):zQ E (zk [(41,.int .u64 a)]) (zn zTu [1,1,0,1,1,1,0,0,1,0,0,0] 4) h=some (iI (IntKind.i64.wrap a)):=by kernel_rfl
def zj5{x:Nat}(h:x<=9223372036854775807):ze E (zk [(23,iI (x:Int))]) (zn zTu [1,1,0,1,1,0] 2)=some (iI ((x / 4:Nat):Int)):=zHs (u:=23) (cc:=4) (by kernel_rfl) (by kernel_rfl) (by omega) h
def zUb{x:Nat}(h:x<=9223372036854775807):ze E (zk [(30,iI (x:Int))]) (zn zTu [1,1,0,1,1,1,0,0,0,0] 3)=some (iI ((x / 4:Nat):Int)):=zHs (u:=30) (cc:=4) (by kernel_rfl) (by kernel_rfl) (by omega) h
def SRt.side{b ty es:Nat}{k0 h m:AH}{d0 d:Dt}{r:Nat}(R:SRt b ty es k0 d0 h d)(f:Fx (fun c=>c=r) h m)(hr:k0.qa<=r)(ah:b≠r)(hw:m.wm<=h.wm):SRt b ty es k0 d0 m d:=
 ⟨R.fx.trans f fun c hc=>.inr (hc ▸ hr),R.g.eq (f.get b R.l ah),by
  rcases R.wm with h1|h1
  ·exact .inl (by omega)
  ·exact .inr h1,Nat.le_trans hw R.wle,R.sz,R.lt⟩
section
variable {b ty es c:Nat} {k:AH} {d:Dt} {cf:Value}
def zlD(hg:RowB k b ty es d)(ax:b<k.qa)(aa:k.ok){n:Nat}(hs:d.size=n)(hn:d.size<=1000000){a e:Nat}(h13:a+13<=e)(he:e<=d.size) :
  Ev true ((zV E).call 250 [sl b n c,iI (a:Int),iI (e:Int),cf] k) fun x=>∃ d',(x.1=.tuple #[]/\PermIn a e d d')/\SRt b ty es k d x.2 d':=by
 subst hs;refine zC8 (Q:=fun v d'=>v=.tuple #[]/\PermIn a e d d') hg ax aa zhp zdN (zho _ _) (by kernel_rfl) (zma (Rp:=RSt b ty es k d (fun v d'=>v=.tuple #[]/\PermIn a e d d')) (zZP ?_));simp only[zA,subN (show a<=e by omega) (show e<=9223372036854775807 by omega)];refine zZO ?_;simp only[zA,zAZ,show decide ((8:Int)<=((e-a:Nat):Int))=true from xAJ (by omega),zy];refine zZN ?_;obtain⟨k1,e1,n1,t1,o1,f1⟩:=nwF k (rO [.int .u64 0] 253);rw[zqz];simp only[zA,zkz,zd,zL,zDK,e1,za,zNk (show e-a<18446744073709551616 by omega)];have R1:SRt b ty es k.qb d k1 d:=by
  refine⟨?_,hg.eq (f1 b ax),.inr rfl,?_,rfl,ax⟩
  ·rw[← e1];exact (Fx.refl (zAX k)).new _
  ·rw[← e1,zCl];exact xAF _
 obtain⟨m1,s1,u1,-,w1,g1⟩:=zPC ⟨0,t1⟩ ((e-a:Nat):Int);have R2:SRt b ty es k.qb d m1 d:=R1.side (g1 k1 (fun c=>c=k.qa) (.inl rfl) (Fx.refl R1.ok)) (xAF _) (by omega) w1;simp only[s1,zL];have eH:k.qa<m1.qa:=by
  have:=(g1 k1 (fun c=>c=k.qa) (.inl rfl) (Fx.refl R1.ok)).qa;omega
 refine zZM ?_;obtain⟨M,hM,c193⟩:=zlP R2.ok (x:=e-a) (by omega) (by omega);simp only[zA,zS,c193,zO];refine zZL ?_;simp only[zA,zj5 (show e-a<=9223372036854775807 by omega)];rw[zej (by omega)];simp only[zA,zOy (show a+(e-a) / 4*2<=9223372036854775807 by omega),zB3 (show 1<=a+(e-a) / 4*2 by omega) (show a+(e-a) / 4*2<=9223372036854775807 by omega)];have loop:∀(m i:Nat),i+m=a+(e-a) / 4*2+2->a<=i->∀ d' h,SRt b ty es k.qb d h d'->PermIn a e d d'->U64 h k.qa->k.qa<h.qa->
   zpT true (KR E [] (RSt b ty es k d (fun v d'=>v=.tuple #[]/\PermIn a e d d'))) (sl b d.size c) (iI (a:Int)) (iI ((e-a:Nat):Int)) (.pointer (some ⟨k.qa,0,none⟩)) (.int .u64 (M:Int)) (iI (i:Int)) h:=by
  intro m
  induction m with
  | zero=>
   intro i hm hi d' h R hp hu hl;refine zMn ?_;simp only[zA,zUb (show e-a<=9223372036854775807 by omega)];rw[zej (by omega)];simp only[zA,zOy (show a+(e-a) / 4*2<=9223372036854775807 by omega),zBc (show a+(e-a) / 4*2+1<=9223372036854775807 by omega),zBJ,show decide ((i:Int)<=((a+(e-a) / 4*2+1:Nat):Int))=false from xAI (by omega),zi];rw[zNi];exact⟨zCc ▸ trivial,d',⟨rfl,hp⟩,R⟩
  | succ m ih=>
   intro i hm hi d' h R hp hu hl;have hsz:=R.sz;refine zMn ?_;simp only[zA,zUb (show e-a<=9223372036854775807 by omega)];rw[zej (by omega)];simp only[zA,zOy (show a+(e-a) / 4*2<=9223372036854775807 by omega),zBc (show a+(e-a) / 4*2+1<=9223372036854775807 by omega),zBJ,show decide ((i:Int)<=((a+(e-a) / 4*2+1:Nat):Int))=true from xAJ (by omega),zy];refine zZK ?_;rw[zS];refine (zlO hu hl R.ok).mono ?_;rintro⟨v,h2⟩ ⟨⟨u,rfl⟩,f2,u2,w2⟩;have R3:=R.side f2 (xAF _) (by omega) w2;obtain⟨r,hr,er⟩:=zon u (v:=M-1) (by omega);simp only[zA,subu hM.1 (show M<=4000000 by omega),zoo,er,ze3,zm1 (show r<=9223372036854775807 by omega)];have dy:k.qa<h2.qa:=xAC hl f2.qa;have rest:∀ o:Nat,o<e-a->zpS true (KR E [] (RSt b ty es k d (fun v d'=>v=.tuple #[]/\PermIn a e d d'))) (sl b d.size c) (iI (a:Int)) (iI ((e-a:Nat):Int)) (.pointer (some ⟨k.qa,0,none⟩)) (.int .u64 (M:Int)) (iI (i:Int)) (iI (o:Int)) h2:=by
    intro o ho;refine zZH ?_;obtain⟨m3,m4,q1,q2,R4,n42,n43⟩:=R3.swx (i:=i) (j:=a+o) (by omega) (by omega);simp only[zA,zOy (show a+o<=9223372036854775807 by omega),zv (show a+o<d.size by omega),zv (show i<d.size by omega),R3.ld (i:=i) (by omega),R3.ld (i:=a+o) (by omega),q1,q2,zL];refine zSG ?_;simp only[zA,zBc (show i+1<=9223372036854775807 by omega)];have hn4:k.qa<m4.qa/\m4.get k.qa=h2.get k.qa:=by
     exact⟨by rw[n42];exact dy,n43 _ (Nat.ne_of_gt ax)⟩
    refine ih (i+1) (by omega) (by omega) _ m4 R4 (permIn_trans _ _ _ _ _ hp (swp_permIn _ _ _ _ _ (by omega) (by omega) (by omega) (by omega) (by omega))) ?_ hn4.1;obtain⟨z,hz⟩:=u2;exact⟨z,hn4.2.trans hz⟩
   refine zZJ ?_;simp only[zA,zAZ,zAN];refine⟨fun h1=>zZI ?_,fun h1=>rest r (by omega)⟩;simp only[zA,subN (show e-a<=r by omega) (show r<=9223372036854775807 by omega)];exact rest (r-(e-a)) (by omega)
 exact loop 3 (a+(e-a) / 4*2-1) (by omega) (by omega) d m1 R2 (permIn_refl _ _ _) u1 eH
end
section
variable {b ty es c:Nat} {k:AH} {d:Dt} {cf:Value} {cm:Int×Int->Int×Int->Int}
def zm6(hn:d.size<=1000000)(hc:zCk cf cm){K:KF}{a j:Nat}{d':Dt}{h:AH}(R:SRt b ty es k.qb d h d')(ha:a<d.size)(hj:j<d.size):∀(m i:Nat),j+1<=i+m->i<=d.size+1->
  (zjP true K (sl b d.size c) (iI (a:Int)) cf (iI ((scanUp (fun x=>!zAe cm d'[a]! x) d' j i:Nat):Int)) (iI (j:Int)) h)->
  zjQ true K (sl b d.size c) (iI (a:Int)) cf (iI (i:Int)) (iI (j:Int)) h:=by
 have hsz:=R.sz;intro m
 induction m with
 | zero=>
  intro i hm hi hK;refine zMj ?_;simp only[zA,zBJ,show decide ((i:Int)<=(j:Int))=false from xAI (by omega),zM,zR,ft,xAH,zL,zJ,zi];unfold scanUp at hK;rw[if_neg (by simp;omega)] at hK;exact hK
 | succ m ih=>
  intro i hm hi hK;refine zMj ?_;by_cases bH:i<=j;rotate_left
  ·simp only[zA,zBJ,show decide ((i:Int)<=(j:Int))=false from xAI (by omega),zM,zR,ft,xAH,zL,zJ,zi];unfold scanUp at hK;rw[if_neg (by simp;omega)] at hK;exact hK
  ·simp only[zA,zBJ,show decide ((i:Int)<=(j:Int))=true from xAJ (by omega),zM,zR,xAO,xAG,zv ha,zv (show i<d.size by omega),R.ld (i:=a) (by omega),R.ld (i:=i) (by omega),hc _ _ _ R.ok,zO,zY,zAB,zJ];by_cases ht:cm d'[a]! d'[i]! < 0
   ·simp only[ht,decide_true,xAL,zi];unfold scanUp at hK;rw[if_neg (by simp[ht])] at hK;exact hK
   ·simp only[ht,decide_false,xAM,zy];unfold scanUp at hK;rw[if_pos (by simp[ht,bH] <;> omega)] at hK;refine zYo ?_;simp only[zA,zBc (show i+1<=9223372036854775807 by omega)];exact ih (i+1) (by omega) (by omega) hK
def zVh(hn:d.size<=1000000)(hc:zCk cf cm){K:KF}{a i:Nat}{d':Dt}{h:AH}(R:SRt b ty es k.qb d h d')(ha:a<d.size)(hi:1<=i):∀(j:Nat),j<d.size->
  (zpN true K (sl b d.size c) (iI (a:Int)) cf (iI (i:Int)) (iI ((scanDown (fun x=>zAe cm d'[a]! x) d' i j:Nat):Int)) h)->
  zjP true K (sl b d.size c) (iI (a:Int)) cf (iI (i:Int)) (iI (j:Int)) h:=by
 have hsz:=R.sz;intro j
 induction j with
 | zero=>
  intro hj hK;refine zMi ?_;simp only[zA,zBJ,show decide ((i:Int)<=((0:Nat):Int))=false from xAI (by omega),zM,zR,ft,xAH,zL,zJ,zi];exact hK
 | succ j ih=>
  intro hj hK;refine zMi ?_;by_cases bH:i<=j+1;rotate_left
  ·simp only[zA,zBJ,show decide ((i:Int)<=((j+1:Nat):Int))=false from xAI (by omega),zM,zR,ft,xAH,zL,zJ,zi];unfold scanDown at hK;rw[if_neg (by simp;omega)] at hK;exact hK
  ·simp only[zA,zBJ,show decide ((i:Int)<=((j+1:Nat):Int))=true from xAJ (by omega),zM,zR,xAO,xAG,zv ha,zv hj,R.ld (i:=a) (by omega),R.ld (i:=j+1) (by omega),hc _ _ _ R.ok,zO,zY,zJ];by_cases ht:cm d'[a]! d'[j+1]! < 0
   ·simp only[ht,decide_true,zy];unfold scanDown at hK;rw[if_pos (by simp[ht,bH])] at hK;refine zYn ?_;simp only[zA,zB3 (show 1<=j+1 by omega) (show j+1<=9223372036854775807 by omega),Nat.add_sub_cancel];exact ih (by omega) hK
   ·simp only[ht,decide_false,zi];unfold scanDown at hK;rw[if_neg (by simp[ht])] at hK;exact hK
def zq7(hn:d.size<=1000000)(hc:zCk cf cm){K:KF}{a j:Nat}{d':Dt}{h:AH}(R:SRt b ty es k.qb d h d')(ha:a<d.size)(hj:j<d.size):∀(m i:Nat),j+1<=i+m->i<=d.size+1->
  (zjO true K (sl b d.size c) (iI (a:Int)) cf (iI ((scanUp (fun x=>zAe cm x d'[a]!) d' j i:Nat):Int)) (iI (j:Int)) h)->
  zpM true K (sl b d.size c) (iI (a:Int)) cf (iI (i:Int)) (iI (j:Int)) h:=by
 have hsz:=R.sz;intro m
 induction m with
 | zero=>
  intro i hm hi hK;refine zMg ?_;simp only[zA,zBJ,show decide ((i:Int)<=(j:Int))=false from xAI (by omega),zM,zR,ft,xAH,zL,zJ,zi];unfold scanUp at hK;rw[if_neg (by simp;omega)] at hK;exact hK
 | succ m ih=>
  intro i hm hi hK;refine zMg ?_;by_cases bH:i<=j;rotate_left
  ·simp only[zA,zBJ,show decide ((i:Int)<=(j:Int))=false from xAI (by omega),zM,zR,ft,xAH,zL,zJ,zi];unfold scanUp at hK;rw[if_neg (by simp;omega)] at hK;exact hK
  ·simp only[zA,zBJ,show decide ((i:Int)<=(j:Int))=true from xAJ (by omega),zM,zR,xAO,xAG,zv ha,zv (show i<d.size by omega),R.ld (i:=a) (by omega),R.ld (i:=i) (by omega),hc _ _ _ R.ok,zO,zY,zJ];by_cases ht:cm d'[i]! d'[a]! < 0
   ·simp only[ht,decide_true,zy];unfold scanUp at hK;rw[if_pos (by simp[ht,bH])] at hK;refine zYf ?_;simp only[zA,zBc (show i+1<=9223372036854775807 by omega)];exact ih (i+1) (by omega) (by omega) hK
   ·simp only[ht,decide_false,zi];unfold scanUp at hK;rw[if_neg (by simp[ht])] at hK;exact hK
def zks(hn:d.size<=1000000)(hc:zCk cf cm){K:KF}{a i:Nat}{d':Dt}{h:AH}(R:SRt b ty es k.qb d h d')(ha:a<d.size)(hi:1<=i):∀(j:Nat),j<d.size->
  (zpL true K (sl b d.size c) (iI (a:Int)) cf (iI (i:Int)) (iI ((scanDown (fun x=>!zAe cm x d'[a]!) d' i j:Nat):Int)) h)->
  zjO true K (sl b d.size c) (iI (a:Int)) cf (iI (i:Int)) (iI (j:Int)) h:=by
 have hsz:=R.sz;intro j
 induction j with
 | zero=>
  intro hj hK;refine zMf ?_;simp only[zA,zBJ,show decide ((i:Int)<=((0:Nat):Int))=false from xAI (by omega),zM,zR,ft,xAH,zL,zJ,zi];exact hK
 | succ j ih=>
  intro hj hK;refine zMf ?_;by_cases bH:i<=j+1;rotate_left
  ·simp only[zA,zBJ,show decide ((i:Int)<=((j+1:Nat):Int))=false from xAI (by omega),zM,zR,ft,xAH,zL,zJ,zi];unfold scanDown at hK;rw[if_neg (by simp;omega)] at hK;exact hK
  ·simp only[zA,zBJ,show decide ((i:Int)<=((j+1:Nat):Int))=true from xAJ (by omega),zM,zR,xAO,xAG,zv ha,zv hj,R.ld (i:=a) (by omega),R.ld (i:=j+1) (by omega),hc _ _ _ R.ok,zO,zY,zAB,zJ];by_cases ht:cm d'[j+1]! d'[a]! < 0
   ·simp only[ht,decide_true,xAL,zi];unfold scanDown at hK;rw[if_neg (by simp[ht])] at hK;exact hK
   ·simp only[ht,decide_false,xAM,zy];unfold scanDown at hK;rw[if_pos (by simp[ht,bH] <;> omega)] at hK;refine zYe ?_;simp only[zA,zB3 (show 1<=j+1 by omega) (show j+1<=9223372036854775807 by omega),Nat.add_sub_cancel];exact ih (by omega) hK
def ziQ(hn:d.size<=1000000)(hc:zCk cf cm){K:KF}{a j:Nat}{d':Dt}{h:AH}(R:SRt b ty es k.qb d h d')(ha:a<d.size)(hj:j<d.size):∀(m i:Nat),j+1<=i+m->i<=d.size+1->
  (zYi true K (sl b d.size c) (iI (a:Int)) cf (iI ((scanUp (fun x=>zAe cm x d'[a]!) d' j i:Nat):Int)) (iI (j:Int)) h)->
  zYj true K (sl b d.size c) (iI (a:Int)) cf (iI (i:Int)) (iI (j:Int)) h:=by
 have hsz:=R.sz;intro m
 induction m with
 | zero=>
  intro i hm hi hK;refine zJ6 ?_;simp only[zA,zBJ,show decide ((i:Int)<=(j:Int))=false from xAI (by omega),zM,zR,ft,xAH,zL,zJ,zi];unfold scanUp at hK;rw[if_neg (by simp;omega)] at hK;exact hK
 | succ m ih=>
  intro i hm hi hK;refine zJ6 ?_;by_cases bH:i<=j;rotate_left
  ·simp only[zA,zBJ,show decide ((i:Int)<=(j:Int))=false from xAI (by omega),zM,zR,ft,xAH,zL,zJ,zi];unfold scanUp at hK;rw[if_neg (by simp;omega)] at hK;exact hK
  ·simp only[zA,zBJ,show decide ((i:Int)<=(j:Int))=true from xAJ (by omega),zM,zR,xAO,xAG,zv ha,zv (show i<d.size by omega),R.ld (i:=a) (by omega),R.ld (i:=i) (by omega),hc _ _ _ R.ok,zO,zY,zJ];by_cases ht:cm d'[i]! d'[a]! < 0
   ·simp only[ht,decide_true,zy];unfold scanUp at hK;rw[if_pos (by simp[ht,bH])] at hK;refine zRq ?_;simp only[zA,zBc (show i+1<=9223372036854775807 by omega)];exact ih (i+1) (by omega) (by omega) hK
   ·simp only[ht,decide_false,zi];unfold scanUp at hK;rw[if_neg (by simp[ht])] at hK;exact hK
def zP1(hn:d.size<=1000000)(hc:zCk cf cm){K:KF}{a i:Nat}{d':Dt}{h:AH}(R:SRt b ty es k.qb d h d')(ha:a<d.size)(hi:1<=i):∀(j:Nat),j<d.size->
  (zl9 true K (sl b d.size c) (iI (a:Int)) cf (iI (i:Int)) (iI ((scanDown (fun x=>!zAe cm x d'[a]!) d' i j:Nat):Int)) h)->
  zYi true K (sl b d.size c) (iI (a:Int)) cf (iI (i:Int)) (iI (j:Int)) h:=by
 have hsz:=R.sz;intro j
 induction j with
 | zero=>
  intro hj hK;refine zJ5 ?_;simp only[zA,zBJ,show decide ((i:Int)<=((0:Nat):Int))=false from xAI (by omega),zM,zR,ft,xAH,zL,zJ,zi];exact hK
 | succ j ih=>
  intro hj hK;refine zJ5 ?_;by_cases bH:i<=j+1;rotate_left
  ·simp only[zA,zBJ,show decide ((i:Int)<=((j+1:Nat):Int))=false from xAI (by omega),zM,zR,ft,xAH,zL,zJ,zi];unfold scanDown at hK;rw[if_neg (by simp;omega)] at hK;exact hK
  ·simp only[zA,zBJ,show decide ((i:Int)<=((j+1:Nat):Int))=true from xAJ (by omega),zM,zR,xAO,xAG,zv ha,zv hj,R.ld (i:=a) (by omega),R.ld (i:=j+1) (by omega),hc _ _ _ R.ok,zO,zY,zAB,zJ];by_cases ht:cm d'[j+1]! d'[a]! < 0
   ·simp only[ht,decide_true,xAL,zi];unfold scanDown at hK;rw[if_neg (by simp[ht])] at hK;exact hK
   ·simp only[ht,decide_false,xAM,zy];unfold scanDown at hK;rw[if_pos (by simp[ht,bH] <;> omega)] at hK;refine zRp ?_;simp only[zA,zB3 (show 1<=j+1 by omega) (show j+1<=9223372036854775807 by omega),Nat.add_sub_cancel];exact ih (by omega) hK
def zk9(hg:RowB k b ty es d)(ax:b<k.qa)(aa:k.ok){n:Nat}(hs:d.size=n)(hn:d.size<=1000000)(hc:zCk cf cm){a e q:Nat}(h2:a+2<=e)(he:e<=d.size)(hq:a<=q/\q<e) :
  Ev true ((zV E).call 254 [sl b n c,iI (a:Int),iI (e:Int),iI (q:Int),cf] k) fun x=>∃ d',(x.1=iI (((partitionEqual (zAe cm) d a e q).1:Nat):Int)/\d'=(partitionEqual (zAe cm) d a e q).2)/\SRt b ty es k d x.2 d':=by
 subst hs;refine zC8 (Q:=fun v d'=>v=iI (((partitionEqual (zAe cm) d a e q).1:Nat):Int)/\d'=(partitionEqual (zAe cm) d a e q).2) hg ax aa zhj zdK (zhi _ _) (by kernel_rfl) (zmX (Rp:=RSt b ty es k d (fun v d'=>v=iI (((partitionEqual (zAe cm) d a e q).1:Nat):Int)/\d'=(partitionEqual (zAe cm) d a e q).2)) (zYr ?_))
 try simp only[zA]
 refine zYq ?_;have R0:SRt b ty es k.qb d k.qb d:=SRt.qb hg ax;obtain⟨m1,m2,e1,e2,R1⟩:=R0.sw (i:=a) (j:=q) (by omega) (by omega);simp only[zA,zv (show a<d.size by omega),zv (show q<d.size by omega),R0.ld (i:=a) (by omega),R0.ld (i:=q) (by omega),e1,e2,zL];refine zYp ?_;simp only[zA,zBc (show a+1<=9223372036854775807 by omega),zB3 (show 1<=e by omega) (show e<=9223372036854775807 by omega)];have loop:∀(m i j:Nat) (d':Dt) (h:AH),j+1<=i+m->a<i->i<=j+2->j<e->SRt b ty es k.qb d h d'->partEqLoop (zAe cm) a i j d'=partitionEqual (zAe cm) d a e q->
   zjQ true (KR E [.tmp 10] (RSt b ty es k d (fun v d'=>v=iI (((partitionEqual (zAe cm) d a e q).1:Nat):Int)/\d'=(partitionEqual (zAe cm) d a e q).2))) (sl b d.size c) (iI (a:Int)) cf (iI (i:Int)) (iI (j:Int)) h:=by
  intro m
  induction m with
  | zero=>
   intro i j d' h hm hai bH hj R hF;refine zm6 hn hc R (by omega) (by omega) (j+1) i (by omega) (by omega) (zVh hn hc R (by omega) ?_ j (by omega) (zMh ?_))
   ·have:=scanUp_ge (fun x=>!zAe cm d'[a]! x) d' j i;omega
   have g1:=scanUp_ge (fun x=>!zAe cm d'[a]! x) d' j i;have g2:=scanDown_le (fun x=>zAe cm d'[a]! x) d' (scanUp (fun x=>!zAe cm d'[a]! x) d' j i) j;rw[partEqLoop_eq] at hF;generalize scanUp (fun x=>!zAe cm d'[a]! x) d' j i=i2 at *;generalize scanDown (fun x=>zAe cm d'[a]! x) d' i2 j=j2 at *;rw[if_pos (by omega)] at hF;simp only[zA,zAO,show decide ((j2:Int)<(i2:Int))=true from xAJ (by omega),zy];refine zJ7 ?_
   try simp only[zA]
   rw[zAS];exact⟨zU ▸ trivial,d',⟨by rw[← hF],by rw[← hF]⟩,R⟩
  | succ m ih=>
   intro i j d' h hm hai bH hj R hF;have hsz:=R.sz;have g1:=scanUp_ge (fun x=>!zAe cm d'[a]! x) d' j i;refine zm6 hn hc R (by omega) (by omega) (j+1) i (by omega) (by omega) (zVh hn hc R (by omega) (by omega) j (by omega) (zMh ?_));have g2:=scanDown_le (fun x=>zAe cm d'[a]! x) d' (scanUp (fun x=>!zAe cm d'[a]! x) d' j i) j;rw[partEqLoop_eq] at hF;generalize scanUp (fun x=>!zAe cm d'[a]! x) d' j i=i2 at *;generalize scanDown (fun x=>zAe cm d'[a]! x) d' i2 j=j2 at *;simp only[zA,zAO,zAN];refine⟨fun eS=>zJ7 ?_,fun bc=>zYm ?_⟩
   ·try simp only[zA]
    rw[if_pos (by omega)] at hF;rw[zAS];exact⟨zU ▸ trivial,d',⟨by rw[← hF],by rw[← hF]⟩,R⟩
   ·rw[if_neg (by omega)] at hF;obtain⟨m3,m4,e3,e4,R2⟩:=R.sw (i:=i2) (j:=j2) (by omega) (by omega);simp only[zA,zv (show i2<d.size by omega),zv (show j2<d.size by omega),R.ld (i:=i2) (by omega),R.ld (i:=j2) (by omega),e3,e4,zL];refine zYl ?_;simp only[zA,zBc (show i2+1<=9223372036854775807 by omega)];refine zRu ?_;simp only[zA,zB3 (show 1<=j2 by omega) (show j2<=9223372036854775807 by omega)];exact ih (i2+1) (j2-1) _ m4 (by omega) (by omega) (by omega) (by omega) R2 hF
 exact loop e (a+1) (e-1) _ m2 (by omega) (by omega) (by omega) (by omega) R1 rfl
def zk8(hg:RowB k b ty es d)(ax:b<k.qa)(aa:k.ok){n:Nat}(hs:d.size=n)(hn:d.size<=1000000)(hc:zCk cf cm){a e q:Nat}(h2:a+2<=e)(he:e<=d.size)(hq:a<=q/\q<e) :
  Ev true ((zV E).call 255 [sl b n c,iI (a:Int),iI (e:Int),iI (q:Int),cf] k) fun x=>∃ d',((∃ w:Bool,x.1=.tuple #[iI (((partition (zAe cm) d a e q).1:Nat):Int),.bool w])/\d'=(partition (zAe cm) d a e q).2.2)/\SRt b ty es k d x.2 d':=by
 subst hs;refine zC8 (Q:=fun v d'=>(∃ w:Bool,v=.tuple #[iI (((partition (zAe cm) d a e q).1:Nat):Int),.bool w])/\d'=(partition (zAe cm) d a e q).2.2) hg ax aa zhh zdJ (zhg _ _) (by kernel_rfl) (zmW (Rp:=RSt b ty es k d (fun v d'=>(∃ w:Bool,v=.tuple #[iI (((partition (zAe cm) d a e q).1:Nat):Int),.bool w])/\d'=(partition (zAe cm) d a e q).2.2)) (zYk ?_));rw[partition_fst,partition_arr];generalize hF0:partLoop (zAe cm) a (a+1) (e-1) (swp d a q)=F
 try simp only[zA]
 refine zYh ?_;have R0:SRt b ty es k.qb d k.qb d:=SRt.qb hg ax;obtain⟨m1,m2,e1,e2,R1⟩:=R0.sw (i:=a) (j:=q) (by omega) (by omega);simp only[zA,zv (show a<d.size by omega),zv (show q<d.size by omega),R0.ld (i:=a) (by omega),R0.ld (i:=q) (by omega),e1,e2,zL];refine zYg ?_;simp only[zA,zBc (show a+1<=9223372036854775807 by omega),zB3 (show 1<=e by omega) (show e<=9223372036854775807 by omega)];have loop:∀(m i j:Nat) (d':Dt) (h:AH),j+1<=i+m->a<i->i<=j+2->j<e->SRt b ty es k.qb d h d'->partLoop (zAe cm) a i j d'=F->
   zYj true (KR E [.tmp 10,.tmp 11] (RSt b ty es k d (fun v d'=>(∃ w:Bool,v=.tuple #[iI ((F.1:Nat):Int),.bool w])/\d'=swp F.2 F.1 a))) (sl b d.size c) (iI (a:Int)) cf (iI (i:Int)) (iI (j:Int)) h:=by
  intro m
  induction m with
  | zero=>
   intro i j d' h hm hai bH hj R hF;have hsz:=R.sz;have g1:=scanUp_ge (fun x=>zAe cm x d'[a]!) d' j i;refine ziQ hn hc R (by omega) (by omega) (j+1) i (by omega) (by omega) (zP1 hn hc R (by omega) (by omega) j (by omega) (zJ4 ?_));have g2:=scanDown_le (fun x=>!zAe cm x d'[a]!) d' (scanUp (fun x=>zAe cm x d'[a]!) d' j i) j;rw[partLoop_eq] at hF;generalize scanUp (fun x=>zAe cm x d'[a]!) d' j i=i2 at *;generalize scanDown (fun x=>!zAe cm x d'[a]!) d' i2 j=j2 at *;rw[if_pos (by omega)] at hF;subst hF;simp only[zA,zAO,show decide ((j2:Int)<(i2:Int))=true from xAJ (by omega),zy];refine zJ3 ?_;obtain⟨m3,m4,e3,e4,R2⟩:=R.sw (i:=j2) (j:=a) (by omega) (by omega);simp only[zA,zv (show a<d.size by omega),zv (show j2<d.size by omega),R.ld (i:=a) (by omega),R.ld (i:=j2) (by omega),e3,e4,zL];refine zJ2 ?_
   try simp only[zA]
   rw[zRU];exact⟨zU ▸ trivial,_,⟨⟨false,rfl⟩,rfl⟩,R2⟩
  | succ m ih=>
   intro i j d' h hm hai bH hj R hF;have hsz:=R.sz;have g1:=scanUp_ge (fun x=>zAe cm x d'[a]!) d' j i;refine ziQ hn hc R (by omega) (by omega) (j+1) i (by omega) (by omega) (zP1 hn hc R (by omega) (by omega) j (by omega) (zJ4 ?_));have g2:=scanDown_le (fun x=>!zAe cm x d'[a]!) d' (scanUp (fun x=>zAe cm x d'[a]!) d' j i) j;rw[partLoop_eq] at hF;generalize scanUp (fun x=>zAe cm x d'[a]!) d' j i=i2 at *;generalize scanDown (fun x=>!zAe cm x d'[a]!) d' i2 j=j2 at *;simp only[zA,zAO,zAN];refine⟨fun eS=>zJ3 ?_,fun bc=>zRo ?_⟩
   ·rw[if_pos (by omega)] at hF;subst hF;obtain⟨m3,m4,e3,e4,R2⟩:=R.sw (i:=j2) (j:=a) (by omega) (by omega);simp only[zA,zv (show a<d.size by omega),zv (show j2<d.size by omega),R.ld (i:=a) (by omega),R.ld (i:=j2) (by omega),e3,e4,zL];refine zJ2 ?_
    try simp only[zA]
    rw[zRU];exact⟨zU ▸ trivial,_,⟨⟨false,rfl⟩,rfl⟩,R2⟩
   ·rw[if_neg (by omega)] at hF;obtain⟨m3,m4,e3,e4,R2⟩:=R.sw (i:=i2) (j:=j2) (by omega) (by omega);simp only[zA,zv (show i2<d.size by omega),zv (show j2<d.size by omega),R.ld (i:=i2) (by omega),R.ld (i:=j2) (by omega),e3,e4,zL];refine zRn ?_;simp only[zA,zBc (show i2+1<=9223372036854775807 by omega)];refine zRm ?_;simp only[zA,zB3 (show 1<=j2 by omega) (show j2<=9223372036854775807 by omega)];exact ih (i2+1) (j2-1) _ m4 (by omega) (by omega) (by omega) (by omega) R2 hF
 have hsz:=R1.sz;generalize swp d a q=d' at *;have g1:=scanUp_ge (fun x=>zAe cm x d'[a]!) d' (e-1) (a+1);refine zq7 hn hc R1 (by omega) (by omega) e (a+1) (by omega) (by omega) (zks hn hc R1 (by omega) (by omega) (e-1) (by omega) (zYd ?_));have g2:=scanDown_le (fun x=>!zAe cm x d'[a]!) d' (scanUp (fun x=>zAe cm x d'[a]!) d' (e-1) (a+1)) (e-1);rw[partLoop_eq] at hF0;generalize scanUp (fun x=>zAe cm x d'[a]!) d' (e-1) (a+1)=i2 at *;generalize scanDown (fun x=>!zAe cm x d'[a]!) d' i2 (e-1)=j2 at *;simp only[zA,zAO,zAN];refine⟨fun eS=>zYc ?_,fun bc=>zRt ?_⟩
 ·rw[if_pos (by omega)] at hF0;subst hF0;obtain⟨m3,m4,e3,e4,R2⟩:=R1.sw (i:=j2) (j:=a) (by omega) (by omega);simp only[zA,zv (show a<d.size by omega),zv (show j2<d.size by omega),R1.ld (i:=a) (by omega),R1.ld (i:=j2) (by omega),e3,e4,zL];refine zYb ?_
  try simp only[zA]
  rw[zRU];exact⟨zU ▸ trivial,_,⟨⟨true,rfl⟩,rfl⟩,R2⟩
 ·rw[if_neg (by omega)] at hF0;obtain⟨m3,m4,e3,e4,R2⟩:=R1.sw (i:=i2) (j:=j2) (by omega) (by omega);simp only[zA,zv (show i2<d.size by omega),zv (show j2<d.size by omega),R1.ld (i:=i2) (by omega),R1.ld (i:=j2) (by omega),e3,e4,zL];refine zRs ?_;simp only[zA,zBc (show i2+1<=9223372036854775807 by omega)];refine zRr ?_;simp only[zA,zB3 (show 1<=j2 by omega) (show j2<=9223372036854775807 by omega)];exact loop e (i2+1) (j2-1) _ m4 (by omega) (by omega) (by omega) (by omega) R2 hF0
end
section
variable {b ty es c:Nat} {k:AH} {d:Dt} {cf:Value} {cm:Int×Int->Int×Int->Int}
def zjq(hn:d.size<=1000000)(hc:zCk cf cm){K:KF}{a e:Nat}{v10:Value}{d':Dt}{h:AH}(R:SRt b ty es k.qb d h d')(he:e<=d.size):∀(m i:Nat),e<=i+m->1<=i->i<=e->
  (zpO true K (sl b d.size c) (iI (a:Int)) (iI (e:Int)) cf (iI ((scanSorted (zAe cm) d' e i:Nat):Int)) v10 h)->
  zpP true K (sl b d.size c) (iI (a:Int)) (iI (e:Int)) cf (iI (i:Int)) v10 h:=by
 have hsz:=R.sz;intro m
 induction m with
 | zero=>
  intro i hm h1 hi hK;refine zMk ?_;simp only[zA,zY,show decide ((i:Int)<(e:Int))=false from xAI (by omega),zM,zR,ft,xAH,zL,zJ,zi];unfold scanSorted at hK;rw[if_neg (by simp;omega)] at hK;exact hK
 | succ m ih=>
  intro i hm h1 hi hK;refine zMk ?_;by_cases hie:i<e;rotate_left
  ·simp only[zA,zY,show decide ((i:Int)<(e:Int))=false from xAI (by omega),zM,zR,ft,xAH,zL,zJ,zi];unfold scanSorted at hK;rw[if_neg (by simp;omega)] at hK;exact hK
  ·simp only[zA,zY,show decide ((i:Int)<(e:Int))=true from xAJ (by omega),zM,zR,xAO,xAG,zv (show i<d.size by omega),R.ld (i:=i) (by omega),zB3 h1 (show i<=9223372036854775807 by omega),zv (show i-1<d.size by omega),R.ld (i:=i-1) (by omega),hc _ _ _ R.ok,zO,zAB,zJ];by_cases ht:cm d'[i]! d'[i-1]! < 0
   ·simp only[ht,decide_true,xAL,zi];unfold scanSorted at hK;rw[if_neg (by simp[ht])] at hK;exact hK
   ·simp only[ht,decide_false,xAM,zy];unfold scanSorted at hK;rw[if_pos (by simp[ht,hie] <;> omega)] at hK;refine zYw ?_;simp only[zA,zBc (show i+1<=9223372036854775807 by omega)];exact ih (i+1) (by omega) (by omega) (by omega) hK
def zkt(hn:d.size<=1000000)(hc:zCk cf cm){K:KF}{v1 v2 v9 v10:Value}:∀(j:Nat) (d':Dt) (h:AH),j<d.size->SRt b ty es k.qb d h d'->
  (∀ h2 d2,SRt b ty es k.qb d h2 d2->d2=shiftDown (zAe cm) j d'->zY0 true K (sl b d.size c) v1 v2 cf v9 v10 h2)->
  zmB true K (sl b d.size c) v1 v2 cf v9 v10 (iI (j:Int)) h:=by
 intro j
 induction j with
 | zero=>
  intro d' h hj R hK;refine zJ9 ?_;simp only[zA,zAZ,show decide ((1:Int)<=((0:Nat):Int))=false from rfl,zi];exact hK h d' R rfl
 | succ j ih=>
  intro d' h hj R hK;have hsz:=R.sz;refine zJ9 ?_;simp only[zA,zAZ,show decide ((1:Int)<=((j+1:Nat):Int))=true from xAJ (by omega),zy];refine zR4 ?_;simp only[zA,zv hj,R.ld (i:=j+1) (by omega),zB3 (show 1<=j+1 by omega) (show j+1<=9223372036854775807 by omega),Nat.add_sub_cancel,zv (show j<d.size by omega),R.ld (i:=j) (by omega),hc _ _ _ R.ok,zO,zY,zAB];by_cases ht:cm d'[j+1]! d'[j]! < 0
  ·simp only[ht,decide_true,xAL,zi];refine zR3 ?_;obtain⟨m1,m2,e1,e2,R2⟩:=R.sw (i:=j+1) (j:=j) (by omega) (by omega);simp only[zA,zv hj,R.ld (i:=j+1) (by omega),zB3 (show 1<=j+1 by omega) (show j+1<=9223372036854775807 by omega),Nat.add_sub_cancel,zv (show j<d.size by omega),R.ld (i:=j) (by omega),e1,e2,zL];refine zR2 ?_;simp only[zA,zB3 (show 1<=j+1 by omega) (show j+1<=9223372036854775807 by omega),Nat.add_sub_cancel];exact ih _ _ (by omega) R2 fun h2 d2 R3 e=>hK h2 d2 R3 (by
    rw[e]
    conv=>rhs;simp only[shiftDown]
    rw[if_neg (by simp[ht])])
  ·simp only[ht,decide_false,xAM,zy];exact hK h d' R (by simp only[shiftDown];rw[if_pos (by simp[ht])])
def zq8(hn:d.size<=1000000)(hc:zCk cf cm){K:KF}{e:Nat}{v1 v9 v10:Value}(he:e<=d.size):∀(m j:Nat) (d':Dt) (h:AH),e<=j+m->1<=j->j<=e+1->SRt b ty es k.qb d h d'->
  (∀ h2 d2,SRt b ty es k.qb d h2 d2->d2=shiftUp (zAe cm) e j d'->zYy true K (sl b d.size c) v1 (iI (e:Int)) cf v9 v10 h2)->
  zmA true K (sl b d.size c) v1 (iI (e:Int)) cf v9 v10 (iI (j:Int)) h:=by
 intro m
 induction m with
 | zero=>
  intro j d' h hm h1 hj R hK;refine zJ8 ?_;simp only[zA,zY,show decide ((j:Int)<(e:Int))=false from xAI (by omega),zi];exact hK h d' R (by unfold shiftUp;rw[if_neg (by omega)])
 | succ m ih=>
  intro j d' h hm h1 hj R hK;have hsz:=R.sz;refine zJ8 ?_;simp only[zA,zY,zAN];refine⟨fun ab=>zRz ?_,fun cW=>hK h d' R (by unfold shiftUp;rw[if_neg (by omega)])⟩;simp only[zA,zv (show j<d.size by omega),R.ld (i:=j) (by omega),zB3 h1 (show j<=9223372036854775807 by omega),zv (show j-1<d.size by omega),R.ld (i:=j-1) (by omega),hc _ _ _ R.ok,zO,zY,zAB];by_cases ht:cm d'[j]! d'[j-1]! < 0
  ·simp only[ht,decide_true,xAL,zi];refine zRy ?_;obtain⟨m1,m2,e1,e2,R2⟩:=R.sw (i:=j) (j:=j-1) (by omega) (by omega);simp only[zA,zv (show j<d.size by omega),R.ld (i:=j) (by omega),zB3 h1 (show j<=9223372036854775807 by omega),zv (show j-1<d.size by omega),R.ld (i:=j-1) (by omega),e1,e2,zL];refine zRx ?_;simp only[zA,zBc (show j+1<=9223372036854775807 by omega)];exact ih (j+1) _ _ (by omega) (by omega) (by omega) R2 fun h2 d2 R3 e3=>hK h2 d2 R3 (by
    rw[e3]
    conv=>rhs;unfold shiftUp
    rw[if_pos (by omega),if_neg (by simp[ht])])
  ·simp only[ht,decide_false,xAM,zy];exact hK h d' R (by unfold shiftUp;rw[if_pos (by omega),if_pos (by simp[ht])])
def zlA(hg:RowB k b ty es d)(ax:b<k.qa)(aa:k.ok){n:Nat}(hs:d.size=n)(hn:d.size<=1000000)(hc:zCk cf cm){a e:Nat}(h2:a+2<=e)(he:e<=d.size) :
  Ev true ((zV E).call 253 [sl b n c,iI (a:Int),iI (e:Int),cf] k) fun x=>∃ d',(x.1=.bool (partialInsertionSort (zAe cm) d a e).2/\d'=(partialInsertionSort (zAe cm) d a e).1)/\SRt b ty es k d x.2 d':=by
 subst hs;refine zC8 (Q:=fun v d'=>v=.bool (partialInsertionSort (zAe cm) d a e).2/\d'=(partialInsertionSort (zAe cm) d a e).1) hg ax aa zhl zdL (zhk _ _) (by kernel_rfl) (zmY (Rp:=RSt b ty es k d (fun v d'=>v=.bool (partialInsertionSort (zAe cm) d a e).2/\d'=(partialInsertionSort (zAe cm) d a e).1)) (zY1 ?_));generalize hF0:partialInsertionSort (zAe cm) d a e=F
 try simp only[zA]
 refine zYz ?_;simp only[zA,zBc (show a+1<=9223372036854775807 by omega)];refine zYx ?_
 try simp only[zA]
 have loop:∀(s j i:Nat) (d':Dt) (h:AH),j+s=5->a+1<=i->i<=e->SRt b ty es k.qb d h d'->partialIns (zAe cm) a e s i d'=F->
   zpQ true (KR E [.tmp 8] (RSt b ty es k d (fun v d'=>v=.bool F.2/\d'=F.1))) (sl b d.size c) (iI (a:Int)) (iI (e:Int)) cf (iI (i:Int)) (iI (j:Int)) h:=by
  intro s
  induction s with
  | zero=>
   intro j i d' h hj hi1 eP R hF;simp only[partialIns] at hF;subst hF;refine zMl ?_;simp only[zA,zY,show decide ((j:Int)<5)=false from xAI (by omega),zi];refine zRv ?_
   try simp only[zA]
   rw[zAS];exact⟨zU ▸ trivial,d',⟨rfl,rfl⟩,R⟩
  | succ s ih=>
   intro j i d' h hj hi1 eP R hF;simp only[partialIns] at hF;refine zMl ?_;simp only[zA,zY,show decide ((j:Int)<5)=true from xAJ (by omega),zy];obtain⟨g1,g2⟩:=zKW (zAe cm) d' e e i (by omega) eP;refine zjq hn hc R he e i (by omega) (by omega) eP (zYv ?_);generalize scanSorted (zAe cm) d' e i=i2 at *;simp only[zA,zAd,zAN];refine⟨fun h1=>zYu ?_,fun h1=>zYt ?_⟩
   ·rw[if_pos (by omega)] at hF;subst hF
    try simp only[zA]
    rw[zAS];exact⟨zU ▸ trivial,d',⟨rfl,rfl⟩,R⟩
   rw[if_neg (by omega)] at hF;simp only[zA,subN (show a<=e by omega) (show e<=9223372036854775807 by omega),zY,zAN];refine⟨fun h3=>zYs ?_,fun h3=>zR7 ?_⟩
   ·rw[if_pos (by omega)] at hF;subst hF
    try simp only[zA]
    rw[zAS];exact⟨zU ▸ trivial,d',⟨rfl,rfl⟩,R⟩
   rw[if_neg (by omega)] at hF;have hsz:=R.sz;obtain⟨m1,m2,e1,e2,R2⟩:=R.sw (i:=i2) (j:=i2-1) (by omega) (by omega);simp only[zA,zv (show i2<d.size by omega),R.ld (i:=i2) (by omega),zB3 (show 1<=i2 by omega) (show i2<=9223372036854775807 by omega),zv (show i2-1<d.size by omega),R.ld (i:=i2-1) (by omega),e1,e2,zL];generalize swp d' i2 (i2-1)=d2 at *;have tail:∀(d4:Dt) (h4:AH),SRt b ty es k.qb d h4 d4->partialIns (zAe cm) a e s i2 d4=F->zYy true (KR E [.tmp 8] (RSt b ty es k d (fun v d'=>v=.bool F.2/\d'=F.1))) (sl b d.size c) (iI (a:Int)) (iI (e:Int)) cf (iI (i2:Int)) (iI (j:Int)) h4:=by
    intro d4 h4 R4 hF4;refine zRw ?_;simp only[zA,zBc (show j+1<=9223372036854775807 by omega)];exact ih (j+1) i2 d4 h4 (by omega) (by omega) (by omega) R4 hF4
   have mid:∀(d3:Dt) (h3:AH),SRt b ty es k.qb d h3 d3->partialIns (zAe cm) a e s i2 (if e-i2 ≥ 2 then shiftUp (zAe cm) e (i2+1) d3 else d3)=F->zY0 true (KR E [.tmp 8] (RSt b ty es k d (fun v d'=>v=.bool F.2/\d'=F.1))) (sl b d.size c) (iI (a:Int)) (iI (e:Int)) cf (iI (i2:Int)) (iI (j:Int)) h3:=by
    intro d3 h3 R3 hF3;refine zR1 ?_;simp only[zA,subN (show i2<=e by omega) (show e<=9223372036854775807 by omega),zAZ,zAN];refine⟨fun h5=>zR0 ?_,fun h5=>tail d3 h3 R3 (by rw[if_neg (by omega)] at hF3;exact hF3)⟩;rw[if_pos (by omega)] at hF3;simp only[zA,zBc (show i2+1<=9223372036854775807 by omega)];exact zq8 hn hc he e (i2+1) d3 h3 (by omega) (by omega) (by omega) R3 fun h5 d5 R5 e5=>tail d5 h5 R5 (by rw[e5];exact hF3)
   refine zR6 ?_;simp only[zA,subN (show a<=i2 by omega) (show i2<=9223372036854775807 by omega),zAZ,zAN];refine⟨fun h5=>zR5 ?_,fun h5=>mid d2 m2 R2 (by rw[if_neg (show ¬ i2-a ≥ 2 by omega)] at hF;exact hF)⟩;rw[if_pos (show i2-a ≥ 2 by omega)] at hF;simp only[zA,zB3 (show 1<=i2 by omega) (show i2<=9223372036854775807 by omega)];exact zkt hn hc (i2-1) d2 m2 (by omega) R2 fun h5 d5 R5 e5=>mid d5 h5 R5 (by rw[e5];exact hF)
 exact loop 5 0 (a+1) d _ rfl (xAF _) (by omega) (SRt.qb hg ax) hF0
end
def zng{x:Nat}(h:x<=9223372036854775807):ze E (zk [(121,iI (x:Int))]) (zn zqw [1,1,0,0,0,1,1,1,1,1,1,1,1,1,1,1,0] 1)=some (iI ((x / 8:Nat):Int)):=zHs (u:=121) (cc:=8) (by kernel_rfl) (by kernel_rfl) (by omega) h
section
variable {b ty es c:Nat} {k:AH} {d:Dt} {cf:Value} {cm:Int×Int->Int×Int->Int}
def PDt(b ty es c:Nat)(cf:Value)(cm:Int×Int->Int×Int->Int)(N:Nat):Prop:=∀(k:AH) (d:Dt) (n a e lim:Nat),e-a<=N->RowB k b ty es d->b<k.qa->k.ok->d.size=n->d.size<=1000000->a<=e->e<=d.size->lim<=1000->Below (zAe cm) a e d->
 Ev true ((zV E).call 221 [sl b n c,iI (a:Int),iI (e:Int),iI (lim:Int),cf] k) fun x=>∃ d',QP cm a e d x.1 d'/\SRt b ty es k d x.2 d'
def zkJ{N a0 e0:Nat}(hd:d.size<=1000000)(hc:zCk cf cm)(hS:SWO (zAe cm))(ih:PDt b ty es c cf cm N) :
  ∀(M a e lim:Nat) (wb wp:Bool) (d':Dt) (h:AH),e-a<=M->e-a<=N+1->a<=e->e<=d.size->lim<=1000->Below (zAe cm) a e d'->SRt b ty es k.qb d h d'->
   (∀ R,PermIn a e d' R->SortedIn (zAe cm) a e R->PermIn a0 e0 d R/\SortedIn (zAe cm) a0 e0 R)->
   zpj true (KR E [] (RSt b ty es k d (QP cm a0 e0 d))) (sl b d.size c) (iI (a:Int)) (iI (e:Int)) (iI (lim:Int)) cf (.bool wb) (.bool wp) h:=by
 have hd':d.size<=1000000:=by omega
 intro M
 induction M using Nat.strongRecOn with
 | ind M ihM=>
 intro a e lim wb wp d' h hM hN dF he hlim hB R H;have hsz:=R.sz;refine zIZ ?_;simp only[zA,subN dF (show e<=9223372036854775807 by omega)];refine zIY ?_;simp only[zA,zBJ,zAN];refine⟨fun h12=>zIX ?_,fun h12=>zaP ?_⟩
 ·simp only[zA,zS];refine (zV5 (c:=c) (a:=a) (e:=e) R.g R.l R.ok hsz (by omega) hc dF (by omega)).mono ?_;rintro⟨v,h2⟩ ⟨d2,⟨_,e2⟩,R2⟩;obtain⟨q1,q2⟩:=insertionSort_holds hS d' a e dF (by omega);obtain⟨p1,p2⟩:=H d2 (by rw[e2];exact q1) (by rw[e2];exact q2);rw[zNi];exact⟨zU ▸ trivial,d2,⟨rfl,p1,p2⟩,R.trans R2⟩
 have h13:a+13<=e:=by omega
 simp only[zA,zAd,zAN];refine⟨fun ga=>zaO ?_,fun ga=>zaN ?_⟩
 ·simp only[zA,zS];refine (zlE (c:=c) (a:=a) (e:=e) R.g R.l R.ok hsz (by omega) hc (by omega) (by omega)).mono ?_;rintro⟨v,h2⟩ ⟨d2,⟨_,e2⟩,R2⟩;obtain⟨q1,q2⟩:=heapSort_holds hS d' a e dF (by omega);obtain⟨p1,p2⟩:=H d2 (by rw[e2];exact q1) (by rw[e2];exact q2);rw[zNi];exact⟨zU ▸ trivial,d2,⟨rfl,p1,p2⟩,R.trans R2⟩
 have p17:∀(lim:Nat) (wb wp:Bool) (q:Nat) (d3:Dt) (h3:AH),lim<=1000->a<=q->q<e->PermIn a e d' d3->SRt b ty es k.qb d h3 d3->
   zmG true (KR E [] (RSt b ty es k d (QP cm a0 e0 d))) (sl b d.size c) (iI (a:Int)) (iI (e:Int)) (iI (lim:Int)) cf (.bool wb) (.bool wp) (iI ((e-a:Nat):Int)) (iI (q:Int)) h3:=by
  intro lim wb wp q d3 h3 hlim fC dL hP R3;have iZ:=R3.sz;have hB3:Below (zAe cm) a e d3:=hB.perm (by omega) hP;have H3:∀ R,PermIn a e d3 R->SortedIn (zAe cm) a e R->PermIn a0 e0 d R/\SortedIn (zAe cm) a0 e0 R:=fun R r1 r2=>H R (permIn_trans _ _ _ _ _ hP r1) r2;have p20:zmF true (KR E [] (RSt b ty es k d (QP cm a0 e0 d))) (sl b d.size c) (iI (a:Int)) (iI (e:Int)) (iI (lim:Int)) cf (iI ((e-a:Nat):Int)) (iI (q:Int)) h3:=by
   refine zSX ?_;simp only[zA,zS];refine (zk8 (c:=c) (a:=a) (e:=e) (q:=q) R3.g R3.l R3.ok iZ (by omega) hc (by omega) (by omega) ⟨fC,dL⟩).mono ?_;rintro⟨v,h4⟩ ⟨d4,⟨⟨w,hv⟩,e4⟩,R4⟩;simp only at hv;subst hv;obtain⟨r1,r2,r3,r4,r5,r6,r7⟩:=round_part hS (partition_holds _) (ap:=(partition (zAe cm) d3 a e q).2.1) (d4:=d4) fC dL (by omega) hB3 (by rw[e4]);generalize (partition (zAe cm) d3 a e q).1=mid at *;have R34:=R3.trans R4;have iY:=R34.sz;simp only[zA,ex0,ex1];refine zSW ?_
   try simp only[zA]
   refine zSV ?_;simp only[zA,subN r1 (show mid<=9223372036854775807 by omega),subN (show mid<=e by omega) (show e<=9223372036854775807 by omega)];refine zSU ?_;simp only[zA,zng (show e-a<=9223372036854775807 by omega)];refine zST ?_;simp only[zA,zY,zAN];refine⟨fun hlr=>zSS ?_,fun hlr=>zSP ?_⟩
   ·simp only[zA,zAZ];refine zSR ?_;simp only[zA,zS];refine (ih h4 d4 d.size a mid lim (by omega) R34.g R34.l R34.ok iY (by omega) r1 (by omega) hlim r4).mono ?_;rintro⟨v,h5⟩ ⟨d5,⟨_,q1,q2⟩,R5⟩;obtain⟨s1,s2⟩:=r6 d5 q1 q2;refine zSQ ?_;simp only[zA,zBc (show mid+1<=9223372036854775807 by omega)];exact ihM (e-(mid+1)) (by omega) (mid+1) e lim _ w d5 h5 (by omega) (by omega) (by omega) he hlim s1 (R34.trans R5) fun R u1 u2=>(s2 R u1 u2).elim fun t1 t2=>H3 R t1 t2
   ·simp only[zA,zAZ];refine zSO ?_;simp only[zA,zBc (show mid+1<=9223372036854775807 by omega),zS];refine (ih h4 d4 d.size (mid+1) e lim (by omega) R34.g R34.l R34.ok iY (by omega) (by omega) (by omega) hlim r5).mono ?_;rintro⟨v,h5⟩ ⟨d5,⟨_,q1,q2⟩,R5⟩;obtain⟨s1,s2⟩:=r7 d5 q1 q2;refine zSN ?_
    try simp only[zA]
    exact ihM (mid-a) (by omega) a mid lim _ w d5 h5 (by omega) (by omega) r1 (by omega) hlim s1 (R34.trans R5) fun R u1 u2=>(s2 R u1 u2).elim fun t1 t2=>H3 R t1 t2
  refine zSa ?_;by_cases ha0:0<a;rotate_left
  ·simp only[zA,zAO,show decide ((0:Int)<(a:Int))=false from xAI (by omega),zM,zR,ft,xAH,zL,zJ,zi];exact p20
  ·simp only[zA,zAO,show decide ((0:Int)<(a:Int))=true from xAJ (by omega),zM,zR,xAO,xAG,zB3 ha0 (show a<=9223372036854775807 by omega),zv (show a-1<d.size by omega),zv (show q<d.size by omega),R3.ld (i:=a-1) (by omega),R3.ld (i:=q) (by omega),hc _ _ _ R3.ok,zO,zY,zAB,zJ];by_cases ht:cm d3[a-1]! d3[q]! < 0
   ·simp only[ht,decide_true,xAL,zi];exact p20
   ·simp only[ht,decide_false,xAM,zy];refine zSZ ?_;simp only[zA,zS];refine (zk9 (c:=c) (a:=a) (e:=e) (q:=q) R3.g R3.l R3.ok iZ (by omega) hc (by omega) (by omega) ⟨fC,dL⟩).mono ?_;rintro⟨v,h4⟩ ⟨d4,⟨hv,e4⟩,R4⟩;simp only at hv;subst hv;obtain⟨r1,r2,r3,r4,r5⟩:=Go.Sort.round_eq hS (partitionEqual_holds _) (d4:=d4) ha0 fC dL (by omega) hB3 (by simp[ht]) (mid:=(partitionEqual (zAe cm) d3 a e q).1) (by rw[e4]);generalize (partitionEqual (zAe cm) d3 a e q).1=mid at *;have R34:=R3.trans R4
    try simp only[zA]
    refine zSY ?_
    try simp only[zA]
    exact ihM (e-mid) (by omega) mid e lim wb wp d4 h4 (by omega) (by omega) r2 he hlim r4 R34 fun R u1 u2=>(r5 R u1 u2).elim fun t1 t2=>H3 R t1 t2
 have p15:∀(lim:Nat) (wb wp:Bool) (q:Nat) (aq:Int) (d2:Dt) (h2:AH),lim<=1000->a<=q->q<e->PermIn a e d' d2->SRt b ty es k.qb d h2 d2->
   zmI true (KR E [] (RSt b ty es k d (QP cm a0 e0 d))) (sl b d.size c) (iI (a:Int)) (iI (e:Int)) (iI (lim:Int)) cf (.bool wb) (.bool wp) (iI ((e-a:Nat):Int)) (iI (q:Int)) (iI aq) h2:=by
  intro lim wb wp q aq d2 h2 hlim fC dL hP R2;have fA:=R2.sz;have hB2:Below (zAe cm) a e d2:=hB.perm (by omega) hP;have go16:zmH true (KR E [] (RSt b ty es k d (QP cm a0 e0 d))) (sl b d.size c) (iI (a:Int)) (iI (e:Int)) (iI (lim:Int)) cf (.bool wb) (.bool wp) (iI ((e-a:Nat):Int)) (iI (q:Int)) h2:=by
   refine zSb ?_;simp only[zA,zS];refine (zlA (c:=c) (a:=a) (e:=e) R2.g R2.l R2.ok fA (by omega) hc (by omega) (by omega)).mono ?_;rintro⟨v,h3⟩ ⟨d3,⟨hv,e3⟩,R3⟩;simp only at hv;subst hv;obtain⟨q1,q2⟩:=partialInsertionSort_holds hS d2 a e (by omega) (by omega) hB2;have R23:=R2.trans R3;cases hr:(partialInsertionSort (zAe cm) d2 a e).2 with
   | true=>
    simp only[zy];obtain⟨p1,p2⟩:=H d3 (by rw[e3];exact permIn_trans _ _ _ _ _ hP q1) (by rw[e3];exact q2 hr);rw[zNi];exact⟨zU ▸ trivial,d3,⟨rfl,p1,p2⟩,R23⟩
   | false=>
    simp only[zi];exact p17 lim wb wp q d3 h3 hlim fC dL (by rw[e3];exact permIn_trans _ _ _ _ _ hP q1) R23
  have no16:=p17 lim wb wp q d2 h2 hlim fC dL hP R2;refine zSc ?_;cases wb with
  | false=>
   simp only[zA,zM,ft,xAH,zJ,zi];exact no16
  | true=>
   cases wp with
   | false=>
    simp only[zA,zM,ft,xAO,xAG,xAH,zJ,zi];exact no16
   | true=>
    simp only[zA,zM,xAO,xAG,zJ,zAd,zAN];exact⟨fun _=>go16,fun _=>no16⟩
 have p10:∀(lim:Nat) (wb wp:Bool) (d1:Dt) (h1:AH),lim<=1000->PermIn a e d' d1->SRt b ty es k.qb d h1 d1->
   zmJ true (KR E [] (RSt b ty es k d (QP cm a0 e0 d))) (sl b d.size c) (iI (a:Int)) (iI (e:Int)) (iI (lim:Int)) cf (.bool wb) (.bool wp) (iI ((e-a:Nat):Int)) h1:=by
  intro lim wb wp d1 h1 hlim hP R1;have i7:=R1.sz;refine zSh ?_;obtain⟨q,aq,hq,hh,c147⟩:=zlC (c:=c) (a:=a) (e:=e) R1.g R1.l R1.ok i7 (by omega) hc h13 (by omega);simp only[zA,zS,c147,zO,ex0,ex1];refine zSg ?_;simp only[zA,zAd,zAN];refine⟨fun h2=>zSf ?_,fun h2=>p15 lim wb wp q aq d1 h1 hlim hq.1 hq.2 hP R1⟩;simp only[zA,zS];refine (zlB (c:=c) (a:=a) (e:=e) R1.g R1.l R1.ok i7 (by omega) (by omega) dF (by omega)).mono ?_;rintro⟨v,h3⟩ ⟨d2,⟨_,e2⟩,R2⟩;refine zSe ?_;simp only[zA,zB3 (show 1<=e by omega) (show e<=9223372036854775807 by omega),subN hq.1 (show q<=9223372036854775807 by omega),subN (show q-a<=e-1 by omega) (show e-1<=9223372036854775807 by omega)];refine zSd ?_
  try simp only[zA]
  exact p15 lim wb wp (e-1-(q-a)) 1 d2 h3 hlim (by omega) (by omega) (by rw[e2];exact permIn_trans _ _ _ _ _ hP (reverseRange_holds d1 a e dF (by omega))) (R1.trans R2)
 cases wb with
 | true=>
  simp only[zA,zAB,xAL,zi];exact p10 lim true wp d' h hlim (permIn_refl _ _ _) R
 | false=>
  simp only[zA,zAB,xAM,zy];refine zaM ?_;simp only[zA,zS];refine (zlD (c:=c) (a:=a) (e:=e) R.g R.l R.ok hsz (by omega) h13 (by omega)).mono ?_;rintro⟨v,h2⟩ ⟨d2,⟨_,e2⟩,R2⟩;refine zaL ?_;simp only[zA,zB3 (show 1<=lim by omega) (show lim<=9223372036854775807 by omega)];exact p10 (lim-1) false wp d2 h2 (by omega) e2 (R.trans R2)
def zrL(hc:zCk cf cm)(hS:SWO (zAe cm)):∀ N,PDt b ty es c cf cm N:=by
 intro N
 induction N with
 | zero=>
  intro k d n a e lim hN hg ax aa hs hd dF he hlim hB;subst hs;refine zC8 (Q:=QP cm a e d) hg ax aa zQe zNZ (zQd _ _) (by kernel_rfl) (zdW (Rp:=RSt b ty es k d (QP cm a e d)) (zIb ?_))
  try simp only[zA]
  refine zIa ?_
  try simp only[zA]
  refine zIZ ?_;simp only[zA,subN dF (show e<=9223372036854775807 by omega)];refine zIY ?_;simp only[zA,zBJ,show decide (((e-a:Nat):Int)<=12)=true from xAJ (by omega),zy];refine zIX ?_;have R:SRt b ty es k.qb d k.qb d:=SRt.qb hg ax;simp only[zA,zS];refine (zV5 (c:=c) (a:=a) (e:=e) R.g R.l R.ok rfl (by omega) hc dF (by omega)).mono ?_;rintro⟨v,h2⟩ ⟨d2,⟨_,e2⟩,R2⟩;obtain⟨q1,q2⟩:=insertionSort_holds hS d a e dF (by omega);rw[zNi];exact⟨zU ▸ trivial,d2,⟨rfl,by rw[e2];exact q1,by rw[e2];exact q2⟩,R.trans R2⟩
 | succ N ih=>
  intro k d n a e lim hN hg ax aa hs hd dF he hlim hB;subst hs;refine zC8 (Q:=QP cm a e d) hg ax aa zQe zNZ (zQd _ _) (by kernel_rfl) (zdW (Rp:=RSt b ty es k d (QP cm a e d)) (zIb ?_))
  try simp only[zA]
  refine zIa ?_
  try simp only[zA]
  exact zkJ hd hc hS ih (e-a) a e lim true true d _ (xAF _) hN dF he hlim hB (SRt.qb hg ax) fun R r1 r2=>⟨r1,r2⟩
end
def zVn(a:Int)(h:AH):zQ E (zk [(9,iI a)]) (zn zmy [1] 3) h=some (.int .u64 (IntKind.u64.wrap a)):=by kernel_rfl
section
variable {b ty es c:Nat} {k:AH} {d:Dt} {cf:Value} {cm:Int×Int->Int×Int->Int}
def zV9(hg:RowB k b ty es d)(ax:b<k.qa)(aa:k.ok){n:Nat}(hs:d.size=n)(hn:d.size<=1000000)(hc:zCk cf cm)(hS:SWO (zAe cm)) :
  Ev true ((zV E).call 175 [sl b n c,cf] k) fun x=>∃ d',QP cm 0 n d x.1 d'/\SRt b ty es k d x.2 d':=by
 subst hs;refine zC8 (Q:=QP cm 0 d.size d) hg ax aa zhx zdj (zhw _ _) (by kernel_rfl) (zmf (Rp:=RSt b ty es k d (QP cm 0 d.size d)) (zNJ ?_));simp only[zA,zJY];refine zNI ?_;have R:SRt b ty es k.qb d k.qb d:=SRt.qb hg ax;obtain⟨l,hl,c93⟩:=zV0 (zAX k) (x:=d.size) (by omega);simp only[zA,zVn,zNk (show d.size<18446744073709551616 by omega),zS,c93,zO];refine (zrL (c:=c) hc hS d.size k.qb d d.size 0 d.size l (by omega) R.g R.l R.ok rfl hn (Nat.zero_le _) (xAF _) (by omega) (.inl rfl)).mono ?_;rintro⟨v,h2⟩ ⟨d2,⟨_,p1,p2⟩,R2⟩;rw[zNi];exact⟨zCc ▸ trivial,d2,⟨rfl,p1,p2⟩,R.trans R2⟩
end
section
variable {b ty es c:Nat} {k h0:AH} {d:Dt} {cf:Value} {f:Int×Int->Bool}
def zQC(hg:RowB k b ty es d)(ax:b<k.qa){n:Nat}(hs:d.size=n)(hn:d.size<=1000000)(he:Ext h0 k)(hf:zWe h0 cf f) :
  (zV E).call 220 [sl b n c,cf] k=some [(iI (zAH (fun i=>f d[i]!) d.size 0),k)]:=by
 subst hs;refine zNa (s:=true) he.ok rfl (zIe ?_)
 try simp only[zA]
 refine zId ?_;simp only[zA,zEw];have R:=SRt.qb (ty:=ty) (es:=es) hg ax;have loop:∀(m i:Nat),i+m=d.size->zjR true (KR E [.tmp 4] fun x l=>x=iI (zAH (fun i=>f d[i]!) m i)/\k.qa<=l.wm) (sl b d.size c) cf (iI (d.size:Int)) (iI (i:Int)) k.qb:=by
  intro m
  induction m with
  | zero=>
   intro i hm;refine zEi ?_;simp only[zY,zA,show decide ((i:Int)<(d.size:Int))=false from xAI (by omega),zi];refine zIc ?_
   try simp only[zA]
   rw[zAS];exact⟨zU ▸ trivial,rfl,Nat.le_add_right _ _⟩
  | succ m ih=>
   intro i hm;refine zEi ?_;simp only[zY,zA,show decide ((i:Int)<(d.size:Int))=true from xAJ (by omega),zy];refine zM6 ?_
   try simp only[zA]
   refine zM5 ?_;simp only[zA,zv (show i<d.size by omega),R.ld (i:=i) (by omega),hf _ _ he.qb,zO];cases hfi:f d[i]! with
   | true=>
    simp only[zy];refine zM4 ?_
    try simp only[zA]
    rw[zAS];exact⟨zU ▸ trivial,by simp[zAH,hfi],Nat.le_add_right _ _⟩
   | false=>
    simp only[zi];refine zM3 ?_;simp only[zA,zBc (show i+1<=9223372036854775807 by omega)];have:=ih (i+1) (by omega);simp only[zAH,hfi,Bool.false_eq_true,if_false];exact this
 exact loop d.size 0 (by omega)
end
def zVk{T:Tm}{o:Oper}{u v:Nat}{b n i:Nat}(ho:o.op=.slice 132 (.tmp u) (some (.tmp v)) none none)(h1:T.get u=.slice (some ⟨b,0,none⟩) n (UNK+2))(h2:T.get v=iI (i:Int))(hi:i<n) :
  ze E T o=some (.slice (some ⟨b,i*2,none⟩) (n-i) (UNK+2)):=by
 have f1:zl T (.tmp u)=false:=by show zg (T.get u)=false;rw[h1];rfl
 have o1:zAl T (.tmp u)=some (.slice (some ⟨b,0,none⟩) n (UNK+2)):=by show some (T.get u)=_;rw[h1]
 have o2:zBl T [.tmp v]=some [iI (i:Int)]:=by show some [T.get v]=_;rw[h2]
 have e:ze E T o=zEQ E 132 (.slice (some ⟨b,0,none⟩) n (UNK+2)) (some (iI (i:Int))) none none:=by
  simp only[ze,ho,zHv,f1,xAH,Option.isSome_none,Bool.false_and,o1,Option.toList_some,Option.toList_none,o2];rfl
 rw[e];simp only[zEQ,zHb,sliceS,zJC,zFs,zEe];show zeH 2 (some ⟨b,0,none⟩) n (UNK+2) i n=_;have hu:Nat.ble UNK (UNK+2)=true:=ble_true.2 (by omega);have hc:Nat.beq (UNK+2) (UNK+2)=true:=Nat.beq_refl _;simp only[zeH,ble_true.2 (show i<=n by omega),xAG,hu,Option.isSome_some,ble_true.2 (xAF n),hc,Bool.and_self,ble_false.2 hi,xAH];cases hz:Nat.beq i 0 with
 | true=>
  have:i=0:=Nat.eq_of_beq_eq_true hz;subst this;rfl
 | false=>
  simp only[xAH,zF8,xAK]
def zi1{T:Tm}{o:Oper}{u v:Nat}{b n i:Nat}(ho:o.op=.slice 132 (.tmp u) none (some (.tmp v)) none)(h1:T.get u=.slice (some ⟨b,0,none⟩) n (UNK+2))(h2:T.get v=iI (i:Int))(hi:i<=n) :
  ze E T o=some (.slice (some ⟨b,0,none⟩) i (UNK+2)):=by
 have f1:zl T (.tmp u)=false:=by show zg (T.get u)=false;rw[h1];rfl
 have o1:zAl T (.tmp u)=some (.slice (some ⟨b,0,none⟩) n (UNK+2)):=by show some (T.get u)=_;rw[h1]
 have o2:zBl T [.tmp v]=some [iI (i:Int)]:=by show some [T.get v]=_;rw[h2]
 have e:ze E T o=zEQ E 132 (.slice (some ⟨b,0,none⟩) n (UNK+2)) none (some (iI (i:Int))) none:=by
  simp only[ze,ho,zHv,f1,xAH,Option.isSome_none,Bool.false_and,o1,Option.toList_some,Option.toList_none,o2];rfl
 rw[e];simp only[zEQ,zHb,sliceS,zJC,zFs,zEe];show zeH 2 (some ⟨b,0,none⟩) n (UNK+2) 0 i=_;have hu:Nat.ble UNK (UNK+2)=true:=ble_true.2 (by omega);have hc:Nat.beq (UNK+2) (UNK+2)=true:=Nat.beq_refl _;simp only[zeH,ble_true.2 (Nat.zero_le i),xAG,hu,Option.isSome_some,ble_true.2 hi,hc,Bool.and_self,show Nat.beq 0 0=true from rfl]
def zP9{h:AH}{b i m cp:Nat}{x y w:List Value}{ty es:Nat}(hb:h.get b=some (.row (x++y++w) ty es false))(hx:x.length=i*2)(hy:y.length=m*2)(hm:m≠0) :
  zAJ E .clear [132] (some [.slice (some ⟨b,i*2,none⟩) m cp]) h=one (.tuple #[],h.upd b (some (.row (x++(rep m [iI 0,iI 0]++w)) ty es false))):=by
 show zHZ E 132 (.slice (some ⟨b,i*2,none⟩) m cp) h=_;have fI:Nat.beq m 0=false:=by cases m with|zero=>exact absurd rfl hm|succ m=>rfl
 simp only[zHZ,elt132.el,fI,xAH,zHX,zNj,zJC,hb,zAR,List.length_append,hx,hy,zX];have h1:Nat.ble (i*2+m*2) (i*2+m*2+w.length)=true:=ble_true.2 (by omega);have h2:lput (x++y++w) (i*2) (rep m [iI 0,iI 0])=x++(rep m [iI 0,iI 0]++w):=by
  rw[zFv _ _ _ _ (by rw[zNs,List.length_append,hx,hy];simp),← hx,zKd _ _ _ (by rw[zNs,hy];rfl),List.append_assoc]
 simp only[h1,h2];rfl
def SRt.ldo{b ty es:Nat}{k0 k:AH}{d0 d:Dt}(R:SRt b ty es k0 d0 k d){i o:Nat}(hi:i<d.size)(ho:o=i*2):zH E 134 k (some (.pointer (some ⟨b,o,none⟩)))=some (.agg ⟨zG d[i]!⟩):=by
 have:=R.ld hi;rw[xAK] at this;rw[ho];exact this
def zno:(zn ziL [1,1,1,1,0] 2).op=.slice 132 (.tmp 36) (some (.tmp 37)) none none:=by kernel_rfl
def znn:(zn ziL [1,1,1,1,1,0] 2).op=.slice 132 (.tmp 39) none (some (.tmp 40)) none:=by kernel_rfl
def zkv{b n i:Nat}(hi:i<n):ze E (zk [(36,sl b n (UNK+2)),(37,iI (i:Int))]) (zn ziL [1,1,1,1,0] 2)=some (.slice (some ⟨b,i*2,none⟩) (n-i) (UNK+2)):=zVk zno (by kernel_rfl) (by kernel_rfl) hi
def zku{b n i:Nat}(hi:i<=n):ze E (zk [(39,sl b n (UNK+2)),(40,iI (i:Int))]) (zn ziL [1,1,1,1,1,0] 2)=some (.slice (some ⟨b,0,none⟩) i (UNK+2)):=zi1 znn (by kernel_rfl) (by kernel_rfl) hi
section
variable {b ty es:Nat} {k h0:AH} {d:Dt} {cf:Value} {f:Int×Int->Bool}
def zlU(hg:RowB k b ty es d)(ax:b<k.qa){n:Nat}(hs:d.size=n)(hn:d.size<=1000000)(he:Ext h0 k)(cK:h0.qa<=b)(hf:zWe h0 cf f) :
  Ev true ((zV E).call 179 [sl b n (UNK+2),cf] k) fun x=>Cut b ty es k x.1 x.2 (d.toList.filter fun p=>!f p):=by
 subst hs;by_cases cZ:zAH (fun i=>f d[i]!) d.size 0=-1
 ·have aB:d.toList.filter (fun p=>!f p)=d.toList:=by
   rcases zEX (fun i=>f d[i]!) d.size 0 with ⟨_,h2⟩|⟨j,_,h2,_,_⟩
   ·rw[List.filter_eq_self];intro p hp;obtain⟨j,hj⟩:=List.getElem?_of_mem hp;have jn:=(List.getElem?_eq_some_iff.1 hj).1;have jo:j<d.size:=by simpa using jn
    rw[zF0 jo] at hj;cases hj;have:f d[j]! = false:=h2 j (Nat.zero_le _) (by omega);simp[this]
   ·rw[h2] at cZ;omega
  refine zNc (Rp:=fun v m=>Cut b ty es k v m (d.toList.filter fun p=>!f p)) (zIj ?_)
  try simp only[zA]
  refine zIi ?_;simp only[zA,zS,zQC (k:=k.qb) hg ax rfl hn he.qb hf,zO,cZ];refine zIh ?_;simp only[zA,zAd,decide_true,zy];refine zNC ?_
  try simp only[zA]
  rw[zAS,aB];obtain⟨rs,dA,hid⟩:=hg;exact⟨zU ▸ trivial,.inl rfl,by simp[sl],⟨rs,zFD dA,hid⟩,(Fx.refl (zAX k)).back⟩
 ·obtain⟨i0,eQ,hix,hfi,f9⟩:∃ j,j<d.size/\zAH (fun i=>f d[i]!) d.size 0=(j:Int)/\f d[j]! = true/\∀ q,q<j->f d[q]! = false:=by
   rcases zEX (fun i=>f d[i]!) d.size 0 with ⟨h1,_⟩|⟨j,h1,h2,h3,h4⟩
   ·exact absurd h1 cZ
   ·exact⟨j,by omega,h2,h3,fun q hq=>h4 q (Nat.zero_le _) hq⟩
  refine zNc (Rp:=fun v m=>Cut b ty es k v m (d.toList.filter fun p=>!f p)) (zIj ?_)
  try simp only[zA]
  refine zIi ?_;simp only[zA,zS,zQC (k:=k.qb) hg ax rfl hn he.qb hf,zO,hix];refine zIh ?_;simp only[zA,zAd,show decide ((i0:Int)=-1)=false from xAI (by omega),zi];refine zbO ?_;simp only[zA,zBc (show i0+1<=9223372036854775807 by omega)];have loop:∀(m j i:Nat) (d':Dt) (h:AH),j+m=d.size->i<j->SRt b ty es k.qb d h d'->d'.toList.take i=(d.toList.take j).filter (fun p=>!f p)->(∀ x,j<=x->x<d.size->d'[x]! = d[x]!)->
    zpo true (KR E [.tmp 4] (fun x l=>(zg x=false\/l.wm<k.qa)/\Cut b ty es k x ⟨l.t,l.qa,cond (Nat.ble k.wm l.wm) k.wm l.wm⟩ (d.toList.filter fun p=>!f p))) (sl b d.size (UNK+2)) cf (iI (i:Int)) (iI (j:Int)) h:=by
   intro m
   induction m with
   | zero=>
    intro j i d' h hm bH R ht hx;have hsz:=R.sz;refine zNB ?_;simp only[zA,zJU,zY,show decide ((j:Int)<(d.size:Int))=false from xAI (by omega),zi];refine zSk ?_;obtain⟨rs,dA,hid⟩:=R.g;have aG:=zP9 (i:=i) (m:=d.size-i) (cp:=UNK+2) (x:=(d'.toList.take i).flatMap zG) (y:=(d'.toList.drop i).flatMap zG) (w:=rs) (by rw[← zJK];exact dA) (by rw[zBp];simp;omega) (by rw[zBp];simp;omega) (by omega);simp only[zA,zkv (show i<d.size by omega),aG,zL];refine zSj ?_;simp only[zA,zku (show i<=d.size by omega)];have cw:d.toList.take j=d.toList:=xAD (by simp;omega);rw[cw] at ht;have hlen:(d.toList.filter fun p=>!f p).length=i:=by rw[← ht];simp;omega
    rw[zAS];have f1:=R.fx.upd (b:=b) (.inl rfl) (some (.row ((d'.toList.take i).flatMap zG++(rep (d.size-i) [iI 0,iI 0]++rs)) ty es false));have g1:=zN h b (some (.row ((d'.toList.take i).flatMap zG++(rep (d.size-i) [iI 0,iI 0]++rs)) ty es false));rw[ht] at f1 g1;rw[ht];generalize h.upd b (some (.row ((d.toList.filter fun p=>!f p).flatMap zG++(rep (d.size-i) [iI 0,iI 0]++rs)) ty es false))=hh at f1 g1;exact⟨zU ▸ trivial,.inl rfl,by rw[hlen],⟨_,zFD g1,by rw[List.flatMap_append,zNt,hid];rfl⟩,f1.back⟩
   | succ m ih=>
    intro j i d' h hm bH R ht hx;have hsz:=R.sz;refine zNB ?_;simp only[zA,zJU,zY,show decide ((j:Int)<(d.size:Int))=true from xAJ (by omega),zy];refine zbN ?_;have hk:=R.fx.qa;obtain⟨h1,e1⟩:∃ h1,h.new (rO [iI 0,iI 0] 134)=h1:=⟨_,rfl⟩;obtain⟨h2,e2⟩:∃ h2,h1.upd h.qa (some (rO (zG d'[j]!) 134))=h2:=⟨_,rfl⟩;have bK:=zMI (k:=h) (p:=d'[j]!);rw[e1,e2] at bK;have R2:SRt b ty es k.qb d h2 d':=by
     have hl:=R.l;have df:k.qb.qa<=h.qa:=hk;have g2:h2.get b=h.get b:=by rw[← e2,zP (by omega),← e1,zK (by omega)]
     have w1:h2.wm<=h.wm:=by rw[← e2];refine Nat.le_trans (zJA _ _ _).2 ?_;rw[← e1];exact xAF _
     refine⟨?_,R.g.eq g2,?_,Nat.le_trans w1 R.wle,R.sz,R.lt⟩
     ·rw[← e2,← e1];exact (R.fx.new _).upd (.inr df) _
     ·rcases R.wm with w|w
      ·exact .inl (by omega)
      ·exact .inr w
    have t2:h2.get h.qa=some (rO (zG d'[j]!) 134):=by rw[← e2];exact zN _ _ _
    simp only[zA,zv (show j<d.size by omega),R.ld (i:=j) (by omega),zNj,zd,zL,zX,e1,bK];have hv:d'[j]! = d[j]!:=hx j (xAF _) (by omega);have lv:zH E 134 h2 (sP h.qa 0)=some (.agg ⟨zG d'[j]!⟩):=by
     have:=zZ (P:=E) zEM (o:=0) t2 (by simp[zG]);exact this
    refine zbM ?_;have ex2:Ext h0 h2:=R2.fx.ext1 he.qb cK;simp only[zA,lv,hf _ _ ex2,zO,zAB];have iW:=zKS (d:=d) (j:=j) (by omega);cases hfj:f d'[j]! with
    | true=>
     simp only[xAL,zi];refine zKD ?_;simp only[zA,zBc (show j+1<=9223372036854775807 by omega)];refine ih (j+1) i d' h2 (by omega) (by omega) R2 ?_ fun x a b=>hx x (by omega) b;rw[iW,List.filter_append,← ht,← hv];simp[hfj]
    | false=>
     simp only[xAM,zy];refine zbL ?_;obtain⟨h3,q1,R3⟩:=R2.st (i:=i) (by omega) d'[j]!;simp only[zA,lv,zv (show i<d.size by omega),q1,zL];refine zbK ?_;simp only[zA,zBc (show i+1<=9223372036854775807 by omega)];refine zKD ?_;simp only[zA,zBc (show j+1<=9223372036854775807 by omega)];refine ih (j+1) (i+1) _ h3 (by omega) (by omega) R3 ?_ fun x a b=>?_
     ·rw[Array.toList_setIfInBounds,zLO _ _ _ (by simp;omega),ht,iW,List.filter_append,← hv];simp[hfj]
     ·rw[← hx x (by omega) b];rw[getElem!_pos _ x (by simp;omega),getElem!_pos d' x (by omega),Array.getElem_setIfInBounds_ne (by omega) (by omega)]
  refine loop (d.size-(i0+1)) (i0+1) i0 d _ (by omega) (by omega) (SRt.qb hg ax) ?_ fun x _ _=>rfl;rw[zKS eQ,List.filter_append];have:(d.toList.take i0).filter (fun p=>!f p)=d.toList.take i0:=by
   rw[List.filter_eq_self];intro p hp;obtain⟨q,hq⟩:=List.getElem?_of_mem hp;have fV:=(List.getElem?_eq_some_iff.1 hq).1;simp only[List.length_take,Array.length_toList] at fV;rw[List.getElem?_take_of_lt (by omega),zF0 (by omega)] at hq;cases hq;simp[f9 q (by omega)]
  rw[this];simp[hfi]
end
end Go.Proofs
