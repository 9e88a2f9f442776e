import Derived.Test.YthmnhjcmefjgjaaGreatDoorXAK
import Derived.Test.YthmnhjcmefjgjaaGreatDoorXAF
import Derived.Test.YthmnhjcmefjgjaaGreatDoorXAJ
import Derived.Test.YthmnhjcmefjgjaaGreatDoorXAG
set_option linter.all false
set_option linter.unusedSectionVars false
set_option autoImplicit true
set_option relaxedAutoImplicit true
set_option maxRecDepth 100000
set_option maxHeartbeats 1000000
noncomputable section
namespace Go.Proofs
open Go Go.AM Go.Sort
def znr:(zn zKM [1,1,0,1,0,0,1,0,0,1,0,0] 2).op=.slice 132 (.tmp 26) (some (.tmp 27)) none none:=by kernel_rfl
def znq:(zn zKM [1,1,0,1,0,0,1,0,0,1,0,1,1,0] 2).op=.slice 132 (.tmp 54) (some (.tmp 55)) none none:=by kernel_rfl
def znp:(zn zKM [1,1,0,1,0,0,1,0,0,1,0,1,1,1,0] 2).op=.slice 132 (.tmp 57) none (some (.tmp 58)) none:=by kernel_rfl
def zky{b n i:Nat}(hi:i<n):ze E (zk [(26,sl b n (UNK+2)),(27,iI (i:Int))]) (zn zKM [1,1,0,1,0,0,1,0,0,1,0,0] 2)=some (.slice (some ⟨b,i*2,none⟩) (n-i) (UNK+2)):=zVk znr (by kernel_rfl) (by kernel_rfl) hi
def zkx{b n i:Nat}(hi:i<n):ze E (zk [(54,sl b n (UNK+2)),(55,iI (i:Int))]) (zn zKM [1,1,0,1,0,0,1,0,0,1,0,1,1,0] 2)=some (.slice (some ⟨b,i*2,none⟩) (n-i) (UNK+2)):=zVk znq (by kernel_rfl) (by kernel_rfl) hi
def zkw{b n i:Nat}(hi:i<=n):ze E (zk [(57,sl b n (UNK+2)),(58,iI (i:Int))]) (zn zKM [1,1,0,1,0,0,1,0,0,1,0,1,1,1,0] 2)=some (.slice (some ⟨b,0,none⟩) i (UNK+2)):=zi1 znp (by kernel_rfl) (by kernel_rfl) hi
section
variable {b ty es:Nat} {k:AH} {d:Dt}
def zV8(hg:RowB k b ty es d)(ax:b<k.qa){n:Nat}(hs:d.size=n)(hn:d.size<=1000000) :
  Ev true ((zV E).call 177 [sl b n (UNK+2)] k) fun x=>Cut b ty es k x.1 x.2 (dd d d.size):=by
 subst hs;have whole:dd d d.size=d.toList->∀ h,SRt b ty es k.qb d h d->KR E [.tmp 2] (fun x l=>(zg x=false\/l.wm<k.qa)/\Cut b ty es k x ⟨l.t,l.qa,cond (Nat.ble k.wm l.wm) k.wm l.wm⟩ (dd d d.size)) .ret [sl b d.size (UNK+2)] h:=by
  intro e h R;rw[zAS];obtain⟨rs,dA,hid⟩:=R.g;exact⟨zU ▸ trivial,.inl rfl,by rw[e];simp[sl],⟨rs,by rw[e];exact zFD dA,hid⟩,R.fx.back⟩
 refine zdh (Rp:=fun v m=>Cut b ty es k v m (dd d d.size)) (zNH ?_)
 try simp only[zA]
 refine zNG ?_;simp only[zA,zJX,zY,zAN];have R0:SRt b ty es k.qb d k.qb d:=SRt.qb hg ax;have dd1:∀ j,(∀ q,1<=q->q<j->d[q]!≠d[q-1]!)->j<=d.size->dd d j=d.toList.take j:=by
  intro j
  induction j with
  | zero=>intro _ _;simp[dd]
  | succ j ih=>
   intro H hj;simp only[dd];rw[if_neg (fun h=>H j (by omega) (by omega) h.2),ih (fun q a b=>H q a (by omega)) (by omega),zKS (by omega)]
 refine⟨fun h2=>zNF ?_,fun h2=>zbV ?_⟩
 ·try simp only[zA]
  refine whole ?_ _ R0;rw[dd1 _ (fun q a b=>by omega) (xAF _)];exact xAD (by simp)
 try simp only[zA]
 have inner:∀(k0:Nat),1<=k0->k0<d.size->∀(m t w:Nat) (d':Dt) (h:AH),t+m=d.size->k0<t->w<t->SRt b ty es k.qb d h d'->d'.toList.take w=dd d t->(∀ x,t-1<=x->x<d.size->d'[x]! = d[x]!)->
   zpp true (KR E [.tmp 2] (fun x l=>(zg x=false\/l.wm<k.qa)/\Cut b ty es k x ⟨l.t,l.qa,cond (Nat.ble k.wm l.wm) k.wm l.wm⟩ (dd d d.size))) (sl b d.size (UNK+2)) (iI (w:Int)) (.slice (some ⟨b,k0*2,none⟩) (d.size-k0) (UNK+2)) (iI ((t-k0:Nat):Int)) h:=by
  intro k0 hk0 eL m
  induction m with
  | zero=>
   intro t w d' h hm hkt hwt R ht hx;have hsz:=R.sz;refine zND ?_;simp only[zA,zJV,zY,show decide (((t-k0:Nat):Int)<((d.size-k0:Nat):Int))=false from xAI (by omega),zi];refine zSo ?_;obtain⟨rs,dA,hid⟩:=R.g;have aG:=zP9 (i:=w) (m:=d.size-w) (cp:=UNK+2) (x:=(d'.toList.take w).flatMap zG) (y:=(d'.toList.drop w).flatMap zG) (w:=rs) (by rw[← zJK];exact dA) (by rw[zBp];simp;omega) (by rw[zBp];simp;omega) (by omega);simp only[zA,zkx (show w<d.size by omega),aG,zL];refine zSn ?_;simp only[zA,zkw (show w<=d.size by omega)];have e:t=d.size:=by omega
   subst e;have hlen:(dd d d.size).length=w:=by rw[← ht];simp;omega
   rw[zAS];have f1:=R.fx.upd (b:=b) (.inl rfl) (some (.row ((d'.toList.take w).flatMap zG++(rep (d.size-w) [iI 0,iI 0]++rs)) ty es false));have g1:=zN h b (some (.row ((d'.toList.take w).flatMap zG++(rep (d.size-w) [iI 0,iI 0]++rs)) ty es false));rw[ht] at f1 g1;rw[ht];generalize h.upd b (some (.row ((dd d d.size).flatMap zG++(rep (d.size-w) [iI 0,iI 0]++rs)) ty es false))=hh at f1 g1;exact⟨zU ▸ trivial,.inl rfl,by rw[hlen],⟨_,zFD g1,by rw[List.flatMap_append,zNt,hid];rfl⟩,f1.back⟩
  | succ m ih=>
   intro t w d' h hm hkt hwt R ht hx;have hsz:=R.sz;refine zND ?_;simp only[zA,zJV,zY,show decide (((t-k0:Nat):Int)<((d.size-k0:Nat):Int))=true from xAJ (by omega),zy];refine zbR ?_;have l1:=R.ldo (i:=t) (o:=k0*2+(t-k0)*2) (by omega) (by omega);have l2:=R.ldo (i:=t-1) (o:=k0*2+(t-k0-1)*2) (by omega) (by omega);simp only[zA,zv (show t-k0<d.size-k0 by omega),l1,zB3 (show 1<=t-k0 by omega) (show t-k0<=9223372036854775807 by omega),zv (show t-k0-1<d.size-k0 by omega),l2,zUq,zkE,hx t (by omega) (by omega),hx (t-1) (by omega) (by omega)];have dC:dd d (t+1)=if d[t]! = d[t-1]! then dd d t else dd d t++[d[t]!]:=by
    simp only[dd];by_cases e:d[t]! = d[t-1]!
    ·rw[if_pos ⟨by omega,e⟩,if_pos e]
    ·rw[if_neg (fun h=>e h.2),if_neg e]
   have aw:t-k0+1=t+1-k0:=by omega
   by_cases e:d[t]! = d[t-1]!
   ·simp only[e,decide_true,xAL,zi];refine zKE ?_;simp only[zA,zBc (show t-k0+1<=9223372036854775807 by omega),aw];exact ih (t+1) w d' h (by omega) (by omega) (by omega) R (by rw[dC,if_pos e];exact ht) fun x a b=>hx x (by omega) b
   ·simp only[e,decide_false,xAM,zy];refine zSq ?_;obtain⟨h3,q1,R3⟩:=R.st (i:=w) (by omega) d[t]!;simp only[zA,zv (show t-k0<d.size-k0 by omega),l1,hx t (by omega) (by omega),zv (show w<d.size by omega),q1,zL];refine zSp ?_;simp only[zA,zBc (show w+1<=9223372036854775807 by omega)];refine zKE ?_;simp only[zA,zBc (show t-k0+1<=9223372036854775807 by omega),aw];refine ih (t+1) (w+1) _ h3 (by omega) (by omega) (by omega) R3 ?_ fun x a b=>?_
    ·rw[Array.toList_setIfInBounds,zLO _ _ _ (by simp;omega),ht,dC,if_neg e]
    ·rw[← hx x (by omega) b,getElem!_pos _ x (by simp;omega),getElem!_pos d' x (by omega),Array.getElem_setIfInBounds_ne (by omega) (by omega)]
 have outer:∀(m q:Nat),q+m=d.size->1<=q->(∀ x,1<=x->x<q->d[x]!≠d[x-1]!)->
   zpq true (KR E [.tmp 2] (fun x l=>(zg x=false\/l.wm<k.qa)/\Cut b ty es k x ⟨l.t,l.qa,cond (Nat.ble k.wm l.wm) k.wm l.wm⟩ (dd d d.size))) (sl b d.size (UNK+2)) (iI (q:Int)) k.qb:=by
  intro m
  induction m with
  | zero=>
   intro q hm hq H;refine zNE ?_;simp only[zA,zJW,zY,show decide ((q:Int)<(d.size:Int))=false from xAI (by omega),zi];refine zSl ?_
   try simp only[zA]
   refine whole ?_ _ R0;rw[dd1 _ (fun x a b=>H x a (by omega)) (xAF _)];exact xAD (by simp)
  | succ m ih=>
   intro q hm hq H;refine zNE ?_;simp only[zA,zJW,zY,show decide ((q:Int)<(d.size:Int))=true from xAJ (by omega),zy];refine zbU ?_;simp only[zA,zv (show q<d.size by omega),R0.ld (i:=q) (by omega),zB3 hq (show q<=9223372036854775807 by omega),zv (show q-1<d.size by omega),R0.ld (i:=q-1) (by omega),zUq];by_cases e:d[q]! = d[q-1]!
   ·simp only[e,decide_true,zy];refine zbT ?_;simp only[zA,zky (show q<d.size by omega)];refine zbS ?_
    try simp only[zA]
    have:=inner q hq (by omega) m (q+1) q d k.qb (by omega) (by omega) (by omega) R0 (by
     simp only[dd];rw[if_pos ⟨by omega,e⟩,dd1 q H (by omega)]) fun x _ _=>rfl
    rw[show q+1-q=1 by omega] at this;exact this
   ·simp only[e,decide_false,zi];refine zSm ?_;simp only[zA,zBc (show q+1<=9223372036854775807 by omega)];refine ih (q+1) (by omega) (by omega) fun x a b=>?_;by_cases hxq:x=q
    ·rw[hxq];exact e
    ·exact H x a (by omega)
 exact outer (d.size-1) 1 (by omega) (xAF _) fun x a b=>by omega
end
end Go.Proofs
namespace Go.Proofs
open Go Go.AM
def pbI{a b:Int}:zAu E 54 (some [(0,iI a),(1,iI b)])=some (.agg ⟨zG (a,b)⟩):=by kernel_rfl
def zjY{f a:Nat}{args:List Value}{h:AH}:zT (zV E) (some (.func (.func f) #[] #[ptr a])) (some args) h=(zV E).call f (args++[ptr a]) h:=by
 rw[zEk];rfl
end Go.Proofs
namespace Go.Proofs
open Go Go.AM
def IS(lo:Nat)(h:AH)(v:Value)(l:List Int):Prop:=(v=.slice none 0 0/\l=[])\/LS lo h v l
def IS.arr{lo:Nat}{h:AH}{v:Value}{l:List Int}(x:IS lo h v l):Arr h 1 v (l.map i1):=by
 rcases x with ⟨rfl,rfl⟩|x
 ·exact .nil _ _
 ·exact x.arr
def LS.blk{lo:Nat}{h:AH}{v:Value}{l:List Int}(x:LS lo h v l){b:Nat}(hb:zu v b):lo<=b/\b<h.qa:=by
 obtain⟨c,cp,rfl,h1,h2,_⟩:=x;obtain⟨n,cap,e⟩:=hb;simp only[Value.slice.injEq,xAN,Addr.mk.injEq] at e;rw[← e.1.1];exact⟨h1,h2⟩
def IS.blk{lo:Nat}{h:AH}{v:Value}{l:List Int}(x:IS lo h v l){b:Nat}(hb:zu v b):lo<=b/\b<h.qa:=by
 rcases x with ⟨rfl,_⟩|x
 ·obtain⟨n,cap,e⟩:=hb;cases e
 ·exact x.blk hb
def IS.mono{lo:Nat}{k k':AH}{v:Value}{L:List Int}(h:IS lo k v L)(hn:k.qa<=k'.qa)(hg:∀ b,b<k.qa->zu v b->k'.get b=k.get b):IS lo k' v L:=by
 rcases h with h|h
 ·exact .inl h
 ·exact .inr (h.mono hn fun b _ h2 h3=>hg b h2 h3)
def IS.slice{lo:Nat}{h:AH}{v:Value}{l:List Int}(x:IS lo h v l):∃ a c,v=.slice a l.length c:=by
 rcases x with ⟨rfl,rfl⟩|⟨b,c,rfl,_⟩
 ·exact⟨_,_,rfl⟩
 ·exact⟨_,_,rfl⟩
def IS.app{lo:Nat}{h:AH}{v:Value}{l:List Int}(x:IS lo h v l)(f9:lo<=h.qa)(hl:l.length<=999998)(u:Int) :
  ∃ m,zAJ E .append [47,47] (some [v,.slice (some ⟨h.qa,0,none⟩) 1 1]) (h.new (rO [iI u] 3))=one (.slice (some ⟨h.qa+1,0,none⟩) (l.length+1) (UNK+1),m) ∧
   LS lo m (.slice (some ⟨h.qa+1,0,none⟩) (l.length+1) (UNK+1)) (l++[u])/\m.qa=h.qa+2/\(h.ok->Fx (fun c=>zu v c) h m):=by
 have az:=zI h (rO [iI u] 3);rcases x with ⟨rfl,rfl⟩|x
 ·refine⟨_,append_nil zkp az rfl,⟨h.qa+1,UNK+1,by simp,by omega,by show h.qa+1<h.qa+1+1;omega,.inr ⟨rfl,zI (h.new _) _⟩⟩,rfl,fun aa=>((Fx.refl aa).new _).new _⟩
 ·obtain⟨b0,c0,e0,cK,hlt0,iJ⟩:=x.ex;have xb:LS b0 h v l:=⟨b0,c0,e0,xAF _,hlt0,iJ⟩;have x1:LS b0 (h.new (rO [iI u] 3)) v l:=xb.mono (by simp) fun b _ hb _=>zK (by omega);obtain⟨v',k1,a1,rfl,a3,a4,a5,a6,a7,a8⟩:=x1.app (by omega) az;have e1:(h.new (rO [iI u] 3)).qa=h.qa+1:=rfl;rw[e1] at a1 a3 a4 a5;exact⟨k1,a1,⟨h.qa+1,UNK+1,by simp,by omega,by omega,.inr ⟨rfl,a4⟩⟩,by omega,fun aa=>⟨a6 (zBd aa _),by omega,fun c hc hn=>(a5 c (by omega) hn).trans (zK (by omega)),fun m h1 h2 h3=>a8 m h1 (h2 b0 ⟨_,_,e0⟩)⟩⟩
end Go.Proofs
namespace Go.Proofs
open Go Go.AM
def zFA:List Int->List Int->Int
 | [],[]=>0
 | [],_::_=>-1
 | _::_,[]=>1
 | a::aas,b::bs=>if c3 a b=0 then zFA aas bs else c3 a b
mutual
def zmw:GT->List Int
 | .mk k n l=>k::n::(l.length:Int)::zTq l
def zTq:List GT->List Int
 | []=>[]
 | t::ts=>zmw t++zTq ts
end
def c3_zero{a b:Int}:c3 a b=0 ↔ a=b:=by
 unfold c3;split
 ·constructor
  ·intro h;cases h
  ·intro h;omega
 ·split
  ·constructor
   ·intro h;cases h
   ·intro h;omega
  ·constructor
   ·intro;omega
   ·intro;rfl
def c3_neg{a b:Int}:c3 a b<0 ↔ a<b:=by
 unfold c3;split
 ·constructor <;> intro <;> omega
 ·split <;> constructor <;> intro h <;> first|omega|(exfalso;revert h;decide)
mutual
def zP5:∀(t u:GT) (r r':List Int),zFA (zmw t++r) (zmw u++r')=if zKy t u=0 then zFA r r' else zKy t u
 | .mk k n l,.mk k' n' l',r,r'=>by
  simp only[zmw,List.cons_append,zFA,zKy,orI];by_cases h1:c3 k k'=0
  ·by_cases h2:c3 n n'=0
   ·by_cases h3:c3 (l.length:Int) (l'.length:Int)=0
    ·have hlen:l.length=l'.length:=by have:=c3_zero.1 h3;omega
     simp only[h1,h2,h3,ne_eq,not_true_eq_false,if_true,if_false];exact zP7 l l' hlen r r'
    ·simp only[h1,h2,h3,ne_eq,not_true_eq_false,not_false_eq_true,if_true,if_false]
   ·simp only[h1,h2,ne_eq,not_true_eq_false,not_false_eq_true,if_true,if_false]
  ·simp only[h1,ne_eq,not_true_eq_false,not_false_eq_true,if_true,if_false]
def zP7:∀(l l':List GT),l.length=l'.length->∀(r r':List Int),zFA (zTq l++r) (zTq l'++r')=if zEL l l'=0 then zFA r r' else zEL l l'
 | [],[],_,r,r'=>by simp[zTq,zEL]
 | t::ts,u::us,h,r,r'=>by
  simp only[zTq,List.append_assoc,zEL];rw[zP5 t u,zP7 ts us (by simpa using h) r r'];by_cases h1:zKy t u=0 <;> simp[h1]
 | [],_::_,h,_,_=>by simp at h
 | _::_,[],h,_,_=>by simp at h
end
def zMF:∀(l l':List GT),zFA (zTq l) (zTq l')=zEL l l'
 | [],[]=>rfl
 | [],.mk k n l::us=>by simp[zTq,zmw,zFA,zEL]
 | .mk k n l::ts,[]=>by simp[zTq,zmw,zFA,zEL]
 | t::ts,u::us=>by
  simp only[zTq,zEL];rw[zP5 t u,zMF ts us];by_cases h1:zKy t u=0 <;> simp[h1]
def kc(c:CL):List Int:=c.1::zTq c.2
def zJu(c d:CL):zCp c.1 c.2 d.1 d.2=zFA (kc c) (kc d):=by
 simp only[zCp,orI,kc,zFA,zMF];by_cases h:c3 c.1 d.1=0
 ·simp only[h,ne_eq,not_true_eq_false,if_false,if_true];by_cases h2:zEL c.2 d.2=0
  ·rw[h2];simp
  ·simp[h2]
 ·simp[h]
def zPc:∀ a:List Int,zFA a a=0
 | []=>rfl
 | a::aas=>by simp[zFA,c3_zero.2 rfl,zPc aas]
def zPd:∀ a b:List Int,(zFA a b<0 ↔ 0<zFA b a)
 | [],[]=>by simp[zFA]
 | [],_::_=>by simp[zFA]
 | _::_,[]=>by simp[zFA]
 | a::aas,b::bs=>by
  simp only[zFA];rcases Int.lt_trichotomy a b with h|h|h
  ·have h1:c3 a b=-1:=by unfold c3;rw[if_pos h]
   have h2:c3 b a=1:=by unfold c3;rw[if_neg (by omega),if_pos h]
   simp[h1,h2]
  ·subst h;simp only[c3_zero.2 rfl,if_true];exact zPd aas bs
  ·have h1:c3 a b=1:=by unfold c3;rw[if_neg (by omega),if_pos h]
   have h2:c3 b a=-1:=by unfold c3;rw[if_pos h]
   simp[h1,h2]
def zH7:∀ a b c:List Int,zFA a b<0->zFA b c<0->zFA a c<0
 | a,[],c,h1,h2=>by cases a <;> simp[zFA] at h1
 | [],b::bs,c,h1,h2=>by
  cases c with
  | nil=>simp[zFA] at h2
  | cons x xs=>simp[zFA]
 | a::aas,b::bs,c,h1,h2=>by
  cases c with
  | nil=>simp[zFA] at h2
  | cons x xs=>
   simp only[zFA] at h1 h2 ⊢;by_cases e1:c3 a b=0
   ·rw[if_pos e1] at h1;have:=c3_zero.1 e1;subst this;by_cases e2:c3 a x=0
    ·rw[if_pos e2] at h2 ⊢;exact zH7 aas bs xs h1 h2
    ·rw[if_neg e2] at h2 ⊢;exact h2
   ·rw[if_neg e1] at h1;have hab:=c3_neg.1 h1;by_cases e2:c3 b x=0
    ·have:=c3_zero.1 e2;subst this;rw[if_neg e1];exact h1
    ·rw[if_neg e2] at h2;have hbx:=c3_neg.1 h2;have:c3 a x<0:=c3_neg.2 (by omega);rw[if_neg (by omega)];exact this
mutual
def zk2:∀ t u:GT,zKy t u=0->t=u
 | .mk k n l,.mk k' n' l',h=>by
  simp only[zKy,orI] at h;by_cases h1:c3 k k'=0
  ·by_cases h2:c3 n n'=0
   ·by_cases h3:c3 (l.length:Int) (l'.length:Int)=0
    ·simp only[h1,h2,h3,ne_eq,not_true_eq_false,if_false] at h;rw[c3_zero.1 h1,c3_zero.1 h2,zOe l l' h]
    ·simp only[h1,h2,h3,ne_eq,not_true_eq_false,not_false_eq_true,if_true,if_false] at h
   ·simp only[h1,h2,ne_eq,not_true_eq_false,not_false_eq_true,if_true,if_false] at h
  ·simp only[h1,ne_eq,not_true_eq_false,not_false_eq_true,if_true,if_false] at h
def zOe:∀ l m:List GT,zEL l m=0->l=m
 | [],[],_=>rfl
 | [],_::_,h=>by simp[zEL] at h
 | _::_,[],h=>by simp[zEL] at h
 | t::ts,u::us,h=>by
  simp only[zEL] at h;by_cases h1:zKy t u=0
  ·simp only[h1,ne_eq,not_true_eq_false,if_false] at h;rw[zk2 t u h1,zOe ts us h]
  ·simp only[h1,ne_eq,not_false_eq_true,if_true] at h
end
def clt(c d:CL):Prop:=zFA (kc c) (kc d)<0
def zn0{c d:CL}(h:zFA (kc c) (kc d)=0):c=d:=by
 rw[← zJu] at h;obtain⟨g,l⟩:=c;obtain⟨g',l'⟩:=d;simp only[zCp,orI] at h;by_cases h1:c3 g g'=0
 ·simp only[h1,ne_eq,not_true_eq_false,if_false] at h;have h2:zEL l l'=0:=by
   by_cases h3:zEL l l'=0
   ·exact h3
   ·simp[h3] at h
  rw[c3_zero.1 h1,zOe l l' h2]
 ·simp[h1] at h
abbrev zCr(cs:List CL):Prop:=cs.Pairwise clt
def zCD{ls:List CL}{c x:CL}{q:Nat}(h:ls[q]?=some x):zE3 ls c q=zFA (kc x) (kc c):=by
 unfold zE3;rw[h];exact zJu x c
def zGM{cs:List CL}(hs:zCr cs){i j:Nat}{x y:CL}(hx:cs[i]?=some x)(hy:cs[j]?=some y)(bH:i<j):clt x y:=by
 obtain⟨h1,rfl⟩:=List.getElem?_eq_some_iff.1 hx;obtain⟨h2,rfl⟩:=List.getElem?_eq_some_iff.1 hy;exact List.pairwise_iff_getElem.1 hs i j h1 h2 bH
def zOr{ls:List CL}(hs:zCr ls)(c:CL):∀(m i j:Nat),j<=i+m->i<=j->j<=ls.length->(∀ q,q<i->zE3 ls c q<0)->(∀ q,j<=q->q<ls.length->0<=zE3 ls c q)->
  zTs ls c m i j<=ls.length/\(∀ q,q<zTs ls c m i j->zE3 ls c q<0)/\∀ q,zTs ls c m i j<=q->q<ls.length->0<=zE3 ls c q
 | 0,i,j,h1,h2,h3,ha,hb=>by
  have:i=j:=by omega
  subst this;exact⟨h3,ha,hb⟩
 | m+1,i,j,h1,h2,h3,ha,hb=>by
  simp only[zTs];by_cases bH:i<j
  ·rw[if_pos bH];have hq:(i+j) / 2<ls.length:=by omega
   obtain⟨x,hx⟩:∃ x,ls[(i+j) / 2]?=some x:=⟨_,xAA hq⟩;by_cases hc:zE3 ls c ((i+j) / 2)<0
   ·rw[if_pos hc];refine zOr hs c m _ j (by omega) (by omega) h3 (fun q fD=>?_) hb;by_cases e:q=(i+j) / 2
    ·rw[e];exact hc
    ·obtain⟨y,hy⟩:∃ y,ls[q]?=some y:=⟨_,xAA (by omega)⟩;rw[zCD hx] at hc;rw[zCD hy];exact zH7 _ _ _ (zGM hs hy hx (by omega)) hc
   ·rw[if_neg hc];refine zOr hs c m i _ (by omega) (by omega) (by omega) ha fun q fC dL=>?_;by_cases e:q=(i+j) / 2
    ·rw[e];omega
    ·obtain⟨y,hy⟩:∃ y,ls[q]?=some y:=⟨_,xAA dL⟩;rw[zCD hx] at hc;rw[zCD hy];have du:=zGM hs hx hy (by omega);rcases Int.lt_or_le (zFA (kc y) (kc c)) 0 with h|h
     ·exact absurd (zH7 _ _ _ du h) hc
     ·exact h
  ·rw[if_neg bH];have:i=j:=by omega
   subst this;exact⟨h3,ha,hb⟩
def zi9{ls:List CL}(hs:zCr ls)(c:CL):bsI ls c<=ls.length/\(∀ q,q<bsI ls c->zE3 ls c q<0)/\∀ q,bsI ls c<=q->q<ls.length->0<=zE3 ls c q:=
 zOr hs c ls.length 0 ls.length (by omega) (Nat.zero_le _) (xAF _) (fun q h=>absurd h (Nat.not_lt_zero _)) (fun q h1 h2=>by omega)
def zHY{ls:List CL}(hs:zCr ls){c:CL}(hc:c∈ls):bsB ls c=true/\ls[bsI ls c]?=some c:=by
 obtain⟨q,hq⟩:=List.getElem?_of_mem hc;obtain⟨h1,h2,h3⟩:=zi9 hs c;have fV:=(List.getElem?_eq_some_iff.1 hq).1;have hz:zE3 ls c q=0:=by rw[zCD hq];exact zPc _
 have bc:bsI ls c<=q:=by
  rcases Nat.lt_or_ge q (bsI ls c) with h|h
  ·have:=h2 q h;omega
  ·exact h
 have he:bsI ls c=q:=by
  rcases Nat.lt_or_ge (bsI ls c) q with h|h
  ·obtain⟨x,hx⟩:∃ x,ls[bsI ls c]?=some x:=⟨_,xAA (by omega)⟩;have h4:=h3 (bsI ls c) (xAF _) (by omega);rw[zCD hx] at h4;have h5:=zGM hs hx hq h;unfold clt at h5;omega
  ·omega
 refine⟨?_,by rw[he];exact hq⟩;unfold bsB;rw[he];simp[fV,hz]
def zoX{ls:List CL}{c:CL}(h:bsB ls c=true):ls[bsI ls c]?=some c:=by
 unfold bsB at h;simp only[xAP,decide_eq_true_eq] at h;obtain⟨x,hx⟩:∃ x,ls[bsI ls c]?=some x:=⟨_,xAA h.1⟩;have h2:=h.2;rw[zCD hx] at h2;rw[hx,zn0 h2]
def zkD{cs:List CL}(hs:zCr cs)(c:CL):zCr (zNh cs c).2/\(∀ d∈cs,d∈(zNh cs c).2)/\(c.1≠-1->c∈(zNh cs c).2):=by
 unfold zNh;by_cases h:c.1=-1
 ·rw[if_pos h];exact⟨hs,fun d hd=>hd,fun h2=>absurd h h2⟩
 ·rw[if_neg h];simp only;by_cases hb:bsB cs c=true
  ·rw[if_pos hb];exact⟨hs,fun d hd=>hd,fun _=>List.mem_of_getElem? (zoX hb)⟩
  ·rw[if_neg hb];obtain⟨h1,h2,h3⟩:=zi9 hs c;have dr:cs=cs.take (bsI cs c)++cs.drop (bsI cs c):=(List.take_append_drop _ _).symm;refine⟨?_,fun d hd=>?_,fun _=>by simp⟩
   ·rw[dr] at hs;obtain⟨p1,p2,p3⟩:=List.pairwise_append.1 hs;refine List.pairwise_append.2 ⟨p1,List.pairwise_cons.2 ⟨fun d hd=>?_,p2⟩,fun a ha d hd=>?_⟩
    ·obtain⟨q,hq⟩:=List.getElem?_of_mem hd;rw[List.getElem?_drop] at hq;have h4:=h3 (bsI cs c+q) (by omega) (List.getElem?_eq_some_iff.1 hq).1;rw[zCD hq] at h4;have ah:zFA (kc d) (kc c)≠0:=by
      intro e;have:=zn0 e;subst this;exact hb (zHY (by rw[dr];exact hs) (List.mem_of_getElem? hq)).1
     exact (zPd _ _).2 (by omega)
    ·rcases List.mem_cons.1 hd with rfl|hd
     ·obtain⟨q,hq⟩:=List.getElem?_of_mem ha;have fV:=(List.getElem?_eq_some_iff.1 hq).1;rw[List.length_take] at fV;rw[List.getElem?_take_of_lt (by omega)] at hq;have h4:=h2 q (by omega);rw[zCD hq] at h4;exact h4
     ·exact p3 a ha d hd
   ·rw[dr,List.mem_append] at hd;simp only[List.mem_append,xAQ];rcases hd with hd|hd
    ·exact .inl hd
    ·exact .inr (.inr hd)
def zHy:∀(l:List CL) {cs:List CL},zCr cs->zCr (zBy cs l).2/\(∀ d∈cs,d∈(zBy cs l).2)/\∀ c∈l,c.1≠-1->c∈(zBy cs l).2
 | [],cs,hs=>⟨hs,fun d hd=>hd,fun c hc=>by cases hc⟩
 | c::l,cs,hs=>by
  obtain⟨a1,a2,a3⟩:=zkD hs c;obtain⟨b1,b2,b3⟩:=zHy l a1;simp only[zBy];refine⟨b1,fun d hd=>b2 d (a2 d hd),fun d hd h=>?_⟩;rcases List.mem_cons.1 hd with rfl|hd
  ·exact b2 _ (a3 h)
  ·exact b3 d hd h
def zAh(cs:List CL)(c:CL):Int:=if c.1=-1 then 0 else ((bsI cs c:Nat):Int)+1
def zGS:∀(l:List CL) {cs:List CL},zCr cs->(∀ c∈l,c.1≠-1->c∈cs)->zBy cs l=(l.map (zAh cs),cs)
 | [],cs,_,_=>rfl
 | c::l,cs,hs,h=>by
  have h1:zNh cs c=(zAh cs c,cs):=by
   unfold zNh zAh;by_cases hc:c.1=-1
   ·rw[if_pos hc,if_pos hc]
   ·rw[if_neg hc,if_neg hc,if_pos (zHY hs (h c (by simp) hc)).1]
  simp only[zBy,h1,zGS l hs fun d hd=>h d (by simp[hd]),List.map_cons]
def zLj{cs:List CL}(hs:zCr cs){c d:CL}(hc:c.1≠-1->c∈cs)(hd:d.1≠-1->d∈cs)(h:zAh cs c=zAh cs d):(c.1=-1/\d.1=-1)\/c=d:=by
 unfold zAh at h;by_cases h1:c.1=-1
 ·by_cases h2:d.1=-1
  ·exact .inl ⟨h1,h2⟩
  ·rw[if_pos h1,if_neg h2] at h;omega
 ·by_cases h2:d.1=-1
  ·rw[if_neg h1,if_pos h2] at h;omega
  ·rw[if_neg h1,if_neg h2] at h;have e:bsI cs c=bsI cs d:=by omega
   have a:=(zHY hs (hc h1)).2;have b:=(zHY hs (hd h2)).2;rw[e,b] at a;exact .inr (Option.some.inj a).symm
abbrev zQn(nums:List Int)(e:Ed):Int×Int:=((nums[e.2.1.toNat]?).getD 0,e.2.2)
def zHi(nums:List Int):∀(l:List Ed) (SS:List zf) (i:Nat) (S:zf),(zC7 nums SS l)[i]?=some S->∃ S0,SS[i]?=some S0/\∀ y,y∈S ↔ y∈S0\/∃ e∈l,e.1.toNat=i/\y=zQn nums e
 | [],SS,i,S,h=>⟨S,h,fun y=>by simp⟩
 | e::l,SS,i,S,h=>by
  simp only[zC7] at h;obtain⟨S0,h0,hS⟩:=zHi nums l _ i S h;by_cases hi:e.1.toNat=i
  ·subst hi;rw[List.getElem?_set] at h0;simp only[if_true] at h0;split at h0
   ·rename_i ab;cases h0;refine⟨SS[e.1.toNat],xAA ab,fun y=>?_⟩;rw[hS y,xAA ab];simp only[Option.getD_some,List.mem_append,xAQ,List.not_mem_nil,or_false];constructor
    ·rintro ((h|h)|⟨f,h1,h2⟩)
     ·exact .inl h
     ·exact .inr ⟨e,.inl rfl,rfl,h⟩
     ·exact .inr ⟨f,.inr h1,h2⟩
    ·rintro (h|⟨f,rfl|h1,h2,h3⟩)
     ·exact .inl (.inl h)
     ·exact .inl (.inr h3)
     ·exact .inr ⟨f,h1,h2,h3⟩
   ·cases h0
  ·rw[List.getElem?_set_ne hi] at h0;refine⟨S0,h0,fun y=>?_⟩;rw[hS y];simp only[xAQ];constructor
   ·rintro (h|⟨f,h1,h2⟩)
    ·exact .inl h
    ·exact .inr ⟨f,.inr h1,h2⟩
   ·rintro (h|⟨f,rfl|h1,h2,h3⟩)
    ·exact .inl h
    ·exact absurd h2 hi
    ·exact .inr ⟨f,h1,h2,h3⟩
def zHg{nums:List Int}{L:GL}{i:Nat}{S:zf}(h:(zAT nums L)[i]?=some S)(y:Int×Int):y∈S ↔ ∃ e∈L.eds,e.1.toNat=i/\y=zQn nums e:=by
 obtain⟨S0,h0,hS⟩:=zHi nums _ _ i S h;rw[List.getElem?_replicate] at h0;split at h0
 ·cases h0;rw[hS y];simp
 ·cases h0
def zFw{L:GL}(h:zx L=false){i:Nat}{c:CL}(hc:L.labs[i]?=some c)(h1:c.1=-1):c.2=[]:=by
 simp only[zx,Bool.or_eq_false_iff] at h;have ab:=(List.getElem?_eq_some_iff.1 hc).1;have:=zCv h.1.2 i (Nat.zero_le _) (by omega);simp only[zBO,hc,Bool.or_eq_false_iff,zBF,zTt,h1,decide_true,Bool.or_true,Bool.true_and,decide_eq_false_iff_not] at this;exact List.length_eq_zero_iff.1 (by omega)
def zLC(L M:GL):List CL:=(zBy (zBy [] L.labs).2 M.labs).2
def zOc(L M:GL):zCr (zLC L M)/\(∀ c∈L.labs,c.1≠-1->c∈zLC L M)/\∀ c∈M.labs,c.1≠-1->c∈zLC L M:=by
 obtain⟨a1,a2,a3⟩:=zHy L.labs (cs:=[]) List.Pairwise.nil;obtain⟨b1,b2,b3⟩:=zHy M.labs a1;exact⟨b1,fun c h1 h2=>b2 c (a3 c h1 h2),b3⟩
def zL0(L M:GL):zFy [L,M]=[zAT (L.labs.map (zAh (zLC L M))) L,zAT (M.labs.map (zAh (zLC L M))) M]:=by
 obtain⟨h1,h2,h3⟩:=zOc L M;show zEA (zLC L M) [L,M]=_;simp only[zEA,zGS L.labs h1 h2,zGS M.labs h1 h3]
def zQz{cs:List CL}{c:CL}(h:zAh cs c=0):c.1=-1:=by
 unfold zAh at h;split at h
 ·assumption
 ·omega
def zJh:∀(S:zf) (l:List Int) (v:Int),v∈S.foldl zDa l->v∈l\/∃ y∈S,y.1=0/\y.2=v
 | [],l,v,h=>.inl h
 | y::S,l,v,h=>by
  rcases zJh S _ v h with h1|⟨z,h1,h2⟩
  ·unfold zDa at h1;split at h1
   ·rename_i hc;rcases List.mem_append.1 h1 with h2|h2
    ·exact .inl h2
    ·exact .inr ⟨y,by simp,hc.1,(List.mem_singleton.1 h2).symm⟩
   ·exact .inl h1
  ·exact .inr ⟨z,by simp[h1],h2⟩
end Go.Proofs
namespace Go.Proofs
open Go Go.AM Go.Sort
def InR(L M:GL)(R:List (Int×Int)):Prop:=∀ p∈R,(0<=p.1/\p.1<L.n)/\(0<=p.2/\p.2<M.n)
def zCq(l:List (Int×Int)):Prop:=l.Pairwise fun p q=>zME p q<0
def znx{F:List (Int×Int)}(hn:F.length<=200000)(h0:∀ p∈F,0<=p.1/\0<=p.2)(hs:zCq F):zCL ⟨1,F⟩=0:=by
 unfold zCL;rw[if_neg (by simp[zDd]),if_neg (by simp only;omega),if_neg];rw[Bool.not_eq_true];refine zEz fun j _ hj=>?_;simp only at hj;obtain⟨p,hp⟩:∃ p,F[j]?=some p:=⟨_,xAA (by omega)⟩;have fW:=h0 p (List.mem_of_getElem? hp);simp only[zDB,hp,Bool.or_eq_false_iff,decide_eq_false_iff_not];refine⟨by omega,?_⟩;by_cases hj0:0<j
 ·rw[xAJ hj0];obtain⟨q,hq⟩:∃ q,F[j-1]?=some q:=⟨_,xAA (by omega)⟩;simp only[hq,Bool.true_and,decide_eq_false_iff_not];have:=List.pairwise_iff_getElem.1 hs (j-1) j (by omega) (by omega) (by omega);rw[(List.getElem?_eq_some_iff.1 hp).2,(List.getElem?_eq_some_iff.1 hq).2] at this;omega
 ·rw[xAI hj0];rfl
end Go.Proofs
namespace Go.Proofs
open Go Go.AM
def stp(L:GL)(s:Int)(c:CL)(s':Int):Prop:=∃ e∈L.eds,e.1=s/\L.labs[e.2.1.toNat]?=some c/\e.2.2=s'
inductive Sil(L:GL)(s:Int):Int->Prop
 | refl:Sil L s s
 | step {t u:Int} {c:CL} (h:Sil L s t) (e:stp L t c u) (hc:c.1=-1):Sil L s u
def Fol(kind:Int)(L M:GL)(R:List (Int×Int)):Prop:=∀ s t c s',(s,t)∈R->stp L s c s'->
 if kind=1 then ∃ t',stp M t c t'/\(s',t')∈R else ∃ u,Sil M t u/\(s,u)∈R/\((c.1=-1/\(s',u)∈R)\/∃ t',stp M u c t'/\(s',t')∈R)
def zCi{L:GL}(hL:zx L=false){s s':Int}{c:CL}(h:stp L s c s'):(0<=s/\s<L.n)/\(0<=s'/\s'<L.n)/\c∈L.labs:=by
 obtain⟨e,he,rfl,hc,rfl⟩:=h;obtain⟨j,hj⟩:=List.getElem?_of_mem he;obtain⟨d1,d2,_⟩:=zGD hL hj;exact⟨d1,d2,List.mem_of_getElem? hc⟩
def zBS{L:GL}(hL:zx L=false){cs:List CL}{s:Int}(hs:0<=s){S:zf}(hS:(zAT (L.labs.map (zAh cs)) L)[s.toNat]?=some S)(n s':Int):(n,s')∈S ↔ ∃ c,stp L s c s'/\n=zAh cs c:=by
 rw[zHg hS];constructor
 ·rintro⟨e,he,h1,h2⟩;obtain⟨j,hj⟩:=List.getElem?_of_mem he;obtain⟨d1,_,d3,d4⟩:=zGD hL hj;obtain⟨c,hc⟩:∃ c,L.labs[e.2.1.toNat]?=some c:=⟨_,xAA (by omega)⟩;have hv:zQn (L.labs.map (zAh cs)) e=(zAh cs c,e.2.2):=by simp[zQn,hc]
  rw[hv] at h2;exact⟨c,⟨e,he,by omega,hc,(Prod.mk.inj h2).2.symm⟩,(Prod.mk.inj h2).1⟩
 ·rintro⟨c,⟨e,he,h1,hc,h2⟩,rfl⟩;exact⟨e,he,by rw[h1],by simp[zQn,hc,h2]⟩
def zGL{L M:GL}{cs:List CL}{R:List (Int×Int)}(c1:zCr cs)(c2:∀ c∈L.labs,c.1≠-1->c∈cs)(c3':∀ c∈M.labs,c.1≠-1->c∈cs)(hL:zx L=false)(hM:zx M=false){c:CL}(hc:c∈L.labs){u s':Int}(hu:0<=u/\u<M.n) :
  zCV R (zAT (M.labs.map (zAh cs)) M) u (zAh cs c,s')=true ↔ ∃ t',stp M u c t'/\(s',t')∈R:=by
 obtain⟨S,hS⟩:∃ S,(zAT (M.labs.map (zAh cs)) M)[u.toNat]?=some S:=⟨_,xAA (by rw[zAw];omega)⟩;unfold zCV;simp only[hS,zEO,List.any_eq_true,zFf,xAP,decide_eq_true_eq];constructor
 ·rintro⟨⟨n,t'⟩,hy,h1,h2⟩;simp only at h1 h2;obtain⟨d,hd,e⟩:=(zBS hM hu.1 hS n t').1 hy;have hdm:=(zCi hM hd).2.2;have:d=c:=by
   rcases zLj c1 (c3' d hdm) (c2 c hc) (e.symm.trans h1) with ⟨e1,e2⟩|e
   ·obtain⟨i,hi⟩:=List.getElem?_of_mem hdm;obtain⟨j,hj⟩:=List.getElem?_of_mem hc;have a1:=zFw hM hi e1;have a2:=zFw hL hj e2;obtain⟨g1,l1⟩:=d;obtain⟨g2,l2⟩:=c;simp only at e1 e2 a1 a2;rw[e1,e2,a1,a2]
   ·exact e
  exact⟨t',this ▸ hd,h2⟩
 ·rintro⟨t',h1,h2⟩;exact⟨(zAh cs c,t'),(zBS hM hu.1 hS _ _).2 ⟨c,h1,rfl⟩,rfl,h2⟩
def num_zero{cs:List CL}{c:CL}:zAh cs c=0 ↔ c.1=-1:=⟨zQz,fun h=>by unfold zAh;rw[if_pos h]⟩
def zHT:∀(S:zf) (l:List Int),∃ t,S.foldl zDa l=l++t
 | [],l=>⟨[],by simp⟩
 | y::S,l=>by
  obtain⟨t,ht⟩:=zHT S (zDa l y);obtain⟨t1,h1⟩:∃ t1,zDa l y=l++t1:=by
   unfold zDa;split
   ·exact⟨_,rfl⟩
   ·exact⟨[],by simp⟩
  exact⟨t1++t,by rw[List.foldl_cons,ht,h1,List.append_assoc]⟩
def zPr:∀(S:zf) (l:List Int) (y:Int×Int),y∈S->y.1=0->y.2∈S.foldl zDa l
 | x::S,l,y,hy,h0=>by
  rw[List.foldl_cons];rcases List.mem_cons.1 hy with rfl|hy
  ·obtain⟨t,ht⟩:=zHT S (zDa l y);rw[ht];refine List.mem_append_left _ ?_;unfold zDa;split
   ·simp
   ·rename_i hn;simp only[not_and,Classical.not_not] at hn;exact hn h0
  ·exact zPr S _ y hy h0
def zWQ{TT:List zf}{body:Int->Bool}(hv:∀(i:Nat) (S:zf),TT[i]?=some S->∀ y∈S,0<=y.2/\y.2<(TT.length:Int)) :
  ∀(f i:Nat) (l:List Int),l.Nodup->(∀ u∈l,0<=u/\u<(TT.length:Int))->TT.length<=f+i->(∀(j:Nat) (u:Int),j<i->l[j]?=some u->body u=false/\∀ S,TT[u.toNat]?=some S->∀ y∈S,y.1=0->y.2∈l)->bfs TT body f i l=false->
   ∃ l':List Int,(∀ u∈l,u∈l')/\∀ u∈l',body u=false/\∀ S,TT[u.toNat]?=some S->∀ y∈S,y.1=0->y.2∈l':=by
 intro f
 induction f with
 | zero=>
  intro i l hn hr hf hp _;have:=zAp TT.length l hn hr;refine⟨l,fun _ h=>h,fun u hu=>?_⟩;obtain⟨j,hj⟩:=List.getElem?_of_mem hu;exact hp j u (by have:=(List.getElem?_eq_some_iff.1 hj).1;omega) hj
 | succ f ih=>
  intro i l hn hr hf hp hb;simp only[bfs] at hb;split at hb
  ·rename_i hi;refine⟨l,fun _ h=>h,fun u hu=>?_⟩;obtain⟨j,hj⟩:=List.getElem?_of_mem hu;refine hp j u ?_ hj;have h1:=(List.getElem?_eq_some_iff.1 hj).1;have h2:=List.getElem?_eq_none_iff.1 hi;omega
  ·rename_i u hu;simp only[Bool.or_eq_false_iff] at hb;obtain⟨S,hS⟩:∃ S,TT[u.toNat]?=some S:=⟨_,xAA (by have:=hr u (List.mem_of_getElem? hu);omega)⟩;have dN:zDN TT l u=S.foldl zDa l:=by unfold zDN;rw[hS]
   rw[dN] at hb;obtain⟨t,ht⟩:=zHT S l;have sub:∀ x∈l,x∈S.foldl zDa l:=fun x hx=>by rw[ht];exact List.mem_append_left _ hx
   obtain⟨l',h1,h2⟩:=ih (i+1) (S.foldl zDa l) (zEx hn) (fun x hx=>by
    rcases zHU hx with h|⟨y,hy,rfl⟩
    ·exact hr x h
    ·exact hv _ S hS y hy) (by omega) (fun j v hj hjv=>by
    have bi:=(List.getElem?_eq_some_iff.1 hu).1;rw[ht,List.getElem?_append_left (by omega)] at hjv;rcases Nat.lt_succ_iff_lt_or_eq.1 hj with h|h
    ·obtain⟨a,b⟩:=hp j v h hjv;exact⟨a,fun S' fl y hy h0=>sub _ (b S' fl y hy h0)⟩
    ·subst h;rw[hu] at hjv;cases hjv;refine⟨hb.1,fun S' fl y hy h0=>?_⟩;rw[hS] at fl;cases fl;exact zPr S l y hy h0) hb.2
   exact⟨l',fun x hx=>h1 x (sub x hx),h2⟩
def zlv{TT:List zf}{body:Int->Bool}{P:Int->Prop}(hc:∀ u,P u->∀ S,TT[u.toNat]?=some S->∀ y∈S,y.1=0->P y.2) :
  ∀(f i:Nat) (l:List Int),(∀ u∈l,P u)->bfs TT body f i l=true->∃ u,P u/\body u=true
 | 0,i,l,_,h=>by simp[bfs] at h
 | f+1,i,l,hl,h=>by
  simp only[bfs] at h;split at h
  ·cases h
  ·rename_i u hu;have hm:=hl u (List.mem_of_getElem? hu);rcases Bool.or_eq_true_iff.1 h with h|h
   ·exact⟨u,hm,h⟩
   ·refine zlv hc f (i+1) _ (fun v hv=>?_) h;unfold zDN at hv;split at hv
    ·rename_i S hS;rcases zJh S l v hv with h1|⟨y,h1,h2,h3⟩
     ·exact hl v h1
     ·rw[← h3];exact hc u hm S hS y h1 h2
    ·exact hl v hv
def zlu{M:GL}{cs:List CL}(hM:zx M=false){body:Int->Bool}{t:Int}(ht:0<=t/\t<M.n) :
  bfs (zAT (M.labs.map (zAh cs)) M) body (zAT (M.labs.map (zAh cs)) M).length 0 [t]=true ↔ ∃ u,Sil M t u/\body u=true:=by
 have hlen:=zAw (M.labs.map (zAh cs)) M;obtain⟨m1,m2,_,_⟩:=zAV hM;have vld:∀(i:Nat) (S:zf),(zAT (M.labs.map (zAh cs)) M)[i]?=some S->∀ y∈S,0<=y.2/\y.2<((zAT (M.labs.map (zAh cs)) M).length:Int):=fun i S hS y hy=>by
  have:i=((i:Nat):Int).toNat:=by omega
  rw[this] at hS;obtain⟨c,hc,_⟩:=(zBS hM (Int.natCast_nonneg i) hS y.1 y.2).1 hy;have:=(zCi hM hc).2.1;omega
 constructor
 ·intro h;obtain⟨u,hu,hb⟩:=zlv (P:=fun u=>Sil M t u/\0<=u) (fun u hu S hS y hy h0=>by
   obtain⟨c,hc,e⟩:=(zBS hM hu.2 hS y.1 y.2).1 hy;exact⟨.step hu.1 hc (num_zero.1 (e.symm.trans h0)),(zCi hM hc).2.1.1⟩) _ _ _ (fun u hu=>by rw[List.mem_singleton.1 hu];exact⟨.refl,ht.1⟩) h
  exact⟨u,hu.1,hb⟩
 ·rintro⟨u,hu,hb⟩;rcases Bool.eq_false_or_eq_true (bfs (zAT (M.labs.map (zAh cs)) M) body (zAT (M.labs.map (zAh cs)) M).length 0 [t]) with h|h
  ·exact h
  ·obtain⟨l',h1,h2⟩:=zWQ vld _ 0 [t] (by simp) (fun u hu=>by rw[List.mem_singleton.1 hu];omega) (by omega) (fun j u hj=>by omega) h;have:∀ u,Sil M t u->u∈l'/\(0<=u/\u<M.n):=by
    intro u hu
    induction hu with
    | refl=>exact⟨h1 t (by simp),ht⟩
    | @step v w c hv e hc ih=>
     obtain⟨S,hS⟩:∃ S,(zAT (M.labs.map (zAh cs)) M)[v.toNat]?=some S:=⟨_,xAA (by omega)⟩;exact⟨(h2 v ih.1).2 S hS _ ((zBS hM ih.2.1 hS _ _).2 ⟨c,e,rfl⟩) (num_zero.2 hc),(zCi hM e).2.1⟩
   have:=(h2 u (this u hu).1).1;rw[this] at hb;cases hb
def Sil.rng{M:GL}(hM:zx M=false){t u:Int}(h:Sil M t u)(ht:0<=t/\t<M.n):0<=u/\u<M.n:=by
 cases h with
 | refl=>exact ht
 | step _ e _=>exact (zCi hM e).2.1
def zWY{L M:GL}{cs:List CL}{R:List (Int×Int)}{kind:Int}(c1:zCr cs)(c2:∀ c∈L.labs,c.1≠-1->c∈cs)(c3':∀ c∈M.labs,c.1≠-1->c∈cs)(hL:zx L=false)(hM:zx M=false)(hr:InR L M R) :
  zQH kind R (zAT (L.labs.map (zAh cs)) L) (zAT (M.labs.map (zAh cs)) M)=true ↔ Fol kind L M R:=by
 have key:∀ s t c s',(s,t)∈R->stp L s c s'->(zDG kind R (zAT (M.labs.map (zAh cs)) M) (s,t) (zAh cs c,s')=true ↔ if kind=1 then ∃ t',stp M t c t'/\(s',t')∈R else ∃ u,Sil M t u/\(s,u)∈R/\((c.1=-1/\(s',u)∈R)\/∃ t',stp M u c t'/\(s',t')∈R)):=by
  intro s t c s' af hc;have ht:=(hr _ af).2;have dD:=(zCi hL hc).2.2;unfold zDG;by_cases hk:kind=1
  ·rw[if_pos hk,if_pos hk];exact zGL c1 c2 c3' hL hM dD ht
  ·rw[if_neg hk,if_neg hk];unfold zEB;rw[zlu hM ht];constructor
   ·rintro⟨u,hu,hb⟩;simp only[zDq,xAP,Bool.or_eq_true,decide_eq_true_eq] at hb;refine⟨u,hu,hb.1,hb.2.imp (fun h=>⟨num_zero.1 h.1,h.2⟩) fun h=>(zGL c1 c2 c3' hL hM dD (hu.rng hM ht)).1 h⟩
   ·rintro⟨u,hu,h1,h2⟩;refine⟨u,hu,?_⟩;simp only[zDq,xAP,Bool.or_eq_true,decide_eq_true_eq];exact⟨h1,h2.imp (fun h=>⟨num_zero.2 h.1,h.2⟩) fun h=>(zGL c1 c2 c3' hL hM dD (hu.rng hM ht)).2 h⟩
 simp only[zQH,zWa,List.all_eq_true];constructor
 ·intro h s t c s' af hc;obtain⟨S,hS⟩:∃ S,(zAT (L.labs.map (zAh cs)) L)[s.toNat]?=some S:=⟨_,xAA (by rw[zAw];have:=(hr _ af).1;simp only at this;omega)⟩;have:=h _ af;rw[show ((s,t):Int×Int).1=s from rfl,hS] at this;exact (key s t c s' af hc).1 (List.all_eq_true.1 this _ ((zBS hL (hr _ af).1.1 hS _ _).2 ⟨c,hc,rfl⟩))
 ·rintro h ⟨s,t⟩ af;obtain⟨S,hS⟩:∃ S,(zAT (L.labs.map (zAh cs)) L)[s.toNat]?=some S:=⟨_,xAA (by rw[zAw];have:=(hr _ af).1;simp only at this;omega)⟩;simp only[hS];refine List.all_eq_true.2 fun y hy=>?_;obtain⟨n,s'⟩:=y;obtain⟨c,hc,rfl⟩:=(zBS hL (hr _ af).1.1 hS n s').1 hy;exact (key s t c s' af hc).2 (h s t c s' af hc)
def InR.swap{L M:GL}{R:List (Int×Int)}(h:InR L M R):InR M L (R.map zBr):=fun p hp=>by
 obtain⟨q,hq,rfl⟩:=List.mem_map.1 hp;exact⟨(h q hq).2,(h q hq).1⟩
def zj0{L M:GL}{R:List (Int×Int)}{kind:Int}(hL:zx L=false)(hM:zx M=false)(hr:InR L M R):zTn L M ⟨kind,R⟩=true ↔ (0,0)∈R/\Fol kind L M R/\Fol kind M L (R.map zBr):=by
 obtain⟨c1,c2,c3'⟩:=zOc L M;unfold zTn;rw[zL0];simp only[zms,xAP,List.all_eq_true,decide_eq_true_eq,inB];rw[zWY c1 c2 c3' hL hM hr,zWY c1 c3' c2 hM hL hr.swap];constructor
 ·rintro⟨_,⟨a,b⟩,c⟩;exact⟨a,b,c⟩
 ·rintro⟨a,b,c⟩;exact⟨fun x hx=>⟨(hr x hx).1.2,(hr x hx).2.2⟩,⟨a,b⟩,c⟩
def zkM{kind:Int}(hk:kind=1\/kind=2){F:List (Int×Int)}(hn:F.length<=200000)(h0:∀ p∈F,0<=p.1/\0<=p.2)(hs:zCq F):zCL ⟨kind,F⟩=0:=by
 have:=znx hn h0 hs;unfold zCL at this ⊢;rw[if_neg (by simp[zDd])] at this;rw[if_neg (by rcases hk with rfl|rfl <;> simp[zDd])];exact this
def zQm:∀ {N M:Nat} {F:List (Int×Int)},zCq F->(∀ p∈F,(0<=p.1/\p.1<(N:Int))/\(0<=p.2/\p.2<(M:Int)))->F.length<=N*M:=by
 intro N M F hs hr;have aV:(F.map fun p=>p.1*(M:Int)+p.2).Nodup:=by
  rw[List.nodup_iff_pairwise_ne,List.pairwise_map];refine List.Pairwise.imp_of_mem (fun {p q} hp hq h=>?_) hs;have h1:=hr p hp;have h2:=hr q hq;rw[zCU] at h;intro e;rcases h with h|⟨h,h'⟩
  ·have:(p.1+1)*(M:Int)<=q.1*(M:Int):=Int.mul_le_mul_of_nonneg_right (by omega) (by omega);rw[Int.add_mul] at this;omega
  ·rw[h] at e;omega
 have:=zAp (N*M) _ aV fun x hx=>by
  obtain⟨p,hp,rfl⟩:=List.mem_map.1 hx;have h1:=hr p hp;have a:0<=p.1*(M:Int):=Int.mul_nonneg h1.1.1 (by omega);have b:(p.1+1)*(M:Int)<=(N:Int)*(M:Int):=Int.mul_le_mul_of_nonneg_right (by omega) (by omega);rw[Int.add_mul] at b;rw[Int.natCast_mul];omega
 simpa using this
end Go.Proofs
namespace Go.Proofs
open Go Go.AM Go.Sort
def zrZ{t a u:Nat}{Rp:Value->AH->Prop}{ex:Ex}{v w:Value}{h:AH}:KR E [.cell a t,.tmp u] Rp ex [v,w] h=(zDE ex=true/\EvO (zE2 E t v h) fun x=>Rp (.tuple #[x,w]) h):=by
 simp only[KR,zHo];cases zE2 E t v h with
 | none=>simp only[zPx]
 | some x=>simp only[zA,zia]
def Ac(lo:Nat)(m:AH)(v:Value)(l:List (Int×Int)):Prop:=(l=[]/\v=.slice none 0 0)\/∃ b:Nat,v=sl b l.length (UNK+2)/\lo<=b/\b<m.qa/\m.get b=some (.row (l.flatMap zG) 54 2 false)
def Ac.app{lo:Nat}{m:AH}{v:Value}{l:List (Int×Int)}(aa:m.ok)(A:Ac lo m v l)(f9:lo<=m.qa)(hn:l.length+1<=1000000)(p:Int×Int) :
  ∃ m' v',zAJ E .append [26,26] (some [v,.slice (some ⟨m.qa,0,none⟩) 1 1]) (m.new (rO (zG p) 54))=one (v',m')/\Ac lo m' v' (l++[p])/\Fx (zu v) m m'/\∀ c,zu v' c->m.qa<=c/\c<m'.qa:=by
 have az:=zI m (rO (zG p) 54);have blk:∀ {b n cp c:Nat},zu (.slice (some ⟨b,0,none⟩) n cp) c->c=b:=fun h=>by
  obtain⟨n,cap,e⟩:=h;simp only[Value.slice.injEq,xAN,Addr.mk.injEq] at e;exact e.1.1.symm
 rcases A with ⟨rfl,rfl⟩|⟨b,rfl,h1,h2,h3⟩
 ·refine⟨_,_,append_nil zoG az rfl,.inr ⟨(m.new (rO (zG p) 54)).qa,rfl,?_,?_,?_⟩,((Fx.refl aa).new _).new _,fun c hc=>?_⟩
  ·show lo<=m.qa+1;omega
  ·exact Nat.lt_succ_self _
  ·exact zI (m.new _) _
  ·have:=blk hc;show m.qa<=c/\c<m.qa+1+1;have e:(m.new (rO (zG p) 54)).qa=m.qa+1:=rfl;omega
 ·have fj:(m.new (rO (zG p) 54)).get b=some (.row (l.flatMap zG) 54 2 false):=by rw[zK (by omega)];exact h3
  have f1:Fx (zu (sl b l.length (UNK+2))) m (m.new (rO (zG p) 54)):=(Fx.refl aa).new _;refine⟨_,_,zC4 zoG (by omega) fj (zBp l) hn az rfl (by simp[zG,zq]),.inr ⟨(m.new (rO (zG p) 54)).qa,by simp,?_,?_,?_⟩,(f1.upd (.inl ⟨_,_,rfl⟩) none).new _,fun c hc=>?_⟩
  ·show lo<=m.qa+1;omega
  ·exact Nat.lt_succ_self _
  ·rw[List.flatMap_append,List.flatMap_cons,List.flatMap_nil,List.append_nil];exact zI ((m.new _).upd b none) _
  ·have:=blk hc;show m.qa<=c/\c<m.qa+1+1;have e:(m.new (rO (zG p) 54)).qa=m.qa+1:=rfl;omega
def Ac.fx{P:Nat->Prop}{lo:Nat}{m m':AH}{v:Value}{l:List (Int×Int)}(A:Ac lo m v l)(f:Fx P m m')(hP:∀ c,zu v c->¬ P c):Ac lo m' v l:=by
 rcases A with h|⟨b,rfl,h1,h2,h3⟩
 ·exact .inl h
 ·exact .inr ⟨b,rfl,h1,xAC h2 f.qa,(f.get b h2 (hP b ⟨_,_,rfl⟩)).trans h3⟩
def Ac.leaf{lo:Nat}{m:AH}{v:Value}{l:List (Int×Int)}(A:Ac lo m v l):zq v=true/\zj v=[v]/\∃ a c,v=.slice a l.length c:=by
 rcases A with ⟨rfl,rfl⟩|⟨b,rfl,_⟩
 ·exact⟨rfl,rfl,_,_,rfl⟩
 ·exact⟨rfl,rfl,_,_,rfl⟩
def Ac.arr{lo:Nat}{m:AH}{v:Value}{l:List (Int×Int)}(A:Ac lo m v l):Arr m 2 v (l.map zG):=by
 rcases A with ⟨rfl,rfl⟩|⟨b,rfl,_,h2,h3⟩
 ·exact .nil _ _
 ·exact zWV (rest:=[]) h3 h2 (by simp)
def zrM{a:Int}:zAu E 32 (some [(0,iI a)])=some (.agg ⟨[iI a,.slice none 0 0]⟩):=by kernel_rfl
def zlq{m:AH}{b:Nat}{vs:List Value}{a:Int}{v:Value}(hg:m.get b=some (rO vs 32))(hl:vs.length=2)(hv:zq v=true) :
  zb E 32 m (sP b 0) (some (.agg ⟨[iI a,v]⟩))=one (undef,m.upd b (some (rO [iI a,v] 32))):=by
 have:=zAC (P:=E) znB (o:=0) (x:=.agg ⟨[iI a,v]⟩) (cs:=[iI a,v]) hg rfl rfl (by omega) (by simpa[zq] using hv);rw[this]
 match vs,hl with
 | [x,y],_=>rfl
def zIM{d:Dt}(hs:SortedIn (zAe zME) 0 d.size d):∀ j,j<=d.size->zCq (dd d j)
 | 0,_=>List.Pairwise.nil
 | j+1,hj=>by
  have ih:=zIM hs j (by omega);simp only[dd];split
  ·exact ih
  ·rename_i ah;refine List.pairwise_append.2 ⟨ih,List.pairwise_singleton _ _,fun p hp q hq=>?_⟩;rw[List.mem_singleton.1 hq];obtain⟨i,hi,rfl⟩:=zP2 d j p hp;have h1:=hs (j-1) j (Nat.zero_le _) (by omega) (by omega);have h2:i=j-1\/zAe zME d[j-1]! d[i]! = false:=by
    by_cases e:i=j-1
    ·exact .inl e
    ·exact .inr (hs i (j-1) (Nat.zero_le _) (by omega) (by omega))
   have h3:d[j]!≠d[j-1]!:=fun e=>ah ⟨by omega,e⟩;have h4:zME d[j-1]! d[j]! < 0:=by
    simp only[decide_eq_false_iff_not,zCU] at h1;rw[zCU];have:¬ (d[j]!.1=d[j-1]!.1/\d[j]!.2=d[j-1]!.2):=fun e=>h3 (Prod.ext e.1 e.2);omega
   rcases h2 with h2|h2
   ·rw[h2];exact h4
   ·simp only[decide_eq_false_iff_not,zCU] at h2;rw[zCU] at h4 ⊢;omega
def zi0(d:Dt)(p:Int×Int):p∈dd d d.size ↔ p∈d.toList:=by
 constructor
 ·intro h;obtain⟨q,hq,e⟩:=zP2 d d.size p h;exact e ▸ List.mem_of_getElem? (zF0 hq)
 ·intro h;obtain⟨q,hq⟩:=List.getElem?_of_mem h;have fV:q<d.size:=by simpa using (List.getElem?_eq_some_iff.1 hq).1
  rw[zF0 fV] at hq;cases hq;exact zVi d d.size q fV
def zPN{d d':Dt}(h:PermIn 0 d.size d d')(p:Int×Int):p∈d'.toList ↔ p∈d.toList:=by
 have hp:=h.2.2;have e1:(d'.extract 0 d.size).toList=d'.toList:=by rw[← h.1,Array.extract_size]
 rw[e1,Array.extract_size] at hp;exact hp.mem_iff
def Made(P:Nat->Prop)(k:AH)(kind:Int)(F:List (Int×Int))(v:Value)(m:AH):Prop:=∃ b,v=.tuple #[.agg ⟨[iI kind,sl b F.length (UNK+2)]⟩,iI 0]/\(P b\/k.qa<=b)/\Arr m 2 (sl b F.length (UNK+2)) (F.map zG)/\Fx P k m
def Arr.upd{m:AH}{b c n cp:Nat}{z:Nat}{els:List (List Value)}(A:Arr m z (sl b n cp) els)(h:b≠c)(o:Option AObj):Arr (m.upd c o) z (sl b n cp) els:=by
 generalize hv:sl b n cp=v at A;cases A with
 | nil a c=>exact .nil a c
 | row h1 h2 h3 h4=>
  simp only[sl,Value.slice.injEq,xAN,Addr.mk.injEq] at hv;exact .row ((zP (by rw[← hv.1.1];exact h)).trans h1) h2 h3 h4
def Arr.wm{m:AH}{v:Value}{z:Nat}{els:List (List Value)}(A:Arr m z v els)(w:Nat):Arr ⟨m.t,m.qa,w⟩ z v els:=by
 cases A with
 | nil a c=>exact .nil a c
 | row h1 h2 h3 h4=>exact .row (zFD h1) h2 h3 h4
def Ac.ne{lo:Nat}{m:AH}{v:Value}{l:List (Int×Int)}(A:Ac lo m v l)(h:l≠[]):∃ b,v=sl b l.length (UNK+2)/\lo<=b/\b<m.qa/\m.get b=some (.row (l.flatMap zG) 54 2 false):=A.resolve_left fun e=>h e.1
def Ac.blk{lo:Nat}{m:AH}{v:Value}{l:List (Int×Int)}(A:Ac lo m v l)(c:Nat)(hc:zu v c):lo<=c:=by
 obtain⟨n,cp,e⟩:=hc;rcases A with ⟨_,rfl⟩|⟨b,rfl,h1,_⟩
 ·cases e
 ·simp only[Value.slice.injEq,xAN,Addr.mk.injEq] at e;exact e.1.1 ▸ h1
def pe0{a b:Value}:zt 0 (some (.tuple #[a,b]))=some a:=by kernel_rfl
def pe1{a b:Value}:zt 1 (some (.tuple #[a,b]))=some b:=by kernel_rfl
def zMB(M:List (Int×Value)):List (Value×Value):=M.map fun p=>(iI p.1,p.2)
def lkV(q:Int):List (Int×Value)->Option Value
 | []=>none
 | p::M=>if q=p.1 then some p.2 else lkV q M
def zeU(q:Int)(v:Value)(M:List (Int×Value)):List (Int×Value):=M.map fun p=>if q=p.1 then (p.1,v) else p
def zPj(q:Int)(v:Value):List (Int×Value)->List (Int×Value)
 | []=>[(q,v)]
 | p::M=>if klt (iI q) (iI p.1) then (q,v)::p::M else p::zPj q v M
def zBI(M:List (Int×Value)):List Int:=M.map (·.1)
def zPb{q:Int}:∀ {M:List (Int×Value)},q ∉ zBI M->lkV q M=none
 | [],_=>rfl
 | p::M,h=>by
  simp only[zBI,List.map_cons,xAQ,not_or] at h;simp only[lkV,if_neg h.1];exact zPb h.2
def zOQ:∀ {M:List (Int×Value)},(zBI M).Nodup->∀ q,zAf E 3 (iI q) (zMB M)=some (lkV q M)
 | [],_,q=>rfl
 | p::M,h,q=>by
  obtain⟨h1,h2⟩:=List.nodup_cons.1 (show (p.1::zBI M).Nodup from h);have ih:=zOQ h2 q;simp only[zMB,List.map_cons,zAf,lkV] at ih ⊢;rw[zVG,ih];by_cases e:q=p.1
  ·subst e;simp[zPb h1]
  ·simp[e]
def zKV{q:Int}{v:Value}:∀ M:List (Int×Value),zBo E 3 (iI q) v (zMB M)=some (zMB (zeU q v M))
 | []=>rfl
 | p::M=>by
  have ih:=zKV (q:=q) (v:=v) M;simp only[zMB,List.map_cons,zBo,zeU] at ih ⊢;rw[zVG,ih];by_cases e:q=p.1
  ·subst e;simp[zDc]
  ·simp[e]
def zKk{q:Int}{v:Value}:∀ M:List (Int×Value),zA7 (iI q) v (zMB M)=zMB (zPj q v M)
 | []=>rfl
 | p::M=>by
  have:=zKk (q:=q) (v:=v) M;simp only[zMB,List.map_cons,zA7,zPj] at this ⊢;split
  ·rfl
  ·rw[this];rfl
def zLY{q:Int}{v:Value}(M:List (Int×Value)):zBI (zeU q v M)=zBI M:=by
 simp only[zBI,zeU,List.map_map];refine List.map_congr_left fun p _=>?_;simp only[Function.comp_apply];split <;> rfl
def zLv{q:Int}{v:Value}:∀ M:List (Int×Value),∀ x,x∈zBI (zPj q v M) ↔ x=q\/x∈zBI M
 | [],x=>by simp[zBI,zPj]
 | p::M,x=>by
  have ih:=zLv (q:=q) (v:=v) M x;simp only[zPj];split
  ·simp[zBI]
  ·simp only[zBI,List.map_cons,xAQ] at ih ⊢;rw[ih];constructor
   ·rintro (h|h|h) <;> simp[h]
   ·rintro (h|h|h) <;> simp[h]
def zGb{q:Int}{v:Value}:∀ {M:List (Int×Value)},(zBI M).Nodup->q ∉ zBI M->(zBI (zPj q v M)).Nodup
 | [],_,_=>by simp[zBI,zPj]
 | p::M,h,hq=>by
  obtain⟨h1,h2⟩:=List.nodup_cons.1 (show (p.1::zBI M).Nodup from h);have fD:q≠p.1/\q ∉ zBI M:=by simpa[zBI] using hq
  simp only[zPj];split
  ·exact List.nodup_cons.2 ⟨hq,h⟩
  ·refine List.nodup_cons.2 ⟨fun hm=>?_,zGb h2 fD.2⟩;rcases (zLv M p.1).1 hm with e|e
   ·exact fD.1 e.symm
   ·exact h1 e
def zNp{q:Int}{v:Value}(x:Int):∀ M:List (Int×Value),lkV x (zeU q v M)=if x=q then (lkV x M).map fun _=>v else lkV x M
 | []=>by simp[zeU,lkV]
 | p::M=>by
  have ih:=zNp (q:=q) (v:=v) x M;simp only[zeU,List.map_cons] at ih ⊢;by_cases e:q=p.1
  ·rw[if_pos e];simp only[lkV];by_cases h:x=p.1
   ·simp[h,e]
   ·simp only[if_neg h,ih]
  ·rw[if_neg e];simp only[lkV];by_cases h:x=p.1
   ·simp only[if_pos h];rw[if_neg (by omega)]
   ·simp only[if_neg h,ih]
def zOL{q:Int}{v:Value}(x:Int):∀ M:List (Int×Value),q ∉ zBI M->lkV x (zPj q v M)=if x=q then some v else lkV x M
 | [],_=>by simp[zPj,lkV]
 | p::M,hq=>by
  have fD:q≠p.1/\q ∉ zBI M:=by simpa[zBI] using hq
  have ih:=zOL (q:=q) (v:=v) x M fD.2;simp only[zPj];split
  ·simp only[lkV]
  ·simp only[lkV,ih];by_cases h:x=p.1
   ·simp only[if_pos h];rw[if_neg (by omega)]
   ·simp only[if_neg h]
def zkH:zLo E 125=some (3,47):=by kernel_rfl
def zUv{h:AH}{m ver:Nat}{M:List (Int×Value)}(hm:h.get m=some (.map (zMB M) ver))(hM:(zBI M).Nodup)(q:Int) :
  zBM E 125 false (some (.map (some m))) (some (iI q)) h=some ((lkV q M).getD (.slice none 0 0)):=by
 simp only[zBM,zFL,zkH,zDo,hm,zG4,xAG,zOQ hM];cases lkV q M with
 | none=>simp[zEY,z_47,okV]
 | some v=>simp[zEY,okV]
def zm5{h:AH}{m ver:Nat}{M:List (Int×Value)}(hm:h.get m=some (.map (zMB M) ver))(hM:(zBI M).Nodup)(q:Int)(v:Value) :
  ∃ M',zAI E 125 (some (.map (some m))) (some (iI q)) (some v) h=one (undef,h.upd m (some (.map (zMB M') (ver+1))))/\(zBI M').Nodup/\∀ x,lkV x M'=if x=q then some v else lkV x M:=by
 have cw:zg (iI q)=true:=rfl;cases hl:lkV q M with
 | none=>
  have hq:q ∉ zBI M:=fun hq=>by
   have:∀ M:List (Int×Value),q∈zBI M->lkV q M≠none:=by
    intro M
    induction M with
    | nil=>intro h;cases h
    | cons p M ih=>
     intro h;simp only[lkV];split
     ·simp
     ·rename_i e;have h:q=p.1\/q∈zBI M:=by simpa[zBI] using h
      exact ih (h.resolve_left e)
   exact this M hq hl
  refine⟨zPj q v M,?_,zGb hM hq,fun x=>zOL x M hq⟩;simp only[zAI,zA4,zkH,hm,zG4,cw,Bool.and_self,xAG,zBV,zOQ hM,hl,zKk,u1]
 | some w=>
  refine⟨zeU q v M,?_,by rw[zLY];exact hM,fun x=>?_⟩
  ·simp only[zAI,zA4,zkH,hm,zG4,cw,Bool.and_self,xAG,zBV,zOQ hM,hl,zKV,u1]
  ·rw[zNp];by_cases e:x=q
   ·simp[e,hl]
   ·simp[e]
structure MI(lo:Nat)(h:AH)(m:Nat)(f:Int->List Int):Prop where
 ex:∃ M ver,h.get m=some (.map (zMB M) ver)/\(zBI M).Nodup/\(∀ q,IS lo h ((lkV q M).getD (.slice none 0 0)) (f q))/\∀ q q' b,q≠q'->zu ((lkV q M).getD (.slice none 0 0)) b->¬ zu ((lkV q' M).getD (.slice none 0 0)) b
def zop(f:Int->List Int)(q u:Int):Int->List Int:=fun x=>if x=q then f x++[u] else f x
def MI.add{lo:Nat}{h0 h:AH}{m:Nat}{f:Int->List Int}(I0:MI lo h0 m f)(x0:Fx NoB h0 h)(hm:m<lo)(hlo0:lo<=h0.qa){q u:Int}(hn:(f q).length<=999998) :
  ∃ v m1 v' m2,(∀ h',h'.get m=h.get m->zBM E 125 false (some (.map (some m))) (some (iI q)) h'=some v)/\zq v=true/\veq 100 v v=true ∧
   zAJ E .append [47,47] (some [v,.slice (some ⟨h.qa,0,none⟩) 1 1]) (h.new (rO [iI u] 3))=one (v',m1) ∧
   zAI E 125 (some (.map (some m))) (some (iI q)) (some v') m1=one (undef,m2)/\(∀ b,b<lo\/h0.qa<=b->b<h.qa->m1.get b=h.get b)/\MI lo m2 m (zop f q u)/\Fx (fun c=>c=m\/lo<=c) h m2:=by
 obtain⟨M,ver,h1,h2,h30,h4⟩:=I0.ex;have dN:=x0.qa;have f9:lo<=h.qa:=Nat.le_trans hlo0 dN;have h1:h.get m=some (.map (zMB M) ver):=(x0.get m (by omega) (fun h=>h)).trans h1;have h3:∀ q,IS lo h ((lkV q M).getD (.slice none 0 0)) (f q):=fun q=>(h30 q).mono dN fun b hb _=>x0.get b hb (fun h=>h);obtain⟨m1,a1,a2,a3,a4⟩:=(h3 q).app f9 hn u;have a4:=a4 x0.ok;have hg:∀ b,b<lo\/h0.qa<=b->b<h.qa->m1.get b=h.get b:=fun b hb bz=>a4.get b bz fun hk=>by have:=(h30 q).blk hk;omega
 obtain⟨M',u1,u2,u3⟩:=zm5 (v:=.slice (some ⟨h.qa+1,0,none⟩) ((f q).length+1) (UNK+1)) ((hg m (.inl hm) (by omega)).trans h1) h2 q;obtain⟨sa,sc,hs⟩:=(h3 q).slice;refine⟨_,m1,_,_,fun h' e=>zUv (e.trans h1) h2 q,by rw[hs];rfl,by rw[hs];exact zB2 _ _ _ _,a1,u1,hg,⟨M',ver+1,zN _ _ _,u2,fun x=>?_,fun x y b du hx hy=>?_⟩,?_⟩
 ·rw[u3];by_cases e:x=q
  ·simp only[if_pos e,Option.getD_some,zop];rw[e];exact .inr (a2.mono (xAF _) fun b hb _ _=>zP (by omega))
  ·simp only[if_neg e,zop];refine (h3 x).mono (by show h.qa<=m1.qa;omega) fun b hb hk=>?_;have:=(h3 x).blk hk;rw[zP (by omega)];exact a4.get b hb fun dQ=>h4 x q b e hk dQ
 ·rw[u3] at hx hy;have key:∀ z,z≠q->zu ((lkV z M).getD (.slice none 0 0)) b->b<h.qa:=fun z _ hz=>((h3 z).blk hz).2;have own:zu (.slice (some ⟨h.qa+1,0,none⟩) ((f q).length+1) (UNK+1)) b->b=h.qa+1:=fun ⟨n,cp,e⟩=>by
   simp only[Value.slice.injEq,xAN,Addr.mk.injEq] at e;exact e.1.1.symm
  by_cases ex:x=q
  ·have ey:y≠q:=fun e=>du (ex.trans e.symm);rw[if_pos ex] at hx;rw[if_neg ey] at hy;have:=own hx;have:=key y ey hy;omega
  ·rw[if_neg ex] at hx;by_cases ey:y=q
   ·rw[if_pos ey] at hy;have:=own hy;have:=key x ex hx;omega
   ·rw[if_neg ey] at hy;exact h4 x y b du hx hy
 ·exact (a4.mono (P':=fun c=>c=m\/lo<=c) fun c hc=>.inl (.inr ((h3 q).blk hc).1)).upd (.inl (.inl rfl)) _
def zlV{k:AH}{e f:Int×Int}(aa:k.ok):(zV E).call 176 [.agg ⟨zG e⟩,.agg ⟨zG f⟩] k=some [(iI (zME e f),k)]:=by
 refine zdi (s:=true) aa rfl (zbX ?_);simp only[zd,zL,zX,zA];refine zbW ?_;have o1:=((Own.qb k).new (rO (zG e) 134)).new (rO (zG f) 134);have t1:((k.qb.new (rO (zG e) 134)).new (rO (zG f) 134)).get k.qa=some (rO (zG e) 134):=by
  rw[zK (by simp)];exact zI k.qb _
 have t2:((k.qb.new (rO (zG e) 134)).new (rO (zG f) 134)).get (k.qa+1)=some (rO (zG f) 134):=zI (k.qb.new _) _;simp only[za,AH.next_new];generalize ((k.qb.new (rO (zG e) 134)).new (rO (zG f) 134))=k1 at o1 t1 t2;have l0:=zF (P:=E) zAa (o:=0) t1;have l1:=zF (P:=E) zAa (o:=1) t1;have m0:=zF (P:=E) zAa (o:=0) t2;have m1:=zF (P:=E) zAa (o:=1) t2;simp only[lnth,zG] at l0 l1 m0 m1;simp only[zDX,zA6,Nat.add_zero,xAK,l0,l1,m0,m1,zA,zS,zIO o1.ext.ok,zO,zDc,true_and,zWM,zL];rw[or2 o1.ext.ok];simp only[zO,zA,zAS,zU,true_and];exact⟨rfl,o1.wm⟩
def zi2:zCk (.func (.func 176) #[] #[]) zME:=fun k x y aa=>by rw[zS];exact zlV aa
def zPm{h k:AH}{v:Value}{els:List (List Value)}(ha:Arr h 2 v els)(e:Ext h k){i:Nat}{x:List Value}(hi:els[i]?=some x) :
  ∃ p,zE E 132 (some v) (some (iI (i:Int)))=some p/\zH E 134 k (some p)=some (.agg ⟨x⟩):=zKo zHb zJC zEM ha e hi
def zoL{h0 k:AH}{v w:Value}{l m:List (Int×Int)}(ha:Arr h0 2 v (l.map zG))(hb:Arr h0 2 w (m.map zG))(hn:l.length<=9223372036854775807)(hk:Ext h0 k) :
  (zV E).call 91 [v,w] k=some [(.bool (decide (l=m)),k)]:=by
 obtain⟨a1,c1,hv⟩:=ha.slice;obtain⟨a2,c2,hw⟩:=hb.slice;rw[List.length_map] at hv hw;refine zhO (s:=true) hk.ok rfl (zfa (zfZ ?_));have ew:k.qa<=k.qb.wm:=by rw[zAm];omega
 rw[hv,hw];simp only[zUy,zUx,zA,zA1,zHH];rw[← hv,← hw];refine⟨fun ah=>zfY ?_,fun di=>zfX ?_⟩
 ·simp only[zAS,zU,true_and];exact⟨by rw[xAI (fun e=>ah (by rw[e]))],ew⟩
 have iH:l.length=m.length:=by omega
 rw[hv];simp only[zUw,zA];rw[← hv];have loop:∀(r i:Nat),i+r=l.length->(∀ j,j<i->l[j]?=m[j]?)->PI (C91 true) (KR E [.tmp 4] fun x l'=>x=.bool (decide (l=m))/\k.qa<=l'.wm) 4 [v,w,iI (l.length:Int),iI (i:Int)] k.qb:=by
  intro r
  induction r with
  | zero=>
   intro i hi hj;refine zQK ?_;simp only[zY,zA,show decide ((i:Int)<(l.length:Int))=false from xAI (by omega),zi];refine zfS ?_;simp only[zAS,zU,true_and];have e:l=m:=List.ext_getElem? fun j=>by
    by_cases h:j<i
    ·exact hj j h
    ·rw[List.getElem?_eq_none (by omega),List.getElem?_eq_none (by omega)]
   exact⟨by rw[xAJ e],ew⟩
  | succ r ih=>
   intro i hi hj;have bi:i<l.length:=by omega
   have him:i<m.length:=by omega
   refine zQK ?_;simp only[zY,zA,show decide ((i:Int)<(l.length:Int))=true from xAJ (by omega),zy];refine zfW (zfV ?_);have x1:(l.map zG)[i]?=some (zG l[i]):=by rw[List.getElem?_map,xAA bi];rfl
   have x2:(m.map zG)[i]?=some (zG m[i]):=by rw[List.getElem?_map,xAA him];rfl
   obtain⟨p,q1,q2⟩:=zPm ha hk.qb x1;obtain⟨p',q3,q4⟩:=zPm hb hk.qb x2;simp only[q1,q2,q3,q4,zA,zrQ,zHH];refine⟨fun ah=>zfU ?_,fun he=>zfT ?_⟩
   ·simp only[zAS,zU,true_and];have ne:¬ l=m:=fun e=>ah (by
     have:l[i]?=m[i]?:=by rw[e]
     rw[xAA bi,xAA him] at this;exact Option.some.inj this)
    exact⟨by rw[xAI ne],ew⟩
   ·simp only[zA,zAK _ (zDu bi hn)];refine ih (i+1) (by omega) fun j fh=>?_;rcases Nat.lt_succ_iff_lt_or_eq.1 fh with h|h
    ·exact hj j h
    ·subst h;rw[xAA bi,xAA him,he]
 exact loop l.length 0 (by omega) fun j hj=>by omega
def zlc{k:AH}{c:Int}(aa:k.ok)(h0:0<=c)(h1:c<=40000):(zV E).call 142 [iI c] k=some [(.bool false,k)]:=by
 refine zdu (s:=true) aa rfl (zcC (zcB ?_));simp only[zY,zAO,show decide (c<0)=false from xAI (by omega),show decide (40000<c)=false from xAI (by omega),zA,zM,xAO,xAG,zJ,xAH,zAS,zU,true_and];rw[zAm];omega
def zlR{h0 k:AH}{v:Value}{l:List Int}(ha:Arr h0 1 v (l.map i1))(hn:l.length<=9223372036854775807)(hl:∀ c∈l,0<=c/\c<=40000)(hk:Ext h0 k) :
  (zV E).call 189 [v,.func (.func 142) #[] #[]] k=some [(iI (-1),k)]:=by
 obtain⟨a1,c1,hv⟩:=ha.slice;rw[List.length_map] at hv;refine zdd (s:=true) hk.ok rfl (za8 (za7 ?_));have loop:∀(r i:Nat),i+r=l.length->PI (zLE true) (KR E [.tmp 4] fun x l'=>x=iI (-1)/\k.qa<=l'.wm) 2 [v,.func (.func 142) #[] #[],iI (l.length:Int),iI (i:Int)] k.qb:=by
  intro r
  induction r with
  | zero=>
   intro i hi;refine zM9 ?_;simp only[zY,zA,show decide ((i:Int)<(l.length:Int))=false from xAI (by omega),zi];refine za3 ?_;simp only[zAS,zU,true_and];rw[zAm];omega
  | succ r ih=>
   intro i hi;have bi:i<l.length:=by omega
   refine zM9 ?_;simp only[zY,zA,show decide ((i:Int)<(l.length:Int))=true from xAJ (by omega),zy];refine za6 (za5 ?_);obtain⟨p,q1,q2⟩:=zHF ha hk.qb (xAA bi);have:=hl _ (List.getElem_mem bi);simp only[q1,q2,zA,zS,zlc hk.qb.ok this.1 this.2,zO,zi];refine za4 ?_;simp only[zA,zAK _ (zDu bi hn)];exact ih (i+1) (by omega)
 rw[hv];simp only[zRL,zA];rw[← hv];exact loop l.length 0 (by omega)
def zld{h0 k:AH}{v:Value}{l:List Int}(ha:Arr h0 1 v (l.map i1))(hn:l.length<=9223372036854775807)(hl:∀ c∈l,0<=c/\c<=40000)(hk:Ext h0 k) :
  (zV E).call 141 [v,.func (.func 142) #[] #[]] k=some [(.bool false,k)]:=by
 refine zdv (s:=true) hk.ok rfl (zcE (zcD ?_));simp only[zS,zlR ha hn hl hk.qb,zO,zAZ,zA,zAS,zU,true_and];exact⟨rfl,by rw[zAm];omega⟩
def zi4{k:AH}{x y v:Value}{L M:GL}{kind:Int}{cl:List Int}(aa:k.ok)(hx:RL k x L)(hy:RL k y M)(hL:zx L=false)(hM:zx M=false)(hk:kind=1\/kind=2)(hc:Arr k 1 v (cl.map i1))(hn:(cl.length:Int)=L.n+M.n)(hl:∀ c∈cl,0<=c/\c<=40000) :
  (zV E).call 89 [iI kind,x,y,v] k=some [(iI 0,k)]:=by
 obtain⟨vl,ve,elsL,rfl,x2,x3,x4⟩:=id hx.ex;obtain⟨wl,we,elsM,rfl,y2,y3,y4⟩:=id hy.ex;obtain⟨ca,cc,hv⟩:=hc.slice;rw[List.length_map] at hv;obtain⟨l1,l2,_⟩:=zAV hL;obtain⟨m1,m2,_⟩:=zAV hM;refine zhQ (s:=true) aa rfl (zfo ?_);obtain⟨k1,e1,n1,t1,o1,f1⟩:=nwF k (rO [iI L.n,vl,ve] 25);obtain⟨k2,e2,n2,t2,o2,f2⟩:=nw o1 (rO [iI M.n,wl,we] 25);obtain⟨k3,e3,n3,t3,o3,f3⟩:=nw o2 (rO [iI L.n,vl,ve,iI M.n,wl,we] 25);rw[n1] at t2;have g0:k2.get k.qa=some (rO [iI L.n,vl,ve] 25):=(f2 _ (by omega)).trans t1;have g0':=(f3 k.qa (by omega)).trans g0;have g1':=(f3 (k.qa+1) (by omega)).trans t2;simp only[zd,zL,zX,zA,e1,e2,za,n1];refine zfn ?_;have la:zH E 25 k2 (sP k.qa 0)=some (.agg ⟨[iI L.n,vl,ve]⟩):=zZ (P:=E) zDh (o:=0) g0 (by simp);have lb:zH E 25 k2 (some (.pointer (some ⟨k.qa+1,0,none⟩)))=some (.agg ⟨[iI M.n,wl,we]⟩):=zZ (P:=E) zDh (o:=0) t2 (by simp);have dj:=zoY (a:=iI L.n) (b:=vl) (c:=ve) (a':=iI M.n) (b':=wl) (c':=we) (h:=k2);rw[e3] at dj;have dE:=zi5 (h0:=k3) (k:=k3) (v:=.slice (some ⟨k2.qa,0,none⟩) 2 2) (els:=[[iI L.n,vl,ve],[iI M.n,wl,we]]) (Ls:=[L,M])
  (Arr.row (els:=[[iI L.n,vl,ve],[iI M.n,wl,we]]) t3 (by omega) (by simp) (fun i ee aP=>by
   match i with
   | 0=>simp at aP;subst aP;exact⟨rfl,rfl⟩
   | 1=>simp at aP;subst aP;exact⟨rfl,rfl⟩
   | i+2=>simp at aP)) rfl (by simp) (fun i ee LL h1 h2=>by
   match i with
   | 0=>simp at h1 h2;subst h1 h2;exact hx.ext o3.ext
   | 1=>simp at h1 h2;subst h1 h2;exact hy.ext o3.ext
   | i+2=>simp at h1) (Ext.refl o3.ext.ok)
 have bj:zAQ (zMK [L,M]) 2 0=false:=by simp[zAQ,zMK,hL,hM]
 simp only[List.length_cons,List.length_nil,xAK] at dE;rw[show (1+1:Nat)=2 from rfl,bj] at dE;simp only[Bool.false_eq_true,if_false] at dE;simp only[la,lb,zA,dj,zL,zS,dE,zO];refine zfm ?_;simp only[zA1,zA,decide_true,xAL,zi];refine zfl ?_;have hm:zDd kind=true:=by rcases hk with rfl|rfl <;> rfl
 simp only[zS,zWF (a:=kind) o3.ext.ok,hm,zO,zAB,zA,xAL,zi];refine zfk ?_;have n0:zH E 3 k3 (sP k.qa (0+0))=some (iI L.n):=zF (P:=E) zAa (o:=0+0) g0';have n1':zH E 3 k3 (some (.pointer (some ⟨k.qa+1,0+0,none⟩)))=some (iI M.n):=zF (P:=E) zAa (o:=0+0) g1';have c141:=zld (hc.ext o3.ext) (by omega) hl (Ext.refl o3.ext.ok);rw[hv] at c141 ⊢;simp only[zU1,zA3,n0,n1',zA,zAK _ (show zC1 (L.n+M.n) from ⟨by omega,by omega⟩),zA1,hn,decide_true,xAL,zM,zR,xAO,xAG,xAH,zS,c141,zO,zJ,zi];refine zfj ?_;simp only[zAS,zU,true_and];exact o3.wm
def ze7{k:AH}{cf:Value}(aa:k.ok):(zV E).call 248 [.slice none 0 0,iI 0,iI 0,cf] k=some [(.tuple #[],k)]:=by
 refine zTK aa rfl (zMr ?_);rw[zAK _ (a:=0) (b:=1) ⟨by omega,by omega⟩];simp only[zA,Int.zero_add];refine zIW ?_;simp only[zY,zA,show decide ((1:Int)<0)=false from rfl,zi,zNi,zCc,true_and];rw[zAm];omega
def ze9{k:AH}{cf:Value}{n:Int}(aa:k.ok):(zV E).call 221 [.slice none 0 0,iI 0,iI 0,iI n,cf] k=some [(.tuple #[],k)]:=by
 refine zTO aa rfl (zIb (zIa (zIZ ?_)));rw[zG9 _ (a:=0) (b:=0) ⟨by omega,by omega⟩];simp only[zA,Int.sub_self];refine zIY ?_;simp only[zBJ,zA,show decide ((0:Int)<=12)=true from rfl,zy];refine zIX ?_;simp only[zS,ze7 (zAX k),zO,zNi,zU,true_and];rw[zAm];omega
def zQE{k:AH}{cf:Value}(aa:k.ok):(zV E).call 175 [.slice none 0 0,cf] k=some [(.tuple #[],k)]:=by
 refine zTV aa rfl (zNJ ?_);simp only[zA,zJY];refine zNI ?_;obtain⟨l,hl,c93⟩:=zV0 (zAX k) (x:=0) (by omega);simp only[zA,zVn,zNk (show (0:Nat)<18446744073709551616 by omega),zS,c93,zO];rw[show (((0:Nat):Int))=0 from rfl,ze9 (zAX k)];simp only[zO,zNi,zCc,true_and];rw[zAm];omega
def zQD{k:AH}(aa:k.ok):(zV E).call 177 [.slice none 0 0] k=some [(.slice none 0 0,k)]:=by
 refine zTU aa rfl (zNH (zNG ?_));simp only[zJX,zA,zY,show decide (((0:Nat):Int)<2)=true from rfl,zy];refine zNF ?_;simp only[zAS,zU,true_and];rw[zAm];omega
def toL(B:List (Int×Int))(q:Int):List Int:=(B.filter fun p=>decide (p.1=q)).map (·.2)
def zJM(A B:List (Int×Int)):List (Int×Int):=A.flatMap fun p=>(toL B p.2).map fun u=>(p.1,u)
def zjh(B:List (Int×Int))(p:Int×Int):toL (B++[p])=zop (toL B) p.1 p.2:=by
 funext q
 unfold toL zop;rw[List.filter_append,List.map_append];by_cases h:p.1=q
 ·rw[if_pos h.symm];simp[h]
 ·rw[if_neg (fun e=>h e.symm)];simp[h]
def zT8(B:List (Int×Int))(q:Int):(toL B q).length<=B.length:=by
 unfold toL;rw[List.length_map];exact List.length_filter_le _ _
def zPQ(A B:List (Int×Int))(p:Int×Int):zJM (A++[p]) B=zJM A B++(toL B p.2).map fun u=>(p.1,u):=by
 simp[zJM]
def zeg{A B:List (Int×Int)}(i:Nat):(zJM (A.take i) B).length<=(zJM A B).length:=by
 conv=>rhs;rw[← List.take_append_drop i A]
 unfold zJM;rw[List.flatMap_append,List.length_append];omega
def zj8{A B:List (Int×Int)}(p:Int×Int):p∈zJM A B ↔ ∃ t,(p.1,t)∈A/\(t,p.2)∈B:=by
 obtain⟨s,u⟩:=p;simp only[zJM,toL,List.mem_flatMap,List.mem_map,List.mem_filter,decide_eq_true_eq];constructor
 ·rintro⟨⟨a,t⟩,ha,v,⟨⟨b,c⟩,⟨hb,e⟩,rfl⟩,e2⟩;simp only at e e2;simp only[Prod.mk.injEq] at e2;exact⟨t,e2.1 ▸ ha,by rw[← e,← e2.2];exact hb⟩
 ·rintro⟨t,ha,hb⟩;exact⟨(s,t),ha,u,⟨(t,u),⟨hb,rfl⟩,rfl⟩,rfl⟩
def MI.look{lo:Nat}{h:AH}{m:Nat}{f:Int->List Int}(I:MI lo h m f)(q:Int):∃ v,IS lo h v (f q)/\∀ h',h'.get m=h.get m->zBM E 125 false (some (.map (some m))) (some (iI q)) h'=some v:=by
 obtain⟨M,ver,h1,h2,h3,h4⟩:=I.ex;exact⟨_,h3 q,fun h' e=>zUv (e.trans h1) h2 q⟩
def zLP{l:List (Int×Int)}{i:Nat}(h:i<l.length):l.take (i+1)=l.take i++[l[i]]:=by
 rw[List.take_add_one,xAA h];rfl
structure GW(h:AH)(bg:Nat)(SS:List zf):Prop where
 ex:∃ bs cells cp es,h.get bg=some (rO [.slice (some ⟨bs,0,none⟩) cells.length cp] 131)/\bg<h.qa/\h.get bs=some (.row cells 132 es false)/\bs<h.qa/\cells.length=SS.length/\∀(i:Nat) (c:Value) (S:zf),cells[i]?=some c->SS[i]?=some S->CellOK h c S
def GW.ext{h k:AH}{bg:Nat}{SS:List zf}(g:GW h bg SS)(e:Ext h k):GW k bg SS:=by
 obtain⟨bs,cells,cp,es,h1,h2,h3,h4,h5,h6⟩:=g.ex;refine⟨bs,cells,cp,es,(e.get _ h2).trans h1,xAC h2 e.qa,(e.get _ h4).trans h3,xAC h4 e.qa,h5,fun i c S hc hS=>?_⟩;rcases h6 i c S hc hS with a|⟨b,a1,a2,a3⟩
 ·exact .inl a
 ·exact .inr ⟨b,a1,(e.get b a3).trans a2,xAC a3 e.qa⟩
def Sl(lo:Nat)(m:AH)(v:Value)(F:zf):Prop:=(F=[]/\v=.slice none 0 0)\/∃ b rest,v=sl b F.length (UNK+2)/\lo<=b/\b<m.qa/\m.get b=some (.row (F.flatMap zG++rest) 134 2 false)
def zBU(cl:List Int)(u:Int):Int:=(cl[u.toNat]?).getD 0
def zIN(S:zf)(cl:List Int):zf:=S.map fun y=>(y.1,zBU cl y.2)
def zWN{k:AH}{p:Int×Int} :
  zb E 134 (k.new (rO [iI 0,iI 0] 134)) (some (ptr k.qa)) (some (.agg ⟨zG p⟩))=one (undef,(k.new (rO [iI 0,iI 0] 134)).upd k.qa (some (rO (zG p) 134))):=zMI
def zWD{k:AH}{bg s:Nat}{SS:List zf}{S:zf}{v:Value}{cl:List Int}(aa:k.ok)(hg:GW k bg SS)(hS:SS[s]?=some S)(hc:Arr k 1 v (cl.map i1))(hr:∀ y∈S,0<=y.2/\y.2<(cl.length:Int))(gJ:S.length<=900000) :
  Ev true ((zV E).call 129 [ptr bg,v,iI (s:Int)] k) fun x=>∃ F,zCq F/\(∀ p,p∈F ↔ p∈zIN S cl)/\F.length<=S.length/\Sl k.qa x.2 x.1 F/\Fx NoB k x.2:=by
 obtain⟨bs,cells,cp,es,g1,g2,g3,g4,g5,g6⟩:=hg.ex;have ht:s<cells.length:=by rw[g5];exact (List.getElem?_eq_some_iff.1 hS).1
 have aG:cells[s]?=some cells[s]:=xAA ht;have aj:=g6 s _ _ aG hS;have lg:zH E 129 k.qb (sP bg (0+0))=some (.slice (some ⟨bs,0,none⟩) cells.length cp):=zF (P:=E) zEN (o:=0+0) g1;have ia:=zIC (b:=bs) (o:=0) (c:=cp) ht;have ls:=zF (P:=E) zCn (o:=0+s*1) (h:=k.qb) g3;rw[zA2,show 0+s*1=s by omega,aG] at ls;rw[show 0+s*1=s by omega] at ia;obtain⟨ca,cc,bI⟩:=(zCE aj).slice;rw[List.length_map] at bI;by_cases ah:S=[]
 ·subst ah;have:(zV E).call 129 [ptr bg,v,iI (s:Int)] k=some [(.slice none 0 0,k)]:=by
   refine zTX aa rfl (zNT (zNS (zNR ?_)));simp only[zAj,zCY,lg,zA,ia,ls];rw[bI];simp only[zJb,zA];refine zIo ?_;simp only[zY,zA,show decide ((0:Int)<(([]:zf).length:Int))=false from rfl,zi];refine zNQ ?_;simp only[zS,zQE (zAX k),zO];refine zNP ?_;simp only[zS,zQD (zAX k),zO,zAS,zU,true_and];rw[zAm];omega
  rw[this,zO];exact⟨[],List.Pairwise.nil,fun p=>Iff.rfl,xAF _,.inl ⟨rfl,rfl⟩,Fx.refl aa⟩
 refine zd0 (Rp:=fun x m=>∃ F,zCq F/\(∀ p,p∈F ↔ p∈zIN S cl)/\F.length<=S.length/\Sl k.qa m x F/\Fx NoB k m) (zNT (zNS (zNR ?_)));simp only[zAj,zCY,lg,zA,ia,ls];rw[bI];simp only[zJb,zA];rw[← bI];have ex:∀ h,Fx NoB k.qb h->Ext k h:=fun h f=>(f.own (Own.qb k) fun c hc=>hc.elim).ext;have loop:∀(m i:Nat),i+m=S.length->∀ h w,Fx NoB k.qb h->CellOK h w (zIN (S.take i) cl)->(∀ c,zu w c->k.qa<=c)->
   PI (zIr true) (KR E [.tmp 6] fun x m=>(zg x=false\/m.wm<k.qa)/\(fun x m=>∃ F,zCq F/\(∀ p,p∈F ↔ p∈zIN S cl)/\F.length<=S.length/\Sl k.qa m x F/\Fx NoB k m) x ⟨m.t,m.qa,cond (Nat.ble k.wm m.wm) k.wm m.wm⟩) 3 [v,w,cells[s],iI (S.length:Int),iI (i:Int)] h:=by
  intro m
  induction m with
  | zero=>
   intro i hi h w hf hw hb;have hi:i=S.length:=by omega
   subst hi;rw[List.take_length] at hw;refine zIo ?_;simp only[zY,zA,show decide ((S.length:Int)<(S.length:Int))=false from xAI (by omega),zi];refine zNQ ?_;rcases hw with ⟨_,h0⟩|⟨b,rfl,gb,lb⟩
   ·exact absurd (List.map_eq_nil_iff.1 h0) ah
   ·have hl:(zIN S cl).length=S.length:=by simp[zIN]
    simp only[zS];refine (zV9 (c:=UNK+2) (d:=(zIN S cl).toArray) (cm:=zME) (ty:=134) (es:=2) (RowB.of (by simpa[zHD,stc] using gb)) lb hf.ok (n:=(zIN S cl).length) (by simp) (by simp;omega) zi2 zsf).mono ?_;rintro⟨w1,h2⟩ ⟨d',⟨_,hP,j7⟩,R⟩;simp only at hP j7 R ⊢;have hsz:d'.size=(zIN S cl).length:=by rw[R.sz];simp
    refine zNP ?_;simp only[zS];refine (zV8 (d:=d') R.g R.l hsz (by omega)).mono ?_;rintro⟨v2,h3⟩ C;have dm:=C.v;obtain⟨rs,az,eO⟩:=C.row;have fx3:=C.fx;simp only at dm az fx3 ⊢;subst dm;have ir:=hb b ⟨_,_,rfl⟩;have f3:Fx NoB k.qb h3:=(hf.trans R.fx fun c hc=>.inr (by have:c=b:=hc;rw[this];exact ir)).trans fx3 fun c hc=>.inr (by have:c=b:=hc;rw[this];exact ir);have n23:=fx3.qa;have n12:=R.fx.qa;rw[zAS];have fW:PermIn 0 (zIN S cl).toArray.size (zIN S cl).toArray d':=by simpa using hP
    refine⟨zU ▸ trivial,.inl rfl,dd d' d'.size,zIM (by rw[hsz];simpa using j7) _ (xAF _),fun p=>(zi0 d' p).trans ((zPN fW p).trans (by simp)),(by have:=zVj d' d'.size;omega),.inr ⟨b,rs,rfl,ir,by show b<h3.qa;omega,zFD az⟩,f3.back⟩
  | succ m ih=>
   intro i hi h w hf hw hb;have ai:i<S.length:=by omega
   refine zIo ?_;simp only[zY,zA,show decide ((i:Int)<(S.length:Int))=true from xAJ (by omega),zy];refine zcd ?_;have ej:(S.map zG)[i]?=some (zG S[i]):=by rw[List.getElem?_map,xAA ai];rfl
   obtain⟨p,q1,q2⟩:=zPm (zCE aj) (ex h hf) ej;obtain⟨h1,e1,f1,g1',n1⟩:∃ h1,(h.new (rO [iI 0,iI 0] 134)).upd h.qa (some (rO (zG S[i]) 134))=h1/\Fx NoB h h1/\h1.get h.qa=some (rO (zG S[i]) 134)/\h1.qa=h.qa+1:=
    ⟨_,rfl,((Fx.refl hf.ok).new _).upd (.inr (xAF _)) _,zN _ _ _,rfl⟩
   simp only[q1,q2,zNj,zd,zL,zX,zA,zWN,e1];refine zcc ?_;have dY:Fx NoB k.qb h1:=hf.trans f1 fun c hc=>hc.elim;have m0:zH E 3 h1 (sP h.qa (0+0))=some (iI S[i].1):=zF (P:=E) zAa (o:=0+0) g1';have m1:zH E 3 h1 (sP h.qa (0+1))=some (iI S[i].2):=zF (P:=E) zAa (o:=0+1) g1';have d9:=hr S[i] (List.getElem_mem ai);have htn:S[i].2=((S[i].2.toNat:Nat):Int):=by omega
   have ab:S[i].2.toNat<cl.length:=by omega
   obtain⟨pc,r1,r2⟩:=zHF hc (ex h1 dY) (xAA ab);rw[← htn] at r1;have aX:zBU cl S[i].2=cl[S[i].2.toNat]:=by unfold zBU;rw[xAA ab];rfl
   obtain⟨h2,s1,s2,s3,s4⟩:=zFW dY.ok (hw.fx f1 fun _ _ h=>h) (by simp[zIN];omega) S[i].1 cl[S[i].2.toNat];simp only[zDX,zA6,m0,m1,zA,r1,r2,zj7,zln,zL,s1];refine zcb ?_;simp only[zA,zAK _ (zDu ai (by omega))];have hh:h1.qa+1<h2.qa:=by omega
   refine ih (i+1) (by omega) h2 _ (dY.trans s4 fun c hc=>.inr (hb c hc)) ?_ ?_
   ·rw[zLP ai];have e2:zIN (S.take i++[S[i]]) cl=zIN (S.take i) cl++[(S[i].1,cl[S[i].2.toNat])]:=by simp only[zIN,List.map_append,List.map_cons,List.map_nil,aX]
    rw[e2];exact .inr ⟨h1.qa+1,by rw[List.length_append];rfl,s2,hh⟩
   ·rintro c ⟨n,cp,e⟩;simp only[Value.slice.injEq,xAN,Addr.mk.injEq] at e;have:k.qb.qa<=h1.qa:=dY.qa;have e':k.qb.qa=k.qa:=rfl;omega
 exact loop S.length 0 (by omega) k.qb (.slice none 0 0) (Fx.refl (zAX k)) (.inl ⟨rfl,rfl⟩) fun c hc=>by obtain⟨n,cp,e⟩:=hc;cases e
def zFU(SS:List zf):Nat->Nat->List Int->List Int
 | 0,_,L=>L
 | f+1,i,L=>match L[i]? with
  | none=>L
  | some u=>zFU SS f (i+1) (zDN SS L u)
def zLl(SS:List zf)(L:List Int)(u:Int):∃ t,zDN SS L u=L++t:=by
 unfold zDN;split
 ·exact zHT _ L
 ·exact⟨[],by simp⟩
def zQG(SS:List zf):∀(f i:Nat) (L:List Int),∃ t,zFU SS f i L=L++t
 | 0,_,L=>⟨[],by simp[zFU]⟩
 | f+1,i,L=>by
  simp only[zFU];split
  ·exact⟨[],by simp⟩
  ·rename_i u hu;obtain⟨t,ht⟩:=zLl SS L u;obtain⟨t2,h2⟩:=zQG SS f (i+1) (zDN SS L u);exact⟨t++t2,by rw[h2,ht,List.append_assoc]⟩
def zWR{SS:List zf}(hv:zO0 SS):∀(f i:Nat) (L:List Int),L.Nodup->(∀ u∈L,0<=u/\u<(SS.length:Int))->(zFU SS f i L).Nodup/\∀ u∈zFU SS f i L,0<=u/\u<(SS.length:Int)
 | 0,_,L,h1,h2=>⟨h1,h2⟩
 | f+1,i,L,h1,h2=>by
  simp only[zFU];split
  ·exact⟨h1,h2⟩
  ·rename_i u hu;refine zWR hv f (i+1) _ ?_ ?_
   ·unfold zDN;split;exact zEx h1;exact h1
   ·intro x hx;unfold zDN at hx;split at hx
    ·rename_i S hS;rcases zHU hx with h|⟨y,hy,rfl⟩
     ·exact h2 x h
     ·exact (hv.stp _ S hS).2 y hy
    ·exact h2 x hx
def zr5{SS:List zf}{body:Int->Bool}(hv:∀(i:Nat) (S:zf),SS[i]?=some S->∀ y∈S,0<=y.2/\y.2<(SS.length:Int)) :
  ∀(f i:Nat) (L:List Int),L.Nodup->(∀ u∈L,0<=u/\u<(SS.length:Int))->SS.length<=f+i->bfs SS body f i L=((zFU SS f i L).drop i).any body:=by
 intro f
 induction f with
 | zero=>
  intro i L hn hr hf;have:=zAp SS.length L hn hr;simp only[bfs,zFU];rw[List.drop_eq_nil_of_le (by omega)];rfl
 | succ f ih=>
  intro i L hn hr hf;simp only[bfs,zFU];cases hi:L[i]? with
  | none=>
   simp only;rw[List.drop_eq_nil_of_le (by have:=List.getElem?_eq_none_iff.1 hi;omega)];rfl
  | some u=>
   simp only;have bi:=(List.getElem?_eq_some_iff.1 hi).1;rw[ih (i+1) (zDN SS L u) (by unfold zDN;split;exact zEx hn;exact hn) (fun x hx=>by
    unfold zDN at hx;split at hx
    ·rename_i S hS;rcases zHU hx with h|⟨y,hy,rfl⟩
     ·exact hr x h
     ·exact hv _ S hS y hy
    ·exact hr x hx) (by omega)]
   obtain⟨t,ht⟩:=zLl SS L u;obtain⟨t2,h2⟩:=zQG SS f (i+1) (zDN SS L u);have hu:(zFU SS f (i+1) (zDN SS L u))[i]?=some u:=by rw[h2,ht,List.append_assoc,List.getElem?_append_left bi];exact hi
   have jq:=(List.getElem?_eq_some_iff.1 hu).1;rw[List.drop_eq_getElem_cons jq,List.any_cons];have:(zFU SS f (i+1) (zDN SS L u))[i]=u:=by rw[xAA jq] at hu;exact Option.some.inj hu
   rw[this]
structure Exb(b:Nat)(k h:AH):Prop where
 ok:h.ok
 qa:k.qa<=h.qa
 get:∀ c,c<k.qa->c≠b->h.get c=k.get c
def Exb.step{b:Nat}{k h g:AH}(e:Exb b k h)(ok:g.ok)(hn:h.qa<=g.qa)(hg:∀ c,c<k.qa->c≠b->g.get c=h.get c):Exb b k g:=
 ⟨ok,Nat.le_trans e.qa hn,fun c h1 h2=>(hg c h1 h2).trans (e.get c h1 h2)⟩
structure GWB(b:Nat)(h:AH)(bg:Nat)(SS:List zf):Prop where
 ex:∃ bs cells cp es,h.get bg=some (rO [.slice (some ⟨bs,0,none⟩) cells.length cp] 131)/\bg<h.qa/\h.get bs=some (.row cells 132 es false)/\bs<h.qa/\cells.length=SS.length/\(∀(i:Nat) (c:Value) (S:zf),cells[i]?=some c->SS[i]?=some S->CellOK h c S)/\bg≠b/\bs≠b/\∀(i:Nat) (c:Value) (x:Nat),cells[i]?=some c->zu c x->x≠b
abbrev JT:=List Int->(Nat->Prop)->AH->Prop
def zWf(b:Nat)(J:JT):Prop:=∀ vis O (h g:AH),J vis O h->h.qa<=g.qa->(∀ c,O c\/c=b->g.get c=h.get c)->J vis O g
def YdG(b:Nat)(k:AH)(l w0 N:Nat)(J:JT):Prop:=∀ vis O h,vis.length<N->J vis O h->Exb b k h->w0<=h.wm->(∀ c,O c->k.qa<=c/\c<h.qa)->∀ u:Int,0<=u->u<(N:Int)->
 ∃ h' O',(zV E).round l [iI u] h=some [(.bool true,h')]/\Exb b k h'/\h'.wm<=l/\w0<=h'.wm/\h.qa<=h'.qa/\(∀ c,k.qa<=c->c<h.qa->¬ O c->h'.get c=h.get c)/\(∀ c,O' c->(O c\/h.qa<=c)/\c<h'.qa)/\J (vis++[u]) O' h'
structure StG(b:Nat)(k:AH)(w0 m1 N:Nat)(J:JT)(v5:Value)(L:List Int)(vis:List Int)(O:Nat->Prop)(h:AH):Prop where
 ext:Exb b k h
 w:w0<=h.wm
 map:∃ R ver,h.get m1=some (.map (zF7 R) ver)/\R.Nodup/\∀ x,x∈R ↔ x∈L
 mlt:m1<h.qa
 nd:L.Nodup
 bd:∀ x∈L,0<=x/\x<(N:Int)
 ls:LS (m1+1) h v5 L
 om:¬ O m1
 ol:∀ c,zu v5 c->¬ O c
 ob:∀ c,O c->k.qa<=c/\c<h.qa
 j:J vis O h
def StG.keep{b:Nat}{k:AH}{w0 m1 N:Nat}{J:JT}{v5:Value}{L vis:List Int}{O:Nat->Prop}{h g:AH}(st:StG b k w0 m1 N J v5 L vis O h)(hs:zWf b J)(hb:b<k.qa)(ok:g.ok)(w:w0<=g.wm)(hn:h.qa<=g.qa)(hg:∀ c,c<h.qa->g.get c=h.get c):StG b k w0 m1 N J v5 L vis O g:=by
 have df:=st.ext.qa;obtain⟨R,ver,ma,mb⟩:=st.map;exact⟨st.ext.step ok hn fun c h1 _=>hg c (by omega),w,⟨R,ver,(hg _ st.mlt).trans ma,mb⟩,xAC st.mlt hn,st.nd,st.bd,st.ls.mono hn fun c _ h2 _=>hg c h2,st.om,st.ol,fun c hc=>⟨(st.ob c hc).1,by have:=(st.ob c hc).2;omega⟩,
  hs _ _ _ _ st.j hn fun c hc=>hg c (by rcases hc with h|rfl;exact (st.ob c h).2;omega)⟩
def wmB{k h:AH}{w0:Nat}(hw:w0<=k.wm)(st:w0<=h.wm)(ok:h.ok):w0<=cond (Nat.ble k.wm h.wm) k.wm h.wm/\cond (Nat.ble k.wm h.wm) k.wm h.wm<=h.qa+UNK:=by
 unfold AH.ok at ok;cases hc:Nat.ble k.wm h.wm with
 | true=>have:=ble_true.1 hc;simp only[xAG];omega
 | false=>simp only[xAH];omega
def ze8{k:AH}{l bs0 bgp bg w0 b:Nat}{SS:List zf}{J:JT}{t:Int}{ty1 es1 ty2 es2:Nat}{ro1 ro2:Bool}(aa:k.ok)
  (hs:k.get bs0=some (.row [iI t] ty1 es1 ro1)) (iD:bs0<k.qa) (hsb:bs0≠b) (hgp:k.get bgp=some (.row [ptr bg] ty2 es2 ro2)) (cD:bgp<k.qa) (hgb:bgp≠b) (hb:b<k.qa)
  (hG:GWB b k bg SS) (bD:zO0 SS) (iX:0<=t) (gP:t<(SS.length:Int)) (hw:w0<=k.wm) (cY:w0<=k.qa) (hl:l<k.qa) (iM:zWf b J) (hJ0:J [] (fun _=>False) k) (hY:YdG b k l w0 SS.length J) :
  Ev true ((zV E).call 222 [.func (.yield l) #[] #[],ptr bs0,ptr bgp] k) fun x=>x.1=.tuple #[]/\∃ O,J (zFU SS SS.length 0 [t]) O x.2/\Exb b k x.2/\w0<=x.2.wm/\∀ c,O c->k.qa<=c/\c<x.2.qa:=by
 refine zNY (Rp:=fun v m=>v=.tuple #[]/\∃ O,J (zFU SS SS.length 0 [t]) O m/\Exb b k m/\w0<=m.wm/\∀ c,O c->k.qa<=c/\c<m.qa) (zM2 ?_);have e0:Exb b k k.qb:=⟨zAX k,xAF _,fun _ _ _=>rfl⟩;have d8:(k.qb.new (.map [] 0)).get bs0=some (.row [iI t] ty1 es1 ro1):=(zK (by show bs0≠k.qa;omega)).trans hs;have ls1:zH E 3 (k.qb.new (.map [] 0)) (some (ptr bs0))=some (iI t):=zF (P:=E) zAa (o:=0) d8;have m1g:=zI k.qb (.map [] 0);have hu:=zO8 (h:=k.qb.new (.map [] 0)) (R:=[]) (q:=t) m1g List.nodup_nil (by simp);simp only[za] at hu;simp only[zL,ls1,zA,za,hu];refine zM1 ?_;obtain⟨k2,e2,m2,o2,n2,w2,ok2⟩:∃ k2,(k.qb.new (.map [] 0)).upd k.qa (some (.map (zF7 (zFa t [])) (0+1)))=k2/\k2.get k.qa=some (.map (zF7 (zFa t [])) (0+1))/\(∀ c,c<k.qa->k2.get c=k.get c)/\k2.qa=k.qa+1/\w0<=k2.wm/\k2.ok:=
  ⟨_,rfl,zN _ _ _,fun c hc=>(zP (by omega)).trans (zK (by show c≠k.qa;omega)),rfl,zAA (by rw[zCl,zAm];omega) cY,zB8 (zBd (zAX k) _) _ _⟩
 have ls2:zH E 3 k2 (some (ptr bs0))=some (iI t):=zF (P:=E) zAa (o:=0) ((o2 bs0 iD).trans hs);simp only[e2,ls2,zA,zoZ,zL];refine zM0 ?_;have x3:Exb b k (k2.new (rO [iI t] 3)):=⟨zBd ok2 _,by show k.qa<=k2.qa+1;omega,fun c hc _=>(zK (by omega)).trans (o2 c hc)⟩;have st0:StG b k w0 k.qa SS.length J (.slice (some ⟨k2.qa,0,none⟩) 1 1) [t] [] (fun _=>False) (k2.new (rO [iI t] 3)):=
  ⟨x3,w2,⟨[t],0+1,(zK (by omega)).trans m2,by simp,by simp⟩,by show k.qa<k2.qa+1;omega,by simp,fun x hx=>by rw[List.mem_singleton.1 hx];exact⟨iX,gP⟩,⟨k2.qa,1,rfl,by omega,by show k2.qa<k2.qa+1;omega,.inl ⟨rfl,rfl,zI _ _⟩⟩,fun h=>h,fun _ _ h=>h,fun _ h=>h.elim,
   iM _ _ k _ hJ0 x3.qa fun c hc=>by rcases hc with h|rfl;exact h.elim;exact (zK (by omega)).trans (o2 _ hb)⟩
 generalize (k2.new (rO [iI t] 3))=k3 at st0;have fin:∀(L:List Int) (v5:Value) (O:Nat->Prop) (h:AH),StG b k w0 k.qa SS.length J v5 L L O h->h.wm<=l->zFU SS SS.length 0 [t]=L->
   KR E [] (fun v m=>(zg v=false\/m.wm<k.qa)/\(fun v m=>v=.tuple #[]/\∃ O,J (zFU SS SS.length 0 [t]) O m/\Exb b k m/\w0<=m.wm/\∀ c,O c->k.qa<=c/\c<m.qa) v ⟨m.t,m.qa,cond (Nat.ble k.wm m.wm) k.wm m.wm⟩) .normal [] h:=by
  intro L v5 O h st fm hL;simp only[zNi,zCc,true_and];obtain⟨w1,w2⟩:=wmB hw st.w st.ext.ok;refine⟨.inr (by omega),O,?_,⟨w2,st.ext.qa,fun c h1 h2=>st.ext.get c h1 h2⟩,w1,st.ob⟩;rw[hL];exact iM _ _ h _ st.j (xAF _) fun _ _=>rfl
 have loop:∀(f i:Nat) (L:List Int) (v5:Value) (O:Nat->Prop) (h:AH),f+i=SS.length->StG b k w0 k.qa SS.length J v5 L (L.take i) O h->0<L.length->i<=L.length->(i=0\/h.wm<=l)->zFU SS SS.length 0 [t]=zFU SS f i L->
   PI (zEI true) (KR E [] (fun v m=>(zg v=false\/m.wm<k.qa)/\(fun v m=>v=.tuple #[]/\∃ O,J (zFU SS SS.length 0 [t]) O m/\Exb b k m/\w0<=m.wm/\∀ c,O c->k.qa<=c/\c<m.qa) v ⟨m.t,m.qa,cond (Nat.ble k.wm m.wm) k.wm m.wm⟩)) 3 [.func (.yield l) #[] #[],ptr bgp,.map (some k.qa),v5,iI (i:Int)] h:=by
  intro f
  induction f with
  | zero=>
   intro i L v5 O h hf st h0 hi fm hL;have hlen:=zAp _ _ st.nd st.bd;refine zGF ?_;obtain⟨bb,c,hv,h1,h2,h3⟩:=id st.ls;have bi:i=L.length:=by omega
   rw[hv];simp only[zA,zC0,zY,show decide ((i:Int)<(L.length:Int))=false from xAI (by omega),zi];have st':=st;rw[bi,List.take_length] at st';exact fin L v5 O h st' (fm.resolve_left (by omega)) hL
  | succ f ih=>
   intro i L v5 O h hf st h0 hi fm hL;have hlen:=zAp _ _ st.nd st.bd;refine zGF ?_;obtain⟨bb,c,hv,h1,h2,h3⟩:=id st.ls;by_cases hiL:i<L.length
   ·have hq:PI (zEI true) (KR E [] (fun v m=>(zg v=false\/m.wm<k.qa)/\(fun v m=>v=.tuple #[]/\∃ O,J (zFU SS SS.length 0 [t]) O m/\Exb b k m/\w0<=m.wm/\∀ c,O c->k.qa<=c/\c<m.qa) v ⟨m.t,m.qa,cond (Nat.ble k.wm m.wm) k.wm m.wm⟩)) 4 [.func (.yield l) #[] #[],ptr bgp,.map (some k.qa),v5,iI (i:Int)] h:=by
     refine zMz ?_;obtain⟨x3,e3,x4,e4,rfl⟩:=st.ls.at hiL;obtain⟨u0,u1⟩:=st.bd L[i] (List.getElem_mem hiL);obtain⟨h',O',y1,y2,y3,y4,y5,y6,y7,y8⟩:=hY _ O h (by rw[List.length_take];omega) st.j st.ext st.w st.ob L[i] u0 u1;simp only[zA,e3,e4,zHa,List.nil_append,y1,zO,zAB,xAL,zi];have st1:StG b k w0 k.qa SS.length J v5 L (L.take i++[L[i]]) O' h':=by
      obtain⟨R,ver,ma,mb⟩:=st.map;refine⟨y2,y4,⟨R,ver,(y6 _ (xAF _) st.mlt st.om).trans ma,mb⟩,xAC st.mlt y5,st.nd,st.bd,st.ls.mono y5 fun c hc1 hc2 hc3=>y6 c (by omega) hc2 (st.ol c hc3),fun ho=>?_,fun c hc ho=>?_,fun c hc=>?_,y8⟩
      ·rcases (y7 _ ho).1 with h|h
       ·exact st.om h
       ·have:=st.mlt;omega
      ·obtain⟨bx,cx,ex,_,hx2,_⟩:=st.ls.ex;rcases (y7 _ ho).1 with h|h
       ·exact st.ol c hc h
       ·obtain⟨n',c',he⟩:=hc;rw[ex] at he;simp only[Value.slice.injEq,xAN,Addr.mk.injEq] at he;omega
      ·have:=y7 c hc;have df:=st.ext.qa;rcases this.1 with h|h
       ·exact⟨(st.ob c h).1,this.2⟩
       ·exact⟨by omega,this.2⟩
     refine zMy ?_;have ik:=(st1.ext.get bgp cD hgb).trans hgp;obtain⟨x3,e3,x4,e4,rfl⟩:=st1.ls.at hiL;obtain⟨s,aQ⟩:=Int.eq_ofNat_of_zero_le u0;have ja:s<SS.length:=by omega
     have eZ:SS[s]?=some SS[s]:=xAA ja;obtain⟨bs,cells,cp,es,g1,g2,g3,g4,g5,g6,gb1,gb2,gb3⟩:=hG.ex;have cZ:s<cells.length:=by rw[g5];exact ja
     have aM:cells[s]?=some cells[s]:=xAA cZ;have q0:zH E 128 h' (some (ptr bgp))=some (ptr bg):=zF (P:=E) zCJ (o:=0) ik;have q1:zH E 129 h' (sP bg (0+0))=some (.slice (some ⟨bs,0,none⟩) cells.length cp):=zF (P:=E) zEN (o:=0+0) ((st1.ext.get bg g2 gb1).trans g1);have q3:=zF (P:=E) zCn (o:=0+s*1) ((st1.ext.get bs g4 gb2).trans g3);rw[zA2,show 0+s*1=s by omega,aM] at q3;have ia:=zIC (b:=bs) (o:=0) (c:=cp) cZ;rw[show 0+s*1=s by omega] at ia;have aj:=g6 s _ _ aM eZ;obtain⟨ca,cc,aY⟩:=(zCE aj).slice;rw[List.length_map] at aY;have av:=zCE aj;rw[aY] at q3 av;rw[aQ] at e4;obtain⟨gK,hS2⟩:=bD.stp s _ eZ;simp only[q0,zA,zAj,zCY,q1,e3,e4,ia,q3,zH9];have dN:zDN SS L L[i]=(SS[s]).foldl zDa L:=by
      unfold zDN;rw[aQ];simp[eZ]
     have hbf:zFU SS (f+1) i L=zFU SS f (i+1) (zDN SS L L[i]):=by simp only[zFU,xAA hiL]
     generalize hK:(KR E [] (fun v m=>(zg v=false\/m.wm<k.qa)/\(fun v m=>v=.tuple #[]/\∃ O,J (zFU SS SS.length 0 [t]) O m/\Exb b k m/\w0<=m.wm/\∀ c,O c->k.qa<=c/\c<m.qa) v ⟨m.t,m.qa,cond (Nat.ble k.wm m.wm) k.wm m.wm⟩))=K at ih ⊢;have steps:∀(r j:Nat) (L':List Int) (v5':Value) (g:AH),r+j=(SS[s]).length->StG b k w0 k.qa SS.length J v5' L' (L.take i++[L[i]]) O' g->(∃ tl,L'=L++tl)->g.wm<=l->((SS[s]).drop j).foldl zDa L'=(SS[s]).foldl zDa L->
       PI (zEI true) K 6 [.func (.yield l) #[] #[],ptr bgp,.map (some k.qa),v5',iI (i:Int),.slice ca (SS[s]).length cc,iI ((SS[s]).length:Int),iI (j:Int)] g:=by
      intro r
      induction r with
      | zero=>
       intro j L' v5' g hr sg hpre hgw an;refine zGE ?_;simp only[zY,zA,show decide ((j:Int)<((SS[s]).length:Int))=false from xAI (by omega),zi];refine zKA ?_;have ij:zC1 ((i:Int)+1):=zKn (by omega) (by have:=bD.len;omega);simp only[zA,zAK _ ij];obtain⟨tl,rfl⟩:=hpre;have hv:L.take i++[L[i]]=(L++tl).take (i+1):=by
        rw[List.take_append_of_le_length (by omega),List.take_add_one,xAA hiL];rfl
       rw[hv] at sg;refine ih (i+1) (L++tl) v5' O' g (by omega) sg (by simp;omega) (by simp;omega) (.inr hgw) (hL.trans (hbf.trans ?_));rw[dN,← an,List.drop_eq_nil_of_le (by omega)];rfl
      | succ r ihr=>
       intro j L' v5' g hr sg hpre hgw an;have fK:j<(SS[s]).length:=by omega
       refine zGE ?_;simp only[zY,zA,show decide ((j:Int)<((SS[s]).length:Int))=true from xAJ (by omega),zy];refine zMx ?_;have eW:((SS[s]).map zG)[j]?=some (zG (SS[s])[j]):=by simp[fK]
       obtain⟨b',o',c',vs',ty',es',ro',ay,ao,aD,bt,bB,bE⟩:=av.load eW;simp only[Value.slice.injEq] at ay;obtain⟨a9,_,_⟩:=ay;subst a9;have iw:b'≠b:=by
        rcases aj with ⟨e,_⟩|⟨bq,e,_⟩
        ·rw[e] at aY;cases aY
        ·have e2:bq=b':=by
          have:=e.symm.trans aY;simp only[Value.slice.injEq,xAN,Addr.mk.injEq] at this;exact this.1.1
         exact gb3 s _ b' aM ⟨_,_,e2 ▸ e⟩
       have gb':=(sg.ext.get b' aD iw).trans ao;obtain⟨xt0,xtN⟩:=hS2 (SS[s])[j] (List.getElem_mem fK);have hdr:=zL3 (L:=L') fK;rw[hdr] at an;generalize (SS[s])[j]=x at bB xt0 xtN an;simp only[zv fK,zA,zZ zEM gb' bt,bB,zNj,zd,zL,zX,zMI];refine zMw ?_;have hgn:=sg.ext.qa;have w5:w0<=((g.new (rO [iI 0,iI 0] 134)).upd g.qa (some (rO (zG x) 134))).wm:=zAA sg.w (by omega);have v5w:((g.new (rO [iI 0,iI 0] 134)).upd g.qa (some (rO (zG x) 134))).wm<=l:=Nat.le_trans (zCm _ _ _).1 hgw;have x5:((g.new (rO [iI 0,iI 0] 134)).upd g.qa (some (rO (zG x) 134))).get g.qa=some (rO (zG x) 134):=zN _ _ _;have n5:((g.new (rO [iI 0,iI 0] 134)).upd g.qa (some (rO (zG x) 134))).qa=g.qa+1:=rfl;have s5:=sg.keep iM hb (g:=(g.new (rO [iI 0,iI 0] 134)).upd g.qa (some (rO (zG x) 134))) (zB8 (zBd sg.ext.ok _) _ _) w5 (by omega) (fun c hc=>(zP (by omega)).trans (zK (by omega)));generalize ((g.new (rO [iI 0,iI 0] 134)).upd g.qa (some (rO (zG x) 134)))=g5 at x5 w5 v5w n5 s5;have y0:zH E 3 g5 (sP g.qa (0+0))=some (iI x.1):=zF (P:=E) zAa (o:=0+0) x5;have y1:zH E 3 g5 (sP g.qa (0+1))=some (iI x.2):=zF (P:=E) zAa (o:=0+1) x5;obtain⟨R,ver,mg,mnd,mmem⟩:=s5.map;have cG:decide (x.2∈R)=decide (x.2∈L'):=decide_eq_decide.2 (mmem x.2);have ig:zC1 ((j:Int)+1):=zKn (by omega) (by omega);have skip:∀ g' v6 L'',StG b k w0 k.qa SS.length J v6 L'' (L.take i++[L[i]]) O' g'->(∃ tl,L''=L++tl)->g'.wm<=l->((SS[s]).drop (j+1)).foldl zDa L''=(SS[s]).foldl zDa L->
         PI (zEI true) K 11 [.func (.yield l) #[] #[],ptr bgp,.map (some k.qa),v6,iI (i:Int),.slice (some ⟨b',o',none⟩) (SS[s]).length cc,iI ((SS[s]).length:Int),iI (j:Int)] g':=by
        intro g' v6 L'' s6 hl6 hw6 hf6;refine zKB ?_;simp only[zAK _ ig,zA];exact ihr (j+1) L'' v6 g' (by omega) s6 hl6 hw6 hf6
       simp only[zDX,zA6,y0,y1,zA,zAd,zM,zGT mg mnd,cG];by_cases dS:x.1=0
       ·by_cases cX:x.2∈L'
        ·have:zDa L' x=L':=by unfold zDa;simp[cX]
         rw[this] at an;simp only[dS,cX,decide_true,xAO,xAG,zA,zA6,y1,zGT mg mnd,cG,zAB,zJ,xAL,zi];exact skip g5 v5' L' s5 hpre v5w an
        ·have eY:zDa L' x=L'++[x.2]:=by unfold zDa;simp[cX,dS]
         rw[eY] at an;simp only[dS,cX,decide_true,decide_false,xAO,xAG,zA,zA6,y1,zGT mg mnd,cG,zAB,zJ,xAM,zy];refine zMv ?_;have iQ:x.2 ∉ R:=fun h=>cX ((mmem _).1 h);simp only[zA6,y1,zA,zO8 mg mnd iQ,zL];refine zKC ?_;have hkn5:=s5.ext.qa;obtain⟨g6,e6,m6,o6,n6,w6,v6w,k6⟩:∃ g6,g5.upd k.qa (some (.map (zF7 (zFa x.2 R)) (ver+1)))=g6/\g6.get k.qa=some (.map (zF7 (zFa x.2 R)) (ver+1))/\(∀ c,c≠k.qa->g6.get c=g5.get c)/\g6.qa=g5.qa/\w0<=g6.wm/\g6.wm<=l/\g6.ok:=
          ⟨_,rfl,zN _ _ _,fun c hc=>zP hc,rfl,zAA s5.w cY,Nat.le_trans (zCm _ _ _).1 v5w,zB8 s5.ext.ok _ _⟩
         rw[e6];have aN:=sg.mlt;have x6:g6.get g.qa=some (rO (zG x) 134):=(o6 _ (by omega)).trans x5;have y6':zH E 3 g6 (sP g.qa (0+1))=some (iI x.2):=zF (P:=E) zAa (o:=0+1) x6;have l6:LS (k.qa+1) g6 v5' L':=s5.ls.mono (Nat.le_of_eq n6.symm) (fun c h1 h2 _=>o6 c (by omega));have l7:LS (k.qa+1) (g6.new (rO [iI x.2] 3)) v5' L':=l6.mono (by simp) (fun c h1 h2 _=>zK (by omega));have r7:=zI g6 (rO [iI x.2] 3);have hL9:L'.length<=999999:=by have:=zAp _ _ s5.nd s5.bd;have:=bD.len;omega
         obtain⟨v8,g8,a1,a2,a3,a4,a5,a6,a7,a8⟩:=l7.app hL9 r7;simp only[zA6,y6',zA,zoZ,zL,a1];have n7:(g6.new (rO [iI x.2] 3)).qa=g6.qa+1:=rfl;obtain⟨bl,cl,aT,cO,dy,_⟩:=l7.ex;have k8:g8.ok:=a6 (zBd k6 _);have kp:∀ c,c<g5.qa->c≠k.qa->¬ zu v5' c->g8.get c=g5.get c:=fun c h1 h2 h3=>(a5 c (by omega) h3).trans ((zK (by omega)).trans (o6 c h2));have bR:∀ c,c<=k.qa->¬ zu v5' c:=by
          rintro c hc ⟨n',c',he⟩;rw[aT] at he;simp only[Value.slice.injEq,xAN,Addr.mk.injEq] at he;omega
         have m8:g8.get k.qa=some (.map (zF7 (zFa x.2 R)) (ver+1)):=(a5 _ (by omega) (bR _ (xAF _))).trans ((zK (by omega)).trans m6);have s8:StG b k w0 k.qa SS.length J v8 (L'++[x.2]) (L.take i++[L[i]]) O' g8:=by
          refine⟨s5.ext.step k8 (by omega) fun c h1 h2=>kp c (by omega) (by omega) (bR c (by omega)),a8 w0 (by rw[zCl];exact w6) (by omega),⟨zFa x.2 R,ver+1,m8,zGc mnd iQ,fun y=>?_⟩,by omega,?_,?_,?_,s5.om,?_,fun c hc=>⟨(s5.ob c hc).1,by have:=(s5.ob c hc).2;omega⟩,?_⟩
          ·rw[zHQ,mmem];simp only[List.mem_append,xAE];exact Or.comm
          ·rw[← eY];exact zGq s5.nd x
          ·intro y hy;rcases List.mem_append.1 hy with hy|hy
           ·exact s5.bd y hy
           ·rw[List.mem_singleton.1 hy];exact⟨xt0,xtN⟩
          ·exact⟨_,UNK+1,by rw[a2];simp,by omega,by omega,.inr ⟨rfl,a4⟩⟩
          ·rintro c ⟨n',c',he⟩ ho;rw[a2] at he;simp only[Value.slice.injEq,xAN,Addr.mk.injEq] at he;have:=(s5.ob c ho).2;omega
          ·refine iM _ _ g5 _ s5.j (by omega) fun c hc=>?_;rcases hc with h|rfl
           ·exact kp c (s5.ob c h).2 (fun e=>s5.om (e ▸ h)) fun ao=>s5.ol c ao h
           ·exact kp c (by omega) (by omega) (bR c (by omega))
         obtain⟨tl,htl⟩:=hpre;exact skip g8 v8 _ s8 ⟨tl++[x.2],by rw[htl,List.append_assoc]⟩ (Nat.le_trans a7 (by rw[zCl];exact v6w)) an
       ·have:zDa L' x=L':=by unfold zDa;simp[dS]
        rw[this] at an;simp only[dS,decide_false,show (false==true)=false from rfl,xAH,zA,zJ,zi];exact skip g5 v5' L' s5 hpre v5w an
     exact steps (SS[s]).length 0 L v5 h' (by omega) st1 ⟨[],by simp⟩ y3 (by simp)
    rw[hv] at hq ⊢;simp only[zA,zC0,zY,show decide ((i:Int)<(L.length:Int))=true from xAJ (by omega),zy];exact hq
   ·have bi:i=L.length:=by omega
    rw[hv];simp only[zA,zC0,zY,show decide ((i:Int)<(L.length:Int))=false from xAI (by omega),zi];have st':=st;rw[bi,List.take_length] at st';refine fin L v5 O h st' (fm.resolve_left (by omega)) (hL.trans ?_);simp only[zFU,List.getElem?_eq_none (by omega:L.length<=i)]
 exact loop SS.length 0 [t] _ _ _ (by omega) st0 (by simp) (by simp) (.inl rfl) rfl
end Go.Proofs
namespace Go.Proofs
open Go Go.AM
inductive SilT(T:Int->Int->Int->Prop)(u:Int):Int->Prop
 | refl:SilT T u u
 | step {v w:Int} (h:SilT T u v) (e:T v 0 w):SilT T u w
def SilT.trans{T:Int->Int->Int->Prop}{u v w:Int}(a:SilT T u v)(b:SilT T v w):SilT T u w:=by
 induction b with
 | refl=>exact a
 | step _ e ih=>exact .step ih e
def zNe(T:Int->Int->Int->Prop)(cl:Int->Int)(kind u n k:Int):Prop:=
 if kind=1 then ∃ v,T u n v/\cl v=k else ∃ w v,SilT T u w/\cl w=cl u/\T w n v/\cl v=k/\¬ (n=0/\k=cl u)
def zsr(T:Int->Int->Int->Prop)(cl:Int->Int)(kind:Int)(u v:Int):Prop:=∀ n u',T u n u'->
 if kind=1 then ∃ v',T v n v'/\cl u'=cl v' else ∃ w,SilT T v w/\cl u=cl w/\((n=0/\cl u'=cl w)\/∃ v',T w n v'/\cl u'=cl v')
section
variable {T:Int->Int->Int->Prop} {cl:Int->Int} {ok:Int->Prop} {sd:Int->Bool} {kind:Int}
def zPJ(hT:∀ u n v,ok u->T u n v->ok v/\sd v=sd u){u v:Int}(hu:ok u)(h:SilT T u v):ok v/\sd v=sd u:=by
 induction h with
 | refl=>exact⟨hu,rfl⟩
 | step _ e ih=>obtain⟨a,b⟩:=hT _ _ _ ih.1 e;exact⟨a,b.trans ih.2⟩
def zny(hT:∀ u n v,ok u->T u n v->ok v/\sd v=sd u)(hp:∀ u,ok u->∃ v,ok v/\sd v≠sd u/\cl v=cl u) :
  (∀ u v,ok u->ok v->sd u≠sd v->cl u=cl v->zsr T cl kind u v) ↔ ∀ u v,ok u->ok v->cl u=cl v->∀ n k,zNe T cl kind u n k->zNe T cl kind v n k:=by
 constructor
 ·intro h;have opp:∀ u v,ok u->ok v->sd u≠sd v->cl u=cl v->∀ n k,zNe T cl kind u n k->zNe T cl kind v n k:=by
   intro u v hu hv hs hc n k hk;unfold zNe at hk ⊢;by_cases h1:kind=1
   ·rw[if_pos h1] at hk ⊢;obtain⟨u',e,e2⟩:=hk;have:=h u v hu hv hs hc n u' e;rw[if_pos h1] at this;obtain⟨v',a,b⟩:=this;exact⟨v',a,b.symm.trans e2⟩
   ·rw[if_neg h1] at hk ⊢;obtain⟨w,x,a1,a2,a3,a4,a5⟩:=hk;have stut:∀ w,SilT T u w->∃ y,SilT T v y/\cl w=cl y:=by
     intro w hw
     induction hw with
     | refl=>exact⟨v,.refl,hc⟩
     | @step p q hp' e ih=>
      obtain⟨y,i1,i2⟩:=ih;obtain⟨p1,p2⟩:=zPJ hT hu hp';obtain⟨y1,y2⟩:=zPJ hT hv i1;have:=h p y p1 y1 (by rw[p2,y2];exact hs) i2 0 q e;rw[if_neg h1] at this;obtain⟨z,z1,z2,z3⟩:=this;rcases z3 with ⟨_,z3⟩|⟨z',z3,z4⟩
      ·exact⟨z,i1.trans z1,z3⟩
      ·exact⟨z',.step (i1.trans z1) (z3),z4⟩
    obtain⟨y,y1,y2⟩:=stut w a1;obtain⟨w1,w2⟩:=zPJ hT hu a1;obtain⟨yo,yd⟩:=zPJ hT hv y1;have:=h w y w1 yo (by rw[w2,yd];exact hs) y2 n x a3;rw[if_neg h1] at this;obtain⟨z,z1,z2,z3⟩:=this;rcases z3 with ⟨z4,z3⟩|⟨z',z3,z4⟩
    ·exact absurd ⟨z4,by rw[← a4,z3,← z2,a2]⟩ a5
    ·exact⟨z,z',y1.trans z1,by rw[← z2,a2,hc],z3,by rw[← z4,a4],by rw[← hc];exact a5⟩
  intro u v hu hv hc n k hk;by_cases hs:sd u=sd v
  ·obtain⟨w,w1,w2,w3⟩:=hp u hu;exact opp w v w1 hv (by rw[← hs];exact w2) (w3.trans hc) n k (opp u w hu w1 (fun e=>w2 e.symm) w3.symm n k hk)
  ·exact opp u v hu hv hs hc n k hk
 ·intro h u v hu hv _ hc n u' e;have:=h u v hu hv hc n (cl u');unfold zNe at this;by_cases h1:kind=1
  ·rw[if_pos h1] at this ⊢;rw[if_pos h1] at this;obtain⟨v',a,b⟩:=this ⟨u',e,rfl⟩;exact⟨v',a,b.symm⟩
  ·rw[if_neg h1] at this ⊢;rw[if_neg h1] at this;by_cases h0:n=0/\cl u'=cl u
   ·exact⟨v,.refl,hc,.inl ⟨h0.1,h0.2.trans hc⟩⟩
   ·obtain⟨w,v',a1,a2,a3,a4,_⟩:=this ⟨u,u',.refl,rfl,e,rfl,h0⟩;exact⟨w,a1,by rw[a2,hc],.inr ⟨v',a3,a4.symm⟩⟩
end
def wst(SS:List zf)(u n v:Int):Prop:=0<=u/\∃ S,SS[u.toNat]?=some S/\(n,v)∈S
def zqt(SS:List zf):Prop:=∀(i:Nat) (S:zf),SS[i]?=some S->∀ y∈S,0<=y.2/\y.2<(SS.length:Int)
def zfF{TT:List zf}(vld:zqt TT){body:Int->Bool}{t:Int}(ht:0<=t/\t<(TT.length:Int)) :
  bfs TT body TT.length 0 [t]=true ↔ ∃ u,SilT (wst TT) t u/\body u=true:=by
 constructor
 ·intro h;obtain⟨u,hu,hb⟩:=zlv (P:=fun u=>SilT (wst TT) t u/\0<=u) (fun u hu S hS y hy h0=>
   ⟨.step hu.1 ⟨hu.2,S,hS,by rw[← h0];exact hy⟩,(vld _ S hS y hy).1⟩) _ _ _ (fun u hu=>by rw[List.mem_singleton.1 hu];exact⟨.refl,ht.1⟩) h
  exact⟨u,hu.1,hb⟩
 ·rintro⟨u,hu,hb⟩;rcases Bool.eq_false_or_eq_true (bfs TT body TT.length 0 [t]) with h|h
  ·exact h
  ·obtain⟨l',h1,h2⟩:=zWQ vld _ 0 [t] (by simp) (fun u hu=>by rw[List.mem_singleton.1 hu];omega) (by omega) (fun j u hj=>by omega) h;have:∀ u,SilT (wst TT) t u->u∈l':=by
    intro u hu
    induction hu with
    | refl=>exact h1 t (by simp)
    | @step v w hv e ih=>
     obtain⟨S,hS,hm⟩:=e.2;exact (h2 v ih).2 S hS _ hm rfl
   have:=(h2 u (this u hu)).1;rw[this] at hb;cases hb
def zPX{TT:List zf}(vld:zqt TT){t x:Int}(ht:0<=t/\t<(TT.length:Int)) :
  x∈zFU TT TT.length 0 [t] ↔ SilT (wst TT) t x:=by
 have h:=zfF vld (body:=fun u=>decide (u=x)) ht;rw[zr5 vld _ 0 [t] (by simp) (fun u hu=>by rw[List.mem_singleton.1 hu];omega) (by omega),List.drop_zero,List.any_eq_true] at h;constructor
 ·intro hx;obtain⟨u,hu,e⟩:=h.1 ⟨x,hx,xAJ rfl⟩;exact of_decide_eq_true e ▸ hu
 ·intro hx;obtain⟨u,hu,e⟩:=h.2 ⟨x,hx,xAJ rfl⟩;exact of_decide_eq_true e ▸ hu
def Emb(T:Int->Int->Int->Prop)(A:GL)(a:Int)(cs:List CL):Prop:=∀ s,0<=s->s<A.n->∀ n v,T (a+s) n v ↔ ∃ c s',stp A s c s'/\v=a+s'/\n=zAh cs c
def zkC{L M:GL}{cs:List CL}(c1:zCr cs)(c2:∀ c∈L.labs,c.1≠-1->c∈cs)(c3':∀ c∈M.labs,c.1≠-1->c∈cs)(hL:zx L=false)(hM:zx M=false){c d:CL}(hc:c∈L.labs)(hd:d∈M.labs)(e:zAh cs d=zAh cs c):d=c:=by
 rcases zLj c1 (c3' d hd) (c2 c hc) e with ⟨e1,e2⟩|e
 ·obtain⟨i,hi⟩:=List.getElem?_of_mem hd;obtain⟨j,hj⟩:=List.getElem?_of_mem hc;have a1:=zFw hM hi e1;have a2:=zFw hL hj e2;obtain⟨g1,l1⟩:=d;obtain⟨g2,l2⟩:=c;simp only at e1 e2 a1 a2;rw[e1,e2,a1,a2]
 ·exact e
section
variable {T:Int->Int->Int->Prop} {cl:Int->Int} {kind:Int} {A B:GL} {a b:Int} {cs:List CL}
def zUN(hA:zx A=false)(E:Emb T A a cs){s v:Int}(h0:0<=s)(h1:s<A.n):SilT T (a+s) v ↔ ∃ s',v=a+s'/\Sil A s s':=by
 constructor
 ·intro h
  induction h with
  | refl=>exact⟨s,rfl,.refl⟩
  | step _ e ih=>
   obtain⟨t,rfl,ht⟩:=ih;have:=ht.rng hA ⟨h0,h1⟩;obtain⟨c,s',h,e2,e3⟩:=(E t this.1 this.2 _ _).1 e;exact⟨s',e2,.step ht h (num_zero.1 e3.symm)⟩
 ·rintro⟨s',rfl,h⟩
  induction h with
  | refl=>exact .refl
  | @step t u c ht e hc ih=>
   have:=ht.rng hA ⟨h0,h1⟩;exact .step ih ((E t this.1 this.2 _ _).2 ⟨c,u,e,rfl,(num_zero.2 hc).symm⟩)
def zVV(c1:zCr cs)(c2:∀ c∈A.labs,c.1≠-1->c∈cs)(c3':∀ c∈B.labs,c.1≠-1->c∈cs)(hA:zx A=false)(hB:zx B=false)(EA:Emb T A a cs)(EB:Emb T B b cs){R:List (Int×Int)}
  (hR:∀ s t,(s,t)∈R ↔ (0<=s/\s<A.n)/\(0<=t/\t<B.n)/\cl (a+s)=cl (b+t)) :
  Fol kind A B R ↔ ∀ s t,(0<=s/\s<A.n)->(0<=t/\t<B.n)->cl (a+s)=cl (b+t)->zsr T cl kind (a+s) (b+t):=by
 constructor
 ·intro h s t hs ht hc n u' e;obtain⟨c,s',e1,rfl,rfl⟩:=(EA s hs.1 hs.2 _ _).1 e;have:=h s t c s' ((hR s t).2 ⟨hs,ht,hc⟩) e1;by_cases h1:kind=1
  ·rw[if_pos h1] at this ⊢;obtain⟨t',a1,a2⟩:=this;exact⟨b+t',(EB t ht.1 ht.2 _ _).2 ⟨c,t',a1,rfl,rfl⟩,((hR s' t').1 a2).2.2⟩
  ·rw[if_neg h1] at this ⊢;obtain⟨u,a1,a2,a3⟩:=this;have hu:=a1.rng hB ht;refine⟨b+u,(zUN hB EB ht.1 ht.2).2 ⟨u,rfl,a1⟩,((hR s u).1 a2).2.2,?_⟩;rcases a3 with ⟨a3,a4⟩|⟨t',a3,a4⟩
   ·exact .inl ⟨num_zero.2 a3,((hR s' u).1 a4).2.2⟩
   ·exact .inr ⟨b+t',(EB u hu.1 hu.2 _ _).2 ⟨c,t',a3,rfl,rfl⟩,((hR s' t').1 a4).2.2⟩
 ·intro h s t c s' af e;obtain⟨hs,ht,hc⟩:=(hR s t).1 af;obtain⟨_,aQ,dD⟩:=zCi hA e;have:=h s t hs ht hc (zAh cs c) (a+s') ((EA s hs.1 hs.2 _ _).2 ⟨c,s',e,rfl,rfl⟩);have back:∀ u,(0<=u/\u<B.n)->(∃ v',T (b+u) (zAh cs c) v'/\cl (a+s')=cl v')->∃ t',stp B u c t'/\(s',t')∈R:=by
   rintro u hu ⟨v',h1,h2⟩;obtain⟨d,t',e1,rfl,e2⟩:=(EB u hu.1 hu.2 _ _).1 h1;have hd:=zCi hB e1;have:=zkC c1 c2 c3' hA hB dD hd.2.2 e2.symm;subst this;exact⟨t',e1,(hR s' t').2 ⟨aQ,hd.2.1,h2⟩⟩
  by_cases h1:kind=1
  ·rw[if_pos h1] at this ⊢;exact back t ht this
  ·rw[if_neg h1] at this ⊢;obtain⟨w,a1,a2,a3⟩:=this;obtain⟨u,rfl,b1⟩:=(zUN hB EB ht.1 ht.2).1 a1;have hu:=b1.rng hB ht;refine⟨u,b1,(hR s u).2 ⟨hs,hu,a2⟩,?_⟩;rcases a3 with ⟨a3,a4⟩|a3
   ·exact .inl ⟨num_zero.1 a3,(hR s' u).2 ⟨aQ,hu,a4⟩⟩
   ·exact .inr (back u hu a3)
end
def shS(n:Int)(S:zf):zf:=S.map fun y=>(y.1,y.2+n)
def zLI(SL SM:List zf)(n:Int):List zf:=SL++SM.map (shS n)
section
variable {L M:GL} {cs:List CL} {kind:Int} {cl:Int->Int}
abbrev SSW(L M:GL)(cs:List CL):List zf:=zLI (zAT (L.labs.map (zAh cs)) L) (zAT (M.labs.map (zAh cs)) M) L.n
def zoF(hL:zx L=false):Emb (wst (SSW L M cs)) L 0 cs:=by
 intro s h0 h1 n v;have hlen:=zAw (L.labs.map (zAh cs)) L;obtain⟨S,hS⟩:∃ S,(zAT (L.labs.map (zAh cs)) L)[s.toNat]?=some S:=⟨_,xAA (by omega)⟩;have hW:(SSW L M cs)[s.toNat]?=some S:=by
  unfold SSW zLI;rw[List.getElem?_append_left (by omega)];exact hS
 rw[Int.zero_add];constructor
 ·rintro⟨_,S',fl,hm⟩;rw[hW] at fl;cases fl;obtain⟨c,e1,e2⟩:=(zBS hL h0 hS n v).1 hm;exact⟨c,v,e1,by omega,e2⟩
 ·rintro⟨c,s',e1,e2,e3⟩;rw[Int.zero_add] at e2;subst e2;exact⟨h0,S,hW,(zBS hL h0 hS n v).2 ⟨c,e1,e3⟩⟩
def zoE(hL:zx L=false)(hM:zx M=false):Emb (wst (SSW L M cs)) M L.n cs:=by
 intro s h0 h1 n v;obtain⟨l1,l2,_⟩:=zAV hL;have hlen:=zAw (L.labs.map (zAh cs)) L;have hlen2:=zAw (M.labs.map (zAh cs)) M;obtain⟨S,hS⟩:∃ S,(zAT (M.labs.map (zAh cs)) M)[s.toNat]?=some S:=⟨_,xAA (by omega)⟩;have hW:(SSW L M cs)[(L.n+s).toNat]?=some (shS L.n S):=by
  unfold SSW zLI;rw[List.getElem?_append_right (by omega),List.getElem?_map,show (L.n+s).toNat-(zAT (L.labs.map (zAh cs)) L).length=s.toNat by omega,hS];rfl
 constructor
 ·rintro⟨_,S',fl,hm⟩;rw[hW] at fl;cases fl;obtain⟨⟨n1,v1⟩,hy,e⟩:=List.mem_map.1 hm;simp only[Prod.mk.injEq] at e;obtain⟨c,e1,e2⟩:=(zBS hM h0 hS n1 v1).1 hy;exact⟨c,v1,e1,by omega,by rw[← e.1];exact e2⟩
 ·rintro⟨c,s',e1,rfl,e3⟩;exact⟨by omega,_,hW,List.mem_map.2 ⟨(n,s'),(zBS hM h0 hS n s').2 ⟨c,e1,e3⟩,by simp[Int.add_comm]⟩⟩
def zLH:(SSW L M cs).length=L.n.toNat+M.n.toNat:=by
 unfold SSW zLI;rw[List.length_append,List.length_map,zAw,zAw]
def zTw(hL:zx L=false)(hM:zx M=false):zqt (SSW L M cs):=by
 intro i S hS y hy;obtain⟨l1,l2,_⟩:=zAV hL;obtain⟨m1,m2,_⟩:=zAV hM;have hlen:(SSW L M cs).length=L.n.toNat+M.n.toNat:=zLH;have hi:=(List.getElem?_eq_some_iff.1 hS).1;have hw:wst (SSW L M cs) (i:Int) y.1 y.2:=⟨by omega,S,by simpa using hS,hy⟩;rw[hlen];by_cases h:(i:Int)<L.n
 ·have:=(zoF (M:=M) (cs:=cs) hL i (by omega) h y.1 y.2).1 (by rw[Int.zero_add];exact hw);obtain⟨c,s',e,e2,_⟩:=this;have:=(zCi hL e).2.1;omega
 ·have:=(zoE (cs:=cs) hL hM ((i:Int)-L.n) (by omega) (by omega) y.1 y.2).1 (by rw[show L.n+((i:Int)-L.n)=i by omega];exact hw);obtain⟨c,s',e,e2,_⟩:=this;have:=(zCi hM e).2.1;omega
def zVu(hL:zx L=false)(hM:zx M=false){R:List (Int×Int)}(c1:zCr cs)(c2:∀ c∈L.labs,c.1≠-1->c∈cs)(c3':∀ c∈M.labs,c.1≠-1->c∈cs)
  (hR:∀ s t,(s,t)∈R ↔ (0<=s/\s<L.n)/\(0<=t/\t<M.n)/\cl s=cl (L.n+t)) (hp:∀ u,0<=u->u<L.n+M.n->∃ v,(0<=v/\v<L.n+M.n)/\decide (v<L.n)≠decide (u<L.n)/\cl v=cl u) :
  (Fol kind L M R/\Fol kind M L (R.map zBr)) ↔ ∀ u v,(0<=u/\u<L.n+M.n)->(0<=v/\v<L.n+M.n)->cl u=cl v->∀ n k,zNe (wst (SSW L M cs)) cl kind u n k->zNe (wst (SSW L M cs)) cl kind v n k:=by
 obtain⟨l1,l2,_⟩:=zAV hL;obtain⟨m1,m2,_⟩:=zAV hM;have EL:=zoF (M:=M) (cs:=cs) hL;have EM:=zoE (cs:=cs) hL hM;rw[← zny (ok:=fun u=>0<=u/\u<L.n+M.n) (sd:=fun u=>decide (u<L.n)) (by
  rintro u n v ⟨h1,h2⟩ e;by_cases h:u<L.n
  ·obtain⟨c,s',e,e2,_⟩:=(EL u h1 h n v).1 (by rw[Int.zero_add];exact e);have:=(zCi hL e).2.1;exact⟨by omega,by rw[xAJ h,xAJ];omega⟩
  ·obtain⟨c,s',e,e2,_⟩:=(EM (u-L.n) (by omega) (by omega) n v).1 (by rw[show L.n+(u-L.n)=u by omega];exact e);have:=(zCi hM e).2.1;exact⟨by omega,by rw[xAI h,xAI];omega⟩) (fun u hu=>hp u hu.1 hu.2)]
 rw[zVV (cl:=cl) (kind:=kind) c1 c2 c3' hL hM EL EM (fun s t=>by rw[hR,Int.zero_add]),zVV (cl:=cl) (kind:=kind) c1 c3' c2 hM hL EM EL (R:=R.map zBr) (fun s t=>by
  rw[List.mem_map];constructor
  ·rintro⟨⟨p,q⟩,hq,e⟩;simp only[zBr,Prod.mk.injEq] at e;obtain⟨rfl,rfl⟩:=e;obtain⟨x,y,z⟩:=(hR _ _).1 hq;exact⟨y,x,by rw[Int.zero_add,z]⟩
  ·rintro⟨x,y,z⟩;rw[Int.zero_add] at z;exact⟨(t,s),(hR _ _).2 ⟨y,x,z.symm⟩,rfl⟩)]
 constructor
 ·rintro⟨h1,h2⟩ u v hu hv hs hc;by_cases h:u<L.n
  ·have ay:¬ v<L.n:=fun e=>hs (by rw[xAJ h,xAJ e]);have:=h1 u (v-L.n) ⟨hu.1,h⟩ ⟨by omega,by omega⟩ (by rw[Int.zero_add,show L.n+(v-L.n)=v by omega];exact hc);rw[Int.zero_add,show L.n+(v-L.n)=v by omega] at this;exact this
  ·have ay:v<L.n:=Classical.byContradiction fun e=>hs (by rw[xAI h,xAI e]);have:=h2 (u-L.n) v ⟨by omega,by omega⟩ ⟨hv.1,ay⟩ (by rw[Int.zero_add,show L.n+(u-L.n)=u by omega];exact hc);rw[Int.zero_add,show L.n+(u-L.n)=u by omega] at this;exact this
 ·intro h;refine⟨fun s t hs ht hc=>?_,fun s t hs ht hc=>?_⟩
  ·refine h _ _ (by omega) (by omega) ?_ hc;rw[xAJ (by omega),xAI (by omega)];decide
  ·refine h _ _ (by omega) (by omega) ?_ hc;rw[xAJ (show 0+t<L.n by omega),xAI (show ¬ L.n+s<L.n by omega)];decide
end
end Go.Proofs
namespace Go.Proofs
open Go Go.AM
variable {s:Bool} {K:KF} {h:AH} {a:Option Addr} {n c:Nat} {b d e f g i j k l m o p q r t u w x y z A B C D F G J L M N O Q S U V W X Y Z v v0 v1 v2 v3 v4 v7 v8 v9 v17:Value} {h1:AH} {Rp:Value->AH->Prop}
def zeC:Code:=sub zeD [0]
def zTh(s:Bool):Cx:=⟨E,s,none,zeC,[([],[0,1,2])],[2,3,4],[]⟩
def zS1(H :
 Ev s (zW 128 h e) fun b=>
 Ev s (zW 47 b.2 f) fun d=>
 K .normal [g,b.1,d.1] d.2):PI (zTh s) K 0 [e,f,g] h:=zB H
def zh5{s:Bool}{v0 v1 v2:Value}{T:Tm}{h:AH}{K:KF}(hT:∀ x∈[(0,v0),(1,v1),(2,v2)],T.get x.1=x.2)(H:PI (zTh s) K 0 [v0,v1,v2] h) :
 Ev s (evC E (zV E) none zeC ⟨T,h,[]⟩) (zI4 (zTh s ) K):=
 zBZ (C:=zTh s ) (by kernel_rfl) (by kernel_rfl) hT ((by kernel_rfl:zDP (zTh s ) K 30 (rs zeC 60 (.at [])) (zk [(0,v0),(1,v1),(2,v2)]) h=(PI (zTh s) K 0 [v0,v1,v2] h)).mpr H)
def zTl:Code:=sub zeD [1,0]
def zTe(s:Bool):Cx:=⟨E,s,none,zTl,[([],[2,3,4])],[2,3,4,7],[]⟩
def zSw(H :
 EvO (zH E 47 h e) fun g=>
 EvO (zE E 47 g d) fun i=>
 EvO (zH E 3 h i) fun j=>
 Ev s (zW 3 h (zAL E 3)) fun b=>
 Ev s (zb E 3 b.2 b.1 j) fun k=>
 K .normal [d,f,e,b.1] k.2):PI (zTe s) K 0 [d,f,e] h:=zB H
def zh1{s:Bool}{v2 v3 v4:Value}{T:Tm}{h:AH}{K:KF}(hT:∀ x∈[(2,v2),(3,v3),(4,v4)],T.get x.1=x.2)(H:PI (zTe s) K 0 [v2,v3,v4] h) :
 Ev s (evC E (zV E) none zTl ⟨T,h,[]⟩) (zI4 (zTe s ) K):=
 zBZ (C:=zTe s ) (by kernel_rfl) (by kernel_rfl) hT ((by kernel_rfl:zDP (zTe s ) K 30 (rs zTl 60 (.at [])) (zk [(2,v2),(3,v3),(4,v4)]) h=(PI (zTe s) K 0 [v2,v3,v4] h)).mpr H)
def zO4:Code:=sub zeD [1,1,0]
def zTd(s:Bool):Cx:=⟨E,s,none,zO4,[([],[2,3,4,7])],[2,3,4,7,8],[]⟩
def zSv(H :
 Ev s (zW 132 h (zAL E 132)) fun b=>
 K .normal [d,e,f,g,b.1] b.2):PI (zTd s) K 0 [d,e,f,g] h:=zB H
def zh0{s:Bool}{v2 v3 v4 v7:Value}{T:Tm}{h:AH}{K:KF}(hT:∀ x∈[(2,v2),(3,v3),(4,v4),(7,v7)],T.get x.1=x.2)(H:PI (zTd s) K 0 [v2,v3,v4,v7] h) :
 Ev s (evC E (zV E) none zO4 ⟨T,h,[]⟩) (zI4 (zTd s ) K):=
 zBZ (C:=zTd s ) (by kernel_rfl) (by kernel_rfl) hT ((by kernel_rfl:zDP (zTd s ) K 30 (rs zO4 60 (.at [])) (zk [(2,v2),(3,v3),(4,v4),(7,v7)]) h=(PI (zTd s) K 0 [v2,v3,v4,v7] h)).mpr H)
def zNg:Code:=sub zeD [1,1,1,0,0]
def zTg(s:Bool):Cx:=⟨E,s,none,zNg,[([],[2,3,4,7,8])],[3,4,7,8,16],[]⟩
def zS0(H :
 EvO (zH E 128 h b) fun j=>
 Ev s (zT (zV E) (some (.func (.func 178) #[] #[])) [j,e] h) fun d=>
 K .normal [b,f,g,i,d.1] d.2):PI (zTg s) K 0 [e,b,f,g,i] h:=zB H
def zh4{s:Bool}{v2 v3 v4 v7 v8:Value}{T:Tm}{h:AH}{K:KF}(hT:∀ x∈[(2,v2),(3,v3),(4,v4),(7,v7),(8,v8)],T.get x.1=x.2)(H:PI (zTg s) K 0 [v2,v3,v4,v7,v8] h) :
 Ev s (evC E (zV E) none zNg ⟨T,h,[]⟩) (zI4 (zTg s ) K):=
 zBZ (C:=zTg s ) (by kernel_rfl) (by kernel_rfl) hT ((by kernel_rfl:zDP (zTg s ) K 30 (rs zNg 60 (.at [])) (zk [(2,v2),(3,v3),(4,v4),(7,v7),(8,v8)]) h=(PI (zTg s) K 0 [v2,v3,v4,v7,v8] h)).mpr H)
def zGH:Code:=ziZ (sub zeD [1,1,1,0,1,0])
def zLA(s:Bool)(ll:Nat):Cx:=⟨E,s,some ll,zGH,[([0,0],[3,4,7,8,9]),([0,1,0],[3,4,8,9])],[],[]⟩
def zSz{ll:Nat}(H :
 EvO (zH E 47 h b) fun i=>
 EvO (zE E 47 i d) fun j=>
 EvO (zH E 3 h j) fun k=>
 EvO (zH E 3 h f) fun l=>
 EvO (zC E .eql 3 k l) fun m=>
 BrK m (PI (zLA s ll) K 1 [e,b,g,d] h) (K .normal [] h)):PI (zLA s ll) K 0 [e,b,f,g,d] h:=zB H
def zSy{ll:Nat}(H :
 EvO (zH E 132 h d) fun f=>
 EvO (zH E 128 h i) fun l=>
 EvO (zH E 47 h j) fun m=>
 Ev s (zT (zV E) (some (.func (.func 129) #[] #[])) [l,m,k] h) fun e=>
 EvO (zH E 132 e.2 d) fun b=>veq 100 b f=true ∧
 (Ev s (zAJ E .append [132,132] [f,e.1] e.2) fun g=>
 Ev s (zb E 132 g.2 d g.1) fun o=>
 K .normal [] o.2)):PI (zLA s ll) K 1 [i,j,d,k] h:=zB H
def zh3{s:Bool}{ll:Nat}{v3 v4 v7 v8 v9:Value}{T:Tm}{h:AH}{K:KF}(hT:∀ x∈[(3,v3),(4,v4),(7,v7),(8,v8),(9,v9)],T.get x.1=x.2)(H:PI (zLA s ll) K 0 [v3,v4,v7,v8,v9] h) :
 Ev s (evC E (zV E) (some ll) zGH ⟨T,h,[]⟩) (zI4 (zLA s ll ) K):=
 zBZ (C:=zLA s ll ) (by kernel_rfl) (by kernel_rfl) hT ((by kernel_rfl:zDP (zLA s ll ) K 30 (rs zGH 60 (.at [])) (zk [(3,v3),(4,v4),(7,v7),(8,v8),(9,v9)]) h=(PI (zLA s ll) K 0 [v3,v4,v7,v8,v9] h)).mpr H)
def zGv:Code:=zsh (sub zeD [1,1,1,0,1,0])
def zTf(s:Bool)(ll:Nat):Cx:=⟨E,s,some ll,zGv,[([],[3,4,7,8,17])],[3,4,7,8,9],[]⟩
def zSx{ll:Nat}(H :
 K .normal [d,e,f,g,b] h):PI (zTf s ll) K 0 [d,e,f,g,b] h:=zB H
def zh2{s:Bool}{ll:Nat}{v3 v4 v7 v8 v17:Value}{T:Tm}{h:AH}{K:KF}(hT:∀ x∈[(3,v3),(4,v4),(7,v7),(8,v8),(17,v17)],T.get x.1=x.2)(H:PI (zTf s ll) K 0 [v3,v4,v7,v8,v17] h) :
 Ev s (evC E (zV E) (some ll) zGv ⟨T,h,[]⟩) (zI4 (zTf s ll ) K):=
 zBZ (C:=zTf s ll ) (by kernel_rfl) (by kernel_rfl) hT ((by kernel_rfl:zDP (zTf s ll ) K 30 (rs zGv 60 (.at [])) (zk [(3,v3),(4,v4),(7,v7),(8,v8),(17,v17)]) h=(PI (zTf s ll) K 0 [v3,v4,v7,v8,v17] h)).mpr H)
def zI9:Code:=sub zeD [1,1,1,1]
end Go.Proofs
namespace Go.Proofs
open Go Go.AM Go.Sort
def zjm(F:zf):(stc F).all zq=true:=by
 induction F with
 | nil=>rfl
 | cons x F ih=>
  have:stc (x::F)=zG x++stc F:=rfl;rw[this,List.all_append,ih,zif];rfl
def zMN{h:AH}(aa:h.ok){c v:Value}{F G:zf}{lo:Nat}(hc:CellOK h c F)(hs:Sl lo h v G)(hl:F.length+G.length<=1000000) :
  ∃ c' h',zAJ E .append [132,132] (some [c,v]) h=one (c',h')/\CellOK h' c' (F++G)/\Fx (fun x=>zu c x) h h'/\∀ x,zu c' x->zu c x\/h.qa<=x:=by
 obtain⟨ti,e1,e2,e3⟩:=elt132.ti;have hG:∃ n,n=G.length/\zA9 2 v h=some (n,stc G):=by
  rcases hs with ⟨rfl,rfl⟩|⟨b,rest,rfl,h1,h2,h3⟩
  ·exact⟨0,rfl,rfl⟩
  ·refine⟨G.length,rfl,?_⟩;have e:((G.flatMap zG++rest).drop 0).take (G.length*2)=stc G:=by
    rw[List.drop_zero,List.take_append_of_le_length (by rw[zBp];omega),xAD (by rw[zBp];omega)];rfl
   simp only[sl,zA9,h3,zAo,zAt,e,zAR];rw[show (stc G).length=G.length*2 from zHj G,Nat.beq_refl,if_pos rfl]
 obtain⟨n,hn,hG⟩:=hG;show ∃ c' h',v2 (zA8 E [132,132] c v h)=_/\_;simp only[zA8,elt132.el,elt132.un,zFB,xAH,e1,zCG,e2,hG,e3,xAG];by_cases hz:G=[]
 ·subst hz;have:n=0:=hn;subst this;refine⟨c,h,?_,by simpa using hc,Fx.refl aa,fun x hx=>.inl hx⟩;rcases hc with ⟨rfl,rfl⟩|⟨b,rfl,_⟩
  ·rfl
  ·simp only[zBb,show Nat.beq 0 0=true from rfl,xAG,show Nat.ble F.length (UNK+2)=true from ble_true.2 (by have:UNK=18446744073709551616:=rfl;omega),v2]
 ·have cA:Nat.beq n 0=false:=by
   rw[hn];cases G with
   | nil=>exact absurd rfl hz
   | cons x G=>rfl
  have af:stc (F++G)=stc F++stc G:=by simp[stc,List.flatMap_append]
  rcases hc with ⟨rfl,rfl⟩|⟨bl,rfl,hg,ab⟩
  ·refine⟨.slice (some ⟨h.qa,0,none⟩) n (UNK+2),h.new (.row (stc G) 134 2 false),by simp only[zBb,cA,xAH,zAx,ble_true.2 (show n<=1000000 by simp at hl;omega),xAG,v2],.inr ⟨h.qa,by rw[hn];rfl,zI _ _,by simp⟩,(Fx.refl aa).new _,fun x ⟨m,q,e⟩=>?_⟩;simp only[Value.slice.injEq,xAN,Addr.mk.injEq] at e;exact .inr (by omega)
  ·have h1:Nat.ble UNK (UNK+2)=true:=ble_true.2 (by omega);have hln:(stc F).length=F.length*2:=zHj F;have h2:Nat.ble (0+(F.length+n)*2) (stc F).length=false:=ble_false.2 (by rw[hln];have:n≠0:=(fun e=>by rw[e] at cA;cases cA);omega);have h3:Nat.beq (0+F.length*2) (stc F).length=true:=by rw[hln,xAK];exact Nat.beq_refl _
   have h4:((stc F).drop 0).take (F.length*2)=stc F:=by rw[List.drop_zero,xAD (by omega)]
   refine⟨.slice (some ⟨h.qa,0,none⟩) (F.length+n) (UNK+2),(h.upd bl none).new (.row (stc F++stc G) 134 2 false),by simp only[zBb,cA,xAH,hg,zCf,h1,Nat.beq_refl,Bool.and_self,xAM,xAG,zDr,zAR,h2,h3,zDs,zjm,zAo,zAt,h4,zAx,ble_true.2 (show F.length+n<=1000000 by omega),xAG,v2];rfl,.inr ⟨h.qa,?_,?_,by simp⟩,?_,fun x ⟨m,q,e⟩=>?_⟩
   ·rw[hn,List.length_append]
   ·rw[af];exact zI (h.upd bl none) _
   ·exact ((Fx.refl aa).upd (.inl ⟨_,_,rfl⟩) none).new _
   ·simp only[Value.slice.injEq,xAN,Addr.mk.injEq] at e;exact .inr (by have:(h.upd bl none).qa=h.qa:=rfl;omega)
structure zot(b8:Nat)(c0:Value)(F0 S:zf)(cl:List Int)(h g:AH):Prop where
 ex:∃ c' F,(∀ p,p∈F ↔ p∈zIN S cl)/\F.length<=S.length/\g.get b8=some (rO [c'] 132)/\CellOK g c' (F0++F)/\∀ x,zu c' x->zu c0 x\/h.qa<=x
 fx:Fx (fun c=>c=b8\/zu c0 c) h g
def zsT(un:Nat)(b8:Nat)(c0:Value)(F0 S:zf)(cl:List Int)(own:Int)(h:AH):KF:=fun ex _ g=>ex=.normal/\((zBU cl un≠own/\g=h)\/(zBU cl un=own/\zot b8 c0 F0 S cl h g))
def zls{h:AH}{l b3 b4 b7 b8 bg un:Nat}{SS:List zf}{S F0:zf}{v c0:Value}{cl:List Int}{own:Int}{T:Tm}(aa:h.ok)
  (h3:h.get b3=some (rO [ptr bg] 128)) (h4:h.get b4=some (rO [v] 47)) (h7:h.get b7=some (rO [iI own] 3)) (h8:h.get b8=some (rO [c0] 132)) (l8:b8<h.qa)
  (hg:GW h bg SS) (hS:SS[un]?=some S) (hc:Arr h 1 v (cl.map i1)) (cM:un<cl.length) (hr:∀ y∈S,0<=y.2/\y.2<(cl.length:Int)) (hF:CellOK h c0 F0) (hlen:F0.length+S.length<=900000) (n8:¬ zu c0 b8)
  (hT:∀ y∈[(3,ptr b3),(4,ptr b4),(7,ptr b7),(8,ptr b8),(9,iI (un:Int))],T.get y.1=y.2) :
  Ev true (evC E (zV E) (some l) zGH ⟨T,h,[]⟩) (zI4 (zLA true l) (zsT un b8 c0 F0 S cl own h)):=by
 refine zh3 hT (zSz ?_);have l3:=zF (P:=E) zCJ (o:=0) h3;have l4:=zF (P:=E) znK (o:=0) h4;have l7:=zF (P:=E) zAa (o:=0) h7;have lc:=zF (P:=E) zCn (o:=0) h8;simp only[lnth] at l3 l4 l7 lc;obtain⟨p,q1,q2⟩:=zHF hc (Ext.refl aa) (xAA cM);have aX:zBU cl un=cl[un]:=by unfold zBU;rw[show ((un:Int)).toNat=un from rfl,xAA cM];rfl
 simp only[l4,l7,q1,q2,zA,zAd,zAN];refine⟨fun e=>zSy ?_,fun e=>⟨rfl,.inl ⟨by rw[aX];exact e,rfl⟩⟩⟩;simp only[l3,l4,lc,zA,zS];refine (zWD aa hg hS hc hr (by omega)).mono ?_;rintro⟨w,h1⟩ ⟨F,s1,s2,s3,s4,f1⟩;simp only at s4 f1 ⊢;have h8':=(f1.get b8 l8 (fun h=>h)).trans h8;have lc':=zF (P:=E) zCn (o:=0) h8';simp only[lnth] at lc';obtain⟨c',h2,a1,a2,a3,a4⟩:=zMN f1.ok (hF.fx f1 fun _ _ h=>h) s4 (by omega);have bI:veq 100 c0 c0=true:=by rcases hF with ⟨rfl,_⟩|⟨b,rfl,_⟩ <;> exact zB2 _ _ _ _
 simp only[lc',zA,bI,true_and,a1,zL];have h8'':=(a3.get b8 (xAC l8 f1.qa) n8).trans h8';have aG:zq c'=true:=by rcases a2 with ⟨rfl,_⟩|⟨b,rfl,_⟩ <;> rfl
 have af:=zAC (P:=E) zPA (o:=0) (x:=c') (cs:=[c']) h8'' (by rcases a2 with ⟨rfl,_⟩|⟨b,rfl,_⟩ <;> rfl) rfl (by simp) (by simp[aG]);simp only[af,zL];have n12:=f1.qa;refine⟨rfl,.inr ⟨by rw[aX];exact e,⟨c',F,s2,s3,zN _ _ _,?_,fun x hx=>(a4 x hx).imp id fun h=>by omega⟩,?_⟩⟩
 ·refine a2.imp id ?_;rintro⟨b,x1,x2,x3⟩;refine⟨b,x1,(zP ?_).trans x2,x3⟩;rintro rfl;rcases a4 b ⟨_,_,x1⟩ with h|h
  ·exact n8 h
  ·omega
 ·exact ((f1.mono (P':=fun c=>c=b8\/zu c0 c) fun c hc=>hc.elim).trans a3 fun c hc=>.inl (.inr hc)).upd (.inl (.inl rfl)) _
end Go.Proofs
