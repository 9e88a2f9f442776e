import Derived.KernelRfl
import Derived.Lib.Bytealg
import Derived.Test.YthmnhjcmefjgjaaGreatDoorProg
import Derived.Test.YthmnhjcmefjgjaaGreatDoorXAC
set_option linter.all false
set_option linter.unusedSectionVars false
set_option autoImplicit true
set_option relaxedAutoImplicit true
section
noncomputable section
namespace Go.AM
open Go
def Ev {α:Type} (s:Bool) (x:R α) (Q:α->Prop):Prop:=∃ l,x=some l/\l≠[]/\(s=true->l.length=1)/\∀ a∈l,Q a
theorem Ev.mono {α:Type} {s:Bool} {x:R α} {Q Q':α->Prop} (h:Ev s x Q) (hQ:∀ a,Q a->Q' a):Ev s x Q':=
 let ⟨l,a,b,c,d⟩:=h;⟨l,a,b,c,fun x hx=>hQ x (d x hx)⟩
theorem Ev.one {α:Type} {s:Bool} {a:α} {Q:α->Prop} (h:Q a):Ev s (AM.one a) Q:=⟨[a],rfl,by simp,fun _=>rfl,fun b hb=>by simp at hb;rw [hb];exact h⟩
theorem zP {α:Type} {s:Bool} {a:α} {Q:α->Prop}:Ev s (some [a]) Q ↔ Q a:=⟨fun ⟨l,e,_,_,h⟩=>by cases e;exact h a (by simp),fun h=>Ev.one h⟩
theorem zK {α:Type} {s:Bool} {a:α} {Q:α->Prop}:Ev s (one a) Q ↔ Q a:=zP
theorem Ev.bindL {α β:Type} {s:Bool} {f:α->R β} {Q:β->Prop}:∀ {l:List α},l≠[]->(s=true->l.length=1)->(∀ a∈l,Ev s (f a) Q)->Ev s (AM.bindL f l) Q
 | [a],_,_,h=>by
  obtain ⟨l,e,h1,h2,h3⟩:=h a (by simp)
  simp only [AM.bindL,e,List.append_nil]
  exact ⟨l,rfl,h1,h2,h3⟩
 | a::b::aas,_,h1,h=>by
  have hs:s=false:=by cases s with|false=>rfl|true=>have:=h1 rfl;simp at this
  subst hs
  obtain ⟨l,e,k1,_,k3⟩:=h a (by simp)
  obtain ⟨l',e',j1,_,j3⟩:=Ev.bindL (s:=false) (l:=b::aas) (by simp) (fun h=>by cases h) fun c hc=>h c (by simp at hc ⊢;exact .inr hc)
  have:AM.bindL f (a::b::aas)=some (l++l'):=by simp only [AM.bindL] at e' ⊢;rw [e];simp only [e']
  rw [this]
  exact ⟨_,rfl,by simp [k1],(fun h=>nomatch h),fun c hc=>(List.mem_append.1 hc).elim (k3 c) (j3 c)⟩
theorem Ev.andThen {α β:Type} {s:Bool} {x:R α} {f:α->R β} {Q:β->Prop} (h:Ev s x fun a=>Ev s (f a) Q):Ev s (R.andThen x f) Q:=by
 obtain ⟨l,e,h1,h2,h3⟩:=h
 rw [zJB,e]
 exact Ev.bindL h1 h2 h3
theorem Ev.weak {α:Type} {x:R α} {Q:α->Prop} {s:Bool} (h:Ev true x Q):Ev s x Q:=let ⟨l,a,b,c,d⟩:=h;⟨l,a,b,fun _=>c rfl,d⟩
theorem Ev.single {α:Type} {x:R α} {a:α} (h:Ev true x fun b=>b=a):x=some [a]:=by
 obtain ⟨l,e,_,h2,h3⟩:=h
 have:=h2 rfl
 match l,this with
 | [b],_=>rw [e,h3 b (by simp)]
@[congr] theorem zo3 {α:Type} {s:Bool} {x y:R α} {Q:α->Prop} (h:x=y):Ev s x Q=Ev s y Q:=by rw [h]
def EvO {α:Type} (x:Option α) (K:α->Prop):Prop:=match x with
 | some v=>K v
 | none=>False
theorem zA {α:Type} {v:α} {K:α->Prop}:EvO (some v) K ↔ K v:=Iff.rfl
theorem zJ8 {α:Type} {K:α->Prop}:EvO (none:Option α) K ↔ False:=Iff.rfl
theorem EvO.ex {α:Type} {x:Option α} {K:α->Prop} (h:EvO x K):∃ v,x=some v/\K v:=match x,h with
 | some v,h=>⟨v,rfl,h⟩
theorem EvO.of {α:Type} {x:Option α} {K:α->Prop} {v:α} (e:x=some v) (h:K v):EvO x K:=by rw [e];exact h
@[congr] theorem zmA {α:Type} {x y:Option α} {K:α->Prop} (h:x=y):EvO x K=EvO y K:=by rw [h]
def gdB (g:Value) (want:Bool) (x:Option Value):Option Value:=match g with
 | .bool b=>cond (b==want) x (some undef)
 | _=>some undef
def gdW (g:Value) (want:Bool) (x:R (Value×AH)) (h:AH):R (Value×AH):=match g with
 | .bool b=>cond (b==want) x (one (undef,h))
 | _=>one (undef,h)
def zSQ (all:List Oper) (j:Nat):Option Tmp:=match lnth all j with
 | some oj=>oj.dst
 | none=>none
def gdO (all:List Oper) (T:Tm) (o:Oper) (x:Option Value):Option Value:=match o.guard with
 | none=>x
 | some (j,want)=>match zSQ all j with
  | some d=>gdB (T.get d) want x
  | none=>some undef
def gdR (all:List Oper) (T:Tm) (o:Oper) (x:R (Value×AH)) (h:AH):R (Value×AH):=match o.guard with
 | none=>x
 | some (j,want)=>match zSQ all j with
  | some d=>gdW (T.get d) want x h
  | none=>one (undef,h)
def zjG (T:Tm):List Nat->List (Nat×Value)
 | []=>[]
 | t::ts=>(t,T.get t)::zjG T ts
def zk:List (Nat×Value)->Tm
 | []=>⟨0,.e⟩
 | x::l=>(zk l).put x.1 x.2
theorem zOn (T:Tm):∀ {l:List Nat} {t:Nat},t∈l->(zk (zjG T l)).get t=T.get t
 | u::l,t,h=>by
  simp only [zjG,zk,Tm.get_put]
  by_cases e:t=u
  ·simp [e]
  ·rw [if_neg e];exact zOn T ((List.mem_cons.1 h).resolve_left e)
def zk5 (T:Tm) (o:Oper):Tm:=zk (zjG T (zEq o.op.operands.toList))
theorem zK7 (T:Tm) (o:Oper):zLf o.op.operands.toList (zk5 T o) T:=fun _ ht=>zOn T (mem_tmpsOf.2 ht)
def zAB (c a b:Option Value):Option Value:=match c with
 | some (.bool t)=>cond t a b
 | _=>none
def zp9 (op:BinOp):Bool:=match op with
 | .eql=>true
 | .neq=>true
 | _=>false
def zi2 (op:BinOp):Bool:=match op with
 | .add=>true
 | .sub=>true
 | .mul=>true
 | .eql=>true
 | .neq=>true
 | .lss=>true
 | .leq=>true
 | .gtr=>true
 | .geq=>true
 | _=>false
def zU1 (P:Env) (op:BinOp) (t:TypeId):Bool:=match und P t with
 | some (.int _)=>zi2 op
 | some (.array _ _)=>zp9 op
 | _=>false
section
variable (P:Env)
def zDJ (T:Tm) (o:Oper):Option Value:=match o.op with
 | .move x=>zAj T x
 | .assign x=>zAj T x
 | .pick c a b=>zAB (zAj T c) (zAj T a) (zAj T b)
 | .nilCheck x=>zv (zAj T x)
 | .binOp op t x y _=>cond (zU1 P op t) (zC P op t (rho T x) (rho T y)) (zp P (zk5 T o) o)
 | .unOp .not _ x=>zAW .not (rho T x)
 | .extract x i=>ze i (zAj T x)
 | .build t ps=>zAo P t (zGk T ps.toList)
 | .field t x f=>zK2 P t f (zAj T x)
 | .index t x i=>zC9 P t (zAj T x) (zAj T i)
 | .fieldAddr t x f=>zD P t f (zAj T x)
 | .indexAddr t x i=>zE P t (zAj T x) (zAj T i)
 | .makeFunc fn fs cs=>zBJ fn (zBk T fs.toList) (zBk T cs.toList)
 | _=>zp P (zk5 T o) o
def zGJ (T:Tm) (o:Oper) (h:AH):Option Value:=match o.op with
 | .load t a=>zG P t h (zAj T a)
 | .lookup t x k ok=>zBI P t ok (zAj T x) (zAj T k) h
 | .entry x=>zHJ (zAj T x) h
 | _=>zN P (zk5 T o) o h
def zKf (b:Builtin) (ts:List TypeId) (vs:List Value) (h:AH):R (Value×AH):=
  match b,vs,ts with
  | .append,[s,x],_=>v2 (zAz P ts s x h)
  | .clear,[x],t::_=>zG6 P t x h
  | .copy,[d,s],t::_=>zSb P t d s h
  | .unsafeString,[p,n],t::_=>zBn P t p n h
  | _,_,_=>none
def zAH (b:Builtin) (ts:List TypeId) (vs:Option (List Value)) (h:AH):R (Value×AH):=match vs with
 | some vs=>zKf P b ts vs h
 | none=>none
def zFn (r:Rec) (T:Tm) (o:Oper) (h:AH):R (Value×AH):=match o.op with
 | .call c=>(match c.callee with
  | .builtin b=>zAH P b c.argTypes.toList (zBk T c.args.toList) h
  | .value f=>zR r (zAj T f) (zBk T c.args.toList) h
  | _=>none)
 | _=>evWrite P r T o h
def zDp (T:Tm) (o:Oper) (h:AH):Option Value:=match cls o.op with
 | .pure=>zDJ P T o
 | .read=>zGJ P T o h
 | .write=>none
end
variable {P:Env}
theorem zHh {T:Tm} {o:Oper} {v:Value} (h:zDJ P T o=some v):zp P T o=some v:=by
 have gen:zp P (zk5 T o) o=some v->zp P T o=some v:=fun h=>by rw [← zE9 (zK7 T o)];exact h
 unfold zDJ at h
 split at h
 case _ x e=>unfold zp;rw [e];exact h
 case _ x e=>unfold zp;rw [e];exact h
 case _ c a b e=>
  unfold zp;rw [e]
  unfold zAB at h
  unfold AM.pPick
  simp only
  split at h
  ·rename_i t ht
   rw [ht]
   cases t <;> exact h
  ·cases h
 case _ x e=>unfold zp;rw [e];exact h
 case _ op t x y c e=>
  cases hb:zU1 P op t with
  | false=>rw [hb] at h;exact gen h
  | true=>
   rw [hb] at h
   simp only [cond_true] at h
   unfold zp;rw [e]
   simp only [ziq,h]
 case _ t x e=>
  unfold zp;rw [e]
  simp only [pUn,h]
 case _ x i e=>unfold zp;rw [e];exact h
 case _ t ps e=>unfold zp;rw [e];exact h
 case _ t x f e=>unfold zp;rw [e];exact h
 case _ t x i e=>unfold zp;rw [e];exact h
 case _ t x f e=>unfold zp;rw [e];exact h
 case _ t x i e=>unfold zp;rw [e];exact h
 case _ fn fs cs e=>unfold zp;rw [e];exact h
 case _=>exact gen h
theorem zE8 {T:Tm} {o:Oper} {h:AH} {v:Value} (e:zGJ P T o h=some v):zN P T o h=some v:=by
 have gen:zN P (zk5 T o) o h=some v->zN P T o h=some v:=fun e=>by rw [← zDo (zK7 T o)];exact e
 unfold zGJ at e
 split at e
 case _ t a eo=>unfold zN;rw [eo];exact e
 case _ t x k ok eo=>unfold zN;rw [eo];exact e
 case _ x eo=>unfold zN;rw [eo];exact e
 case _=>exact gen e
theorem zLR {T:Tm} {o:Oper} {h:AH} {v:Value} (e:zDp P T o h=some v):zCv P T o h=some v:=by
 unfold zDp at e
 unfold zCv
 split at e
 ·rename_i hc;rw [hc];exact zHh e
 ·rename_i hc;rw [hc];exact zE8 e
 ·cases e
theorem zHg (r:Rec) (T:Tm) (o:Oper) (h:AH):zFn P r T o h=evWrite P r T o h:=by
 unfold zFn
 split
 ·rename_i c e
  unfold evWrite
  rw [e]
  simp only [wCall]
  split
  ·rename_i b hb
   rw [hb]
   unfold zAH
   cases zBk T c.args.toList with
   | none=>rfl
   | some vs=>
    simp only
    unfold zKf zEU
    rfl
  ·rename_i f hf;rw [hf]
  ·rename_i h1 h2
   split
   ·rename_i b hb;exact absurd hb (h1 b)
   ·rename_i f hf;exact absurd hf (h2 f)
   ·rfl
 ·rfl
theorem EvO.imp {α:Type} {x y:Option α} {K:α->Prop} (h:EvO x K) (hx:∀ v,x=some v->y=some v):EvO y K:=let ⟨_,e,k⟩:=h.ex;.of (hx _ e) k
theorem zUD {all:List Oper} {T:Tm} {o:Oper} {x y:Option Value} (hx:∀ v,x=some v->y=some v):∀ v,gdO all T o x=some v->gdO all T o y=some v:=by
 intro v h
 unfold gdO gdB at h ⊢
 cases hg:o.guard with
 | none=>rw [hg] at h;exact hx v h
 | some a=>
  rw [hg] at h
  simp only at h ⊢
  cases hd:zSQ all a.1 with
  | none=>rw [hd] at h;exact h
  | some d=>
   rw [hd] at h
   simp only at h ⊢
   cases ht:T.get d with
   | bool b=>
    rw [ht] at h
    simp only at h ⊢
    cases hb:(b==a.2) with
    | true=>rw [hb] at h;exact hx v h
    | false=>rw [hb] at h;exact h
   | _=>rw [ht] at h;exact h
section
variable (P:Env) (r:Rec) (s:Bool)
def zSO (all:List Oper):List Oper->Tm->AH->(Tm->AH->Prop)->Prop
 | [],T,h,K=>K T h
 | o::rest,T,h,K=>match cls o.op with
  | .pure=>EvO (gdO all T o (zDJ P T o)) fun v=>zSO all rest (putDst T o.dst v) h K
  | .read=>EvO (gdO all T o (zGJ P T o h)) fun v=>zSO all rest (putDst T o.dst v) h K
  | .write=>Ev s (gdR all T o (zFn P r T o h) h) fun x=>zSO all rest (putDst T o.dst x.1) x.2 K
def zhc (t:Nat):List Nat->Bool
 | []=>false
 | a::aas=>Nat.beq a t||zhc t aas
def subN (A B:List Nat):Bool:=A.all fun t=>zhc t B
def zGX (all:List Oper) (o:Oper):List Tmp:=zEq o.op.operands.toList++(match o.guard with|some (j,_)=>(zSQ all j).toList|none=>[])
def zm5 (d:Option Tmp) (A:List Nat):List Nat:=match d with|some d=>d::A|none=>A
def zTH (all:List Oper):List Nat->List Oper->Option (List Nat)
 | A,[]=>some A
 | A,o::rest=>cond (subN (zGX all o) A) (zTH all (zm5 o.dst A) rest) none
end
theorem memN_iff {t:Nat}:∀ {A:List Nat},zhc t A=true ↔ t∈A
 | []=>by simp [zhc]
 | a::aas=>by
  simp only [zhc,Bool.or_eq_true,memN_iff (A:=aas),List.mem_cons]
  constructor
  ·rintro (h|h)
   ·exact .inl (Nat.eq_of_beq_eq_true h).symm
   ·exact .inr h
  ·rintro (rfl|h)
   ·exact .inl (Nat.beq_refl _)
   ·exact .inr h
theorem subN_iff {A B:List Nat}:subN A B=true ↔ ∀ t∈A,t∈B:=by
 unfold subN
 rw [List.all_eq_true]
 exact ⟨fun h t ht=>memN_iff.1 (h t ht),fun h t ht=>memN_iff.2 (h t ht)⟩
variable {P:Env} {r:Rec} {s:Bool}
theorem zVA {A:List Nat} {T T':Tm} (H:zET A T T') (d:Option Tmp) (v:Value):zET (zm5 d A) (putDst T d v) (putDst T' d v):=by
 unfold zm5 putDst
 cases d with
 | none=>exact H
 | some d=>
  intro t ht
  simp only [Tm.get_put]
  by_cases e:t=d
  ·simp [e]
  ·rw [if_neg e,if_neg e]
   exact H t ((List.mem_cons.1 ht).resolve_left e)
theorem zih {A:List Nat} {T T':Tm} {all:List Oper} {o:Oper} (H:zET A T T') (hr:subN (zGX all o) A=true):zLf o.op.operands.toList T T':=
 fun t ht=>H t (subN_iff.1 hr t (List.mem_append_left _ (mem_tmpsOf.2 ht)))
theorem zGy {A:List Nat} {T T':Tm} {all:List Oper} {o:Oper} (H:zET A T T') (hr:subN (zGX all o) A=true) {j:Nat} {w:Bool} (hg:o.guard=some (j,w)) {d:Tmp} (hd:zSQ all j=some d):T.get d=T'.get d:=
 H d (subN_iff.1 hr d (List.mem_append_right _ (by rw [hg];simp [hd])))
theorem zFu {all:List Oper} {o:Oper} {T:Tm}:zCl o all T=match o.guard with
  | none=>some true
  | some (j,want)=>match zSQ all j with
   | some d=>(match T.get d with | .bool b=>some (b==want)|_=>some false)
   | none=>some false:=by
 unfold zCl zSQ
 split
 ·rename_i h;rw [h]
 ·rename_i j w h
  rw [h]
  simp only
  cases hj:lnth all j with
  | none=>rfl
  | some oj=>cases hd:oj.dst <;> simp only [hd] <;> rfl
theorem zTT {all:List Oper} {D:List Nat} {K:Tm->AH->Prop}:∀ {ops:List Oper} {A A':List Nat} {T T':Tm} {h:AH},zTH all A ops=some A'->zET A T T'->zSO P r s all ops T' h K->
  Ev s (evOps P r all ops ⟨T,h,D⟩) fun st=>∃ T1,zET A' st.T T1/\st.defs=D/\K T1 st.h
 | [],A,A',T,T',h,hA,H,hK=>by
  simp only [zTH,Option.some.injEq] at hA
  subst hA
  exact Ev.one ⟨T',H,rfl,hK⟩
 | o::rest,A,A',T,T',h,hA,H,hK=>by
  simp only [zTH] at hA
  cases hr:subN (zGX all o) A with
  | false=>rw [hr] at hA;cases hA
  | true=>
   rw [hr] at hA
   simp only [cond_true] at hA
   have aP:=zih H hr
   have key:∀ (v:Value) (h':AH),zSO P r s all rest (putDst T' o.dst v) h' K->Ev s (evOps P r all rest ⟨putDst T o.dst v,h',D⟩) fun st=>∃ T1,zET A' st.T T1/\st.defs=D/\K T1 st.h:=
    fun v h' hk=>zTT hA (zVA H o.dst v) hk
   have run:Ev s (evOp P r T o h) (fun x=>zSO P r s all rest (putDst T' o.dst x.1) x.2 K)->Ev s (R.andThen (evOp P r T o h) fun x=>evOps P r all rest (zhY T o.dst D x)) fun st=>∃ T1,zET A' st.T T1/\st.defs=D/\K T1 st.h:=
    fun hx=>Ev.andThen (hx.mono fun x hx=>key x.1 x.2 hx)
   have quiet:∀ {x:Option Value},EvO x (fun v=>zSO P r s all rest (putDst T' o.dst v) h K)->Ev s (v1 x h) (fun x=>zSO P r s all rest (putDst T' o.dst x.1) x.2 K):=by
    intro x hx
    obtain ⟨v,rfl,hv⟩:=hx.ex
    exact Ev.one hv
   have val:∀ {x:Option Value},(cls o.op=.pure\/cls o.op=.read)->evOp P r T o h=v1 x h->EvO (gdO all T' o x) (fun v=>zSO P r s all rest (putDst T' o.dst v) h K)->
     Ev s (evOps P r all (o::rest) ⟨T,h,D⟩) fun st=>∃ T1,zET A' st.T T1/\st.defs=D/\K T1 st.h:=by
    intro x _ hx hk
    simp only [evOps]
    rw [zFu]
    unfold gdO at hk
    split
    ·rename_i hw
     refine run ?_
     rw [hx]
     refine quiet ?_
     split at hw
     ·rename_i hg;rw [hg] at hk;exact hk
     ·rename_i j w hg
      rw [hg] at hk
      simp only at hk
      split at hw
      ·rename_i d hd
       rw [hd] at hk
       simp only at hk
       rw [zGy H hr hg hd] at hw
       split at hw
       ·rename_i b hb
        rw [hb] at hk
        simp only [Option.some.injEq] at hw
        simpa [gdB,hw] using hk
       ·cases hw
      ·cases hw
    ·rename_i hw
     refine key undef h ?_
     split at hw
     ·cases hw
     ·rename_i j w hg
      rw [hg] at hk
      simp only at hk
      split at hw
      ·rename_i d hd
       rw [hd] at hk
       simp only at hk
       rw [zGy H hr hg hd] at hw
       split at hw
       ·rename_i b hb
        rw [hb] at hk
        simp only [Option.some.injEq] at hw
        simpa [gdB,hw,zA] using hk
       ·rename_i cw
        have:gdB (T'.get d) w x=some undef:=by
         unfold gdB
         split
         ·rename_i b hb;exact absurd hb (cw b)
         ·rfl
        rw [this,zA] at hk
        exact hk
      ·rename_i hd
       rw [hd] at hk
       simpa [zA] using hk
    ·rename_i hw
     split at hw
     ·cases hw
     ·split at hw
      ·split at hw <;> cases hw
      ·cases hw
   simp only [zSO] at hK
   cases hc:cls o.op with
   | pure=>
    rw [hc] at hK
    simp only at hK
    have hK:=hK.imp (zUD fun v=>zHh)
    rw [← zE9 aP] at hK
    exact val (.inl hc) (by unfold evOp;rw [hc]) hK
   | read=>
    rw [hc] at hK
    simp only at hK
    have hK:=hK.imp (zUD fun v=>zE8)
    rw [← zDo aP] at hK
    exact val (.inr hc) (by unfold evOp;rw [hc]) hK
   | write=>
    rw [hc] at hK
    simp only at hK
    rw [zHg,← zGc aP] at hK
    have he:evOp P r T o h=evWrite P r T o h:=by unfold evOp;rw [hc]
    simp only [evOps]
    rw [zFu]
    unfold gdR at hK
    split
    ·rename_i hw
     refine run ?_
     rw [he]
     split at hw
     ·rename_i hg;rw [hg] at hK;exact hK
     ·rename_i j w hg
      rw [hg] at hK
      simp only at hK
      split at hw
      ·rename_i d hd
       rw [hd] at hK
       simp only at hK
       rw [zGy H hr hg hd] at hw
       split at hw
       ·rename_i b hb
        rw [hb] at hK
        simp only [Option.some.injEq] at hw
        simpa [gdW,hw] using hK
       ·cases hw
      ·cases hw
    ·rename_i hw
     refine key undef h ?_
     split at hw
     ·cases hw
     ·rename_i j w hg
      rw [hg] at hK
      simp only at hK
      split at hw
      ·rename_i d hd
       rw [hd] at hK
       simp only at hK
       rw [zGy H hr hg hd] at hw
       split at hw
       ·rename_i b hb
        rw [hb] at hK
        simp only [Option.some.injEq] at hw
        simpa [gdW,hw,zK] using hK
       ·rename_i cw
        have:∀ y,gdW (T'.get d) w y h=one (undef,h):=by
         intro y
         unfold gdW
         split
         ·rename_i b hb;exact absurd hb (cw b)
         ·rfl
        rw [this,zK] at hK
        exact hK
      ·rename_i hd
       rw [hd] at hK
       simpa [zK] using hK
    ·rename_i hw
     split at hw
     ·cases hw
     ·split at hw
      ·split at hw <;> cases hw
      ·cases hw
end Go.AM
end
end
section
noncomputable section
namespace Go.AM
open Go
structure RdK where
 i:Nat
 T:Tm
 o:Oper
 v:Value
 g:Option (Value×Bool)
def gOf (all:List Oper) (T:Tm) (o:Oper):Option (Value×Bool):=match o.guard with
 | none=>none
 | some (j,w)=>match zSQ all j with
  | some d=>some (T.get d,w)
  | none=>some (undef,w)
def gdG (g:Option (Value×Bool)) (x:Option Value):Option Value:=match g with
 | none=>x
 | some (g,w)=>gdB g w x
def zHv (all:List Oper) (p:PO) (T:Tm) (v:Value) (rds:List RdK):List RdK:=match cls p.o.op with
 | .read=>⟨p.i,T,p.o,v,gOf all T p.o⟩::rds
 | _=>rds
def zGG (bef:Nat):List RdK->List RdK
 | []=>[]
 | r::rs=>cond (zCX bef r.i) (zGG bef rs) (r::zGG bef rs)
def zVB (p:PO) (rds:List RdK):List RdK:=match p.o.guard with
 | none=>zGG p.bef rds
 | some _=>rds
def zCs (done:Nat):List PO->List PO->List (PO×List PO)
 | _,[]=>[]
 | pre,p::ps=>cond (zBU p done) ((p,pre++ps)::zCs done (pre++[p]) ps) (zCs done (pre++[p]) ps)
def joinAll:List (R St)->R St
 | []=>some []
 | a::l=>joinR a (joinAll l)
def zUS:List Prop->Prop
 | []=>True
 | [a]=>a
 | a::b::l=>a/\zUS (b::l)
section
variable (P:Env) (r:Rec) (s:Bool)
def zGV (all:List Oper) (h:AH):List PO->Tm->Nat->List RdK->(Tm->Nat->List RdK->List PO->Prop)->Prop
 | [],T,done,rds,K=>K T done rds []
 | p::ps,T,done,rds,K=>
  cond (zBU p done&&!zGA p.o.op)
   (EvO (gdO all T p.o (zDp P T p.o h)) fun v=>zGV all h ps (putDst T p.o.dst v) (zB3 done p.i) (zHv all p T v rds) K)
   (zGV all h ps T done rds fun T done rds rest=>K T done rds (p::rest))
def zdW (bef:Nat) (h:AH):List RdK->Prop->Prop
 | [],K=>K
 | rd::rs,K=>cond (zCX bef rd.i) (zdW bef h rs K) (EvO (gdG rd.g (zGJ P rd.T rd.o h)) fun v=>veq 100 v rd.v=true/\zdW bef h rs K)
def zQc (all:List Oper) (k:Tm->Nat->List RdK->List PO->AH->Prop) (p:PO) (T:Tm) (done:Nat) (rds:List RdK) (rest:List PO) (h:AH):Prop:=
 Ev s (gdR all T p.o (zFn P r T p.o h) h) fun x=>zdW P p.bef x.2 rds (k (putDst T p.o.dst x.1) (zB3 done p.i) (zVB p rds) rest x.2)
def zIv (all:List Oper) (k:Tm->Nat->List RdK->List PO->AH->Prop) (T:Tm) (done:Nat) (rds:List RdK) (h:AH) (rest:List PO):Prop:=
 match zCs done [] rest with
 | []=>False
 | [x]=>zQc P r s all k x.1 T done rds x.2 h
 | l=>s=false/\zUS (l.map fun x=>zQc P r s all k x.1 T done rds x.2 h)
def zNe (all:List Oper) (K:Tm->AH->Prop):Nat->Tm->Nat->List RdK->List PO->AH->Prop
 | 0,_,_,_,_,_=>False
 | f+1,T,done,rds,rest,h=>zGV P all h rest T done rds fun T done rds rest=>match rest with
  | []=>K T h
  | p::ps=>zIv P r s all (zNe all K f) T done rds h (p::ps)
def zOW (T:Tm) (o:Oper):Option Value:=match o.guard with
 | some _=>none
 | none=>match o.op with
  | .move x=>zAj T x
  | .assign x=>zAj T x
  | _=>none
def zis (all:List Oper):List Oper->Tm->AH->(Tm->AH->Prop)->Prop
 | [],T,h,K=>K T h
 | o::rest,T,h,K=>match zOW T o with
  | some v=>zis all rest (putDst T o.dst v) h K
  | none=>match cls o.op with
   | .pure=>EvO (gdO all T o (zDJ P T o)) fun v=>zis all rest (putDst T o.dst v) h K
   | .read=>EvO (gdO all T o (zGJ P T o h)) fun v=>zis all rest (putDst T o.dst v) h K
   | .write=>Ev s (gdR all T o (zFn P r T o h) h) fun x=>zis all rest (putDst T o.dst x.1) x.2 K
def zIR (all:List Oper) (h:AH):List PO->Tm->Nat->List RdK->(Tm->Nat->List RdK->List PO->Prop)->Prop
 | [],T,done,rds,K=>K T done rds []
 | p::ps,T,done,rds,K=>
  cond (zBU p done&&!zGA p.o.op)
   (match zOW T p.o with
    | some v=>zIR all h ps (putDst T p.o.dst v) (zB3 done p.i) (zHv all p T v rds) K
    | none=>EvO (gdO all T p.o (zDp P T p.o h)) fun v=>zIR all h ps (putDst T p.o.dst v) (zB3 done p.i) (zHv all p T v rds) K)
   (zIR all h ps T done rds fun T done rds rest=>K T done rds (p::rest))
def zdw (all:List Oper) (K:Tm->AH->Prop):Nat->Tm->Nat->List RdK->List PO->AH->Prop
 | 0,_,_,_,_,_=>False
 | f+1,T,done,rds,rest,h=>zIR P all h rest T done rds fun T done rds rest=>match rest with
  | []=>K T h
  | p::ps=>zIv P r s all (zdw all K f) T done rds h (p::ps)
def rdD (A:List Nat) (all:List Oper) (ps:List PO) (p:PO):Bool:=
 (zGX all p.o).all fun t=>zhc t A||ps.any fun q=>zCX p.dep q.i&&zBH q t
def chkD (A:List Nat) (all:List Oper):Bool:=(prep 0 [] all).all (rdD A all (prep 0 [] all))
def zNd:List Oper->List Nat->List Nat
 | [],A=>A
 | o::os,A=>zm5 o.dst (zNd os A)
end
variable {P:Env} {r:Rec} {s:Bool}
theorem EvO.mono {α:Type} {x:Option α} {K K':α->Prop} (h:EvO x K) (hK:∀ a,K a->K' a):EvO x K':=let ⟨_,e,k⟩:=h.ex;.of e (hK _ k)
theorem zK5 {all:List Oper} {T:Tm} {o:Oper} {v:Value} (hm:zOW T o=some v) (h:AH):cls o.op=.pure/\gdO all T o (zDJ P T o)=some v/\gdO all T o (zDp P T o h)=some v:=by
 unfold zOW at hm
 split at hm
 ·cases hm
 ·rename_i hg
  split at hm
  ·rename_i x hx
   have hc:cls o.op=.pure:=by rw [hx];rfl
   have hp:zDJ P T o=some v:=by unfold zDJ;rw [hx];exact hm
   refine ⟨hc,?_,?_⟩
   ·unfold gdO;rw [hg];exact hp
   ·unfold gdO zDp;rw [hg,hc];exact hp
  ·rename_i x hx
   have hc:cls o.op=.pure:=by rw [hx];rfl
   have hp:zDJ P T o=some v:=by unfold zDJ;rw [hx];exact hm
   refine ⟨hc,?_,?_⟩
   ·unfold gdO;rw [hg];exact hp
   ·unfold gdO zDp;rw [hg,hc];exact hp
  ·cases hm
theorem zFY {all:List Oper}:∀ {l:List Oper} {T:Tm} {h:AH} {K:Tm->AH->Prop},zis P r s all l T h K->zSO P r s all l T h K
 | [],_,_,_,hh=>hh
 | o::rest,T,h,K,hh=>by
  simp only [zis] at hh
  simp only [zSO]
  split at hh
  ·rename_i v hv
   obtain ⟨a,b,_⟩:=zK5 (P:=P) (all:=all) hv h
   rw [a]
   simp only
   rw [b]
   exact zFY hh
  ·split at hh
   ·rename_i hc;(try rw [hc]);exact EvO.mono hh fun _ k=>zFY k
   ·rename_i hc;(try rw [hc]);exact EvO.mono hh fun _ k=>zFY k
   ·rename_i hc;(try rw [hc]);exact Ev.mono hh fun _ k=>zFY k
theorem zEW {all:List Oper} {h:AH}:∀ {ps:List PO} {T:Tm} {done:Nat} {rds:List RdK} {K K':Tm->Nat->List RdK->List PO->Prop},(∀ T d r l,K T d r l->K' T d r l)->zIR P all h ps T done rds K->zGV P all h ps T done rds K'
 | [],_,_,_,_,_,hK,hh=>hK _ _ _ _ hh
 | p::ps,T,done,rds,K,K',hK,hh=>by
  simp only [zIR] at hh
  simp only [zGV]
  cases hr:(zBU p done&&!zGA p.o.op) with
  | false=>
   rw [hr] at hh
   exact zEW (fun _ _ _ _ k=>hK _ _ _ _ k) hh
  | true=>
   rw [hr] at hh
   simp only [cond_true] at hh ⊢
   split at hh
   ·rename_i v hv
    rw [(zK5 (P:=P) (all:=all) hv h).2.2]
    exact zEW hK hh
   ·exact EvO.mono hh fun _ k=>zEW hK k
theorem zHI {bef:Nat} {h:AH} {K K':Prop} (hK:K->K'):∀ {rs:List RdK},zdW P bef h rs K->zdW P bef h rs K'
 | [],hh=>hK hh
 | rd::rs,hh=>by
  simp only [zdW] at hh ⊢
  cases hb:zCX bef rd.i with
  | true=>rw [hb] at hh;exact zHI hK hh
  | false=>rw [hb] at hh;exact EvO.mono hh fun _ k=>⟨k.1,zHI hK k.2⟩
theorem zI2 {α:Type} {f g:α->Prop} (h:∀ a,f a->g a):∀ {l:List α},zUS (l.map f)->zUS (l.map g)
 | [],hh=>hh
 | [a],hh=>h a hh
 | a::b::l,hh=>⟨h a hh.1,zI2 h (l:=b::l) hh.2⟩
theorem zNU {all:List Oper} {k k':Tm->Nat->List RdK->List PO->AH->Prop} (hk:∀ T d r l h,k T d r l h->k' T d r l h) {T:Tm} {done:Nat} {rds:List RdK} {h:AH} {rest:List PO} (hh:zIv P r s all k T done rds h rest):zIv P r s all k' T done rds h rest:=by
 have one:∀ x:PO×List PO,zQc P r s all k x.1 T done rds x.2 h->zQc P r s all k' x.1 T done rds x.2 h:=fun x hx=>Ev.mono hx fun _ kx=>zHI (hk _ _ _ _ _) kx
 unfold zIv at hh ⊢
 generalize zCs done [] rest=l at hh ⊢
 match l,hh with
 | [],hh=>exact hh
 | [x],hh=>exact one x hh
 | a::b::l,hh=>exact ⟨hh.1,zI2 one (l:=a::b::l) hh.2⟩
theorem zLW {all:List Oper} {K:Tm->AH->Prop}:∀ {f:Nat} {T:Tm} {done:Nat} {rds:List RdK} {rest:List PO} {h:AH},zdw P r s all K f T done rds rest h->zNe P r s all K f T done rds rest h
 | 0,_,_,_,_,_,hh=>hh
 | f+1,T,done,rds,rest,h,hh=>by
  simp only [zdw] at hh
  simp only [zNe]
  refine zEW (fun T d r l kk=>?_) hh
  cases l with
  | nil=>exact kk
  | cons p ps=>exact zNU (fun _ _ _ _ _ k=>zLW k) kk
theorem zJ2 {all:List Oper} {k:DK} {T:Tm} {done:Nat} {rds:List Rd} {h:AH}:∀ (ps pre:List PO),fires P r all k T done rds h pre ps=joinAll ((zCs done pre ps).map fun x=>fire P r all k x.1 T done rds x.2 h)
 | [],_=>rfl
 | p::ps,pre=>by
  simp only [fires,zCs]
  cases zBU p done with
  | true=>simp only [cond_true,List.map_cons,joinAll];rw [zJ2 ps]
  | false=>simp only [cond_false];rw [zJ2 ps]
theorem Ev.joinAll {Q:St->Prop}:∀ {l:List (R St)},l≠[]->(s=true->l.length=1)->(∀ x∈l,Ev s x Q)->Ev s (zKo (AM.joinAll l)) Q:=by
 have base:∀ {l:List (R St)},l≠[]->(s=true->l.length=1)->(∀ x∈l,Ev s x Q)->Ev s (AM.joinAll l) Q:=by
  intro l
  induction l with
  | nil=>intro h;exact absurd rfl h
  | cons x l ih=>
   intro _ h1 h2
   obtain ⟨a,e,k1,k2,k3⟩:=h2 x (by simp)
   cases l with
   | nil=>simp only [AM.joinAll,e,joinR,List.append_nil];exact ⟨a,rfl,k1,k2,k3⟩
   | cons y l=>
    have hs:s=false:=by cases s with|false=>rfl|true=>have:=h1 rfl;simp at this
    obtain ⟨b,e',_,_,j3⟩:=ih (by simp) (fun h=>by rw [hs] at h;cases h) fun z hz=>h2 z (by simp at hz ⊢;exact .inr hz)
    simp only [AM.joinAll] at e' ⊢
    rw [e,e']
    exact ⟨a++b,rfl,by simp [k1],(fun h=>by rw [hs] at h;cases h),fun c hc=>(List.mem_append.1 hc).elim (k3 c) (j3 c)⟩
 intro l h1 h2 h3
 obtain ⟨a,e,k1,k2,k3⟩:=base h1 h2 h3
 rw [e]
 cases a with
 | nil=>exact absurd rfl k1
 | cons x xs=>exact ⟨x::xs,rfl,k1,k2,k3⟩
theorem zLY:∀ {l:List Prop},zUS l->∀ p∈l,p
 | [a],h,p,hp=>by simp at hp;rw [hp];exact h
 | a::b::l,h,p,hp=>by
  rcases List.mem_cons.1 hp with rfl|hp
  ·exact h.1
  ·exact zLY h.2 p hp
def zqm (A:List Nat) (PS:List PO) (done:Nat) (t:Nat):Prop:=t∈A\/∃ q∈PS,q.o.dst=some t/\done.testBit q.i=true
def AgreeD (A:List Nat) (PS:List PO) (done:Nat) (T T':Tm):Prop:=∀ t,zqm A PS done t->T.get t=T'.get t
inductive RdsR:List Rd->List RdK->Prop
 | nil:RdsR [] []
 | cons {i:Nat} {o:Oper} {v:Value} {g:Option (Value×Bool)} {T T':Tm} {l:List Rd} {l':List RdK} (h:zLf o.op.operands.toList T T') (hg:∀ x,gdG g x=x) (hs:RdsR l l'):RdsR (⟨i,T,o,v⟩::l) (⟨i,T',o,v,g⟩::l')
 | skip {r:RdK} {l:List Rd} {l':List RdK} (hs:RdsR l l'):RdsR l (r::l')
theorem RdsR.after {l:List Rd} {l':List RdK} (H:RdsR l l') (bef:Nat):RdsR (zHu bef l) (zGG bef l'):=by
 induction H with
 | nil=>exact .nil
 | @cons i o v g T T' l l' h hg hs ih=>
  simp only [zHu,List.filter_cons,zGG]
  cases zCX bef i with
  | true=>exact ih
  | false=>exact .cons h hg ih
 | @skip r l l' hs ih=>
  simp only [zGG]
  cases zCX bef r.i with
  | true=>exact ih
  | false=>exact .skip ih
theorem RdsR.drop {l:List Rd} {l':List RdK} (H:RdsR l l') (bef:Nat):RdsR (zHu bef l) l':=by
 induction H with
 | nil=>exact .nil
 | @cons i o v g T T' l l' h hg hs ih=>
  simp only [zHu,List.filter_cons]
  cases zCX bef i with
  | true=>exact .skip ih
  | false=>exact .cons h hg ih
 | @skip r l l' hs ih=>exact .skip ih
theorem zTI {bef:Nat} {h:AH} {K:Prop} {l:List Rd} {l':List RdK} (H:RdsR l l') (hk:zdW P bef h l' K):l.all (zk3 P bef h)=true/\K:=by
 induction H with
 | nil=>exact ⟨rfl,hk⟩
 | @cons i o v g T T' l l' hs hg _ ih=>
  simp only [zdW] at hk
  simp only [List.all_cons,Bool.and_eq_true]
  cases hb:zCX bef i with
  | true=>
   rw [hb] at hk
   obtain ⟨a,b⟩:=ih hk
   exact ⟨⟨by simp [zk3,hb],a⟩,b⟩
  | false=>
   rw [hb] at hk
   simp only [cond_false] at hk
   obtain ⟨u,e,hv,hk⟩:=hk.ex
   rw [hg] at e
   have e:=zE8 e
   obtain ⟨a,b⟩:=ih hk
   exact ⟨⟨by simp only [zk3,hb,Bool.false_or];rw [zDo hs,e];exact hv,a⟩,b⟩
 | @skip r l l' _ ih=>
  simp only [zdW] at hk
  cases hb:zCX bef r.i with
  | true=>rw [hb] at hk;exact ih hk
  | false=>
   rw [hb] at hk
   obtain ⟨u,_,_,hk⟩:=hk.ex
   exact ih hk
section
variable {A:List Nat} {all:List Oper} {PS:List PO}
theorem AgreeD.put {done:Nat} {T T':Tm} (H:AgreeD A PS done T T') {p:PO} (bt:∀ q∈PS,q.i=p.i->q.o=p.o) (v:Value):AgreeD A PS (zB3 done p.i) (putDst T p.o.dst v) (putDst T' p.o.dst v):=by
 intro t ht
 cases hd:p.o.dst with
 | none=>
  simp only [putDst]
  refine H t (ht.imp id ?_)
  rintro ⟨q,q1,q2,q3⟩
  refine ⟨q,q1,q2,?_⟩
  rw [zAN,Bool.or_eq_true,decide_eq_true_eq] at q3
  rcases q3 with h|h
  ·exact h
  ·rw [bt q q1 h.symm,hd] at q2;cases q2
 | some d=>
  simp only [putDst,Tm.get_put]
  by_cases e:t=d
  ·simp [e]
  ·rw [if_neg e,if_neg e]
   refine H t (ht.imp id ?_)
   rintro ⟨q,q1,q2,q3⟩
   refine ⟨q,q1,q2,?_⟩
   rw [zAN,Bool.or_eq_true,decide_eq_true_eq] at q3
   rcases q3 with h|h
   ·exact h
   ·rw [bt q q1 h.symm,hd] at q2;cases q2;exact absurd rfl e
theorem zOf {done:Nat} {T T':Tm} (H:AgreeD A PS done T T') {p:PO} (hr:zBU p done=true) (hc:rdD A all PS p=true):∀ t∈zGX all p.o,T.get t=T'.get t:=by
 intro t ht
 unfold rdD at hc
 rw [List.all_eq_true] at hc
 have:=hc t ht
 simp only [Bool.or_eq_true] at this
 rcases this with h|h
 ·exact H t (.inl (memN_iff.1 h))
 ·simp only [List.any_eq_true,Bool.and_eq_true] at h
  obtain ⟨q,q1,q2,q3⟩:=h
  rw [zFe] at q2
  exact H t (.inr ⟨q,q1,writes_iff.1 q3,(zFX p done).1 hr _ q2⟩)
theorem zOL {T T':Tm} {o:Oper} (h:∀ t∈zGX all o,T.get t=T'.get t):zLf o.op.operands.toList T T':=fun t ht=>h t (List.mem_append_left _ (mem_tmpsOf.2 ht))
theorem zLJ {T T':Tm} {o:Oper} (h:∀ t∈zGX all o,T.get t=T'.get t) {j:Nat} {w:Bool} (hg:o.guard=some (j,w)) {d:Tmp} (hd:zSQ all j=some d):T.get d=T'.get d:=
 h d (List.mem_append_right _ (by rw [hg];simp [hd]))
theorem zLQ {o:Oper} {T T':Tm} (H:zLf o.op.operands.toList T T') (h:AH):zCv P T o h=zCv P T' o h:=by
 unfold zCv
 split
 ·exact zE9 H
 ·exact zDo H h
 ·rfl
theorem RdsR.add {p:PO} {T T':Tm} (H:zLf p.o.op.operands.toList T T') (v:Value) {l:List Rd} {l':List RdK} (h:RdsR l l') (hg:∀ x,gdG (gOf all T' p.o) x=x):RdsR (zQp p T v l) (zHv all p T' v l'):=by
 unfold zQp zHv
 cases cls p.o.op with
 | read=>exact .cons H hg h
 | _=>exact h
theorem RdsR.add0 {p:PO} {T':Tm} (v:Value) {l:List Rd} {l':List RdK} (h:RdsR l l'):RdsR l (zHv all p T' v l'):=by
 unfold zHv
 cases cls p.o.op with
 | read=>exact .skip h
 | _=>exact h
theorem zjH {T:Tm} {o:Oper} (x:Option Value):gdO all T o x=gdG (gOf all T o) x:=by
 unfold gdO gOf
 cases o.guard with
 | none=>rfl
 | some y=>
  simp only
  cases zSQ all y.1 <;> rfl
theorem zGS {T T':Tm} {o:Oper} (hT:∀ j w d,o.guard=some (j,w)->zSQ all j=some d->T.get d=T'.get d) :
  (zCl o all T=some true/\(∀ x,gdG (gOf all T' o) x=x)/\∀ x h,gdR all T' o x h=x) ∨
  (zCl o all T=some false/\(∀ x,gdG (gOf all T' o) x=some undef)/\(∀ x h,gdR all T' o x h=one (undef,h))/\o.guard.isSome=true):=by
 rw [zFu]
 unfold gOf gdR
 cases hg:o.guard with
 | none=>exact .inl ⟨rfl,fun _=>rfl,fun _ _=>rfl⟩
 | some y=>
  simp only
  cases hd:zSQ all y.1 with
  | none=>exact .inr ⟨rfl,fun _=>rfl,fun _ _=>rfl,rfl⟩
  | some d=>
   have:=hT y.1 y.2 d hg hd
   simp only
   rw [this]
   cases hb:T'.get d with
   | bool b=>
    cases fT:(b==y.2) with
    | true=>exact .inl ⟨by simp [fT],fun x=>by simp [gdG,gdB,fT],fun x h=>by simp [gdW,fT]⟩
    | false=>exact .inr ⟨by simp [fT],fun x=>by simp [gdG,gdB,fT],fun x h=>by simp [gdW,fT],rfl⟩
   | _=>exact .inr ⟨rfl,fun _=>rfl,fun _ _=>rfl,rfl⟩
theorem zG9 (bt:∀ p∈PS,∀ q∈PS,q.i=p.i->q.o=p.o) (hc:∀ p∈PS,rdD A all PS p=true) {h:AH}:∀ {ps:List PO} {T T':Tm} {done:Nat} {rds:List Rd} {rds':List RdK} {K:Tm->Nat->List RdK->List PO->Prop},
  (∀ p∈ps,p∈PS)->AgreeD A PS done T T'->RdsR rds rds'->zGV P all h ps T' done rds' K->
  ∃ sw T1 rds1,zHA P all h ps T done rds=some sw/\AgreeD A PS sw.done sw.T T1/\RdsR sw.rds rds1/\K T1 sw.done rds1 sw.rest/\(∀ p∈ps,p∈sw.rest\/sw.done.testBit p.i=true)/\(∀ i,done.testBit i=true->sw.done.testBit i=true)/\∀ p∈sw.rest,p∈ps
 | [],T,T',done,rds,rds',K,_,H,hr,hk=>⟨⟨T,done,rds,[]⟩,T',rds',rfl,H,hr,hk,by simp,fun _ h=>h,by simp⟩
 | p::ps,T,T',done,rds,rds',K,cu,H,hr,hk=>by
  have hpP:=cu p (by simp)
  have iP:∀ q∈ps,q∈PS:=fun q hq=>cu q (by simp [hq])
  simp only [zGV] at hk
  simp only [zHA]
  cases dI:(zBU p done&&!zGA p.o.op) with
  | false=>
   rw [dI] at hk
   simp only [cond_false] at hk ⊢
   obtain ⟨sw,T1,rds1,e,k1,k2,k3,k4,k5,k6⟩:=zG9 bt hc iP H hr hk
   rw [e]
   refine ⟨_,T1,rds1,rfl,k1,k2,k3,?_,k5,?_⟩
   ·intro q hq
    rcases List.mem_cons.1 hq with rfl|hq
    ·exact .inl (by simp)
    ·exact (k4 q hq).imp (fun h=>by simp [h]) id
   ·intro q hq
    rcases List.mem_cons.1 hq with rfl|hq
    ·simp
    ·simp [k6 q hq]
  | true=>
   rw [dI] at hk
   simp only [cond_true] at hk ⊢
   have bv:zBU p done=true:=by simp only [Bool.and_eq_true] at dI;exact dI.1
   have dM:=zOf H bv (hc p hpP)
   have hs:=zOL dM
   have next:∀ (v:Value) (rds2:List Rd) (rds2':List RdK),RdsR rds2 rds2'->zGV P all h ps (putDst T' p.o.dst v) (zB3 done p.i) rds2' K->
     ∃ sw T1 rds1,zHA P all h ps (putDst T p.o.dst v) (zB3 done p.i) rds2=some sw/\AgreeD A PS sw.done sw.T T1/\RdsR sw.rds rds1/\K T1 sw.done rds1 sw.rest/\(∀ q∈p::ps,q∈sw.rest\/sw.done.testBit q.i=true)/\(∀ i,done.testBit i=true->sw.done.testBit i=true)/\∀ q∈sw.rest,q∈p::ps:=by
    intro v rds2 rds2' h2 hk2
    obtain ⟨sw,T1,rds1,e,k1,k2,k3,k4,k5,k6⟩:=zG9 bt hc iP (H.put (bt p hpP) v) h2 hk2
    refine ⟨sw,T1,rds1,e,k1,k2,k3,?_,fun i hi=>k5 i (by rw [zAN,hi];rfl),fun q hq=>by simp [k6 q hq]⟩
    intro q hq
    rcases List.mem_cons.1 hq with rfl|hq
    ·exact .inr (k5 _ (by rw [zAN];simp))
    ·exact k4 q hq
   obtain ⟨v,e,hv⟩:=hk.ex
   rw [zjH] at e
   rcases zGS (T:=T) (T':=T') (o:=p.o) (all:=all) (fun j w d hg hd=>zLJ dM hg hd) with ⟨hw,hg,_⟩|⟨hw,hg,_⟩
   ·rw [hg] at e
    have e:=zLR e
    rw [hw]
    simp only
    rw [zLQ hs,e]
    exact next v _ _ (hr.add hs v hg) hv
   ·rw [hg] at e
    cases e
    rw [hw]
    exact next undef _ _ (hr.add0 undef) hv
theorem zHV {done:Nat}:∀ {ps pre:List PO} {x:PO×List PO},x∈zCs done pre ps->x.1∈ps/\zBU x.1 done=true/\(∀ q,q∈x.2->q∈pre\/q∈ps)/\∀ q,(q∈pre\/q∈ps)->q=x.1\/q∈x.2
 | [],_,x,h=>by cases h
 | p::ps,pre,x,h=>by
  simp only [zCs] at h
  have rec':x∈zCs done (pre++[p]) ps->x.1∈p::ps/\zBU x.1 done=true/\(∀ q,q∈x.2->q∈pre\/q∈p::ps)/\∀ q,(q∈pre\/q∈p::ps)->q=x.1\/q∈x.2:=by
   intro h
   obtain ⟨a,b,c,d⟩:=zHV h
   refine ⟨by simp [a],b,fun q hq=>?_,fun q hq=>?_⟩
   ·rcases c q hq with h|h
    ·simp at h;rcases h with h|h
     ·exact .inl h
     ·exact .inr (by simp [h])
    ·exact .inr (by simp [h])
   ·refine d q ?_
    rcases hq with h|h
    ·exact .inl (by simp [h])
    ·rcases List.mem_cons.1 h with rfl|h
     ·exact .inl (by simp)
     ·exact .inr h
  cases hr:zBU p done with
  | false=>rw [hr] at h;exact rec' h
  | true=>
   rw [hr] at h
   simp only [cond_true] at h
   rcases List.mem_cons.1 h with rfl|h
   ·refine ⟨by simp,hr,fun q hq=>?_,fun q hq=>?_⟩
    ·simp at hq;rcases hq with h|h
     ·exact .inl h
     ·exact .inr (by simp [h])
    ·rcases hq with h|h
     ·exact .inr (by simp [h])
     ·rcases List.mem_cons.1 h with rfl|h
      ·exact .inl rfl
      ·exact .inr (by simp [h])
   ·exact rec' h
theorem zHn {t:Nat}:∀ {os:List Oper},t∈zNd os A->t∈A\/∃ o∈os,o.dst=some t
 | [],h=>.inl h
 | o::os,h=>by
  simp only [zNd,zm5] at h
  split at h
  ·rename_i d hd
   rcases List.mem_cons.1 h with rfl|h
   ·exact .inr ⟨o,by simp,hd⟩
   ·rcases zHn h with h|⟨q,a,b⟩
    ·exact .inl h
    ·exact .inr ⟨q,by simp [a],b⟩
  ·rcases zHn h with h|⟨q,a,b⟩
   ·exact .inl h
   ·exact .inr ⟨q,by simp [a],b⟩
theorem zOz (bt:∀ p∈PS,∀ q∈PS,q.i=p.i->q.o=p.o) (aA:∀ o∈all,∃ p∈PS,p.o=o) (hc:∀ p∈PS,rdD A all PS p=true) {D:List Nat} {K:Tm->AH->Prop} :
  ∀ {f:Nat} {T T':Tm} {done:Nat} {rds:List Rd} {rds':List RdK} {rest:List PO} {h:AH},(∀ p∈rest,p∈PS)->(∀ p∈PS,p∈rest\/done.testBit p.i=true)->AgreeD A PS done T T'->RdsR rds rds'->
  zNe P r s all K f T' done rds' rest h->Ev s (drawRun P r all D f T done rds rest h) fun st=>∃ T1,zET (zNd all A) st.T T1/\st.defs=D/\K T1 st.h
 | 0,_,_,_,_,_,_,_,_,_,_,_,hk=>hk.elim
 | f+1,T,T',done,rds,rds',rest,h,bQ,hinv,H,hr,hk=>by
  simp only [zNe] at hk
  simp only [drawRun]
  obtain ⟨sw,T1,rds1,e,k1,k2,k3,k4,k5,k6⟩:=zG9 bt hc bQ H hr hk
  rw [e]
  simp only
  have fI:∀ p∈PS,p∈sw.rest\/sw.done.testBit p.i=true:=fun p hp=>(hinv p hp).elim (fun h=>k4 p h) fun h=>.inr (k5 _ h)
  cases hrs:sw.rest with
  | nil=>
   rw [hrs] at k3
   refine Ev.one ⟨T1,?_,rfl,k3⟩
   intro t ht
   refine k1 t ?_
   rcases zHn ht with h|⟨o,ho,hd⟩
   ·exact .inl h
   ·obtain ⟨p,hp,rfl⟩:=aA o ho
    refine .inr ⟨p,hp,hd,?_⟩
    rcases fI p hp with h|h
    ·rw [hrs] at h;cases h
    ·exact h
  | cons p0 ps0=>
   rw [hrs] at k3
   simp only at k3 ⊢
   rw [zJ2]
   have fire1:∀ x∈zCs sw.done [] (p0::ps0),zQc P r s all (zNe P r s all K f) x.1 T1 sw.done rds1 x.2 h->Ev s (fire P r all (drawRun P r all D f) x.1 sw.T sw.done sw.rds x.2 h) fun st=>∃ T1,zET (zNd all A) st.T T1/\st.defs=D/\K T1 st.h:=by
    intro x hx hk
    obtain ⟨m1,m2,m3,m4⟩:=zHV hx
    have hxP:x.1∈PS:=bQ _ (k6 _ (by rw [hrs];exact m1))
    have dz:=zOf k1 m2 (hc _ hxP)
    have hs:=zOL dz
    have sub:∀ p∈x.2,p∈PS:=fun p hp=>by
     rcases m3 p hp with h|h
     ·cases h
     ·exact bQ _ (k6 _ (by rw [hrs];exact h))
    have inv2:∀ p∈PS,p∈x.2\/(zB3 sw.done x.1.i).testBit p.i=true:=fun p hp=>by
     rcases fI p hp with h|h
     ·rw [hrs] at h
      rcases m4 p (.inr h) with rfl|h
      ·exact .inr (by rw [zAN];simp)
      ·exact .inl h
     ·exact .inr (by rw [zAN,h];rfl)
    have go:∀ (v:Value) (h':AH) (l:List Rd) (l':List RdK),RdsR l l'->zNe P r s all K f (putDst T1 x.1.o.dst v) (zB3 sw.done x.1.i) l' x.2 h'->
      Ev s (drawRun P r all D f (putDst sw.T x.1.o.dst v) (zB3 sw.done x.1.i) l x.2 h') fun st=>∃ T1,zET (zNd all A) st.T T1/\st.defs=D/\K T1 st.h:=
     fun v h' l l' hl hk=>zOz bt aA hc sub inv2 (k1.put (bt _ hxP) v) hl hk
    unfold zQc at hk
    rcases zGS (T:=sw.T) (T':=T1) (o:=x.1.o) (all:=all) (fun j w d hg hd=>zLJ dz hg hd) with ⟨hw,_,hg⟩|⟨hw,_,hg,iY⟩
    ·rw [hg] at hk
     unfold fire
     rw [hw]
     simp only
     rw [zGc hs,← zHg]
     refine Ev.andThen (hk.mono fun y hy=>?_)
     obtain ⟨q1,q2⟩:=zTI k2 hy
     unfold zUJ
     rw [q1]
     refine go y.1 y.2 _ _ ?_ q2
     unfold zVB
     split
     ·exact k2.after _
     ·exact k2.drop _
    ·rw [hg,zK] at hk
     obtain ⟨_,q2⟩:=zTI k2 hk
     unfold fire
     rw [hw]
     refine go undef h _ _ ?_ q2
     unfold zVB
     split
     ·rename_i hn;rw [hn] at iY;cases iY
     ·exact k2
   unfold zIv at k3
   cases hl:zCs sw.done [] (p0::ps0) with
   | nil=>rw [hl] at k3;exact k3.elim
   | cons x l=>
    refine Ev.joinAll (by simp) ?_ ?_
    ·intro hs
     rw [hl] at k3
     cases l with
     | nil=>rfl
     | cons y l=>simp only at k3;rw [hs] at k3;cases k3.1
    ·intro z hz
     simp only [List.mem_map] at hz
     obtain ⟨y,hy,rfl⟩:=hz
     refine fire1 y (by rw [hl];exact hy) ?_
     rw [hl] at k3
     cases l with
     | nil=>simp at hy;subst hy;exact k3
     | cons x' l=>exact zLY k3.2 _ (List.mem_map.2 ⟨y,hy,rfl⟩)
end
end Go.AM
end
end
section
noncomputable section
namespace Go.AM
open Go
def sub:Code->List Nat->Code
 | c,[]=>c
 | .seq a b,i::p=>cond (Nat.beq i 0) (sub a p) (sub b p)
 | .cond _ a b,i::p=>cond (Nat.beq i 0) (sub a p) (sub b p)
 | .block _ c,_::p=>sub c p
 | .loop c,_::p=>sub c p
 | _,_::_=>.skip
section
variable (P:Env) (s:Bool) (ro:Option Nat)
def ctx:Code->List Nat->(Out->Prop)->Out->Prop
 | _,[],Q=>Q
 | .seq a b,i::p,Q=>cond (Nat.beq i 0) (ctx a p fun o=>Ev s (thenC (evC P (zY P) ro b) o) Q) (ctx b p Q)
 | .cond _ a b,i::p,Q=>cond (Nat.beq i 0) (ctx a p Q) (ctx b p Q)
 | .block id c,_::p,Q=>ctx c p fun o=>Ev s (zDw id o) Q
 | .loop c,_::p,Q=>ctx c p fun o=>Ev s (thenC ((zY P).loop ro c) o) Q
 | _,_::_,_=>fun _=>False
def At (B:Code) (Q:Out->Prop) (p:List Nat) (st:St):Prop:=Ev s (evC P (zY P) ro (sub B p) st) (ctx P s ro B p Q)
end
inductive Wh where
 | fin
 | at (p:List Nat)
 | out
 | bad
def Wh.push (i:Nat):Wh->Wh
 | .at p=>.at (i::p)
 | w=>w
def Wh.finAt (p:List Nat):Wh->Wh
 | .fin=>.at p
 | w=>w
def nx:Code->List Nat->Wh
 | _,[]=>.fin
 | .seq a b,i::p=>cond (Nat.beq i 0) (((nx a p).push 0).finAt [1]) ((nx b p).push 1)
 | .cond _ a b,i::p=>cond (Nat.beq i 0) ((nx a p).push 0) ((nx b p).push 1)
 | .block _ c,_::p=>(nx c p).push 0
 | .loop c,_::p=>((nx c p).push 0).finAt []
 | _,_::_=>.bad
def Wh.endAt (b:Bool):Wh->Wh
 | .out=>cond b .fin .out
 | w=>w
def xt (id:Nat):Code->List Nat->Wh
 | _,[]=>.out
 | .seq a b,i::p=>cond (Nat.beq i 0) (((xt id a p).push 0).finAt [1]) ((xt id b p).push 1)
 | .cond _ a b,i::p=>cond (Nat.beq i 0) ((xt id a p).push 0) ((xt id b p).push 1)
 | .block id' c,_::p=>((xt id c p).push 0).endAt (Nat.beq id id')
 | .loop c,_::p=>((xt id c p).push 0).finAt []
 | _,_::_=>.bad
section
variable {P:Env} {s:Bool} {ro:Option Nat}
def AtW (P:Env) (s:Bool) (ro:Option Nat) (B:Code) (Q:Out->Prop) (w:Wh) (st:St):Prop:=match w with
 | .fin=>Q ⟨.normal,st⟩
 | .at p=>At P s ro B Q p st
 | _=>False
theorem b10:Nat.beq 1 0=false:=rfl
theorem b00:Nat.beq 0 0=true:=rfl
theorem zIF:∀ (c:Code) (p:List Nat) (Q:Out->Prop) (st:St),AtW P s ro c Q (nx c p) st->ctx P s ro c p Q ⟨.normal,st⟩
 | c,[],Q,st,h=>by simp only [nx] at h;simp only [ctx];exact h
 | .seq a b,i::p,Q,st,h=>by
  simp only [nx] at h
  simp only [ctx]
  cases hi:Nat.beq i 0 with
  | true=>
   simp only [hi,cond_true] at h ⊢
   refine zIF a p _ st ?_
   generalize nx a p=w at h
   cases w with
   | fin=>
    show Ev s (evC P (zY P) ro b st) Q
    simpa only [Wh.push,Wh.finAt,AtW,At,sub,ctx,b10,cond_false] using h
   | «at» q=>exact h
   | _=>exact h.elim
  | false=>
   simp only [hi,cond_false] at h ⊢
   refine zIF b p Q st ?_
   generalize nx b p=w at h
   cases w with
   | fin=>exact h
   | «at» q=>exact h
   | _=>exact h.elim
 | .cond _ a b,i::p,Q,st,h=>by
  simp only [nx] at h
  simp only [ctx]
  cases hi:Nat.beq i 0 with
  | true=>
   simp only [hi,cond_true] at h ⊢
   refine zIF a p Q st ?_
   generalize nx a p=w at h
   cases w with
   | fin=>exact h
   | «at» q=>exact h
   | _=>exact h.elim
  | false=>
   simp only [hi,cond_false] at h ⊢
   refine zIF b p Q st ?_
   generalize nx b p=w at h
   cases w with
   | fin=>exact h
   | «at» q=>exact h
   | _=>exact h.elim
 | .block id c,i::p,Q,st,h=>by
  simp only [nx] at h
  simp only [ctx]
  refine zIF c p _ st ?_
  generalize nx c p=w at h
  cases w with
  | fin=>exact Ev.one h
  | «at» q=>exact h
  | _=>exact h.elim
 | .loop c,i::p,Q,st,h=>by
  simp only [nx] at h
  simp only [ctx]
  refine zIF c p _ st ?_
  generalize nx c p=w at h
  cases w with
  | fin=>
   show Ev s ((zY P).loop ro c st) Q
   rw [zTZ]
   exact h
  | «at» q=>exact h
  | _=>exact h.elim
 | .skip,_::_,_,_,h=>by simp [nx,AtW] at h
 | .region ..,_::_,_,_,h=>by simp [nx,AtW] at h
 | .rangeFunc ..,_::_,_,_,h=>by simp [nx,AtW] at h
 | .exit _,_::_,_,_,h=>by simp [nx,AtW] at h
 | .scope _,_::_,_,_,h=>by simp [nx,AtW] at h
 | .label _,_::_,_,_,h=>by simp [nx,AtW] at h
 | .goto _,_::_,_,_,h=>by simp [nx,AtW] at h
 | .ret,_::_,_,_,h=>by simp [nx,AtW] at h
 | .refuse _,_::_,_,_,h=>by simp [nx,AtW] at h
def AtX (P:Env) (s:Bool) (ro:Option Nat) (B:Code) (Q:Out->Prop) (id:Nat) (w:Wh) (st:St):Prop:=match w with
 | .out=>Q ⟨.exit id,st⟩
 | w=>AtW P s ro B Q w st
theorem zKc (id:Nat):∀ (c:Code) (p:List Nat) (Q:Out->Prop) (st:St),AtX P s ro c Q id (xt id c p) st->ctx P s ro c p Q ⟨.exit id,st⟩
 | c,[],Q,st,h=>by simp only [xt] at h;simp only [ctx];exact h
 | .seq a b,i::p,Q,st,h=>by
  simp only [xt] at h
  simp only [ctx]
  cases hi:Nat.beq i 0 with
  | true=>
   simp only [hi,cond_true] at h ⊢
   refine zKc id a p _ st ?_
   generalize xt id a p=w at h
   cases w with
   | fin=>
    show Ev s (evC P (zY P) ro b st) Q
    simpa only [Wh.push,Wh.finAt,AtX,AtW,At,sub,ctx,b10,cond_false] using h
   | «at» q=>exact h
   | out=>exact Ev.one h
   | bad=>exact h.elim
  | false=>
   simp only [hi,cond_false] at h ⊢
   refine zKc id b p Q st ?_
   generalize xt id b p=w at h
   cases w with
   | fin=>exact h
   | «at» q=>exact h
   | out=>exact h
   | bad=>exact h
 | .cond _ a b,i::p,Q,st,h=>by
  simp only [xt] at h
  simp only [ctx]
  cases hi:Nat.beq i 0 with
  | true=>
   simp only [hi,cond_true] at h ⊢
   refine zKc id a p Q st ?_
   generalize xt id a p=w at h
   cases w with
   | fin=>exact h
   | «at» q=>exact h
   | out=>exact h
   | bad=>exact h
  | false=>
   simp only [hi,cond_false] at h ⊢
   refine zKc id b p Q st ?_
   generalize xt id b p=w at h
   cases w with
   | fin=>exact h
   | «at» q=>exact h
   | out=>exact h
   | bad=>exact h
 | .block id' c,i::p,Q,st,h=>by
  simp only [xt] at h
  simp only [ctx]
  refine zKc id c p _ st ?_
  generalize xt id c p=w at h
  cases w with
  | fin=>exact Ev.one h
  | «at» q=>exact h
  | out=>
   show Ev s (zDw id' ⟨.exit id,st⟩) Q
   unfold zDw
   cases hid:Nat.beq id id' with
   | true=>
    simp only [Wh.push,Wh.endAt,hid,cond_true] at h
    simp only [hid,cond_true]
    exact Ev.one h
   | false=>
    simp only [Wh.push,Wh.endAt,hid,cond_false] at h
    simp only [hid,cond_false]
    exact Ev.one h
  | bad=>exact h.elim
 | .loop c,i::p,Q,st,h=>by
  simp only [xt] at h
  simp only [ctx]
  refine zKc id c p _ st ?_
  generalize xt id c p=w at h
  cases w with
  | fin=>
   show Ev s ((zY P).loop ro c st) Q
   rw [zTZ]
   exact h
  | «at» q=>exact h
  | out=>exact Ev.one h
  | bad=>exact h.elim
 | .skip,_::_,_,_,h=>h.elim
 | .region ..,_::_,_,_,h=>h.elim
 | .rangeFunc ..,_::_,_,_,h=>h.elim
 | .exit _,_::_,_,_,h=>h.elim
 | .scope _,_::_,_,_,h=>h.elim
 | .label _,_::_,_,_,h=>h.elim
 | .goto _,_::_,_,_,h=>h.elim
 | .ret,_::_,_,_,h=>h.elim
 | .refuse _,_::_,_,_,h=>h.elim
theorem zHG:∀ (c:Code) (p:List Nat) (Q:Out->Prop) (st:St),sub c p=.ret->Q ⟨.ret,st⟩->ctx P s ro c p Q ⟨.ret,st⟩
 | c,[],Q,st,_,h=>by simp only [ctx];exact h
 | .seq a b,i::p,Q,st,hs,h=>by
  simp only [ctx,sub] at hs ⊢
  cases hi:Nat.beq i 0 with
  | true=>rw [hi] at hs;exact zHG a p _ st hs (Ev.one h)
  | false=>rw [hi] at hs;exact zHG b p Q st hs h
 | .cond _ a b,i::p,Q,st,hs,h=>by
  simp only [ctx,sub] at hs ⊢
  cases hi:Nat.beq i 0 with
  | true=>rw [hi] at hs;exact zHG a p _ st hs h
  | false=>rw [hi] at hs;exact zHG b p Q st hs h
 | .block id' c,i::p,Q,st,hs,h=>by
  simp only [ctx,sub] at hs ⊢
  exact zHG c p _ st hs (Ev.one h)
 | .loop c,i::p,Q,st,hs,h=>by
  simp only [ctx,sub] at hs ⊢
  exact zHG c p _ st hs (Ev.one h)
 | .skip,_::_,_,_,h,_=>by simp [sub] at h
 | .region ..,_::_,_,_,h,_=>by simp [sub] at h
 | .rangeFunc ..,_::_,_,_,h,_=>by simp [sub] at h
 | .exit _,_::_,_,_,h,_=>by simp [sub] at h
 | .scope _,_::_,_,_,h,_=>by simp [sub] at h
 | .label _,_::_,_,_,h,_=>by simp [sub] at h
 | .goto _,_::_,_,_,h,_=>by simp [sub] at h
 | .ret,_::_,_,_,h,_=>by simp [sub] at h
 | .refuse _,_::_,_,_,h,_=>by simp [sub] at h
theorem zCg:∀ (c:Code) (p q:List Nat),sub c (p++q)=sub (sub c p) q
 | c,[],q=>by simp [sub]
 | .seq a b,i::p,q=>by
  simp only [sub,List.cons_append]
  cases Nat.beq i 0 <;> simp [zCg]
 | .cond _ a b,i::p,q=>by
  simp only [sub,List.cons_append]
  cases Nat.beq i 0 <;> simp [zCg]
 | .block _ c,i::p,q=>by simp only [sub,List.cons_append];exact zCg c p q
 | .loop c,i::p,q=>by simp only [sub,List.cons_append];exact zCg c p q
 | .skip,_::_,q=>by cases q <;> rfl
 | .region ..,_::_,q=>by cases q <;> rfl
 | .rangeFunc ..,_::_,q=>by cases q <;> rfl
 | .exit _,_::_,q=>by cases q <;> rfl
 | .scope _,_::_,q=>by cases q <;> rfl
 | .label _,_::_,q=>by cases q <;> rfl
 | .goto _,_::_,q=>by cases q <;> rfl
 | .ret,_::_,q=>by cases q <;> rfl
 | .refuse _,_::_,q=>by cases q <;> rfl
theorem zBj:∀ (c:Code) (p q:List Nat) (Q:Out->Prop),sub c p≠.skip->ctx P s ro c (p++q) Q=ctx P s ro (sub c p) q (ctx P s ro c p Q)
 | c,[],q,Q,_=>by simp [sub,ctx]
 | .seq a b,i::p,q,Q,h=>by
  simp only [sub,List.cons_append,ctx] at h ⊢
  cases hi:Nat.beq i 0 with
  | true=>rw [hi] at h;simp only [cond_true] at h ⊢;exact zBj a p q _ h
  | false=>rw [hi] at h;simp only [cond_false] at h ⊢;exact zBj b p q _ h
 | .cond _ a b,i::p,q,Q,h=>by
  simp only [sub,List.cons_append,ctx] at h ⊢
  cases hi:Nat.beq i 0 with
  | true=>rw [hi] at h;simp only [cond_true] at h ⊢;exact zBj a p q _ h
  | false=>rw [hi] at h;simp only [cond_false] at h ⊢;exact zBj b p q _ h
 | .block _ c,i::p,q,Q,h=>by simp only [sub,List.cons_append,ctx] at h ⊢;exact zBj c p q _ h
 | .loop c,i::p,q,Q,h=>by simp only [sub,List.cons_append,ctx] at h ⊢;exact zBj c p q _ h
 | .skip,_::_,q,_,h=>absurd rfl h
 | .region ..,_::_,q,_,h=>absurd rfl h
 | .rangeFunc ..,_::_,q,_,h=>absurd rfl h
 | .exit _,_::_,q,_,h=>absurd rfl h
 | .scope _,_::_,q,_,h=>absurd rfl h
 | .label _,_::_,q,_,h=>absurd rfl h
 | .goto _,_::_,q,_,h=>absurd rfl h
 | .ret,_::_,q,_,h=>absurd rfl h
 | .refuse _,_::_,q,_,h=>absurd rfl h
def rs (B:Code):Nat->Wh->Wh
 | 0,w=>w
 | n+1,.at q=>match sub B q with
  | .seq _ _=>rs B n (.at (q++[0]))
  | .block _ _=>rs B n (.at (q++[0]))
  | .loop _=>rs B n (.at (q++[0]))
  | .label _=>rs B n (nx B q)
  | .exit id=>(match xt id B q with
   | .out=>.at q
   | w=>rs B n w)
  | .skip=>rs B n (nx B q)
  | _=>.at q
 | _+1,w=>w
theorem zGi {B:Code} {Q:Out->Prop} {st:St}:∀ {n:Nat} {w:Wh},AtW P s ro B Q (rs B n w) st->AtW P s ro B Q w st
 | 0,w,h=>h
 | n+1,.fin,h=>h
 | n+1,.out,h=>h
 | n+1,.bad,h=>h
 | n+1,.at q,h=>by
  simp only [rs] at h
  have dn:∀ (c:Code),sub B q=c->c≠.skip->AtW P s ro B Q (.at (q++[0])) st->Ev s (evC P (zY P) ro (sub c [0]) st) (ctx P s ro c [0] (ctx P s ro B q Q)):=by
   intro c hc ah h
   simp only [AtW,At,zCg,hc] at h
   rw [zBj B q [0] Q (by rw [hc];exact ah),hc] at h
   exact h
  show Ev s (evC P (zY P) ro (sub B q) st) (ctx P s ro B q Q)
  split at h
  ·rename_i a b hc
   have:=dn _ hc (by simp) (zGi h)
   rw [hc]
   simp only [sub,ctx,b00,cond_true] at this
   simp only [evC]
   exact Ev.andThen this
  ·rename_i id c hc
   have:=dn _ hc (by simp) (zGi h)
   rw [hc]
   simp only [sub,ctx,b00,cond_true] at this
   simp only [evC]
   exact Ev.andThen this
  ·rename_i c hc
   have:=dn _ hc (by simp) (zGi h)
   rw [hc]
   simp only [sub,ctx,b00,cond_true] at this
   simp only [evC]
   exact Ev.andThen this
  ·rename_i l hc
   rw [hc]
   exact Ev.one (zIF B q Q st (zGi h))
  ·rename_i id hc
   have fin:AtX P s ro B Q id (xt id B q) st->Ev s (evC P (zY P) ro (sub B q) st) (ctx P s ro B q Q):=fun k=>by
    rw [hc]
    exact Ev.one (zKc id B q Q st k)
   cases hx:xt id B q with
   | out=>rw [hx] at h;exact h
   | fin=>rw [hx] at h fin;exact fin (zGi h)
   | «at» q'=>rw [hx] at h fin;exact fin (zGi h)
   | bad=>rw [hx] at h;cases n <;> exact h.elim
  ·rename_i hc
   rw [hc]
   exact Ev.one (zIF B q Q st (zGi h))
  ·exact h
structure Cx where
 P:Env
 s:Bool
 ro:Option Nat
 B:Code
 lv:List (List Nat×List Nat)
 rt:List Nat
 D:List Nat
def zLT:List Nat->List Nat->Bool
 | [],[]=>true
 | a::aas,b::bs=>Nat.beq a b&&zLT aas bs
 | _,_=>false
def zTY (p:List Nat):List (List Nat×List Nat)->List Nat
 | []=>[]
 | x::l=>cond (zLT x.1 p) x.2 (zTY p l)
abbrev KF:=Ex->List Value->AH->Prop
def zSR (C:Cx) (K:KF) (o:Out):Prop:=o.st.defs=C.D/\K o.ex (C.rt.map o.st.T.get) o.st.h
def SP (C:Cx) (K:KF) (p:List Nat) (L:List (Nat×Value)) (h:AH):Prop:=
 ∀ T,(∀ x∈L,T.get x.1=x.2)->At C.P C.s C.ro C.B (zSR C K) p ⟨T,h,C.D⟩
def BrK (v:Option Value) (A B:Prop):Prop:=match v with
 | some (.bool b)=>(b=true->A)/\(b=false->B)
 | _=>False
def zFA (C:Cx) (K:KF):Nat->Wh->Tm->AH->Prop
 | 0,_,_,_=>False
 | _+1,.fin,T,h=>K .normal (C.rt.map T.get) h
 | n+1,.at q,T,h=>match sub C.B q with
  | .cond c _ _=>BrK (zAj T c) (zFA C K n (rs C.B 60 (.at (q++[0]))) T h) (zFA C K n (rs C.B 60 (.at (q++[1]))) T h)
  | .ret=>K .ret (C.rt.map T.get) h
  | .exit id=>(match xt id C.B q with
   | .out=>K (.exit id) (C.rt.map T.get) h
   | _=>False)
  | .region _ _ _=>SP C K q (zjG T (zTY q C.lv)) h
  | .rangeFunc _ _ _ _=>SP C K q (zjG T (zTY q C.lv)) h
  | _=>False
 | _+1,_,_,_=>False
def zHQ (C:Cx):Nat->Wh->List Nat
 | 0,_=>[]
 | _+1,.fin=>C.rt
 | n+1,.at q=>match sub C.B q with
  | .cond c _ _=>zEq [c]++zHQ C n (rs C.B 60 (.at (q++[0])))++zHQ C n (rs C.B 60 (.at (q++[1])))
  | .ret=>C.rt
  | .exit _=>C.rt
  | _=>zTY q C.lv
 | _+1,_=>[]
def zdQ (C:Cx) (K:KF) (p:List Nat) (T:Tm) (h:AH):Prop:=match sub C.B p with
 | .region _ ops false=>zis C.P (zY C.P) C.s ops.toList ops.toList T h fun T h=>zFA C K 30 (rs C.B 60 (nx C.B p)) T h
 | .region _ ops true=>zdw C.P (zY C.P) C.s ops.toList (fun T h=>zFA C K 30 (rs C.B 60 (nx C.B p)) T h) (zBB ops.toList+1) T 0 [] (prep 0 [] ops.toList) h
 | _=>False
def zHP:List Nat->Bool
 | []=>true
 | a::aas=>!zhc a aas&&zHP aas
def zqE (C:Cx) (p:List Nat):Bool:=zHP (zTY p C.lv)&&match sub C.B p with
 | .region _ ops false=>(match zTH ops.toList (zTY p C.lv) ops.toList with
  | some A=>subN (zHQ C 30 (rs C.B 60 (nx C.B p))) A
  | none=>false)
 | .region _ ops true=>chkD (zTY p C.lv) ops.toList&&subN (zHQ C 30 (rs C.B 60 (nx C.B p))) (zNd ops.toList (zTY p C.lv))
 | _=>false
variable {C:Cx} {K:KF}
theorem zJm {A:List Nat} {T T':Tm} (H:zET A T T'):∀ {l:List Nat},(∀ t∈l,t∈A)->l.map T.get=l.map T'.get
 | [],_=>rfl
 | t::l,h=>by simp only [List.map_cons];rw [H t (h t (by simp)),zJm H fun u hu=>h u (by simp [hu])]
theorem zGE {A:List Nat} {T T':Tm} (H:zET A T T'):∀ {l:List Nat},(∀ t∈l,t∈A)->∀ x∈zjG T' l,T.get x.1=x.2
 | [],_,x,hx=>by cases hx
 | t::l,h,x,hx=>by
  rcases List.mem_cons.1 hx with rfl|hx
  ·exact H t (h t (by simp))
  ·exact zGE H (fun u hu=>h u (by simp [hu])) x hx
theorem zFo {T T':Tm} {h:AH}:∀ {n:Nat} {w:Wh},zET (zHQ C n w) T T'->zFA C K n w T' h->AtW C.P C.s C.ro C.B (zSR C K) w ⟨T,h,C.D⟩
 | 0,_,_,hk=>hk.elim
 | n+1,.fin,H,hk=>by
  simp only [zHQ] at H
  simp only [zFA] at hk
  refine ⟨rfl,?_⟩
  rw [zJm H fun _ h=>h]
  exact hk
 | n+1,.out,H,hk=>hk.elim
 | n+1,.bad,H,hk=>hk.elim
 | n+1,.at q,H,hk=>by
  simp only [zHQ] at H
  simp only [zFA] at hk
  show Ev C.s (evC C.P (zY C.P) C.ro (sub C.B q) ⟨T,h,C.D⟩) (ctx C.P C.s C.ro C.B q (zSR C K))
  have dn:∀ (i:Nat) (c:Code),sub C.B q=c->c≠.skip->AtW C.P C.s C.ro C.B (zSR C K) (.at (q++[i])) ⟨T,h,C.D⟩->Ev C.s (evC C.P (zY C.P) C.ro (sub c [i]) ⟨T,h,C.D⟩) (ctx C.P C.s C.ro c [i] (ctx C.P C.s C.ro C.B q (zSR C K))):=by
   intro i c hc ah h
   simp only [AtW,At,zCg,hc] at h
   rw [zBj C.B q [i] _ (by rw [hc];exact ah),hc] at h
   exact h
  split at hk
  ·rename_i c a b hc
   rw [hc] at H ⊢
   simp only [evC]
   have hop:zAj T c=zAj T' c:=zCM (xs:=[c]) (fun t ht=>H t (by simp [mem_tmpsOf.2 ht])) (by simp)
   rw [hop]
   unfold BrK at hk
   split at hk
   ·rename_i v hv
    rw [hv]
    simp only [zUT]
    cases v with
    | true=>
     have:=dn 0 _ hc (by simp) (zGi (zFo (fun t ht=>H t (by simp [ht])) (hk.1 rfl)))
     simp only [sub,ctx,b00,cond_true] at this
     exact this
    | false=>
     have:=dn 1 _ hc (by simp) (zGi (zFo (fun t ht=>H t (by simp [ht])) (hk.2 rfl)))
     simp only [sub,ctx,b10,cond_false] at this
     exact this
   ·exact hk.elim
  ·rename_i hc
   rw [hc] at H ⊢
   refine Ev.one (zHG C.B q _ _ hc ⟨rfl,?_⟩)
   simp only
   rw [zJm H fun _ h=>h]
   exact hk
  ·rename_i id hc
   rw [hc] at H ⊢
   split at hk
   ·rename_i hx
    refine Ev.one (zKc id C.B q _ _ ?_)
    rw [hx]
    refine ⟨rfl,?_⟩
    simp only
    rw [zJm H fun _ h=>h]
    exact hk
   ·exact hk.elim
  ·rename_i i ops d hc
   rw [hc] at H
   have:=hk T (zGE H fun _ h=>h)
   exact this
  ·rename_i f ps aas body hc
   rw [hc] at H
   have:=hk T (zGE H fun _ h=>h)
   exact this
  ·exact hk.elim
theorem zJa:∀ {L:List (Nat×Value)},zHP (L.map (·.1))=true->∀ x∈L,(zk L).get x.1=x.2
 | y::l,h,x,hx=>by
  simp only [List.map_cons,zHP,Bool.and_eq_true,Bool.not_eq_true'] at h
  simp only [zk,Tm.get_put]
  rcases List.mem_cons.1 hx with rfl|hx
  ·simp
  ·have:x.1≠y.1:=by
    intro e
    have:zhc y.1 (l.map (·.1))=true:=memN_iff.2 (by rw [← e];exact List.mem_map.2 ⟨x,hx,rfl⟩)
    rw [h.1] at this;cases this
   rw [if_neg this]
   exact zJa h.2 x hx
theorem zTN {all:List Oper} {k:Nat} {p:PO} (h:(prep 0 [] all)[k]?=some p):p.i=k/\all[k]?=some p.o:=⟨(zTO h).i,(zTO h).o⟩
theorem zPx (all:List Oper):(∀ p∈prep 0 [] all,∀ q∈prep 0 [] all,q.i=p.i->q.o=p.o)/\∀ o∈all,∃ p∈prep 0 [] all,p.o=o:=by
 constructor
 ·intro p hp q hq e
  obtain ⟨k,hk⟩:=List.mem_iff_getElem?.1 hp
  obtain ⟨j,hj⟩:=List.mem_iff_getElem?.1 hq
  have a:=zTN hk
  have b:=zTN hj
  have:j=k:=by rw [← a.1,← b.1,e]
  subst this
  rw [hk] at hj;cases hj;rfl
 ·intro o ho
  obtain ⟨k,hk⟩:=List.mem_iff_getElem?.1 ho
  have ab:k<(prep 0 [] all).length:=by
   rw [zE4]
   exact (List.getElem?_eq_some_iff.1 hk).1
  refine ⟨(prep 0 [] all)[k],List.getElem_mem ab,?_⟩
  have:=(zTN (List.getElem?_eq_getElem ab)).2
  rw [hk] at this;cases this;rfl
theorem zSs {p:List Nat} {L:List (Nat×Value)} {h:AH} (hc:zqE C p=true) (hL:L.map (·.1)=zTY p C.lv) (hk:zdQ C K p (zk L) h):SP C K p L h:=by
 intro T hT
 unfold zqE at hc
 rw [Bool.and_eq_true] at hc
 obtain ⟨hn,hc⟩:=hc
 have df:=zJa (L:=L) (by rw [hL];exact hn)
 have H:zET (zTY p C.lv) T (zk L):=by
  intro t ht
  rw [← hL] at ht
  obtain ⟨x,hx,rfl⟩:=List.mem_map.1 ht
  rw [hT x hx,df x hx]
 unfold zdQ at hk
 unfold At
 split at hk
 ·rename_i i ops hs
  rw [hs] at hc ⊢
  simp only at hc
  split at hc
  ·rename_i A hA
   simp only [evC,evRegion]
   refine Ev.andThen ((zTT (D:=C.D) hA H (zFY hk)).mono fun st af=>?_)
   obtain ⟨T1,a,b,c⟩:=af
   refine Ev.one ?_
   have:=zFo (T:=st.T) (fun t ht=>a t (subN_iff.1 hc t ht)) c
   have:=zIF C.B p _ _ (zGi this)
   rw [← b] at this
   exact this
  ·cases hc
 ·rename_i i ops hs
  rw [hs] at hc ⊢
  simp only [Bool.and_eq_true] at hc
  simp only [evC,evRegion]
  obtain ⟨f1,f2⟩:=zPx ops.toList
  have:=zOz (D:=C.D) f1 f2 (List.all_eq_true.1 hc.1) (rest:=prep 0 [] ops.toList) (done:=0) (rds:=[]) (rds':=[]) (T:=T) (fun _ h=>h) (fun p hp=>.inl hp)
   (fun t ht=>ht.elim (H t) fun ⟨q,_,_,h⟩=>by simp at h) .nil (zLW hk)
  refine Ev.andThen (this.mono fun st af=>?_)
  obtain ⟨T1,a,b,c⟩:=af
  refine Ev.one ?_
  have:=zFo (T:=st.T) (fun t ht=>a t (subN_iff.1 hc.2 t ht)) c
  have:=zIF C.B p _ _ (zGi this)
  rw [← b] at this
  exact this
 ·exact hk.elim
theorem zEf {T:Tm} {L:List (Nat×Value)} {h:AH} (hn:zHP (L.map (·.1))=true) (cZ:subN (zHQ C 30 (rs C.B 60 (.at []))) (L.map (·.1))=true) (hT:∀ x∈L,T.get x.1=x.2)
  (hk:zFA C K 30 (rs C.B 60 (.at [])) (zk L) h):Ev C.s (evC C.P (zY C.P) C.ro C.B ⟨T,h,C.D⟩) (zSR C K):=by
 have df:=zJa hn
 have H:zET (zHQ C 30 (rs C.B 60 (.at []))) T (zk L):=by
  intro t ht
  obtain ⟨x,hx,rfl⟩:=List.mem_map.1 (subN_iff.1 cZ t ht)
  rw [hT x hx,df x hx]
 have:=zGi (zFo H hk)
 simpa only [AtW,At,sub,ctx] using this
end
end Go.AM
end
end
section
noncomputable section
namespace Go.AM
open Go
def zh (fn:Func):Code:=match fn.body with
 | some c=>c
 | none=>.skip
def zii:List ResultVar->List Nat
 | []=>[]
 | .tmp t::rs=>t::zii rs
 | .cell a _::rs=>a::zii rs
def zGj (P:Env):List ResultVar->List Value->AH->Option (List Value)
 | [],_,_=>some []
 | .tmp _::rs,v::vs,h=>(match zGj P rs vs h with|some l=>some (v::l)|none=>none)
 | .cell _ t::rs,v::vs,h=>(match zDF P t v h,zGj P rs vs h with|some x,some l=>some (x::l)|_,_=>none)
 | _::_,[],_=>none
def zdV (l:List Value):Value:=match l with
 | [v]=>v
 | vs=>.tuple ⟨vs⟩
def zBt:Ex->Bool
 | .exit _=>false
 | _=>true
def KR (P:Env) (rs:List ResultVar) (R:Value->AH->Prop):KF:=fun ex vs h=>zBt ex=true/\EvO (zGj P rs vs h) fun l=>R (zdV l) h
def zdH:Nat->List Value->List (Nat×Value)
 | _,[]=>[]
 | k,v::vs=>(k,v)::zdH (k+1) vs
def AH.fresh (h:AH):AH:=⟨h.t,h.next,Nat.add h.next UNK⟩
@[simp] theorem zl8 (h:AH) (b:Nat):h.fresh.get b=h.get b:=rfl
@[simp] theorem zb (h:AH):h.fresh.next=h.next:=rfl
@[simp] theorem zCZ (h:AH):h.fresh.wm=h.next+UNK:=rfl
def AH.ok (h:AH):Prop:=h.wm<=h.next+UNK
theorem zAT (h:AH):h.fresh.ok:=Nat.le_refl _
theorem zCW {h:AH} (k:h.ok) (o:AObj):(h.new o).ok:=by unfold AH.ok at k ⊢;show h.wm<=h.next+1+UNK;omega
theorem zD2 {h:AH} (k:h.ok) (b:Nat) (o:Option AObj):(h.upd b o).ok:=Nat.le_trans (zDz h b o).1 k
section
variable {P:Env} {s:Bool}
theorem zF1 (T:Tm) (h:AH):∀ rs:List ResultVar,zCr P T h rs=zGj P rs ((zii rs).map T.get) h
 | []=>rfl
 | .tmp t::rs=>by simp only [zCr,zii,List.map_cons,zGj];rw [zF1 T h rs];rfl
 | .cell a t::rs=>by simp only [zCr,zii,List.map_cons,zGj];rw [zF1 T h rs];rfl
theorem zOA {T:Tm}:∀ {vs:List Value} {k:Nat},(∀ i v,vs[i]?=some v->T.get (k+i)=v)->∀ x∈zdH k vs,T.get x.1=x.2
 | [],_,_,x,hx=>by cases hx
 | v::vs,k,h,x,hx=>by
  rcases List.mem_cons.1 hx with rfl|hx
  ·exact h 0 v rfl
  ·exact zOA (k:=k+1) (fun i u hu=>by have:=h (i+1) u (by simpa using hu);rw [show k+1+i=k+(i+1) by omega];exact this) x hx
theorem zje {fn:Func} {C:Cx} (hP:C.P=P) (hs:C.s=s) (hC:C.B=zh fn/\C.ro=none/\C.rt=zii fn.results.toList/\C.D=[]) {args:List Value} {h:AH} {Rp:Value->AH->Prop}
  (cZ:subN (zHQ C 30 (rs C.B 60 (.at []))) ((zdH 0 args).map (·.1))=true) (aZ:zHP ((zdH 0 args).map (·.1))=true)
  (hk:zFA C (KR P fn.results.toList Rp) 30 (rs C.B 60 (.at [])) (zk (zdH 0 args)) h) :
  Ev s (R.andThen (evC P (zY P) none (zh fn) ⟨⟨fn.ntmps,zCT args 0 .e⟩,h,[]⟩) (zAc P fn)) fun x=>Rp x.1 x.2:=by
 obtain ⟨h1,h2,h3,h4⟩:=hC
 have hT:∀ x∈zdH 0 args,(Tm.get ⟨fn.ntmps,zCT args 0 .e⟩ x.1)=x.2:=by
  refine zOA fun i v hv=>?_
  unfold Tm.get
  simp only
  rw [zHc]
  have ab:i<args.length:=(List.getElem?_eq_some_iff.1 hv).1
  rw [if_pos ⟨Nat.zero_le _,by omega⟩]
  simp [hv]
 have:=zEf (C:=C) aZ cZ hT hk
 rw [hP,hs,h1,h2,h4] at this
 refine Ev.andThen (this.mono fun o ho=>?_)
 obtain ⟨hd,ah,ho⟩:=ho
 obtain ⟨l,e,hR⟩:=EvO.ex ho
 rw [h4] at hd
 rw [h3,← zF1] at e
 have aH:zAc P fn o=one (zdV l,o.st.h):=by
  unfold zAc
  cases ho:o.ex with
  | exit i=>rw [ho] at ah;cases ah
  | _=>
   simp only
   rw [hd]
   simp only [zCS,zCw,zFV,e]
   unfold zdV
   split <;> simp_all [v1]
 rw [aH]
 exact Ev.one hR
theorem zBf {f:FuncId} {fn:Func} {c:Code} {args:List Value} {h:AH} (hf:P.tab.fn.get f=some fn) (hb:fn.body=some c) (aK:P.sum f args h=none) (hl:Nat.ble (zBB args) fn.ntmps=true) :
  (zY P).call f args h=zED h.fresh h.wm (R.andThen (evC P (zY P) none (zh fn) ⟨⟨fn.ntmps,zCT args 0 .e⟩,h.fresh,[]⟩) (zAc P fn)):=by
 rw [zUa]
 unfold fnCall
 rw [hf]
 simp only [hb,aK,zDv,hl,cond_true,zh]
 rfl
def zt:Value->Bool
 | .int _ _=>true
 | .bool _=>true
 | _=>false
theorem zMo {v:Value} (h:zt v=true):zi v=true:=by cases v <;> first|rfl|cases h
theorem zPp {v:Value} (h:zt v=true):veq 1000 v v=true:=by
 cases v with
 | int k n=>show (decide (k=k)&&decide (n=n))=true;simp
 | bool b=>show (b==b)=true;simp
 | _=>cases h
theorem zPq {v:Value} (h:zt v=true):zDl 4 v=[]:=by cases v <;> first|rfl|cases h
def AH.back (h:AH):AH:=⟨h.t,h.next,cond (Nat.ble h.wm (h.next+UNK)) h.wm (h.next+UNK)⟩
theorem zNx {h:AH} (hw:h.ok):h.back=h:=by unfold AH.back;rw [ble_true.2 hw];rfl
theorem zLa {f:FuncId} {fn:Func} {c:Code} {args:List Value} {h:AH} {v0:Value} (aa:h.ok) (hf:P.tab.fn.get f=some fn) (hb:fn.body=some c) (aK:P.sum f args h=none) (hl:Nat.ble (zBB args) fn.ntmps=true) (hv:zt v0=true)
  (dh:Ev s (R.andThen (evC P (zY P) none (zh fn) ⟨⟨fn.ntmps,zCT args 0 .e⟩,h.fresh,[]⟩) (zAc P fn)) fun x=>x.1=v0/\h.next<=x.2.wm) :
  (zY P).call f args h=some [(v0,h)]:=by
 rw [zBf hf hb aK hl]
 obtain ⟨l,e,ah,_,cK⟩:=dh
 rw [e]
 simp only [zED,Option.some.injEq]
 have ei:∀ x∈l,zBL h.fresh x=(v0,h.fresh):=by
  intro x hx
  obtain ⟨a,b⟩:=cK x hx
  unfold zBL zEM
  rw [zb,ble_true.2 b,a,zMo hv]
  rfl
 have gM:zEM h.fresh (v0,h.fresh)=true:=ble_true.2 (by simp)
 have bJ:zD0 h.fresh l=[(v0,h.fresh)]:=by
  rcases zCL h.fresh l with ⟨x,hx,hs⟩|hs
  ·rw [hs,ei x (by rw [hx];simp)]
  ·rw [hs]
   have gE:l.map (zBL h.fresh)=l.map fun _=>(v0,h.fresh):=List.map_congr_left ei
   rw [gE]
   unfold zBp
   have:(l.map fun _=>(v0,h.fresh)).all (zEM h.fresh)=true:=by
    rw [List.all_map,List.all_eq_true]
    intro x _
    exact gM
   rw [this]
   simp only [cond_true,List.map_map]
   have hk:kept h.fresh (v0,h.fresh)=(v0,[],h.fresh):=by
    unfold kept
    simp only [zPq hv,zD6,zDA,List.foldr_nil]
   have ig:l.map (kept h.fresh ∘ fun _=>(v0,h.fresh))=l.map fun _=>((v0,[],h.fresh):zJT):=List.map_congr_left fun x _=>hk
   rw [ig]
   have gD:∀ (l:List (Value×AH)) (acc:List zJT),acc=[(v0,[],h.fresh)]->zD7 (l.map fun _=>((v0,[],h.fresh):zJT)) acc=[(v0,[],h.fresh)]:=by
    intro l
    induction l with
    | nil=>intro acc ha;exact ha
    | cons x l ih=>
     intro acc ha
     subst ha
     simp only [List.map_cons,zD7]
     have:([(v0,[],h.fresh)]:List zJT).any (zKR (v0,[],h.fresh))=true:=by
      simp [zKR,zPp hv,Nat.beq_refl]
     rw [this]
     exact ih _ rfl
   cases l with
   | nil=>exact absurd rfl ah
   | cons x l=>
    simp only [List.map_cons,zD7,List.any_nil,cond_false,List.nil_append]
    rw [gD l _ rfl]
    rfl
 rw [bJ]
 have:=zNx aa
 unfold AH.back at this
 simp only [List.map_cons,List.map_nil,zdF]
 show [(v0,(⟨h.t,h.next,cond (Nat.ble h.wm (h.next+UNK)) h.wm (h.next+UNK)⟩:AH))]=_
 rw [this]
theorem zI4 {f:FuncId} {fn:Func} {c:Code} {args:List Value} {h:AH} {v0:Value} (aa:h.ok) (hf:P.tab.fn.get f=some fn) (hb:fn.body=some c) (aK:P.sum f args h=none) (hl:Nat.ble (zBB args) fn.ntmps=true) (hv:zi v0=true)
  (dh:Ev true (R.andThen (evC P (zY P) none (zh fn) ⟨⟨fn.ntmps,zCT args 0 .e⟩,h.fresh,[]⟩) (zAc P fn)) fun x=>x.1=v0/\h.next<=x.2.wm) :
  (zY P).call f args h=some [(v0,h)]:=by
 rw [zBf hf hb aK hl]
 obtain ⟨l,e,ah,h1,cK⟩:=dh
 rw [e]
 match l,h1 rfl with
 | [x],_=>
  obtain ⟨a,b⟩:=cK x (by simp)
  have hr:zBL h.fresh x=(v0,h.fresh):=by
   unfold zBL zEM
   rw [zb,ble_true.2 b,a,hv]
   rfl
  show some [zdF h.wm (zBL h.fresh x)]=_
  rw [hr]
  have:=zNx aa
  unfold AH.back at this
  show some [(v0,(⟨h.t,h.next,cond (Nat.ble h.wm (h.next+UNK)) h.wm (h.next+UNK)⟩:AH))]=_
  rw [this]
theorem zQj {f:FuncId} {fn:Func} {c:Code} {args:List Value} {h:AH} {Rp:Value->Prop} (aa:h.ok) (hf:P.tab.fn.get f=some fn) (hb:fn.body=some c) (aK:P.sum f args h=none) (hl:Nat.ble (zBB args) fn.ntmps=true)
  (dh:Ev true (R.andThen (evC P (zY P) none (zh fn) ⟨⟨fn.ntmps,zCT args 0 .e⟩,h.fresh,[]⟩) (zAc P fn)) fun x=>(zi x.1=true/\Rp x.1)/\h.next<=x.2.wm) :
  ∃ v,Rp v/\(zY P).call f args h=some [(v,h)]:=by
 obtain ⟨l,e,ah,h1,cK⟩:=dh
 match l,h1 rfl with
 | [x],_=>
  obtain ⟨⟨a,b⟩,w⟩:=cK x (by simp)
  refine ⟨x.1,b,zI4 aa hf hb aK hl a ⟨[x],e,by simp,fun _=>rfl,fun y hy=>?_⟩⟩
  simp at hy;subst hy;exact ⟨rfl,w⟩
theorem zdz {f:FuncId} {fn:Func} {c:Code} {args:List Value} {h h1:AH} {v0:Value} (hf:P.tab.fn.get f=some fn) (hb:fn.body=some c) (aK:P.sum f args h=none) (hl:Nat.ble (zBB args) fn.ntmps=true)
  (dh:Ev true (R.andThen (evC P (zY P) none (zh fn) ⟨⟨fn.ntmps,zCT args 0 .e⟩,h.fresh,[]⟩) (zAc P fn)) fun x=>x=(v0,h1)) :
  (zY P).call f args h=some [zdF h.wm (zBL h.fresh (v0,h1))]:=by
 rw [zBf hf hb aK hl,Ev.single dh]
 rfl
theorem zUY {f:FuncId} {fn:Func} {c:Code} {args:List Value} {h:AH} {Rp:Value->AH->Prop} (hf:P.tab.fn.get f=some fn) (hb:fn.body=some c) (aK:P.sum f args h=none) (hl:Nat.ble (zBB args) fn.ntmps=true)
  (dh:Ev true (R.andThen (evC P (zY P) none (zh fn) ⟨⟨fn.ntmps,zCT args 0 .e⟩,h.fresh,[]⟩) (zAc P fn)) fun x=>(zi x.1=false\/x.2.wm<h.next)/\Rp x.1 ⟨x.2.t,x.2.next,cond (Nat.ble h.wm x.2.wm) h.wm x.2.wm⟩) :
  Ev true ((zY P).call f args h) fun x=>Rp x.1 x.2:=by
 rw [zBf hf hb aK hl]
 obtain ⟨l,e,ah,h1,cK⟩:=dh
 rw [e]
 match l,h1 rfl with
 | [x],_=>
  obtain ⟨a,b⟩:=cK x (by simp)
  have:zBL h.fresh x=x:=by
   unfold zBL
   rcases a with a|a
   ·rw [a];simp
   ·have:zEM h.fresh x=false:=ble_false.2 a
    rw [this];simp
  show Ev true (some [zdF h.wm (zBL h.fresh x)]) _
  rw [this,zP]
  exact b
end
end Go.AM
end
end
namespace Go.AM
open Go
noncomputable def zo (B:Code) (p:List Nat) (i:Nat):Oper:=match sub B p with
 | .region _ ops _=>(match lnth ops.toList i with|some o=>o|none=>default)
 | _=>default
def rfAs:Code->Code
 | .rangeFunc _ _ a _=>a
 | _=>.skip
def zlh:Code->Code
 | .rangeFunc _ _ _ b=>b
 | _=>.skip
section
variable {P:Env} {s:Bool}
theorem zBa (b:Bool) (A B:Prop):BrK (some (.bool b)) A B=((b=true->A)/\(b=false->B)):=rfl
theorem zz (A B:Prop):BrK (some (.bool true)) A B=A:=by simp [zBa]
theorem zj (A B:Prop):BrK (some (.bool false)) A B=B:=by simp [zBa]
theorem zAM (p:Prop) [Decidable p] (A B:Prop):BrK (some (.bool (decide p))) A B=((p->A)/\(¬ p->B)):=by simp [zBa]
theorem zKK (p:Prop) [Decidable p] (A B:Prop):BrK (some (.bool (!decide p))) A B=((¬ p->A)/\(p->B)):=by simp [zBa]
theorem zAS {t:Nat} {Rp:Value->AH->Prop} {ex:Ex} {v:Value} {h:AH}:KR P [.tmp t] Rp ex [v] h=(zBt ex=true/\Rp v h):=by
 simp only [KR,zGj,zA,zdV]
theorem zQX {t u:Nat} {Rp:Value->AH->Prop} {ex:Ex} {v w:Value} {h:AH}:KR P [.tmp t,.tmp u] Rp ex [v,w] h=(zBt ex=true/\Rp (.tuple #[v,w]) h):=by
 simp only [KR,zGj,zA,zdV]
theorem zSP {Rp:Value->AH->Prop} {ex:Ex} {h:AH}:KR P [] Rp ex [] h=(zBt ex=true/\Rp (.tuple #[]) h):=by
 simp only [KR,zGj,zA,zdV]
theorem zq4 {t a:Nat} {Rp:Value->AH->Prop} {ex:Ex} {v:Value} {h:AH}:KR P [.cell a t] Rp ex [v] h=(zBt ex=true/\EvO (zDF P t v h) fun x=>Rp x h):=by
 simp only [KR,zGj]
 cases zDF P t v h with
 | none=>simp only [zJ8]
 | some x=>simp only [zA,zdV]
theorem zX:(zBt .ret=true)=True:=by simp [zBt]
theorem zEE:(zBt .normal=true)=True:=by simp [zBt]
theorem zFK {r:Rec} {f:FuncId} {fs cs:Array Value} {args:List Value} {h:AH}:zR r (some (.func (.func f) fs cs)) (some args) h=r.call f (fs.toList++args++cs.toList) h:=rfl
theorem zMg {r:Rec} {l:Nat} {fs cs:Array Value} {args:List Value} {h:AH}:zR r (some (.func (.yield l) fs cs)) (some args) h=r.round l (fs.toList++args) h:=rfl
theorem zQ {r:Rec} {f:FuncId} {args:List Value} {h:AH}:zR r (some (.func (.func f) #[] #[])) (some args) h=r.call f args h:=by rw [zFK];simp
theorem zZ (t:TypeId) (a b:Int):zC P .lss t (.int .i64 a) (.int .i64 b)=some (.bool (decide (a<b))):=by
 show some (Value.bool (!ile b a))=_
 rw [zGC];congr 2
 by_cases h:a<b
 ·rw [decide_eq_true h,decide_eq_false (by omega)];rfl
 ·rw [decide_eq_false h,decide_eq_true (by omega)];rfl
theorem zAK (t:TypeId) (a b:Int):zC P .gtr t (.int .i64 a) (.int .i64 b)=some (.bool (decide (b<a))):=by
 show some (Value.bool (!ile a b))=_
 rw [zGC];congr 2
 by_cases h:b<a
 ·rw [decide_eq_true h,decide_eq_false (by omega)];rfl
 ·rw [decide_eq_false h,decide_eq_true (by omega)];rfl
theorem zBG (t:TypeId) (a b:Int):zC P .leq t (.int .i64 a) (.int .i64 b)=some (.bool (decide (a<=b))):=by
 show some (Value.bool (ile a b))=_
 rw [zGC]
theorem zAa (t:TypeId) (a b:Int):zC P .geq t (.int .i64 a) (.int .i64 b)=some (.bool (decide (b<=a))):=by
 show some (Value.bool (ile b a))=_
 rw [zGC]
theorem zAg (t:TypeId) (a b:Int):zC P .eql t (.int .i64 a) (.int .i64 b)=some (.bool (decide (a=b))):=by
 show some (Value.bool (ieq a b))=_
 rw [zDH];rfl
theorem zAp (t:TypeId) (a b:Int):zC P .neq t (.int .i64 a) (.int .i64 b)=some (.bool (!decide (a=b))):=by
 show some (Value.bool (!ieq a b))=_
 rw [zDH];rfl
def zC3 (n:Int):Prop:=-9223372036854775808<=n/\n<=9223372036854775807
theorem zDC {n:Int} (h:zC3 n):zB4 .i64 n=n:=by
 unfold zC3 at h
 cases n with
 | ofNat m=>
  have:Nat.ble m 9223372036854775807=true:=ble_true.2 (by have:=h.2;simp only [Int.ofNat_eq_natCast] at this;omega)
  simp only [zB4,this,if_true]
 | negSucc m=>
  have:Nat.ble m 9223372036854775807=true:=ble_true.2 (by have:=h.1;omega)
  simp only [zB4,this,if_true]
theorem zAD (t:TypeId) {a b:Int} (h:zC3 (a+b)):zC P .add t (.int .i64 a) (.int .i64 b)=some (.int .i64 (a+b)):=by
 show some (Value.int .i64 (zB4 .i64 (a+b)))=_
 rw [zDC h]
theorem zKO (t:TypeId) (a b:Int):zC P .add t (.int .i64 a) (.int .i64 b)=some (.int .i64 (zB4 .i64 (a+b))):=rfl
theorem zGf (t:TypeId) {a b:Int} (h:zC3 (a-b)):zC P .sub t (.int .i64 a) (.int .i64 b)=some (.int .i64 (a-b)):=by
 show some (Value.int .i64 (zB4 .i64 (a-b)))=_
 rw [zDC h]
theorem z6 (b:Bool):zAW .not (.bool b)=some (.bool !b):=rfl
theorem zJ (b:Bool) (x y:Option Value):zAB (some (.bool b)) x y=cond b x y:=rfl
theorem zM (b w:Bool) (x:Option Value):gdB (.bool b) w x=cond (b==w) x (some undef):=rfl
theorem zU (b w:Bool) (x:R (Value×AH)) (h:AH):gdW (.bool b) w x h=cond (b==w) x (one (undef,h)):=rfl
theorem zA1 (a:Addr):zv (some (.pointer (some a)))=some (.pointer (some a)):=rfl
theorem zAU {t e:TypeId} {z:Nat} (hu:und P t=some (.slice e)) (hz:zAe P e=some z) {b o len c k:Nat} (hk:k<len) :
  zE P t (some (.slice (some ⟨b,o,none⟩) len c)) (some (.int .i64 (k:Int)))=some (.pointer (some ⟨b,o+k*z,none⟩)):=by
 have ha:zFD (.int .i64 (k:Int))=some k:=rfl
 simp only [zE,zDS,hu,ha,hz,ble_true.2 (show k+1<=len by omega),cond_true]
theorem zNP {t e:TypeId} {n z:Nat} (hu:und P t=some (.array n e)) (hz:zAe P e=some z) {b o k:Nat} (hk:k<n) :
  zE P t (some (.pointer (some ⟨b,o,none⟩))) (some (.int .i64 (k:Int)))=some (.pointer (some ⟨b,o+k*z,none⟩)):=by
 have ha:zFD (.int .i64 (k:Int))=some k:=rfl
 simp only [zE,zDS,hu,ha,hz,ble_true.2 (show k+1<=n by omega),cond_true]
noncomputable def tAS (P:Env) (t:TypeId):Option (Bool×Nat):=match zCa P t with
 | some i=>some (i.agg,i.size)
 | none=>none
theorem zF {t:TypeId} {n:Nat} (ht:tAS P t=some (false,n)) {h:AH} {b o:Nat} {vs:List Value} {ty es:Nat} {ro:Bool} (hb:h.get b=some (.row vs ty es ro)) :
  zG P t h (some (.pointer (some ⟨b,o,none⟩)))=lnth vs o:=by
 unfold tAS at ht
 split at ht
 ·rename_i i hi
  simp only [Option.some.injEq,Prod.mk.injEq] at ht
  simp only [zG,zDF,hb,hi,ht.1,Bool.false_eq_true,if_false]
 ·cases ht
theorem zV {t:TypeId} {n:Nat} (ht:tAS P t=some (true,n)) {h:AH} {b o:Nat} {vs:List Value} {ty es:Nat} {ro:Bool} (hb:h.get b=some (.row vs ty es ro)) (hl:o+n<=vs.length) :
  zG P t h (some (.pointer (some ⟨b,o,none⟩)))=some (.agg ⟨(vs.drop o).take n⟩):=by
 unfold tAS at ht
 split at ht
 ·rename_i i hi
  simp only [Option.some.injEq,Prod.mk.injEq] at ht
  have hlen:((vs.drop o).take n).length=n:=by simp;omega
  simp only [zG,zDF,hb,hi,ht.1,ht.2,zAn,zAt,zAO,hlen,Nat.beq_refl,if_true]
 ·cases ht
theorem zg {t:TypeId} {h:AH} {z:Value}:zS t h (some z)=one (.pointer (some ⟨h.next,0,none⟩),h.new (.row (zl z) t 0 false)):=rfl
theorem z7 {t:TypeId} {n:Nat} (ht:zAe P t=some n) {h:AH} {b o:Nat} {vs cs:List Value} {ty es:Nat} {x:Value} (hb:h.get b=some (.row vs ty es false)) (hx:zl x=cs) (hl:cs.length=n) (ho:o+n<=vs.length) (cj:cs.all zq=true) :
  zf P t h (some (.pointer (some ⟨b,o,none⟩))) (some x)=one (undef,h.upd b (some (.row (lput vs o cs) ty es false))):=by
 simp only [zf,zIS,hb,ht,hx,zAO,hl,Nat.beq_refl,ble_true.2 ho,cj,Bool.and_self,if_true,u1]
theorem zT (cs:Array Value):zl (.agg cs)=cs.toList:=rfl
theorem zC0 (k:IntKind) (n:Int):zl (.int k n)=[.int k n]:=rfl
theorem zNk (a:Option Addr) (n c:Nat):zl (.slice a n c)=[.slice a n c]:=rfl
theorem zQi (f:Fn) (a b:Array Value):zl (.func f a b)=[.func f a b]:=rfl
theorem zI (h:AH) (o:AObj):(h.new o).get h.next=some o:=by rw [AH.get_new,if_pos rfl]
theorem zL {h:AH} {o:AObj} {b:Nat} (hb:b≠h.next):(h.new o).get b=h.get b:=by rw [AH.get_new,if_neg hb]
theorem zO (h:AH) (b:Nat) (o:Option AObj):(h.upd b o).get b=o:=by rw [AH.get_upd,if_pos rfl]
theorem zW {h:AH} {o:Option AObj} {b c:Nat} (hb:c≠b):(h.upd b o).get c=h.get c:=by rw [AH.get_upd,if_neg hb]
theorem zDK (h:AH) (o:AObj):(h.new o).wm=h.wm:=rfl
theorem zAG {h:AH} {b n:Nat} {o:Option AObj} (h1:n<=h.wm) (h2:n<=b):n<=(h.upd b o).wm:=by
 show n<=cond (Nat.ble h.wm b) h.wm b
 cases Nat.ble h.wm b <;> assumption
structure Ext (h k:AH):Prop where
 ok:k.ok
 next:h.next<=k.next
 get:∀ b,b<h.next->k.get b=h.get b
theorem Ext.refl {h:AH} (k:h.ok):Ext h h:=⟨k,Nat.le_refl _,fun _ _=>rfl⟩
theorem Ext.fresh {h k:AH} (e:Ext h k):Ext h k.fresh:=⟨zAT k,e.next,fun b hb=>e.get b hb⟩
theorem Ext.trans {h k l:AH} (e:Ext h k) (f:Ext k l):Ext h l:=⟨f.ok,Nat.le_trans e.next f.next,fun b hb=>(f.get b (Nat.lt_of_lt_of_le hb e.next)).trans (e.get b hb)⟩
theorem Ext.new {h k:AH} (e:Ext h k) (o:AObj):Ext h (k.new o):=⟨zCW e.ok o,Nat.le_trans e.next (by simp),fun b hb=>by
 have:=e.next
 rw [zL (by omega)];exact e.get b hb⟩
theorem Ext.upd {h k:AH} (e:Ext h k) {b:Nat} (hb:h.next<=b) (o:Option AObj):Ext h (k.upd b o):=⟨zD2 e.ok b o,e.next,fun c hc=>by
 rw [zW (by omega)];exact e.get c hc⟩
structure Chg (k:AH) (b:Nat) (k':AH):Prop where
 ok:k'.ok
 next:k.next<=k'.next
 get:∀ c,c<k.next->c≠b->k'.get c=k.get c
 wm:∀ n,n<=k.wm->n<=b->n<=k.next->n<=k'.wm
theorem Chg.refl {k:AH} (h:k.ok) (b:Nat):Chg k b k:=⟨h,Nat.le_refl _,fun _ _ _=>rfl,fun _ h _ _=>h⟩
theorem Chg.trans {k l m:AH} {b:Nat} (e:Chg k b l) (f:Chg l b m):Chg k b m:=
 ⟨f.ok,Nat.le_trans e.next f.next,fun c hc hb=>(f.get c (Nat.lt_of_lt_of_le hc e.next) hb).trans (e.get c hc hb),fun n h1 h2 h3=>f.wm n (e.wm n h1 h2 h3) h2 (Nat.le_trans h3 e.next)⟩
theorem Chg.new {k l:AH} {b:Nat} (e:Chg k b l) (o:AObj):Chg k b (l.new o):=
 ⟨zCW e.ok o,Nat.le_trans e.next (by simp),fun c hc hb=>by
  have:=e.next
  rw [zL (by omega)];exact e.get c hc hb,fun n h1 h2 h3=>e.wm n h1 h2 h3⟩
theorem Chg.upd {k l:AH} {b:Nat} (e:Chg k b l) (o:Option AObj):Chg k b (l.upd b o):=
 ⟨zD2 e.ok b o,e.next,fun c hc hb=>by rw [zW hb];exact e.get c hc hb,fun n h1 h2 h3=>zAG (e.wm n h1 h2 h3) h2⟩
theorem Chg.updNew {k l:AH} {b c:Nat} (e:Chg k b l) (hc:k.next<=c) (o:Option AObj):Chg k b (l.upd c o):=
 ⟨zD2 e.ok c o,e.next,fun d hd hb=>by rw [zW (by omega)];exact e.get d hd hb,fun n h1 h2 h3=>zAG (e.wm n h1 h2 h3) (Nat.le_trans h3 hc)⟩
theorem Chg.ext {h k l:AH} {b:Nat} (e:Ext h k) (hb:h.next<=b) (c:Chg k b l):Ext h l:=
 ⟨c.ok,Nat.le_trans e.next c.next,fun d hd=>(c.get d (Nat.lt_of_lt_of_le hd e.next) (by omega)).trans (e.get d hd)⟩
theorem Chg.of_fresh {k l:AH} {b:Nat} (c:Chg k.fresh b l):Chg k b ⟨l.t,l.next,cond (Nat.ble k.wm l.wm) k.wm l.wm⟩:=by
 refine ⟨?_,c.next,fun d hd hb=>c.get d hd hb,fun n h1 h2 h3=>?_⟩
 ·show cond (Nat.ble k.wm l.wm) k.wm l.wm<=l.next+UNK
  have:=c.ok
  unfold AH.ok at this
  cases hc:Nat.ble k.wm l.wm with
  | true=>rw [ble_true] at hc;simp only [cond_true];omega
  | false=>exact this
 ·show n<=cond (Nat.ble k.wm l.wm) k.wm l.wm
  cases hc:Nat.ble k.wm l.wm with
  | true=>exact h1
  | false=>exact c.wm n (by rw [zCZ];omega) h2 h3
end
theorem zHT:∀ (l acc:List zJT) (k:zJT),k∈zD7 l acc->k∈l\/k∈acc
 | [],acc,k,h=>.inr h
 | x::l,acc,k,h=>by
  simp only [zD7] at h
  cases hb:acc.any (zKR x) with
  | true=>rw [hb] at h;exact (zHT l acc k h).imp (fun h=>by simp [h]) id
  | false=>
   rw [hb] at h
   rcases zHT l (acc++[x]) k h with h|h
   ·exact .inl (by simp [h])
   ·rcases List.mem_append.1 h with h|h
    ·exact .inr h
    ·simp at h;exact .inl (by simp [h])
theorem zHS:∀ (l acc:List zJT) (k:zJT),k∈acc->k∈zD7 l acc
 | [],acc,k,h=>h
 | x::l,acc,k,h=>by
  simp only [zD7]
  cases acc.any (zKR x) with
  | true=>exact zHS l acc k h
  | false=>exact zHS l (acc++[x]) k (by simp [h])
theorem zde (l:List zJT) (h:l≠[]):zD7 l []≠[]:=by
 cases l with
 | nil=>exact absurd rfl h
 | cons x l=>
  simp only [zD7,List.any_nil,cond_false,List.nil_append]
  intro e
  have:=zHS l [x] x (by simp)
  rw [e] at this;cases this
theorem zS4 {h0:AH} {l:List (Value×AH)} (h:l≠[]):zD0 h0 l≠[]:=by
 rcases zCL h0 l with ⟨x,rfl,e⟩|e
 ·rw [e];simp
 ·rw [e]
  unfold zBp
  cases ((l.map (zBL h0)).all (zEM h0)) with
  | true=>
   simp only [cond_true]
   intro e'
   have:=List.map_eq_nil_iff.1 e'
   exact zde _ (by simpa using h) this
  | false=>simpa using h
theorem zPo {h0:AH} {l:List (Value×AH)} {y:Value×AH} (hy:y∈zD0 h0 l) :
  ∃ x∈l,y=zBL h0 x\/y=((zBL h0 x).1,zDA h0 (zBL h0 x).2 (zD6 (zBL h0 x).2 h0.next 1000 (zDl 4 (zBL h0 x).1) [])):=by
 rcases zCL h0 l with ⟨x,rfl,e⟩|e
 ·rw [e] at hy
  simp at hy
  exact ⟨x,by simp,.inl hy⟩
 ·rw [e] at hy
  unfold zBp at hy
  cases hc:((l.map (zBL h0)).all (zEM h0)) with
  | true=>
   rw [hc] at hy
   simp only [cond_true] at hy
   obtain ⟨k,hk,rfl⟩:=List.mem_map.1 hy
   rcases zHT _ _ _ hk with hk|hk
   ·obtain ⟨z,hz,rfl⟩:=List.mem_map.1 hk
    obtain ⟨x,hx,rfl⟩:=List.mem_map.1 hz
    exact ⟨x,hx,.inr rfl⟩
   ·cases hk
  | false=>
   rw [hc] at hy
   simp only [cond_false] at hy
   obtain ⟨x,hx,rfl⟩:=List.mem_map.1 hy
   exact ⟨x,hx,.inl rfl⟩
noncomputable def AH.kept (h0:AH) (v:Value) (h:AH):AH:=zDA h0 h (zD6 h h0.next 1000 (zDl 4 v) [])
def AH.wmTo (h:AH) (w:Nat):AH:=⟨h.t,h.next,cond (Nat.ble w h.wm) w h.wm⟩
theorem zUZ {P:Env} {s:Bool} {f:FuncId} {fn:Func} {c:Code} {args:List Value} {h:AH} {Rp:Value->AH->Prop} (hf:P.tab.fn.get f=some fn) (hb:fn.body=some c) (aK:P.sum f args h=none) (hl:Nat.ble (zBB args) fn.ntmps=true)
  (dh:Ev s (R.andThen (evC P (zY P) none (zh fn) ⟨⟨fn.ntmps,zCT args 0 .e⟩,h.fresh,[]⟩) (zAc P fn)) fun x=>zi x.1=false/\Rp x.1 (x.2.wmTo h.wm)/\Rp x.1 ((AH.kept h.fresh x.1 x.2).wmTo h.wm)) :
  Ev false ((zY P).call f args h) fun x=>Rp x.1 x.2:=by
 rw [zBf hf hb aK hl]
 obtain ⟨l,e,ah,_,cK⟩:=dh
 rw [e]
 refine ⟨(zD0 h.fresh l).map (zdF h.wm),rfl,by simpa using zS4 ah,(fun h=>by cases h),fun y hy=>?_⟩
 obtain ⟨z,hz,rfl⟩:=List.mem_map.1 hy
 obtain ⟨x,hx,hh⟩:=zPo hz
 obtain ⟨a,b,c⟩:=cK x hx
 have hr:zBL h.fresh x=x:=by unfold zBL;rw [a];simp
 rw [hr] at hh
 rcases hh with rfl|rfl
 ·exact b
 ·exact c
def zlA:List Nat->List Value->List (Nat×Value)
 | [],_=>[]
 | _,[]=>[]
 | t::ts,v::vs=>(t,v)::zlA ts vs
def PI (C:Cx) (K:KF) (i:Nat) (vs:List Value) (h:AH):Prop:=match lnth C.lv i with
 | some x=>SP C K x.1 (zlA x.2 vs) h
 | none=>False
def zlT (C:Cx) (K:KF) (i:Nat) (vs:List Value) (h:AH):Prop:=match lnth C.lv i with
 | some x=>zdQ C K x.1 (zk (zlA x.2 vs)) h
 | none=>False
def zq6 (C:Cx) (i:Nat) (vs:List Value):Bool:=match lnth C.lv i with
 | some x=>zqE C x.1&&zLT (zTY x.1 C.lv) x.2&&Nat.beq (zBB x.2) (zBB vs)
 | none=>false
theorem zN9:∀ (l:List Nat) (vs:List Value),zBB l=zBB vs->(zlA l vs).map (·.1)=l
 | [],vs,_=>rfl
 | t::ts,[],h=>by simp [zBB] at h
 | t::ts,v::vs,h=>by simp only [zlA,List.map_cons];rw [zN9 ts vs (by simpa [zBB] using h)]
theorem zHi:∀ {l m:List Nat},zLT l m=true->l=m
 | [],[],_=>rfl
 | a::l,b::m,h=>by
  simp only [zLT,Bool.and_eq_true] at h
  rw [beq_true.1 h.1,zHi h.2]
 | [],_::_,h=>by cases h
 | _::_,[],h=>by cases h
theorem zB {C:Cx} {K:KF} {i:Nat} {vs:List Value} {h:AH} {Q:Prop} (H:Q) (hc:zq6 C i vs=true:=by kernel_rfl) (hk:zlT C K i vs h=Q:=by kernel_rfl):PI C K i vs h:=by
 rw [← hk] at H
 unfold PI
 unfold zlT at H
 unfold zq6 at hc
 split at hc
 ·rename_i x hx
  simp only [Bool.and_eq_true,beq_true] at hc
  obtain ⟨⟨h1,h2⟩,h3⟩:=hc
  have h2:=zHi h2
  simp only [hx] at H ⊢
  exact zSs h1 (by rw [zN9 _ _ h3,h2]) H
 ·cases hc
variable {P:Env} {s:Bool} {f:FuncId} {fn:Func} {args:List Value} {h:AH} {v:Value}
abbrev EvC (P:Env) (s:Bool) (fn:Func) (args:List Value) (h:AH) (Rp:Value->AH->Prop):Prop:=
 Ev s (R.andThen (evC P (zY P) none (zh fn) ⟨⟨fn.ntmps,zCT args 0 .e⟩,h,[]⟩) (zAc P fn)) fun x=>Rp x.1 x.2
theorem zAA (C:Cx) {Rp:Value->AH->Prop} {Q:Prop} (H:Q) (hP:C.P=P:=by rfl) (hs:C.s=s:=by rfl) (h1:C.B=zh fn:=by rfl) (h2:C.ro=none:=by rfl) (h3:C.rt=zii fn.results.toList:=by kernel_rfl) (h4:C.D=[]:=by rfl)
  (cZ:subN (zHQ C 30 (rs C.B 60 (.at []))) ((zdH 0 args).map (·.1))=true:=by kernel_rfl) (aZ:zHP ((zdH 0 args).map (·.1))=true:=by kernel_rfl)
  (hk:zFA C (KR P fn.results.toList Rp) 30 (rs C.B 60 (.at [])) (zk (zdH 0 args)) h=Q:=by kernel_rfl):EvC P s fn args h Rp:=
 zje hP hs ⟨h1,h2,h3,h4⟩ cZ aZ (hk ▸ H)
theorem zA3 (fn:Func) (aa:h.ok) (hv:zt v=true) (H:EvC P s fn args h.fresh fun x k=>x=v/\h.next<=k.wm) (h1:P.tab.fn.get f=some fn:=by kernel_rfl) (h2:fn.body=some (zh fn):=by kernel_rfl) (h3:P.sum f args h=none:=by kernel_rfl) (h4:Nat.ble (zBB args) fn.ntmps=true:=by kernel_rfl):(zY P).call f args h=some [(v,h)]:=
 zLa aa h1 h2 h3 h4 hv H
theorem zIs (fn:Func) (aa:h.ok) (hv:zi v=true) (H:EvC P true fn args h.fresh fun x k=>x=v/\h.next<=k.wm) (h1:P.tab.fn.get f=some fn:=by kernel_rfl) (h2:fn.body=some (zh fn):=by kernel_rfl) (h3:P.sum f args h=none:=by kernel_rfl) (h4:Nat.ble (zBB args) fn.ntmps=true:=by kernel_rfl):(zY P).call f args h=some [(v,h)]:=
 zI4 aa h1 h2 h3 h4 hv H
theorem zDT (fn:Func) {Rp:Value->Prop} (aa:h.ok) (H:EvC P true fn args h.fresh fun x k=>(zi x=true/\Rp x)/\h.next<=k.wm) (h1:P.tab.fn.get f=some fn:=by kernel_rfl) (h2:fn.body=some (zh fn):=by kernel_rfl) (h3:P.sum f args h=none:=by kernel_rfl) (h4:Nat.ble (zBB args) fn.ntmps=true:=by kernel_rfl):∃ v,Rp v/\(zY P).call f args h=some [(v,h)]:=
 zQj aa h1 h2 h3 h4 H
theorem zD5 (fn:Func) {Rp:Value->AH->Prop} (H:EvC P true fn args h.fresh fun x k=>(zi x=false\/k.wm<h.next)/\Rp x ⟨k.t,k.next,cond (Nat.ble h.wm k.wm) h.wm k.wm⟩) (h1:P.tab.fn.get f=some fn:=by kernel_rfl) (h2:fn.body=some (zh fn):=by kernel_rfl) (h3:P.sum f args h=none:=by kernel_rfl) (h4:Nat.ble (zBB args) fn.ntmps=true:=by kernel_rfl):Ev true ((zY P).call f args h) fun x=>Rp x.1 x.2:=
 zUY h1 h2 h3 h4 H
end Go.AM
namespace Go.AM
open Go Go.RowKit
noncomputable def zdN (raw:Tr TypeInfo) (i:TypeInfo):Bool:=
 (match i.desc with
  | .named _ u=>(match raw.get u with|some _=>true|none=>false)
  | _=>true) &&
 (match i.zero with
  | some z=>zEH 4 z
  | none=>true)
noncomputable def tysOk (P:Program):Bool:=let raw:=Tr.ofList 40 P.types.toList;P.types.toList.all (zdN raw)
noncomputable def fnOk (g:Func):Bool:=match g.body with
 | some c=>fits g.ntmps c&&!(g.name=="runtime.NumGoroutine")
 | none=>true
theorem zT8 {P:Program} {t:TypeId} {info:TypeInfo} (h:P.types[t]?=some info):P.info? t=some info:=by
 unfold Tables.info?
 rw [if_pos (Array.getElem?_eq_some_iff.1 h).1]
 exact h
theorem zdu {P:Program} {ext:List (FuncId×Nat)} {sum:FuncId->List Value->AH->Option (List (Value×AH))} (h1:tysOk P=true) (h2:P.funcs.toList.all fnOk=true) (h3:P.follows .mixedOrders=true):zCQ (zHR P ext sum):=by
 have hty:∀ t i,(zHR P ext sum).tab.ty.get t=some i->∃ info,P.types[t]?=some info/\i=zo1 (Tr.ofList 40 P.types.toList) info:=by
  intro t i h
  have:=Tr.get_ofList _ _ _ _ h
  rw [List.getElem?_map] at this
  cases hx:P.types.toList[t]? with
  | none=>rw [hx] at this;cases this
  | some info=>
   rw [hx] at this
   simp only [Option.map_some,Option.some.injEq] at this
   exact ⟨info,by rw [← Array.getElem?_toList];exact hx,this.symm⟩
 have aa:∀ {t:Nat} {info:TypeInfo},P.types[t]?=some info->zdN (Tr.ofList 40 P.types.toList) info=true:=by
  intro t info h
  exact List.all_eq_true.1 h1 info (List.mem_of_getElem? (by rw [Array.getElem?_toList];exact h))
 have eQ:∀ f g,(zHR P ext sum).tab.fn.get f=some g->P.funcs[f]?=some g/\fnOk g=true:=by
  intro f g h
  have:=Tr.get_ofList _ _ _ _ h
  exact ⟨by rw [← Array.getElem?_toList];exact this,List.all_eq_true.1 h2 g (List.mem_of_getElem? this)⟩
 refine ⟨?_,?_,?_,?_,h3,?_⟩
 ·intro t i h
  obtain ⟨info,q1,rfl⟩:=hty t i h
  have h1:=aa q1
  have hi:P.info? t=some info:=zT8 q1
  refine ⟨info,hi,?_⟩
  unfold zdN at h1
  rw [Bool.and_eq_true] at h1
  obtain ⟨k1,_⟩:=h1
  show P.underlying t=_/\_
  unfold Program.underlying zo1
  rw [hi]
  cases hd:info.desc with
  | named nm u=>
   rw [hd] at k1
   simp only at k1
   split at k1
   ·rename_i j hj
    have fH:P.types[u]?=some j:=by rw [← Array.getElem?_toList];exact Tr.get_ofList _ _ _ _ hj
    have hju:P.info? u=some j:=zT8 fH
    obtain ⟨d1,d2⟩:=info
    simp only at hd
    subst hd
    simp [hj,hju]
    try (cases j.desc <;> rfl)
   ·cases k1
  | _=>
   obtain ⟨d1,d2⟩:=info
   simp only at hd
   subst hd
   simp
 ·intro t i z h hz
  obtain ⟨info,q1,rfl⟩:=hty t i h
  have h1:=aa q1
  unfold zdN at h1
  rw [Bool.and_eq_true] at h1
  have fq:info.zero=some z:=by
   rw [← hz]
   unfold zo1
   cases hd:info.desc <;> simp
   split <;> rfl
  have h2:=h1.2
  rw [fq] at h2
  exact h2
 ·intro f g h
  obtain ⟨q1,q2⟩:=eQ f g h
  refine ⟨q1,fun c hc=>?_⟩
  unfold fnOk at q2
  rw [hc] at q2
  simp only [Bool.and_eq_true] at q2
  exact q2.1
 ·intro f g c h hc
  obtain ⟨q1,q2⟩:=eQ f g h
  unfold fnOk at q2
  rw [hc] at q2
  simp only [Bool.and_eq_true,Bool.not_eq_true'] at q2
  exact q2.2
 ·show 2<=P.depth
  unfold Program.depth;omega
theorem zUK (P:Program):∀ {ext:List (FuncId×Nat)} {f:FuncId} {c:Nat},(zHR P ext sum).tab.ext.get f=some c->(f,c)∈ext
 | [],f,c,h=>by cases h
 | (g,d)::ext,f,c,h=>by
  have e:(zHR P ((g,d)::ext) sum).tab.ext=(zHR P ext sum).tab.ext.set (g+1) g (some d):=rfl
  rw [e,Tr.get_set _ _ _ _ _ (Nat.lt_succ_self g)] at h
  split at h
  ·rename_i hf;cases h;subst hf;simp
  ·exact List.mem_cons_of_mem _ (zUK P h)
theorem zD3:∀ (l:List UInt8) (c:UInt8),Lib.indexByte l c=-1\/0<=Lib.indexByte l c
 | [],c=>.inl rfl
 | b::l,c=>by
  simp only [Lib.indexByte]
  split
  ·exact .inr (by omega)
  ·split
   ·exact .inl rfl
   ·rename_i h
    rcases zD3 l c with h'|h'
    ·rw [h'] at h;simp at h
    ·exact .inr (by omega)
theorem zIp:∀ (l:List UInt8) (c:UInt8) (i:Nat),zE6 l c i=(if Lib.indexByte l c=-1 then -1 else Lib.indexByte l c+i)
 | [],c,i=>by simp [zE6,Lib.indexByte]
 | b::l,c,i=>by
  simp only [zE6,Lib.indexByte]
  by_cases hb:b=c
  ·subst hb
   simp
  ·have hn:¬ (Nat.beq b.toNat c.toNat=true):=by rw [beq_true];intro h;exact hb (UInt8.toNat_inj.1 h)
   have ao:(b==c)=false:=by simpa using hb
   rw [if_neg hn,zIp l c (i+1)]
   simp only [ao,Bool.false_eq_true,if_false]
   rcases zD3 l c with h|h
   ·simp [h]
   ·have h1:¬ Lib.indexByte l c=-1:=by omega
    have h2:¬ (Lib.indexByte l c+1=-1):=by omega
    simp only [h1,if_false,beq_iff_eq,h2]
    omega
theorem zLH (l:List UInt8) (c:UInt8):zE6 l c 0=Lib.indexByte l c:=by
 rw [zIp]
 split
 ·rename_i h;exact h.symm
 ·simp
end Go.AM
namespace Go.Proofs
open Go Go.AM
noncomputable def zT7 (args:List Value) (h:AH):Option (List (Value×AH)):=match args with
 | [.slice (some ⟨b,0,none⟩) n cap,iI (.ofNat i),.slice (some ⟨c,0,none⟩) 1 1]=>
  (match h.get b,h.get c with
  | some (.row vs 36 2 false),some (rO us 36)=>
   cond (Nat.beq cap (UNK+2)&&Nat.ble i n&&Nat.beq (zBB vs) (n*2)&&Nat.beq (zBB us) 2&&!Nat.beq b c&&vs.all zq&&us.all zq&&Nat.ble n 100000)
    (some [(.slice (some ⟨h.next,0,none⟩) (n+1) (UNK+2),(h.upd b none).new (.row (zEl (i*2) vs++us++zF8 (i*2) vs) 36 2 false))]) none
  | _,_=>none)
 | _=>none
noncomputable def zS8 (args:List Value) (h:AH):Option (List (Value×AH)):=match args with
 | []=>some [(.bool true,h)]
 | _=>none
noncomputable def zLK (args:List Value) (h:AH):Option (List (Value×AH)):=match args with
 | [.slice none 0 0,iI (.ofNat n)]=>cond (Nat.beq n 0) (some [(.slice none 0 0,h)]) (cond (Nat.ble n 1000000) (some [(.slice (some ⟨h.next,0,none⟩) 0 (UNK+2),h.new (.row [] 54 2 false))]) none)
 | _=>none
noncomputable def zT6 (f:FuncId) (args:List Value) (h:AH):Option (List (Value×AH)):=match Nat.beq f 191 with
 | true=>zT7 args h
 | false=>(match Nat.beq f 13 with
  | true=>zS8 args h
  | false=>(match Nat.beq f 160 with
   | true=>zLK args h
   | false=>none))
noncomputable def E:Env:=zHR Tryz.prog [(172,1),(284,2)] zT6
end Go.Proofs
namespace Go.Proofs
open Go Go.AM
set_option maxRecDepth 100000
theorem zKg:und E 22=some (.slice 36):=by kernel_rfl
theorem zhm:zEL E 22=some 36:=by kernel_rfl
theorem zNS {b o len c k:Nat} (h:k<len):zE E 22 (some (.slice (some ⟨b,o,none⟩) len c)) (some (iI (k:Int)))=some (.pointer (some ⟨b,o+k*2,none⟩)):=zAU zKg (by kernel_rfl) h
theorem zSh:und E 23=some (.slice 52):=by kernel_rfl
theorem zi8 {b o len c k:Nat} (h:k<len):zE E 23 (some (.slice (some ⟨b,o,none⟩) len c)) (some (iI (k:Int)))=some (.pointer (some ⟨b,o+k*3,none⟩)):=zAU zSh (by kernel_rfl) h
theorem zIN:und E 26=some (.slice 54):=by kernel_rfl
theorem zAR {b o len c k:Nat} (h:k<len):zE E 26 (some (.slice (some ⟨b,o,none⟩) len c)) (some (iI (k:Int)))=some (.pointer (some ⟨b,o+k*2,none⟩)):=zAU zIN (by kernel_rfl) h
theorem zSg:und E 34=some (.slice 173):=by kernel_rfl
theorem zUA {b o len c k:Nat} (h:k<len):zE E 34 (some (.slice (some ⟨b,o,none⟩) len c)) (some (iI (k:Int)))=some (.pointer (some ⟨b,o+k*3,none⟩)):=zAU zSg (by kernel_rfl) h
theorem zhM:und E 47=some (.slice 3):=by kernel_rfl
theorem zhl:zEL E 47=some 3:=by kernel_rfl
theorem zNR {b o len c k:Nat} (h:k<len):zE E 47 (some (.slice (some ⟨b,o,none⟩) len c)) (some (iI (k:Int)))=some (.pointer (some ⟨b,o+k*1,none⟩)):=zAU zhM (by kernel_rfl) h
theorem zSf:und E 54=some (.array 2 3):=by kernel_rfl
theorem zl7 {b o k:Nat} (h:k<2):zE E 54 (some (.pointer (some ⟨b,o,none⟩))) (some (iI (k:Int)))=some (.pointer (some ⟨b,o+k*1,none⟩)):=zNP zSf (by kernel_rfl) h
theorem zlG:und E 82=some (.slice 25):=by kernel_rfl
theorem zNQ {b o len c k:Nat} (h:k<len):zE E 82 (some (.slice (some ⟨b,o,none⟩) len c)) (some (iI (k:Int)))=some (.pointer (some ⟨b,o+k*3,none⟩)):=zAU zlG (by kernel_rfl) h
theorem zhL:und E 83=some (.slice 32):=by kernel_rfl
theorem zi7 {b o len c k:Nat} (h:k<len):zE E 83 (some (.slice (some ⟨b,o,none⟩) len c)) (some (iI (k:Int)))=some (.pointer (some ⟨b,o+k*2,none⟩)):=zAU zhL (by kernel_rfl) h
theorem zSj:und E 126=some (.slice 128):=by kernel_rfl
theorem zjS:zEL E 126=some 128:=by kernel_rfl
theorem zhh {b o len c k:Nat} (h:k<len):zE E 126 (some (.slice (some ⟨b,o,none⟩) len c)) (some (iI (k:Int)))=some (.pointer (some ⟨b,o+k*1,none⟩)):=zAU zSj (by kernel_rfl) h
theorem ziO:und E 129=some (.slice 132):=by kernel_rfl
theorem zjR:zEL E 129=some 132:=by kernel_rfl
theorem zOl {b o len c k:Nat} (h:k<len):zE E 129 (some (.slice (some ⟨b,o,none⟩) len c)) (some (iI (k:Int)))=some (.pointer (some ⟨b,o+k*1,none⟩)):=zAU ziO (by kernel_rfl) h
theorem zSi:und E 132=some (.slice 134):=by kernel_rfl
theorem zjQ:zEL E 132=some 134:=by kernel_rfl
theorem zUB {b o len c k:Nat} (h:k<len):zE E 132 (some (.slice (some ⟨b,o,none⟩) len c)) (some (iI (k:Int)))=some (.pointer (some ⟨b,o+k*2,none⟩)):=zAU zSi (by kernel_rfl) h
theorem zhO:zAe E 3=some 1:=by kernel_rfl
theorem zAb:tAS E 3=some (false,1):=by kernel_rfl
theorem z_3:z8 E 3=some (iI 0):=by kernel_rfl
theorem zqw:zAe E 4=some 1:=by kernel_rfl
theorem ta_4:tAS E 4=some (false,1):=by kernel_rfl
theorem zpL:zAe E 22=some 1:=by kernel_rfl
theorem zG7:tAS E 22=some (false,1):=by kernel_rfl
theorem zJc:tAS E 23=some (false,1):=by kernel_rfl
theorem zlI:zAe E 25=some 3:=by kernel_rfl
theorem zDe:tAS E 25=some (true,3):=by kernel_rfl
theorem zoy:z8 E 25=some (.agg #[(iI 0),(.slice none 0 0),(.slice none 0 0)]):=by kernel_rfl
theorem zpK:zAe E 26=some 1:=by kernel_rfl
theorem zFw:tAS E 26=some (false,1):=by kernel_rfl
theorem ziS:zAe E 32=some 2:=by kernel_rfl
theorem zB0:tAS E 32=some (true,2):=by kernel_rfl
theorem zKb:z8 E 32=some (.agg #[(iI 0),(.slice none 0 0)]):=by kernel_rfl
theorem zDd:tAS E 34=some (false,1):=by kernel_rfl
theorem ziR:zAe E 36=some 2:=by kernel_rfl
theorem zEk:tAS E 36=some (true,2):=by kernel_rfl
theorem zox:z8 E 36=some (.agg #[(iI 0),(.slice none 0 0)]):=by kernel_rfl
theorem ziQ:zAe E 52=some 3:=by kernel_rfl
theorem zPl:tAS E 52=some (true,3):=by kernel_rfl
theorem zo6:z8 E 52=some (.agg #[(iI 0),(iI 0),(iI 0)]):=by kernel_rfl
theorem zID:zAe E 54=some 2:=by kernel_rfl
theorem zKj:tAS E 54=some (true,2):=by kernel_rfl
theorem zdI:z8 E 54=some (.agg #[(iI 0),(iI 0)]):=by kernel_rfl
theorem zlS:tAS E 109=some (false,1):=by kernel_rfl
theorem zlN:zAe E 112=some 3:=by kernel_rfl
theorem zhR:tAS E 112=some (true,3):=by kernel_rfl
theorem zpD:z8 E 112=some (.agg #[.nilFunc,.nilFunc,(.string ⟨#[]⟩)]):=by kernel_rfl
theorem zlM:zAe E 113=some 9:=by kernel_rfl
theorem zlR:tAS E 113=some (true,9):=by kernel_rfl
theorem zpC:z8 E 113=some (.agg #[.nilFunc,.nilFunc,(.string ⟨#[]⟩),.nilFunc,.nilFunc,(.string ⟨#[]⟩),.nilFunc,.nilFunc,(.string ⟨#[]⟩)]):=by kernel_rfl
theorem zDN:tAS E 128=some (false,1):=by kernel_rfl
theorem zIQ:tAS E 129=some (false,1):=by kernel_rfl
theorem zlL:zAe E 132=some 1:=by kernel_rfl
theorem zIP:tAS E 132=some (false,1):=by kernel_rfl
theorem zpB:z8 E 132=some (.slice none 0 0):=by kernel_rfl
theorem zlK:zAe E 134=some 2:=by kernel_rfl
theorem zIO:tAS E 134=some (true,2):=by kernel_rfl
theorem zlB:z8 E 134=some (.agg #[(iI 0),(iI 0)]):=by kernel_rfl
theorem zKh:zAe E 173=some 3:=by kernel_rfl
theorem zCK:tAS E 173=some (true,3):=by kernel_rfl
theorem zdJ:z8 E 173=some (.agg #[(iI 0),(iI 0),(.slice none 0 0)]):=by kernel_rfl
theorem zKl:tAS E 174=some (false,1):=by kernel_rfl
theorem zOB:zAe E 176=some 3:=by kernel_rfl
theorem zKk:tAS E 176=some (true,3):=by kernel_rfl
theorem ziH:z8 E 176=some (.agg #[(.pointer none),(.pointer none),(.map none)]):=by kernel_rfl
theorem zhQ:tAS E 178=some (true,3):=by kernel_rfl
theorem zpA:z8 E 197=some (.agg #[(.slice none 0 0)]):=by kernel_rfl
theorem zlJ:zAe E 247=some 1:=by kernel_rfl
theorem zhP:tAS E 247=some (false,1):=by kernel_rfl
theorem zo9:z8 E 247=some .nilFunc:=by kernel_rfl
theorem zo7:z8 E 306=some (.agg #[(iI 0),(iI 0)]):=by kernel_rfl
theorem zFj {b o:Nat}:zD E 306 1 (some (.pointer (some ⟨b,o,none⟩)))=some (.pointer (some ⟨b,o+1,none⟩)):=by kernel_rfl
theorem zG1 {b o:Nat}:zD E 306 0 (some (.pointer (some ⟨b,o,none⟩)))=some (.pointer (some ⟨b,o+0,none⟩)):=by kernel_rfl
theorem zFl {b o:Nat}:zD E 173 1 (some (.pointer (some ⟨b,o,none⟩)))=some (.pointer (some ⟨b,o+1,none⟩)):=by kernel_rfl
theorem zFm {b o:Nat}:zD E 173 0 (some (.pointer (some ⟨b,o,none⟩)))=some (.pointer (some ⟨b,o+0,none⟩)):=by kernel_rfl
theorem zOv {b o:Nat}:zD E 197 0 (some (.pointer (some ⟨b,o,none⟩)))=some (.pointer (some ⟨b,o+0,none⟩)):=by kernel_rfl
theorem zCd {b o:Nat}:zD E 134 1 (some (.pointer (some ⟨b,o,none⟩)))=some (.pointer (some ⟨b,o+1,none⟩)):=by kernel_rfl
theorem zG2 {b o:Nat}:zD E 134 0 (some (.pointer (some ⟨b,o,none⟩)))=some (.pointer (some ⟨b,o+0,none⟩)):=by kernel_rfl
theorem zJ6 {b o:Nat}:zD E 176 1 (some (.pointer (some ⟨b,o,none⟩)))=some (.pointer (some ⟨b,o+1,none⟩)):=by kernel_rfl
theorem zdq {b o:Nat}:zD E 112 0 (some (.pointer (some ⟨b,o,none⟩)))=some (.pointer (some ⟨b,o+0,none⟩)):=by kernel_rfl
theorem zOw {b o:Nat}:zD E 176 0 (some (.pointer (some ⟨b,o,none⟩)))=some (.pointer (some ⟨b,o+0,none⟩)):=by kernel_rfl
theorem zDn {b o:Nat}:zD E 178 0 (some (.pointer (some ⟨b,o,none⟩)))=some (.pointer (some ⟨b,o+0,none⟩)):=by kernel_rfl
theorem zE7 {b o:Nat}:zD E 52 2 (some (.pointer (some ⟨b,o,none⟩)))=some (.pointer (some ⟨b,o+2,none⟩)):=by kernel_rfl
theorem zEI {b o:Nat}:zD E 52 1 (some (.pointer (some ⟨b,o,none⟩)))=some (.pointer (some ⟨b,o+1,none⟩)):=by kernel_rfl
theorem zEJ {b o:Nat}:zD E 52 0 (some (.pointer (some ⟨b,o,none⟩)))=some (.pointer (some ⟨b,o+0,none⟩)):=by kernel_rfl
theorem zG3 {b o:Nat}:zD E 131 0 (some (.pointer (some ⟨b,o,none⟩)))=some (.pointer (some ⟨b,o+0,none⟩)):=by kernel_rfl
theorem zFk {b o:Nat}:zD E 176 2 (some (.pointer (some ⟨b,o,none⟩)))=some (.pointer (some ⟨b,o+2,none⟩)):=by kernel_rfl
theorem zCU {b o:Nat}:zD E 32 1 (some (.pointer (some ⟨b,o,none⟩)))=some (.pointer (some ⟨b,o+1,none⟩)):=by kernel_rfl
theorem zGI {b o:Nat}:zD E 32 0 (some (.pointer (some ⟨b,o,none⟩)))=some (.pointer (some ⟨b,o+0,none⟩)):=by kernel_rfl
theorem zAf {b o:Nat}:zD E 173 2 (some (.pointer (some ⟨b,o,none⟩)))=some (.pointer (some ⟨b,o+2,none⟩)):=by kernel_rfl
theorem zBg {b o:Nat}:zD E 36 0 (some (.pointer (some ⟨b,o,none⟩)))=some (.pointer (some ⟨b,o+0,none⟩)):=by kernel_rfl
theorem zCB {b o:Nat}:zD E 36 1 (some (.pointer (some ⟨b,o,none⟩)))=some (.pointer (some ⟨b,o+1,none⟩)):=by kernel_rfl
theorem zBR {b o:Nat}:zD E 25 1 (some (.pointer (some ⟨b,o,none⟩)))=some (.pointer (some ⟨b,o+1,none⟩)):=by kernel_rfl
theorem zCC {b o:Nat}:zD E 25 2 (some (.pointer (some ⟨b,o,none⟩)))=some (.pointer (some ⟨b,o+2,none⟩)):=by kernel_rfl
theorem zCD {b o:Nat}:zD E 25 0 (some (.pointer (some ⟨b,o,none⟩)))=some (.pointer (some ⟨b,o+0,none⟩)):=by kernel_rfl
end Go.Proofs
