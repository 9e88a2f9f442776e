import Derived.KernelRfl
import Derived.Lib.Bytealg
import Derived.Test.YthmnhjcmefjgjaaGreatDoorProg
import Derived.Lib.ItoaNum
import Derived.Test.YthmnhjcmefjgjaaGreatDoorXAC
set_option linter.all false
set_option linter.unusedSectionVars false
set_option autoImplicit true
set_option relaxedAutoImplicit true
section
noncomputable section
namespace Go.AM
open Go
def Ev {α:Type} (s:Bool) (x:R α) (Q:α->Prop):Prop:=∃ l,x=some l/\l≠[]/\(s=true->l.length=1)/\∀ a∈l,Q a
theorem Ev.mono {α:Type} {s:Bool} {x:R α} {Q Q':α->Prop} (h:Ev s x Q) (hQ:∀ a,Q a->Q' a):Ev s x Q':=
 let ⟨l,a,b,c,d⟩:=h;⟨l,a,b,c,fun x hx=>hQ x (d x hx)⟩
theorem Ev.one {α:Type} {s:Bool} {a:α} {Q:α->Prop} (h:Q a):Ev s (AM.one a) Q:=⟨[a],rfl,by simp,fun _=>rfl,fun b hb=>by simp at hb;rw [hb];exact h⟩
theorem ev_some {α:Type} {s:Bool} {a:α} {Q:α->Prop}:Ev s (some [a]) Q ↔ Q a:=⟨fun ⟨l,e,_,_,h⟩=>by cases e;exact h a (by simp),fun h=>Ev.one h⟩
theorem ev_one {α:Type} {s:Bool} {a:α} {Q:α->Prop}:Ev s (one a) Q ↔ Q a:=ev_some
theorem Ev.bindL {α β:Type} {s:Bool} {f:α->R β} {Q:β->Prop}:∀ {l:List α},l≠[]->(s=true->l.length=1)->(∀ a∈l,Ev s (f a) Q)->Ev s (AM.bindL f l) Q
 | [a],_,_,h=>by
  obtain ⟨l,e,h1,h2,h3⟩:=h a (by simp)
  simp only [AM.bindL,e,List.append_nil]
  exact ⟨l,rfl,h1,h2,h3⟩
 | a::b::aas,_,h1,h=>by
  have hs:s=false:=by cases s with|false=>rfl|true=>have:=h1 rfl;simp at this
  subst hs
  obtain ⟨l,e,k1,_,k3⟩:=h a (by simp)
  obtain ⟨l',e',j1,_,j3⟩:=Ev.bindL (s:=false) (l:=b::aas) (by simp) (fun h=>by cases h) fun c hc=>h c (by simp at hc ⊢;exact .inr hc)
  have:AM.bindL f (a::b::aas)=some (l++l'):=by simp only [AM.bindL] at e' ⊢;rw [e];simp only [e']
  rw [this]
  exact ⟨_,rfl,by simp [k1],(fun h=>nomatch h),fun c hc=>(List.mem_append.1 hc).elim (k3 c) (j3 c)⟩
theorem Ev.andThen {α β:Type} {s:Bool} {x:R α} {f:α->R β} {Q:β->Prop} (h:Ev s x fun a=>Ev s (f a) Q):Ev s (R.andThen x f) Q:=by
 obtain ⟨l,e,h1,h2,h3⟩:=h
 rw [andThen_eq,e]
 exact Ev.bindL h1 h2 h3
theorem Ev.weak {α:Type} {x:R α} {Q:α->Prop} {s:Bool} (h:Ev true x Q):Ev s x Q:=let ⟨l,a,b,c,d⟩:=h;⟨l,a,b,fun _=>c rfl,d⟩
theorem Ev.single {α:Type} {x:R α} {a:α} (h:Ev true x fun b=>b=a):x=some [a]:=by
 obtain ⟨l,e,_,h2,h3⟩:=h
 have:=h2 rfl
 match l,this with
 | [b],_=>rw [e,h3 b (by simp)]
@[congr] theorem ev_congr {α:Type} {s:Bool} {x y:R α} {Q:α->Prop} (h:x=y):Ev s x Q=Ev s y Q:=by rw [h]
def EvO {α:Type} (x:Option α) (K:α->Prop):Prop:=match x with
 | some v=>K v
 | none=>False
theorem evO_some {α:Type} {v:α} {K:α->Prop}:EvO (some v) K ↔ K v:=Iff.rfl
theorem evO_none {α:Type} {K:α->Prop}:EvO (none:Option α) K ↔ False:=Iff.rfl
theorem EvO.ex {α:Type} {x:Option α} {K:α->Prop} (h:EvO x K):∃ v,x=some v/\K v:=match x,h with
 | some v,h=>⟨v,rfl,h⟩
theorem EvO.of {α:Type} {x:Option α} {K:α->Prop} {v:α} (e:x=some v) (h:K v):EvO x K:=by rw [e];exact h
@[congr] theorem evO_congr {α:Type} {x y:Option α} {K:α->Prop} (h:x=y):EvO x K=EvO y K:=by rw [h]
def gdB (g:Value) (want:Bool) (x:Option Value):Option Value:=match g with
 | .bool b=>cond (b==want) x (some undef)
 | _=>some undef
def gdW (g:Value) (want:Bool) (x:R (Value×AH)) (h:AH):R (Value×AH):=match g with
 | .bool b=>cond (b==want) x (one (undef,h))
 | _=>one (undef,h)
def gTmp (all:List Oper) (j:Nat):Option Tmp:=match lnth all j with
 | some oj=>oj.dst
 | none=>none
def gdO (all:List Oper) (T:Tm) (o:Oper) (x:Option Value):Option Value:=match o.guard with
 | none=>x
 | some (j,want)=>match gTmp all j with
  | some d=>gdB (T.get d) want x
  | none=>some undef
def gdR (all:List Oper) (T:Tm) (o:Oper) (x:R (Value×AH)) (h:AH):R (Value×AH):=match o.guard with
 | none=>x
 | some (j,want)=>match gTmp all j with
  | some d=>gdW (T.get d) want x h
  | none=>one (undef,h)
def gets (T:Tm):List Nat->List (Nat×Value)
 | []=>[]
 | t::ts=>(t,T.get t)::gets T ts
def tmOf:List (Nat×Value)->Tm
 | []=>⟨0,.e⟩
 | x::l=>(tmOf l).put x.1 x.2
theorem gets_get (T:Tm):∀ {l:List Nat} {t:Nat},t∈l->(tmOf (gets T l)).get t=T.get t
 | u::l,t,h=>by
  simp only [gets,tmOf,Tm.get_put]
  by_cases e:t=u
  ·simp [e]
  ·rw [if_neg e];exact gets_get T ((List.mem_cons.1 h).resolve_left e)
def locT (T:Tm) (o:Oper):Tm:=tmOf (gets T (tmpsOf o.op.operands.toList))
theorem locT_same (T:Tm) (o:Oper):Same o.op.operands.toList (locT T o) T:=fun _ ht=>gets_get T (mem_tmpsOf.2 ht)
def pickV (c a b:Option Value):Option Value:=match c with
 | some (.bool t)=>cond t a b
 | _=>none
def isCmp (op:BinOp):Bool:=match op with
 | .eql=>true
 | .neq=>true
 | _=>false
def isArith (op:BinOp):Bool:=match op with
 | .add=>true
 | .sub=>true
 | .mul=>true
 | .eql=>true
 | .neq=>true
 | .lss=>true
 | .leq=>true
 | .gtr=>true
 | .geq=>true
 | _=>false
def binMode (P:Env) (op:BinOp) (t:TypeId):Bool:=match und P t with
 | some (.int _)=>isArith op
 | some (.array _ _)=>isCmp op
 | _=>false
section
variable (P:Env)
def evPureK (T:Tm) (o:Oper):Option Value:=match o.op with
 | .move x=>opnd T x
 | .assign x=>opnd T x
 | .pick c a b=>pickV (opnd T c) (opnd T a) (opnd T b)
 | .nilCheck x=>pNilCheck (opnd T x)
 | .binOp op t x y _=>cond (binMode P op t) (binFast P op t (rho T x) (rho T y)) (evPure P (locT T o) o)
 | .unOp .not _ x=>unFast .not (rho T x)
 | .extract x i=>pExtract i (opnd T x)
 | .build t ps=>pBuild P t (parts T ps.toList)
 | .field t x f=>pField P t f (opnd T x)
 | .index t x i=>pIndex P t (opnd T x) (opnd T i)
 | .fieldAddr t x f=>pFieldAddr P t f (opnd T x)
 | .indexAddr t x i=>pIndexAddr P t (opnd T x) (opnd T i)
 | .makeFunc fn fs cs=>pMakeFunc fn (opnds T fs.toList) (opnds T cs.toList)
 | _=>evPure P (locT T o) o
def evReadK (T:Tm) (o:Oper) (h:AH):Option Value:=match o.op with
 | .load t a=>rLoad P t h (opnd T a)
 | .lookup t x k ok=>rLookup P t ok (opnd T x) (opnd T k) h
 | .entry x=>rEntry (opnd T x) h
 | _=>evRead P (locT T o) o h
def wBuiltinV (b:Builtin) (ts:List TypeId) (vs:List Value) (h:AH):R (Value×AH):=
  match b,vs,ts with
  | .append,[s,x],_=>v2 (appendV P ts s x h)
  | .clear,[x],t::_=>wClear P t x h
  | .copy,[d,s],t::_=>wCopy P t d s h
  | .unsafeString,[p,n],t::_=>wUnsafeString P t p n h
  | _,_,_=>none
def wBuiltinO (b:Builtin) (ts:List TypeId) (vs:Option (List Value)) (h:AH):R (Value×AH):=match vs with
 | some vs=>wBuiltinV P b ts vs h
 | none=>none
def evWriteK (r:Rec) (T:Tm) (o:Oper) (h:AH):R (Value×AH):=match o.op with
 | .call c=>(match c.callee with
  | .builtin b=>wBuiltinO P b c.argTypes.toList (opnds T c.args.toList) h
  | .value f=>wCallV r (opnd T f) (opnds T c.args.toList) h
  | _=>none)
 | _=>evWrite P r T o h
def evQuietK (T:Tm) (o:Oper) (h:AH):Option Value:=match cls o.op with
 | .pure=>evPureK P T o
 | .read=>evReadK P T o h
 | .write=>none
end
variable {P:Env}
theorem evPureK_imp {T:Tm} {o:Oper} {v:Value} (h:evPureK P T o=some v):evPure P T o=some v:=by
 have gen:evPure P (locT T o) o=some v->evPure P T o=some v:=fun h=>by rw [← evPure_same (locT_same T o)];exact h
 unfold evPureK at h
 split at h
 case _ x e=>unfold evPure;rw [e];exact h
 case _ x e=>unfold evPure;rw [e];exact h
 case _ c a b e=>
  unfold evPure;rw [e]
  unfold pickV at h
  unfold AM.pPick
  simp only
  split at h
  ·rename_i t ht
   rw [ht]
   cases t <;> exact h
  ·cases h
 case _ x e=>unfold evPure;rw [e];exact h
 case _ op t x y c e=>
  cases hb:binMode P op t with
  | false=>rw [hb] at h;exact gen h
  | true=>
   rw [hb] at h
   simp only [cond_true] at h
   unfold evPure;rw [e]
   simp only [pBin,h]
 case _ t x e=>
  unfold evPure;rw [e]
  simp only [pUn,h]
 case _ x i e=>unfold evPure;rw [e];exact h
 case _ t ps e=>unfold evPure;rw [e];exact h
 case _ t x f e=>unfold evPure;rw [e];exact h
 case _ t x i e=>unfold evPure;rw [e];exact h
 case _ t x f e=>unfold evPure;rw [e];exact h
 case _ t x i e=>unfold evPure;rw [e];exact h
 case _ fn fs cs e=>unfold evPure;rw [e];exact h
 case _=>exact gen h
theorem evReadK_imp {T:Tm} {o:Oper} {h:AH} {v:Value} (e:evReadK P T o h=some v):evRead P T o h=some v:=by
 have gen:evRead P (locT T o) o h=some v->evRead P T o h=some v:=fun e=>by rw [← evRead_same (locT_same T o)];exact e
 unfold evReadK at e
 split at e
 case _ t a eo=>unfold evRead;rw [eo];exact e
 case _ t x k ok eo=>unfold evRead;rw [eo];exact e
 case _ x eo=>unfold evRead;rw [eo];exact e
 case _=>exact gen e
theorem evQuietK_imp {T:Tm} {o:Oper} {h:AH} {v:Value} (e:evQuietK P T o h=some v):evQuiet P T o h=some v:=by
 unfold evQuietK at e
 unfold evQuiet
 split at e
 ·rename_i hc;rw [hc];exact evPureK_imp e
 ·rename_i hc;rw [hc];exact evReadK_imp e
 ·cases e
theorem evWriteK_eq (r:Rec) (T:Tm) (o:Oper) (h:AH):evWriteK P r T o h=evWrite P r T o h:=by
 unfold evWriteK
 split
 ·rename_i c e
  unfold evWrite
  rw [e]
  simp only [wCall]
  split
  ·rename_i b hb
   rw [hb]
   unfold wBuiltinO
   cases opnds T c.args.toList with
   | none=>rfl
   | some vs=>
    simp only
    unfold wBuiltinV wBuiltin
    rfl
  ·rename_i f hf;rw [hf]
  ·rename_i h1 h2
   split
   ·rename_i b hb;exact absurd hb (h1 b)
   ·rename_i f hf;exact absurd hf (h2 f)
   ·rfl
 ·rfl
theorem EvO.imp {α:Type} {x y:Option α} {K:α->Prop} (h:EvO x K) (hx:∀ v,x=some v->y=some v):EvO y K:=let ⟨_,e,k⟩:=h.ex;.of (hx _ e) k
theorem gdO_imp {all:List Oper} {T:Tm} {o:Oper} {x y:Option Value} (hx:∀ v,x=some v->y=some v):∀ v,gdO all T o x=some v->gdO all T o y=some v:=by
 intro v h
 unfold gdO gdB at h ⊢
 cases hg:o.guard with
 | none=>rw [hg] at h;exact hx v h
 | some a=>
  rw [hg] at h
  simp only at h ⊢
  cases hd:gTmp all a.1 with
  | none=>rw [hd] at h;exact h
  | some d=>
   rw [hd] at h
   simp only at h ⊢
   cases ht:T.get d with
   | bool b=>
    rw [ht] at h
    simp only at h ⊢
    cases hb:(b==a.2) with
    | true=>rw [hb] at h;exact hx v h
    | false=>rw [hb] at h;exact h
   | _=>rw [ht] at h;exact h
section
variable (P:Env) (r:Rec) (s:Bool)
def opsK (all:List Oper):List Oper->Tm->AH->(Tm->AH->Prop)->Prop
 | [],T,h,K=>K T h
 | o::rest,T,h,K=>match cls o.op with
  | .pure=>EvO (gdO all T o (evPureK P T o)) fun v=>opsK all rest (putDst T o.dst v) h K
  | .read=>EvO (gdO all T o (evReadK P T o h)) fun v=>opsK all rest (putDst T o.dst v) h K
  | .write=>Ev s (gdR all T o (evWriteK P r T o h) h) fun x=>opsK all rest (putDst T o.dst x.1) x.2 K
def memN (t:Nat):List Nat->Bool
 | []=>false
 | a::aas=>Nat.beq a t||memN t aas
def subN (A B:List Nat):Bool:=A.all fun t=>memN t B
def readsO (all:List Oper) (o:Oper):List Tmp:=tmpsOf o.op.operands.toList++(match o.guard with|some (j,_)=>(gTmp all j).toList|none=>[])
def addD (d:Option Tmp) (A:List Nat):List Nat:=match d with|some d=>d::A|none=>A
def rdsOk (all:List Oper):List Nat->List Oper->Option (List Nat)
 | A,[]=>some A
 | A,o::rest=>cond (subN (readsO all o) A) (rdsOk all (addD o.dst A) rest) none
end
theorem memN_iff {t:Nat}:∀ {A:List Nat},memN t A=true ↔ t∈A
 | []=>by simp [memN]
 | a::aas=>by
  simp only [memN,Bool.or_eq_true,memN_iff (A:=aas),List.mem_cons]
  constructor
  ·rintro (h|h)
   ·exact .inl (Nat.eq_of_beq_eq_true h).symm
   ·exact .inr h
  ·rintro (rfl|h)
   ·exact .inl (Nat.beq_refl _)
   ·exact .inr h
theorem subN_iff {A B:List Nat}:subN A B=true ↔ ∀ t∈A,t∈B:=by
 unfold subN
 rw [List.all_eq_true]
 exact ⟨fun h t ht=>memN_iff.1 (h t ht),fun h t ht=>memN_iff.2 (h t ht)⟩
variable {P:Env} {r:Rec} {s:Bool}
theorem agree_put {A:List Nat} {T T':Tm} (H:Agree A T T') (d:Option Tmp) (v:Value):Agree (addD d A) (putDst T d v) (putDst T' d v):=by
 unfold addD putDst
 cases d with
 | none=>exact H
 | some d=>
  intro t ht
  simp only [Tm.get_put]
  by_cases e:t=d
  ·simp [e]
  ·rw [if_neg e,if_neg e]
   exact H t ((List.mem_cons.1 ht).resolve_left e)
theorem same_of {A:List Nat} {T T':Tm} {all:List Oper} {o:Oper} (H:Agree A T T') (hr:subN (readsO all o) A=true):Same o.op.operands.toList T T':=
 fun t ht=>H t (subN_iff.1 hr t (List.mem_append_left _ (mem_tmpsOf.2 ht)))
theorem guard_of {A:List Nat} {T T':Tm} {all:List Oper} {o:Oper} (H:Agree A T T') (hr:subN (readsO all o) A=true) {j:Nat} {w:Bool} (hg:o.guard=some (j,w)) {d:Tmp} (hd:gTmp all j=some d):T.get d=T'.get d:=
 H d (subN_iff.1 hr d (List.mem_append_right _ (by rw [hg];simp [hd])))
theorem wantedT_eq {all:List Oper} {o:Oper} {T:Tm}:wantedT o all T=match o.guard with
  | none=>some true
  | some (j,want)=>match gTmp all j with
   | some d=>(match T.get d with | .bool b=>some (b==want)|_=>some false)
   | none=>some false:=by
 unfold wantedT gTmp
 split
 ·rename_i h;rw [h]
 ·rename_i j w h
  rw [h]
  simp only
  cases hj:lnth all j with
  | none=>rfl
  | some oj=>cases hd:oj.dst <;> simp only [hd] <;> rfl
theorem opsK_ok {all:List Oper} {D:List Nat} {K:Tm->AH->Prop}:∀ {ops:List Oper} {A A':List Nat} {T T':Tm} {h:AH},rdsOk all A ops=some A'->Agree A T T'->opsK P r s all ops T' h K->
  Ev s (evOps P r all ops ⟨T,h,D⟩) fun st=>∃ T1,Agree A' st.T T1/\st.defs=D/\K T1 st.h
 | [],A,A',T,T',h,hA,H,hK=>by
  simp only [rdsOk,Option.some.injEq] at hA
  subst hA
  exact Ev.one ⟨T',H,rfl,hK⟩
 | o::rest,A,A',T,T',h,hA,H,hK=>by
  simp only [rdsOk] at hA
  cases hr:subN (readsO all o) A with
  | false=>rw [hr] at hA;cases hA
  | true=>
   rw [hr] at hA
   simp only [cond_true] at hA
   have hsame:=same_of H hr
   have key:∀ (v:Value) (h':AH),opsK P r s all rest (putDst T' o.dst v) h' K->Ev s (evOps P r all rest ⟨putDst T o.dst v,h',D⟩) fun st=>∃ T1,Agree A' st.T T1/\st.defs=D/\K T1 st.h:=
    fun v h' hk=>opsK_ok hA (agree_put H o.dst v) hk
   have run:Ev s (evOp P r T o h) (fun x=>opsK P r s all rest (putDst T' o.dst x.1) x.2 K)->Ev s (R.andThen (evOp P r T o h) fun x=>evOps P r all rest (putOut T o.dst D x)) fun st=>∃ T1,Agree A' st.T T1/\st.defs=D/\K T1 st.h:=
    fun hx=>Ev.andThen (hx.mono fun x hx=>key x.1 x.2 hx)
   have quiet:∀ {x:Option Value},EvO x (fun v=>opsK P r s all rest (putDst T' o.dst v) h K)->Ev s (v1 x h) (fun x=>opsK P r s all rest (putDst T' o.dst x.1) x.2 K):=by
    intro x hx
    obtain ⟨v,rfl,hv⟩:=hx.ex
    exact Ev.one hv
   have val:∀ {x:Option Value},(cls o.op=.pure\/cls o.op=.read)->evOp P r T o h=v1 x h->EvO (gdO all T' o x) (fun v=>opsK P r s all rest (putDst T' o.dst v) h K)->
     Ev s (evOps P r all (o::rest) ⟨T,h,D⟩) fun st=>∃ T1,Agree A' st.T T1/\st.defs=D/\K T1 st.h:=by
    intro x _ hx hk
    simp only [evOps]
    rw [wantedT_eq]
    unfold gdO at hk
    split
    ·rename_i hw
     refine run ?_
     rw [hx]
     refine quiet ?_
     split at hw
     ·rename_i hg;rw [hg] at hk;exact hk
     ·rename_i j w hg
      rw [hg] at hk
      simp only at hk
      split at hw
      ·rename_i d hd
       rw [hd] at hk
       simp only at hk
       rw [guard_of H hr hg hd] at hw
       split at hw
       ·rename_i b hb
        rw [hb] at hk
        simp only [Option.some.injEq] at hw
        simpa [gdB,hw] using hk
       ·cases hw
      ·cases hw
    ·rename_i hw
     refine key undef h ?_
     split at hw
     ·cases hw
     ·rename_i j w hg
      rw [hg] at hk
      simp only at hk
      split at hw
      ·rename_i d hd
       rw [hd] at hk
       simp only at hk
       rw [guard_of H hr hg hd] at hw
       split at hw
       ·rename_i b hb
        rw [hb] at hk
        simp only [Option.some.injEq] at hw
        simpa [gdB,hw,evO_some] using hk
       ·rename_i hnb
        have:gdB (T'.get d) w x=some undef:=by
         unfold gdB
         split
         ·rename_i b hb;exact absurd hb (hnb b)
         ·rfl
        rw [this,evO_some] at hk
        exact hk
      ·rename_i hd
       rw [hd] at hk
       simpa [evO_some] using hk
    ·rename_i hw
     split at hw
     ·cases hw
     ·split at hw
      ·split at hw <;> cases hw
      ·cases hw
   simp only [opsK] at hK
   cases hc:cls o.op with
   | pure=>
    rw [hc] at hK
    simp only at hK
    have hK:=hK.imp (gdO_imp fun v=>evPureK_imp)
    rw [← evPure_same hsame] at hK
    exact val (.inl hc) (by unfold evOp;rw [hc]) hK
   | read=>
    rw [hc] at hK
    simp only at hK
    have hK:=hK.imp (gdO_imp fun v=>evReadK_imp)
    rw [← evRead_same hsame] at hK
    exact val (.inr hc) (by unfold evOp;rw [hc]) hK
   | write=>
    rw [hc] at hK
    simp only at hK
    rw [evWriteK_eq,← evWrite_same hsame] at hK
    have he:evOp P r T o h=evWrite P r T o h:=by unfold evOp;rw [hc]
    simp only [evOps]
    rw [wantedT_eq]
    unfold gdR at hK
    split
    ·rename_i hw
     refine run ?_
     rw [he]
     split at hw
     ·rename_i hg;rw [hg] at hK;exact hK
     ·rename_i j w hg
      rw [hg] at hK
      simp only at hK
      split at hw
      ·rename_i d hd
       rw [hd] at hK
       simp only at hK
       rw [guard_of H hr hg hd] at hw
       split at hw
       ·rename_i b hb
        rw [hb] at hK
        simp only [Option.some.injEq] at hw
        simpa [gdW,hw] using hK
       ·cases hw
      ·cases hw
    ·rename_i hw
     refine key undef h ?_
     split at hw
     ·cases hw
     ·rename_i j w hg
      rw [hg] at hK
      simp only at hK
      split at hw
      ·rename_i d hd
       rw [hd] at hK
       simp only at hK
       rw [guard_of H hr hg hd] at hw
       split at hw
       ·rename_i b hb
        rw [hb] at hK
        simp only [Option.some.injEq] at hw
        simpa [gdW,hw,ev_one] using hK
       ·rename_i hnb
        have:∀ y,gdW (T'.get d) w y h=one (undef,h):=by
         intro y
         unfold gdW
         split
         ·rename_i b hb;exact absurd hb (hnb b)
         ·rfl
        rw [this,ev_one] at hK
        exact hK
      ·rename_i hd
       rw [hd] at hK
       simpa [ev_one] using hK
    ·rename_i hw
     split at hw
     ·cases hw
     ·split at hw
      ·split at hw <;> cases hw
      ·cases hw
end Go.AM
end
end
section
noncomputable section
namespace Go.AM
open Go
structure RdK where
 i:Nat
 T:Tm
 o:Oper
 v:Value
 g:Option (Value×Bool)
def gOf (all:List Oper) (T:Tm) (o:Oper):Option (Value×Bool):=match o.guard with
 | none=>none
 | some (j,w)=>match gTmp all j with
  | some d=>some (T.get d,w)
  | none=>some (undef,w)
def gdG (g:Option (Value×Bool)) (x:Option Value):Option Value:=match g with
 | none=>x
 | some (g,w)=>gdB g w x
def addRdK (all:List Oper) (p:PO) (T:Tm) (v:Value) (rds:List RdK):List RdK:=match cls p.o.op with
 | .read=>⟨p.i,T,p.o,v,gOf all T p.o⟩::rds
 | _=>rds
def filterK (bef:Nat):List RdK->List RdK
 | []=>[]
 | r::rs=>cond (hasBit bef r.i) (filterK bef rs) (r::filterK bef rs)
def afterK (p:PO) (rds:List RdK):List RdK:=match p.o.guard with
 | none=>filterK p.bef rds
 | some _=>rds
def readies (done:Nat):List PO->List PO->List (PO×List PO)
 | _,[]=>[]
 | pre,p::ps=>cond (readyP p done) ((p,pre++ps)::readies done (pre++[p]) ps) (readies done (pre++[p]) ps)
def joinAll:List (R St)->R St
 | []=>some []
 | a::l=>joinR a (joinAll l)
def conjL:List Prop->Prop
 | []=>True
 | [a]=>a
 | a::b::l=>a/\conjL (b::l)
section
variable (P:Env) (r:Rec) (s:Bool)
def sweepK (all:List Oper) (h:AH):List PO->Tm->Nat->List RdK->(Tm->Nat->List RdK->List PO->Prop)->Prop
 | [],T,done,rds,K=>K T done rds []
 | p::ps,T,done,rds,K=>
  cond (readyP p done&&!isWrite p.o.op)
   (EvO (gdO all T p.o (evQuietK P T p.o h)) fun v=>sweepK all h ps (putDst T p.o.dst v) (setBit done p.i) (addRdK all p T v rds) K)
   (sweepK all h ps T done rds fun T done rds rest=>K T done rds (p::rest))
def rdsK (bef:Nat) (h:AH):List RdK->Prop->Prop
 | [],K=>K
 | rd::rs,K=>cond (hasBit bef rd.i) (rdsK bef h rs K) (EvO (gdG rd.g (evReadK P rd.T rd.o h)) fun v=>veq 100 v rd.v=true/\rdsK bef h rs K)
def fireK (all:List Oper) (k:Tm->Nat->List RdK->List PO->AH->Prop) (p:PO) (T:Tm) (done:Nat) (rds:List RdK) (rest:List PO) (h:AH):Prop:=
 Ev s (gdR all T p.o (evWriteK P r T p.o h) h) fun x=>rdsK P p.bef x.2 rds (k (putDst T p.o.dst x.1) (setBit done p.i) (afterK p rds) rest x.2)
def firesK (all:List Oper) (k:Tm->Nat->List RdK->List PO->AH->Prop) (T:Tm) (done:Nat) (rds:List RdK) (h:AH) (rest:List PO):Prop:=
 match readies done [] rest with
 | []=>False
 | [x]=>fireK P r s all k x.1 T done rds x.2 h
 | l=>s=false/\conjL (l.map fun x=>fireK P r s all k x.1 T done rds x.2 h)
def drawK (all:List Oper) (K:Tm->AH->Prop):Nat->Tm->Nat->List RdK->List PO->AH->Prop
 | 0,_,_,_,_,_=>False
 | f+1,T,done,rds,rest,h=>sweepK P all h rest T done rds fun T done rds rest=>match rest with
  | []=>K T h
  | p::ps=>firesK P r s all (drawK all K f) T done rds h (p::ps)
def moveOf (T:Tm) (o:Oper):Option Value:=match o.guard with
 | some _=>none
 | none=>match o.op with
  | .move x=>opnd T x
  | .assign x=>opnd T x
  | _=>none
def opsM (all:List Oper):List Oper->Tm->AH->(Tm->AH->Prop)->Prop
 | [],T,h,K=>K T h
 | o::rest,T,h,K=>match moveOf T o with
  | some v=>opsM all rest (putDst T o.dst v) h K
  | none=>match cls o.op with
   | .pure=>EvO (gdO all T o (evPureK P T o)) fun v=>opsM all rest (putDst T o.dst v) h K
   | .read=>EvO (gdO all T o (evReadK P T o h)) fun v=>opsM all rest (putDst T o.dst v) h K
   | .write=>Ev s (gdR all T o (evWriteK P r T o h) h) fun x=>opsM all rest (putDst T o.dst x.1) x.2 K
def sweepM (all:List Oper) (h:AH):List PO->Tm->Nat->List RdK->(Tm->Nat->List RdK->List PO->Prop)->Prop
 | [],T,done,rds,K=>K T done rds []
 | p::ps,T,done,rds,K=>
  cond (readyP p done&&!isWrite p.o.op)
   (match moveOf T p.o with
    | some v=>sweepM all h ps (putDst T p.o.dst v) (setBit done p.i) (addRdK all p T v rds) K
    | none=>EvO (gdO all T p.o (evQuietK P T p.o h)) fun v=>sweepM all h ps (putDst T p.o.dst v) (setBit done p.i) (addRdK all p T v rds) K)
   (sweepM all h ps T done rds fun T done rds rest=>K T done rds (p::rest))
def drawM (all:List Oper) (K:Tm->AH->Prop):Nat->Tm->Nat->List RdK->List PO->AH->Prop
 | 0,_,_,_,_,_=>False
 | f+1,T,done,rds,rest,h=>sweepM P all h rest T done rds fun T done rds rest=>match rest with
  | []=>K T h
  | p::ps=>firesK P r s all (drawM all K f) T done rds h (p::ps)
def rdD (A:List Nat) (all:List Oper) (ps:List PO) (p:PO):Bool:=
 (readsO all p.o).all fun t=>memN t A||ps.any fun q=>hasBit p.dep q.i&&writes q t
def chkD (A:List Nat) (all:List Oper):Bool:=(prep 0 [] all).all (rdD A all (prep 0 [] all))
def dstsD:List Oper->List Nat->List Nat
 | [],A=>A
 | o::os,A=>addD o.dst (dstsD os A)
end
variable {P:Env} {r:Rec} {s:Bool}
theorem EvO.mono {α:Type} {x:Option α} {K K':α->Prop} (h:EvO x K) (hK:∀ a,K a->K' a):EvO x K':=let ⟨_,e,k⟩:=h.ex;.of e (hK _ k)
theorem moveOf_ok {all:List Oper} {T:Tm} {o:Oper} {v:Value} (hm:moveOf T o=some v) (h:AH):cls o.op=.pure/\gdO all T o (evPureK P T o)=some v/\gdO all T o (evQuietK P T o h)=some v:=by
 unfold moveOf at hm
 split at hm
 ·cases hm
 ·rename_i hg
  split at hm
  ·rename_i x hx
   have hc:cls o.op=.pure:=by rw [hx];rfl
   have hp:evPureK P T o=some v:=by unfold evPureK;rw [hx];exact hm
   refine ⟨hc,?_,?_⟩
   ·unfold gdO;rw [hg];exact hp
   ·unfold gdO evQuietK;rw [hg,hc];exact hp
  ·rename_i x hx
   have hc:cls o.op=.pure:=by rw [hx];rfl
   have hp:evPureK P T o=some v:=by unfold evPureK;rw [hx];exact hm
   refine ⟨hc,?_,?_⟩
   ·unfold gdO;rw [hg];exact hp
   ·unfold gdO evQuietK;rw [hg,hc];exact hp
  ·cases hm
theorem opsM_imp {all:List Oper}:∀ {l:List Oper} {T:Tm} {h:AH} {K:Tm->AH->Prop},opsM P r s all l T h K->opsK P r s all l T h K
 | [],_,_,_,hh=>hh
 | o::rest,T,h,K,hh=>by
  simp only [opsM] at hh
  simp only [opsK]
  split at hh
  ·rename_i v hv
   obtain ⟨a,b,_⟩:=moveOf_ok (P:=P) (all:=all) hv h
   rw [a]
   simp only
   rw [b]
   exact opsM_imp hh
  ·split at hh
   ·rename_i hc;(try rw [hc]);exact EvO.mono hh fun _ k=>opsM_imp k
   ·rename_i hc;(try rw [hc]);exact EvO.mono hh fun _ k=>opsM_imp k
   ·rename_i hc;(try rw [hc]);exact Ev.mono hh fun _ k=>opsM_imp k
theorem sweepM_imp {all:List Oper} {h:AH}:∀ {ps:List PO} {T:Tm} {done:Nat} {rds:List RdK} {K K':Tm->Nat->List RdK->List PO->Prop},(∀ T d r l,K T d r l->K' T d r l)->sweepM P all h ps T done rds K->sweepK P all h ps T done rds K'
 | [],_,_,_,_,_,hK,hh=>hK _ _ _ _ hh
 | p::ps,T,done,rds,K,K',hK,hh=>by
  simp only [sweepM] at hh
  simp only [sweepK]
  cases hr:(readyP p done&&!isWrite p.o.op) with
  | false=>
   rw [hr] at hh
   exact sweepM_imp (fun _ _ _ _ k=>hK _ _ _ _ k) hh
  | true=>
   rw [hr] at hh
   simp only [cond_true] at hh ⊢
   split at hh
   ·rename_i v hv
    rw [(moveOf_ok (P:=P) (all:=all) hv h).2.2]
    exact sweepM_imp hK hh
   ·exact EvO.mono hh fun _ k=>sweepM_imp hK k
theorem rdsK_mono {bef:Nat} {h:AH} {K K':Prop} (hK:K->K'):∀ {rs:List RdK},rdsK P bef h rs K->rdsK P bef h rs K'
 | [],hh=>hK hh
 | rd::rs,hh=>by
  simp only [rdsK] at hh ⊢
  cases hb:hasBit bef rd.i with
  | true=>rw [hb] at hh;exact rdsK_mono hK hh
  | false=>rw [hb] at hh;exact EvO.mono hh fun _ k=>⟨k.1,rdsK_mono hK k.2⟩
theorem conjL_mono {α:Type} {f g:α->Prop} (h:∀ a,f a->g a):∀ {l:List α},conjL (l.map f)->conjL (l.map g)
 | [],hh=>hh
 | [a],hh=>h a hh
 | a::b::l,hh=>⟨h a hh.1,conjL_mono h (l:=b::l) hh.2⟩
theorem firesK_mono {all:List Oper} {k k':Tm->Nat->List RdK->List PO->AH->Prop} (hk:∀ T d r l h,k T d r l h->k' T d r l h) {T:Tm} {done:Nat} {rds:List RdK} {h:AH} {rest:List PO} (hh:firesK P r s all k T done rds h rest):firesK P r s all k' T done rds h rest:=by
 have one:∀ x:PO×List PO,fireK P r s all k x.1 T done rds x.2 h->fireK P r s all k' x.1 T done rds x.2 h:=fun x hx=>Ev.mono hx fun _ kx=>rdsK_mono (hk _ _ _ _ _) kx
 unfold firesK at hh ⊢
 generalize readies done [] rest=l at hh ⊢
 match l,hh with
 | [],hh=>exact hh
 | [x],hh=>exact one x hh
 | a::b::l,hh=>exact ⟨hh.1,conjL_mono one (l:=a::b::l) hh.2⟩
theorem drawM_imp {all:List Oper} {K:Tm->AH->Prop}:∀ {f:Nat} {T:Tm} {done:Nat} {rds:List RdK} {rest:List PO} {h:AH},drawM P r s all K f T done rds rest h->drawK P r s all K f T done rds rest h
 | 0,_,_,_,_,_,hh=>hh
 | f+1,T,done,rds,rest,h,hh=>by
  simp only [drawM] at hh
  simp only [drawK]
  refine sweepM_imp (fun T d r l kk=>?_) hh
  cases l with
  | nil=>exact kk
  | cons p ps=>exact firesK_mono (fun _ _ _ _ _ k=>drawM_imp k) kk
theorem fires_eq {all:List Oper} {k:DK} {T:Tm} {done:Nat} {rds:List Rd} {h:AH}:∀ (ps pre:List PO),fires P r all k T done rds h pre ps=joinAll ((readies done pre ps).map fun x=>fire P r all k x.1 T done rds x.2 h)
 | [],_=>rfl
 | p::ps,pre=>by
  simp only [fires,readies]
  cases readyP p done with
  | true=>simp only [cond_true,List.map_cons,joinAll];rw [fires_eq ps]
  | false=>simp only [cond_false];rw [fires_eq ps]
theorem Ev.joinAll {Q:St->Prop}:∀ {l:List (R St)},l≠[]->(s=true->l.length=1)->(∀ x∈l,Ev s x Q)->Ev s (someOf (AM.joinAll l)) Q:=by
 have base:∀ {l:List (R St)},l≠[]->(s=true->l.length=1)->(∀ x∈l,Ev s x Q)->Ev s (AM.joinAll l) Q:=by
  intro l
  induction l with
  | nil=>intro h;exact absurd rfl h
  | cons x l ih=>
   intro _ h1 h2
   obtain ⟨a,e,k1,k2,k3⟩:=h2 x (by simp)
   cases l with
   | nil=>simp only [AM.joinAll,e,joinR,List.append_nil];exact ⟨a,rfl,k1,k2,k3⟩
   | cons y l=>
    have hs:s=false:=by cases s with|false=>rfl|true=>have:=h1 rfl;simp at this
    obtain ⟨b,e',_,_,j3⟩:=ih (by simp) (fun h=>by rw [hs] at h;cases h) fun z hz=>h2 z (by simp at hz ⊢;exact .inr hz)
    simp only [AM.joinAll] at e' ⊢
    rw [e,e']
    exact ⟨a++b,rfl,by simp [k1],(fun h=>by rw [hs] at h;cases h),fun c hc=>(List.mem_append.1 hc).elim (k3 c) (j3 c)⟩
 intro l h1 h2 h3
 obtain ⟨a,e,k1,k2,k3⟩:=base h1 h2 h3
 rw [e]
 cases a with
 | nil=>exact absurd rfl k1
 | cons x xs=>exact ⟨x::xs,rfl,k1,k2,k3⟩
theorem conjL_iff:∀ {l:List Prop},conjL l->∀ p∈l,p
 | [a],h,p,hp=>by simp at hp;rw [hp];exact h
 | a::b::l,h,p,hp=>by
  rcases List.mem_cons.1 hp with rfl|hp
  ·exact h.1
  ·exact conjL_iff h.2 p hp
def Knows (A:List Nat) (PS:List PO) (done:Nat) (t:Nat):Prop:=t∈A\/∃ q∈PS,q.o.dst=some t/\done.testBit q.i=true
def AgreeD (A:List Nat) (PS:List PO) (done:Nat) (T T':Tm):Prop:=∀ t,Knows A PS done t->T.get t=T'.get t
inductive RdsR:List Rd->List RdK->Prop
 | nil:RdsR [] []
 | cons {i:Nat} {o:Oper} {v:Value} {g:Option (Value×Bool)} {T T':Tm} {l:List Rd} {l':List RdK} (h:Same o.op.operands.toList T T') (hg:∀ x,gdG g x=x) (hs:RdsR l l'):RdsR (⟨i,T,o,v⟩::l) (⟨i,T',o,v,g⟩::l')
 | skip {r:RdK} {l:List Rd} {l':List RdK} (hs:RdsR l l'):RdsR l (r::l')
theorem RdsR.after {l:List Rd} {l':List RdK} (H:RdsR l l') (bef:Nat):RdsR (afterW bef l) (filterK bef l'):=by
 induction H with
 | nil=>exact .nil
 | @cons i o v g T T' l l' h hg hs ih=>
  simp only [afterW,List.filter_cons,filterK]
  cases hasBit bef i with
  | true=>exact ih
  | false=>exact .cons h hg ih
 | @skip r l l' hs ih=>
  simp only [filterK]
  cases hasBit bef r.i with
  | true=>exact ih
  | false=>exact .skip ih
theorem RdsR.drop {l:List Rd} {l':List RdK} (H:RdsR l l') (bef:Nat):RdsR (afterW bef l) l':=by
 induction H with
 | nil=>exact .nil
 | @cons i o v g T T' l l' h hg hs ih=>
  simp only [afterW,List.filter_cons]
  cases hasBit bef i with
  | true=>exact .skip ih
  | false=>exact .cons h hg ih
 | @skip r l l' hs ih=>exact .skip ih
theorem rdsK_ok {bef:Nat} {h:AH} {K:Prop} {l:List Rd} {l':List RdK} (H:RdsR l l') (hk:rdsK P bef h l' K):l.all (rdOk P bef h)=true/\K:=by
 induction H with
 | nil=>exact ⟨rfl,hk⟩
 | @cons i o v g T T' l l' hs hg _ ih=>
  simp only [rdsK] at hk
  simp only [List.all_cons,Bool.and_eq_true]
  cases hb:hasBit bef i with
  | true=>
   rw [hb] at hk
   obtain ⟨a,b⟩:=ih hk
   exact ⟨⟨by simp [rdOk,hb],a⟩,b⟩
  | false=>
   rw [hb] at hk
   simp only [cond_false] at hk
   obtain ⟨u,e,hv,hk⟩:=hk.ex
   rw [hg] at e
   have e:=evReadK_imp e
   obtain ⟨a,b⟩:=ih hk
   exact ⟨⟨by simp only [rdOk,hb,Bool.false_or];rw [evRead_same hs,e];exact hv,a⟩,b⟩
 | @skip r l l' _ ih=>
  simp only [rdsK] at hk
  cases hb:hasBit bef r.i with
  | true=>rw [hb] at hk;exact ih hk
  | false=>
   rw [hb] at hk
   obtain ⟨u,_,_,hk⟩:=hk.ex
   exact ih hk
section
variable {A:List Nat} {all:List Oper} {PS:List PO}
theorem AgreeD.put {done:Nat} {T T':Tm} (H:AgreeD A PS done T T') {p:PO} (huniq:∀ q∈PS,q.i=p.i->q.o=p.o) (v:Value):AgreeD A PS (setBit done p.i) (putDst T p.o.dst v) (putDst T' p.o.dst v):=by
 intro t ht
 cases hd:p.o.dst with
 | none=>
  simp only [putDst]
  refine H t (ht.imp id ?_)
  rintro ⟨q,q1,q2,q3⟩
  refine ⟨q,q1,q2,?_⟩
  rw [setBit_bit,Bool.or_eq_true,decide_eq_true_eq] at q3
  rcases q3 with h|h
  ·exact h
  ·rw [huniq q q1 h.symm,hd] at q2;cases q2
 | some d=>
  simp only [putDst,Tm.get_put]
  by_cases e:t=d
  ·simp [e]
  ·rw [if_neg e,if_neg e]
   refine H t (ht.imp id ?_)
   rintro ⟨q,q1,q2,q3⟩
   refine ⟨q,q1,q2,?_⟩
   rw [setBit_bit,Bool.or_eq_true,decide_eq_true_eq] at q3
   rcases q3 with h|h
   ·exact h
   ·rw [huniq q q1 h.symm,hd] at q2;cases q2;exact absurd rfl e
theorem known_of {done:Nat} {T T':Tm} (H:AgreeD A PS done T T') {p:PO} (hr:readyP p done=true) (hc:rdD A all PS p=true):∀ t∈readsO all p.o,T.get t=T'.get t:=by
 intro t ht
 unfold rdD at hc
 rw [List.all_eq_true] at hc
 have:=hc t ht
 simp only [Bool.or_eq_true] at this
 rcases this with h|h
 ·exact H t (.inl (memN_iff.1 h))
 ·simp only [List.any_eq_true,Bool.and_eq_true] at h
  obtain ⟨q,q1,q2,q3⟩:=h
  rw [hasBit_eq] at q2
  exact H t (.inr ⟨q,q1,writes_iff.1 q3,(ready_iff p done).1 hr _ q2⟩)
theorem same_ofD {T T':Tm} {o:Oper} (h:∀ t∈readsO all o,T.get t=T'.get t):Same o.op.operands.toList T T':=fun t ht=>h t (List.mem_append_left _ (mem_tmpsOf.2 ht))
theorem guard_ofD {T T':Tm} {o:Oper} (h:∀ t∈readsO all o,T.get t=T'.get t) {j:Nat} {w:Bool} (hg:o.guard=some (j,w)) {d:Tmp} (hd:gTmp all j=some d):T.get d=T'.get d:=
 h d (List.mem_append_right _ (by rw [hg];simp [hd]))
theorem evQuiet_same {o:Oper} {T T':Tm} (H:Same o.op.operands.toList T T') (h:AH):evQuiet P T o h=evQuiet P T' o h:=by
 unfold evQuiet
 split
 ·exact evPure_same H
 ·exact evRead_same H h
 ·rfl
theorem RdsR.add {p:PO} {T T':Tm} (H:Same p.o.op.operands.toList T T') (v:Value) {l:List Rd} {l':List RdK} (h:RdsR l l') (hg:∀ x,gdG (gOf all T' p.o) x=x):RdsR (addRd p T v l) (addRdK all p T' v l'):=by
 unfold addRd addRdK
 cases cls p.o.op with
 | read=>exact .cons H hg h
 | _=>exact h
theorem RdsR.add0 {p:PO} {T':Tm} (v:Value) {l:List Rd} {l':List RdK} (h:RdsR l l'):RdsR l (addRdK all p T' v l'):=by
 unfold addRdK
 cases cls p.o.op with
 | read=>exact .skip h
 | _=>exact h
theorem gdO_gOf {T:Tm} {o:Oper} (x:Option Value):gdO all T o x=gdG (gOf all T o) x:=by
 unfold gdO gOf
 cases o.guard with
 | none=>rfl
 | some y=>
  simp only
  cases gTmp all y.1 <;> rfl
theorem wanted_cases {T T':Tm} {o:Oper} (hT:∀ j w d,o.guard=some (j,w)->gTmp all j=some d->T.get d=T'.get d) :
  (wantedT o all T=some true/\(∀ x,gdG (gOf all T' o) x=x)/\∀ x h,gdR all T' o x h=x) ∨
  (wantedT o all T=some false/\(∀ x,gdG (gOf all T' o) x=some undef)/\(∀ x h,gdR all T' o x h=one (undef,h))/\o.guard.isSome=true):=by
 rw [wantedT_eq]
 unfold gOf gdR
 cases hg:o.guard with
 | none=>exact .inl ⟨rfl,fun _=>rfl,fun _ _=>rfl⟩
 | some y=>
  simp only
  cases hd:gTmp all y.1 with
  | none=>exact .inr ⟨rfl,fun _=>rfl,fun _ _=>rfl,rfl⟩
  | some d=>
   have:=hT y.1 y.2 d hg hd
   simp only
   rw [this]
   cases hb:T'.get d with
   | bool b=>
    cases hbw:(b==y.2) with
    | true=>exact .inl ⟨by simp [hbw],fun x=>by simp [gdG,gdB,hbw],fun x h=>by simp [gdW,hbw]⟩
    | false=>exact .inr ⟨by simp [hbw],fun x=>by simp [gdG,gdB,hbw],fun x h=>by simp [gdW,hbw],rfl⟩
   | _=>exact .inr ⟨rfl,fun _=>rfl,fun _ _=>rfl,rfl⟩
theorem sweepK_ok (huniq:∀ p∈PS,∀ q∈PS,q.i=p.i->q.o=p.o) (hc:∀ p∈PS,rdD A all PS p=true) {h:AH}:∀ {ps:List PO} {T T':Tm} {done:Nat} {rds:List Rd} {rds':List RdK} {K:Tm->Nat->List RdK->List PO->Prop},
  (∀ p∈ps,p∈PS)->AgreeD A PS done T T'->RdsR rds rds'->sweepK P all h ps T' done rds' K->
  ∃ sw T1 rds1,sweep P all h ps T done rds=some sw/\AgreeD A PS sw.done sw.T T1/\RdsR sw.rds rds1/\K T1 sw.done rds1 sw.rest/\(∀ p∈ps,p∈sw.rest\/sw.done.testBit p.i=true)/\(∀ i,done.testBit i=true->sw.done.testBit i=true)/\∀ p∈sw.rest,p∈ps
 | [],T,T',done,rds,rds',K,_,H,hr,hk=>⟨⟨T,done,rds,[]⟩,T',rds',rfl,H,hr,hk,by simp,fun _ h=>h,by simp⟩
 | p::ps,T,T',done,rds,rds',K,hps,H,hr,hk=>by
  have hpP:=hps p (by simp)
  have hps':∀ q∈ps,q∈PS:=fun q hq=>hps q (by simp [hq])
  simp only [sweepK] at hk
  simp only [sweep]
  cases hrd:(readyP p done&&!isWrite p.o.op) with
  | false=>
   rw [hrd] at hk
   simp only [cond_false] at hk ⊢
   obtain ⟨sw,T1,rds1,e,k1,k2,k3,k4,k5,k6⟩:=sweepK_ok huniq hc hps' H hr hk
   rw [e]
   refine ⟨_,T1,rds1,rfl,k1,k2,k3,?_,k5,?_⟩
   ·intro q hq
    rcases List.mem_cons.1 hq with rfl|hq
    ·exact .inl (by simp)
    ·exact (k4 q hq).imp (fun h=>by simp [h]) id
   ·intro q hq
    rcases List.mem_cons.1 hq with rfl|hq
    ·simp
    ·simp [k6 q hq]
  | true=>
   rw [hrd] at hk
   simp only [cond_true] at hk ⊢
   have hready:readyP p done=true:=by simp only [Bool.and_eq_true] at hrd;exact hrd.1
   have hk1:=known_of H hready (hc p hpP)
   have hs:=same_ofD hk1
   have next:∀ (v:Value) (rds2:List Rd) (rds2':List RdK),RdsR rds2 rds2'->sweepK P all h ps (putDst T' p.o.dst v) (setBit done p.i) rds2' K->
     ∃ sw T1 rds1,sweep P all h ps (putDst T p.o.dst v) (setBit done p.i) rds2=some sw/\AgreeD A PS sw.done sw.T T1/\RdsR sw.rds rds1/\K T1 sw.done rds1 sw.rest/\(∀ q∈p::ps,q∈sw.rest\/sw.done.testBit q.i=true)/\(∀ i,done.testBit i=true->sw.done.testBit i=true)/\∀ q∈sw.rest,q∈p::ps:=by
    intro v rds2 rds2' h2 hk2
    obtain ⟨sw,T1,rds1,e,k1,k2,k3,k4,k5,k6⟩:=sweepK_ok huniq hc hps' (H.put (huniq p hpP) v) h2 hk2
    refine ⟨sw,T1,rds1,e,k1,k2,k3,?_,fun i hi=>k5 i (by rw [setBit_bit,hi];rfl),fun q hq=>by simp [k6 q hq]⟩
    intro q hq
    rcases List.mem_cons.1 hq with rfl|hq
    ·exact .inr (k5 _ (by rw [setBit_bit];simp))
    ·exact k4 q hq
   obtain ⟨v,e,hv⟩:=hk.ex
   rw [gdO_gOf] at e
   rcases wanted_cases (T:=T) (T':=T') (o:=p.o) (all:=all) (fun j w d hg hd=>guard_ofD hk1 hg hd) with ⟨hw,hg,_⟩|⟨hw,hg,_⟩
   ·rw [hg] at e
    have e:=evQuietK_imp e
    rw [hw]
    simp only
    rw [evQuiet_same hs,e]
    exact next v _ _ (hr.add hs v hg) hv
   ·rw [hg] at e
    cases e
    rw [hw]
    exact next undef _ _ (hr.add0 undef) hv
theorem mem_readies {done:Nat}:∀ {ps pre:List PO} {x:PO×List PO},x∈readies done pre ps->x.1∈ps/\readyP x.1 done=true/\(∀ q,q∈x.2->q∈pre\/q∈ps)/\∀ q,(q∈pre\/q∈ps)->q=x.1\/q∈x.2
 | [],_,x,h=>by cases h
 | p::ps,pre,x,h=>by
  simp only [readies] at h
  have rec':x∈readies done (pre++[p]) ps->x.1∈p::ps/\readyP x.1 done=true/\(∀ q,q∈x.2->q∈pre\/q∈p::ps)/\∀ q,(q∈pre\/q∈p::ps)->q=x.1\/q∈x.2:=by
   intro h
   obtain ⟨a,b,c,d⟩:=mem_readies h
   refine ⟨by simp [a],b,fun q hq=>?_,fun q hq=>?_⟩
   ·rcases c q hq with h|h
    ·simp at h;rcases h with h|h
     ·exact .inl h
     ·exact .inr (by simp [h])
    ·exact .inr (by simp [h])
   ·refine d q ?_
    rcases hq with h|h
    ·exact .inl (by simp [h])
    ·rcases List.mem_cons.1 h with rfl|h
     ·exact .inl (by simp)
     ·exact .inr h
  cases hr:readyP p done with
  | false=>rw [hr] at h;exact rec' h
  | true=>
   rw [hr] at h
   simp only [cond_true] at h
   rcases List.mem_cons.1 h with rfl|h
   ·refine ⟨by simp,hr,fun q hq=>?_,fun q hq=>?_⟩
    ·simp at hq;rcases hq with h|h
     ·exact .inl h
     ·exact .inr (by simp [h])
    ·rcases hq with h|h
     ·exact .inr (by simp [h])
     ·rcases List.mem_cons.1 h with rfl|h
      ·exact .inl rfl
      ·exact .inr (by simp [h])
   ·exact rec' h
theorem dstsD_iff {t:Nat}:∀ {os:List Oper},t∈dstsD os A->t∈A\/∃ o∈os,o.dst=some t
 | [],h=>.inl h
 | o::os,h=>by
  simp only [dstsD,addD] at h
  split at h
  ·rename_i d hd
   rcases List.mem_cons.1 h with rfl|h
   ·exact .inr ⟨o,by simp,hd⟩
   ·rcases dstsD_iff h with h|⟨q,a,b⟩
    ·exact .inl h
    ·exact .inr ⟨q,by simp [a],b⟩
  ·rcases dstsD_iff h with h|⟨q,a,b⟩
   ·exact .inl h
   ·exact .inr ⟨q,by simp [a],b⟩
theorem drawK_ok (huniq:∀ p∈PS,∀ q∈PS,q.i=p.i->q.o=p.o) (hall:∀ o∈all,∃ p∈PS,p.o=o) (hc:∀ p∈PS,rdD A all PS p=true) {D:List Nat} {K:Tm->AH->Prop} :
  ∀ {f:Nat} {T T':Tm} {done:Nat} {rds:List Rd} {rds':List RdK} {rest:List PO} {h:AH},(∀ p∈rest,p∈PS)->(∀ p∈PS,p∈rest\/done.testBit p.i=true)->AgreeD A PS done T T'->RdsR rds rds'->
  drawK P r s all K f T' done rds' rest h->Ev s (drawRun P r all D f T done rds rest h) fun st=>∃ T1,Agree (dstsD all A) st.T T1/\st.defs=D/\K T1 st.h
 | 0,_,_,_,_,_,_,_,_,_,_,_,hk=>hk.elim
 | f+1,T,T',done,rds,rds',rest,h,hrest,hinv,H,hr,hk=>by
  simp only [drawK] at hk
  simp only [drawRun]
  obtain ⟨sw,T1,rds1,e,k1,k2,k3,k4,k5,k6⟩:=sweepK_ok huniq hc hrest H hr hk
  rw [e]
  simp only
  have hinv':∀ p∈PS,p∈sw.rest\/sw.done.testBit p.i=true:=fun p hp=>(hinv p hp).elim (fun h=>k4 p h) fun h=>.inr (k5 _ h)
  cases hrs:sw.rest with
  | nil=>
   rw [hrs] at k3
   refine Ev.one ⟨T1,?_,rfl,k3⟩
   intro t ht
   refine k1 t ?_
   rcases dstsD_iff ht with h|⟨o,ho,hd⟩
   ·exact .inl h
   ·obtain ⟨p,hp,rfl⟩:=hall o ho
    refine .inr ⟨p,hp,hd,?_⟩
    rcases hinv' p hp with h|h
    ·rw [hrs] at h;cases h
    ·exact h
  | cons p0 ps0=>
   rw [hrs] at k3
   simp only at k3 ⊢
   rw [fires_eq]
   have fire1:∀ x∈readies sw.done [] (p0::ps0),fireK P r s all (drawK P r s all K f) x.1 T1 sw.done rds1 x.2 h->Ev s (fire P r all (drawRun P r all D f) x.1 sw.T sw.done sw.rds x.2 h) fun st=>∃ T1,Agree (dstsD all A) st.T T1/\st.defs=D/\K T1 st.h:=by
    intro x hx hk
    obtain ⟨m1,m2,m3,m4⟩:=mem_readies hx
    have hxP:x.1∈PS:=hrest _ (k6 _ (by rw [hrs];exact m1))
    have hkn:=known_of k1 m2 (hc _ hxP)
    have hs:=same_ofD hkn
    have sub:∀ p∈x.2,p∈PS:=fun p hp=>by
     rcases m3 p hp with h|h
     ·cases h
     ·exact hrest _ (k6 _ (by rw [hrs];exact h))
    have inv2:∀ p∈PS,p∈x.2\/(setBit sw.done x.1.i).testBit p.i=true:=fun p hp=>by
     rcases hinv' p hp with h|h
     ·rw [hrs] at h
      rcases m4 p (.inr h) with rfl|h
      ·exact .inr (by rw [setBit_bit];simp)
      ·exact .inl h
     ·exact .inr (by rw [setBit_bit,h];rfl)
    have go:∀ (v:Value) (h':AH) (l:List Rd) (l':List RdK),RdsR l l'->drawK P r s all K f (putDst T1 x.1.o.dst v) (setBit sw.done x.1.i) l' x.2 h'->
      Ev s (drawRun P r all D f (putDst sw.T x.1.o.dst v) (setBit sw.done x.1.i) l x.2 h') fun st=>∃ T1,Agree (dstsD all A) st.T T1/\st.defs=D/\K T1 st.h:=
     fun v h' l l' hl hk=>drawK_ok huniq hall hc sub inv2 (k1.put (huniq _ hxP) v) hl hk
    unfold fireK at hk
    rcases wanted_cases (T:=sw.T) (T':=T1) (o:=x.1.o) (all:=all) (fun j w d hg hd=>guard_ofD hkn hg hd) with ⟨hw,_,hg⟩|⟨hw,_,hg,hgs⟩
    ·rw [hg] at hk
     unfold fire
     rw [hw]
     simp only
     rw [evWrite_same hs,← evWriteK_eq]
     refine Ev.andThen (hk.mono fun y hy=>?_)
     obtain ⟨q1,q2⟩:=rdsK_ok k2 hy
     unfold fired
     rw [q1]
     refine go y.1 y.2 _ _ ?_ q2
     unfold afterK
     split
     ·exact k2.after _
     ·exact k2.drop _
    ·rw [hg,ev_one] at hk
     obtain ⟨_,q2⟩:=rdsK_ok k2 hk
     unfold fire
     rw [hw]
     refine go undef h _ _ ?_ q2
     unfold afterK
     split
     ·rename_i hn;rw [hn] at hgs;cases hgs
     ·exact k2
   unfold firesK at k3
   cases hl:readies sw.done [] (p0::ps0) with
   | nil=>rw [hl] at k3;exact k3.elim
   | cons x l=>
    refine Ev.joinAll (by simp) ?_ ?_
    ·intro hs
     rw [hl] at k3
     cases l with
     | nil=>rfl
     | cons y l=>simp only at k3;rw [hs] at k3;cases k3.1
    ·intro z hz
     simp only [List.mem_map] at hz
     obtain ⟨y,hy,rfl⟩:=hz
     refine fire1 y (by rw [hl];exact hy) ?_
     rw [hl] at k3
     cases l with
     | nil=>simp at hy;subst hy;exact k3
     | cons x' l=>exact conjL_iff k3.2 _ (List.mem_map.2 ⟨y,hy,rfl⟩)
end
end Go.AM
end
end
section
noncomputable section
namespace Go.AM
open Go
def sub:Code->List Nat->Code
 | c,[]=>c
 | .seq a b,i::p=>cond (Nat.beq i 0) (sub a p) (sub b p)
 | .cond _ a b,i::p=>cond (Nat.beq i 0) (sub a p) (sub b p)
 | .block _ c,_::p=>sub c p
 | .loop c,_::p=>sub c p
 | _,_::_=>.skip
section
variable (P:Env) (s:Bool) (ro:Option Nat)
def ctx:Code->List Nat->(Out->Prop)->Out->Prop
 | _,[],Q=>Q
 | .seq a b,i::p,Q=>cond (Nat.beq i 0) (ctx a p fun o=>Ev s (thenC (evC P (recI P) ro b) o) Q) (ctx b p Q)
 | .cond _ a b,i::p,Q=>cond (Nat.beq i 0) (ctx a p Q) (ctx b p Q)
 | .block id c,_::p,Q=>ctx c p fun o=>Ev s (blockOut id o) Q
 | .loop c,_::p,Q=>ctx c p fun o=>Ev s (thenC ((recI P).loop ro c) o) Q
 | _,_::_,_=>fun _=>False
def At (B:Code) (Q:Out->Prop) (p:List Nat) (st:St):Prop:=Ev s (evC P (recI P) ro (sub B p) st) (ctx P s ro B p Q)
end
inductive Wh where
 | fin
 | at (p:List Nat)
 | out
 | bad
def Wh.push (i:Nat):Wh->Wh
 | .at p=>.at (i::p)
 | w=>w
def Wh.finAt (p:List Nat):Wh->Wh
 | .fin=>.at p
 | w=>w
def nx:Code->List Nat->Wh
 | _,[]=>.fin
 | .seq a b,i::p=>cond (Nat.beq i 0) (((nx a p).push 0).finAt [1]) ((nx b p).push 1)
 | .cond _ a b,i::p=>cond (Nat.beq i 0) ((nx a p).push 0) ((nx b p).push 1)
 | .block _ c,_::p=>(nx c p).push 0
 | .loop c,_::p=>((nx c p).push 0).finAt []
 | _,_::_=>.bad
def Wh.endAt (b:Bool):Wh->Wh
 | .out=>cond b .fin .out
 | w=>w
def xt (id:Nat):Code->List Nat->Wh
 | _,[]=>.out
 | .seq a b,i::p=>cond (Nat.beq i 0) (((xt id a p).push 0).finAt [1]) ((xt id b p).push 1)
 | .cond _ a b,i::p=>cond (Nat.beq i 0) ((xt id a p).push 0) ((xt id b p).push 1)
 | .block id' c,_::p=>((xt id c p).push 0).endAt (Nat.beq id id')
 | .loop c,_::p=>((xt id c p).push 0).finAt []
 | _,_::_=>.bad
section
variable {P:Env} {s:Bool} {ro:Option Nat}
def AtW (P:Env) (s:Bool) (ro:Option Nat) (B:Code) (Q:Out->Prop) (w:Wh) (st:St):Prop:=match w with
 | .fin=>Q ⟨.normal,st⟩
 | .at p=>At P s ro B Q p st
 | _=>False
theorem b10:Nat.beq 1 0=false:=rfl
theorem b00:Nat.beq 0 0=true:=rfl
theorem nx_ok:∀ (c:Code) (p:List Nat) (Q:Out->Prop) (st:St),AtW P s ro c Q (nx c p) st->ctx P s ro c p Q ⟨.normal,st⟩
 | c,[],Q,st,h=>by simp only [nx] at h;simp only [ctx];exact h
 | .seq a b,i::p,Q,st,h=>by
  simp only [nx] at h
  simp only [ctx]
  cases hi:Nat.beq i 0 with
  | true=>
   simp only [hi,cond_true] at h ⊢
   refine nx_ok a p _ st ?_
   generalize nx a p=w at h
   cases w with
   | fin=>
    show Ev s (evC P (recI P) ro b st) Q
    simpa only [Wh.push,Wh.finAt,AtW,At,sub,ctx,b10,cond_false] using h
   | «at» q=>exact h
   | _=>exact h.elim
  | false=>
   simp only [hi,cond_false] at h ⊢
   refine nx_ok b p Q st ?_
   generalize nx b p=w at h
   cases w with
   | fin=>exact h
   | «at» q=>exact h
   | _=>exact h.elim
 | .cond _ a b,i::p,Q,st,h=>by
  simp only [nx] at h
  simp only [ctx]
  cases hi:Nat.beq i 0 with
  | true=>
   simp only [hi,cond_true] at h ⊢
   refine nx_ok a p Q st ?_
   generalize nx a p=w at h
   cases w with
   | fin=>exact h
   | «at» q=>exact h
   | _=>exact h.elim
  | false=>
   simp only [hi,cond_false] at h ⊢
   refine nx_ok b p Q st ?_
   generalize nx b p=w at h
   cases w with
   | fin=>exact h
   | «at» q=>exact h
   | _=>exact h.elim
 | .block id c,i::p,Q,st,h=>by
  simp only [nx] at h
  simp only [ctx]
  refine nx_ok c p _ st ?_
  generalize nx c p=w at h
  cases w with
  | fin=>exact Ev.one h
  | «at» q=>exact h
  | _=>exact h.elim
 | .loop c,i::p,Q,st,h=>by
  simp only [nx] at h
  simp only [ctx]
  refine nx_ok c p _ st ?_
  generalize nx c p=w at h
  cases w with
  | fin=>
   show Ev s ((recI P).loop ro c st) Q
   rw [loop_eq]
   exact h
  | «at» q=>exact h
  | _=>exact h.elim
 | .skip,_::_,_,_,h=>by simp [nx,AtW] at h
 | .region ..,_::_,_,_,h=>by simp [nx,AtW] at h
 | .rangeFunc ..,_::_,_,_,h=>by simp [nx,AtW] at h
 | .exit _,_::_,_,_,h=>by simp [nx,AtW] at h
 | .scope _,_::_,_,_,h=>by simp [nx,AtW] at h
 | .label _,_::_,_,_,h=>by simp [nx,AtW] at h
 | .goto _,_::_,_,_,h=>by simp [nx,AtW] at h
 | .ret,_::_,_,_,h=>by simp [nx,AtW] at h
 | .refuse _,_::_,_,_,h=>by simp [nx,AtW] at h
def AtX (P:Env) (s:Bool) (ro:Option Nat) (B:Code) (Q:Out->Prop) (id:Nat) (w:Wh) (st:St):Prop:=match w with
 | .out=>Q ⟨.exit id,st⟩
 | w=>AtW P s ro B Q w st
theorem xt_ok (id:Nat):∀ (c:Code) (p:List Nat) (Q:Out->Prop) (st:St),AtX P s ro c Q id (xt id c p) st->ctx P s ro c p Q ⟨.exit id,st⟩
 | c,[],Q,st,h=>by simp only [xt] at h;simp only [ctx];exact h
 | .seq a b,i::p,Q,st,h=>by
  simp only [xt] at h
  simp only [ctx]
  cases hi:Nat.beq i 0 with
  | true=>
   simp only [hi,cond_true] at h ⊢
   refine xt_ok id a p _ st ?_
   generalize xt id a p=w at h
   cases w with
   | fin=>
    show Ev s (evC P (recI P) ro b st) Q
    simpa only [Wh.push,Wh.finAt,AtX,AtW,At,sub,ctx,b10,cond_false] using h
   | «at» q=>exact h
   | out=>exact Ev.one h
   | bad=>exact h.elim
  | false=>
   simp only [hi,cond_false] at h ⊢
   refine xt_ok id b p Q st ?_
   generalize xt id b p=w at h
   cases w with
   | fin=>exact h
   | «at» q=>exact h
   | out=>exact h
   | bad=>exact h
 | .cond _ a b,i::p,Q,st,h=>by
  simp only [xt] at h
  simp only [ctx]
  cases hi:Nat.beq i 0 with
  | true=>
   simp only [hi,cond_true] at h ⊢
   refine xt_ok id a p Q st ?_
   generalize xt id a p=w at h
   cases w with
   | fin=>exact h
   | «at» q=>exact h
   | out=>exact h
   | bad=>exact h
  | false=>
   simp only [hi,cond_false] at h ⊢
   refine xt_ok id b p Q st ?_
   generalize xt id b p=w at h
   cases w with
   | fin=>exact h
   | «at» q=>exact h
   | out=>exact h
   | bad=>exact h
 | .block id' c,i::p,Q,st,h=>by
  simp only [xt] at h
  simp only [ctx]
  refine xt_ok id c p _ st ?_
  generalize xt id c p=w at h
  cases w with
  | fin=>exact Ev.one h
  | «at» q=>exact h
  | out=>
   show Ev s (blockOut id' ⟨.exit id,st⟩) Q
   unfold blockOut
   cases hid:Nat.beq id id' with
   | true=>
    simp only [Wh.push,Wh.endAt,hid,cond_true] at h
    simp only [hid,cond_true]
    exact Ev.one h
   | false=>
    simp only [Wh.push,Wh.endAt,hid,cond_false] at h
    simp only [hid,cond_false]
    exact Ev.one h
  | bad=>exact h.elim
 | .loop c,i::p,Q,st,h=>by
  simp only [xt] at h
  simp only [ctx]
  refine xt_ok id c p _ st ?_
  generalize xt id c p=w at h
  cases w with
  | fin=>
   show Ev s ((recI P).loop ro c st) Q
   rw [loop_eq]
   exact h
  | «at» q=>exact h
  | out=>exact Ev.one h
  | bad=>exact h.elim
 | .skip,_::_,_,_,h=>h.elim
 | .region ..,_::_,_,_,h=>h.elim
 | .rangeFunc ..,_::_,_,_,h=>h.elim
 | .exit _,_::_,_,_,h=>h.elim
 | .scope _,_::_,_,_,h=>h.elim
 | .label _,_::_,_,_,h=>h.elim
 | .goto _,_::_,_,_,h=>h.elim
 | .ret,_::_,_,_,h=>h.elim
 | .refuse _,_::_,_,_,h=>h.elim
theorem ret_ok:∀ (c:Code) (p:List Nat) (Q:Out->Prop) (st:St),sub c p=.ret->Q ⟨.ret,st⟩->ctx P s ro c p Q ⟨.ret,st⟩
 | c,[],Q,st,_,h=>by simp only [ctx];exact h
 | .seq a b,i::p,Q,st,hs,h=>by
  simp only [ctx,sub] at hs ⊢
  cases hi:Nat.beq i 0 with
  | true=>rw [hi] at hs;exact ret_ok a p _ st hs (Ev.one h)
  | false=>rw [hi] at hs;exact ret_ok b p Q st hs h
 | .cond _ a b,i::p,Q,st,hs,h=>by
  simp only [ctx,sub] at hs ⊢
  cases hi:Nat.beq i 0 with
  | true=>rw [hi] at hs;exact ret_ok a p _ st hs h
  | false=>rw [hi] at hs;exact ret_ok b p Q st hs h
 | .block id' c,i::p,Q,st,hs,h=>by
  simp only [ctx,sub] at hs ⊢
  exact ret_ok c p _ st hs (Ev.one h)
 | .loop c,i::p,Q,st,hs,h=>by
  simp only [ctx,sub] at hs ⊢
  exact ret_ok c p _ st hs (Ev.one h)
 | .skip,_::_,_,_,h,_=>by simp [sub] at h
 | .region ..,_::_,_,_,h,_=>by simp [sub] at h
 | .rangeFunc ..,_::_,_,_,h,_=>by simp [sub] at h
 | .exit _,_::_,_,_,h,_=>by simp [sub] at h
 | .scope _,_::_,_,_,h,_=>by simp [sub] at h
 | .label _,_::_,_,_,h,_=>by simp [sub] at h
 | .goto _,_::_,_,_,h,_=>by simp [sub] at h
 | .ret,_::_,_,_,h,_=>by simp [sub] at h
 | .refuse _,_::_,_,_,h,_=>by simp [sub] at h
theorem sub_append:∀ (c:Code) (p q:List Nat),sub c (p++q)=sub (sub c p) q
 | c,[],q=>by simp [sub]
 | .seq a b,i::p,q=>by
  simp only [sub,List.cons_append]
  cases Nat.beq i 0 <;> simp [sub_append]
 | .cond _ a b,i::p,q=>by
  simp only [sub,List.cons_append]
  cases Nat.beq i 0 <;> simp [sub_append]
 | .block _ c,i::p,q=>by simp only [sub,List.cons_append];exact sub_append c p q
 | .loop c,i::p,q=>by simp only [sub,List.cons_append];exact sub_append c p q
 | .skip,_::_,q=>by cases q <;> rfl
 | .region ..,_::_,q=>by cases q <;> rfl
 | .rangeFunc ..,_::_,q=>by cases q <;> rfl
 | .exit _,_::_,q=>by cases q <;> rfl
 | .scope _,_::_,q=>by cases q <;> rfl
 | .label _,_::_,q=>by cases q <;> rfl
 | .goto _,_::_,q=>by cases q <;> rfl
 | .ret,_::_,q=>by cases q <;> rfl
 | .refuse _,_::_,q=>by cases q <;> rfl
theorem ctx_append:∀ (c:Code) (p q:List Nat) (Q:Out->Prop),sub c p≠.skip->ctx P s ro c (p++q) Q=ctx P s ro (sub c p) q (ctx P s ro c p Q)
 | c,[],q,Q,_=>by simp [sub,ctx]
 | .seq a b,i::p,q,Q,h=>by
  simp only [sub,List.cons_append,ctx] at h ⊢
  cases hi:Nat.beq i 0 with
  | true=>rw [hi] at h;simp only [cond_true] at h ⊢;exact ctx_append a p q _ h
  | false=>rw [hi] at h;simp only [cond_false] at h ⊢;exact ctx_append b p q _ h
 | .cond _ a b,i::p,q,Q,h=>by
  simp only [sub,List.cons_append,ctx] at h ⊢
  cases hi:Nat.beq i 0 with
  | true=>rw [hi] at h;simp only [cond_true] at h ⊢;exact ctx_append a p q _ h
  | false=>rw [hi] at h;simp only [cond_false] at h ⊢;exact ctx_append b p q _ h
 | .block _ c,i::p,q,Q,h=>by simp only [sub,List.cons_append,ctx] at h ⊢;exact ctx_append c p q _ h
 | .loop c,i::p,q,Q,h=>by simp only [sub,List.cons_append,ctx] at h ⊢;exact ctx_append c p q _ h
 | .skip,_::_,q,_,h=>absurd rfl h
 | .region ..,_::_,q,_,h=>absurd rfl h
 | .rangeFunc ..,_::_,q,_,h=>absurd rfl h
 | .exit _,_::_,q,_,h=>absurd rfl h
 | .scope _,_::_,q,_,h=>absurd rfl h
 | .label _,_::_,q,_,h=>absurd rfl h
 | .goto _,_::_,q,_,h=>absurd rfl h
 | .ret,_::_,q,_,h=>absurd rfl h
 | .refuse _,_::_,q,_,h=>absurd rfl h
def rs (B:Code):Nat->Wh->Wh
 | 0,w=>w
 | n+1,.at q=>match sub B q with
  | .seq _ _=>rs B n (.at (q++[0]))
  | .block _ _=>rs B n (.at (q++[0]))
  | .loop _=>rs B n (.at (q++[0]))
  | .label _=>rs B n (nx B q)
  | .exit id=>(match xt id B q with
   | .out=>.at q
   | w=>rs B n w)
  | .skip=>rs B n (nx B q)
  | _=>.at q
 | _+1,w=>w
theorem rs_ok {B:Code} {Q:Out->Prop} {st:St}:∀ {n:Nat} {w:Wh},AtW P s ro B Q (rs B n w) st->AtW P s ro B Q w st
 | 0,w,h=>h
 | n+1,.fin,h=>h
 | n+1,.out,h=>h
 | n+1,.bad,h=>h
 | n+1,.at q,h=>by
  simp only [rs] at h
  have dn:∀ (c:Code),sub B q=c->c≠.skip->AtW P s ro B Q (.at (q++[0])) st->Ev s (evC P (recI P) ro (sub c [0]) st) (ctx P s ro c [0] (ctx P s ro B q Q)):=by
   intro c hc hne h
   simp only [AtW,At,sub_append,hc] at h
   rw [ctx_append B q [0] Q (by rw [hc];exact hne),hc] at h
   exact h
  show Ev s (evC P (recI P) ro (sub B q) st) (ctx P s ro B q Q)
  split at h
  ·rename_i a b hc
   have:=dn _ hc (by simp) (rs_ok h)
   rw [hc]
   simp only [sub,ctx,b00,cond_true] at this
   simp only [evC]
   exact Ev.andThen this
  ·rename_i id c hc
   have:=dn _ hc (by simp) (rs_ok h)
   rw [hc]
   simp only [sub,ctx,b00,cond_true] at this
   simp only [evC]
   exact Ev.andThen this
  ·rename_i c hc
   have:=dn _ hc (by simp) (rs_ok h)
   rw [hc]
   simp only [sub,ctx,b00,cond_true] at this
   simp only [evC]
   exact Ev.andThen this
  ·rename_i l hc
   rw [hc]
   exact Ev.one (nx_ok B q Q st (rs_ok h))
  ·rename_i id hc
   have fin:AtX P s ro B Q id (xt id B q) st->Ev s (evC P (recI P) ro (sub B q) st) (ctx P s ro B q Q):=fun k=>by
    rw [hc]
    exact Ev.one (xt_ok id B q Q st k)
   cases hx:xt id B q with
   | out=>rw [hx] at h;exact h
   | fin=>rw [hx] at h fin;exact fin (rs_ok h)
   | «at» q'=>rw [hx] at h fin;exact fin (rs_ok h)
   | bad=>rw [hx] at h;cases n <;> exact h.elim
  ·rename_i hc
   rw [hc]
   exact Ev.one (nx_ok B q Q st (rs_ok h))
  ·exact h
structure Cx where
 P:Env
 s:Bool
 ro:Option Nat
 B:Code
 lv:List (List Nat×List Nat)
 rt:List Nat
 D:List Nat
def eqPath:List Nat->List Nat->Bool
 | [],[]=>true
 | a::aas,b::bs=>Nat.beq a b&&eqPath aas bs
 | _,_=>false
def lvAt (p:List Nat):List (List Nat×List Nat)->List Nat
 | []=>[]
 | x::l=>cond (eqPath x.1 p) x.2 (lvAt p l)
abbrev KF:=Ex->List Value->AH->Prop
def finQ (C:Cx) (K:KF) (o:Out):Prop:=o.st.defs=C.D/\K o.ex (C.rt.map o.st.T.get) o.st.h
def SP (C:Cx) (K:KF) (p:List Nat) (L:List (Nat×Value)) (h:AH):Prop:=
 ∀ T,(∀ x∈L,T.get x.1=x.2)->At C.P C.s C.ro C.B (finQ C K) p ⟨T,h,C.D⟩
def BrK (v:Option Value) (A B:Prop):Prop:=match v with
 | some (.bool b)=>(b=true->A)/\(b=false->B)
 | _=>False
def contK (C:Cx) (K:KF):Nat->Wh->Tm->AH->Prop
 | 0,_,_,_=>False
 | _+1,.fin,T,h=>K .normal (C.rt.map T.get) h
 | n+1,.at q,T,h=>match sub C.B q with
  | .cond c _ _=>BrK (opnd T c) (contK C K n (rs C.B 60 (.at (q++[0]))) T h) (contK C K n (rs C.B 60 (.at (q++[1]))) T h)
  | .ret=>K .ret (C.rt.map T.get) h
  | .exit id=>(match xt id C.B q with
   | .out=>K (.exit id) (C.rt.map T.get) h
   | _=>False)
  | .region _ _ _=>SP C K q (gets T (lvAt q C.lv)) h
  | .rangeFunc _ _ _ _=>SP C K q (gets T (lvAt q C.lv)) h
  | _=>False
 | _+1,_,_,_=>False
def needC (C:Cx):Nat->Wh->List Nat
 | 0,_=>[]
 | _+1,.fin=>C.rt
 | n+1,.at q=>match sub C.B q with
  | .cond c _ _=>tmpsOf [c]++needC C n (rs C.B 60 (.at (q++[0])))++needC C n (rs C.B 60 (.at (q++[1])))
  | .ret=>C.rt
  | .exit _=>C.rt
  | _=>lvAt q C.lv
 | _+1,_=>[]
def stepK (C:Cx) (K:KF) (p:List Nat) (T:Tm) (h:AH):Prop:=match sub C.B p with
 | .region _ ops false=>opsM C.P (recI C.P) C.s ops.toList ops.toList T h fun T h=>contK C K 30 (rs C.B 60 (nx C.B p)) T h
 | .region _ ops true=>drawM C.P (recI C.P) C.s ops.toList (fun T h=>contK C K 30 (rs C.B 60 (nx C.B p)) T h) (llen ops.toList+1) T 0 [] (prep 0 [] ops.toList) h
 | _=>False
def nodupN:List Nat->Bool
 | []=>true
 | a::aas=>!memN a aas&&nodupN aas
def chkP (C:Cx) (p:List Nat):Bool:=nodupN (lvAt p C.lv)&&match sub C.B p with
 | .region _ ops false=>(match rdsOk ops.toList (lvAt p C.lv) ops.toList with
  | some A=>subN (needC C 30 (rs C.B 60 (nx C.B p))) A
  | none=>false)
 | .region _ ops true=>chkD (lvAt p C.lv) ops.toList&&subN (needC C 30 (rs C.B 60 (nx C.B p))) (dstsD ops.toList (lvAt p C.lv))
 | _=>false
variable {C:Cx} {K:KF}
theorem map_get {A:List Nat} {T T':Tm} (H:Agree A T T'):∀ {l:List Nat},(∀ t∈l,t∈A)->l.map T.get=l.map T'.get
 | [],_=>rfl
 | t::l,h=>by simp only [List.map_cons];rw [H t (h t (by simp)),map_get H fun u hu=>h u (by simp [hu])]
theorem gets_agree {A:List Nat} {T T':Tm} (H:Agree A T T'):∀ {l:List Nat},(∀ t∈l,t∈A)->∀ x∈gets T' l,T.get x.1=x.2
 | [],_,x,hx=>by cases hx
 | t::l,h,x,hx=>by
  rcases List.mem_cons.1 hx with rfl|hx
  ·exact H t (h t (by simp))
  ·exact gets_agree H (fun u hu=>h u (by simp [hu])) x hx
theorem contK_ok {T T':Tm} {h:AH}:∀ {n:Nat} {w:Wh},Agree (needC C n w) T T'->contK C K n w T' h->AtW C.P C.s C.ro C.B (finQ C K) w ⟨T,h,C.D⟩
 | 0,_,_,hk=>hk.elim
 | n+1,.fin,H,hk=>by
  simp only [needC] at H
  simp only [contK] at hk
  refine ⟨rfl,?_⟩
  rw [map_get H fun _ h=>h]
  exact hk
 | n+1,.out,H,hk=>hk.elim
 | n+1,.bad,H,hk=>hk.elim
 | n+1,.at q,H,hk=>by
  simp only [needC] at H
  simp only [contK] at hk
  show Ev C.s (evC C.P (recI C.P) C.ro (sub C.B q) ⟨T,h,C.D⟩) (ctx C.P C.s C.ro C.B q (finQ C K))
  have dn:∀ (i:Nat) (c:Code),sub C.B q=c->c≠.skip->AtW C.P C.s C.ro C.B (finQ C K) (.at (q++[i])) ⟨T,h,C.D⟩->Ev C.s (evC C.P (recI C.P) C.ro (sub c [i]) ⟨T,h,C.D⟩) (ctx C.P C.s C.ro c [i] (ctx C.P C.s C.ro C.B q (finQ C K))):=by
   intro i c hc hne h
   simp only [AtW,At,sub_append,hc] at h
   rw [ctx_append C.B q [i] _ (by rw [hc];exact hne),hc] at h
   exact h
  split at hk
  ·rename_i c a b hc
   rw [hc] at H ⊢
   simp only [evC]
   have hop:opnd T c=opnd T' c:=opnd_same (xs:=[c]) (fun t ht=>H t (by simp [mem_tmpsOf.2 ht])) (by simp)
   rw [hop]
   unfold BrK at hk
   split at hk
   ·rename_i v hv
    rw [hv]
    simp only [condC]
    cases v with
    | true=>
     have:=dn 0 _ hc (by simp) (rs_ok (contK_ok (fun t ht=>H t (by simp [ht])) (hk.1 rfl)))
     simp only [sub,ctx,b00,cond_true] at this
     exact this
    | false=>
     have:=dn 1 _ hc (by simp) (rs_ok (contK_ok (fun t ht=>H t (by simp [ht])) (hk.2 rfl)))
     simp only [sub,ctx,b10,cond_false] at this
     exact this
   ·exact hk.elim
  ·rename_i hc
   rw [hc] at H ⊢
   refine Ev.one (ret_ok C.B q _ _ hc ⟨rfl,?_⟩)
   simp only
   rw [map_get H fun _ h=>h]
   exact hk
  ·rename_i id hc
   rw [hc] at H ⊢
   split at hk
   ·rename_i hx
    refine Ev.one (xt_ok id C.B q _ _ ?_)
    rw [hx]
    refine ⟨rfl,?_⟩
    simp only
    rw [map_get H fun _ h=>h]
    exact hk
   ·exact hk.elim
  ·rename_i i ops d hc
   rw [hc] at H
   have:=hk T (gets_agree H fun _ h=>h)
   exact this
  ·rename_i f ps aas body hc
   rw [hc] at H
   have:=hk T (gets_agree H fun _ h=>h)
   exact this
  ·exact hk.elim
theorem tmOf_get:∀ {L:List (Nat×Value)},nodupN (L.map (·.1))=true->∀ x∈L,(tmOf L).get x.1=x.2
 | y::l,h,x,hx=>by
  simp only [List.map_cons,nodupN,Bool.and_eq_true,Bool.not_eq_true'] at h
  simp only [tmOf,Tm.get_put]
  rcases List.mem_cons.1 hx with rfl|hx
  ·simp
  ·have:x.1≠y.1:=by
    intro e
    have:memN y.1 (l.map (·.1))=true:=memN_iff.2 (by rw [← e];exact List.mem_map.2 ⟨x,hx,rfl⟩)
    rw [h.1] at this;cases this
   rw [if_neg this]
   exact tmOf_get h.2 x hx
theorem prep_i {all:List Oper} {k:Nat} {p:PO} (h:(prep 0 [] all)[k]?=some p):p.i=k/\all[k]?=some p.o:=⟨(prep0 h).i,(prep0 h).o⟩
theorem prep_facts (all:List Oper):(∀ p∈prep 0 [] all,∀ q∈prep 0 [] all,q.i=p.i->q.o=p.o)/\∀ o∈all,∃ p∈prep 0 [] all,p.o=o:=by
 constructor
 ·intro p hp q hq e
  obtain ⟨k,hk⟩:=List.mem_iff_getElem?.1 hp
  obtain ⟨j,hj⟩:=List.mem_iff_getElem?.1 hq
  have a:=prep_i hk
  have b:=prep_i hj
  have:j=k:=by rw [← a.1,← b.1,e]
  subst this
  rw [hk] at hj;cases hj;rfl
 ·intro o ho
  obtain ⟨k,hk⟩:=List.mem_iff_getElem?.1 ho
  have hlt:k<(prep 0 [] all).length:=by
   rw [prep_length]
   exact (List.getElem?_eq_some_iff.1 hk).1
  refine ⟨(prep 0 [] all)[k],List.getElem_mem hlt,?_⟩
  have:=(prep_i (List.getElem?_eq_getElem hlt)).2
  rw [hk] at this;cases this;rfl
theorem step_ok {p:List Nat} {L:List (Nat×Value)} {h:AH} (hc:chkP C p=true) (hL:L.map (·.1)=lvAt p C.lv) (hk:stepK C K p (tmOf L) h):SP C K p L h:=by
 intro T hT
 unfold chkP at hc
 rw [Bool.and_eq_true] at hc
 obtain ⟨hn,hc⟩:=hc
 have hget:=tmOf_get (L:=L) (by rw [hL];exact hn)
 have H:Agree (lvAt p C.lv) T (tmOf L):=by
  intro t ht
  rw [← hL] at ht
  obtain ⟨x,hx,rfl⟩:=List.mem_map.1 ht
  rw [hT x hx,hget x hx]
 unfold stepK at hk
 unfold At
 split at hk
 ·rename_i i ops hs
  rw [hs] at hc ⊢
  simp only at hc
  split at hc
  ·rename_i A hA
   simp only [evC,evRegion]
   refine Ev.andThen ((opsK_ok (D:=C.D) hA H (opsM_imp hk)).mono fun st hst=>?_)
   obtain ⟨T1,a,b,c⟩:=hst
   refine Ev.one ?_
   have:=contK_ok (T:=st.T) (fun t ht=>a t (subN_iff.1 hc t ht)) c
   have:=nx_ok C.B p _ _ (rs_ok this)
   rw [← b] at this
   exact this
  ·cases hc
 ·rename_i i ops hs
  rw [hs] at hc ⊢
  simp only [Bool.and_eq_true] at hc
  simp only [evC,evRegion]
  obtain ⟨f1,f2⟩:=prep_facts ops.toList
  have:=drawK_ok (D:=C.D) f1 f2 (List.all_eq_true.1 hc.1) (rest:=prep 0 [] ops.toList) (done:=0) (rds:=[]) (rds':=[]) (T:=T) (fun _ h=>h) (fun p hp=>.inl hp)
   (fun t ht=>ht.elim (H t) fun ⟨q,_,_,h⟩=>by simp at h) .nil (drawM_imp hk)
  refine Ev.andThen (this.mono fun st hst=>?_)
  obtain ⟨T1,a,b,c⟩:=hst
  refine Ev.one ?_
  have:=contK_ok (T:=st.T) (fun t ht=>a t (subN_iff.1 hc.2 t ht)) c
  have:=nx_ok C.B p _ _ (rs_ok this)
  rw [← b] at this
  exact this
 ·exact hk.elim
theorem enter_ok {T:Tm} {L:List (Nat×Value)} {h:AH} (hn:nodupN (L.map (·.1))=true) (hneed:subN (needC C 30 (rs C.B 60 (.at []))) (L.map (·.1))=true) (hT:∀ x∈L,T.get x.1=x.2)
  (hk:contK C K 30 (rs C.B 60 (.at [])) (tmOf L) h):Ev C.s (evC C.P (recI C.P) C.ro C.B ⟨T,h,C.D⟩) (finQ C K):=by
 have hget:=tmOf_get hn
 have H:Agree (needC C 30 (rs C.B 60 (.at []))) T (tmOf L):=by
  intro t ht
  obtain ⟨x,hx,rfl⟩:=List.mem_map.1 (subN_iff.1 hneed t ht)
  rw [hT x hx,hget x hx]
 have:=rs_ok (contK_ok H hk)
 simpa only [AtW,At,sub,ctx] using this
end
end Go.AM
end
end
section
noncomputable section
namespace Go.AM
open Go
def bodyOf (fn:Func):Code:=match fn.body with
 | some c=>c
 | none=>.skip
def resT:List ResultVar->List Nat
 | []=>[]
 | .tmp t::rs=>t::resT rs
 | .cell a _::rs=>a::resT rs
def resOf (P:Env):List ResultVar->List Value->AH->Option (List Value)
 | [],_,_=>some []
 | .tmp _::rs,v::vs,h=>(match resOf P rs vs h with|some l=>some (v::l)|none=>none)
 | .cell _ t::rs,v::vs,h=>(match loadV P t v h,resOf P rs vs h with|some x,some l=>some (x::l)|_,_=>none)
 | _::_,[],_=>none
def res1 (l:List Value):Value:=match l with
 | [v]=>v
 | vs=>.tuple ⟨vs⟩
def notExit:Ex->Bool
 | .exit _=>false
 | _=>true
def KR (P:Env) (rs:List ResultVar) (R:Value->AH->Prop):KF:=fun ex vs h=>notExit ex=true/\EvO (resOf P rs vs h) fun l=>R (res1 l) h
def zipL:Nat->List Value->List (Nat×Value)
 | _,[]=>[]
 | k,v::vs=>(k,v)::zipL (k+1) vs
def AH.fresh (h:AH):AH:=⟨h.t,h.next,Nat.add h.next UNK⟩
@[simp] theorem get_fresh (h:AH) (b:Nat):h.fresh.get b=h.get b:=rfl
@[simp] theorem next_fresh (h:AH):h.fresh.next=h.next:=rfl
@[simp] theorem wm_fresh (h:AH):h.fresh.wm=h.next+UNK:=rfl
def AH.ok (h:AH):Prop:=h.wm<=h.next+UNK
theorem ok_fresh (h:AH):h.fresh.ok:=Nat.le_refl _
theorem ok_new {h:AH} (k:h.ok) (o:AObj):(h.new o).ok:=by unfold AH.ok at k ⊢;show h.wm<=h.next+1+UNK;omega
theorem ok_upd {h:AH} (k:h.ok) (b:Nat) (o:Option AObj):(h.upd b o).ok:=Nat.le_trans (upd_wm h b o).1 k
section
variable {P:Env} {s:Bool}
theorem resVars_of (T:Tm) (h:AH):∀ rs:List ResultVar,resVars P T h rs=resOf P rs ((resT rs).map T.get) h
 | []=>rfl
 | .tmp t::rs=>by simp only [resVars,resT,List.map_cons,resOf];rw [resVars_of T h rs];rfl
 | .cell a t::rs=>by simp only [resVars,resT,List.map_cons,resOf];rw [resVars_of T h rs];rfl
theorem zipL_get {T:Tm}:∀ {vs:List Value} {k:Nat},(∀ i v,vs[i]?=some v->T.get (k+i)=v)->∀ x∈zipL k vs,T.get x.1=x.2
 | [],_,_,x,hx=>by cases hx
 | v::vs,k,h,x,hx=>by
  rcases List.mem_cons.1 hx with rfl|hx
  ·exact h 0 v rfl
  ·exact zipL_get (k:=k+1) (fun i u hu=>by have:=h (i+1) u (by simpa using hu);rw [show k+1+i=k+(i+1) by omega];exact this) x hx
theorem call_ev {fn:Func} {C:Cx} (hP:C.P=P) (hs:C.s=s) (hC:C.B=bodyOf fn/\C.ro=none/\C.rt=resT fn.results.toList/\C.D=[]) {args:List Value} {h:AH} {Rp:Value->AH->Prop}
  (hneed:subN (needC C 30 (rs C.B 60 (.at []))) ((zipL 0 args).map (·.1))=true) (hnd:nodupN ((zipL 0 args).map (·.1))=true)
  (hk:contK C (KR P fn.results.toList Rp) 30 (rs C.B 60 (.at [])) (tmOf (zipL 0 args)) h) :
  Ev s (R.andThen (evC P (recI P) none (bodyOf fn) ⟨⟨fn.ntmps,initT args 0 .e⟩,h,[]⟩) (endCall P fn)) fun x=>Rp x.1 x.2:=by
 obtain ⟨h1,h2,h3,h4⟩:=hC
 have hT:∀ x∈zipL 0 args,(Tm.get ⟨fn.ntmps,initT args 0 .e⟩ x.1)=x.2:=by
  refine zipL_get fun i v hv=>?_
  unfold Tm.get
  simp only
  rw [initT_get]
  have hlt:i<args.length:=(List.getElem?_eq_some_iff.1 hv).1
  rw [if_pos ⟨Nat.zero_le _,by omega⟩]
  simp [hv]
 have:=enter_ok (C:=C) hnd hneed hT hk
 rw [hP,hs,h1,h2,h4] at this
 refine Ev.andThen (this.mono fun o ho=>?_)
 obtain ⟨hd,hne,ho⟩:=ho
 obtain ⟨l,e,hR⟩:=EvO.ex ho
 rw [h4] at hd
 rw [h3,← resVars_of] at e
 have hend:endCall P fn o=one (res1 l,o.st.h):=by
  unfold endCall
  cases ho:o.ex with
  | exit i=>rw [ho] at hne;cases hne
  | _=>
   simp only
   rw [hd]
   simp only [killAll,endCallAt,resultsV,e]
   unfold res1
   split <;> simp_all [v1]
 rw [hend]
 exact Ev.one hR
theorem fnCall_body {f:FuncId} {fn:Func} {c:Code} {args:List Value} {h:AH} (hf:P.tab.fn.get f=some fn) (hb:fn.body=some c) (hsum:P.sum f args h=none) (hl:Nat.ble (llen args) fn.ntmps=true) :
  (recI P).call f args h=settled h.fresh h.wm (R.andThen (evC P (recI P) none (bodyOf fn) ⟨⟨fn.ntmps,initT args 0 .e⟩,h.fresh,[]⟩) (endCall P fn)):=by
 rw [call_eq]
 unfold fnCall
 rw [hf]
 simp only [hb,hsum,bodyCall,hl,cond_true,bodyOf]
 rfl
def isScalar:Value->Bool
 | .int _ _=>true
 | .bool _=>true
 | _=>false
theorem scalar_flat {v:Value} (h:isScalar v=true):isFlat v=true:=by cases v <;> first|rfl|cases h
theorem scalar_veq {v:Value} (h:isScalar v=true):veq 1000 v v=true:=by
 cases v with
 | int k n=>show (decide (k=k)&&decide (n=n))=true;simp
 | bool b=>show (b==b)=true;simp
 | _=>cases h
theorem scalar_ids {v:Value} (h:isScalar v=true):idsOf 4 v=[]:=by cases v <;> first|rfl|cases h
def AH.back (h:AH):AH:=⟨h.t,h.next,cond (Nat.ble h.wm (h.next+UNK)) h.wm (h.next+UNK)⟩
theorem back_eq {h:AH} (hw:h.ok):h.back=h:=by unfold AH.back;rw [ble_true.2 hw];rfl
theorem call_flat {f:FuncId} {fn:Func} {c:Code} {args:List Value} {h:AH} {v0:Value} (hok:h.ok) (hf:P.tab.fn.get f=some fn) (hb:fn.body=some c) (hsum:P.sum f args h=none) (hl:Nat.ble (llen args) fn.ntmps=true) (hv:isScalar v0=true)
  (hev:Ev s (R.andThen (evC P (recI P) none (bodyOf fn) ⟨⟨fn.ntmps,initT args 0 .e⟩,h.fresh,[]⟩) (endCall P fn)) fun x=>x.1=v0/\h.next<=x.2.wm) :
  (recI P).call f args h=some [(v0,h)]:=by
 rw [fnCall_body hf hb hsum hl]
 obtain ⟨l,e,hne,_,hl'⟩:=hev
 rw [e]
 simp only [settled,Option.some.injEq]
 have hreset:∀ x∈l,reset h.fresh x=(v0,h.fresh):=by
  intro x hx
  obtain ⟨a,b⟩:=hl' x hx
  unfold reset clean
  rw [next_fresh,ble_true.2 b,a,scalar_flat hv]
  rfl
 have hclean:clean h.fresh (v0,h.fresh)=true:=ble_true.2 (by simp)
 have hset:settle h.fresh l=[(v0,h.fresh)]:=by
  rcases settle_cases h.fresh l with ⟨x,hx,hs⟩|hs
  ·rw [hs,hreset x (by rw [hx];simp)]
  ·rw [hs]
   have hmap:l.map (reset h.fresh)=l.map fun _=>(v0,h.fresh):=List.map_congr_left hreset
   rw [hmap]
   unfold settleAll
   have:(l.map fun _=>(v0,h.fresh)).all (clean h.fresh)=true:=by
    rw [List.all_map,List.all_eq_true]
    intro x _
    exact hclean
   rw [this]
   simp only [cond_true,List.map_map]
   have hk:kept h.fresh (v0,h.fresh)=(v0,[],h.fresh):=by
    unfold kept
    simp only [scalar_ids hv,reach,keepOnly,List.foldr_nil]
   have hkm:l.map (kept h.fresh ∘ fun _=>(v0,h.fresh))=l.map fun _=>((v0,[],h.fresh):Kept):=List.map_congr_left fun x _=>hk
   rw [hkm]
   have hmerge:∀ (l:List (Value×AH)) (acc:List Kept),acc=[(v0,[],h.fresh)]->merge (l.map fun _=>((v0,[],h.fresh):Kept)) acc=[(v0,[],h.fresh)]:=by
    intro l
    induction l with
    | nil=>intro acc ha;exact ha
    | cons x l ih=>
     intro acc ha
     subst ha
     simp only [List.map_cons,merge]
     have:([(v0,[],h.fresh)]:List Kept).any (alike (v0,[],h.fresh))=true:=by
      simp [alike,scalar_veq hv,Nat.beq_refl]
     rw [this]
     exact ih _ rfl
   cases l with
   | nil=>exact absurd rfl hne
   | cons x l=>
    simp only [List.map_cons,merge,List.any_nil,cond_false,List.nil_append]
    rw [hmerge l _ rfl]
    rfl
 rw [hset]
 have:=back_eq hok
 unfold AH.back at this
 simp only [List.map_cons,List.map_nil,rewm]
 show [(v0,(⟨h.t,h.next,cond (Nat.ble h.wm (h.next+UNK)) h.wm (h.next+UNK)⟩:AH))]=_
 rw [this]
theorem call_flat1 {f:FuncId} {fn:Func} {c:Code} {args:List Value} {h:AH} {v0:Value} (hok:h.ok) (hf:P.tab.fn.get f=some fn) (hb:fn.body=some c) (hsum:P.sum f args h=none) (hl:Nat.ble (llen args) fn.ntmps=true) (hv:isFlat v0=true)
  (hev:Ev true (R.andThen (evC P (recI P) none (bodyOf fn) ⟨⟨fn.ntmps,initT args 0 .e⟩,h.fresh,[]⟩) (endCall P fn)) fun x=>x.1=v0/\h.next<=x.2.wm) :
  (recI P).call f args h=some [(v0,h)]:=by
 rw [fnCall_body hf hb hsum hl]
 obtain ⟨l,e,hne,h1,hl'⟩:=hev
 rw [e]
 match l,h1 rfl with
 | [x],_=>
  obtain ⟨a,b⟩:=hl' x (by simp)
  have hr:reset h.fresh x=(v0,h.fresh):=by
   unfold reset clean
   rw [next_fresh,ble_true.2 b,a,hv]
   rfl
  show some [rewm h.wm (reset h.fresh x)]=_
  rw [hr]
  have:=back_eq hok
  unfold AH.back at this
  show some [(v0,(⟨h.t,h.next,cond (Nat.ble h.wm (h.next+UNK)) h.wm (h.next+UNK)⟩:AH))]=_
  rw [this]
theorem call_flatE {f:FuncId} {fn:Func} {c:Code} {args:List Value} {h:AH} {Rp:Value->Prop} (hok:h.ok) (hf:P.tab.fn.get f=some fn) (hb:fn.body=some c) (hsum:P.sum f args h=none) (hl:Nat.ble (llen args) fn.ntmps=true)
  (hev:Ev true (R.andThen (evC P (recI P) none (bodyOf fn) ⟨⟨fn.ntmps,initT args 0 .e⟩,h.fresh,[]⟩) (endCall P fn)) fun x=>(isFlat x.1=true/\Rp x.1)/\h.next<=x.2.wm) :
  ∃ v,Rp v/\(recI P).call f args h=some [(v,h)]:=by
 obtain ⟨l,e,hne,h1,hl'⟩:=hev
 match l,h1 rfl with
 | [x],_=>
  obtain ⟨⟨a,b⟩,w⟩:=hl' x (by simp)
  refine ⟨x.1,b,call_flat1 hok hf hb hsum hl a ⟨[x],e,by simp,fun _=>rfl,fun y hy=>?_⟩⟩
  simp at hy;subst hy;exact ⟨rfl,w⟩
theorem call_one {f:FuncId} {fn:Func} {c:Code} {args:List Value} {h h1:AH} {v0:Value} (hf:P.tab.fn.get f=some fn) (hb:fn.body=some c) (hsum:P.sum f args h=none) (hl:Nat.ble (llen args) fn.ntmps=true)
  (hev:Ev true (R.andThen (evC P (recI P) none (bodyOf fn) ⟨⟨fn.ntmps,initT args 0 .e⟩,h.fresh,[]⟩) (endCall P fn)) fun x=>x=(v0,h1)) :
  (recI P).call f args h=some [rewm h.wm (reset h.fresh (v0,h1))]:=by
 rw [fnCall_body hf hb hsum hl,Ev.single hev]
 rfl
theorem call_some {f:FuncId} {fn:Func} {c:Code} {args:List Value} {h:AH} {Rp:Value->AH->Prop} (hf:P.tab.fn.get f=some fn) (hb:fn.body=some c) (hsum:P.sum f args h=none) (hl:Nat.ble (llen args) fn.ntmps=true)
  (hev:Ev true (R.andThen (evC P (recI P) none (bodyOf fn) ⟨⟨fn.ntmps,initT args 0 .e⟩,h.fresh,[]⟩) (endCall P fn)) fun x=>(isFlat x.1=false\/x.2.wm<h.next)/\Rp x.1 ⟨x.2.t,x.2.next,cond (Nat.ble h.wm x.2.wm) h.wm x.2.wm⟩) :
  Ev true ((recI P).call f args h) fun x=>Rp x.1 x.2:=by
 rw [fnCall_body hf hb hsum hl]
 obtain ⟨l,e,hne,h1,hl'⟩:=hev
 rw [e]
 match l,h1 rfl with
 | [x],_=>
  obtain ⟨a,b⟩:=hl' x (by simp)
  have:reset h.fresh x=x:=by
   unfold reset
   rcases a with a|a
   ·rw [a];simp
   ·have:clean h.fresh x=false:=ble_false.2 a
    rw [this];simp
  show Ev true (some [rewm h.wm (reset h.fresh x)]) _
  rw [this,ev_some]
  exact b
end
end Go.AM
end
end
namespace Go.AM
open Go
noncomputable def opAt (B:Code) (p:List Nat) (i:Nat):Oper:=match sub B p with
 | .region _ ops _=>(match lnth ops.toList i with|some o=>o|none=>default)
 | _=>default
def rfAs:Code->Code
 | .rangeFunc _ _ a _=>a
 | _=>.skip
def rfBody:Code->Code
 | .rangeFunc _ _ _ b=>b
 | _=>.skip
section
variable {P:Env} {s:Bool}
theorem brK_bool (b:Bool) (A B:Prop):BrK (some (.bool b)) A B=((b=true->A)/\(b=false->B)):=rfl
theorem brK_t (A B:Prop):BrK (some (.bool true)) A B=A:=by simp [brK_bool]
theorem brK_f (A B:Prop):BrK (some (.bool false)) A B=B:=by simp [brK_bool]
theorem brK_d (p:Prop) [Decidable p] (A B:Prop):BrK (some (.bool (decide p))) A B=((p->A)/\(¬ p->B)):=by simp [brK_bool]
theorem brK_n (p:Prop) [Decidable p] (A B:Prop):BrK (some (.bool (!decide p))) A B=((¬ p->A)/\(p->B)):=by simp [brK_bool]
theorem kR_1 {t:Nat} {Rp:Value->AH->Prop} {ex:Ex} {v:Value} {h:AH}:KR P [.tmp t] Rp ex [v] h=(notExit ex=true/\Rp v h):=by
 simp only [KR,resOf,evO_some,res1]
theorem kR_2 {t u:Nat} {Rp:Value->AH->Prop} {ex:Ex} {v w:Value} {h:AH}:KR P [.tmp t,.tmp u] Rp ex [v,w] h=(notExit ex=true/\Rp (.tuple #[v,w]) h):=by
 simp only [KR,resOf,evO_some,res1]
theorem kR_0 {Rp:Value->AH->Prop} {ex:Ex} {h:AH}:KR P [] Rp ex [] h=(notExit ex=true/\Rp (.tuple #[]) h):=by
 simp only [KR,resOf,evO_some,res1]
theorem kR_c {t a:Nat} {Rp:Value->AH->Prop} {ex:Ex} {v:Value} {h:AH}:KR P [.cell a t] Rp ex [v] h=(notExit ex=true/\EvO (loadV P t v h) fun x=>Rp x h):=by
 simp only [KR,resOf]
 cases loadV P t v h with
 | none=>simp only [evO_none]
 | some x=>simp only [evO_some,res1]
theorem ne_ret:(notExit .ret=true)=True:=by simp [notExit]
theorem ne_normal:(notExit .normal=true)=True:=by simp [notExit]
theorem wCall_fn {r:Rec} {f:FuncId} {fs cs:Array Value} {args:List Value} {h:AH}:wCallV r (some (.func (.func f) fs cs)) (some args) h=r.call f (fs.toList++args++cs.toList) h:=rfl
theorem wCall_yield {r:Rec} {l:Nat} {fs cs:Array Value} {args:List Value} {h:AH}:wCallV r (some (.func (.yield l) fs cs)) (some args) h=r.round l (fs.toList++args) h:=rfl
theorem wCall_0 {r:Rec} {f:FuncId} {args:List Value} {h:AH}:wCallV r (some (.func (.func f) #[] #[])) (some args) h=r.call f args h:=by rw [wCall_fn];simp
theorem bf_lss (t:TypeId) (a b:Int):binFast P .lss t (.int .i64 a) (.int .i64 b)=some (.bool (decide (a<b))):=by
 show some (Value.bool (!ile b a))=_
 rw [ile_iff];congr 2
 by_cases h:a<b
 ·rw [decide_eq_true h,decide_eq_false (by omega)];rfl
 ·rw [decide_eq_false h,decide_eq_true (by omega)];rfl
theorem bf_gtr (t:TypeId) (a b:Int):binFast P .gtr t (.int .i64 a) (.int .i64 b)=some (.bool (decide (b<a))):=by
 show some (Value.bool (!ile a b))=_
 rw [ile_iff];congr 2
 by_cases h:b<a
 ·rw [decide_eq_true h,decide_eq_false (by omega)];rfl
 ·rw [decide_eq_false h,decide_eq_true (by omega)];rfl
theorem bf_leq (t:TypeId) (a b:Int):binFast P .leq t (.int .i64 a) (.int .i64 b)=some (.bool (decide (a<=b))):=by
 show some (Value.bool (ile a b))=_
 rw [ile_iff]
theorem bf_geq (t:TypeId) (a b:Int):binFast P .geq t (.int .i64 a) (.int .i64 b)=some (.bool (decide (b<=a))):=by
 show some (Value.bool (ile b a))=_
 rw [ile_iff]
theorem bf_eql (t:TypeId) (a b:Int):binFast P .eql t (.int .i64 a) (.int .i64 b)=some (.bool (decide (a=b))):=by
 show some (Value.bool (ieq a b))=_
 rw [ieq_iff];rfl
theorem bf_neq (t:TypeId) (a b:Int):binFast P .neq t (.int .i64 a) (.int .i64 b)=some (.bool (!decide (a=b))):=by
 show some (Value.bool (!ieq a b))=_
 rw [ieq_iff];rfl
def in64 (n:Int):Prop:=-9223372036854775808<=n/\n<=9223372036854775807
theorem wrap_in {n:Int} (h:in64 n):wrapF .i64 n=n:=by
 unfold in64 at h
 cases n with
 | ofNat m=>
  have:Nat.ble m 9223372036854775807=true:=ble_true.2 (by have:=h.2;simp only [Int.ofNat_eq_natCast] at this;omega)
  simp only [wrapF,this,if_true]
 | negSucc m=>
  have:Nat.ble m 9223372036854775807=true:=ble_true.2 (by have:=h.1;omega)
  simp only [wrapF,this,if_true]
theorem bf_add (t:TypeId) {a b:Int} (h:in64 (a+b)):binFast P .add t (.int .i64 a) (.int .i64 b)=some (.int .i64 (a+b)):=by
 show some (Value.int .i64 (wrapF .i64 (a+b)))=_
 rw [wrap_in h]
theorem bf_addw (t:TypeId) (a b:Int):binFast P .add t (.int .i64 a) (.int .i64 b)=some (.int .i64 (wrapF .i64 (a+b))):=rfl
theorem bf_sub (t:TypeId) {a b:Int} (h:in64 (a-b)):binFast P .sub t (.int .i64 a) (.int .i64 b)=some (.int .i64 (a-b)):=by
 show some (Value.int .i64 (wrapF .i64 (a-b)))=_
 rw [wrap_in h]
theorem uf_not (b:Bool):unFast .not (.bool b)=some (.bool !b):=rfl
theorem pick_bool (b:Bool) (x y:Option Value):pickV (some (.bool b)) x y=cond b x y:=rfl
theorem gdB_bool (b w:Bool) (x:Option Value):gdB (.bool b) w x=cond (b==w) x (some undef):=rfl
theorem gdW_bool (b w:Bool) (x:R (Value×AH)) (h:AH):gdW (.bool b) w x h=cond (b==w) x (one (undef,h)):=rfl
theorem nil_ptr (a:Addr):pNilCheck (some (.pointer (some a)))=some (.pointer (some a)):=rfl
theorem indexSlice_of {t e:TypeId} {z:Nat} (hu:und P t=some (.slice e)) (hz:tsize P e=some z) {b o len c k:Nat} (hk:k<len) :
  pIndexAddr P t (some (.slice (some ⟨b,o,none⟩) len c)) (some (.int .i64 (k:Int)))=some (.pointer (some ⟨b,o+k*z,none⟩)):=by
 have ha:asNat (.int .i64 (k:Int))=some k:=rfl
 simp only [pIndexAddr,indexAddrV,hu,ha,hz,ble_true.2 (show k+1<=len by omega),cond_true]
theorem indexArr_of {t e:TypeId} {n z:Nat} (hu:und P t=some (.array n e)) (hz:tsize P e=some z) {b o k:Nat} (hk:k<n) :
  pIndexAddr P t (some (.pointer (some ⟨b,o,none⟩))) (some (.int .i64 (k:Int)))=some (.pointer (some ⟨b,o+k*z,none⟩)):=by
 have ha:asNat (.int .i64 (k:Int))=some k:=rfl
 simp only [pIndexAddr,indexAddrV,hu,ha,hz,ble_true.2 (show k+1<=n by omega),cond_true]
noncomputable def tAS (P:Env) (t:TypeId):Option (Bool×Nat):=match tinfo P t with
 | some i=>some (i.agg,i.size)
 | none=>none
theorem load_leaf {t:TypeId} {n:Nat} (ht:tAS P t=some (false,n)) {h:AH} {b o:Nat} {vs:List Value} {ty es:Nat} {ro:Bool} (hb:h.get b=some (.row vs ty es ro)) :
  rLoad P t h (some (.pointer (some ⟨b,o,none⟩)))=lnth vs o:=by
 unfold tAS at ht
 split at ht
 ·rename_i i hi
  simp only [Option.some.injEq,Prod.mk.injEq] at ht
  simp only [rLoad,loadV,hb,hi,ht.1,Bool.false_eq_true,if_false]
 ·cases ht
theorem load_agg {t:TypeId} {n:Nat} (ht:tAS P t=some (true,n)) {h:AH} {b o:Nat} {vs:List Value} {ty es:Nat} {ro:Bool} (hb:h.get b=some (.row vs ty es ro)) (hl:o+n<=vs.length) :
  rLoad P t h (some (.pointer (some ⟨b,o,none⟩)))=some (.agg ⟨(vs.drop o).take n⟩):=by
 unfold tAS at ht
 split at ht
 ·rename_i i hi
  simp only [Option.some.injEq,Prod.mk.injEq] at ht
  have hlen:((vs.drop o).take n).length=n:=by simp;omega
  simp only [rLoad,loadV,hb,hi,ht.1,ht.2,ltake_eq,ldrop_eq,llen_eq,hlen,Nat.beq_refl,if_true]
 ·cases ht
theorem new_row {t:TypeId} {h:AH} {z:Value}:wNewRow t h (some z)=one (.pointer (some ⟨h.next,0,none⟩),h.new (.row (cellsOfV z) t 0 false)):=rfl
theorem store_of {t:TypeId} {n:Nat} (ht:tsize P t=some n) {h:AH} {b o:Nat} {vs cs:List Value} {ty es:Nat} {x:Value} (hb:h.get b=some (.row vs ty es false)) (hx:cellsOfV x=cs) (hl:cs.length=n) (ho:o+n<=vs.length) (hleaf:cs.all isLeaf=true) :
  wStore P t h (some (.pointer (some ⟨b,o,none⟩))) (some x)=one (undef,h.upd b (some (.row (lput vs o cs) ty es false))):=by
 simp only [wStore,storeV,hb,ht,hx,llen_eq,hl,Nat.beq_refl,ble_true.2 ho,hleaf,Bool.and_self,if_true,u1]
theorem cells_agg (cs:Array Value):cellsOfV (.agg cs)=cs.toList:=rfl
theorem cells_int (k:IntKind) (n:Int):cellsOfV (.int k n)=[.int k n]:=rfl
theorem cells_slice (a:Option Addr) (n c:Nat):cellsOfV (.slice a n c)=[.slice a n c]:=rfl
theorem cells_func (f:Fn) (a b:Array Value):cellsOfV (.func f a b)=[.func f a b]:=rfl
theorem get_new_self (h:AH) (o:AObj):(h.new o).get h.next=some o:=by rw [AH.get_new,if_pos rfl]
theorem get_new_ne {h:AH} {o:AObj} {b:Nat} (hb:b≠h.next):(h.new o).get b=h.get b:=by rw [AH.get_new,if_neg hb]
theorem get_upd_self (h:AH) (b:Nat) (o:Option AObj):(h.upd b o).get b=o:=by rw [AH.get_upd,if_pos rfl]
theorem get_upd_ne {h:AH} {o:Option AObj} {b c:Nat} (hb:c≠b):(h.upd b o).get c=h.get c:=by rw [AH.get_upd,if_neg hb]
theorem wm_new (h:AH) (o:AObj):(h.new o).wm=h.wm:=rfl
theorem wm_upd_le {h:AH} {b n:Nat} {o:Option AObj} (h1:n<=h.wm) (h2:n<=b):n<=(h.upd b o).wm:=by
 show n<=cond (Nat.ble h.wm b) h.wm b
 cases Nat.ble h.wm b <;> assumption
structure Ext (h k:AH):Prop where
 ok:k.ok
 next:h.next<=k.next
 get:∀ b,b<h.next->k.get b=h.get b
theorem Ext.refl {h:AH} (k:h.ok):Ext h h:=⟨k,Nat.le_refl _,fun _ _=>rfl⟩
theorem Ext.fresh {h k:AH} (e:Ext h k):Ext h k.fresh:=⟨ok_fresh k,e.next,fun b hb=>e.get b hb⟩
theorem Ext.trans {h k l:AH} (e:Ext h k) (f:Ext k l):Ext h l:=⟨f.ok,Nat.le_trans e.next f.next,fun b hb=>(f.get b (Nat.lt_of_lt_of_le hb e.next)).trans (e.get b hb)⟩
theorem Ext.new {h k:AH} (e:Ext h k) (o:AObj):Ext h (k.new o):=⟨ok_new e.ok o,Nat.le_trans e.next (by simp),fun b hb=>by
 have:=e.next
 rw [get_new_ne (by omega)];exact e.get b hb⟩
theorem Ext.upd {h k:AH} (e:Ext h k) {b:Nat} (hb:h.next<=b) (o:Option AObj):Ext h (k.upd b o):=⟨ok_upd e.ok b o,e.next,fun c hc=>by
 rw [get_upd_ne (by omega)];exact e.get c hc⟩
structure Chg (k:AH) (b:Nat) (k':AH):Prop where
 ok:k'.ok
 next:k.next<=k'.next
 get:∀ c,c<k.next->c≠b->k'.get c=k.get c
 wm:∀ n,n<=k.wm->n<=b->n<=k.next->n<=k'.wm
theorem Chg.refl {k:AH} (h:k.ok) (b:Nat):Chg k b k:=⟨h,Nat.le_refl _,fun _ _ _=>rfl,fun _ h _ _=>h⟩
theorem Chg.trans {k l m:AH} {b:Nat} (e:Chg k b l) (f:Chg l b m):Chg k b m:=
 ⟨f.ok,Nat.le_trans e.next f.next,fun c hc hb=>(f.get c (Nat.lt_of_lt_of_le hc e.next) hb).trans (e.get c hc hb),fun n h1 h2 h3=>f.wm n (e.wm n h1 h2 h3) h2 (Nat.le_trans h3 e.next)⟩
theorem Chg.new {k l:AH} {b:Nat} (e:Chg k b l) (o:AObj):Chg k b (l.new o):=
 ⟨ok_new e.ok o,Nat.le_trans e.next (by simp),fun c hc hb=>by
  have:=e.next
  rw [get_new_ne (by omega)];exact e.get c hc hb,fun n h1 h2 h3=>e.wm n h1 h2 h3⟩
theorem Chg.upd {k l:AH} {b:Nat} (e:Chg k b l) (o:Option AObj):Chg k b (l.upd b o):=
 ⟨ok_upd e.ok b o,e.next,fun c hc hb=>by rw [get_upd_ne hb];exact e.get c hc hb,fun n h1 h2 h3=>wm_upd_le (e.wm n h1 h2 h3) h2⟩
theorem Chg.updNew {k l:AH} {b c:Nat} (e:Chg k b l) (hc:k.next<=c) (o:Option AObj):Chg k b (l.upd c o):=
 ⟨ok_upd e.ok c o,e.next,fun d hd hb=>by rw [get_upd_ne (by omega)];exact e.get d hd hb,fun n h1 h2 h3=>wm_upd_le (e.wm n h1 h2 h3) (Nat.le_trans h3 hc)⟩
theorem Chg.ext {h k l:AH} {b:Nat} (e:Ext h k) (hb:h.next<=b) (c:Chg k b l):Ext h l:=
 ⟨c.ok,Nat.le_trans e.next c.next,fun d hd=>(c.get d (Nat.lt_of_lt_of_le hd e.next) (by omega)).trans (e.get d hd)⟩
theorem Chg.of_fresh {k l:AH} {b:Nat} (c:Chg k.fresh b l):Chg k b ⟨l.t,l.next,cond (Nat.ble k.wm l.wm) k.wm l.wm⟩:=by
 refine ⟨?_,c.next,fun d hd hb=>c.get d hd hb,fun n h1 h2 h3=>?_⟩
 ·show cond (Nat.ble k.wm l.wm) k.wm l.wm<=l.next+UNK
  have:=c.ok
  unfold AH.ok at this
  cases hc:Nat.ble k.wm l.wm with
  | true=>rw [ble_true] at hc;simp only [cond_true];omega
  | false=>exact this
 ·show n<=cond (Nat.ble k.wm l.wm) k.wm l.wm
  cases hc:Nat.ble k.wm l.wm with
  | true=>exact h1
  | false=>exact c.wm n (by rw [wm_fresh];omega) h2 h3
end
theorem merge_sub:∀ (l acc:List Kept) (k:Kept),k∈merge l acc->k∈l\/k∈acc
 | [],acc,k,h=>.inr h
 | x::l,acc,k,h=>by
  simp only [merge] at h
  cases hb:acc.any (alike x) with
  | true=>rw [hb] at h;exact (merge_sub l acc k h).imp (fun h=>by simp [h]) id
  | false=>
   rw [hb] at h
   rcases merge_sub l (acc++[x]) k h with h|h
   ·exact .inl (by simp [h])
   ·rcases List.mem_append.1 h with h|h
    ·exact .inr h
    ·simp at h;exact .inl (by simp [h])
theorem merge_sup:∀ (l acc:List Kept) (k:Kept),k∈acc->k∈merge l acc
 | [],acc,k,h=>h
 | x::l,acc,k,h=>by
  simp only [merge]
  cases acc.any (alike x) with
  | true=>exact merge_sup l acc k h
  | false=>exact merge_sup l (acc++[x]) k (by simp [h])
theorem merge_ne (l:List Kept) (h:l≠[]):merge l []≠[]:=by
 cases l with
 | nil=>exact absurd rfl h
 | cons x l=>
  simp only [merge,List.any_nil,cond_false,List.nil_append]
  intro e
  have:=merge_sup l [x] x (by simp)
  rw [e] at this;cases this
theorem settle_ne {h0:AH} {l:List (Value×AH)} (h:l≠[]):settle h0 l≠[]:=by
 rcases settle_cases h0 l with ⟨x,rfl,e⟩|e
 ·rw [e];simp
 ·rw [e]
  unfold settleAll
  cases ((l.map (reset h0)).all (clean h0)) with
  | true=>
   simp only [cond_true]
   intro e'
   have:=List.map_eq_nil_iff.1 e'
   exact merge_ne _ (by simpa using h) this
  | false=>simpa using h
theorem settle_mem {h0:AH} {l:List (Value×AH)} {y:Value×AH} (hy:y∈settle h0 l) :
  ∃ x∈l,y=reset h0 x\/y=((reset h0 x).1,keepOnly h0 (reset h0 x).2 (reach (reset h0 x).2 h0.next 1000 (idsOf 4 (reset h0 x).1) [])):=by
 rcases settle_cases h0 l with ⟨x,rfl,e⟩|e
 ·rw [e] at hy
  simp at hy
  exact ⟨x,by simp,.inl hy⟩
 ·rw [e] at hy
  unfold settleAll at hy
  cases hc:((l.map (reset h0)).all (clean h0)) with
  | true=>
   rw [hc] at hy
   simp only [cond_true] at hy
   obtain ⟨k,hk,rfl⟩:=List.mem_map.1 hy
   rcases merge_sub _ _ _ hk with hk|hk
   ·obtain ⟨z,hz,rfl⟩:=List.mem_map.1 hk
    obtain ⟨x,hx,rfl⟩:=List.mem_map.1 hz
    exact ⟨x,hx,.inr rfl⟩
   ·cases hk
  | false=>
   rw [hc] at hy
   simp only [cond_false] at hy
   obtain ⟨x,hx,rfl⟩:=List.mem_map.1 hy
   exact ⟨x,hx,.inl rfl⟩
noncomputable def AH.kept (h0:AH) (v:Value) (h:AH):AH:=keepOnly h0 h (reach h h0.next 1000 (idsOf 4 v) [])
def AH.wmTo (h:AH) (w:Nat):AH:=⟨h.t,h.next,cond (Nat.ble w h.wm) w h.wm⟩
theorem call_many {P:Env} {s:Bool} {f:FuncId} {fn:Func} {c:Code} {args:List Value} {h:AH} {Rp:Value->AH->Prop} (hf:P.tab.fn.get f=some fn) (hb:fn.body=some c) (hsum:P.sum f args h=none) (hl:Nat.ble (llen args) fn.ntmps=true)
  (hev:Ev s (R.andThen (evC P (recI P) none (bodyOf fn) ⟨⟨fn.ntmps,initT args 0 .e⟩,h.fresh,[]⟩) (endCall P fn)) fun x=>isFlat x.1=false/\Rp x.1 (x.2.wmTo h.wm)/\Rp x.1 ((AH.kept h.fresh x.1 x.2).wmTo h.wm)) :
  Ev false ((recI P).call f args h) fun x=>Rp x.1 x.2:=by
 rw [fnCall_body hf hb hsum hl]
 obtain ⟨l,e,hne,_,hl'⟩:=hev
 rw [e]
 refine ⟨(settle h.fresh l).map (rewm h.wm),rfl,by simpa using settle_ne hne,(fun h=>by cases h),fun y hy=>?_⟩
 obtain ⟨z,hz,rfl⟩:=List.mem_map.1 hy
 obtain ⟨x,hx,hh⟩:=settle_mem hz
 obtain ⟨a,b,c⟩:=hl' x hx
 have hr:reset h.fresh x=x:=by unfold reset;rw [a];simp
 rw [hr] at hh
 rcases hh with rfl|rfl
 ·exact b
 ·exact c
def zipV:List Nat->List Value->List (Nat×Value)
 | [],_=>[]
 | _,[]=>[]
 | t::ts,v::vs=>(t,v)::zipV ts vs
def PI (C:Cx) (K:KF) (i:Nat) (vs:List Value) (h:AH):Prop:=match lnth C.lv i with
 | some x=>SP C K x.1 (zipV x.2 vs) h
 | none=>False
def stepI (C:Cx) (K:KF) (i:Nat) (vs:List Value) (h:AH):Prop:=match lnth C.lv i with
 | some x=>stepK C K x.1 (tmOf (zipV x.2 vs)) h
 | none=>False
def chkI (C:Cx) (i:Nat) (vs:List Value):Bool:=match lnth C.lv i with
 | some x=>chkP C x.1&&eqPath (lvAt x.1 C.lv) x.2&&Nat.beq (llen x.2) (llen vs)
 | none=>false
theorem zipV_fst:∀ (l:List Nat) (vs:List Value),llen l=llen vs->(zipV l vs).map (·.1)=l
 | [],vs,_=>rfl
 | t::ts,[],h=>by simp [llen] at h
 | t::ts,v::vs,h=>by simp only [zipV,List.map_cons];rw [zipV_fst ts vs (by simpa [llen] using h)]
theorem eqPath_iff':∀ {l m:List Nat},eqPath l m=true->l=m
 | [],[],_=>rfl
 | a::l,b::m,h=>by
  simp only [eqPath,Bool.and_eq_true] at h
  rw [beq_true.1 h.1,eqPath_iff' h.2]
 | [],_::_,h=>by cases h
 | _::_,[],h=>by cases h
theorem step_of {C:Cx} {K:KF} {i:Nat} {vs:List Value} {h:AH} {Q:Prop} (H:Q) (hc:chkI C i vs=true:=by kernel_rfl) (hk:stepI C K i vs h=Q:=by kernel_rfl):PI C K i vs h:=by
 rw [← hk] at H
 unfold PI
 unfold stepI at H
 unfold chkI at hc
 split at hc
 ·rename_i x hx
  simp only [Bool.and_eq_true,beq_true] at hc
  obtain ⟨⟨h1,h2⟩,h3⟩:=hc
  have h2:=eqPath_iff' h2
  simp only [hx] at H ⊢
  exact step_ok h1 (by rw [zipV_fst _ _ h3,h2]) H
 ·cases hc
variable {P:Env} {s:Bool} {f:FuncId} {fn:Func} {args:List Value} {h:AH} {v:Value}
abbrev EvC (P:Env) (s:Bool) (fn:Func) (args:List Value) (h:AH) (Rp:Value->AH->Prop):Prop:=
 Ev s (R.andThen (evC P (recI P) none (bodyOf fn) ⟨⟨fn.ntmps,initT args 0 .e⟩,h,[]⟩) (endCall P fn)) fun x=>Rp x.1 x.2
theorem ev_of (C:Cx) {Rp:Value->AH->Prop} {Q:Prop} (H:Q) (hP:C.P=P:=by rfl) (hs:C.s=s:=by rfl) (h1:C.B=bodyOf fn:=by rfl) (h2:C.ro=none:=by rfl) (h3:C.rt=resT fn.results.toList:=by kernel_rfl) (h4:C.D=[]:=by rfl)
  (hneed:subN (needC C 30 (rs C.B 60 (.at []))) ((zipL 0 args).map (·.1))=true:=by kernel_rfl) (hnd:nodupN ((zipL 0 args).map (·.1))=true:=by kernel_rfl)
  (hk:contK C (KR P fn.results.toList Rp) 30 (rs C.B 60 (.at [])) (tmOf (zipL 0 args)) h=Q:=by kernel_rfl):EvC P s fn args h Rp:=
 call_ev hP hs ⟨h1,h2,h3,h4⟩ hneed hnd (hk ▸ H)
theorem flatF (fn:Func) (hok:h.ok) (hv:isScalar v=true) (H:EvC P s fn args h.fresh fun x k=>x=v/\h.next<=k.wm) (h1:P.tab.fn.get f=some fn:=by kernel_rfl) (h2:fn.body=some (bodyOf fn):=by kernel_rfl) (h3:P.sum f args h=none:=by kernel_rfl) (h4:Nat.ble (llen args) fn.ntmps=true:=by kernel_rfl):(recI P).call f args h=some [(v,h)]:=
 call_flat hok h1 h2 h3 h4 hv H
theorem flatF1 (fn:Func) (hok:h.ok) (hv:isFlat v=true) (H:EvC P true fn args h.fresh fun x k=>x=v/\h.next<=k.wm) (h1:P.tab.fn.get f=some fn:=by kernel_rfl) (h2:fn.body=some (bodyOf fn):=by kernel_rfl) (h3:P.sum f args h=none:=by kernel_rfl) (h4:Nat.ble (llen args) fn.ntmps=true:=by kernel_rfl):(recI P).call f args h=some [(v,h)]:=
 call_flat1 hok h1 h2 h3 h4 hv H
theorem flatFE (fn:Func) {Rp:Value->Prop} (hok:h.ok) (H:EvC P true fn args h.fresh fun x k=>(isFlat x=true/\Rp x)/\h.next<=k.wm) (h1:P.tab.fn.get f=some fn:=by kernel_rfl) (h2:fn.body=some (bodyOf fn):=by kernel_rfl) (h3:P.sum f args h=none:=by kernel_rfl) (h4:Nat.ble (llen args) fn.ntmps=true:=by kernel_rfl):∃ v,Rp v/\(recI P).call f args h=some [(v,h)]:=
 call_flatE hok h1 h2 h3 h4 H
theorem someF (fn:Func) {Rp:Value->AH->Prop} (H:EvC P true fn args h.fresh fun x k=>(isFlat x=false\/k.wm<h.next)/\Rp x ⟨k.t,k.next,cond (Nat.ble h.wm k.wm) h.wm k.wm⟩) (h1:P.tab.fn.get f=some fn:=by kernel_rfl) (h2:fn.body=some (bodyOf fn):=by kernel_rfl) (h3:P.sum f args h=none:=by kernel_rfl) (h4:Nat.ble (llen args) fn.ntmps=true:=by kernel_rfl):Ev true ((recI P).call f args h) fun x=>Rp x.1 x.2:=
 call_some h1 h2 h3 h4 H
end Go.AM
namespace Go.AM
open Go Go.RowKit
noncomputable def tyOk1 (raw:Tr TypeInfo) (i:TypeInfo):Bool:=
 (match i.desc with
  | .named _ u=>(match raw.get u with|some _=>true|none=>false)
  | _=>true) &&
 (match i.zero with
  | some z=>flat 4 z
  | none=>true)
noncomputable def tysOk (P:Program):Bool:=let raw:=Tr.ofList 40 P.types.toList;P.types.toList.all (tyOk1 raw)
noncomputable def fnOk (g:Func):Bool:=match g.body with
 | some c=>fits g.ntmps c&&!(g.name=="runtime.NumGoroutine")
 | none=>true
theorem info_of {P:Program} {t:TypeId} {info:TypeInfo} (h:P.types[t]?=some info):P.info? t=some info:=by
 unfold Tables.info?
 rw [if_pos (Array.getElem?_eq_some_iff.1 h).1]
 exact h
theorem envOK_of {P:Program} {ext:List (FuncId×Nat)} {sum:FuncId->List Value->AH->Option (List (Value×AH))} (h1:tysOk P=true) (h2:P.funcs.toList.all fnOk=true) (h3:P.follows .mixedOrders=true):EnvOK (mkEnv P ext sum):=by
 have hty:∀ t i,(mkEnv P ext sum).tab.ty.get t=some i->∃ info,P.types[t]?=some info/\i=mkTI (Tr.ofList 40 P.types.toList) info:=by
  intro t i h
  have:=Tr.get_ofList _ _ _ _ h
  rw [List.getElem?_map] at this
  cases hx:P.types.toList[t]? with
  | none=>rw [hx] at this;cases this
  | some info=>
   rw [hx] at this
   simp only [Option.map_some,Option.some.injEq] at this
   exact ⟨info,by rw [← Array.getElem?_toList];exact hx,this.symm⟩
 have hok:∀ {t:Nat} {info:TypeInfo},P.types[t]?=some info->tyOk1 (Tr.ofList 40 P.types.toList) info=true:=by
  intro t info h
  exact List.all_eq_true.1 h1 info (List.mem_of_getElem? (by rw [Array.getElem?_toList];exact h))
 have hfn:∀ f g,(mkEnv P ext sum).tab.fn.get f=some g->P.funcs[f]?=some g/\fnOk g=true:=by
  intro f g h
  have:=Tr.get_ofList _ _ _ _ h
  exact ⟨by rw [← Array.getElem?_toList];exact this,List.all_eq_true.1 h2 g (List.mem_of_getElem? this)⟩
 refine ⟨?_,?_,?_,?_,h3,?_⟩
 ·intro t i h
  obtain ⟨info,q1,rfl⟩:=hty t i h
  have h1:=hok q1
  have hi:P.info? t=some info:=info_of q1
  refine ⟨info,hi,?_⟩
  unfold tyOk1 at h1
  rw [Bool.and_eq_true] at h1
  obtain ⟨k1,_⟩:=h1
  show P.underlying t=_/\_
  unfold Program.underlying mkTI
  rw [hi]
  cases hd:info.desc with
  | named nm u=>
   rw [hd] at k1
   simp only at k1
   split at k1
   ·rename_i j hj
    have hj':P.types[u]?=some j:=by rw [← Array.getElem?_toList];exact Tr.get_ofList _ _ _ _ hj
    have hju:P.info? u=some j:=info_of hj'
    obtain ⟨d1,d2⟩:=info
    simp only at hd
    subst hd
    simp [hj,hju]
    try (cases j.desc <;> rfl)
   ·cases k1
  | _=>
   obtain ⟨d1,d2⟩:=info
   simp only at hd
   subst hd
   simp
 ·intro t i z h hz
  obtain ⟨info,q1,rfl⟩:=hty t i h
  have h1:=hok q1
  unfold tyOk1 at h1
  rw [Bool.and_eq_true] at h1
  have hzz:info.zero=some z:=by
   rw [← hz]
   unfold mkTI
   cases hd:info.desc <;> simp
   split <;> rfl
  have h2:=h1.2
  rw [hzz] at h2
  exact h2
 ·intro f g h
  obtain ⟨q1,q2⟩:=hfn f g h
  refine ⟨q1,fun c hc=>?_⟩
  unfold fnOk at q2
  rw [hc] at q2
  simp only [Bool.and_eq_true] at q2
  exact q2.1
 ·intro f g c h hc
  obtain ⟨q1,q2⟩:=hfn f g h
  unfold fnOk at q2
  rw [hc] at q2
  simp only [Bool.and_eq_true,Bool.not_eq_true'] at q2
  exact q2.2
 ·show 2<=P.depth
  unfold Program.depth;omega
theorem ext_mem (P:Program):∀ {ext:List (FuncId×Nat)} {f:FuncId} {c:Nat},(mkEnv P ext sum).tab.ext.get f=some c->(f,c)∈ext
 | [],f,c,h=>by cases h
 | (g,d)::ext,f,c,h=>by
  have e:(mkEnv P ((g,d)::ext) sum).tab.ext=(mkEnv P ext sum).tab.ext.set (g+1) g (some d):=rfl
  rw [e,Tr.get_set _ _ _ _ _ (Nat.lt_succ_self g)] at h
  split at h
  ·rename_i hf;cases h;subst hf;simp
  ·exact List.mem_cons_of_mem _ (ext_mem P h)
theorem indexByte_nonneg:∀ (l:List UInt8) (c:UInt8),Lib.indexByte l c=-1\/0<=Lib.indexByte l c
 | [],c=>.inl rfl
 | b::l,c=>by
  simp only [Lib.indexByte]
  split
  ·exact .inr (by omega)
  ·split
   ·exact .inl rfl
   ·rename_i h
    rcases indexByte_nonneg l c with h'|h'
    ·rw [h'] at h;simp at h
    ·exact .inr (by omega)
theorem idxByte_eq:∀ (l:List UInt8) (c:UInt8) (i:Nat),idxByte l c i=(if Lib.indexByte l c=-1 then -1 else Lib.indexByte l c+i)
 | [],c,i=>by simp [idxByte,Lib.indexByte]
 | b::l,c,i=>by
  simp only [idxByte,Lib.indexByte]
  by_cases hb:b=c
  ·subst hb
   simp
  ·have hn:¬ (Nat.beq b.toNat c.toNat=true):=by rw [beq_true];intro h;exact hb (UInt8.toNat_inj.1 h)
   have hb':(b==c)=false:=by simpa using hb
   rw [if_neg hn,idxByte_eq l c (i+1)]
   simp only [hb',Bool.false_eq_true,if_false]
   rcases indexByte_nonneg l c with h|h
   ·simp [h]
   ·have h1:¬ Lib.indexByte l c=-1:=by omega
    have h2:¬ (Lib.indexByte l c+1=-1):=by omega
    simp only [h1,if_false,beq_iff_eq,h2]
    omega
theorem idxByte_zero (l:List UInt8) (c:UInt8):idxByte l c 0=Lib.indexByte l c:=by
 rw [idxByte_eq]
 split
 ·rename_i h;exact h.symm
 ·simp
end Go.AM
namespace Go.Proofs
open Go Go.AM
noncomputable def insAt (args:List Value) (h:AH):Option (List (Value×AH)):=match args with
 | [.slice (some ⟨b,0,none⟩) n cap,.int .i64 (.ofNat i),.slice (some ⟨c,0,none⟩) 1 1]=>
  (match h.get b,h.get c with
  | some (.row vs 36 2 false),some (.row us 36 0 false)=>
   cond (Nat.beq cap (UNK+2)&&Nat.ble i n&&Nat.beq (llen vs) (n*2)&&Nat.beq (llen us) 2&&!Nat.beq b c&&vs.all isLeaf&&us.all isLeaf&&Nat.ble n 100000)
    (some [(.slice (some ⟨h.next,0,none⟩) (n+1) (UNK+2),(h.upd b none).new (.row (ltake (i*2) vs++us++ldrop (i*2) vs) 36 2 false))]) none
  | _,_=>none)
 | _=>none
noncomputable def saneAt (args:List Value) (h:AH):Option (List (Value×AH)):=match args with
 | []=>some [(.bool true,h)]
 | _=>none
noncomputable def growAt (args:List Value) (h:AH):Option (List (Value×AH)):=match args with
 | [.slice none 0 0,.int .i64 (.ofNat n)]=>cond (Nat.beq n 0) (some [(.slice none 0 0,h)]) (cond (Nat.ble n 1000000) (some [(.slice (some ⟨h.next,0,none⟩) 0 (UNK+2),h.new (.row [] 54 2 false))]) none)
 | _=>none
noncomputable def itoaAt (args:List Value) (h:AH):Option (List (Value×AH)):=match args with
 | [.int .i64 n]=>cond (decide (-9223372036854775808<=n)&&decide (n<=9223372036854775807)) (some [(.string ⟨(Lib.itoa n).toArray⟩,h)]) none
 | _=>none
def strsOf:List Value->Option (List (List UInt8))
 | []=>some []
 | .string s::vs=>(match strsOf vs with|some l=>some (s.data.toList::l)|none=>none)
 | _=>none
def sorS (ss:List (List UInt8)):List (List UInt8):=ss.mergeSort fun x y=>decide (x<=y)
abbrev stV (l:List UInt8):Value:=.string ⟨l.toArray⟩
noncomputable def sortAt (args:List Value) (h:AH):Option (List (Value×AH)):=match args with
 | [.slice (some ⟨b,0,none⟩) n cap]=>
  (match h.get b with
  | some (.row vs 9 1 false)=>(match strsOf vs with
   | some ss=>cond (Nat.beq cap (UNK+1)&&Nat.beq n (llen ss)&&Nat.ble n 1000000) (some [(.tuple #[],h.upd b (some (.row ((sorS ss).map stV) 9 1 false)))]) none
   | none=>none)
  | _=>none)
 | _=>none
noncomputable def insSum (f:FuncId) (args:List Value) (h:AH):Option (List (Value×AH)):=match Nat.beq f 191 with
 | true=>insAt args h
 | false=>(match Nat.beq f 13 with
  | true=>saneAt args h
  | false=>(match Nat.beq f 160 with
   | true=>growAt args h
   | false=>(match Nat.beq f 80 with
    | true=>itoaAt args h
    | false=>(match Nat.beq f 115 with
     | true=>sortAt args h
     | false=>none))))
noncomputable def E:Env:=mkEnv Tryz.prog [(172,1),(284,2)] insSum
end Go.Proofs
namespace Go.Proofs
open Go Go.AM
set_option maxRecDepth 100000
theorem und_22:und E 22=some (.slice 36):=by kernel_rfl
theorem elt_22:elemT E 22=some 36:=by kernel_rfl
theorem ia_22 {b o len c k:Nat} (h:k<len):pIndexAddr E 22 (some (.slice (some ⟨b,o,none⟩) len c)) (some (.int .i64 (k:Int)))=some (.pointer (some ⟨b,o+k*2,none⟩)):=indexSlice_of und_22 (by kernel_rfl) h
theorem und_23:und E 23=some (.slice 52):=by kernel_rfl
theorem elt_23:elemT E 23=some 52:=by kernel_rfl
theorem ia_23 {b o len c k:Nat} (h:k<len):pIndexAddr E 23 (some (.slice (some ⟨b,o,none⟩) len c)) (some (.int .i64 (k:Int)))=some (.pointer (some ⟨b,o+k*3,none⟩)):=indexSlice_of und_23 (by kernel_rfl) h
theorem und_26:und E 26=some (.slice 54):=by kernel_rfl
theorem ia_26 {b o len c k:Nat} (h:k<len):pIndexAddr E 26 (some (.slice (some ⟨b,o,none⟩) len c)) (some (.int .i64 (k:Int)))=some (.pointer (some ⟨b,o+k*2,none⟩)):=indexSlice_of und_26 (by kernel_rfl) h
theorem und_34:und E 34=some (.slice 173):=by kernel_rfl
theorem ia_34 {b o len c k:Nat} (h:k<len):pIndexAddr E 34 (some (.slice (some ⟨b,o,none⟩) len c)) (some (.int .i64 (k:Int)))=some (.pointer (some ⟨b,o+k*3,none⟩)):=indexSlice_of und_34 (by kernel_rfl) h
theorem und_47:und E 47=some (.slice 3):=by kernel_rfl
theorem elt_47:elemT E 47=some 3:=by kernel_rfl
theorem ia_47 {b o len c k:Nat} (h:k<len):pIndexAddr E 47 (some (.slice (some ⟨b,o,none⟩) len c)) (some (.int .i64 (k:Int)))=some (.pointer (some ⟨b,o+k*1,none⟩)):=indexSlice_of und_47 (by kernel_rfl) h
theorem und_54:und E 54=some (.array 2 3):=by kernel_rfl
theorem ia_54 {b o k:Nat} (h:k<2):pIndexAddr E 54 (some (.pointer (some ⟨b,o,none⟩))) (some (.int .i64 (k:Int)))=some (.pointer (some ⟨b,o+k*1,none⟩)):=indexArr_of und_54 (by kernel_rfl) h
theorem und_82:und E 82=some (.slice 25):=by kernel_rfl
theorem ia_82 {b o len c k:Nat} (h:k<len):pIndexAddr E 82 (some (.slice (some ⟨b,o,none⟩) len c)) (some (.int .i64 (k:Int)))=some (.pointer (some ⟨b,o+k*3,none⟩)):=indexSlice_of und_82 (by kernel_rfl) h
theorem und_83:und E 83=some (.slice 32):=by kernel_rfl
theorem ia_83 {b o len c k:Nat} (h:k<len):pIndexAddr E 83 (some (.slice (some ⟨b,o,none⟩) len c)) (some (.int .i64 (k:Int)))=some (.pointer (some ⟨b,o+k*2,none⟩)):=indexSlice_of und_83 (by kernel_rfl) h
theorem und_126:und E 126=some (.slice 128):=by kernel_rfl
theorem elt_126:elemT E 126=some 128:=by kernel_rfl
theorem ia_126 {b o len c k:Nat} (h:k<len):pIndexAddr E 126 (some (.slice (some ⟨b,o,none⟩) len c)) (some (.int .i64 (k:Int)))=some (.pointer (some ⟨b,o+k*1,none⟩)):=indexSlice_of und_126 (by kernel_rfl) h
theorem und_129:und E 129=some (.slice 132):=by kernel_rfl
theorem elt_129:elemT E 129=some 132:=by kernel_rfl
theorem ia_129 {b o len c k:Nat} (h:k<len):pIndexAddr E 129 (some (.slice (some ⟨b,o,none⟩) len c)) (some (.int .i64 (k:Int)))=some (.pointer (some ⟨b,o+k*1,none⟩)):=indexSlice_of und_129 (by kernel_rfl) h
theorem und_132:und E 132=some (.slice 134):=by kernel_rfl
theorem elt_132:elemT E 132=some 134:=by kernel_rfl
theorem ia_132 {b o len c k:Nat} (h:k<len):pIndexAddr E 132 (some (.slice (some ⟨b,o,none⟩) len c)) (some (.int .i64 (k:Int)))=some (.pointer (some ⟨b,o+k*2,none⟩)):=indexSlice_of und_132 (by kernel_rfl) h
theorem ts_3:tsize E 3=some 1:=by kernel_rfl
theorem ta_3:tAS E 3=some (false,1):=by kernel_rfl
theorem z_3:zeroV E 3=some (.int .i64 0):=by kernel_rfl
theorem ts_4:tsize E 4=some 1:=by kernel_rfl
theorem ta_4:tAS E 4=some (false,1):=by kernel_rfl
theorem ts_22:tsize E 22=some 1:=by kernel_rfl
theorem ta_22:tAS E 22=some (false,1):=by kernel_rfl
theorem ts_23:tsize E 23=some 1:=by kernel_rfl
theorem ta_23:tAS E 23=some (false,1):=by kernel_rfl
theorem z_23:zeroV E 23=some (.slice none 0 0):=by kernel_rfl
theorem ts_25:tsize E 25=some 3:=by kernel_rfl
theorem ta_25:tAS E 25=some (true,3):=by kernel_rfl
theorem z_25:zeroV E 25=some (.agg #[(.int .i64 0),(.slice none 0 0),(.slice none 0 0)]):=by kernel_rfl
theorem ta_26:tAS E 26=some (false,1):=by kernel_rfl
theorem ts_32:tsize E 32=some 2:=by kernel_rfl
theorem ta_32:tAS E 32=some (true,2):=by kernel_rfl
theorem z_32:zeroV E 32=some (.agg #[(.int .i64 0),(.slice none 0 0)]):=by kernel_rfl
theorem ta_34:tAS E 34=some (false,1):=by kernel_rfl
theorem ts_36:tsize E 36=some 2:=by kernel_rfl
theorem ta_36:tAS E 36=some (true,2):=by kernel_rfl
theorem z_36:zeroV E 36=some (.agg #[(.int .i64 0),(.slice none 0 0)]):=by kernel_rfl
theorem ts_52:tsize E 52=some 3:=by kernel_rfl
theorem ta_52:tAS E 52=some (true,3):=by kernel_rfl
theorem z_52:zeroV E 52=some (.agg #[(.int .i64 0),(.int .i64 0),(.int .i64 0)]):=by kernel_rfl
theorem ts_54:tsize E 54=some 2:=by kernel_rfl
theorem ta_54:tAS E 54=some (true,2):=by kernel_rfl
theorem z_54:zeroV E 54=some (.agg #[(.int .i64 0),(.int .i64 0)]):=by kernel_rfl
theorem ta_109:tAS E 109=some (false,1):=by kernel_rfl
theorem ts_112:tsize E 112=some 3:=by kernel_rfl
theorem ta_112:tAS E 112=some (true,3):=by kernel_rfl
theorem z_112:zeroV E 112=some (.agg #[.nilFunc,.nilFunc,(.string ⟨#[]⟩)]):=by kernel_rfl
theorem ts_113:tsize E 113=some 9:=by kernel_rfl
theorem ta_113:tAS E 113=some (true,9):=by kernel_rfl
theorem z_113:zeroV E 113=some (.agg #[.nilFunc,.nilFunc,(.string ⟨#[]⟩),.nilFunc,.nilFunc,(.string ⟨#[]⟩),.nilFunc,.nilFunc,(.string ⟨#[]⟩)]):=by kernel_rfl
theorem ta_128:tAS E 128=some (false,1):=by kernel_rfl
theorem ta_129:tAS E 129=some (false,1):=by kernel_rfl
theorem ts_132:tsize E 132=some 1:=by kernel_rfl
theorem ta_132:tAS E 132=some (false,1):=by kernel_rfl
theorem z_132:zeroV E 132=some (.slice none 0 0):=by kernel_rfl
theorem ts_134:tsize E 134=some 2:=by kernel_rfl
theorem ta_134:tAS E 134=some (true,2):=by kernel_rfl
theorem z_134:zeroV E 134=some (.agg #[(.int .i64 0),(.int .i64 0)]):=by kernel_rfl
theorem ts_173:tsize E 173=some 3:=by kernel_rfl
theorem ta_173:tAS E 173=some (true,3):=by kernel_rfl
theorem z_173:zeroV E 173=some (.agg #[(.int .i64 0),(.int .i64 0),(.slice none 0 0)]):=by kernel_rfl
theorem ta_174:tAS E 174=some (false,1):=by kernel_rfl
theorem ts_176:tsize E 176=some 3:=by kernel_rfl
theorem ta_176:tAS E 176=some (true,3):=by kernel_rfl
theorem z_176:zeroV E 176=some (.agg #[(.pointer none),(.pointer none),(.map none)]):=by kernel_rfl
theorem ta_178:tAS E 178=some (true,3):=by kernel_rfl
theorem z_197:zeroV E 197=some (.agg #[(.slice none 0 0)]):=by kernel_rfl
theorem ts_247:tsize E 247=some 1:=by kernel_rfl
theorem ta_247:tAS E 247=some (false,1):=by kernel_rfl
theorem z_247:zeroV E 247=some .nilFunc:=by kernel_rfl
theorem z_306:zeroV E 306=some (.agg #[(.int .i64 0),(.int .i64 0)]):=by kernel_rfl
theorem fa_306_1 {b o:Nat}:pFieldAddr E 306 1 (some (.pointer (some ⟨b,o,none⟩)))=some (.pointer (some ⟨b,o+1,none⟩)):=by kernel_rfl
theorem fa_306_0 {b o:Nat}:pFieldAddr E 306 0 (some (.pointer (some ⟨b,o,none⟩)))=some (.pointer (some ⟨b,o+0,none⟩)):=by kernel_rfl
theorem fa_173_1 {b o:Nat}:pFieldAddr E 173 1 (some (.pointer (some ⟨b,o,none⟩)))=some (.pointer (some ⟨b,o+1,none⟩)):=by kernel_rfl
theorem fa_173_0 {b o:Nat}:pFieldAddr E 173 0 (some (.pointer (some ⟨b,o,none⟩)))=some (.pointer (some ⟨b,o+0,none⟩)):=by kernel_rfl
theorem fa_197_0 {b o:Nat}:pFieldAddr E 197 0 (some (.pointer (some ⟨b,o,none⟩)))=some (.pointer (some ⟨b,o+0,none⟩)):=by kernel_rfl
theorem fa_134_1 {b o:Nat}:pFieldAddr E 134 1 (some (.pointer (some ⟨b,o,none⟩)))=some (.pointer (some ⟨b,o+1,none⟩)):=by kernel_rfl
theorem fa_134_0 {b o:Nat}:pFieldAddr E 134 0 (some (.pointer (some ⟨b,o,none⟩)))=some (.pointer (some ⟨b,o+0,none⟩)):=by kernel_rfl
theorem fa_176_1 {b o:Nat}:pFieldAddr E 176 1 (some (.pointer (some ⟨b,o,none⟩)))=some (.pointer (some ⟨b,o+1,none⟩)):=by kernel_rfl
theorem fa_112_0 {b o:Nat}:pFieldAddr E 112 0 (some (.pointer (some ⟨b,o,none⟩)))=some (.pointer (some ⟨b,o+0,none⟩)):=by kernel_rfl
theorem fa_176_0 {b o:Nat}:pFieldAddr E 176 0 (some (.pointer (some ⟨b,o,none⟩)))=some (.pointer (some ⟨b,o+0,none⟩)):=by kernel_rfl
theorem fa_178_0 {b o:Nat}:pFieldAddr E 178 0 (some (.pointer (some ⟨b,o,none⟩)))=some (.pointer (some ⟨b,o+0,none⟩)):=by kernel_rfl
theorem fa_52_2 {b o:Nat}:pFieldAddr E 52 2 (some (.pointer (some ⟨b,o,none⟩)))=some (.pointer (some ⟨b,o+2,none⟩)):=by kernel_rfl
theorem fa_52_1 {b o:Nat}:pFieldAddr E 52 1 (some (.pointer (some ⟨b,o,none⟩)))=some (.pointer (some ⟨b,o+1,none⟩)):=by kernel_rfl
theorem fa_52_0 {b o:Nat}:pFieldAddr E 52 0 (some (.pointer (some ⟨b,o,none⟩)))=some (.pointer (some ⟨b,o+0,none⟩)):=by kernel_rfl
theorem fa_131_0 {b o:Nat}:pFieldAddr E 131 0 (some (.pointer (some ⟨b,o,none⟩)))=some (.pointer (some ⟨b,o+0,none⟩)):=by kernel_rfl
theorem fa_176_2 {b o:Nat}:pFieldAddr E 176 2 (some (.pointer (some ⟨b,o,none⟩)))=some (.pointer (some ⟨b,o+2,none⟩)):=by kernel_rfl
theorem fa_32_1 {b o:Nat}:pFieldAddr E 32 1 (some (.pointer (some ⟨b,o,none⟩)))=some (.pointer (some ⟨b,o+1,none⟩)):=by kernel_rfl
theorem fa_32_0 {b o:Nat}:pFieldAddr E 32 0 (some (.pointer (some ⟨b,o,none⟩)))=some (.pointer (some ⟨b,o+0,none⟩)):=by kernel_rfl
theorem fa_173_2 {b o:Nat}:pFieldAddr E 173 2 (some (.pointer (some ⟨b,o,none⟩)))=some (.pointer (some ⟨b,o+2,none⟩)):=by kernel_rfl
theorem fa_36_0 {b o:Nat}:pFieldAddr E 36 0 (some (.pointer (some ⟨b,o,none⟩)))=some (.pointer (some ⟨b,o+0,none⟩)):=by kernel_rfl
theorem fa_36_1 {b o:Nat}:pFieldAddr E 36 1 (some (.pointer (some ⟨b,o,none⟩)))=some (.pointer (some ⟨b,o+1,none⟩)):=by kernel_rfl
theorem fa_25_1 {b o:Nat}:pFieldAddr E 25 1 (some (.pointer (some ⟨b,o,none⟩)))=some (.pointer (some ⟨b,o+1,none⟩)):=by kernel_rfl
theorem fa_25_2 {b o:Nat}:pFieldAddr E 25 2 (some (.pointer (some ⟨b,o,none⟩)))=some (.pointer (some ⟨b,o+2,none⟩)):=by kernel_rfl
theorem fa_25_0 {b o:Nat}:pFieldAddr E 25 0 (some (.pointer (some ⟨b,o,none⟩)))=some (.pointer (some ⟨b,o+0,none⟩)):=by kernel_rfl
end Go.Proofs
