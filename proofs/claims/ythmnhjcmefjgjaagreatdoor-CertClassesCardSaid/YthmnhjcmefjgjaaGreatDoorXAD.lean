import Derived.KernelRfl
import Derived.Lib.Bytealg
import Derived.Test.YthmnhjcmefjgjaaGreatDoorProg
import Derived.Test.YthmnhjcmefjgjaaGreatDoorXAC
set_option linter.all false
set_option linter.unusedSectionVars false
set_option autoImplicit true
set_option relaxedAutoImplicit true
set_option maxRecDepth 100000
set_option maxHeartbeats 1000000
noncomputable section
section
section
namespace Go.AM
open Go Go.Proofs
def Ev{α:Type}(s:Bool)(x:R α)(Q:α->Prop):Prop:=∃ l,x=some l/\l≠[]/\(s=true->l.length=1)/\∀ a∈l,Q a
def Ev.mono{α:Type}{s:Bool}{x:R α}{Q Q':α->Prop}(h:Ev s x Q)(hQ:∀ a,Q a->Q' a):Ev s x Q':=
 let ⟨l,a,b,c,d⟩:=h;⟨l,a,b,c,fun x hx=>hQ x (d x hx)⟩
def Ev.one{α:Type}{s:Bool}{a:α}{Q:α->Prop}(h:Q a):Ev s (AM.one a) Q:=⟨[a],rfl,by simp,fun _=>rfl,fun b hb=>by simp at hb;rw[hb];exact h⟩
def zO{α:Type}{s:Bool}{a:α}{Q:α->Prop}:Ev s (some [a]) Q ↔ Q a:=⟨fun ⟨l,e,_,_,h⟩=>by cases e;exact h a (by simp),fun h=>Ev.one h⟩
def zL{α:Type}{s:Bool}{a:α}{Q:α->Prop}:Ev s (one a) Q ↔ Q a:=zO
def Ev.bindL{α β:Type}{s:Bool}{f:α->R β}{Q:β->Prop}:∀ {l:List α},l≠[]->(s=true->l.length=1)->(∀ a∈l,Ev s (f a) Q)->Ev s (AM.bindL f l) Q
 | [a],_,_,h=>by
  obtain⟨l,e,h1,h2,h3⟩:=h a (by simp);simp only[AM.bindL,e,List.append_nil];exact⟨l,rfl,h1,h2,h3⟩
 | a::b::aas,_,h1,h=>by
  have hs:s=false:=by cases s with|false=>rfl|true=>have:=h1 rfl;simp at this
  subst hs;obtain⟨l,e,k1,_,k3⟩:=h a (by simp);obtain⟨l',e',j1,_,j3⟩:=Ev.bindL (s:=false) (l:=b::aas) (by simp) (fun h=>by cases h) fun c hc=>h c (by simp at hc ⊢;exact .inr hc);have:AM.bindL f (a::b::aas)=some (l++l'):=by simp only[AM.bindL] at e' ⊢;rw[e];simp only[e']
  rw[this];exact⟨_,rfl,by simp[k1],(fun h=>nomatch h),fun c hc=>(List.mem_append.1 hc).elim (k3 c) (j3 c)⟩
def Ev.andThen{α β:Type}{s:Bool}{x:R α}{f:α->R β}{Q:β->Prop}(h:Ev s x fun a=>Ev s (f a) Q):Ev s (R.andThen x f) Q:=by
 obtain⟨l,e,h1,h2,h3⟩:=h;rw[zJ0,e];exact Ev.bindL h1 h2 h3
def Ev.weak{α:Type}{x:R α}{Q:α->Prop}{s:Bool}(h:Ev true x Q):Ev s x Q:=let ⟨l,a,b,c,d⟩:=h;⟨l,a,b,fun _=>c rfl,d⟩
def Ev.single{α:Type}{x:R α}{a:α}(h:Ev true x fun b=>b=a):x=some [a]:=by
 obtain⟨l,e,_,h2,h3⟩:=h;have:=h2 rfl
 match l,this with
 | [b],_=>rw[e,h3 b (by simp)]
@[congr] theorem zqq{α:Type}{s:Bool}{x y:R α}{Q:α->Prop}(h:x=y):Ev s x Q=Ev s y Q:=by rw[h]
def EvO{α:Type}(x:Option α)(K:α->Prop):Prop:=match x with
 | some v=>K v
 | none=>False
def zA{α:Type}{v:α}{K:α->Prop}:EvO (some v) K ↔ K v:=Iff.rfl
def zPx{α:Type}{K:α->Prop}:EvO (none:Option α) K ↔ False:=Iff.rfl
def EvO.ex{α:Type}{x:Option α}{K:α->Prop}(h:EvO x K):∃ v,x=some v/\K v:=match x,h with
 | some v,h=>⟨v,rfl,h⟩
def EvO.of{α:Type}{x:Option α}{K:α->Prop}{v:α}(e:x=some v)(h:K v):EvO x K:=by rw[e];exact h
@[congr] theorem zn9{α:Type}{x y:Option α}{K:α->Prop}(h:x=y):EvO x K=EvO y K:=by rw[h]
def gdB(g:Value)(want:Bool)(x:Option Value):Option Value:=match g with
 | .bool b=>cond (b==want) x (some undef)
 | _=>some undef
def gdW(g:Value)(want:Bool)(x:R (Value×AH))(h:AH):R (Value×AH):=match g with
 | .bool b=>cond (b==want) x (one (undef,h))
 | _=>one (undef,h)
def zTp(all:List Oper)(j:Nat):Option Tmp:=match lnth all j with
 | some oj=>oj.dst
 | none=>none
def gdO(all:List Oper)(T:Tm)(o:Oper)(x:Option Value):Option Value:=match o.guard with
 | none=>x
 | some (j,want)=>match zTp all j with
  | some d=>gdB (T.get d) want x
  | none=>some undef
def gdR(all:List Oper)(T:Tm)(o:Oper)(x:R (Value×AH))(h:AH):R (Value×AH):=match o.guard with
 | none=>x
 | some (j,want)=>match zTp all j with
  | some d=>gdW (T.get d) want x h
  | none=>one (undef,h)
def zkc(T:Tm):List Nat->List (Nat×Value)
 | []=>[]
 | t::ts=>(t,T.get t)::zkc T ts
def zk:List (Nat×Value)->Tm
 | []=>⟨0,.e⟩
 | x::l=>(zk l).put x.1 x.2
def zPp(T:Tm):∀ {l:List Nat} {t:Nat},t∈l->(zk (zkc T l)).get t=T.get t
 | u::l,t,h=>by
  simp only[zkc,zk,Tm.get_put];by_cases e:t=u
  ·simp[e]
  ·rw[if_neg e];exact zPp T ((List.mem_cons.1 h).resolve_left e)
def zmv(T:Tm)(o:Oper):Tm:=zk (zkc T (zE6 o.op.operands.toList))
def zLp(T:Tm)(o:Oper):zMQ o.op.operands.toList (zmv T o) T:=fun _ ht=>zPp T (mem_tmpsOf.2 ht)
def zAE(c a b:Option Value):Option Value:=match c with
 | some (.bool t)=>cond t a b
 | _=>none
def zrw(op:BinOp):Bool:=match op with
 | .eql=>true
 | .neq=>true
 | _=>false
def zkP(op:BinOp):Bool:=match op with
 | .add=>true
 | .sub=>true
 | .mul=>true
 | .eql=>true
 | .neq=>true
 | .lss=>true
 | .leq=>true
 | .gtr=>true
 | .geq=>true
 | _=>false
def zWP(P:Env)(op:BinOp)(t:TypeId):Bool:=match und P t with
 | some (.int _)=>zkP op
 | some (.array _ _)=>zrw op
 | _=>false
section
variable (P:Env)
def zDe(T:Tm)(o:Oper):Option Value:=match o.op with
 | .move x=>zAl T x
 | .assign x=>zAl T x
 | .pick c a b=>zAE (zAl T c) (zAl T a) (zAl T b)
 | .nilCheck x=>zp (zAl T x)
 | .binOp op t x y _=>cond (zWP P op t) (zC P op t (rho T x) (rho T y)) (ze P (zmv T o) o)
 | .unOp .not _ x=>zAY .not (rho T x)
 | .extract x i=>zt i (zAl T x)
 | .build t ps=>zAu P t (zHE T ps.toList)
 | .field t x f=>zLi P t f (zAl T x)
 | .index t x i=>zDC P t (zAl T x) (zAl T i)
 | .fieldAddr t x f=>zD P t f (zAl T x)
 | .indexAddr t x i=>zE P t (zAl T x) (zAl T i)
 | .makeFunc fn fs cs=>zBB fn (zBl T fs.toList) (zBl T cs.toList)
 | _=>ze P (zmv T o) o
def zGk(T:Tm)(o:Oper)(h:AH):Option Value:=match o.op with
 | .load t a=>zH P t h (zAl T a)
 | .lookup t x k ok=>zBM P t ok (zAl T x) (zAl T k) h
 | .entry x=>zHr (zAl T x) h
 | _=>zQ P (zmv T o) o h
def zLJ(b:Builtin)(ts:List TypeId)(vs:List Value)(h:AH):R (Value×AH):=
  match b,vs,ts with
  | .append,[s,x],_=>v2 (zA8 P ts s x h)
  | .clear,[x],t::_=>zHZ P t x h
  | .copy,[d,s],t::_=>zTz P t d s h
  | .unsafeString,[p,n],t::_=>zB1 P t p n h
  | _,_,_=>none
def zAJ(b:Builtin)(ts:List TypeId)(vs:Option (List Value))(h:AH):R (Value×AH):=match vs with
 | some vs=>zLJ P b ts vs h
 | none=>none
def zF6(r:Rec)(T:Tm)(o:Oper)(h:AH):R (Value×AH):=match o.op with
 | .call c=>(match c.callee with
  | .builtin b=>zAJ P b c.argTypes.toList (zBl T c.args.toList) h
  | .value f=>zT r (zAl T f) (zBl T c.args.toList) h
  | _=>none)
 | _=>evWrite P r T o h
def zD6(T:Tm)(o:Oper)(h:AH):Option Value:=match cls o.op with
 | .pure=>zDe P T o
 | .read=>zGk P T o h
 | .write=>none
end
variable {P:Env}
def zIG{T:Tm}{o:Oper}{v:Value}(h:zDe P T o=some v):ze P T o=some v:=by
 have gen:ze P (zmv T o) o=some v->ze P T o=some v:=fun h=>by rw[← zFQ (zLp T o)];exact h
 unfold zDe at h;split at h
 case _ x e=>unfold ze;rw[e];exact h
 case _ x e=>unfold ze;rw[e];exact h
 case _ c a b e=>
  unfold ze;rw[e];unfold zAE at h;unfold AM.pPick;simp only;split at h
  ·rename_i t ht;rw[ht];cases t <;> exact h
  ·cases h
 case _ x e=>unfold ze;rw[e];exact h
 case _ op t x y c e=>
  cases hb:zWP P op t with
  | false=>rw[hb] at h;exact gen h
  | true=>
   rw[hb] at h;simp only[xAG] at h;unfold ze;rw[e];simp only[zig,h]
 case _ t x e=>
  unfold ze;rw[e];simp only[pUn,h]
 case _ x i e=>unfold ze;rw[e];exact h
 case _ t ps e=>unfold ze;rw[e];exact h
 case _ t x f e=>unfold ze;rw[e];exact h
 case _ t x i e=>unfold ze;rw[e];exact h
 case _ t x f e=>unfold ze;rw[e];exact h
 case _ t x i e=>unfold ze;rw[e];exact h
 case _ fn fs cs e=>unfold ze;rw[e];exact h
 case _=>exact gen h
def zFP{T:Tm}{o:Oper}{h:AH}{v:Value}(e:zGk P T o h=some v):zQ P T o h=some v:=by
 have gen:zQ P (zmv T o) o h=some v->zQ P T o h=some v:=fun e=>by rw[← zD5 (zLp T o)];exact e
 unfold zGk at e;split at e
 case _ t a eo=>unfold zQ;rw[eo];exact e
 case _ t x k ok eo=>unfold zQ;rw[eo];exact e
 case _ x eo=>unfold zQ;rw[eo];exact e
 case _=>exact gen e
def zL7{T:Tm}{o:Oper}{h:AH}{v:Value}(e:zD6 P T o h=some v):zDH P T o h=some v:=by
 unfold zD6 at e;unfold zDH;split at e
 ·rename_i hc;rw[hc];exact zIG e
 ·rename_i hc;rw[hc];exact zFP e
 ·cases e
def zIF(r:Rec)(T:Tm)(o:Oper)(h:AH):zF6 P r T o h=evWrite P r T o h:=by
 unfold zF6;split
 ·rename_i c e;unfold evWrite;rw[e];simp only[wCall];split
  ·rename_i b hb;rw[hb];unfold zAJ;cases zBl T c.args.toList with
   | none=>rfl
   | some vs=>
    simp only;unfold zLJ zEl;rfl
  ·rename_i f hf;rw[hf]
  ·rename_i h1 h2;split
   ·rename_i b hb;exact absurd hb (h1 b)
   ·rename_i f hf;exact absurd hf (h2 f)
   ·rfl
 ·rfl
def EvO.imp{α:Type}{x y:Option α}{K:α->Prop}(h:EvO x K)(hx:∀ v,x=some v->y=some v):EvO y K:=let ⟨_,e,k⟩:=h.ex;.of (hx _ e) k
def zVU{all:List Oper}{T:Tm}{o:Oper}{x y:Option Value}(hx:∀ v,x=some v->y=some v):∀ v,gdO all T o x=some v->gdO all T o y=some v:=by
 intro v h;unfold gdO gdB at h ⊢;cases hg:o.guard with
 | none=>rw[hg] at h;exact hx v h
 | some a=>
  rw[hg] at h;simp only at h ⊢;cases hd:zTp all a.1 with
  | none=>rw[hd] at h;exact h
  | some d=>
   rw[hd] at h;simp only at h ⊢;cases ht:T.get d with
   | bool b=>
    rw[ht] at h;simp only at h ⊢;cases hb:(b==a.2) with
    | true=>rw[hb] at h;exact hx v h
    | false=>rw[hb] at h;exact h
   | _=>rw[ht] at h;exact h
section
variable (P:Env) (r:Rec) (s:Bool)
def zTo(all:List Oper):List Oper->Tm->AH->(Tm->AH->Prop)->Prop
 | [],T,h,K=>K T h
 | o::rest,T,h,K=>match cls o.op with
  | .pure=>EvO (gdO all T o (zDe P T o)) fun v=>zTo all rest (putDst T o.dst v) h K
  | .read=>EvO (gdO all T o (zGk P T o h)) fun v=>zTo all rest (putDst T o.dst v) h K
  | .write=>Ev s (gdR all T o (zF6 P r T o h) h) fun x=>zTo all rest (putDst T o.dst x.1) x.2 K
def zij(t:Nat):List Nat->Bool
 | []=>false
 | a::aas=>Nat.beq a t||zij t aas
def subN(A B:List Nat):Bool:=A.all fun t=>zij t B
def zG2(all:List Oper)(o:Oper):List Tmp:=zE6 o.op.operands.toList++(match o.guard with|some (j,_)=>(zTp all j).toList|none=>[])
def zoq(d:Option Tmp)(A:List Nat):List Nat:=match d with|some d=>d::A|none=>A
def zUZ(all:List Oper):List Nat->List Oper->Option (List Nat)
 | A,[]=>some A
 | A,o::rest=>cond (subN (zG2 all o) A) (zUZ all (zoq o.dst A) rest) none
end
def memN_iff{t:Nat}:∀ {A:List Nat},zij t A=true ↔ t∈A
 | []=>by simp[zij]
 | a::aas=>by
  simp only[zij,Bool.or_eq_true,memN_iff (A:=aas),xAQ];constructor
  ·rintro (h|h)
   ·exact .inl (Nat.eq_of_beq_eq_true h).symm
   ·exact .inr h
  ·rintro (rfl|h)
   ·exact .inl (Nat.beq_refl _)
   ·exact .inr h
def subN_iff{A B:List Nat}:subN A B=true ↔ ∀ t∈A,t∈B:=by
 unfold subN;rw[List.all_eq_true];exact⟨fun h t ht=>memN_iff.1 (h t ht),fun h t ht=>memN_iff.2 (h t ht)⟩
variable {P:Env} {r:Rec} {s:Bool}
def zWb{A:List Nat}{T T':Tm}(H:zEj A T T')(d:Option Tmp)(v:Value):zEj (zoq d A) (putDst T d v) (putDst T' d v):=by
 unfold zoq putDst;cases d with
 | none=>exact H
 | some d=>
  intro t ht;simp only[Tm.get_put];by_cases e:t=d
  ·simp[e]
  ·rw[if_neg e,if_neg e];exact H t ((List.mem_cons.1 ht).resolve_left e)
def zjy{A:List Nat}{T T':Tm}{all:List Oper}{o:Oper}(H:zEj A T T')(hr:subN (zG2 all o) A=true):zMQ o.op.operands.toList T T':=
 fun t ht=>H t (subN_iff.1 hr t (List.mem_append_left _ (mem_tmpsOf.2 ht)))
def zHR{A:List Nat}{T T':Tm}{all:List Oper}{o:Oper}(H:zEj A T T')(hr:subN (zG2 all o) A=true){j:Nat}{w:Bool}(hg:o.guard=some (j,w)){d:Tmp}(hd:zTp all j=some d):T.get d=T'.get d:=
 H d (subN_iff.1 hr d (List.mem_append_right _ (by rw[hg];simp[hd])))
def zGJ{all:List Oper}{o:Oper}{T:Tm}:zC6 o all T=match o.guard with
  | none=>some true
  | some (j,want)=>match zTp all j with
   | some d=>(match T.get d with | .bool b=>some (b==want)|_=>some false)
   | none=>some false:=by
 unfold zC6 zTp;split
 ·rename_i h;rw[h]
 ·rename_i j w h;rw[h];simp only;cases hj:lnth all j with
  | none=>rfl
  | some oj=>cases hd:oj.dst <;> simp only[hd] <;> rfl
def zUn{all:List Oper}{D:List Nat}{K:Tm->AH->Prop}:∀ {ops:List Oper} {A A':List Nat} {T T':Tm} {h:AH},zUZ all A ops=some A'->zEj A T T'->zTo P r s all ops T' h K->
  Ev s (evOps P r all ops ⟨T,h,D⟩) fun st=>∃ T1,zEj A' st.T T1/\st.defs=D/\K T1 st.h
 | [],A,A',T,T',h,hA,H,hK=>by
  simp only[zUZ,xAN] at hA;subst hA;exact Ev.one ⟨T',H,rfl,hK⟩
 | o::rest,A,A',T,T',h,hA,H,hK=>by
  simp only[zUZ] at hA;cases hr:subN (zG2 all o) A with
  | false=>rw[hr] at hA;cases hA
  | true=>
   rw[hr] at hA;simp only[xAG] at hA;have aJ:=zjy H hr;have key:∀(v:Value) (h':AH),zTo P r s all rest (putDst T' o.dst v) h' K->Ev s (evOps P r all rest ⟨putDst T o.dst v,h',D⟩) fun st=>∃ T1,zEj A' st.T T1/\st.defs=D/\K T1 st.h:=
    fun v h' hk=>zUn hA (zWb H o.dst v) hk
   have run:Ev s (evOp P r T o h) (fun x=>zTo P r s all rest (putDst T' o.dst x.1) x.2 K)->Ev s (R.andThen (evOp P r T o h) fun x=>evOps P r all rest (zid T o.dst D x)) fun st=>∃ T1,zEj A' st.T T1/\st.defs=D/\K T1 st.h:=
    fun hx=>Ev.andThen (hx.mono fun x hx=>key x.1 x.2 hx)
   have quiet:∀ {x:Option Value},EvO x (fun v=>zTo P r s all rest (putDst T' o.dst v) h K)->Ev s (v1 x h) (fun x=>zTo P r s all rest (putDst T' o.dst x.1) x.2 K):=by
    intro x hx;obtain⟨v,rfl,hv⟩:=hx.ex;exact Ev.one hv
   have val:∀ {x:Option Value},(cls o.op=.pure\/cls o.op=.read)->evOp P r T o h=v1 x h->EvO (gdO all T' o x) (fun v=>zTo P r s all rest (putDst T' o.dst v) h K)->
     Ev s (evOps P r all (o::rest) ⟨T,h,D⟩) fun st=>∃ T1,zEj A' st.T T1/\st.defs=D/\K T1 st.h:=by
    intro x _ hx hk;simp only[evOps];rw[zGJ];unfold gdO at hk;split
    ·rename_i hw;refine run ?_;rw[hx];refine quiet ?_;split at hw
     ·rename_i hg;rw[hg] at hk;exact hk
     ·rename_i j w hg;rw[hg] at hk;simp only at hk;split at hw
      ·rename_i d hd;rw[hd] at hk;simp only at hk;rw[zHR H hr hg hd] at hw;split at hw
       ·rename_i b hb;rw[hb] at hk;simp only[xAN] at hw;simpa[gdB,hw] using hk
       ·cases hw
      ·cases hw
    ·rename_i hw;refine key undef h ?_;split at hw
     ·cases hw
     ·rename_i j w hg;rw[hg] at hk;simp only at hk;split at hw
      ·rename_i d hd;rw[hd] at hk;simp only at hk;rw[zHR H hr hg hd] at hw;split at hw
       ·rename_i b hb;rw[hb] at hk;simp only[xAN] at hw;simpa[gdB,hw,zA] using hk
       ·rename_i bR;have:gdB (T'.get d) w x=some undef:=by
         unfold gdB;split
         ·rename_i b hb;exact absurd hb (bR b)
         ·rfl
        rw[this,zA] at hk;exact hk
      ·rename_i hd;rw[hd] at hk;simpa[zA] using hk
    ·rename_i hw;split at hw
     ·cases hw
     ·split at hw
      ·split at hw <;> cases hw
      ·cases hw
   simp only[zTo] at hK;cases hc:cls o.op with
   | pure=>
    rw[hc] at hK;simp only at hK;have hK:=hK.imp (zVU fun v=>zIG);rw[← zFQ aJ] at hK;exact val (.inl hc) (by unfold evOp;rw[hc]) hK
   | read=>
    rw[hc] at hK;simp only at hK;have hK:=hK.imp (zVU fun v=>zFP);rw[← zD5 aJ] at hK;exact val (.inr hc) (by unfold evOp;rw[hc]) hK
   | write=>
    rw[hc] at hK;simp only at hK;rw[zIF,← zG7 aJ] at hK;have he:evOp P r T o h=evWrite P r T o h:=by unfold evOp;rw[hc]
    simp only[evOps];rw[zGJ];unfold gdR at hK;split
    ·rename_i hw;refine run ?_;rw[he];split at hw
     ·rename_i hg;rw[hg] at hK;exact hK
     ·rename_i j w hg;rw[hg] at hK;simp only at hK;split at hw
      ·rename_i d hd;rw[hd] at hK;simp only at hK;rw[zHR H hr hg hd] at hw;split at hw
       ·rename_i b hb;rw[hb] at hK;simp only[xAN] at hw;simpa[gdW,hw] using hK
       ·cases hw
      ·cases hw
    ·rename_i hw;refine key undef h ?_;split at hw
     ·cases hw
     ·rename_i j w hg;rw[hg] at hK;simp only at hK;split at hw
      ·rename_i d hd;rw[hd] at hK;simp only at hK;rw[zHR H hr hg hd] at hw;split at hw
       ·rename_i b hb;rw[hb] at hK;simp only[xAN] at hw;simpa[gdW,hw,zL] using hK
       ·rename_i bR;have:∀ y,gdW (T'.get d) w y h=one (undef,h):=by
         intro y;unfold gdW;split
         ·rename_i b hb;exact absurd hb (bR b)
         ·rfl
        rw[this,zL] at hK;exact hK
      ·rename_i hd;rw[hd] at hK;simpa[zL] using hK
    ·rename_i hw;split at hw
     ·cases hw
     ·split at hw
      ·split at hw <;> cases hw
      ·cases hw
end Go.AM
end
end
section
section
namespace Go.AM
open Go Go.Proofs
structure RdK where
 i:Nat
 T:Tm
 o:Oper
 v:Value
 g:Option (Value×Bool)
def gOf(all:List Oper)(T:Tm)(o:Oper):Option (Value×Bool):=match o.guard with
 | none=>none
 | some (j,w)=>match zTp all j with
  | some d=>some (T.get d,w)
  | none=>some (undef,w)
def gdG(g:Option (Value×Bool))(x:Option Value):Option Value:=match g with
 | none=>x
 | some (g,w)=>gdB g w x
def zIU(all:List Oper)(p:PO)(T:Tm)(v:Value)(rds:List RdK):List RdK:=match cls p.o.op with
 | .read=>⟨p.i,T,p.o,v,gOf all T p.o⟩::rds
 | _=>rds
def zGh(bef:Nat):List RdK->List RdK
 | []=>[]
 | r::rs=>cond (zCo bef r.i) (zGh bef rs) (r::zGh bef rs)
def zWc(p:PO)(rds:List RdK):List RdK:=match p.o.guard with
 | none=>zGh p.bef rds
 | some _=>rds
def zDA(done:Nat):List PO->List PO->List (PO×List PO)
 | _,[]=>[]
 | pre,p::ps=>cond (zBk p done) ((p,pre++ps)::zDA done (pre++[p]) ps) (zDA done (pre++[p]) ps)
def joinAll:List (R St)->R St
 | []=>some []
 | a::l=>joinR a (joinAll l)
def zVo:List Prop->Prop
 | []=>True
 | [a]=>a
 | a::b::l=>a/\zVo (b::l)
section
variable (P:Env) (r:Rec) (s:Bool)
def zGz(all:List Oper)(h:AH):List PO->Tm->Nat->List RdK->(Tm->Nat->List RdK->List PO->Prop)->Prop
 | [],T,done,rds,K=>K T done rds []
 | p::ps,T,done,rds,K=>
  cond (zBk p done&&!zGZ p.o.op)
   (EvO (gdO all T p.o (zD6 P T p.o h)) fun v=>zGz all h ps (putDst T p.o.dst v) (zCK done p.i) (zIU all p T v rds) K)
   (zGz all h ps T done rds fun T done rds rest=>K T done rds (p::rest))
def zea(bef:Nat)(h:AH):List RdK->Prop->Prop
 | [],K=>K
 | rd::rs,K=>cond (zCo bef rd.i) (zea bef h rs K) (EvO (gdG rd.g (zGk P rd.T rd.o h)) fun v=>veq 100 v rd.v=true/\zea bef h rs K)
def zRY(all:List Oper)(k:Tm->Nat->List RdK->List PO->AH->Prop)(p:PO)(T:Tm)(done:Nat)(rds:List RdK)(rest:List PO)(h:AH):Prop:=
 Ev s (gdR all T p.o (zF6 P r T p.o h) h) fun x=>zea P p.bef x.2 rds (k (putDst T p.o.dst x.1) (zCK done p.i) (zWc p rds) rest x.2)
def zJk(all:List Oper)(k:Tm->Nat->List RdK->List PO->AH->Prop)(T:Tm)(done:Nat)(rds:List RdK)(h:AH)(rest:List PO):Prop:=
 match zDA done [] rest with
 | []=>False
 | [x]=>zRY P r s all k x.1 T done rds x.2 h
 | l=>s=false/\zVo (l.map fun x=>zRY P r s all k x.1 T done rds x.2 h)
def zOb(all:List Oper)(K:Tm->AH->Prop):Nat->Tm->Nat->List RdK->List PO->AH->Prop
 | 0,_,_,_,_,_=>False
 | f+1,T,done,rds,rest,h=>zGz P all h rest T done rds fun T done rds rest=>match rest with
  | []=>K T h
  | p::ps=>zJk P r s all (zOb all K f) T done rds h (p::ps)
def zPW(T:Tm)(o:Oper):Option Value:=match o.guard with
 | some _=>none
 | none=>match o.op with
  | .move x=>zAl T x
  | .assign x=>zAl T x
  | _=>none
def zkA(all:List Oper):List Oper->Tm->AH->(Tm->AH->Prop)->Prop
 | [],T,h,K=>K T h
 | o::rest,T,h,K=>match zPW T o with
  | some v=>zkA all rest (putDst T o.dst v) h K
  | none=>match cls o.op with
   | .pure=>EvO (gdO all T o (zDe P T o)) fun v=>zkA all rest (putDst T o.dst v) h K
   | .read=>EvO (gdO all T o (zGk P T o h)) fun v=>zkA all rest (putDst T o.dst v) h K
   | .write=>Ev s (gdR all T o (zF6 P r T o h) h) fun x=>zkA all rest (putDst T o.dst x.1) x.2 K
def zJD(all:List Oper)(h:AH):List PO->Tm->Nat->List RdK->(Tm->Nat->List RdK->List PO->Prop)->Prop
 | [],T,done,rds,K=>K T done rds []
 | p::ps,T,done,rds,K=>
  cond (zBk p done&&!zGZ p.o.op)
   (match zPW T p.o with
    | some v=>zJD all h ps (putDst T p.o.dst v) (zCK done p.i) (zIU all p T v rds) K
    | none=>EvO (gdO all T p.o (zD6 P T p.o h)) fun v=>zJD all h ps (putDst T p.o.dst v) (zCK done p.i) (zIU all p T v rds) K)
   (zJD all h ps T done rds fun T done rds rest=>K T done rds (p::rest))
def ze2(all:List Oper)(K:Tm->AH->Prop):Nat->Tm->Nat->List RdK->List PO->AH->Prop
 | 0,_,_,_,_,_=>False
 | f+1,T,done,rds,rest,h=>zJD P all h rest T done rds fun T done rds rest=>match rest with
  | []=>K T h
  | p::ps=>zJk P r s all (ze2 all K f) T done rds h (p::ps)
def rdD(A:List Nat)(all:List Oper)(ps:List PO)(p:PO):Bool:=
 (zG2 all p.o).all fun t=>zij t A||ps.any fun q=>zCo p.dep q.i&&zBR q t
def chkD(A:List Nat)(all:List Oper):Bool:=(prep 0 [] all).all (rdD A all (prep 0 [] all))
def zOa:List Oper->List Nat->List Nat
 | [],A=>A
 | o::os,A=>zoq o.dst (zOa os A)
end
variable {P:Env} {r:Rec} {s:Bool}
def EvO.mono{α:Type}{x:Option α}{K K':α->Prop}(h:EvO x K)(hK:∀ a,K a->K' a):EvO x K':=let ⟨_,e,k⟩:=h.ex;.of e (hK _ k)
def zLn{all:List Oper}{T:Tm}{o:Oper}{v:Value}(hm:zPW T o=some v)(h:AH):cls o.op=.pure/\gdO all T o (zDe P T o)=some v/\gdO all T o (zD6 P T o h)=some v:=by
 unfold zPW at hm;split at hm
 ·cases hm
 ·rename_i hg;split at hm
  ·rename_i x hx;have hc:cls o.op=.pure:=by rw[hx];rfl
   have hp:zDe P T o=some v:=by unfold zDe;rw[hx];exact hm
   refine⟨hc,?_,?_⟩
   ·unfold gdO;rw[hg];exact hp
   ·unfold gdO zD6;rw[hg,hc];exact hp
  ·rename_i x hx;have hc:cls o.op=.pure:=by rw[hx];rfl
   have hp:zDe P T o=some v:=by unfold zDe;rw[hx];exact hm
   refine⟨hc,?_,?_⟩
   ·unfold gdO;rw[hg];exact hp
   ·unfold gdO zD6;rw[hg,hc];exact hp
  ·cases hm
def zFp{all:List Oper}:∀ {l:List Oper} {T:Tm} {h:AH} {K:Tm->AH->Prop},zkA P r s all l T h K->zTo P r s all l T h K
 | [],_,_,_,hh=>hh
 | o::rest,T,h,K,hh=>by
  simp only[zkA] at hh;simp only[zTo];split at hh
  ·rename_i v hv;obtain⟨a,b,_⟩:=zLn (P:=P) (all:=all) hv h;rw[a];simp only;rw[b];exact zFp hh
  ·split at hh
   ·rename_i hc;(try rw[hc]);exact EvO.mono hh fun _ k=>zFp k
   ·rename_i hc;(try rw[hc]);exact EvO.mono hh fun _ k=>zFp k
   ·rename_i hc;(try rw[hc]);exact Ev.mono hh fun _ k=>zFp k
def zEn{all:List Oper}{h:AH}:∀ {ps:List PO} {T:Tm} {done:Nat} {rds:List RdK} {K K':Tm->Nat->List RdK->List PO->Prop},(∀ T d r l,K T d r l->K' T d r l)->zJD P all h ps T done rds K->zGz P all h ps T done rds K'
 | [],_,_,_,_,_,hK,hh=>hK _ _ _ _ hh
 | p::ps,T,done,rds,K,K',hK,hh=>by
  simp only[zJD] at hh;simp only[zGz];cases hr:(zBk p done&&!zGZ p.o.op) with
  | false=>
   rw[hr] at hh;exact zEn (fun _ _ _ _ k=>hK _ _ _ _ k) hh
  | true=>
   rw[hr] at hh;simp only[xAG] at hh ⊢;split at hh
   ·rename_i v hv;rw[(zLn (P:=P) (all:=all) hv h).2.2];exact zEn hK hh
   ·exact EvO.mono hh fun _ k=>zEn hK k
def zHq{bef:Nat}{h:AH}{K K':Prop}(hK:K->K'):∀ {rs:List RdK},zea P bef h rs K->zea P bef h rs K'
 | [],hh=>hK hh
 | rd::rs,hh=>by
  simp only[zea] at hh ⊢;cases hb:zCo bef rd.i with
  | true=>rw[hb] at hh;exact zHq hK hh
  | false=>rw[hb] at hh;exact EvO.mono hh fun _ k=>⟨k.1,zHq hK k.2⟩
def zJt{α:Type}{f g:α->Prop}(h:∀ a,f a->g a):∀ {l:List α},zVo (l.map f)->zVo (l.map g)
 | [],hh=>hh
 | [a],hh=>h a hh
 | a::b::l,hh=>⟨h a hh.1,zJt h (l:=b::l) hh.2⟩
def zOP{all:List Oper}{k k':Tm->Nat->List RdK->List PO->AH->Prop}(hk:∀ T d r l h,k T d r l h->k' T d r l h){T:Tm}{done:Nat}{rds:List RdK}{h:AH}{rest:List PO}(hh:zJk P r s all k T done rds h rest):zJk P r s all k' T done rds h rest:=by
 have one:∀ x:PO×List PO,zRY P r s all k x.1 T done rds x.2 h->zRY P r s all k' x.1 T done rds x.2 h:=fun x hx=>Ev.mono hx fun _ kx=>zHq (hk _ _ _ _ _) kx;unfold zJk at hh ⊢;generalize zDA done [] rest=l at hh ⊢
 match l,hh with
 | [],hh=>exact hh
 | [x],hh=>exact one x hh
 | a::b::l,hh=>exact⟨hh.1,zJt one (l:=a::b::l) hh.2⟩
def zMC{all:List Oper}{K:Tm->AH->Prop}:∀ {f:Nat} {T:Tm} {done:Nat} {rds:List RdK} {rest:List PO} {h:AH},ze2 P r s all K f T done rds rest h->zOb P r s all K f T done rds rest h
 | 0,_,_,_,_,_,hh=>hh
 | f+1,T,done,rds,rest,h,hh=>by
  simp only[ze2] at hh;simp only[zOb];refine zEn (fun T d r l kk=>?_) hh;cases l with
  | nil=>exact kk
  | cons p ps=>exact zOP (fun _ _ _ _ _ k=>zMC k) kk
def zKr{all:List Oper}{k:DK}{T:Tm}{done:Nat}{rds:List Rd}{h:AH}:∀(ps pre:List PO),fires P r all k T done rds h pre ps=joinAll ((zDA done pre ps).map fun x=>fire P r all k x.1 T done rds x.2 h)
 | [],_=>rfl
 | p::ps,pre=>by
  simp only[fires,zDA];cases zBk p done with
  | true=>simp only[xAG,List.map_cons,joinAll];rw[zKr ps]
  | false=>simp only[xAH];rw[zKr ps]
def Ev.joinAll{Q:St->Prop}:∀ {l:List (R St)},l≠[]->(s=true->l.length=1)->(∀ x∈l,Ev s x Q)->Ev s (zLU (AM.joinAll l)) Q:=by
 have base:∀ {l:List (R St)},l≠[]->(s=true->l.length=1)->(∀ x∈l,Ev s x Q)->Ev s (AM.joinAll l) Q:=by
  intro l
  induction l with
  | nil=>intro h;exact absurd rfl h
  | cons x l ih=>
   intro _ h1 h2;obtain⟨a,e,k1,k2,k3⟩:=h2 x (by simp);cases l with
   | nil=>simp only[AM.joinAll,e,joinR,List.append_nil];exact⟨a,rfl,k1,k2,k3⟩
   | cons y l=>
    have hs:s=false:=by cases s with|false=>rfl|true=>have:=h1 rfl;simp at this
    obtain⟨b,e',_,_,j3⟩:=ih (by simp) (fun h=>by rw[hs] at h;cases h) fun z hz=>h2 z (by simp at hz ⊢;exact .inr hz);simp only[AM.joinAll] at e' ⊢;rw[e,e'];exact⟨a++b,rfl,by simp[k1],(fun h=>by rw[hs] at h;cases h),fun c hc=>(List.mem_append.1 hc).elim (k3 c) (j3 c)⟩
 intro l h1 h2 h3;obtain⟨a,e,k1,k2,k3⟩:=base h1 h2 h3;rw[e];cases a with
 | nil=>exact absurd rfl k1
 | cons x xs=>exact⟨x::xs,rfl,k1,k2,k3⟩
def zMD:∀ {l:List Prop},zVo l->∀ p∈l,p
 | [a],h,p,hp=>by simp at hp;rw[hp];exact h
 | a::b::l,h,p,hp=>by
  rcases List.mem_cons.1 hp with rfl|hp
  ·exact h.1
  ·exact zMD h.2 p hp
def zsS(A:List Nat)(PS:List PO)(done:Nat)(t:Nat):Prop:=t∈A\/∃ q∈PS,q.o.dst=some t/\done.testBit q.i=true
def AgreeD(A:List Nat)(PS:List PO)(done:Nat)(T T':Tm):Prop:=∀ t,zsS A PS done t->T.get t=T'.get t
inductive RdsR:List Rd->List RdK->Prop
 | nil:RdsR [] []
 | cons {i:Nat} {o:Oper} {v:Value} {g:Option (Value×Bool)} {T T':Tm} {l:List Rd} {l':List RdK} (h:zMQ o.op.operands.toList T T') (hg:∀ x,gdG g x=x) (hs:RdsR l l'):RdsR (⟨i,T,o,v⟩::l) (⟨i,T',o,v,g⟩::l')
 | skip {r:RdK} {l:List Rd} {l':List RdK} (hs:RdsR l l'):RdsR l (r::l')
def RdsR.after{l:List Rd}{l':List RdK}(H:RdsR l l')(bef:Nat):RdsR (zIT bef l) (zGh bef l'):=by
 induction H with
 | nil=>exact .nil
 | @cons i o v g T T' l l' h hg hs ih=>
  simp only[zIT,List.filter_cons,zGh];cases zCo bef i with
  | true=>exact ih
  | false=>exact .cons h hg ih
 | @skip r l l' hs ih=>
  simp only[zGh];cases zCo bef r.i with
  | true=>exact ih
  | false=>exact .skip ih
def RdsR.drop{l:List Rd}{l':List RdK}(H:RdsR l l')(bef:Nat):RdsR (zIT bef l) l':=by
 induction H with
 | nil=>exact .nil
 | @cons i o v g T T' l l' h hg hs ih=>
  simp only[zIT,List.filter_cons];cases zCo bef i with
  | true=>exact .skip ih
  | false=>exact .cons h hg ih
 | @skip r l l' hs ih=>exact .skip ih
def zUa{bef:Nat}{h:AH}{K:Prop}{l:List Rd}{l':List RdK}(H:RdsR l l')(hk:zea P bef h l' K):l.all (zmt P bef h)=true/\K:=by
 induction H with
 | nil=>exact⟨rfl,hk⟩
 | @cons i o v g T T' l l' hs hg _ ih=>
  simp only[zea] at hk;simp only[List.all_cons,xAP];cases hb:zCo bef i with
  | true=>
   rw[hb] at hk;obtain⟨a,b⟩:=ih hk;exact⟨⟨by simp[zmt,hb],a⟩,b⟩
  | false=>
   rw[hb] at hk;simp only[xAH] at hk;obtain⟨u,e,hv,hk⟩:=hk.ex;rw[hg] at e;have e:=zFP e;obtain⟨a,b⟩:=ih hk;exact⟨⟨by simp only[zmt,hb,Bool.false_or];rw[zD5 hs,e];exact hv,a⟩,b⟩
 | @skip r l l' _ ih=>
  simp only[zea] at hk;cases hb:zCo bef r.i with
  | true=>rw[hb] at hk;exact ih hk
  | false=>
   rw[hb] at hk;obtain⟨u,_,_,hk⟩:=hk.ex;exact ih hk
section
variable {A:List Nat} {all:List Oper} {PS:List PO}
def AgreeD.put{done:Nat}{T T':Tm}(H:AgreeD A PS done T T'){p:PO}(bp:∀ q∈PS,q.i=p.i->q.o=p.o)(v:Value):AgreeD A PS (zCK done p.i) (putDst T p.o.dst v) (putDst T' p.o.dst v):=by
 intro t ht;cases hd:p.o.dst with
 | none=>
  simp only[putDst];refine H t (ht.imp id ?_);rintro⟨q,q1,q2,q3⟩;refine⟨q,q1,q2,?_⟩;rw[zAP,Bool.or_eq_true,decide_eq_true_eq] at q3;rcases q3 with h|h
  ·exact h
  ·rw[bp q q1 h.symm,hd] at q2;cases q2
 | some d=>
  simp only[putDst,Tm.get_put];by_cases e:t=d
  ·simp[e]
  ·rw[if_neg e,if_neg e];refine H t (ht.imp id ?_);rintro⟨q,q1,q2,q3⟩;refine⟨q,q1,q2,?_⟩;rw[zAP,Bool.or_eq_true,decide_eq_true_eq] at q3;rcases q3 with h|h
   ·exact h
   ·rw[bp q q1 h.symm,hd] at q2;cases q2;exact absurd rfl e
def zPg{done:Nat}{T T':Tm}(H:AgreeD A PS done T T'){p:PO}(hr:zBk p done=true)(hc:rdD A all PS p=true):∀ t∈zG2 all p.o,T.get t=T'.get t:=by
 intro t ht;unfold rdD at hc;rw[List.all_eq_true] at hc;have:=hc t ht;simp only[Bool.or_eq_true] at this;rcases this with h|h
 ·exact H t (.inl (memN_iff.1 h))
 ·simp only[List.any_eq_true,xAP] at h;obtain⟨q,q1,q2,q3⟩:=h;rw[zFx] at q2;exact H t (.inr ⟨q,q1,writes_iff.1 q3,(zFn p done).1 hr _ q2⟩)
def zPK{T T':Tm}{o:Oper}(h:∀ t∈zG2 all o,T.get t=T'.get t):zMQ o.op.operands.toList T T':=fun t ht=>h t (List.mem_append_left _ (mem_tmpsOf.2 ht))
def zLz{T T':Tm}{o:Oper}(h:∀ t∈zG2 all o,T.get t=T'.get t){j:Nat}{w:Bool}(hg:o.guard=some (j,w)){d:Tmp}(hd:zTp all j=some d):T.get d=T'.get d:=
 h d (List.mem_append_right _ (by rw[hg];simp[hd]))
def zL6{o:Oper}{T T':Tm}(H:zMQ o.op.operands.toList T T')(h:AH):zDH P T o h=zDH P T' o h:=by
 unfold zDH;split
 ·exact zFQ H
 ·exact zD5 H h
 ·rfl
def RdsR.add{p:PO}{T T':Tm}(H:zMQ p.o.op.operands.toList T T')(v:Value){l:List Rd}{l':List RdK}(h:RdsR l l')(hg:∀ x,gdG (gOf all T' p.o) x=x):RdsR (zRi p T v l) (zIU all p T' v l'):=by
 unfold zRi zIU;cases cls p.o.op with
 | read=>exact .cons H hg h
 | _=>exact h
def RdsR.add0{p:PO}{T':Tm}(v:Value){l:List Rd}{l':List RdK}(h:RdsR l l'):RdsR l (zIU all p T' v l'):=by
 unfold zIU;cases cls p.o.op with
 | read=>exact .skip h
 | _=>exact h
def zkd{T:Tm}{o:Oper}(x:Option Value):gdO all T o x=gdG (gOf all T o) x:=by
 unfold gdO gOf;cases o.guard with
 | none=>rfl
 | some y=>
  simp only;cases zTp all y.1 <;> rfl
def zGw{T T':Tm}{o:Oper}(hT:∀ j w d,o.guard=some (j,w)->zTp all j=some d->T.get d=T'.get d) :
  (zC6 o all T=some true/\(∀ x,gdG (gOf all T' o) x=x)/\∀ x h,gdR all T' o x h=x) ∨
  (zC6 o all T=some false/\(∀ x,gdG (gOf all T' o) x=some undef)/\(∀ x h,gdR all T' o x h=one (undef,h))/\o.guard.isSome=true):=by
 rw[zGJ];unfold gOf gdR;cases hg:o.guard with
 | none=>exact .inl ⟨rfl,fun _=>rfl,fun _ _=>rfl⟩
 | some y=>
  simp only;cases hd:zTp all y.1 with
  | none=>exact .inr ⟨rfl,fun _=>rfl,fun _ _=>rfl,rfl⟩
  | some d=>
   have:=hT y.1 y.2 d hg hd;simp only;rw[this];cases hb:T'.get d with
   | bool b=>
    cases gG:(b==y.2) with
    | true=>exact .inl ⟨by simp[gG],fun x=>by simp[gdG,gdB,gG],fun x h=>by simp[gdW,gG]⟩
    | false=>exact .inr ⟨by simp[gG],fun x=>by simp[gdG,gdB,gG],fun x h=>by simp[gdW,gG],rfl⟩
   | _=>exact .inr ⟨rfl,fun _=>rfl,fun _ _=>rfl,rfl⟩
def zHe(bp:∀ p∈PS,∀ q∈PS,q.i=p.i->q.o=p.o)(hc:∀ p∈PS,rdD A all PS p=true){h:AH}:∀ {ps:List PO} {T T':Tm} {done:Nat} {rds:List Rd} {rds':List RdK} {K:Tm->Nat->List RdK->List PO->Prop},
  (∀ p∈ps,p∈PS)->AgreeD A PS done T T'->RdsR rds rds'->zGz P all h ps T' done rds' K->
  ∃ sw T1 rds1,zHf P all h ps T done rds=some sw/\AgreeD A PS sw.done sw.T T1/\RdsR sw.rds rds1/\K T1 sw.done rds1 sw.rest/\(∀ p∈ps,p∈sw.rest\/sw.done.testBit p.i=true)/\(∀ i,done.testBit i=true->sw.done.testBit i=true)/\∀ p∈sw.rest,p∈ps
 | [],T,T',done,rds,rds',K,_,H,hr,hk=>⟨⟨T,done,rds,[]⟩,T',rds',rfl,H,hr,hk,by simp,fun _ h=>h,by simp⟩
 | p::ps,T,T',done,rds,rds',K,cq,H,hr,hk=>by
  have hpP:=cq p (by simp);have jf:∀ q∈ps,q∈PS:=fun q hq=>cq q (by simp[hq]);simp only[zGz] at hk;simp only[zHf];cases dK:(zBk p done&&!zGZ p.o.op) with
  | false=>
   rw[dK] at hk;simp only[xAH] at hk ⊢;obtain⟨sw,T1,rds1,e,k1,k2,k3,k4,k5,k6⟩:=zHe bp hc jf H hr hk;rw[e];refine⟨_,T1,rds1,rfl,k1,k2,k3,?_,k5,?_⟩
   ·intro q hq;rcases List.mem_cons.1 hq with rfl|hq
    ·exact .inl (by simp)
    ·exact (k4 q hq).imp (fun h=>by simp[h]) id
   ·intro q hq;rcases List.mem_cons.1 hq with rfl|hq
    ·simp
    ·simp[k6 q hq]
  | true=>
   rw[dK] at hk;simp only[xAG] at hk ⊢;have br:zBk p done=true:=by simp only[xAP] at dK;exact dK.1
   have eL:=zPg H br (hc p hpP);have hs:=zPK eL;have next:∀(v:Value) (rds2:List Rd) (rds2':List RdK),RdsR rds2 rds2'->zGz P all h ps (putDst T' p.o.dst v) (zCK done p.i) rds2' K->
     ∃ sw T1 rds1,zHf P all h ps (putDst T p.o.dst v) (zCK done p.i) rds2=some sw/\AgreeD A PS sw.done sw.T T1/\RdsR sw.rds rds1/\K T1 sw.done rds1 sw.rest/\(∀ q∈p::ps,q∈sw.rest\/sw.done.testBit q.i=true)/\(∀ i,done.testBit i=true->sw.done.testBit i=true)/\∀ q∈sw.rest,q∈p::ps:=by
    intro v rds2 rds2' h2 hk2;obtain⟨sw,T1,rds1,e,k1,k2,k3,k4,k5,k6⟩:=zHe bp hc jf (H.put (bp p hpP) v) h2 hk2;refine⟨sw,T1,rds1,e,k1,k2,k3,?_,fun i hi=>k5 i (by rw[zAP,hi];rfl),fun q hq=>by simp[k6 q hq]⟩;intro q hq;rcases List.mem_cons.1 hq with rfl|hq
    ·exact .inr (k5 _ (by rw[zAP];simp))
    ·exact k4 q hq
   obtain⟨v,e,hv⟩:=hk.ex;rw[zkd] at e;rcases zGw (T:=T) (T':=T') (o:=p.o) (all:=all) (fun j w d hg hd=>zLz eL hg hd) with ⟨hw,hg,_⟩|⟨hw,hg,_⟩
   ·rw[hg] at e;have e:=zL7 e;rw[hw];simp only;rw[zL6 hs,e];exact next v _ _ (hr.add hs v hg) hv
   ·rw[hg] at e;cases e;rw[hw];exact next undef _ _ (hr.add0 undef) hv
def zH5{done:Nat}:∀ {ps pre:List PO} {x:PO×List PO},x∈zDA done pre ps->x.1∈ps/\zBk x.1 done=true/\(∀ q,q∈x.2->q∈pre\/q∈ps)/\∀ q,(q∈pre\/q∈ps)->q=x.1\/q∈x.2
 | [],_,x,h=>by cases h
 | p::ps,pre,x,h=>by
  simp only[zDA] at h;have rec':x∈zDA done (pre++[p]) ps->x.1∈p::ps/\zBk x.1 done=true/\(∀ q,q∈x.2->q∈pre\/q∈p::ps)/\∀ q,(q∈pre\/q∈p::ps)->q=x.1\/q∈x.2:=by
   intro h;obtain⟨a,b,c,d⟩:=zH5 h;refine⟨by simp[a],b,fun q hq=>?_,fun q hq=>?_⟩
   ·rcases c q hq with h|h
    ·simp at h;rcases h with h|h
     ·exact .inl h
     ·exact .inr (by simp[h])
    ·exact .inr (by simp[h])
   ·refine d q ?_;rcases hq with h|h
    ·exact .inl (by simp[h])
    ·rcases List.mem_cons.1 h with rfl|h
     ·exact .inl (by simp)
     ·exact .inr h
  cases hr:zBk p done with
  | false=>rw[hr] at h;exact rec' h
  | true=>
   rw[hr] at h;simp only[xAG] at h;rcases List.mem_cons.1 h with rfl|h
   ·refine⟨by simp,hr,fun q hq=>?_,fun q hq=>?_⟩
    ·simp at hq;rcases hq with h|h
     ·exact .inl h
     ·exact .inr (by simp[h])
    ·rcases hq with h|h
     ·exact .inr (by simp[h])
     ·rcases List.mem_cons.1 h with rfl|h
      ·exact .inl rfl
      ·exact .inr (by simp[h])
   ·exact rec' h
def zIK{t:Nat}:∀ {os:List Oper},t∈zOa os A->t∈A\/∃ o∈os,o.dst=some t
 | [],h=>.inl h
 | o::os,h=>by
  simp only[zOa,zoq] at h;split at h
  ·rename_i d hd;rcases List.mem_cons.1 h with rfl|h
   ·exact .inr ⟨o,by simp,hd⟩
   ·rcases zIK h with h|⟨q,a,b⟩
    ·exact .inl h
    ·exact .inr ⟨q,by simp[a],b⟩
  ·rcases zIK h with h|⟨q,a,b⟩
   ·exact .inl h
   ·exact .inr ⟨q,by simp[a],b⟩
def zP0(bp:∀ p∈PS,∀ q∈PS,q.i=p.i->q.o=p.o)(aB:∀ o∈all,∃ p∈PS,p.o=o)(hc:∀ p∈PS,rdD A all PS p=true){D:List Nat}{K:Tm->AH->Prop} :
  ∀ {f:Nat} {T T':Tm} {done:Nat} {rds:List Rd} {rds':List RdK} {rest:List PO} {h:AH},(∀ p∈rest,p∈PS)->(∀ p∈PS,p∈rest\/done.testBit p.i=true)->AgreeD A PS done T T'->RdsR rds rds'->
  zOb P r s all K f T' done rds' rest h->Ev s (drawRun P r all D f T done rds rest h) fun st=>∃ T1,zEj (zOa all A) st.T T1/\st.defs=D/\K T1 st.h
 | 0,_,_,_,_,_,_,_,_,_,_,_,hk=>hk.elim
 | f+1,T,T',done,rds,rds',rest,h,bQ,hinv,H,hr,hk=>by
  simp only[zOb] at hk;simp only[drawRun];obtain⟨sw,T1,rds1,e,k1,k2,k3,k4,k5,k6⟩:=zHe bp hc bQ H hr hk;rw[e];simp only;have gh:∀ p∈PS,p∈sw.rest\/sw.done.testBit p.i=true:=fun p hp=>(hinv p hp).elim (fun h=>k4 p h) fun h=>.inr (k5 _ h);cases d9:sw.rest with
  | nil=>
   rw[d9] at k3;refine Ev.one ⟨T1,?_,rfl,k3⟩;intro t ht;refine k1 t ?_;rcases zIK ht with h|⟨o,ho,hd⟩
   ·exact .inl h
   ·obtain⟨p,hp,rfl⟩:=aB o ho;refine .inr ⟨p,hp,hd,?_⟩;rcases gh p hp with h|h
    ·rw[d9] at h;cases h
    ·exact h
  | cons p0 ps0=>
   rw[d9] at k3;simp only at k3 ⊢;rw[zKr];have fire1:∀ x∈zDA sw.done [] (p0::ps0),zRY P r s all (zOb P r s all K f) x.1 T1 sw.done rds1 x.2 h->Ev s (fire P r all (drawRun P r all D f) x.1 sw.T sw.done sw.rds x.2 h) fun st=>∃ T1,zEj (zOa all A) st.T T1/\st.defs=D/\K T1 st.h:=by
    intro x hx hk;obtain⟨m1,m2,m3,m4⟩:=zH5 hx;have hxP:x.1∈PS:=bQ _ (k6 _ (by rw[d9];exact m1));have df:=zPg k1 m2 (hc _ hxP);have hs:=zPK df;have sub:∀ p∈x.2,p∈PS:=fun p hp=>by
     rcases m3 p hp with h|h
     ·cases h
     ·exact bQ _ (k6 _ (by rw[d9];exact h))
    have inv2:∀ p∈PS,p∈x.2\/(zCK sw.done x.1.i).testBit p.i=true:=fun p hp=>by
     rcases gh p hp with h|h
     ·rw[d9] at h;rcases m4 p (.inr h) with rfl|h
      ·exact .inr (by rw[zAP];simp)
      ·exact .inl h
     ·exact .inr (by rw[zAP,h];rfl)
    have go:∀(v:Value) (h':AH) (l:List Rd) (l':List RdK),RdsR l l'->zOb P r s all K f (putDst T1 x.1.o.dst v) (zCK sw.done x.1.i) l' x.2 h'->
      Ev s (drawRun P r all D f (putDst sw.T x.1.o.dst v) (zCK sw.done x.1.i) l x.2 h') fun st=>∃ T1,zEj (zOa all A) st.T T1/\st.defs=D/\K T1 st.h:=
     fun v h' l l' hl hk=>zP0 bp aB hc sub inv2 (k1.put (bp _ hxP) v) hl hk
    unfold zRY at hk;rcases zGw (T:=sw.T) (T':=T1) (o:=x.1.o) (all:=all) (fun j w d hg hd=>zLz df hg hd) with ⟨hw,_,hg⟩|⟨hw,_,hg,jr⟩
    ·rw[hg] at hk;unfold fire;rw[hw];simp only;rw[zG7 hs,← zIF];refine Ev.andThen (hk.mono fun y hy=>?_);obtain⟨q1,q2⟩:=zUa k2 hy;unfold zVa;rw[q1];refine go y.1 y.2 _ _ ?_ q2;unfold zWc;split
     ·exact k2.after _
     ·exact k2.drop _
    ·rw[hg,zL] at hk;obtain⟨_,q2⟩:=zUa k2 hk;unfold fire;rw[hw];refine go undef h _ _ ?_ q2;unfold zWc;split
     ·rename_i hn;rw[hn] at jr;cases jr
     ·exact k2
   unfold zJk at k3;cases hl:zDA sw.done [] (p0::ps0) with
   | nil=>rw[hl] at k3;exact k3.elim
   | cons x l=>
    refine Ev.joinAll (by simp) ?_ ?_
    ·intro hs;rw[hl] at k3;cases l with
     | nil=>rfl
     | cons y l=>simp only at k3;rw[hs] at k3;cases k3.1
    ·intro z hz;simp only[List.mem_map] at hz;obtain⟨y,hy,rfl⟩:=hz;refine fire1 y (by rw[hl];exact hy) ?_;rw[hl] at k3;cases l with
     | nil=>simp at hy;subst hy;exact k3
     | cons x' l=>exact zMD k3.2 _ (List.mem_map.2 ⟨y,hy,rfl⟩)
end
end Go.AM
end
end
section
section
namespace Go.AM
open Go Go.Proofs
def sub:Code->List Nat->Code
 | c,[]=>c
 | .seq a b,i::p=>cond (Nat.beq i 0) (sub a p) (sub b p)
 | .cond _ a b,i::p=>cond (Nat.beq i 0) (sub a p) (sub b p)
 | .block _ c,_::p=>sub c p
 | .loop c,_::p=>sub c p
 | _,_::_=>.skip
section
variable (P:Env) (s:Bool) (ro:Option Nat)
def ctx:Code->List Nat->(Out->Prop)->Out->Prop
 | _,[],Q=>Q
 | .seq a b,i::p,Q=>cond (Nat.beq i 0) (ctx a p fun o=>Ev s (thenC (evC P (zV P) ro b) o) Q) (ctx b p Q)
 | .cond _ a b,i::p,Q=>cond (Nat.beq i 0) (ctx a p Q) (ctx b p Q)
 | .block id c,_::p,Q=>ctx c p fun o=>Ev s (zDY id o) Q
 | .loop c,_::p,Q=>ctx c p fun o=>Ev s (thenC ((zV P).loop ro c) o) Q
 | _,_::_,_=>fun _=>False
def At(B:Code)(Q:Out->Prop)(p:List Nat)(st:St):Prop:=Ev s (evC P (zV P) ro (sub B p) st) (ctx P s ro B p Q)
end
inductive Wh where
 | fin
 | at (p:List Nat)
 | out
 | bad
def Wh.push(i:Nat):Wh->Wh
 | .at p=>.at (i::p)
 | w=>w
def Wh.finAt(p:List Nat):Wh->Wh
 | .fin=>.at p
 | w=>w
def nx:Code->List Nat->Wh
 | _,[]=>.fin
 | .seq a b,i::p=>cond (Nat.beq i 0) (((nx a p).push 0).finAt [1]) ((nx b p).push 1)
 | .cond _ a b,i::p=>cond (Nat.beq i 0) ((nx a p).push 0) ((nx b p).push 1)
 | .block _ c,_::p=>(nx c p).push 0
 | .loop c,_::p=>((nx c p).push 0).finAt []
 | _,_::_=>.bad
def Wh.endAt(b:Bool):Wh->Wh
 | .out=>cond b .fin .out
 | w=>w
def xt(id:Nat):Code->List Nat->Wh
 | _,[]=>.out
 | .seq a b,i::p=>cond (Nat.beq i 0) (((xt id a p).push 0).finAt [1]) ((xt id b p).push 1)
 | .cond _ a b,i::p=>cond (Nat.beq i 0) ((xt id a p).push 0) ((xt id b p).push 1)
 | .block id' c,_::p=>((xt id c p).push 0).endAt (Nat.beq id id')
 | .loop c,_::p=>((xt id c p).push 0).finAt []
 | _,_::_=>.bad
section
variable {P:Env} {s:Bool} {ro:Option Nat}
def AtW(P:Env)(s:Bool)(ro:Option Nat)(B:Code)(Q:Out->Prop)(w:Wh)(st:St):Prop:=match w with
 | .fin=>Q ⟨.normal,st⟩
 | .at p=>At P s ro B Q p st
 | _=>False
def b10:Nat.beq 1 0=false:=rfl
def b00:Nat.beq 0 0=true:=rfl
def zI1:∀(c:Code) (p:List Nat) (Q:Out->Prop) (st:St),AtW P s ro c Q (nx c p) st->ctx P s ro c p Q ⟨.normal,st⟩
 | c,[],Q,st,h=>by simp only[nx] at h;simp only[ctx];exact h
 | .seq a b,i::p,Q,st,h=>by
  simp only[nx] at h;simp only[ctx];cases hi:Nat.beq i 0 with
  | true=>
   simp only[hi,xAG] at h ⊢;refine zI1 a p _ st ?_;generalize nx a p=w at h;cases w with
   | fin=>
    show Ev s (evC P (zV P) ro b st) Q;simpa only[Wh.push,Wh.finAt,AtW,At,sub,ctx,b10,xAH] using h
   | «at» q=>exact h
   | _=>exact h.elim
  | false=>
   simp only[hi,xAH] at h ⊢;refine zI1 b p Q st ?_;generalize nx b p=w at h;cases w with
   | fin=>exact h
   | «at» q=>exact h
   | _=>exact h.elim
 | .cond _ a b,i::p,Q,st,h=>by
  simp only[nx] at h;simp only[ctx];cases hi:Nat.beq i 0 with
  | true=>
   simp only[hi,xAG] at h ⊢;refine zI1 a p Q st ?_;generalize nx a p=w at h;cases w with
   | fin=>exact h
   | «at» q=>exact h
   | _=>exact h.elim
  | false=>
   simp only[hi,xAH] at h ⊢;refine zI1 b p Q st ?_;generalize nx b p=w at h;cases w with
   | fin=>exact h
   | «at» q=>exact h
   | _=>exact h.elim
 | .block id c,i::p,Q,st,h=>by
  simp only[nx] at h;simp only[ctx];refine zI1 c p _ st ?_;generalize nx c p=w at h;cases w with
  | fin=>exact Ev.one h
  | «at» q=>exact h
  | _=>exact h.elim
 | .loop c,i::p,Q,st,h=>by
  simp only[nx] at h;simp only[ctx];refine zI1 c p _ st ?_;generalize nx c p=w at h;cases w with
  | fin=>
   show Ev s ((zV P).loop ro c st) Q;rw[zUt];exact h
  | «at» q=>exact h
  | _=>exact h.elim
 | .skip,_::_,_,_,h=>by simp[nx,AtW] at h
 | .region ..,_::_,_,_,h=>by simp[nx,AtW] at h
 | .rangeFunc ..,_::_,_,_,h=>by simp[nx,AtW] at h
 | .exit _,_::_,_,_,h=>by simp[nx,AtW] at h
 | .scope _,_::_,_,_,h=>by simp[nx,AtW] at h
 | .label _,_::_,_,_,h=>by simp[nx,AtW] at h
 | .goto _,_::_,_,_,h=>by simp[nx,AtW] at h
 | .ret,_::_,_,_,h=>by simp[nx,AtW] at h
 | .refuse _,_::_,_,_,h=>by simp[nx,AtW] at h
def AtX(P:Env)(s:Bool)(ro:Option Nat)(B:Code)(Q:Out->Prop)(id:Nat)(w:Wh)(st:St):Prop:=match w with
 | .out=>Q ⟨.exit id,st⟩
 | w=>AtW P s ro B Q w st
def zLF(id:Nat):∀(c:Code) (p:List Nat) (Q:Out->Prop) (st:St),AtX P s ro c Q id (xt id c p) st->ctx P s ro c p Q ⟨.exit id,st⟩
 | c,[],Q,st,h=>by simp only[xt] at h;simp only[ctx];exact h
 | .seq a b,i::p,Q,st,h=>by
  simp only[xt] at h;simp only[ctx];cases hi:Nat.beq i 0 with
  | true=>
   simp only[hi,xAG] at h ⊢;refine zLF id a p _ st ?_;generalize xt id a p=w at h;cases w with
   | fin=>
    show Ev s (evC P (zV P) ro b st) Q;simpa only[Wh.push,Wh.finAt,AtX,AtW,At,sub,ctx,b10,xAH] using h
   | «at» q=>exact h
   | out=>exact Ev.one h
   | bad=>exact h.elim
  | false=>
   simp only[hi,xAH] at h ⊢;refine zLF id b p Q st ?_;generalize xt id b p=w at h;cases w with
   | fin=>exact h
   | «at» q=>exact h
   | out=>exact h
   | bad=>exact h
 | .cond _ a b,i::p,Q,st,h=>by
  simp only[xt] at h;simp only[ctx];cases hi:Nat.beq i 0 with
  | true=>
   simp only[hi,xAG] at h ⊢;refine zLF id a p Q st ?_;generalize xt id a p=w at h;cases w with
   | fin=>exact h
   | «at» q=>exact h
   | out=>exact h
   | bad=>exact h
  | false=>
   simp only[hi,xAH] at h ⊢;refine zLF id b p Q st ?_;generalize xt id b p=w at h;cases w with
   | fin=>exact h
   | «at» q=>exact h
   | out=>exact h
   | bad=>exact h
 | .block id' c,i::p,Q,st,h=>by
  simp only[xt] at h;simp only[ctx];refine zLF id c p _ st ?_;generalize xt id c p=w at h;cases w with
  | fin=>exact Ev.one h
  | «at» q=>exact h
  | out=>
   show Ev s (zDY id' ⟨.exit id,st⟩) Q;unfold zDY;cases hid:Nat.beq id id' with
   | true=>
    simp only[Wh.push,Wh.endAt,hid,xAG] at h;simp only[hid,xAG];exact Ev.one h
   | false=>
    simp only[Wh.push,Wh.endAt,hid,xAH] at h;simp only[hid,xAH];exact Ev.one h
  | bad=>exact h.elim
 | .loop c,i::p,Q,st,h=>by
  simp only[xt] at h;simp only[ctx];refine zLF id c p _ st ?_;generalize xt id c p=w at h;cases w with
  | fin=>
   show Ev s ((zV P).loop ro c st) Q;rw[zUt];exact h
  | «at» q=>exact h
  | out=>exact Ev.one h
  | bad=>exact h.elim
 | .skip,_::_,_,_,h=>h.elim
 | .region ..,_::_,_,_,h=>h.elim
 | .rangeFunc ..,_::_,_,_,h=>h.elim
 | .exit _,_::_,_,_,h=>h.elim
 | .scope _,_::_,_,_,h=>h.elim
 | .label _,_::_,_,_,h=>h.elim
 | .goto _,_::_,_,_,h=>h.elim
 | .ret,_::_,_,_,h=>h.elim
 | .refuse _,_::_,_,_,h=>h.elim
def zHn:∀(c:Code) (p:List Nat) (Q:Out->Prop) (st:St),sub c p=.ret->Q ⟨.ret,st⟩->ctx P s ro c p Q ⟨.ret,st⟩
 | c,[],Q,st,_,h=>by simp only[ctx];exact h
 | .seq a b,i::p,Q,st,hs,h=>by
  simp only[ctx,sub] at hs ⊢;cases hi:Nat.beq i 0 with
  | true=>rw[hi] at hs;exact zHn a p _ st hs (Ev.one h)
  | false=>rw[hi] at hs;exact zHn b p Q st hs h
 | .cond _ a b,i::p,Q,st,hs,h=>by
  simp only[ctx,sub] at hs ⊢;cases hi:Nat.beq i 0 with
  | true=>rw[hi] at hs;exact zHn a p _ st hs h
  | false=>rw[hi] at hs;exact zHn b p Q st hs h
 | .block id' c,i::p,Q,st,hs,h=>by
  simp only[ctx,sub] at hs ⊢;exact zHn c p _ st hs (Ev.one h)
 | .loop c,i::p,Q,st,hs,h=>by
  simp only[ctx,sub] at hs ⊢;exact zHn c p _ st hs (Ev.one h)
 | .skip,_::_,_,_,h,_=>by simp[sub] at h
 | .region ..,_::_,_,_,h,_=>by simp[sub] at h
 | .rangeFunc ..,_::_,_,_,h,_=>by simp[sub] at h
 | .exit _,_::_,_,_,h,_=>by simp[sub] at h
 | .scope _,_::_,_,_,h,_=>by simp[sub] at h
 | .label _,_::_,_,_,h,_=>by simp[sub] at h
 | .goto _,_::_,_,_,h,_=>by simp[sub] at h
 | .ret,_::_,_,_,h,_=>by simp[sub] at h
 | .refuse _,_::_,_,_,h,_=>by simp[sub] at h
def zCw:∀(c:Code) (p q:List Nat),sub c (p++q)=sub (sub c p) q
 | c,[],q=>by simp[sub]
 | .seq a b,i::p,q=>by
  simp only[sub,List.cons_append];cases Nat.beq i 0 <;> simp[zCw]
 | .cond _ a b,i::p,q=>by
  simp only[sub,List.cons_append];cases Nat.beq i 0 <;> simp[zCw]
 | .block _ c,i::p,q=>by simp only[sub,List.cons_append];exact zCw c p q
 | .loop c,i::p,q=>by simp only[sub,List.cons_append];exact zCw c p q
 | .skip,_::_,q=>by cases q <;> rfl
 | .region ..,_::_,q=>by cases q <;> rfl
 | .rangeFunc ..,_::_,q=>by cases q <;> rfl
 | .exit _,_::_,q=>by cases q <;> rfl
 | .scope _,_::_,q=>by cases q <;> rfl
 | .label _,_::_,q=>by cases q <;> rfl
 | .goto _,_::_,q=>by cases q <;> rfl
 | .ret,_::_,q=>by cases q <;> rfl
 | .refuse _,_::_,q=>by cases q <;> rfl
def zBz:∀(c:Code) (p q:List Nat) (Q:Out->Prop),sub c p≠.skip->ctx P s ro c (p++q) Q=ctx P s ro (sub c p) q (ctx P s ro c p Q)
 | c,[],q,Q,_=>by simp[sub,ctx]
 | .seq a b,i::p,q,Q,h=>by
  simp only[sub,List.cons_append,ctx] at h ⊢;cases hi:Nat.beq i 0 with
  | true=>rw[hi] at h;simp only[xAG] at h ⊢;exact zBz a p q _ h
  | false=>rw[hi] at h;simp only[xAH] at h ⊢;exact zBz b p q _ h
 | .cond _ a b,i::p,q,Q,h=>by
  simp only[sub,List.cons_append,ctx] at h ⊢;cases hi:Nat.beq i 0 with
  | true=>rw[hi] at h;simp only[xAG] at h ⊢;exact zBz a p q _ h
  | false=>rw[hi] at h;simp only[xAH] at h ⊢;exact zBz b p q _ h
 | .block _ c,i::p,q,Q,h=>by simp only[sub,List.cons_append,ctx] at h ⊢;exact zBz c p q _ h
 | .loop c,i::p,q,Q,h=>by simp only[sub,List.cons_append,ctx] at h ⊢;exact zBz c p q _ h
 | .skip,_::_,q,_,h=>absurd rfl h
 | .region ..,_::_,q,_,h=>absurd rfl h
 | .rangeFunc ..,_::_,q,_,h=>absurd rfl h
 | .exit _,_::_,q,_,h=>absurd rfl h
 | .scope _,_::_,q,_,h=>absurd rfl h
 | .label _,_::_,q,_,h=>absurd rfl h
 | .goto _,_::_,q,_,h=>absurd rfl h
 | .ret,_::_,q,_,h=>absurd rfl h
 | .refuse _,_::_,q,_,h=>absurd rfl h
def rs(B:Code):Nat->Wh->Wh
 | 0,w=>w
 | n+1,.at q=>match sub B q with
  | .seq _ _=>rs B n (.at (q++[0]))
  | .block _ _=>rs B n (.at (q++[0]))
  | .loop _=>rs B n (.at (q++[0]))
  | .label _=>rs B n (nx B q)
  | .exit id=>(match xt id B q with
   | .out=>.at q
   | w=>rs B n w)
  | .skip=>rs B n (nx B q)
  | _=>.at q
 | _+1,w=>w
def zHC{B:Code}{Q:Out->Prop}{st:St}:∀ {n:Nat} {w:Wh},AtW P s ro B Q (rs B n w) st->AtW P s ro B Q w st
 | 0,w,h=>h
 | n+1,.fin,h=>h
 | n+1,.out,h=>h
 | n+1,.bad,h=>h
 | n+1,.at q,h=>by
  simp only[rs] at h;have dn:∀(c:Code),sub B q=c->c≠.skip->AtW P s ro B Q (.at (q++[0])) st->Ev s (evC P (zV P) ro (sub c [0]) st) (ctx P s ro c [0] (ctx P s ro B q Q)):=by
   intro c hc ah h;simp only[AtW,At,zCw,hc] at h;rw[zBz B q [0] Q (by rw[hc];exact ah),hc] at h;exact h
  show Ev s (evC P (zV P) ro (sub B q) st) (ctx P s ro B q Q);split at h
  ·rename_i a b hc;have:=dn _ hc (by simp) (zHC h);rw[hc];simp only[sub,ctx,b00,xAG] at this;simp only[evC];exact Ev.andThen this
  ·rename_i id c hc;have:=dn _ hc (by simp) (zHC h);rw[hc];simp only[sub,ctx,b00,xAG] at this;simp only[evC];exact Ev.andThen this
  ·rename_i c hc;have:=dn _ hc (by simp) (zHC h);rw[hc];simp only[sub,ctx,b00,xAG] at this;simp only[evC];exact Ev.andThen this
  ·rename_i l hc;rw[hc];exact Ev.one (zI1 B q Q st (zHC h))
  ·rename_i id hc;have fin:AtX P s ro B Q id (xt id B q) st->Ev s (evC P (zV P) ro (sub B q) st) (ctx P s ro B q Q):=fun k=>by
    rw[hc];exact Ev.one (zLF id B q Q st k)
   cases hx:xt id B q with
   | out=>rw[hx] at h;exact h
   | fin=>rw[hx] at h fin;exact fin (zHC h)
   | «at» q'=>rw[hx] at h fin;exact fin (zHC h)
   | bad=>rw[hx] at h;cases n <;> exact h.elim
  ·rename_i hc;rw[hc];exact Ev.one (zI1 B q Q st (zHC h))
  ·exact h
structure Cx where
 P:Env
 s:Bool
 ro:Option Nat
 B:Code
 lv:List (List Nat×List Nat)
 rt:List Nat
 D:List Nat
def zL9:List Nat->List Nat->Bool
 | [],[]=>true
 | a::aas,b::bs=>Nat.beq a b&&zL9 aas bs
 | _,_=>false
def zUs(p:List Nat):List (List Nat×List Nat)->List Nat
 | []=>[]
 | x::l=>cond (zL9 x.1 p) x.2 (zUs p l)
abbrev KF:=Ex->List Value->AH->Prop
def zI4(C:Cx)(K:KF)(o:Out):Prop:=o.st.defs=C.D/\K o.ex (C.rt.map o.st.T.get) o.st.h
def SP(C:Cx)(K:KF)(p:List Nat)(L:List (Nat×Value))(h:AH):Prop:=
 ∀ T,(∀ x∈L,T.get x.1=x.2)->At C.P C.s C.ro C.B (zI4 C K) p ⟨T,h,C.D⟩
def BrK(v:Option Value)(A B:Prop):Prop:=match v with
 | some (.bool b)=>(b=true->A)/\(b=false->B)
 | _=>False
def zDP(C:Cx)(K:KF):Nat->Wh->Tm->AH->Prop
 | 0,_,_,_=>False
 | _+1,.fin,T,h=>K .normal (C.rt.map T.get) h
 | n+1,.at q,T,h=>match sub C.B q with
  | .cond c _ _=>BrK (zAl T c) (zDP C K n (rs C.B 60 (.at (q++[0]))) T h) (zDP C K n (rs C.B 60 (.at (q++[1]))) T h)
  | .ret=>K .ret (C.rt.map T.get) h
  | .exit id=>(match xt id C.B q with
   | .out=>K (.exit id) (C.rt.map T.get) h
   | _=>False)
  | .region _ _ _=>SP C K q (zkc T (zUs q C.lv)) h
  | .rangeFunc _ _ _ _=>SP C K q (zkc T (zUs q C.lv)) h
  | _=>False
 | _+1,_,_,_=>False
def zH0(C:Cx):Nat->Wh->List Nat
 | 0,_=>[]
 | _+1,.fin=>C.rt
 | n+1,.at q=>match sub C.B q with
  | .cond c _ _=>zE6 [c]++zH0 C n (rs C.B 60 (.at (q++[0])))++zH0 C n (rs C.B 60 (.at (q++[1])))
  | .ret=>C.rt
  | .exit _=>C.rt
  | _=>zUs q C.lv
 | _+1,_=>[]
def zeQ(C:Cx)(K:KF)(p:List Nat)(T:Tm)(h:AH):Prop:=match sub C.B p with
 | .region _ ops false=>zkA C.P (zV C.P) C.s ops.toList ops.toList T h fun T h=>zDP C K 30 (rs C.B 60 (nx C.B p)) T h
 | .region _ ops true=>ze2 C.P (zV C.P) C.s ops.toList (fun T h=>zDP C K 30 (rs C.B 60 (nx C.B p)) T h) (zBH ops.toList+1) T 0 [] (prep 0 [] ops.toList) h
 | _=>False
def zHz:List Nat->Bool
 | []=>true
 | a::aas=>!zij a aas&&zHz aas
def zr1(C:Cx)(p:List Nat):Bool:=zHz (zUs p C.lv)&&match sub C.B p with
 | .region _ ops false=>(match zUZ ops.toList (zUs p C.lv) ops.toList with
  | some A=>subN (zH0 C 30 (rs C.B 60 (nx C.B p))) A
  | none=>false)
 | .region _ ops true=>chkD (zUs p C.lv) ops.toList&&subN (zH0 C 30 (rs C.B 60 (nx C.B p))) (zOa ops.toList (zUs p C.lv))
 | _=>false
variable {C:Cx} {K:KF}
def zKb{A:List Nat}{T T':Tm}(H:zEj A T T'):∀ {l:List Nat},(∀ t∈l,t∈A)->l.map T.get=l.map T'.get
 | [],_=>rfl
 | t::l,h=>by simp only[List.map_cons];rw[H t (h t (by simp)),zKb H fun u hu=>h u (by simp[hu])]
def zGf{A:List Nat}{T T':Tm}(H:zEj A T T'):∀ {l:List Nat},(∀ t∈l,t∈A)->∀ x∈zkc T' l,T.get x.1=x.2
 | [],_,x,hx=>by cases hx
 | t::l,h,x,hx=>by
  rcases List.mem_cons.1 hx with rfl|hx
  ·exact H t (h t (by simp))
  ·exact zGf H (fun u hu=>h u (by simp[hu])) x hx
def zF9{T T':Tm}{h:AH}:∀ {n:Nat} {w:Wh},zEj (zH0 C n w) T T'->zDP C K n w T' h->AtW C.P C.s C.ro C.B (zI4 C K) w ⟨T,h,C.D⟩
 | 0,_,_,hk=>hk.elim
 | n+1,.fin,H,hk=>by
  simp only[zH0] at H;simp only[zDP] at hk;refine⟨rfl,?_⟩;rw[zKb H fun _ h=>h];exact hk
 | n+1,.out,H,hk=>hk.elim
 | n+1,.bad,H,hk=>hk.elim
 | n+1,.at q,H,hk=>by
  simp only[zH0] at H;simp only[zDP] at hk;show Ev C.s (evC C.P (zV C.P) C.ro (sub C.B q) ⟨T,h,C.D⟩) (ctx C.P C.s C.ro C.B q (zI4 C K));have dn:∀(i:Nat) (c:Code),sub C.B q=c->c≠.skip->AtW C.P C.s C.ro C.B (zI4 C K) (.at (q++[i])) ⟨T,h,C.D⟩->Ev C.s (evC C.P (zV C.P) C.ro (sub c [i]) ⟨T,h,C.D⟩) (ctx C.P C.s C.ro c [i] (ctx C.P C.s C.ro C.B q (zI4 C K))):=by
   intro i c hc ah h;simp only[AtW,At,zCw,hc] at h;rw[zBz C.B q [i] _ (by rw[hc];exact ah),hc] at h;exact h
  split at hk
  ·rename_i c a b hc;rw[hc] at H ⊢;simp only[evC];have hop:zAl T c=zAl T' c:=zCb (xs:=[c]) (fun t ht=>H t (by simp[mem_tmpsOf.2 ht])) (by simp);rw[hop];unfold BrK at hk;split at hk
   ·rename_i v hv;rw[hv];simp only[zVp];cases v with
    | true=>
     have:=dn 0 _ hc (by simp) (zHC (zF9 (fun t ht=>H t (by simp[ht])) (hk.1 rfl)));simp only[sub,ctx,b00,xAG] at this;exact this
    | false=>
     have:=dn 1 _ hc (by simp) (zHC (zF9 (fun t ht=>H t (by simp[ht])) (hk.2 rfl)));simp only[sub,ctx,b10,xAH] at this;exact this
   ·exact hk.elim
  ·rename_i hc;rw[hc] at H ⊢;refine Ev.one (zHn C.B q _ _ hc ⟨rfl,?_⟩);simp only;rw[zKb H fun _ h=>h];exact hk
  ·rename_i id hc;rw[hc] at H ⊢;split at hk
   ·rename_i hx;refine Ev.one (zLF id C.B q _ _ ?_);rw[hx];refine⟨rfl,?_⟩;simp only;rw[zKb H fun _ h=>h];exact hk
   ·exact hk.elim
  ·rename_i i ops d hc;rw[hc] at H;have:=hk T (zGf H fun _ h=>h);exact this
  ·rename_i f ps aas body hc;rw[hc] at H;have:=hk T (zGf H fun _ h=>h);exact this
  ·exact hk.elim
def zKQ:∀ {L:List (Nat×Value)},zHz (L.map (·.1))=true->∀ x∈L,(zk L).get x.1=x.2
 | y::l,h,x,hx=>by
  simp only[List.map_cons,zHz,xAP,Bool.not_eq_true'] at h;simp only[zk,Tm.get_put];rcases List.mem_cons.1 hx with rfl|hx
  ·simp
  ·have:x.1≠y.1:=by
    intro e;have:zij y.1 (l.map (·.1))=true:=memN_iff.2 (by rw[← e];exact List.mem_map.2 ⟨x,hx,rfl⟩);rw[h.1] at this;cases this
   rw[if_neg this];exact zKQ h.2 x hx
def zUg{all:List Oper}{k:Nat}{p:PO}(h:(prep 0 [] all)[k]?=some p):p.i=k/\all[k]?=some p.o:=⟨(zUh h).i,(zUh h).o⟩
def zQx(all:List Oper):(∀ p∈prep 0 [] all,∀ q∈prep 0 [] all,q.i=p.i->q.o=p.o)/\∀ o∈all,∃ p∈prep 0 [] all,p.o=o:=by
 constructor
 ·intro p hp q hq e;obtain⟨k,hk⟩:=List.mem_iff_getElem?.1 hp;obtain⟨j,hj⟩:=List.mem_iff_getElem?.1 hq;have a:=zUg hk;have b:=zUg hj;have:j=k:=by rw[← a.1,← b.1,e]
  subst this;rw[hk] at hj;cases hj;rfl
 ·intro o ho;obtain⟨k,hk⟩:=List.mem_iff_getElem?.1 ho;have ab:k<(prep 0 [] all).length:=by
   rw[zFJ];exact (List.getElem?_eq_some_iff.1 hk).1
  refine⟨(prep 0 [] all)[k],List.getElem_mem ab,?_⟩;have:=(zUg (xAA ab)).2;rw[hk] at this;cases this;rfl
def zUE{p:List Nat}{L:List (Nat×Value)}{h:AH}(hc:zr1 C p=true)(hL:L.map (·.1)=zUs p C.lv)(hk:zeQ C K p (zk L) h):SP C K p L h:=by
 intro T hT;unfold zr1 at hc;rw[xAP] at hc;obtain⟨hn,hc⟩:=hc;have dh:=zKQ (L:=L) (by rw[hL];exact hn);have H:zEj (zUs p C.lv) T (zk L):=by
  intro t ht;rw[← hL] at ht;obtain⟨x,hx,rfl⟩:=List.mem_map.1 ht;rw[hT x hx,dh x hx]
 unfold zeQ at hk;unfold At;split at hk
 ·rename_i i ops hs;rw[hs] at hc ⊢;simp only at hc;split at hc
  ·rename_i A hA;simp only[evC,evRegion];refine Ev.andThen ((zUn (D:=C.D) hA H (zFp hk)).mono fun st af=>?_);obtain⟨T1,a,b,c⟩:=af;refine Ev.one ?_;have:=zF9 (T:=st.T) (fun t ht=>a t (subN_iff.1 hc t ht)) c;have:=zI1 C.B p _ _ (zHC this);rw[← b] at this;exact this
  ·cases hc
 ·rename_i i ops hs;rw[hs] at hc ⊢;simp only[xAP] at hc;simp only[evC,evRegion];obtain⟨f1,f2⟩:=zQx ops.toList;have:=zP0 (D:=C.D) f1 f2 (List.all_eq_true.1 hc.1) (rest:=prep 0 [] ops.toList) (done:=0) (rds:=[]) (rds':=[]) (T:=T) (fun _ h=>h) (fun p hp=>.inl hp)
   (fun t ht=>ht.elim (H t) fun ⟨q,_,_,h⟩=>by simp at h) .nil (zMC hk)
  refine Ev.andThen (this.mono fun st af=>?_);obtain⟨T1,a,b,c⟩:=af;refine Ev.one ?_;have:=zF9 (T:=st.T) (fun t ht=>a t (subN_iff.1 hc.2 t ht)) c;have:=zI1 C.B p _ _ (zHC this);rw[← b] at this;exact this
 ·exact hk.elim
def zBZ{T:Tm}{L:List (Nat×Value)}{h:AH}(hn:zHz (L.map (·.1))=true)(c8:subN (zH0 C 30 (rs C.B 60 (.at []))) (L.map (·.1))=true)(hT:∀ x∈L,T.get x.1=x.2)
  (hk:zDP C K 30 (rs C.B 60 (.at [])) (zk L) h):Ev C.s (evC C.P (zV C.P) C.ro C.B ⟨T,h,C.D⟩) (zI4 C K):=by
 have dh:=zKQ hn;have H:zEj (zH0 C 30 (rs C.B 60 (.at []))) T (zk L):=by
  intro t ht;obtain⟨x,hx,rfl⟩:=List.mem_map.1 (subN_iff.1 c8 t ht);rw[hT x hx,dh x hx]
 have:=zHC (zF9 H hk);simpa only[AtW,At,sub,ctx] using this
end
end Go.AM
end
end
section
section
namespace Go.AM
open Go Go.Proofs
def zc(fn:Func):Code:=match fn.body with
 | some c=>c
 | none=>.skip
def zjz:List ResultVar->List Nat
 | []=>[]
 | .tmp t::rs=>t::zjz rs
 | .cell a _::rs=>a::zjz rs
def zHo(P:Env):List ResultVar->List Value->AH->Option (List Value)
 | [],_,_=>some []
 | .tmp _::rs,v::vs,h=>(match zHo P rs vs h with|some l=>some (v::l)|none=>none)
 | .cell _ t::rs,v::vs,h=>(match zE2 P t v h,zHo P rs vs h with|some x,some l=>some (x::l)|_,_=>none)
 | _::_,[],_=>none
def zia(l:List Value):Value:=match l with
 | [v]=>v
 | vs=>.tuple ⟨vs⟩
def zDE:Ex->Bool
 | .exit _=>false
 | _=>true
def KR(P:Env)(rs:List ResultVar)(R:Value->AH->Prop):KF:=fun ex vs h=>zDE ex=true/\EvO (zHo P rs vs h) fun l=>R (zia l) h
def zeI:Nat->List Value->List (Nat×Value)
 | _,[]=>[]
 | k,v::vs=>(k,v)::zeI (k+1) vs
def AH.qb(h:AH):AH:=⟨h.t,h.qa,Nat.add h.qa UNK⟩
@[simp] theorem zn8(h:AH)(b:Nat):h.qb.get b=h.get b:=rfl
@[simp] theorem za(h:AH):h.qb.qa=h.qa:=rfl
@[simp] theorem zAm(h:AH):h.qb.wm=h.qa+UNK:=rfl
def AH.ok(h:AH):Prop:=h.wm<=h.qa+UNK
def zAX(h:AH):h.qb.ok:=xAF _
def zBd{h:AH}(k:h.ok)(o:AObj):(h.new o).ok:=by unfold AH.ok at k ⊢;show h.wm<=h.qa+1+UNK;omega
def zB8{h:AH}(k:h.ok)(b:Nat)(o:Option AObj):(h.upd b o).ok:=Nat.le_trans (zCm h b o).1 k
section
variable {P:Env} {s:Bool}
def zGP(T:Tm)(h:AH):∀ rs:List ResultVar,zCj P T h rs=zHo P rs ((zjz rs).map T.get) h
 | []=>rfl
 | .tmp t::rs=>by simp only[zCj,zjz,List.map_cons,zHo];rw[zGP T h rs];rfl
 | .cell a t::rs=>by simp only[zCj,zjz,List.map_cons,zHo];rw[zGP T h rs];rfl
def zO7{T:Tm}:∀ {vs:List Value} {k:Nat},(∀ i v,vs[i]?=some v->T.get (k+i)=v)->∀ x∈zeI k vs,T.get x.1=x.2
 | [],_,_,x,hx=>by cases hx
 | v::vs,k,h,x,hx=>by
  rcases List.mem_cons.1 hx with rfl|hx
  ·exact h 0 v rfl
  ·exact zO7 (k:=k+1) (fun i u hu=>by have:=h (i+1) u (by simpa using hu);rw[show k+1+i=k+(i+1) by omega];exact this) x hx
def zk4{fn:Func}{C:Cx}(hP:C.P=P)(hs:C.s=s)(hC:C.B=zc fn/\C.ro=none/\C.rt=zjz fn.results.toList/\C.D=[]){args:List Value}{h:AH}{Rp:Value->AH->Prop}
  (c8:subN (zH0 C 30 (rs C.B 60 (.at []))) ((zeI 0 args).map (·.1))=true) (aV:zHz ((zeI 0 args).map (·.1))=true)
  (hk:zDP C (KR P fn.results.toList Rp) 30 (rs C.B 60 (.at [])) (zk (zeI 0 args)) h) :
  Ev s (R.andThen (evC P (zV P) none (zc fn) ⟨⟨fn.ntmps,zCB args 0 .e⟩,h,[]⟩) (zAW P fn)) fun x=>Rp x.1 x.2:=by
 obtain⟨h1,h2,h3,h4⟩:=hC;have hT:∀ x∈zeI 0 args,(Tm.get ⟨fn.ntmps,zCB args 0 .e⟩ x.1)=x.2:=by
  refine zO7 fun i v hv=>?_;unfold Tm.get;simp only;rw[zIB];have ab:i<args.length:=(List.getElem?_eq_some_iff.1 hv).1;rw[if_pos ⟨Nat.zero_le _,by omega⟩];simp[hv]
 have:=zBZ (C:=C) aV c8 hT hk;rw[hP,hs,h1,h2,h4] at this;refine Ev.andThen (this.mono fun o ho=>?_);obtain⟨hd,ah,ho⟩:=ho;obtain⟨l,e,hR⟩:=EvO.ex ho;rw[h4] at hd;rw[h3,← zGP] at e;have aK:zAW P fn o=one (zia l,o.st.h):=by
  unfold zAW;cases ho:o.ex with
  | exit i=>rw[ho] at ah;cases ah
  | _=>
   simp only;rw[hd];simp only[zB9,zCC,zEp,e];unfold zia;split <;> simp_all [v1]
 rw[aK];exact Ev.one hR
def zBT{f:FuncId}{fn:Func}{c:Code}{args:List Value}{h:AH}(hf:P.tab.fn.get f=some fn)(hb:fn.body=some c)(aF:P.sum f args h=none)(hl:Nat.ble (zBH args) fn.ntmps=true) :
  (zV P).call f args h=zER h.qb h.wm (R.andThen (evC P (zV P) none (zc fn) ⟨⟨fn.ntmps,zCB args 0 .e⟩,h.qb,[]⟩) (zAW P fn)):=by
 rw[zVx];unfold fnCall;rw[hf];simp only[hb,aF,zEC,hl,xAG,zc];rfl
def zo:Value->Bool
 | .int _ _=>true
 | .bool _=>true
 | _=>false
def zNq{v:Value}(h:zo v=true):zg v=true:=by cases v <;> first|rfl|cases h
def zQq{v:Value}(h:zo v=true):veq 1000 v v=true:=by
 cases v with
 | int k n=>show (decide (k=k)&&decide (n=n))=true;simp
 | bool b=>show (b==b)=true;simp
 | _=>cases h
def zQr{v:Value}(h:zo v=true):zDm 4 v=[]:=by cases v <;> first|rfl|cases h
def AH.back(h:AH):AH:=⟨h.t,h.qa,cond (Nat.ble h.wm (h.qa+UNK)) h.wm (h.qa+UNK)⟩
def zOu{h:AH}(hw:h.ok):h.back=h:=by unfold AH.back;rw[ble_true.2 hw];rfl
def zMG{f:FuncId}{fn:Func}{c:Code}{args:List Value}{h:AH}{v0:Value}(aa:h.ok)(hf:P.tab.fn.get f=some fn)(hb:fn.body=some c)(aF:P.sum f args h=none)(hl:Nat.ble (zBH args) fn.ntmps=true)(hv:zo v0=true)
  (cP:Ev s (R.andThen (evC P (zV P) none (zc fn) ⟨⟨fn.ntmps,zCB args 0 .e⟩,h.qb,[]⟩) (zAW P fn)) fun x=>x.1=v0/\h.qa<=x.2.wm) :
  (zV P).call f args h=some [(v0,h)]:=by
 rw[zBT hf hb aF hl];obtain⟨l,e,ah,_,ct⟩:=cP;rw[e];simp only[zER,xAN];have eD:∀ x∈l,zBQ h.qb x=(v0,h.qb):=by
  intro x hx;obtain⟨a,b⟩:=ct x hx;unfold zBQ zD9;rw[za,ble_true.2 b,a,zNq hv];rfl
 have ip:zD9 h.qb (v0,h.qb)=true:=ble_true.2 (by simp);have bO:zEF h.qb l=[(v0,h.qb)]:=by
  rcases zCa h.qb l with ⟨x,hx,hs⟩|hs
  ·rw[hs,eD x (by rw[hx];simp)]
  ·rw[hs];have dx:l.map (zBQ h.qb)=l.map fun _=>(v0,h.qb):=List.map_congr_left eD;rw[dx];unfold zB4;have:(l.map fun _=>(v0,h.qb)).all (zD9 h.qb)=true:=by
    rw[List.all_map,List.all_eq_true];intro x _;exact ip
   rw[this];simp only[xAG,List.map_map];have hk:kept h.qb (v0,h.qb)=(v0,[],h.qb):=by
    unfold kept;simp only[zQr hv,zEJ,zDV,List.foldr_nil]
   have ic:l.map (kept h.qb ∘ fun _=>(v0,h.qb))=l.map fun _=>((v0,[],h.qb):zKI):=List.map_congr_left fun x _=>hk;rw[ic];have h9:∀(l:List (Value×AH)) (acc:List zKI),acc=[(v0,[],h.qb)]->zEK (l.map fun _=>((v0,[],h.qb):zKI)) acc=[(v0,[],h.qb)]:=by
    intro l
    induction l with
    | nil=>intro acc ha;exact ha
    | cons x l ih=>
     intro acc ha;subst ha;simp only[List.map_cons,zEK];have:([(v0,[],h.qb)]:List zKI).any (zK6 (v0,[],h.qb))=true:=by
      simp[zK6,zQq hv,Nat.beq_refl]
     rw[this];exact ih _ rfl
   cases l with
   | nil=>exact absurd rfl ah
   | cons x l=>
    simp only[List.map_cons,zEK,List.any_nil,xAH,List.nil_append];rw[h9 l _ rfl];rfl
 rw[bO];have:=zOu aa;unfold AH.back at this;simp only[List.map_cons,List.map_nil,zUU];show [(v0,(⟨h.t,h.qa,cond (Nat.ble h.wm (h.qa+UNK)) h.wm (h.qa+UNK)⟩:AH))]=_;rw[this]
def zJv{f:FuncId}{fn:Func}{c:Code}{args:List Value}{h:AH}{v0:Value}(aa:h.ok)(hf:P.tab.fn.get f=some fn)(hb:fn.body=some c)(aF:P.sum f args h=none)(hl:Nat.ble (zBH args) fn.ntmps=true)(hv:zg v0=true)
  (cP:Ev true (R.andThen (evC P (zV P) none (zc fn) ⟨⟨fn.ntmps,zCB args 0 .e⟩,h.qb,[]⟩) (zAW P fn)) fun x=>x.1=v0/\h.qa<=x.2.wm) :
  (zV P).call f args h=some [(v0,h)]:=by
 rw[zBT hf hb aF hl];obtain⟨l,e,ah,h1,ct⟩:=cP;rw[e]
 match l,h1 rfl with
 | [x],_=>
  obtain⟨a,b⟩:=ct x (by simp);have hr:zBQ h.qb x=(v0,h.qb):=by
   unfold zBQ zD9;rw[za,ble_true.2 b,a,hv];rfl
  show some [zUU h.wm (zBQ h.qb x)]=_;rw[hr];have:=zOu aa;unfold AH.back at this;show some [(v0,(⟨h.t,h.qa,cond (Nat.ble h.wm (h.qa+UNK)) h.wm (h.qa+UNK)⟩:AH))]=_;rw[this]
def zRd{f:FuncId}{fn:Func}{c:Code}{args:List Value}{h:AH}{Rp:Value->Prop}(aa:h.ok)(hf:P.tab.fn.get f=some fn)(hb:fn.body=some c)(aF:P.sum f args h=none)(hl:Nat.ble (zBH args) fn.ntmps=true)
  (cP:Ev true (R.andThen (evC P (zV P) none (zc fn) ⟨⟨fn.ntmps,zCB args 0 .e⟩,h.qb,[]⟩) (zAW P fn)) fun x=>(zg x.1=true/\Rp x.1)/\h.qa<=x.2.wm) :
  ∃ v,Rp v/\(zV P).call f args h=some [(v,h)]:=by
 obtain⟨l,e,ah,h1,ct⟩:=cP
 match l,h1 rfl with
 | [x],_=>
  obtain⟨⟨a,b⟩,w⟩:=ct x (by simp);refine⟨x.1,b,zJv aa hf hb aF hl a ⟨[x],e,by simp,fun _=>rfl,fun y hy=>?_⟩⟩;simp at hy;subst hy;exact⟨rfl,w⟩
def ze6{f:FuncId}{fn:Func}{c:Code}{args:List Value}{h h1:AH}{v0:Value}(hf:P.tab.fn.get f=some fn)(hb:fn.body=some c)(aF:P.sum f args h=none)(hl:Nat.ble (zBH args) fn.ntmps=true)
  (cP:Ev true (R.andThen (evC P (zV P) none (zc fn) ⟨⟨fn.ntmps,zCB args 0 .e⟩,h.qb,[]⟩) (zAW P fn)) fun x=>x=(v0,h1)) :
  (zV P).call f args h=some [zUU h.wm (zBQ h.qb (v0,h1))]:=by
 rw[zBT hf hb aF hl,Ev.single cP];rfl
def zVv{f:FuncId}{fn:Func}{c:Code}{args:List Value}{h:AH}{Rp:Value->AH->Prop}(hf:P.tab.fn.get f=some fn)(hb:fn.body=some c)(aF:P.sum f args h=none)(hl:Nat.ble (zBH args) fn.ntmps=true)
  (cP:Ev true (R.andThen (evC P (zV P) none (zc fn) ⟨⟨fn.ntmps,zCB args 0 .e⟩,h.qb,[]⟩) (zAW P fn)) fun x=>(zg x.1=false\/x.2.wm<h.qa)/\Rp x.1 ⟨x.2.t,x.2.qa,cond (Nat.ble h.wm x.2.wm) h.wm x.2.wm⟩) :
  Ev true ((zV P).call f args h) fun x=>Rp x.1 x.2:=by
 rw[zBT hf hb aF hl];obtain⟨l,e,ah,h1,ct⟩:=cP;rw[e]
 match l,h1 rfl with
 | [x],_=>
  obtain⟨a,b⟩:=ct x (by simp);have:zBQ h.qb x=x:=by
   unfold zBQ;rcases a with a|a
   ·rw[a];simp
   ·have:zD9 h.qb x=false:=ble_false.2 a;rw[this];simp
  show Ev true (some [zUU h.wm (zBQ h.qb x)]) _;rw[this,zO];exact b
end
end Go.AM
end
end
namespace Go.AM
open Go Go.Proofs
def zn(B:Code)(p:List Nat)(i:Nat):Oper:=match sub B p with
 | .region _ ops _=>(match lnth ops.toList i with|some o=>o|none=>default)
 | _=>default
def zsh:Code->Code
 | .rangeFunc _ _ a _=>a
 | _=>.skip
def ziZ:Code->Code
 | .rangeFunc _ _ _ b=>b
 | _=>.skip
section
variable {P:Env} {s:Bool}
def zCF(b:Bool)(A B:Prop):BrK (some (.bool b)) A B=((b=true->A)/\(b=false->B)):=rfl
def zy(A B:Prop):BrK (some (.bool true)) A B=A:=by simp[zCF]
def zi(A B:Prop):BrK (some (.bool false)) A B=B:=by simp[zCF]
def zAN(p:Prop)[Decidable p](A B:Prop):BrK (some (.bool (decide p))) A B=((p->A)/\(¬ p->B)):=by simp[zCF]
def zHH(p:Prop)[Decidable p](A B:Prop):BrK (some (.bool (!decide p))) A B=((¬ p->A)/\(p->B)):=by simp[zCF]
def zAS{t:Nat}{Rp:Value->AH->Prop}{ex:Ex}{v:Value}{h:AH}:KR P [.tmp t] Rp ex [v] h=(zDE ex=true/\Rp v h):=by
 simp only[KR,zHo,zA,zia]
def zRU{t u:Nat}{Rp:Value->AH->Prop}{ex:Ex}{v w:Value}{h:AH}:KR P [.tmp t,.tmp u] Rp ex [v,w] h=(zDE ex=true/\Rp (.tuple #[v,w]) h):=by
 simp only[KR,zHo,zA,zia]
def zNi{Rp:Value->AH->Prop}{ex:Ex}{h:AH}:KR P [] Rp ex [] h=(zDE ex=true/\Rp (.tuple #[]) h):=by
 simp only[KR,zHo,zA,zia]
def zso{t a:Nat}{Rp:Value->AH->Prop}{ex:Ex}{v:Value}{h:AH}:KR P [.cell a t] Rp ex [v] h=(zDE ex=true/\EvO (zE2 P t v h) fun x=>Rp x h):=by
 simp only[KR,zHo];cases zE2 P t v h with
 | none=>simp only[zPx]
 | some x=>simp only[zA,zia]
def zU:(zDE .ret=true)=True:=by simp[zDE]
def zCc:(zDE .normal=true)=True:=by simp[zDE]
def zEk{r:Rec}{f:FuncId}{fs cs:Array Value}{args:List Value}{h:AH}:zT r (some (.func (.func f) fs cs)) (some args) h=r.call f (fs.toList++args++cs.toList) h:=rfl
def zHa{r:Rec}{l:Nat}{fs cs:Array Value}{args:List Value}{h:AH}:zT r (some (.func (.yield l) fs cs)) (some args) h=r.round l (fs.toList++args) h:=rfl
def zS{r:Rec}{f:FuncId}{args:List Value}{h:AH}:zT r (some (.func (.func f) #[] #[])) (some args) h=r.call f args h:=by rw[zEk];simp
def zY(t:TypeId)(a b:Int):zC P .lss t (.int .i64 a) (.int .i64 b)=some (.bool (decide (a<b))):=by
 show some (Value.bool (!ile b a))=_;rw[zGd];congr 2;by_cases h:a<b
 ·rw[xAJ h,xAI (by omega)];rfl
 ·rw[xAI h,xAJ (by omega)];rfl
def zAO(t:TypeId)(a b:Int):zC P .gtr t (.int .i64 a) (.int .i64 b)=some (.bool (decide (b<a))):=by
 show some (Value.bool (!ile a b))=_;rw[zGd];congr 2;by_cases h:b<a
 ·rw[xAJ h,xAI (by omega)];rfl
 ·rw[xAI h,xAJ (by omega)];rfl
def zBJ(t:TypeId)(a b:Int):zC P .leq t (.int .i64 a) (.int .i64 b)=some (.bool (decide (a<=b))):=by
 show some (Value.bool (ile a b))=_;rw[zGd]
def zAZ(t:TypeId)(a b:Int):zC P .geq t (.int .i64 a) (.int .i64 b)=some (.bool (decide (b<=a))):=by
 show some (Value.bool (ile b a))=_;rw[zGd]
def zAd(t:TypeId)(a b:Int):zC P .eql t (.int .i64 a) (.int .i64 b)=some (.bool (decide (a=b))):=by
 show some (Value.bool (ieq a b))=_;rw[zEW];rfl
def zA1(t:TypeId)(a b:Int):zC P .neq t (.int .i64 a) (.int .i64 b)=some (.bool (!decide (a=b))):=by
 show some (Value.bool (!ieq a b))=_;rw[zEW];rfl
def zC1(n:Int):Prop:=-9223372036854775808<=n/\n<=9223372036854775807
def zDb{n:Int}(h:zC1 n):zCM .i64 n=n:=by
 unfold zC1 at h;cases n with
 | ofNat m=>
  have:Nat.ble m 9223372036854775807=true:=ble_true.2 (by have:=h.2;simp only[Int.ofNat_eq_natCast] at this;omega);simp only[zCM,this,if_true]
 | negSucc m=>
  have:Nat.ble m 9223372036854775807=true:=ble_true.2 (by have:=h.1;omega);simp only[zCM,this,if_true]
def zAK(t:TypeId){a b:Int}(h:zC1 (a+b)):zC P .add t (.int .i64 a) (.int .i64 b)=some (.int .i64 (a+b)):=by
 show some (Value.int .i64 (zCM .i64 (a+b)))=_;rw[zDb h]
def zK4(t:TypeId)(a b:Int):zC P .add t (.int .i64 a) (.int .i64 b)=some (.int .i64 (zCM .i64 (a+b))):=rfl
def zG9(t:TypeId){a b:Int}(h:zC1 (a-b)):zC P .sub t (.int .i64 a) (.int .i64 b)=some (.int .i64 (a-b)):=by
 show some (Value.int .i64 (zCM .i64 (a-b)))=_;rw[zDb h]
def zAB(b:Bool):zAY .not (.bool b)=some (.bool !b):=rfl
def zJ(b:Bool)(x y:Option Value):zAE (some (.bool b)) x y=cond b x y:=rfl
def zM(b w:Bool)(x:Option Value):gdB (.bool b) w x=cond (b==w) x (some undef):=rfl
def zR(b w:Bool)(x:R (Value×AH))(h:AH):gdW (.bool b) w x h=cond (b==w) x (one (undef,h)):=rfl
def zAj(a:Addr):zp (some (.pointer (some a)))=some (.pointer (some a)):=rfl
def zAb{t e:TypeId}{z:Nat}(hu:und P t=some (.slice e))(hz:zAg P e=some z){b o len c k:Nat}(hk:k<len) :
  zE P t (some (.slice (some ⟨b,o,none⟩) len c)) (some (.int .i64 (k:Int)))=some (.pointer (some ⟨b,o+k*z,none⟩)):=by
 have ha:zEe (.int .i64 (k:Int))=some k:=rfl;simp only[zE,zDl,hu,ha,hz,ble_true.2 (show k+1<=len by omega),xAG]
def zOM{t e:TypeId}{n z:Nat}(hu:und P t=some (.array n e))(hz:zAg P e=some z){b o k:Nat}(hk:k<n) :
  zE P t (some (.pointer (some ⟨b,o,none⟩))) (some (.int .i64 (k:Int)))=some (.pointer (some ⟨b,o+k*z,none⟩)):=by
 have ha:zEe (.int .i64 (k:Int))=some k:=rfl;simp only[zE,zDl,hu,ha,hz,ble_true.2 (show k+1<=n by omega),xAG]
def tAS(P:Env)(t:TypeId):Option (Bool×Nat):=match zCs P t with
 | some i=>some (i.agg,i.size)
 | none=>none
def zF{t:TypeId}{n:Nat}(ht:tAS P t=some (false,n)){h:AH}{b o:Nat}{vs:List Value}{ty es:Nat}{ro:Bool}(hb:h.get b=some (.row vs ty es ro)) :
  zH P t h (some (.pointer (some ⟨b,o,none⟩)))=lnth vs o:=by
 unfold tAS at ht;split at ht
 ·rename_i i hi;simp only[xAN,Prod.mk.injEq] at ht;simp only[zH,zE2,hb,hi,ht.1,Bool.false_eq_true,if_false]
 ·cases ht
def zZ{t:TypeId}{n:Nat}(ht:tAS P t=some (true,n)){h:AH}{b o:Nat}{vs:List Value}{ty es:Nat}{ro:Bool}(hb:h.get b=some (.row vs ty es ro))(hl:o+n<=vs.length) :
  zH P t h (some (.pointer (some ⟨b,o,none⟩)))=some (.agg ⟨(vs.drop o).take n⟩):=by
 unfold tAS at ht;split at ht
 ·rename_i i hi;simp only[xAN,Prod.mk.injEq] at ht;have hlen:((vs.drop o).take n).length=n:=by simp;omega
  simp only[zH,zE2,hb,hi,ht.1,ht.2,zAo,zAt,zAR,hlen,Nat.beq_refl,if_true]
 ·cases ht
def zd{t:TypeId}{h:AH}{z:Value}:zW t h (some z)=one (.pointer (some ⟨h.qa,0,none⟩),h.new (.row (zj z) t 0 false)):=rfl
def zAC{t:TypeId}{n:Nat}(ht:zAg P t=some n){h:AH}{b o:Nat}{vs cs:List Value}{ty es:Nat}{x:Value}(hb:h.get b=some (.row vs ty es false))(hx:zj x=cs)(hl:cs.length=n)(ho:o+n<=vs.length)(ci:cs.all zq=true) :
  zb P t h (some (.pointer (some ⟨b,o,none⟩))) (some x)=one (undef,h.upd b (some (.row (lput vs o cs) ty es false))):=by
 simp only[zb,zJF,hb,ht,hx,zAR,hl,Nat.beq_refl,ble_true.2 ho,ci,Bool.and_self,if_true,u1]
def zX(cs:Array Value):zj (.agg cs)=cs.toList:=rfl
def zDK(k:IntKind)(n:Int):zj (.int k n)=[.int k n]:=rfl
def zOi(a:Option Addr)(n c:Nat):zj (.slice a n c)=[.slice a n c]:=rfl
def zRc(f:Fn)(a b:Array Value):zj (.func f a b)=[.func f a b]:=rfl
def zI(h:AH)(o:AObj):(h.new o).get h.qa=some o:=by rw[AH.get_new,if_pos rfl]
def zK{h:AH}{o:AObj}{b:Nat}(hb:b≠h.qa):(h.new o).get b=h.get b:=by rw[AH.get_new,if_neg hb]
def zN(h:AH)(b:Nat)(o:Option AObj):(h.upd b o).get b=o:=by rw[AH.get_upd,if_pos rfl]
def zP{h:AH}{o:Option AObj}{b c:Nat}(hb:c≠b):(h.upd b o).get c=h.get c:=by rw[AH.get_upd,if_neg hb]
def zCl(h:AH)(o:AObj):(h.new o).wm=h.wm:=rfl
def zAA{h:AH}{b n:Nat}{o:Option AObj}(h1:n<=h.wm)(h2:n<=b):n<=(h.upd b o).wm:=by
 show n<=cond (Nat.ble h.wm b) h.wm b;cases Nat.ble h.wm b <;> assumption
structure Ext(h k:AH):Prop where
 ok:k.ok
 qa:h.qa<=k.qa
 get:∀ b,b<h.qa->k.get b=h.get b
def Ext.refl{h:AH}(k:h.ok):Ext h h:=⟨k,xAF _,fun _ _=>rfl⟩
def Ext.qb{h k:AH}(e:Ext h k):Ext h k.qb:=⟨zAX k,e.qa,fun b hb=>e.get b hb⟩
def Ext.trans{h k l:AH}(e:Ext h k)(f:Ext k l):Ext h l:=⟨f.ok,Nat.le_trans e.qa f.qa,fun b hb=>(f.get b (xAC hb e.qa)).trans (e.get b hb)⟩
def Ext.new{h k:AH}(e:Ext h k)(o:AObj):Ext h (k.new o):=⟨zBd e.ok o,Nat.le_trans e.qa (by simp),fun b hb=>by
 have:=e.qa;rw[zK (by omega)];exact e.get b hb⟩
def Ext.upd{h k:AH}(e:Ext h k){b:Nat}(hb:h.qa<=b)(o:Option AObj):Ext h (k.upd b o):=⟨zB8 e.ok b o,e.qa,fun c hc=>by
 rw[zP (by omega)];exact e.get c hc⟩
structure Chg(k:AH)(b:Nat)(k':AH):Prop where
 ok:k'.ok
 qa:k.qa<=k'.qa
 get:∀ c,c<k.qa->c≠b->k'.get c=k.get c
 wm:∀ n,n<=k.wm->n<=b->n<=k.qa->n<=k'.wm
def Chg.refl{k:AH}(h:k.ok)(b:Nat):Chg k b k:=⟨h,xAF _,fun _ _ _=>rfl,fun _ h _ _=>h⟩
def Chg.trans{k l m:AH}{b:Nat}(e:Chg k b l)(f:Chg l b m):Chg k b m:=
 ⟨f.ok,Nat.le_trans e.qa f.qa,fun c hc hb=>(f.get c (xAC hc e.qa) hb).trans (e.get c hc hb),fun n h1 h2 h3=>f.wm n (e.wm n h1 h2 h3) h2 (Nat.le_trans h3 e.qa)⟩
def Chg.new{k l:AH}{b:Nat}(e:Chg k b l)(o:AObj):Chg k b (l.new o):=
 ⟨zBd e.ok o,Nat.le_trans e.qa (by simp),fun c hc hb=>by
  have:=e.qa;rw[zK (by omega)];exact e.get c hc hb,fun n h1 h2 h3=>e.wm n h1 h2 h3⟩
def Chg.upd{k l:AH}{b:Nat}(e:Chg k b l)(o:Option AObj):Chg k b (l.upd b o):=
 ⟨zB8 e.ok b o,e.qa,fun c hc hb=>by rw[zP hb];exact e.get c hc hb,fun n h1 h2 h3=>zAA (e.wm n h1 h2 h3) h2⟩
def Chg.updNew{k l:AH}{b c:Nat}(e:Chg k b l)(hc:k.qa<=c)(o:Option AObj):Chg k b (l.upd c o):=
 ⟨zB8 e.ok c o,e.qa,fun d hd hb=>by rw[zP (by omega)];exact e.get d hd hb,fun n h1 h2 h3=>zAA (e.wm n h1 h2 h3) (Nat.le_trans h3 hc)⟩
def Chg.ext{h k l:AH}{b:Nat}(e:Ext h k)(hb:h.qa<=b)(c:Chg k b l):Ext h l:=
 ⟨c.ok,Nat.le_trans e.qa c.qa,fun d hd=>(c.get d (xAC hd e.qa) (by omega)).trans (e.get d hd)⟩
def Chg.of_fresh{k l:AH}{b:Nat}(c:Chg k.qb b l):Chg k b ⟨l.t,l.qa,cond (Nat.ble k.wm l.wm) k.wm l.wm⟩:=by
 refine⟨?_,c.qa,fun d hd hb=>c.get d hd hb,fun n h1 h2 h3=>?_⟩
 ·show cond (Nat.ble k.wm l.wm) k.wm l.wm<=l.qa+UNK;have:=c.ok;unfold AH.ok at this;cases hc:Nat.ble k.wm l.wm with
  | true=>rw[ble_true] at hc;simp only[xAG];omega
  | false=>exact this
 ·show n<=cond (Nat.ble k.wm l.wm) k.wm l.wm;cases hc:Nat.ble k.wm l.wm with
  | true=>exact h1
  | false=>exact c.wm n (by rw[zAm];omega) h2 h3
end
def zH3:∀(l acc:List zKI) (k:zKI),k∈zEK l acc->k∈l\/k∈acc
 | [],acc,k,h=>.inr h
 | x::l,acc,k,h=>by
  simp only[zEK] at h;cases hb:acc.any (zK6 x) with
  | true=>rw[hb] at h;exact (zH3 l acc k h).imp (fun h=>by simp[h]) id
  | false=>
   rw[hb] at h;rcases zH3 l (acc++[x]) k h with h|h
   ·exact .inl (by simp[h])
   ·rcases List.mem_append.1 h with h|h
    ·exact .inr h
    ·simp at h;exact .inl (by simp[h])
def zH2:∀(l acc:List zKI) (k:zKI),k∈acc->k∈zEK l acc
 | [],acc,k,h=>h
 | x::l,acc,k,h=>by
  simp only[zEK];cases acc.any (zK6 x) with
  | true=>exact zH2 l acc k h
  | false=>exact zH2 l (acc++[x]) k (by simp[h])
def zek(l:List zKI)(h:l≠[]):zEK l []≠[]:=by
 cases l with
 | nil=>exact absurd rfl h
 | cons x l=>
  simp only[zEK,List.any_nil,xAH,List.nil_append];intro e;have:=zH2 l [x] x (by simp);rw[e] at this;cases this
def zUQ{h0:AH}{l:List (Value×AH)}(h:l≠[]):zEF h0 l≠[]:=by
 rcases zCa h0 l with ⟨x,rfl,e⟩|e
 ·rw[e];simp
 ·rw[e];unfold zB4;cases ((l.map (zBQ h0)).all (zD9 h0)) with
  | true=>
   simp only[xAG];intro e';have:=List.map_eq_nil_iff.1 e';exact zek _ (by simpa using h) this
  | false=>simpa using h
def zQp{h0:AH}{l:List (Value×AH)}{y:Value×AH}(hy:y∈zEF h0 l) :
  ∃ x∈l,y=zBQ h0 x\/y=((zBQ h0 x).1,zDV h0 (zBQ h0 x).2 (zEJ (zBQ h0 x).2 h0.qa 1000 (zDm 4 (zBQ h0 x).1) [])):=by
 rcases zCa h0 l with ⟨x,rfl,e⟩|e
 ·rw[e] at hy;simp at hy;exact⟨x,by simp,.inl hy⟩
 ·rw[e] at hy;unfold zB4 at hy;cases hc:((l.map (zBQ h0)).all (zD9 h0)) with
  | true=>
   rw[hc] at hy;simp only[xAG] at hy;obtain⟨k,hk,rfl⟩:=List.mem_map.1 hy;rcases zH3 _ _ _ hk with hk|hk
   ·obtain⟨z,hz,rfl⟩:=List.mem_map.1 hk;obtain⟨x,hx,rfl⟩:=List.mem_map.1 hz;exact⟨x,hx,.inr rfl⟩
   ·cases hk
  | false=>
   rw[hc] at hy;simp only[xAH] at hy;obtain⟨x,hx,rfl⟩:=List.mem_map.1 hy;exact⟨x,hx,.inl rfl⟩
def AH.kept(h0:AH)(v:Value)(h:AH):AH:=zDV h0 h (zEJ h h0.qa 1000 (zDm 4 v) [])
def AH.wmTo(h:AH)(w:Nat):AH:=⟨h.t,h.qa,cond (Nat.ble w h.wm) w h.wm⟩
def zVw{P:Env}{s:Bool}{f:FuncId}{fn:Func}{c:Code}{args:List Value}{h:AH}{Rp:Value->AH->Prop}(hf:P.tab.fn.get f=some fn)(hb:fn.body=some c)(aF:P.sum f args h=none)(hl:Nat.ble (zBH args) fn.ntmps=true)
  (cP:Ev s (R.andThen (evC P (zV P) none (zc fn) ⟨⟨fn.ntmps,zCB args 0 .e⟩,h.qb,[]⟩) (zAW P fn)) fun x=>zg x.1=false/\Rp x.1 (x.2.wmTo h.wm)/\Rp x.1 ((AH.kept h.qb x.1 x.2).wmTo h.wm)) :
  Ev false ((zV P).call f args h) fun x=>Rp x.1 x.2:=by
 rw[zBT hf hb aF hl];obtain⟨l,e,ah,_,ct⟩:=cP;rw[e];refine⟨(zEF h.qb l).map (zUU h.wm),rfl,by simpa using zUQ ah,(fun h=>by cases h),fun y hy=>?_⟩;obtain⟨z,hz,rfl⟩:=List.mem_map.1 hy;obtain⟨x,hx,hh⟩:=zQp hz;obtain⟨a,b,c⟩:=ct x hx;have hr:zBQ h.qb x=x:=by unfold zBQ;rw[a];simp
 rw[hr] at hh;rcases hh with rfl|rfl
 ·exact b
 ·exact c
def zmz:List Nat->List Value->List (Nat×Value)
 | [],_=>[]
 | _,[]=>[]
 | t::ts,v::vs=>(t,v)::zmz ts vs
def PI(C:Cx)(K:KF)(i:Nat)(vs:List Value)(h:AH):Prop:=match lnth C.lv i with
 | some x=>SP C K x.1 (zmz x.2 vs) h
 | none=>False
def znP(C:Cx)(K:KF)(i:Nat)(vs:List Value)(h:AH):Prop:=match lnth C.lv i with
 | some x=>zeQ C K x.1 (zk (zmz x.2 vs)) h
 | none=>False
def zsq(C:Cx)(i:Nat)(vs:List Value):Bool:=match lnth C.lv i with
 | some x=>zr1 C x.1&&zL9 (zUs x.1 C.lv) x.2&&Nat.beq (zBH x.2) (zBH vs)
 | none=>false
def zO6:∀(l:List Nat) (vs:List Value),zBH l=zBH vs->(zmz l vs).map (·.1)=l
 | [],vs,_=>rfl
 | t::ts,[],h=>by simp[zBH] at h
 | t::ts,v::vs,h=>by simp only[zmz,List.map_cons];rw[zO6 ts vs (by simpa[zBH] using h)]
def zIH:∀ {l m:List Nat},zL9 l m=true->l=m
 | [],[],_=>rfl
 | a::l,b::m,h=>by
  simp only[zL9,xAP] at h;rw[beq_true.1 h.1,zIH h.2]
 | [],_::_,h=>by cases h
 | _::_,[],h=>by cases h
def zB{C:Cx}{K:KF}{i:Nat}{vs:List Value}{h:AH}{Q:Prop}(H:Q)(hc:zsq C i vs=true:=by kernel_rfl)(hk:znP C K i vs h=Q:=by kernel_rfl):PI C K i vs h:=by
 rw[← hk] at H;unfold PI;unfold znP at H;unfold zsq at hc;split at hc
 ·rename_i x hx;simp only[xAP,beq_true] at hc;obtain⟨⟨h1,h2⟩,h3⟩:=hc;have h2:=zIH h2;simp only[hx] at H ⊢;exact zUE h1 (by rw[zO6 _ _ h3,h2]) H
 ·cases hc
variable {P:Env} {s:Bool} {f:FuncId} {fn:Func} {args:List Value} {h:AH} {v:Value}
abbrev EvC(P:Env)(s:Bool)(fn:Func)(args:List Value)(h:AH)(Rp:Value->AH->Prop):Prop:=
 Ev s (R.andThen (evC P (zV P) none (zc fn) ⟨⟨fn.ntmps,zCB args 0 .e⟩,h,[]⟩) (zAW P fn)) fun x=>Rp x.1 x.2
def zAD(C:Cx){Rp:Value->AH->Prop}{Q:Prop}(H:Q)(hP:C.P=P:=by rfl)(hs:C.s=s:=by rfl)(h1:C.B=zc fn:=by rfl)(h2:C.ro=none:=by rfl)(h3:C.rt=zjz fn.results.toList:=by kernel_rfl)(h4:C.D=[]:=by rfl)
  (c8:subN (zH0 C 30 (rs C.B 60 (.at []))) ((zeI 0 args).map (·.1))=true:=by kernel_rfl) (aV:zHz ((zeI 0 args).map (·.1))=true:=by kernel_rfl)
  (hk:zDP C (KR P fn.results.toList Rp) 30 (rs C.B 60 (.at [])) (zk (zeI 0 args)) h=Q:=by kernel_rfl):EvC P s fn args h Rp:=
 zk4 hP hs ⟨h1,h2,h3,h4⟩ c8 aV (hk ▸ H)
def zAz(fn:Func)(aa:h.ok)(hv:zo v=true)(H:EvC P s fn args h.qb fun x k=>x=v/\h.qa<=k.wm)(h1:P.tab.fn.get f=some fn:=by kernel_rfl)(h2:fn.body=some (zc fn):=by kernel_rfl)(h3:P.sum f args h=none:=by kernel_rfl)(h4:Nat.ble (zBH args) fn.ntmps=true:=by kernel_rfl):(zV P).call f args h=some [(v,h)]:=
 zMG aa h1 h2 h3 h4 hv H
def zDn(fn:Func)(aa:h.ok)(hv:zg v=true)(H:EvC P true fn args h.qb fun x k=>x=v/\h.qa<=k.wm)(h1:P.tab.fn.get f=some fn:=by kernel_rfl)(h2:fn.body=some (zc fn):=by kernel_rfl)(h3:P.sum f args h=none:=by kernel_rfl)(h4:Nat.ble (zBH args) fn.ntmps=true:=by kernel_rfl):(zV P).call f args h=some [(v,h)]:=
 zJv aa h1 h2 h3 h4 hv H
def zDW(fn:Func){Rp:Value->Prop}(aa:h.ok)(H:EvC P true fn args h.qb fun x k=>(zg x=true/\Rp x)/\h.qa<=k.wm)(h1:P.tab.fn.get f=some fn:=by kernel_rfl)(h2:fn.body=some (zc fn):=by kernel_rfl)(h3:P.sum f args h=none:=by kernel_rfl)(h4:Nat.ble (zBH args) fn.ntmps=true:=by kernel_rfl):∃ v,Rp v/\(zV P).call f args h=some [(v,h)]:=
 zRd aa h1 h2 h3 h4 H
def zHk(fn:Func){Rp:Value->AH->Prop}(H:EvC P true fn args h.qb fun x k=>(zg x=false\/k.wm<h.qa)/\Rp x ⟨k.t,k.qa,cond (Nat.ble h.wm k.wm) h.wm k.wm⟩)(h1:P.tab.fn.get f=some fn:=by kernel_rfl)(h2:fn.body=some (zc fn):=by kernel_rfl)(h3:P.sum f args h=none:=by kernel_rfl)(h4:Nat.ble (zBH args) fn.ntmps=true:=by kernel_rfl):Ev true ((zV P).call f args h) fun x=>Rp x.1 x.2:=
 zVv h1 h2 h3 h4 H
end Go.AM
namespace Go.AM
open Go Go.Proofs Go.RowKit
def zeO(raw:Tr TypeInfo)(i:TypeInfo):Bool:=
 (match i.desc with
  | .named _ u=>(match raw.get u with|some _=>true|none=>false)
  | _=>true) &&
 (match i.zero with
  | some z=>zEZ 4 z
  | none=>true)
def tysOk(P:Program):Bool:=let raw:=Tr.ofList 40 P.types.toList;P.types.toList.all (zeO raw)
def fnOk(g:Func):Bool:=match g.body with
 | some c=>fits g.ntmps c&&!(g.name=="runtime.NumGoroutine")
 | none=>true
def zVP{P:Program}{t:TypeId}{info:TypeInfo}(h:P.types[t]?=some info):P.info? t=some info:=by
 unfold Tables.info?;rw[if_pos (Array.getElem?_eq_some_iff.1 h).1];exact h
def ze0{P:Program}{ext:List (FuncId×Nat)}{sum:FuncId->List Value->AH->Option (List (Value×AH))}(h1:tysOk P=true)(h2:P.funcs.toList.all fnOk=true)(h3:P.follows .mixedOrders=true):zCg (zH1 P ext sum):=by
 have hty:∀ t i,(zH1 P ext sum).tab.ty.get t=some i->∃ info,P.types[t]?=some info/\i=zqo (Tr.ofList 40 P.types.toList) info:=by
  intro t i h;have:=Tr.get_ofList _ _ _ _ h;rw[List.getElem?_map] at this;cases hx:P.types.toList[t]? with
  | none=>rw[hx] at this;cases this
  | some info=>
   rw[hx] at this;simp only[Option.map_some,xAN] at this;exact⟨info,by rw[← Array.getElem?_toList];exact hx,this.symm⟩
 have aa:∀ {t:Nat} {info:TypeInfo},P.types[t]?=some info->zeO (Tr.ofList 40 P.types.toList) info=true:=by
  intro t info h;exact List.all_eq_true.1 h1 info (List.mem_of_getElem? (by rw[Array.getElem?_toList];exact h))
 have gz:∀ f g,(zH1 P ext sum).tab.fn.get f=some g->P.funcs[f]?=some g/\fnOk g=true:=by
  intro f g h;have:=Tr.get_ofList _ _ _ _ h;exact⟨by rw[← Array.getElem?_toList];exact this,List.all_eq_true.1 h2 g (List.mem_of_getElem? this)⟩
 refine⟨?_,?_,?_,?_,h3,?_⟩
 ·intro t i h;obtain⟨info,q1,rfl⟩:=hty t i h;have h1:=aa q1;have hi:P.info? t=some info:=zVP q1;refine⟨info,hi,?_⟩;unfold zeO at h1;rw[xAP] at h1;obtain⟨k1,_⟩:=h1;show P.underlying t=_/\_;unfold Program.underlying zqo;rw[hi];cases hd:info.desc with
  | named nm u=>
   rw[hd] at k1;simp only at k1;split at k1
   ·rename_i j hj;have fh:P.types[u]?=some j:=by rw[← Array.getElem?_toList];exact Tr.get_ofList _ _ _ _ hj
    have hju:P.info? u=some j:=zVP fh;obtain⟨d1,d2⟩:=info;simp only at hd;subst hd;simp[hj,hju]
    try (cases j.desc <;> rfl)
   ·cases k1
  | _=>
   obtain⟨d1,d2⟩:=info;simp only at hd;subst hd;simp
 ·intro t i z h hz;obtain⟨info,q1,rfl⟩:=hty t i h;have h1:=aa q1;unfold zeO at h1;rw[xAP] at h1;have fR:info.zero=some z:=by
   rw[← hz];unfold zqo;cases hd:info.desc <;> simp;split <;> rfl
  have h2:=h1.2;rw[fR] at h2;exact h2
 ·intro f g h;obtain⟨q1,q2⟩:=gz f g h;refine⟨q1,fun c hc=>?_⟩;unfold fnOk at q2;rw[hc] at q2;simp only[xAP] at q2;exact q2.1
 ·intro f g c h hc;obtain⟨q1,q2⟩:=gz f g h;unfold fnOk at q2;rw[hc] at q2;simp only[xAP,Bool.not_eq_true'] at q2;exact q2.2
 ·show 2<=P.depth;unfold Program.depth;omega
def zVc(P:Program):∀ {ext:List (FuncId×Nat)} {f:FuncId} {c:Nat},(zH1 P ext sum).tab.ext.get f=some c->(f,c)∈ext
 | [],f,c,h=>by cases h
 | (g,d)::ext,f,c,h=>by
  have e:(zH1 P ((g,d)::ext) sum).tab.ext=(zH1 P ext sum).tab.ext.set (g+1) g (some d):=rfl;rw[e,Tr.get_set _ _ _ _ _ (Nat.lt_succ_self g)] at h;split at h
  ·rename_i hf;cases h;subst hf;simp
  ·exact List.mem_cons_of_mem _ (zVc P h)
def zEH:∀(l:List UInt8) (c:UInt8),Lib.indexByte l c=-1\/0<=Lib.indexByte l c
 | [],c=>.inl rfl
 | b::l,c=>by
  simp only[Lib.indexByte];split
  ·exact .inr (by omega)
  ·split
   ·exact .inl rfl
   ·rename_i h;rcases zEH l c with h'|h'
    ·rw[h'] at h;simp at h
    ·exact .inr (by omega)
def zJf:∀(l:List UInt8) (c:UInt8) (i:Nat),zFN l c i=(if Lib.indexByte l c=-1 then -1 else Lib.indexByte l c+i)
 | [],c,i=>by simp[zFN,Lib.indexByte]
 | b::l,c,i=>by
  simp only[zFN,Lib.indexByte];by_cases hb:b=c
  ·subst hb;simp
  ·have hn:¬ (Nat.beq b.toNat c.toNat=true):=by rw[beq_true];intro h;exact hb (UInt8.toNat_inj.1 h)
   have ao:(b==c)=false:=by simpa using hb
   rw[if_neg hn,zJf l c (i+1)];simp only[ao,Bool.false_eq_true,if_false];rcases zEH l c with h|h
   ·simp[h]
   ·have h1:¬ Lib.indexByte l c=-1:=by omega
    have h2:¬ (Lib.indexByte l c+1=-1):=by omega
    simp only[h1,if_false,beq_iff_eq,h2];omega
def zLw(l:List UInt8)(c:UInt8):zFN l c 0=Lib.indexByte l c:=by
 rw[zJf];split
 ·rename_i h;exact h.symm
 ·simp
end Go.AM
namespace Go.Proofs
open Go Go.Proofs Go.AM
def zVO(args:List Value)(h:AH):Option (List (Value×AH)):=match args with
 | [.slice (some ⟨b,0,none⟩) n cap,iI (.ofNat i),.slice (some ⟨c,0,none⟩) 1 1]=>
  (match h.get b,h.get c with
  | some (.row vs 36 2 false),some (rO us 36)=>
   cond (Nat.beq cap (UNK+2)&&Nat.ble i n&&Nat.beq (zBH vs) (n*2)&&Nat.beq (zBH us) 2&&!Nat.beq b c&&vs.all zq&&us.all zq&&Nat.ble n 100000)
    (some [(.slice (some ⟨h.qa,0,none⟩) (n+1) (UNK+2),(h.upd b none).new (.row (zE1 (i*2) vs++us++zGW (i*2) vs) 36 2 false))]) none
  | _,_=>none)
 | _=>none
def zUS(args:List Value)(h:AH):Option (List (Value×AH)):=match args with
 | []=>some [(.bool true,h)]
 | _=>none
def zVT(args:List Value)(h:AH):Option (List (Value×AH)):=match args with
 | [.slice none 0 0,iI (.ofNat n)]=>cond (Nat.beq n 0) (some [(.slice none 0 0,h)]) (cond (Nat.ble n 1000000) (some [(.slice (some ⟨h.qa,0,none⟩) 0 (UNK+2),h.new (.row [] 54 2 false))]) none)
 | _=>none
def zVN(f:FuncId)(args:List Value)(h:AH):Option (List (Value×AH)):=match Nat.beq f 191 with
 | true=>zVO args h
 | false=>(match Nat.beq f 13 with
  | true=>zUS args h
  | false=>(match Nat.beq f 160 with
   | true=>zVT args h
   | false=>none))
def E:Env:=zH1 Tryz.prog [(172,1),(284,2)] zVN
end Go.Proofs
namespace Go.Proofs
open Go Go.Proofs Go.AM
def zLL:und E 22=some (.slice 36):=by kernel_rfl
def ziw:zEc E 22=some 36:=by kernel_rfl
def zON{b o len c k:Nat}(h:k<len):zE E 22 (some (.slice (some ⟨b,o,none⟩) len c)) (some (iI (k:Int)))=some (.pointer (some ⟨b,o+k*2,none⟩)):=zAb zLL (by kernel_rfl) h
def zT4:und E 23=some (.slice 52):=by kernel_rfl
def zkV{b o len c k:Nat}(h:k<len):zE E 23 (some (.slice (some ⟨b,o,none⟩) len c)) (some (iI (k:Int)))=some (.pointer (some ⟨b,o+k*3,none⟩)):=zAb zT4 (by kernel_rfl) h
def ziS:und E 26=some (.slice 54):=by kernel_rfl
def zkU{b o len c k:Nat}(h:k<len):zE E 26 (some (.slice (some ⟨b,o,none⟩) len c)) (some (iI (k:Int)))=some (.pointer (some ⟨b,o+k*2,none⟩)):=zAb ziS (by kernel_rfl) h
def zT3:und E 34=some (.slice 173):=by kernel_rfl
def zVR{b o len c k:Nat}(h:k<len):zE E 34 (some (.slice (some ⟨b,o,none⟩) len c)) (some (iI (k:Int)))=some (.pointer (some ⟨b,o+k*3,none⟩)):=zAb zT3 (by kernel_rfl) h
def zLK:und E 47=some (.slice 3):=by kernel_rfl
def ziv:zEc E 47=some 3:=by kernel_rfl
def zVQ{b o len c k:Nat}(h:k<len):zE E 47 (some (.slice (some ⟨b,o,none⟩) len c)) (some (iI (k:Int)))=some (.pointer (some ⟨b,o+k*1,none⟩)):=zAb zLK (by kernel_rfl) h
def ziR:und E 54=some (.array 2 3):=by kernel_rfl
def zn7{b o k:Nat}(h:k<2):zE E 54 (some (.pointer (some ⟨b,o,none⟩))) (some (iI (k:Int)))=some (.pointer (some ⟨b,o+k*1,none⟩)):=zOM ziR (by kernel_rfl) h
def zm8:und E 82=some (.slice 25):=by kernel_rfl
def zes{b o len c k:Nat}(h:k<len):zE E 82 (some (.slice (some ⟨b,o,none⟩) len c)) (some (iI (k:Int)))=some (.pointer (some ⟨b,o+k*3,none⟩)):=zAb zm8 (by kernel_rfl) h
def zm7:und E 83=some (.slice 32):=by kernel_rfl
def zrx{b o len c k:Nat}(h:k<len):zE E 83 (some (.slice (some ⟨b,o,none⟩) len c)) (some (iI (k:Int)))=some (.pointer (some ⟨b,o+k*2,none⟩)):=zAb zm7 (by kernel_rfl) h
def zT6:und E 126=some (.slice 128):=by kernel_rfl
def zko:zEc E 126=some 128:=by kernel_rfl
def zPn{b o len c k:Nat}(h:k<len):zE E 126 (some (.slice (some ⟨b,o,none⟩) len c)) (some (iI (k:Int)))=some (.pointer (some ⟨b,o+k*1,none⟩)):=zAb zT6 (by kernel_rfl) h
def zT5:und E 129=some (.slice 132):=by kernel_rfl
def zkn:zEc E 129=some 132:=by kernel_rfl
def zIC{b o len c k:Nat}(h:k<len):zE E 129 (some (.slice (some ⟨b,o,none⟩) len c)) (some (iI (k:Int)))=some (.pointer (some ⟨b,o+k*1,none⟩)):=zAb zT5 (by kernel_rfl) h
def zHb:und E 132=some (.slice 134):=by kernel_rfl
def zkm:zEc E 132=some 134:=by kernel_rfl
def zv{b o len c k:Nat}(h:k<len):zE E 132 (some (.slice (some ⟨b,o,none⟩) len c)) (some (iI (k:Int)))=some (.pointer (some ⟨b,o+k*2,none⟩)):=zAb zHb (by kernel_rfl) h
def zT7:zAg E 3=some 1:=by kernel_rfl
def zAa:tAS E 3=some (false,1):=by kernel_rfl
def z_3:zAL E 3=some (iI 0):=by kernel_rfl
def zse:zAg E 4=some 1:=by kernel_rfl
def ta_4:tAS E 4=some (false,1):=by kernel_rfl
def zrA:zAg E 22=some 1:=by kernel_rfl
def zHc:tAS E 22=some (false,1):=by kernel_rfl
def zKT:tAS E 23=some (false,1):=by kernel_rfl
def znD:zAg E 25=some 3:=by kernel_rfl
def zDh:tAS E 25=some (true,3):=by kernel_rfl
def zql:zAL E 25=some (.agg #[(iI 0),(.slice none 0 0),(.slice none 0 0)]):=by kernel_rfl
def zq9:zAg E 26=some 1:=by kernel_rfl
def zT9:tAS E 26=some (false,1):=by kernel_rfl
def znB:zAg E 32=some 2:=by kernel_rfl
def zQl:tAS E 32=some (true,2):=by kernel_rfl
def zqk:zAL E 32=some (.agg #[(iI 0),(.slice none 0 0)]):=by kernel_rfl
def zDv:tAS E 34=some (false,1):=by kernel_rfl
def zjg:zAg E 36=some 2:=by kernel_rfl
def zE0:tAS E 36=some (true,2):=by kernel_rfl
def zqj:zAL E 36=some (.agg #[(iI 0),(.slice none 0 0)]):=by kernel_rfl
def zjf:zAg E 52=some 3:=by kernel_rfl
def zQk:tAS E 52=some (true,3):=by kernel_rfl
def zqx:zAL E 52=some (.agg #[(iI 0),(iI 0),(iI 0)]):=by kernel_rfl
def znA:zAg E 54=some 2:=by kernel_rfl
def zQj:tAS E 54=some (true,2):=by kernel_rfl
def zqi:zAL E 54=some (.agg #[(iI 0),(iI 0)]):=by kernel_rfl
def znO:tAS E 109=some (false,1):=by kernel_rfl
def znH:zAg E 112=some 3:=by kernel_rfl
def ziV:tAS E 112=some (true,3):=by kernel_rfl
def zm0:zAL E 112=some (.agg #[.nilFunc,.nilFunc,(.string ⟨#[]⟩)]):=by kernel_rfl
def znG:zAg E 113=some 9:=by kernel_rfl
def znM:tAS E 113=some (true,9):=by kernel_rfl
def zq2:zAL E 113=some (.agg #[.nilFunc,.nilFunc,(.string ⟨#[]⟩),.nilFunc,.nilFunc,(.string ⟨#[]⟩),.nilFunc,.nilFunc,(.string ⟨#[]⟩)]):=by kernel_rfl
def zCJ:tAS E 128=some (false,1):=by kernel_rfl
def znF:zAg E 129=some 1:=by kernel_rfl
def zEN:tAS E 129=some (false,1):=by kernel_rfl
def zPA:zAg E 132=some 1:=by kernel_rfl
def zCn:tAS E 132=some (false,1):=by kernel_rfl
def zjX:zAL E 132=some (.slice none 0 0):=by kernel_rfl
def zJC:zAg E 134=some 2:=by kernel_rfl
def zEM:tAS E 134=some (true,2):=by kernel_rfl
def zNj:zAL E 134=some (.agg #[(iI 0),(iI 0)]):=by kernel_rfl
def zLM:zAg E 173=some 3:=by kernel_rfl
def zCZ:tAS E 173=some (true,3):=by kernel_rfl
def zeJ:zAL E 173=some (.agg #[(iI 0),(iI 0),(.slice none 0 0)]):=by kernel_rfl
def zLR:tAS E 174=some (false,1):=by kernel_rfl
def zO9:zAg E 176=some 3:=by kernel_rfl
def zLQ:tAS E 176=some (true,3):=by kernel_rfl
def zjW:zAL E 176=some (.agg #[(.pointer none),(.pointer none),(.map none)]):=by kernel_rfl
def ziU:tAS E 178=some (true,3):=by kernel_rfl
def zq1:zAL E 197=some (.agg #[(.slice none 0 0)]):=by kernel_rfl
def znE:zAg E 247=some 1:=by kernel_rfl
def ziT:tAS E 247=some (false,1):=by kernel_rfl
def zq0:zAL E 247=some .nilFunc:=by kernel_rfl
def zqy:zAL E 306=some (.agg #[(iI 0),(iI 0)]):=by kernel_rfl
def zF2{b o:Nat}:zD E 306 1 (some (.pointer (some ⟨b,o,none⟩)))=some (.pointer (some ⟨b,o+1,none⟩)):=by kernel_rfl
def zHW{b o:Nat}:zD E 306 0 (some (.pointer (some ⟨b,o,none⟩)))=some (.pointer (some ⟨b,o+0,none⟩)):=by kernel_rfl
def zF4{b o:Nat}:zD E 173 1 (some (.pointer (some ⟨b,o,none⟩)))=some (.pointer (some ⟨b,o+1,none⟩)):=by kernel_rfl
def zF5{b o:Nat}:zD E 173 0 (some (.pointer (some ⟨b,o,none⟩)))=some (.pointer (some ⟨b,o+0,none⟩)):=by kernel_rfl
def zPv{b o:Nat}:zD E 197 0 (some (.pointer (some ⟨b,o,none⟩)))=some (.pointer (some ⟨b,o+0,none⟩)):=by kernel_rfl
def zA6{b o:Nat}:zD E 134 1 (some (.pointer (some ⟨b,o,none⟩)))=some (.pointer (some ⟨b,o+1,none⟩)):=by kernel_rfl
def zDX{b o:Nat}:zD E 134 0 (some (.pointer (some ⟨b,o,none⟩)))=some (.pointer (some ⟨b,o+0,none⟩)):=by kernel_rfl
def zKv{b o:Nat}:zD E 176 1 (some (.pointer (some ⟨b,o,none⟩)))=some (.pointer (some ⟨b,o+1,none⟩)):=by kernel_rfl
def zew{b o:Nat}:zD E 112 0 (some (.pointer (some ⟨b,o,none⟩)))=some (.pointer (some ⟨b,o+0,none⟩)):=by kernel_rfl
def zPw{b o:Nat}:zD E 176 0 (some (.pointer (some ⟨b,o,none⟩)))=some (.pointer (some ⟨b,o+0,none⟩)):=by kernel_rfl
def zD4{b o:Nat}:zD E 178 0 (some (.pointer (some ⟨b,o,none⟩)))=some (.pointer (some ⟨b,o+0,none⟩)):=by kernel_rfl
def zFO{b o:Nat}:zD E 52 2 (some (.pointer (some ⟨b,o,none⟩)))=some (.pointer (some ⟨b,o+2,none⟩)):=by kernel_rfl
def zEa{b o:Nat}:zD E 52 1 (some (.pointer (some ⟨b,o,none⟩)))=some (.pointer (some ⟨b,o+1,none⟩)):=by kernel_rfl
def zEb{b o:Nat}:zD E 52 0 (some (.pointer (some ⟨b,o,none⟩)))=some (.pointer (some ⟨b,o+0,none⟩)):=by kernel_rfl
def zCY{b o:Nat}:zD E 131 0 (some (.pointer (some ⟨b,o,none⟩)))=some (.pointer (some ⟨b,o+0,none⟩)):=by kernel_rfl
def zF3{b o:Nat}:zD E 176 2 (some (.pointer (some ⟨b,o,none⟩)))=some (.pointer (some ⟨b,o+2,none⟩)):=by kernel_rfl
def zGj{b o:Nat}:zD E 32 1 (some (.pointer (some ⟨b,o,none⟩)))=some (.pointer (some ⟨b,o+1,none⟩)):=by kernel_rfl
def zVb{b o:Nat}:zD E 32 0 (some (.pointer (some ⟨b,o,none⟩)))=some (.pointer (some ⟨b,o+0,none⟩)):=by kernel_rfl
def zAi{b o:Nat}:zD E 173 2 (some (.pointer (some ⟨b,o,none⟩)))=some (.pointer (some ⟨b,o+2,none⟩)):=by kernel_rfl
def zBw{b o:Nat}:zD E 36 0 (some (.pointer (some ⟨b,o,none⟩)))=some (.pointer (some ⟨b,o+0,none⟩)):=by kernel_rfl
def zCS{b o:Nat}:zD E 36 1 (some (.pointer (some ⟨b,o,none⟩)))=some (.pointer (some ⟨b,o+1,none⟩)):=by kernel_rfl
def zBf{b o:Nat}:zD E 25 1 (some (.pointer (some ⟨b,o,none⟩)))=some (.pointer (some ⟨b,o+1,none⟩)):=by kernel_rfl
def zCT{b o:Nat}:zD E 25 2 (some (.pointer (some ⟨b,o,none⟩)))=some (.pointer (some ⟨b,o+2,none⟩)):=by kernel_rfl
def zA3{b o:Nat}:zD E 25 0 (some (.pointer (some ⟨b,o,none⟩)))=some (.pointer (some ⟨b,o+0,none⟩)):=by kernel_rfl
end Go.Proofs
