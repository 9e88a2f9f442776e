import Derived.Laws.Bits64
import Derived.Laws.StructEq
import Derived.Test.YthmnhjcmefjgjaaGreatDoorXAF
import Derived.Test.YthmnhjcmefjgjaaGreatDoorXAE
import Derived.Test.YthmnhjcmefjgjaaGreatDoorXAI
import Derived.Test.YthmnhjcmefjgjaaGreatDoorXAG
import Derived.Test.YthmnhjcmefjgjaaGreatDoorXAD
import Derived.Test.YthmnhjcmefjgjaaGreatDoorXAH
set_option linter.all false
set_option linter.unusedSectionVars false
set_option autoImplicit true
set_option relaxedAutoImplicit true
namespace Go.Proofs
open Go Go.AM
set_option maxRecDepth 100000
set_option maxHeartbeats 1000000
abbrev sV (l:Bs):Value:=.string ⟨l.toArray⟩
theorem sz (l:Bs):(⟨l.toArray⟩:ByteArray).size=l.length:=by show l.toArray.size=_;simp
theorem tl (l:Bs):(⟨l.toArray⟩:ByteArray).toList=l:=by rw [Lib.toList_data]
theorem ex (l:Bs) (i j:Nat):(⟨l.toArray⟩:ByteArray).extract i j=⟨((l.drop i).take (j-i)).toArray⟩:=by
 apply ByteArray.ext
 apply Array.ext'
 rw [Lib.extract_data]
theorem apB (l m:Bs):(⟨l.toArray⟩:ByteArray)++⟨m.toArray⟩=⟨(l++m).toArray⟩:=by
 apply ByteArray.ext
 apply Array.ext'
 simp
noncomputable def runF (x:Sem Value):Option Value:=match pureRun E.prog (Sem.bind x fun v=>Sem.pure (Next.value v)) with
 | some (.value v)=>cond (isFlat v) (some v) none
 | _=>none
theorem sl_add {l m:Bs} (h:l.length+m.length<=9223372036854775807):runF (Op.stringOp .add ⟨l.toArray⟩ ⟨m.toArray⟩)=some (sV (l++m)):=by
 have h':¬ (((⟨l.toArray⟩:ByteArray).size+(⟨m.toArray⟩:ByteArray).size:Nat):Int) > IntKind.i64.max:=by
  rw [sz,sz]
  show ¬ _ > (9223372036854775807:Int)
  omega
 have:Op.stringOp .add ⟨l.toArray⟩ ⟨m.toArray⟩=Sem.pure (.string ((⟨l.toArray⟩:ByteArray)++⟨m.toArray⟩)):=by
  show (if (((⟨l.toArray⟩:ByteArray).size+(⟨m.toArray⟩:ByteArray).size:Nat):Int) > IntKind.i64.max then _ else _)=_
  rw [if_neg h'];rfl
 rw [this,apB];rfl
theorem eqd {a b:Bs}:((⟨a.toArray⟩:ByteArray).toList==(⟨b.toArray⟩:ByteArray).toList)=decide (a=b):=by rw [tl,tl,Bool.eq_iff_iff];simp
def stp (L:GL) (s:Int) (c:CL) (s':Int):Prop:=∃ e∈L.eds,e.1=s/\L.labs[e.2.1.toNat]?=some c/\e.2.2=s'
inductive Sil (L:GL) (s:Int):Int->Prop
 | refl:Sil L s s
 | step {t u:Int} {c:CL} (h:Sil L s t) (e:stp L t c u) (hc:c.1=-1):Sil L s u
def Fol (kind:Int) (L M:GL) (R:List (Int×Int)):Prop:=∀ s t c s',(s,t)∈R->stp L s c s'->
 if kind=1 then ∃ t',stp M t c t'/\(s',t')∈R else ∃ u,Sil M t u/\(s,u)∈R/\((c.1=-1/\(s',u)∈R)\/∃ t',stp M u c t'/\(s',t')∈R)
theorem stp_rng {L:GL} (hL:badLts L=false) {s s':Int} {c:CL} (h:stp L s c s'):(0<=s/\s<L.n)/\(0<=s'/\s'<L.n)/\c∈L.labs:=by
 obtain ⟨e,he,rfl,hc,rfl⟩:=h
 obtain ⟨j,hj⟩:=List.getElem?_of_mem he
 obtain ⟨d1,d2,_⟩:=bad_edges hL hj
 exact ⟨d1,d2,List.mem_of_getElem? hc⟩
theorem steps_iff {L:GL} (hL:badLts L=false) {cs:List CL} {s:Int} (hs:0<=s) {S:Steps} (hS:(stepsOf (L.labs.map (numOf cs)) L)[s.toNat]?=some S) (n s':Int):(n,s')∈S ↔ ∃ c,stp L s c s'/\n=numOf cs c:=by
 rw [stepsOf_mem hS]
 constructor
 ·rintro ⟨e,he,h1,h2⟩
  obtain ⟨j,hj⟩:=List.getElem?_of_mem he
  obtain ⟨d1,_,d3,d4⟩:=bad_edges hL hj
  obtain ⟨c,hc⟩:∃ c,L.labs[e.2.1.toNat]?=some c:=⟨_,List.getElem?_eq_getElem (by omega)⟩
  have hv:stepV (L.labs.map (numOf cs)) e=(numOf cs c,e.2.2):=by simp [stepV,hc]
  rw [hv] at h2
  exact ⟨c,⟨e,he,by omega,hc,(Prod.mk.inj h2).2.symm⟩,(Prod.mk.inj h2).1⟩
 ·rintro ⟨c,⟨e,he,h1,hc,h2⟩,rfl⟩
  exact ⟨e,he,by rw [h1],by simp [stepV,hc,h2]⟩
theorem strong_iff {L M:GL} {cs:List CL} {R:List (Int×Int)} (c1:Sorted cs) (c2:∀ c∈L.labs,c.1≠-1->c∈cs) (c3':∀ c∈M.labs,c.1≠-1->c∈cs) (hL:badLts L=false) (hM:badLts M=false) {c:CL} (hc:c∈L.labs) {u s':Int} (hu:0<=u/\u<M.n) :
  strongAt R (stepsOf (M.labs.map (numOf cs)) M) u (numOf cs c,s')=true ↔ ∃ t',stp M u c t'/\(s',t')∈R:=by
 obtain ⟨S,hS⟩:∃ S,(stepsOf (M.labs.map (numOf cs)) M)[u.toNat]?=some S:=⟨_,List.getElem?_eq_getElem (by rw [stepsOf_len];omega)⟩
 unfold strongAt
 simp only [hS,strongB,List.any_eq_true,stepIs,Bool.and_eq_true,decide_eq_true_eq]
 constructor
 ·rintro ⟨⟨n,t'⟩,hy,h1,h2⟩
  simp only at h1 h2
  obtain ⟨d,hd,e⟩:=(steps_iff hM hu.1 hS n t').1 hy
  have hdm:=(stp_rng hM hd).2.2
  have:d=c:=by
   rcases numOf_inj c1 (c3' d hdm) (c2 c hc) (e.symm.trans h1) with ⟨e1,e2⟩|e
   ·obtain ⟨i,hi⟩:=List.getElem?_of_mem hdm
    obtain ⟨j,hj⟩:=List.getElem?_of_mem hc
    have a1:=labs_bare hM hi e1
    have a2:=labs_bare hL hj e2
    obtain ⟨g1,l1⟩:=d
    obtain ⟨g2,l2⟩:=c
    simp only at e1 e2 a1 a2
    rw [e1,e2,a1,a2]
   ·exact e
  exact ⟨t',this ▸ hd,h2⟩
 ·rintro ⟨t',h1,h2⟩
  exact ⟨(numOf cs c,t'),(steps_iff hM hu.1 hS _ _).2 ⟨c,h1,rfl⟩,rfl,h2⟩
theorem num_zero {cs:List CL} {c:CL}:numOf cs c=0 ↔ c.1=-1:=⟨numOf_zero,fun h=>by unfold numOf;rw [if_pos h]⟩
theorem fold_pre:∀ (S:Steps) (l:List Int),∃ t,S.foldl addS l=l++t
 | [],l=>⟨[],by simp⟩
 | y::S,l=>by
  obtain ⟨t,ht⟩:=fold_pre S (addS l y)
  obtain ⟨t1,h1⟩:∃ t1,addS l y=l++t1:=by
   unfold addS
   split
   ·exact ⟨_,rfl⟩
   ·exact ⟨[],by simp⟩
  exact ⟨t1++t,by rw [List.foldl_cons,ht,h1,List.append_assoc]⟩
theorem fold_all:∀ (S:Steps) (l:List Int) (y:Int×Int),y∈S->y.1=0->y.2∈S.foldl addS l
 | x::S,l,y,hy,h0=>by
  rw [List.foldl_cons]
  rcases List.mem_cons.1 hy with rfl|hy
  ·obtain ⟨t,ht⟩:=fold_pre S (addS l y)
   rw [ht]
   refine List.mem_append_left _ ?_
   unfold addS
   split
   ·simp
   ·rename_i hn
    simp only [not_and,Classical.not_not] at hn
    exact hn h0
  ·exact fold_all S _ y hy h0
theorem bfs_not {TT:List Steps} {body:Int->Bool} (hv:∀ (i:Nat) (S:Steps),TT[i]?=some S->∀ y∈S,0<=y.2/\y.2<(TT.length:Int)) :
  ∀ (f i:Nat) (l:List Int),l.Nodup->(∀ u∈l,0<=u/\u<(TT.length:Int))->TT.length<=f+i->(∀ (j:Nat) (u:Int),j<i->l[j]?=some u->body u=false/\∀ S,TT[u.toNat]?=some S->∀ y∈S,y.1=0->y.2∈l)->bfs TT body f i l=false->
   ∃ l':List Int,(∀ u∈l,u∈l')/\∀ u∈l',body u=false/\∀ S,TT[u.toNat]?=some S->∀ y∈S,y.1=0->y.2∈l':=by
 intro f
 induction f with
 | zero=>
  intro i l hn hr hf hp _
  have:=nodup_bound TT.length l hn hr
  refine ⟨l,fun _ h=>h,fun u hu=>?_⟩
  obtain ⟨j,hj⟩:=List.getElem?_of_mem hu
  exact hp j u (by have:=(List.getElem?_eq_some_iff.1 hj).1;omega) hj
 | succ f ih=>
  intro i l hn hr hf hp hb
  simp only [bfs] at hb
  split at hb
  ·rename_i hi
   refine ⟨l,fun _ h=>h,fun u hu=>?_⟩
   obtain ⟨j,hj⟩:=List.getElem?_of_mem hu
   refine hp j u ?_ hj
   have h1:=(List.getElem?_eq_some_iff.1 hj).1
   have h2:=List.getElem?_eq_none_iff.1 hi
   omega
  ·rename_i u hu
   simp only [Bool.or_eq_false_iff] at hb
   obtain ⟨S,hS⟩:∃ S,TT[u.toNat]?=some S:=⟨_,List.getElem?_eq_getElem (by have:=hr u (List.mem_of_getElem? hu);omega)⟩
   have hnx:nextL TT l u=S.foldl addS l:=by unfold nextL;rw [hS]
   rw [hnx] at hb
   obtain ⟨t,ht⟩:=fold_pre S l
   have sub:∀ x∈l,x∈S.foldl addS l:=fun x hx=>by rw [ht];exact List.mem_append_left _ hx
   obtain ⟨l',h1,h2⟩:=ih (i+1) (S.foldl addS l) (fold_nodup hn) (fun x hx=>by
    rcases fold_mem hx with h|⟨y,hy,rfl⟩
    ·exact hr x h
    ·exact hv _ S hS y hy) (by omega) (fun j v hj hjv=>by
    have hil:=(List.getElem?_eq_some_iff.1 hu).1
    rw [ht,List.getElem?_append_left (by omega)] at hjv
    rcases Nat.lt_succ_iff_lt_or_eq.1 hj with h|h
    ·obtain ⟨a,b⟩:=hp j v h hjv
     exact ⟨a,fun S' hS' y hy h0=>sub _ (b S' hS' y hy h0)⟩
    ·subst h
     rw [hu] at hjv
     cases hjv
     refine ⟨hb.1,fun S' hS' y hy h0=>?_⟩
     rw [hS] at hS'
     cases hS'
     exact fold_all S l y hy h0) hb.2
   exact ⟨l',fun x hx=>h1 x (sub x hx),h2⟩
theorem bfs_P {TT:List Steps} {body:Int->Bool} {P:Int->Prop} (hc:∀ u,P u->∀ S,TT[u.toNat]?=some S->∀ y∈S,y.1=0->P y.2) :
  ∀ (f i:Nat) (l:List Int),(∀ u∈l,P u)->bfs TT body f i l=true->∃ u,P u/\body u=true
 | 0,i,l,_,h=>by simp [bfs] at h
 | f+1,i,l,hl,h=>by
  simp only [bfs] at h
  split at h
  ·cases h
  ·rename_i u hu
   have hm:=hl u (List.mem_of_getElem? hu)
   rcases Bool.or_eq_true_iff.1 h with h|h
   ·exact ⟨u,hm,h⟩
   ·refine bfs_P hc f (i+1) _ (fun v hv=>?_) h
    unfold nextL at hv
    split at hv
    ·rename_i S hS
     rcases foldl_addS S l v hv with h1|⟨y,h1,h2,h3⟩
     ·exact hl v h1
     ·rw [← h3];exact hc u hm S hS y h1 h2
    ·exact hl v hv
theorem bfs_iff {M:GL} {cs:List CL} (hM:badLts M=false) {body:Int->Bool} {t:Int} (ht:0<=t/\t<M.n) :
  bfs (stepsOf (M.labs.map (numOf cs)) M) body (stepsOf (M.labs.map (numOf cs)) M).length 0 [t]=true ↔ ∃ u,Sil M t u/\body u=true:=by
 have hlen:=stepsOf_len (M.labs.map (numOf cs)) M
 obtain ⟨m1,m2,_,_⟩:=bad_sizes hM
 have vld:∀ (i:Nat) (S:Steps),(stepsOf (M.labs.map (numOf cs)) M)[i]?=some S->∀ y∈S,0<=y.2/\y.2<((stepsOf (M.labs.map (numOf cs)) M).length:Int):=fun i S hS y hy=>by
  have:i=((i:Nat):Int).toNat:=by omega
  rw [this] at hS
  obtain ⟨c,hc,_⟩:=(steps_iff hM (Int.natCast_nonneg i) hS y.1 y.2).1 hy
  have:=(stp_rng hM hc).2.1
  omega
 constructor
 ·intro h
  obtain ⟨u,hu,hb⟩:=bfs_P (P:=fun u=>Sil M t u/\0<=u) (fun u hu S hS y hy h0=>by
   obtain ⟨c,hc,e⟩:=(steps_iff hM hu.2 hS y.1 y.2).1 hy
   exact ⟨.step hu.1 hc (num_zero.1 (e.symm.trans h0)),(stp_rng hM hc).2.1.1⟩) _ _ _ (fun u hu=>by rw [List.mem_singleton.1 hu];exact ⟨.refl,ht.1⟩) h
  exact ⟨u,hu.1,hb⟩
 ·rintro ⟨u,hu,hb⟩
  rcases Bool.eq_false_or_eq_true (bfs (stepsOf (M.labs.map (numOf cs)) M) body (stepsOf (M.labs.map (numOf cs)) M).length 0 [t]) with h|h
  ·exact h
  ·obtain ⟨l',h1,h2⟩:=bfs_not vld _ 0 [t] (by simp) (fun u hu=>by rw [List.mem_singleton.1 hu];omega) (by omega) (fun j u hj=>by omega) h
   have:∀ u,Sil M t u->u∈l'/\(0<=u/\u<M.n):=by
    intro u hu
    induction hu with
    | refl=>exact ⟨h1 t (by simp),ht⟩
    | @step v w c hv e hc ih=>
     obtain ⟨S,hS⟩:∃ S,(stepsOf (M.labs.map (numOf cs)) M)[v.toNat]?=some S:=⟨_,List.getElem?_eq_getElem (by omega)⟩
     exact ⟨(h2 v ih.1).2 S hS _ ((steps_iff hM ih.2.1 hS _ _).2 ⟨c,e,rfl⟩) (num_zero.2 hc),(stp_rng hM e).2.1⟩
   have:=(h2 u (this u hu).1).1
   rw [this] at hb
   cases hb
theorem Sil.rng {M:GL} (hM:badLts M=false) {t u:Int} (h:Sil M t u) (ht:0<=t/\t<M.n):0<=u/\u<M.n:=by
 cases h with
 | refl=>exact ht
 | step _ e _=>exact (stp_rng hM e).2.1
theorem all_fol {L M:GL} {cs:List CL} {R:List (Int×Int)} {kind:Int} (c1:Sorted cs) (c2:∀ c∈L.labs,c.1≠-1->c∈cs) (c3':∀ c∈M.labs,c.1≠-1->c∈cs) (hL:badLts L=false) (hM:badLts M=false) (hr:InR L M R) :
  allK kind R (stepsOf (L.labs.map (numOf cs)) L) (stepsOf (M.labs.map (numOf cs)) M)=true ↔ Fol kind L M R:=by
 have key:∀ s t c s',(s,t)∈R->stp L s c s'->(followB kind R (stepsOf (M.labs.map (numOf cs)) M) (s,t) (numOf cs c,s')=true ↔ if kind=1 then ∃ t',stp M t c t'/\(s',t')∈R else ∃ u,Sil M t u/\(s,u)∈R/\((c.1=-1/\(s',u)∈R)\/∃ t',stp M u c t'/\(s',t')∈R)):=by
  intro s t c s' hst hc
  have ht:=(hr _ hst).2
  have hcm:=(stp_rng hL hc).2.2
  unfold followB
  by_cases hk:kind=1
  ·rw [if_pos hk,if_pos hk]
   exact strong_iff c1 c2 c3' hL hM hcm ht
  ·rw [if_neg hk,if_neg hk]
   unfold branchB
   rw [bfs_iff hM ht]
   constructor
   ·rintro ⟨u,hu,hb⟩
    simp only [bodyB,Bool.and_eq_true,Bool.or_eq_true,decide_eq_true_eq] at hb
    refine ⟨u,hu,hb.1,hb.2.imp (fun h=>⟨num_zero.1 h.1,h.2⟩) fun h=>(strong_iff c1 c2 c3' hL hM hcm (hu.rng hM ht)).1 h⟩
   ·rintro ⟨u,hu,h1,h2⟩
    refine ⟨u,hu,?_⟩
    simp only [bodyB,Bool.and_eq_true,Bool.or_eq_true,decide_eq_true_eq]
    exact ⟨h1,h2.imp (fun h=>⟨num_zero.2 h.1,h.2⟩) fun h=>(strong_iff c1 c2 c3' hL hM hcm (hu.rng hM ht)).2 h⟩
 simp only [allK,allB,List.all_eq_true]
 constructor
 ·intro h s t c s' hst hc
  obtain ⟨S,hS⟩:∃ S,(stepsOf (L.labs.map (numOf cs)) L)[s.toNat]?=some S:=⟨_,List.getElem?_eq_getElem (by rw [stepsOf_len];have:=(hr _ hst).1;simp only at this;omega)⟩
  have:=h _ hst
  rw [show ((s,t):Int×Int).1=s from rfl,hS] at this
  exact (key s t c s' hst hc).1 (List.all_eq_true.1 this _ ((steps_iff hL (hr _ hst).1.1 hS _ _).2 ⟨c,hc,rfl⟩))
 ·rintro h ⟨s,t⟩ hst
  obtain ⟨S,hS⟩:∃ S,(stepsOf (L.labs.map (numOf cs)) L)[s.toNat]?=some S:=⟨_,List.getElem?_eq_getElem (by rw [stepsOf_len];have:=(hr _ hst).1;simp only at this;omega)⟩
  simp only [hS]
  refine List.all_eq_true.2 fun y hy=>?_
  obtain ⟨n,s'⟩:=y
  obtain ⟨c,hc,rfl⟩:=(steps_iff hL (hr _ hst).1.1 hS n s').1 hy
  exact (key s t c s' hst hc).2 (h s t c s' hst hc)
theorem InR.swap {L M:GL} {R:List (Int×Int)} (h:InR L M R):InR M L (R.map swapP):=fun p hp=>by
 obtain ⟨q,hq,rfl⟩:=List.mem_map.1 hp
 exact ⟨(h q hq).2,(h q hq).1⟩
theorem rel_iff {L M:GL} {R:List (Int×Int)} {kind:Int} (hL:badLts L=false) (hM:badLts M=false) (hr:InR L M R):relV L M ⟨kind,R⟩=true ↔ (0,0)∈R/\Fol kind L M R/\Fol kind M L (R.map swapP):=by
 obtain ⟨c1,c2,c3'⟩:=csOf_ok L M
 unfold relV
 rw [graphs_eq]
 simp only [relB,Bool.and_eq_true,List.all_eq_true,decide_eq_true_eq,inB]
 rw [all_fol c1 c2 c3' hL hM hr,all_fol c1 c3' c2 hM hL hr.swap]
 constructor
 ·rintro ⟨_,⟨a,b⟩,c⟩;exact ⟨a,b,c⟩
 ·rintro ⟨a,b,c⟩;exact ⟨fun x hx=>⟨(hr x hx).1.2,(hr x hx).2.2⟩,⟨a,b⟩,c⟩
end Go.Proofs
namespace Go.Proofs
open Go Go.AM Go.Sort
set_option maxRecDepth 100000
set_option maxHeartbeats 1000000
def Made (P:Nat->Prop) (k:AH) (kind:Int) (F:List (Int×Int)) (v:Value) (m:AH):Prop:=∃ b,v=.tuple #[.agg ⟨[.int .i64 kind,sl b F.length (UNK+2)]⟩,.int .i64 0]/\(P b\/k.next<=b)/\Arr m 2 (sl b F.length (UNK+2)) (F.map prCells)/\Fx P k m
theorem call_anyF {f:FuncId} {fn:Func} {c:Code} {args:List Value} {h:AH} {Q:Value->AH->Prop} (hok:h.ok) (hf:E.tab.fn.get f=some fn) (hb:fn.body=some c) (hsum:E.sum f args h=none) (hl:Nat.ble (llen args) fn.ntmps=true)
  (hev:Ev true (AM.R.andThen (evC E (recI E) none (bodyOf fn) ⟨⟨fn.ntmps,initT args 0 .e⟩,h.fresh,[]⟩) (endCall E fn)) fun x=>Q x.1 x.2) :
  Ev true ((recI E).call f args h) fun x=>∃ k,Q x.1 k/\((h.next<=k.wm/\isFlat x.1=true/\x.2=h)\/x.2=⟨k.t,k.next,cond (Nat.ble h.wm k.wm) h.wm k.wm⟩):=by
 rw [fnCall_body hf hb hsum hl]
 obtain ⟨l,e,hne,h1,hl'⟩:=hev
 rw [e]
 match l,h1 rfl with
 | [x],_=>
  have hq:=hl' x (by simp)
  show Ev true (some [rewm h.wm (reset h.fresh x)]) _
  rw [ev_some]
  unfold reset
  cases hc:(clean h.fresh x&&isFlat x.1) with
  | true=>
   have hcl:clean h.fresh x=true/\isFlat x.1=true:=by simpa only [Bool.and_eq_true] using hc
   simp only [cond_true]
   refine ⟨x.2,hq,.inl ⟨ble_true.1 hcl.1,hcl.2,?_⟩⟩
   show (⟨h.t,h.next,cond (Nat.ble h.wm (Nat.add h.next UNK)) h.wm (Nat.add h.next UNK)⟩:AH)=h
   have:Nat.ble h.wm (Nat.add h.next UNK)=true:=ble_true.2 hok
   rw [this];rfl
  | false=>
   simp only [cond_false]
   exact ⟨x.2,hq,.inr rfl⟩
theorem fx_own {k l:AH} (o:Own k l):Fx NoB k.fresh l:=⟨o.ext.ok,o.ext.next,fun c hc _=>o.ext.get c hc,fun m _ _ h3=>Nat.le_trans h3 o.wm⟩
end Go.Proofs
namespace Go.Proofs
open Go Go.AM
set_option maxRecDepth 100000
set_option maxHeartbeats 1000000
def utF (n:Int):Bs:=(Utf8.encode n).data.toList
theorem utF_eq (n:Int):(Value.string (Utf8.encode n))=sV (utF n):=by
 unfold utF
 cases Utf8.encode n
 simp
theorem utF_len (n:Int):(utF n).length<=4:=by
 unfold utF Utf8.encode
 simp only
 generalize (if Utf8.valid n=true then n.toNat else Utf8.runeError)=c
 by_cases h1:c<128
 ·rw [if_pos h1];simp
 ·rw [if_neg h1]
  by_cases h2:c<2048
  ·rw [if_pos h2];simp
  ·rw [if_neg h2]
   by_cases h3:c<65536
   ·rw [if_pos h3];simp
   ·rw [if_neg h3];simp
mutual
def shT:GT->Bs
 | .mk k n l=>utF (IntKind.i32.wrap (33+n.tmod 200))++[40]++shL l++[41]
def shL:List GT->Bs
 | []=>[]
 | t::ts=>shT t++shL ts
end
mutual
def nT:GT->Nat
 | .mk k n l=>1+nL l
def nL:List GT->Nat
 | []=>0
 | t::ts=>nT t+nL ts
end
mutual
theorem shT_len:∀ t:GT,(shT t).length<=6*nT t
 | .mk k n l=>by
  have h1:=shL_len l
  have h2:=utF_len (IntKind.i32.wrap (33+n.tmod 200))
  simp only [shT,nT,List.length_append,List.length_cons,List.length_nil]
  omega
theorem shL_len:∀ l:List GT,(shL l).length<=6*nL l
 | []=>by simp [shL]
 | t::ts=>by
  have h1:=shT_len t
  have h2:=shL_len ts
  simp only [shL,nL,List.length_append]
  omega
end
theorem shL_take:∀ (l:List GT) (i:Nat) (t:GT),l[i]?=some t->shL (l.take (i+1))=shL (l.take i)++shT t
 | t::l,0,u,h=>by simp at h;subst h;simp [shL]
 | t::l,i+1,u,h=>by
  simp only [List.getElem?_cons_succ] at h
  simp only [List.take_succ_cons,shL,shL_take l i u h,List.append_assoc]
theorem nL_take:∀ (l:List GT) (i:Nat),nL (l.take i)<=nL l
 | [],i=>by simp
 | t::l,0=>by simp [nL]
 | t::l,i+1=>by have:=nL_take l i;simp only [List.take_succ_cons,nL];omega
theorem nL_at:∀ (l:List GT) (i:Nat) (t:GT),l[i]?=some t->nT t<=nL l
 | t::l,0,u,h=>by simp at h;subst h;simp only [nL];omega
 | t::l,i+1,u,h=>by
  simp only [List.getElem?_cons_succ] at h
  have:=nL_at l i u h
  simp only [nL];omega
theorem rm161 {n:Int}:evPure E (tmOf [(8,.int .i64 n)]) (opAt B161 [1,0] 2)=some (.int .i64 (n.tmod 200)):=by kernel_rfl
theorem cv161 {n:Int} {h:AH}:evRead E (tmOf [(10,.int .i64 n)]) (opAt B161 [1,0] 4) h=some (.int .i32 (IntKind.i32.wrap n)):=by kernel_rfl
theorem cs161 {n:Int} {h:AH}:evRead E (tmOf [(11,.int .i32 n)]) (opAt B161 [1,0] 5) h=some (sV (utF n)):=by
 rw [← utF_eq];kernel_rfl
theorem ap161 {l:Bs} (h:l.length<=1000000000):evPure E (tmOf [(12,sV l)]) (opAt B161 [1,0] 6)=some (sV (l++[40])):=by
 rw [← sl_add (l:=l) (m:=[40]) (by simp;omega)];kernel_rfl
theorem aq161 {l m:Bs} (h:l.length+m.length<=1000000000):evPure E (tmOf [(21,sV l),(24,sV m)]) (opAt B161 [1,1,0,1,0,0,1,1,0,0,1] 4)=some (sV (l++m)):=by
 rw [← sl_add (l:=l) (m:=m) (by omega)];kernel_rfl
theorem ar161 {l:Bs} (h:l.length<=1000000000):evPure E (tmOf [(27,sV l)]) (opAt B161 [1,1,1,0] 1)=some (sV (l++[41])):=by
 rw [← sl_add (l:=l) (m:=[41]) (by simp;omega)];kernel_rfl
abbrev selfV (b:Nat):Value:=.func (.func 161) #[] #[ptr b]
theorem call161 {h0:AH} {bS:Nat}:∀ (N:Nat) (l:List GT) (kk nn:Int) (v:Value) (k:AH),nL l=N->nL l<=100000->RT h0 v l->Ext h0 k->k.get bS=some (.row [selfV bS] 221 0 false)->bS<k.next->
  (recI E).call 161 [.agg ⟨[.int .i64 kk,.int .i64 nn,v]⟩,ptr bS] k=some [(sV (shT (.mk kk nn l)),k)]:=by
 intro N
 induction N using Nat.strongRecOn with
 | ind N ih=>
  intro l kk nn v k hN hl hr he hS hSl
  have hvl:=rt_leaf hr
  obtain ⟨ad,cp,hv⟩:=hr.slice
  refine F161_flat1 he.ok rfl (P161_0_of ?_)
  obtain ⟨k1,e1,n1,t1,o1,f1⟩:=nwF k (.row [.int .i64 kk,.int .i64 nn,v] 173 0 false)
  simp only [new_row,ev_one,cells_agg,e1,next_fresh]
  refine P161_1_of ?_
  have l1:rLoad E 3 k1 (some (.pointer (some ⟨k.next,0+1,none⟩)))=some (.int .i64 nn):=load_leaf (P:=E) ta_3 (o:=0+1) t1
  have l2:rLoad E 34 k1 (some (.pointer (some ⟨k.next,0+2,none⟩)))=some v:=load_leaf (P:=E) ta_34 (o:=0+2) t1
  have hu:=utF_len (IntKind.i32.wrap (33+nn.tmod 200))
  have hm1:-200<nn.tmod 200:=by have:=Int.lt_tmod_of_pos nn (show (0:Int)<200 by omega);omega
  have hm2:nn.tmod 200<200:=Int.tmod_lt_of_pos nn (by omega)
  rw [fa_173_1,evO_some,l1,evO_some,rm161,evO_some,bf_add _ ⟨by omega,by omega⟩,evO_some,cv161,evO_some,cs161,evO_some,ap161 (by omega),evO_some]
  refine P161_2_of ?_
  have hlen:evRead E (tmOf [(15,v)]) (opAt B161 [1,1,0,0] 2) k1=some (.int .i64 (l.length:Int)):=by rw [hv];exact len161_2_2
  rw [fa_173_2,evO_some,l2,evO_some,hlen,evO_some]
  cases hr with
  | @mk _ els _ ha hn hc=>
  have hel:=RC.length hc
  have hsh:shT (.mk kk nn l)=utF (IntKind.i32.wrap (33+nn.tmod 200))++[40]++shL l++[41]:=by simp only [shT]
  rw [hsh]
  generalize utF (IntKind.i32.wrap (33+nn.tmod 200))=U at hu
  have loop:∀ (m i:Nat),i+m=l.length->∀ g,Own k g->PI (C161 true) (KR E [.tmp 3] fun x h=>x=sV (U++[40]++shL l++[41])/\k.next<=h.wm) 3 [ptr bS,sV (U++[40]++shL (l.take i)),v,.int .i64 (l.length:Int),.int .i64 (i:Int)] g:=by
   intro m
   induction m with
   | zero=>
    intro i hi g o
    refine P161_3_of ?_
    rw [bf_lss,evO_some,decide_eq_false (by omega),brK_f]
    refine P161_7_of ?_
    rw [List.take_of_length_le (by omega)]
    have:=shL_len l
    rw [ar161 (by simp;omega),evO_some,kR_1]
    exact ⟨ne_ret ▸ trivial,rfl,o.wm⟩
   | succ m ihm=>
    intro i hi g o
    have hil:i<els.length:=by omega
    refine P161_3_of ?_
    rw [bf_lss,evO_some,decide_eq_true (by omega),brK_t]
    refine P161_4_of ?_
    obtain ⟨k2,n2,v2,l2',hel2,hrt,hlt⟩:=RC.at hc i _ (List.getElem?_eq_getElem hil)
    obtain ⟨p,q1,q2⟩:=idx34 ha (he.trans o.ext) (List.getElem?_eq_getElem hil)
    rw [hel2] at q2
    have hvl2:=rt_leaf hrt
    have hne:=nL_at l i _ hlt
    simp only [nT] at hne
    simp only [q1,q2,evO_some,z_173,new_row,ev_one,cells_agg]
    rw [box173 hvl2,ev_one]
    refine P161_5_of ?_
    have o2:=(o.new (.row [.int .i64 0,.int .i64 0,.slice none 0 0] 173 0 false)).upd (b:=g.next) o.ext.next (some (.row [.int .i64 k2,.int .i64 n2,v2] 173 0 false))
    have t2:((g.new (.row [.int .i64 0,.int .i64 0,.slice none 0 0] 173 0 false)).upd g.next (some (.row [.int .i64 k2,.int .i64 n2,v2] 173 0 false))).get g.next=some (.row [.int .i64 k2,.int .i64 n2,v2] 173 0 false):=get_upd_self _ _ _
    generalize ((g.new (.row [.int .i64 0,.int .i64 0,.slice none 0 0] 173 0 false)).upd g.next (some (.row [.int .i64 k2,.int .i64 n2,v2] 173 0 false)))=g2 at o2 t2
    have hS2:=(o2.ext.get bS hSl).trans hS
    have lS:rLoad E 221 g2 (some (ptr bS))=some (selfV bS):=load_leaf (P:=E) ta_221 (o:=0) hS2
    have lt6:rLoad E 173 g2 (some (ptr g.next))=some (.agg ⟨[.int .i64 k2,.int .i64 n2,v2]⟩):=load_agg (P:=E) ta_173 (o:=0) t2 (by simp)
    rw [lS,evO_some,lt6,evO_some,wCall_1]
    show Ev true ((recI E).call 161 [.agg ⟨[.int .i64 k2,.int .i64 n2,v2]⟩,ptr bS] g2) _
    rw [ih (nL l2') (by omega) l2' k2 n2 v2 g2 rfl (by omega) hrt (he.trans o2.ext) hS2 (Nat.lt_of_lt_of_le hSl o2.ext.next),ev_some]
    have h1:=shL_len (l.take i)
    have h2:=nL_take l i
    have h3:=shT_len (.mk k2 n2 l2')
    simp only [nT] at h3
    rw [aq161 (by simp;omega),evO_some]
    refine P161_6_of ?_
    rw [bf_add _ ⟨by omega,by omega⟩,evO_some]
    have:=ihm (i+1) (by omega) g2 o2
    rw [shL_take l i _ hlt,← List.append_assoc] at this
    simpa using this
  have:=loop l.length 0 (by omega) k1 o1
  simpa [shL] using this
def shA:List GT->Bs
 | []=>[]
 | t::ts=>33::shT t++shA ts
def shLab (a:Int) (l:List GT):Bs:=utF (IntKind.i32.wrap (wrapF .i64 (100+a)))++shA l
theorem shA_take:∀ (l:List GT) (i:Nat) (t:GT),l[i]?=some t->shA (l.take (i+1))=shA (l.take i)++33::shT t
 | t::l,0,u,h=>by simp at h;subst h;simp [shA]
 | t::l,i+1,u,h=>by
  simp only [List.getElem?_cons_succ] at h
  simp only [List.take_succ_cons,shA,shA_take l i u h,List.append_assoc,List.cons_append]
theorem shA_len:∀ l:List GT,(shA l).length<=7*nL l
 | []=>by simp [shA]
 | t::ts=>by
  have h1:=shT_len t
  have h2:=shA_len ts
  have h3:1<=nT t:=by cases t;simp only [nT];omega
  simp only [shA,nL,List.length_append,List.length_cons]
  omega
theorem cv114 {n:Int} {h:AH}:evRead E (tmOf [(10,.int .i64 n)]) (opAt B114 [1,1,1,0] 3) h=some (.int .i32 (IntKind.i32.wrap n)):=by kernel_rfl
theorem cs114 {n:Int} {h:AH}:evRead E (tmOf [(11,.int .i32 n)]) (opAt B114 [1,1,1,0] 4) h=some (sV (utF n)):=by
 rw [← utF_eq];kernel_rfl
theorem ap114 {l:Bs} (h:l.length<=1000000000):evPure E (tmOf [(23,sV l)]) (opAt B114 [1,1,1,1,0,1,0,0,1,1,0,0,1] 4)=some (sV (33::l)):=by
 rw [show sV (33::l)=sV ([33]++l) from rfl,← sl_add (l:=[33]) (m:=l) (by simp;omega)];kernel_rfl
theorem aq114 {l m:Bs} (h:l.length+m.length<=1000000000):evPure E (tmOf [(20,sV l),(24,sV m)]) (opAt B114 [1,1,1,1,0,1,0,0,1,1,0,0,1] 5)=some (sV (l++m)):=by
 rw [← sl_add (l:=l) (m:=m) (by omega)];kernel_rfl
theorem call114 {h0 k:AH} {a:Int} {l:List GT} {v:Value} (hl:nL l<=100000) (hr:RT h0 v l) (he:Ext h0 k) :
  (recI E).call 114 [.agg ⟨[.int .i64 a,v]⟩] k=some [(sV (shLab a l),k)]:=by
 have hvl:=rt_leaf hr
 obtain ⟨ad,cp,hv⟩:=hr.slice
 refine F114_flat1 he.ok rfl (P114_0_of ?_)
 obtain ⟨k1,e1,n1,t1,o1,f1⟩:=nwF k (.row [.int .i64 a,v] 36 0 false)
 simp only [new_row,ev_one,cells_agg,e1,next_fresh]
 refine P114_1_of ?_
 obtain ⟨k2,e2,n2,t2,o2,f2⟩:=nw o1 (.row [.nilFunc] 221 0 false)
 simp only [z_221,new_row,ev_one,cellsOfV,e2,n1]
 rw [n1] at t2
 refine P114_2_of ?_
 obtain ⟨k3,e3,n3,t3,o3,f3⟩:=up o2 (b:=k.next+1) (by omega) (.row [selfV (k.next+1)] 221 0 false)
 have hst:wStore E 221 k2 (some (ptr (k.next+1))) (some (selfV (k.next+1)))=one (undef,k3):=by
  rw [← e3]
  exact store_of (P:=E) ts_221 (o:=0) (x:=selfV (k.next+1)) (cs:=[selfV (k.next+1)]) t2 rfl rfl (by simp) (by rfl)
 have mk1:pMakeFunc (.func 161) (some []) (some [ptr (k.next+1)])=some (selfV (k.next+1)):=rfl
 rw [mk1,evO_some,hst,ev_one]
 refine P114_3_of ?_
 have t1':=(f3 k.next (by omega)).trans ((f2 _ (by omega)).trans t1)
 have l1:rLoad E 3 k3 (some (.pointer (some ⟨k.next,0+0,none⟩)))=some (.int .i64 a):=load_leaf (P:=E) ta_3 (o:=0+0) t1'
 have l2:rLoad E 34 k3 (some (.pointer (some ⟨k.next,0+1,none⟩)))=some v:=load_leaf (P:=E) ta_34 (o:=0+1) t1'
 have hu:=utF_len (IntKind.i32.wrap (wrapF .i64 (100+a)))
 rw [fa_36_0,evO_some,l1,evO_some,bf_addw,evO_some,cv114,evO_some,cs114,evO_some]
 refine P114_4_of ?_
 have hlen:evRead E (tmOf [(14,v)]) (opAt B114 [1,1,1,1,0,0] 2) k3=some (.int .i64 (l.length:Int)):=by rw [hv];exact len114_4_2
 rw [fa_36_1,evO_some,l2,evO_some,hlen,evO_some]
 cases hr with
 | @mk _ els _ ha hn hc=>
 have hel:=RC.length hc
 unfold shLab
 generalize utF (IntKind.i32.wrap (wrapF .i64 (100+a)))=U at hu
 have loop:∀ (m i:Nat),i+m=l.length->∀ g,Own k g->(∀ c,c<k3.next->g.get c=k3.get c)->k3.next<=g.next->PI (C114 true) (KR E [.tmp 2] fun x h=>x=sV (U++shA l)/\k.next<=h.wm) 5 [ptr (k.next+1),sV (U++shA (l.take i)),v,.int .i64 (l.length:Int),.int .i64 (i:Int)] g:=by
  intro m
  induction m with
  | zero=>
   intro i hi g o ho hgn
   refine P114_5_of ?_
   rw [bf_lss,evO_some,decide_eq_false (by omega),brK_f]
   refine P114_9_of ?_
   rw [List.take_of_length_le (by omega),kR_1]
   exact ⟨ne_ret ▸ trivial,rfl,o.wm⟩
  | succ m ihm=>
   intro i hi g o ho hgn
   have hil:i<els.length:=by omega
   refine P114_5_of ?_
   rw [bf_lss,evO_some,decide_eq_true (by omega),brK_t]
   refine P114_6_of ?_
   obtain ⟨x2,m2,v2,l2',hel2,hrt,hlt⟩:=RC.at hc i _ (List.getElem?_eq_getElem hil)
   obtain ⟨p,q1,q2⟩:=idx34 ha (he.trans o.ext) (List.getElem?_eq_getElem hil)
   rw [hel2] at q2
   have hvl2:=rt_leaf hrt
   have hne:=nL_at l i _ hlt
   simp only [nT] at hne
   simp only [q1,q2,evO_some,z_173,new_row,ev_one,cells_agg]
   rw [box173 hvl2,ev_one]
   refine P114_7_of ?_
   have o2:=(o.new (.row [.int .i64 0,.int .i64 0,.slice none 0 0] 173 0 false)).upd (b:=g.next) o.ext.next (some (.row [.int .i64 x2,.int .i64 m2,v2] 173 0 false))
   have t2:((g.new (.row [.int .i64 0,.int .i64 0,.slice none 0 0] 173 0 false)).upd g.next (some (.row [.int .i64 x2,.int .i64 m2,v2] 173 0 false))).get g.next=some (.row [.int .i64 x2,.int .i64 m2,v2] 173 0 false):=get_upd_self _ _ _
   have ho2:∀ c,c<g.next->((g.new (.row [.int .i64 0,.int .i64 0,.slice none 0 0] 173 0 false)).upd g.next (some (.row [.int .i64 x2,.int .i64 m2,v2] 173 0 false))).get c=g.get c:=fun c hc=>(get_upd_ne (by omega)).trans (get_new_ne (by omega))
   have hn2:((g.new (.row [.int .i64 0,.int .i64 0,.slice none 0 0] 173 0 false)).upd g.next (some (.row [.int .i64 x2,.int .i64 m2,v2] 173 0 false))).next=g.next+1:=rfl
   generalize ((g.new (.row [.int .i64 0,.int .i64 0,.slice none 0 0] 173 0 false)).upd g.next (some (.row [.int .i64 x2,.int .i64 m2,v2] 173 0 false)))=g2 at o2 t2 ho2 hn2
   have hS2:g2.get (k.next+1)=some (.row [selfV (k.next+1)] 221 0 false):=(ho2 _ (by omega)).trans ((ho _ (by omega)).trans t3)
   have lS:rLoad E 221 g2 (some (ptr (k.next+1)))=some (selfV (k.next+1)):=load_leaf (P:=E) ta_221 (o:=0) hS2
   have lt6:rLoad E 173 g2 (some (ptr g.next))=some (.agg ⟨[.int .i64 x2,.int .i64 m2,v2]⟩):=load_agg (P:=E) ta_173 (o:=0) t2 (by simp)
   rw [lS,evO_some,lt6,evO_some,wCall_1]
   show Ev true ((recI E).call 161 [.agg ⟨[.int .i64 x2,.int .i64 m2,v2]⟩,ptr (k.next+1)] g2) _
   rw [call161 (nL l2') l2' x2 m2 v2 g2 rfl (by omega) hrt (he.trans o2.ext) hS2 (by omega),ev_some]
   have h1:=shA_len (l.take i)
   have h2:=nL_take l i
   have h3:=shT_len (.mk x2 m2 l2')
   simp only [nT] at h3
   rw [ap114 (by omega),evO_some,aq114 (by simp;omega),evO_some]
   refine P114_8_of ?_
   rw [bf_add _ ⟨by omega,by omega⟩,evO_some]
   have:=ihm (i+1) (by omega) g2 o2 (fun c hc=>(ho2 c (by omega)).trans (ho c hc)) (by omega)
   rw [shA_take l i _ hlt,← List.append_assoc] at this
   simpa using this
 have:=loop l.length 0 (by omega) k3 o3 (fun _ _=>rfl) (Nat.le_refl _)
 simpa [shA] using this
abbrev kfewN (Q:Prop) (k:AH):KF:=KR E [.tmp 2] (fun x l=>(isFlat x=true/\∃ b,x=.bool b/\(b=true->Q))/\k.next<=l.wm)
theorem few_stopN {Q:Prop} {k h:AH} (ho:Own k h) (b:Bool) (hb:b=true->Q):kfewN Q k .ret [.bool b] h:=by
 simp only [kfewN,kR_1,ne_ret,true_and]
 exact ⟨⟨rfl,b,rfl,hb⟩,ho.wm⟩
def rd:Nat->Bool->Int->Int->List (Int×Int)->Bs->Option (Bool×Int×List (Int×Int))
 | 0,first,_,k,p,_=>some (first,k,p)
 | f+1,first,last,k,p,s=>if s=[] then some (first,k,p) else
   if (cutF 10 s).2.2=false then none
   else if first=true then (if isMan (kindOf (cutF 10 s).1)=true then rd f false last (kindOf (cutF 10 s).1) p (cutF 10 s).2.1 else none)
   else match rowF (cutF 10 s).1 with
    | none=>none
    | some g=>if (g.1:Int)<=last then none else rd f false g.1 k (p++g.2.map fun t:Nat=>((g.1:Int),(t:Int))) (cutF 10 s).2.1
where kindOf (l:Bs):Int:=if l=[] then 0 else if l=[115,116,114,111,110,103] then 1 else if l=[98,114,97,110,99,104,105,110,103] then 2 else -1
end Go.Proofs
namespace Go.Proofs
open Go Go.AM Go.Sort
set_option maxRecDepth 100000
set_option maxHeartbeats 1000000
theorem elt85:Elt 85 9 1:=elt_of elt_85 und_85 ta_9 (by kernel_rfl)
theorem bs85 {v:Bs} {h:AH}:wBuildSlice E 85 1 (some [(0,sV v)]) h=one (.slice (some ⟨h.next,0,none⟩) 1 1,h.new (.row [sV v] 9 0 false)):=by kernel_rfl
abbrev s1 (s:Bs):List Value:=[sV s]
theorem eq60 {a b:Bs}:evPure E (tmOf [(19,sV a),(23,sV b)]) (opAt B60 [1,1,0,1,0,0,1,1,0,0,1,0] 8)=some (.bool (!decide (a=b))):=by
 rw [← eqd];kernel_rfl
theorem ss_get {ss:List Bs} {i:Nat} (h:i<ss.length):(ss.map s1)[i]?=some [sV ss[i]]:=by rw [List.getElem?_map,List.getElem?_eq_getElem h];rfl
theorem idx85 {h k:AH} {v:Value} {ss:List Bs} (ha:Arr h 1 v (ss.map s1)) (e:Ext h k) {i:Nat} (hi:i<ss.length) :
  ∃ p,pIndexAddr E 85 (some v) (some (.int .i64 (i:Int)))=some p/\rLoad E 9 k (some p)=some (sV ss[i]):=by
 obtain ⟨b,o,c,vs,ty,es,ro,rfl,hb,hlt,hle,hx,hl⟩:=ha.load (ss_get hi)
 refine ⟨_,indexSlice_of und_85 ts_9 (by rw [List.length_map];exact hi),?_⟩
 rw [load_leaf (P:=E) ta_9 ((e.get b hlt).trans hb),lnth_eq]
 have:=congrArg (·[0]?) hx
 simpa [List.getElem?_take,List.getElem?_drop] using this
theorem call60 {h0 k:AH} {v w:Value} {p1 p2:List Bs} (hv:Arr h0 1 v (p1.map s1)) (hw:Arr h0 1 w (p2.map s1)) (he:Ext h0 k) (hn:p1.length<=1000000) :
  (recI E).call 60 [v,w] k=some [(.bool (decide (p1=p2)),k)]:=by
 obtain ⟨a1,c1,hvs⟩:=hv.slice
 obtain ⟨a2,c2,hws⟩:=hw.slice
 rw [List.length_map] at hvs hws
 refine F60_flat (s:=true) he.ok rfl (P60_0_of (P60_1_of ?_))
 have el:Ext h0 k.fresh:=he.fresh
 have hwm:k.next<=k.fresh.wm:=by rw [wm_fresh];omega
 have x1:evRead E (tmOf [(6,v)]) (opAt B60 [1,0,0] 1) k.fresh=some (.int .i64 (p1.length:Int)):=by rw [hvs];exact len60_1_1
 have x2:evRead E (tmOf [(8,w)]) (opAt B60 [1,0,0] 3) k.fresh=some (.int .i64 (p2.length:Int)):=by rw [hws];exact len60_1_3
 have x3:evRead E (tmOf [(11,v)]) (opAt B60 [1,1,0,0] 1) k.fresh=some (.int .i64 (p1.length:Int)):=by rw [hvs];exact len60_3_1
 rw [x1,evO_some,x2,evO_some,bf_neq,evO_some]
 by_cases hlen:p1.length=p2.length
 case neg=>
  rw [decide_eq_false (by omega),Bool.not_false,brK_t]
  refine P60_2_of ?_
  rw [kR_1]
  exact ⟨ne_ret ▸ trivial,by rw [decide_eq_false fun e=>hlen (by rw [e])],hwm⟩
 rw [decide_eq_true (by omega),Bool.not_true,brK_f]
 refine P60_3_of ?_
 rw [x3,evO_some]
 generalize k.fresh=g at el hwm
 have loop:∀ (m i:Nat),i+m=p1.length->p1.take i=p2.take i->PI (C60 true) (KR E [.tmp 4] fun x h=>x=.bool (decide (p1=p2))/\k.next<=h.wm) 4 [v,w,.int .i64 (p1.length:Int),.int .i64 (i:Int)] g:=by
  intro m
  induction m with
  | zero=>
   intro i hi ht
   refine P60_4_of ?_
   rw [bf_lss,evO_some,decide_eq_false (by omega),brK_f]
   refine P60_9_of ?_
   rw [kR_1]
   rw [List.take_of_length_le (by omega),List.take_of_length_le (by omega)] at ht
   exact ⟨ne_ret ▸ trivial,by rw [decide_eq_true ht],hwm⟩
  | succ m ih=>
   intro i hi ht
   have h1:i<p1.length:=by omega
   have h2:i<p2.length:=by omega
   refine P60_4_of ?_
   rw [bf_lss,evO_some,decide_eq_true (by omega),brK_t]
   refine P60_5_of (P60_6_of ?_)
   obtain ⟨q,q1,q2⟩:=idx85 hv el h1
   obtain ⟨r,r1,r2⟩:=idx85 hw el h2
   rw [q1,evO_some,q2,evO_some,r1,evO_some,r2,evO_some,eq60,evO_some]
   by_cases hc:p1[i]=p2[i]
   ·rw [decide_eq_true hc,Bool.not_true,brK_f]
    refine P60_8_of ?_
    rw [bf_add _ ⟨by omega,by omega⟩,evO_some]
    have:=ih (i+1) (by omega) (by rw [List.take_succ_eq_append_getElem h1,List.take_succ_eq_append_getElem h2,ht,hc])
    simpa using this
   ·rw [decide_eq_false hc,Bool.not_false,brK_t]
    refine P60_7_of ?_
    rw [kR_1]
    exact ⟨ne_ret ▸ trivial,by rw [decide_eq_false fun e=>hc (by subst e;rfl)],hwm⟩
 exact loop p1.length 0 (by omega) rfl
abbrev sI (b n:Nat):Value:=.slice (some ⟨b,0,none⟩) n (UNK+1)
def iC (a:Int):Value:=.int .i64 a
theorem nil112 {b o n c:Nat}:evPure E (tmOf [(3,.slice (some ⟨b,o,none⟩) n c)]) (opAt B112 [1,0,0] 1)=some (.bool false):=by kernel_rfl
theorem bs47_0 {h:AH}:wBuildSlice E 47 0 (some []) h=one (.slice (some ⟨h.next,0,none⟩) 0 0,h.new (.row [] 3 0 false)):=by kernel_rfl
theorem flat_i1 (l:List Int):(l.map i1).flatten=l.map iC:=by
 induction l with
 | nil=>rfl
 | cons a l ih=>simp only [List.map_cons,List.flatten_cons,ih];rfl
theorem call112 {k:AH} {v:Value} {l:List Int} (hok:k.ok) (ha:Arr k 1 v (l.map i1)) (hl:l≠[]) (hn:l.length<=1000000) :
  Ev true ((recI E).call 112 [v] k) fun x=>∃ b,x.1=sI b l.length/\k.next<=b/\b<x.2.next/\x.2.get b=some (.row (l.map iC) 3 1 false)/\Fx NoB k x.2:=by
 generalize hels:l.map i1=els at ha
 cases ha with
 | nil a c=>exact absurd (List.map_eq_nil_iff.1 hels) hl
 | @row b o c vs ty es ro _ hb hlt hle hz=>
 have hlen:els.length=l.length:=by rw [← hels,List.length_map]
 have hfl:=arr_flat els o hle hz
 have hl0:l.length≠0:=fun h=>hl (List.length_eq_zero_iff.1 h)
 refine F112_some (Rp:=fun x m=>∃ b,x=sI b l.length/\k.next<=b/\b<m.next/\m.get b=some (.row (l.map iC) 3 1 false)/\Fx NoB k m) (P112_0_of (P112_1_of ?_))
 rw [nil112,evO_some,brK_f]
 refine P112_3_of ?_
 obtain ⟨k1,e1,n1,t1,o1,f1⟩:=nwF k (.row [] 3 0 false)
 have x1:Fx NoB k.fresh k1:=by rw [← e1];exact (Fx.refl (ok_fresh k)).new _
 have happ:=append_all elt47 (c:=c) t1 ((f1 b hlt).trans hb) (n:=els.length) (by omega) (by omega) hle hfl
 obtain ⟨k2,e2,n2,t2⟩:∃ k2,k1.new (.row els.flatten 3 1 false)=k2/\k2.next=k1.next+1/\k2.get k1.next=some (.row els.flatten 3 1 false):=⟨_,rfl,rfl,get_new_self _ _⟩
 have x2:Fx NoB k.fresh k2:=by rw [← e2];exact x1.new _
 simp only [evO_some,bs47_0,ev_one,e1,next_fresh,happ,e2]
 rw [kR_1]
 refine ⟨ne_ret ▸ trivial,.inl rfl,k1.next,?_,by omega,by show k1.next<k2.next;omega,?_,x2.back⟩
 ·rw [hlen]
 ·rw [← flat_i1,hels];exact get_wm t2
end Go.Proofs
namespace Go.Proofs
open Go Go.AM
set_option maxRecDepth 100000
set_option maxHeartbeats 1000000
def adE (p:Ed->Bool) (l:List Int) (e:Ed):List Int:=if p e=true/\e.2.2 ∉ l then l++[e.2.2] else l
def addRow (p:Ed->Bool) (l:List Int) (S:List Ed):List Int:=S.foldl (adE p) l
def rowE (L:GL) (u:Int):List Ed:=((outOf L)[u.toNat]?).getD []
def inE (L:GL) (e:Ed):Bool:=match L.labs[e.2.1.toNat]? with
 | some c=>decide (c.1=-1)
 | none=>false
def onE (i:Nat) (e:Ed):Bool:=decide (e.2.1=(i:Int))
def closeF (L:GL):Nat->Nat->List Int->List Int
 | 0,_,l=>l
 | f+1,i,l=>match l[i]? with
  | none=>l
  | some u=>closeF L f (i+1) (addRow (inE L) l (rowE L u))
def closeL (L:GL) (l:List Int):List Int:=closeF L L.n.toNat 0 l
def nextS (L:GL) (i:Nat) (A:List Int):List Int:=A.foldl (fun l s=>addRow (onE i) l (rowE L s)) []
def brS (L:GL) (rec:List Int->Bs->List Bs) (A:List Int) (w:Bs) (i:Nat):List Bs:=match L.labs[i]? with
 | some c=>if c.1=-1\/nextS L i A=[] then [] else rec (closeL L (nextS L i A)) (w++124::shLab c.1 c.2)
 | none=>[]
def dfs (L:GL):Nat->List Int->Bs->List Bs
 | 0,_,w=>[w]
 | n+1,A,w=>w::(List.range L.labs.length).flatMap (brS L (dfs L n) A w)
theorem adE_mem {p:Ed->Bool} {l:List Int} {e:Ed} {x:Int}:x∈adE p l e ↔ x∈l\/(p e=true/\e.2.2=x):=by
 unfold adE
 split
 ·rename_i h
  rw [List.mem_append,List.mem_singleton]
  exact or_congr_right ⟨fun e=>⟨h.1,e.symm⟩,fun e=>e.2.symm⟩
 ·rename_i h
  refine ⟨.inl,fun h1=>h1.elim id fun h2=>?_⟩
  rw [not_and,Classical.not_not] at h
  exact h2.2 ▸ h h2.1
theorem adE_nodup {p:Ed->Bool} {l:List Int} {e:Ed} (h:l.Nodup):(adE p l e).Nodup:=by
 unfold adE
 split
 ·rename_i h1
  rw [List.nodup_append]
  exact ⟨h,by simp,fun a ha b hb=>by rw [List.mem_singleton] at hb;subst hb;exact fun e=>h1.2 (e ▸ ha)⟩
 ·exact h
theorem addRow_mem {p:Ed->Bool}:∀ {S:List Ed} {l:List Int} {x:Int},x∈addRow p l S ↔ x∈l\/∃ e∈S,p e=true/\e.2.2=x
 | [],l,x=>by simp [addRow]
 | e::S,l,x=>by
  show x∈addRow p (adE p l e) S ↔ _
  rw [addRow_mem,adE_mem]
  simp [or_assoc]
theorem addRow_nodup {p:Ed->Bool}:∀ {S:List Ed} {l:List Int},l.Nodup->(addRow p l S).Nodup
 | [],l,h=>h
 | e::S,l,h=>addRow_nodup (S:=S) (adE_nodup h)
theorem addRow_pre {p:Ed->Bool}:∀ {S:List Ed} {l:List Int},∃ t,addRow p l S=l++t
 | [],l=>⟨[],by simp [addRow]⟩
 | e::S,l=>by
  obtain ⟨t,ht⟩:=addRow_pre (p:=p) (S:=S) (l:=adE p l e)
  obtain ⟨t1,h1⟩:∃ t1,adE p l e=l++t1:=by
   unfold adE
   split
   ·exact ⟨_,rfl⟩
   ·exact ⟨[],by simp⟩
  exact ⟨t1++t,by show addRow p (adE p l e) S=_;rw [ht,h1,List.append_assoc]⟩
theorem rowE_mem {L:GL} (hL:badLts L=false) {u:Int} (hu:0<=u/\u<L.n) {e:Ed}:e∈rowE L u ↔ e∈L.eds/\e.1=u:=by
 obtain ⟨S,hS⟩:∃ S,(outOf L)[u.toNat]?=some S:=⟨_,List.getElem?_eq_getElem (by rw [outOf_len];omega)⟩
 unfold rowE
 rw [hS,Option.getD_some,outOf_mem hS]
 refine and_congr_right fun he=>?_
 obtain ⟨j,hj⟩:=List.getElem?_of_mem he
 have:=(bad_edges hL hj).1
 omega
theorem inE_iff {L:GL} (hL:badLts L=false) {u:Int} (hu:0<=u/\u<L.n) {v:Int}:(∃ e∈rowE L u,inE L e=true/\e.2.2=v) ↔ ∃ c,stp L u c v/\c.1=-1:=by
 constructor
 ·rintro ⟨e,he,h1,h2⟩
  obtain ⟨h3,h4⟩:=(rowE_mem hL hu).1 he
  unfold inE at h1
  split at h1
  ·rename_i c hc
   exact ⟨c,⟨e,h3,h4,hc,h2⟩,by simpa using h1⟩
  ·cases h1
 ·rintro ⟨c,⟨e,h3,h4,hc,h2⟩,h1⟩
  exact ⟨e,(rowE_mem hL hu).2 ⟨h3,h4⟩,by unfold inE;rw [hc];simpa using h1,h2⟩
theorem labs_sorted {L:GL} (h:badLts L=false):∀ (d i:Nat) {x y:CL},L.labs[i]?=some x->L.labs[i+d+1]?=some y->clt x y:=by
 have step:∀ (i:Nat) {x y:CL},L.labs[i]?=some x->L.labs[i+1]?=some y->clt x y:=by
  intro i x y hx hy
  simp only [badLts,Bool.or_eq_false_iff] at h
  have hlt:=(List.getElem?_eq_some_iff.1 hy).1
  have:=anyFrom_false h.1.2 (i+1) (Nat.zero_le _) (by omega)
  simp only [labBadAt,hy,Bool.or_eq_false_iff,Nat.add_sub_cancel,hx,show 0<i+1 from Nat.succ_pos i,decide_true,Bool.true_and,decide_eq_false_iff_not] at this
  unfold clt
  rw [← cmpLab_lex]
  omega
 intro d
 induction d with
 | zero=>exact fun i x y hx hy=>step i hx hy
 | succ d ih=>
  intro i x y hx hy
  have hlt:=(List.getElem?_eq_some_iff.1 hy).1
  have hz:=List.getElem?_eq_getElem (l:=L.labs) (i:=i+1) (by omega)
  exact lex_trans _ _ _ (step i hx hz) (ih (i+1) hz (by rw [← hy];congr 1;omega))
theorem labs_inj {L:GL} (h:badLts L=false) {i j:Nat} {x:CL} (hi:L.labs[i]?=some x) (hj:L.labs[j]?=some x):i=j:=by
 have irr:¬ clt x x:=by unfold clt;rw [lex_self];omega
 rcases Nat.lt_trichotomy i j with h1|h1|h1
 ·exact absurd (labs_sorted h (j-i-1) i hi (by rw [← hj];congr 1;omega)) irr
 ·exact h1
 ·exact absurd (labs_sorted h (i-j-1) j hj (by rw [← hi];congr 1;omega)) irr
theorem labs_nodup {L:GL} (h:badLts L=false):L.labs.Nodup:=by
 rw [List.nodup_iff_pairwise_ne,List.pairwise_iff_getElem]
 intro i j hi hj hij e
 have:=labs_inj h (List.getElem?_eq_getElem hi) (by rw [e];exact List.getElem?_eq_getElem hj)
 omega
def Rg (L:GL) (A:List Int):Prop:=∀ u∈A,0<=u/\u<L.n
theorem nextS_mem {L:GL} (hL:badLts L=false) {A:List Int} (hA:Rg L A) {i:Nat} {c:CL} (hc:L.labs[i]?=some c) {v:Int}:v∈nextS L i A ↔ ∃ s∈A,stp L s c v:=by
 have key:∀ (A l:List Int),v∈A.foldl (fun l s=>addRow (onE i) l (rowE L s)) l ↔ v∈l\/∃ s∈A,∃ e∈rowE L s,onE i e=true/\e.2.2=v:=by
  intro A
  induction A with
  | nil=>intro l;simp
  | cons s A ih=>intro l;rw [List.foldl_cons,ih,addRow_mem];simp [or_assoc]
 unfold nextS
 rw [key]
 simp only [List.not_mem_nil,false_or]
 refine exists_congr fun s=>and_congr_right fun hs=>?_
 have hu:=hA s hs
 constructor
 ·rintro ⟨e,he,h1,h2⟩
  obtain ⟨h3,h4⟩:=(rowE_mem hL hu).1 he
  refine ⟨e,h3,h4,?_,h2⟩
  rw [show e.2.1=(i:Int) from by simpa [onE] using h1]
  exact hc
 ·rintro ⟨e,h3,h4,h5,h2⟩
  refine ⟨e,(rowE_mem hL hu).2 ⟨h3,h4⟩,?_,h2⟩
  obtain ⟨j,hj⟩:=List.getElem?_of_mem h3
  have h6:=(bad_edges hL hj).2.2.1
  have:=labs_inj hL h5 hc
  simp only [onE,decide_eq_true_eq]
  omega
theorem nextS_nodup {L:GL} {A:List Int} {i:Nat}:(nextS L i A).Nodup:=by
 unfold nextS
 generalize hl:([]:List Int)=l
 have:l.Nodup:=by subst hl;exact List.nodup_nil
 clear hl
 induction A generalizing l with
 | nil=>exact this
 | cons s A ih=>exact ih _ (addRow_nodup this)
theorem stp_of_row {L:GL} (hL:badLts L=false) {l:List Int} {u:Int} (hu:0<=u/\u<L.n):Rg L l->Rg L (addRow (inE L) l (rowE L u)):=fun h x hx=>by
 rcases addRow_mem.1 hx with h1|h1
 ·exact h x h1
 ·obtain ⟨c,hc,_⟩:=(inE_iff hL hu).1 h1
  exact (stp_rng hL hc).2.1
theorem closeF_ok {L:GL} (hL:badLts L=false) (Q:Int->Prop) (hQ:∀ u c v,Q u->stp L u c v->c.1=-1->Q v):∀ (f i:Nat) (l:List Int),l.Nodup->Rg L l->L.n.toNat<=f+i->(∀ x∈l,Q x)->
  (∀ (j:Nat) (u:Int),j<i->l[j]?=some u->∀ c v,stp L u c v->c.1=-1->v∈l)->
  (closeF L f i l).Nodup/\Rg L (closeF L f i l)/\(∀ x∈closeF L f i l,Q x)/\(∀ x∈l,x∈closeF L f i l)/\∀ u∈closeF L f i l,∀ c v,stp L u c v->c.1=-1->v∈closeF L f i l:=by
 obtain ⟨z1,z2,_,_⟩:=bad_sizes hL
 intro f
 induction f with
 | zero=>
  intro i l hn hr hf hq hp
  have hb:=nodup_bound L.n.toNat l hn (fun x hx=>by have:=hr x hx;omega)
  simp only [closeF]
  refine ⟨hn,hr,hq,fun _ h=>h,fun u hu c v=>?_⟩
  obtain ⟨j,hj⟩:=List.getElem?_of_mem hu
  have:=(List.getElem?_eq_some_iff.1 hj).1
  exact hp j u (by omega) hj c v
 | succ f ih=>
  intro i l hn hr hf hq hp
  simp only [closeF]
  split
  ·rename_i hi
   refine ⟨hn,hr,hq,fun _ h=>h,fun u hu c v=>?_⟩
   obtain ⟨j,hj⟩:=List.getElem?_of_mem hu
   have h1:=(List.getElem?_eq_some_iff.1 hj).1
   have h2:=List.getElem?_eq_none_iff.1 hi
   exact hp j u (by omega) hj c v
  ·rename_i u hu
   have hum:=List.mem_of_getElem? hu
   have hur:=hr u hum
   have hsub:∀ x∈l,x∈addRow (inE L) l (rowE L u):=fun x hx=>addRow_mem.2 (.inl hx)
   obtain ⟨a,b,c,d,e⟩:=ih (i+1) (addRow (inE L) l (rowE L u)) (addRow_nodup hn) (stp_of_row hL hur hr) (by omega) (fun x hx=>by
    rcases addRow_mem.1 hx with h1|h1
    ·exact hq x h1
    ·obtain ⟨c,hc,h2⟩:=(inE_iff hL hur).1 h1
     exact hQ u c x (hq u hum) hc h2) (fun j w hj hw c v hs hc=>by
    obtain ⟨t,ht⟩:=addRow_pre (p:=inE L) (S:=rowE L u) (l:=l)
    have hil:=(List.getElem?_eq_some_iff.1 hu).1
    rw [ht,List.getElem?_append_left (by omega)] at hw
    rcases Nat.lt_succ_iff_lt_or_eq.1 hj with h|h
    ·exact hsub v (hp j w h hw c v hs hc)
    ·subst h
     rw [hu] at hw
     cases hw
     exact addRow_mem.2 (.inr ((inE_iff hL hur).2 ⟨c,hs,hc⟩)))
   exact ⟨a,b,c,fun x hx=>d x (hsub x hx),e⟩
def Clo (L:GL) (A:List Int):Prop:=∀ u∈A,∀ c v,stp L u c v->c.1=-1->v∈A
theorem closeL_ok {L:GL} (hL:badLts L=false) {l:List Int} (hn:l.Nodup) (hr:Rg L l):(closeL L l).Nodup/\Rg L (closeL L l)/\Clo L (closeL L l)/\(∀ x∈l,x∈closeL L l)/\∀ Q:Int->Prop,(∀ u c v,Q u->stp L u c v->c.1=-1->Q v)->(∀ x∈l,Q x)->∀ x∈closeL L l,Q x:=by
 obtain ⟨a,b,_,d,e⟩:=closeF_ok hL (fun _=>True) (fun _ _ _ _ _ _=>trivial) L.n.toNat 0 l hn hr (by omega) (fun _ _=>trivial) (fun j u hj=>by omega)
 exact ⟨a,b,e,d,fun Q hQ hq=>(closeF_ok hL Q hQ L.n.toNat 0 l hn hr (by omega) hq (fun j u hj=>by omega)).2.2.1⟩
theorem Sil.clo {L:GL} {B:List Int} (hB:Clo L B) {t u:Int} (h:Sil L t u) (ht:t∈B):u∈B:=by
 induction h with
 | refl=>exact ht
 | step _ e hc ih=>exact hB _ ih _ _ e hc
theorem Fol.vis {kind:Int} {L M:GL} {R:List (Int×Int)} (hF:Fol kind L M R) {B:List Int} (hB:Clo M B) {s t:Int} {c:CL} {s':Int} (hst:(s,t)∈R) (ht:t∈B) (hs:stp L s c s') (hc:c.1≠-1):∃ u∈B,∃ t',stp M u c t'/\(s',t')∈R:=by
 have:=hF s t c s' hst hs
 split at this
 ·obtain ⟨t',h1,h2⟩:=this
  exact ⟨t,ht,t',h1,h2⟩
 ·obtain ⟨u,h1,h2,⟨h3,_⟩|⟨t',h3,h4⟩⟩:=this
  ·exact absurd h3 hc
  ·exact ⟨u,h1.clo hB ht,t',h3,h4⟩
theorem Fol.inn {kind:Int} {L M:GL} {R:List (Int×Int)} (hF:Fol kind L M R) {B:List Int} (hB:Clo M B) {s t:Int} {c:CL} {s':Int} (hst:(s,t)∈R) (ht:t∈B) (hs:stp L s c s') (hc:c.1=-1):∃ u∈B,(s',u)∈R:=by
 have:=hF s t c s' hst hs
 split at this
 ·obtain ⟨t',h1,h2⟩:=this
  exact ⟨t',hB t ht c t' h1 hc,h2⟩
 ·obtain ⟨u,h1,h2,⟨h3,h4⟩|⟨t',h3,h4⟩⟩:=this
  ·exact ⟨u,h1.clo hB ht,h4⟩
  ·exact ⟨t',hB u (h1.clo hB ht) c t' h3 hc,h4⟩
def Hf (R:List (Int×Int)) (A B:List Int):Prop:=∀ a∈A,∃ b∈B,(a,b)∈R
theorem Hf.close {kind:Int} {L M:GL} {R:List (Int×Int)} (hL:badLts L=false) (hM:badLts M=false) (hF:Fol kind L M R) {l m:List Int} (hl:l.Nodup) (hm:m.Nodup) (rl:Rg L l) (rm:Rg M m) (h:Hf R l m):Hf R (closeL L l) (closeL M m):=by
 obtain ⟨_,_,_,_,e⟩:=closeL_ok hL hl rl
 obtain ⟨_,_,b,d,_⟩:=closeL_ok hM hm rm
 refine e (fun s=>∃ t∈closeL M m,(s,t)∈R) ?_ (fun x hx=>?_)
 ·rintro s c s' ⟨t,ht,hst⟩ hs hc
  exact hF.inn b hst ht hs hc
 ·obtain ⟨y,hy,h2⟩:=h x hx
  exact ⟨y,d y hy,h2⟩
theorem swap_mem {R:List (Int×Int)} {a b:Int}:(b,a)∈R.map swapP ↔ (a,b)∈R:=by
 rw [List.mem_map]
 constructor
 ·rintro ⟨⟨x,y⟩,h,e⟩
  cases e
  exact h
 ·exact fun h=>⟨_,h,rfl⟩
theorem perm_flatMap' {α β:Type} {f g:α->List β}:∀ {l:List α},(∀ a∈l,(f a).Perm (g a))->(l.flatMap f).Perm (l.flatMap g)
 | [],_=>.nil
 | a::l,h=>by rw [List.flatMap_cons,List.flatMap_cons];exact (h a (by simp)).append (perm_flatMap' fun b hb=>h b (by simp [hb]))
theorem flatMap_filter' {α β:Type} {f:α->List β} {p:α->Bool}:∀ {l:List α},(∀ a∈l,p a=false->f a=[])->l.flatMap f=(l.filter p).flatMap f
 | [],_=>rfl
 | a::l,h=>by
  rw [List.flatMap_cons,flatMap_filter' (l:=l) fun b hb=>h b (by simp [hb])]
  cases hp:p a with
  | true=>rw [List.filter_cons_of_pos hp,List.flatMap_cons]
  | false=>rw [List.filter_cons_of_neg (by simp [hp]),h a (by simp) hp];rfl
open Classical in
theorem perm_two {α β:Type} {f g:α->List β} {l m:List α} (hl:l.Nodup) (hm:m.Nodup) (h1:∀ a∈l,a ∉ m->f a=[]) (h2:∀ a∈m,a ∉ l->g a=[]) (h3:∀ a∈l,a∈m->(f a).Perm (g a)):(l.flatMap f).Perm (m.flatMap g):=by
 rw [flatMap_filter' (f:=f) (p:=fun a=>decide (a∈m)) (l:=l) fun a ha hp=>h1 a ha (by simpa using hp),flatMap_filter' (f:=g) (p:=fun a=>decide (a∈l)) (l:=m) fun a ha hp=>h2 a ha (by simpa using hp)]
 have hp:(l.filter fun a=>decide (a∈m)).Perm (m.filter fun a=>decide (a∈l)):=(List.perm_ext_iff_of_nodup (hl.sublist List.filter_sublist) (hm.sublist List.filter_sublist)).2 fun a=>by simp [and_comm]
 refine (perm_flatMap' fun a ha=>?_).trans (hp.flatMap_right g)
 have:=List.mem_filter.1 ha
 exact h3 a this.1 (by simpa using this.2)
noncomputable def ixC (L:GL) (c:CL):Nat:=open Classical in if h:∃ i,L.labs[i]?=some c then h.choose else 0
theorem ixC_get {L:GL} {c:CL} (h:c∈L.labs):L.labs[ixC L c]?=some c:=by
 have h':∃ i,L.labs[i]?=some c:=List.getElem?_of_mem h
 unfold ixC
 rw [dif_pos h']
 exact h'.choose_spec
theorem range_labs {L:GL} (hL:badLts L=false) {β:Type} (f:Nat->List β):(List.range L.labs.length).flatMap f=L.labs.flatMap fun c=>f (ixC L c):=by
 have:List.range L.labs.length=L.labs.map (ixC L):=by
  apply List.ext_getElem
  ·simp
  ·intro i h1 h2
   rw [List.getElem_range,List.getElem_map]
   have h3:i<L.labs.length:=by simpa using h1
   exact labs_inj hL (List.getElem?_eq_getElem h3) (ixC_get (List.getElem_mem h3))
 rw [this,List.flatMap_map]
theorem dfs_perm {kind:Int} {L M:GL} {R:List (Int×Int)} (hL:badLts L=false) (hM:badLts M=false) (hF:Fol kind L M R) (hG:Fol kind M L (R.map swapP)) :
  ∀ (n:Nat) (A B:List Int) (w:Bs),Rg L A->Rg M B->Clo L A->Clo M B->Hf R A B->Hf (R.map swapP) B A->(dfs L n A w).Perm (dfs M n B w)
 | 0,A,B,w,_,_,_,_,_,_=>.refl _
 | n+1,A,B,w,rA,rB,cA,cB,hf,hg=>by
  have ih:=dfs_perm hL hM hF hG n
  simp only [dfs]
  refine List.Perm.cons _ ?_
  rw [range_labs hL,range_labs hM]
  have fwd:∀ c∈L.labs,c.1≠-1->∀ v∈nextS L (ixC L c) A,c∈M.labs/\∃ b∈nextS M (ixC M c) B,(v,b)∈R:=by
   intro c hc h1 v hv
   obtain ⟨s,hs,hsv⟩:=(nextS_mem hL rA (ixC_get hc)).1 hv
   obtain ⟨t,ht,hst⟩:=hf s hs
   obtain ⟨u,hu,t',h2,h3⟩:=hF.vis cB hst ht hsv h1
   have hcm:=(stp_rng hM h2).2.2
   exact ⟨hcm,t',(nextS_mem hM rB (ixC_get hcm)).2 ⟨u,hu,h2⟩,h3⟩
  have bwd:∀ c∈M.labs,c.1≠-1->∀ v∈nextS M (ixC M c) B,c∈L.labs/\∃ b∈nextS L (ixC L c) A,(v,b)∈R.map swapP:=by
   intro c hc h1 v hv
   obtain ⟨s,hs,hsv⟩:=(nextS_mem hM rB (ixC_get hc)).1 hv
   obtain ⟨t,ht,hst⟩:=hg s hs
   obtain ⟨u,hu,t',h2,h3⟩:=hG.vis cA hst ht hsv h1
   have hcm:=(stp_rng hL h2).2.2
   exact ⟨hcm,t',(nextS_mem hL rA (ixC_get hcm)).2 ⟨u,hu,h2⟩,h3⟩
  have nilL:∀ c∈L.labs,(c.1=-1\/nextS L (ixC L c) A=[])->brS L (dfs L n) A w (ixC L c)=[]:=fun c hc h=>by
   unfold brS;rw [ixC_get hc];simp only;rw [if_pos h]
  have nilM:∀ c∈M.labs,(c.1=-1\/nextS M (ixC M c) B=[])->brS M (dfs M n) B w (ixC M c)=[]:=fun c hc h=>by
   unfold brS;rw [ixC_get hc];simp only;rw [if_pos h]
  refine perm_two (labs_nodup hL) (labs_nodup hM) (fun c hc hcm=>nilL c hc ?_) (fun c hc hcm=>nilM c hc ?_) (fun c hc hcm=>?_)
  ·refine Classical.byContradiction fun h=>?_
   rw [not_or] at h
   obtain ⟨v,hv⟩:=List.exists_mem_of_ne_nil _ h.2
   exact hcm (fwd c hc h.1 v hv).1
  ·refine Classical.byContradiction fun h=>?_
   rw [not_or] at h
   obtain ⟨v,hv⟩:=List.exists_mem_of_ne_nil _ h.2
   exact hcm (bwd c hc h.1 v hv).1
  ·by_cases h1:c.1=-1
   ·rw [nilL c hc (.inl h1),nilM c hcm (.inl h1)]
   by_cases h2:nextS L (ixC L c) A=[]
   ·have h3:nextS M (ixC M c) B=[]:=by
     refine Classical.byContradiction fun h=>?_
     obtain ⟨v,hv⟩:=List.exists_mem_of_ne_nil _ h
     obtain ⟨b,hb,_⟩:=(bwd c hcm h1 v hv).2
     rw [h2] at hb;cases hb
    rw [nilL c hc (.inr h2),nilM c hcm (.inr h3)]
   have h3:nextS M (ixC M c) B≠[]:=by
    obtain ⟨v,hv⟩:=List.exists_mem_of_ne_nil _ h2
    obtain ⟨b,hb,_⟩:=(fwd c hc h1 v hv).2
    exact List.ne_nil_of_mem hb
   unfold brS
   rw [ixC_get hc,ixC_get hcm]
   simp only
   rw [if_neg (not_or.2 ⟨h1,h2⟩),if_neg (not_or.2 ⟨h1,h3⟩)]
   have r1:Rg L (nextS L (ixC L c) A):=fun v hv=>by
    obtain ⟨s,_,hs⟩:=(nextS_mem hL rA (ixC_get hc)).1 hv
    exact (stp_rng hL hs).2.1
   have r2:Rg M (nextS M (ixC M c) B):=fun v hv=>by
    obtain ⟨s,_,hs⟩:=(nextS_mem hM rB (ixC_get hcm)).1 hv
    exact (stp_rng hM hs).2.1
   obtain ⟨_,s2,s3,_,_⟩:=closeL_ok hL nextS_nodup r1
   obtain ⟨_,t2,t3,_,_⟩:=closeL_ok hM nextS_nodup r2
   exact ih _ _ _ s2 t2 s3 t3 (Hf.close hL hM hF nextS_nodup nextS_nodup r1 r2 fun v hv=>(fwd c hc h1 v hv).2) (Hf.close hM hL hG nextS_nodup nextS_nodup r2 r1 fun v hv=>(bwd c hcm h1 v hv).2)
def wordsOf (L:GL) (n:Nat):List Bs:=dfs L n (closeL L [0]) []
theorem words_perm {L M:GL} {B:GB} (h:checkV L M B=0) (n:Nat):(wordsOf L n).Perm (wordsOf M n):=by
 obtain ⟨hL,hM,hlk,hrel⟩:=check0 h
 obtain ⟨z1,_⟩:=bad_sizes hL
 obtain ⟨y1,_⟩:=bad_sizes hM
 have W:=law_of_check h
 obtain ⟨k,R⟩:=B
 obtain ⟨h0,hF,hG⟩:=(rel_iff hL hM (fun p hp=>W.rng p hp)).1 hrel
 have r1:Rg L [0]:=fun u hu=>by rw [List.mem_singleton.1 hu];omega
 have r2:Rg M [0]:=fun u hu=>by rw [List.mem_singleton.1 hu];omega
 obtain ⟨_,s2,s3,_,_⟩:=closeL_ok hL (by simp) r1
 obtain ⟨_,t2,t3,_,_⟩:=closeL_ok hM (by simp) r2
 exact dfs_perm hL hM hF hG n _ _ _ s2 t2 s3 t3 (Hf.close hL hM hF (by simp) (by simp) r1 r2 fun v hv=>⟨0,by simp,by rw [List.mem_singleton.1 hv];exact h0⟩) (Hf.close hM hL hG (by simp) (by simp) r2 r1 fun v hv=>⟨0,by simp,by rw [List.mem_singleton.1 hv];exact swap_mem.2 h0⟩)
theorem sorS_perm {a b:List Bs} (h:a.Perm b):sorS a=sorS b:=by
 unfold sorS
 have hp:(a.mergeSort fun x y=>decide (x<=y)).Perm (b.mergeSort fun x y=>decide (x<=y)):=(List.mergeSort_perm a _).trans (h.trans (List.mergeSort_perm b _).symm)
 have tr:∀ x y z:Bs,decide (x<=y)=true->decide (y<=z)=true->decide (x<=z)=true:=fun x y z h1 h2=>by
  simp only [decide_eq_true_eq] at *;exact List.le_trans h1 h2
 have to:∀ x y:Bs,(decide (x<=y)||decide (y<=x))=true:=fun x y=>by
  simp only [Bool.or_eq_true,decide_eq_true_eq];exact List.le_total x y
 refine hp.eq_of_pairwise (le:=fun x y=>decide (x<=y)=true) ?_ (List.pairwise_mergeSort tr to a) (List.pairwise_mergeSort tr to b)
 intro x y _ _ h1 h2
 simp only [decide_eq_true_eq] at h1 h2
 exact List.le_antisymm h1 h2
theorem IS.app2 {lo:Nat} {h:AH} {v:Value} {l:List Int} (x:IS lo h v l) (hlo:lo<=h.next) (hl:l.length<=999998) (u:Int) :
  ∃ m,wBuiltinO E .append [47,47] (some [v,.slice (some ⟨h.next,0,none⟩) 1 1]) (h.new (.row [.int .i64 u] 3 0 false))=one (.slice (some ⟨h.next+1,0,none⟩) (l.length+1) (UNK+1),m) ∧
   LS lo m (.slice (some ⟨h.next+1,0,none⟩) (l.length+1) (UNK+1)) (l++[u])/\m.next=h.next+2/\(h.ok->Fx (fun c=>blkOf v c) h m)/\m.wm<=h.wm:=by
 have hrow:=get_new_self h (.row [.int .i64 u] 3 0 false)
 rcases x with ⟨rfl,rfl⟩|x
 ·exact ⟨_,append_nil elt47 hrow rfl,⟨h.next+1,UNK+1,by simp,by omega,by show h.next+1<h.next+1+1;omega,.inr ⟨rfl,get_new_self (h.new _) _⟩⟩,rfl,fun hok=>((Fx.refl hok).new _).new _,Nat.le_refl _⟩
 ·obtain ⟨b0,c0,e0,hb0,hlt0,hc0⟩:=x.ex
  have xb:LS b0 h v l:=⟨b0,c0,e0,Nat.le_refl _,hlt0,hc0⟩
  have x1:LS b0 (h.new (.row [.int .i64 u] 3 0 false)) v l:=xb.mono (by simp) fun b _ hb _=>get_new_ne (by omega)
  obtain ⟨v',k1,a1,rfl,a3,a4,a5,a6,a7,a8⟩:=x1.app (by omega) hrow
  have e1:(h.new (.row [.int .i64 u] 3 0 false)).next=h.next+1:=rfl
  rw [e1] at a1 a3 a4 a5
  exact ⟨k1,a1,⟨h.next+1,UNK+1,by simp,by omega,by omega,.inr ⟨rfl,a4⟩⟩,by omega,fun hok=>⟨a6 (ok_new hok _),by omega,fun c hc hn=>(a5 c (by omega) hn).trans (get_new_ne (by omega)),fun m h1 h2 h3=>a8 m h1 (h2 b0 ⟨_,_,e0⟩)⟩,a7⟩
theorem wm_min (a b:Nat):cond (Nat.ble a b) a b<=a/\cond (Nat.ble a b) a b<=b:=by
 cases h:Nat.ble a b with
 | true=>exact ⟨Nat.le_refl _,ble_true.1 h⟩
 | false=>exact ⟨by have:=ble_false.1 h;simp only [cond_false];omega,Nat.le_refl _⟩
structure Sy (h0:AH) (bE bL bs lo N:Nat) (cells:List Value) (L:GL) (vl ve:Value) (elsL:List (List Value)):Prop where
 gE:h0.get bE=some (.row [.slice (some ⟨bs,0,none⟩) N N] 49 0 false)
 lE:bE<h0.next
 gL:h0.get bL=some (.row [.int .i64 L.n,vl,ve] 25 0 false)
 lL:bL<h0.next
 O:LoL lo h0 bs cells (outOf L)
 hc:cells.length=N
 aL:Arr h0 2 vl elsL
 rL:RLab h0 elsL L.labs
 hL:badLts L=false
 hN:L.n=(N:Int)
 hS:∀ S∈outOf L,S.length<=100000
section
variable {h0 k:AH} {bE bL bs lo N:Nat} {cells:List Value} {L:GL} {vl ve:Value} {elsL:List (List Value)}
theorem Sy.row (Y:Sy h0 bE bL bs lo N cells L vl ve elsL) {u:Int} (hu:0<=u/\u<L.n) {h:AH} (e:Ext h0 h):∃ cS p,pIndexAddr E 49 (some (.slice (some ⟨bs,0,none⟩) N N)) (some (.int .i64 u))=some p/\rLoad E 23 h (some p)=some cS/\Arr h0 3 cS ((rowE L u).map edCells)/\(rowE L u).length<=100000/\∀ y∈rowE L u,(0<=y.2.1/\y.2.1<L.labs.length)/\0<=y.2.2/\y.2.2<L.n:=by
 have hN:=Y.hN
 obtain ⟨un,rfl⟩:=Int.eq_ofNat_of_zero_le hu.1
 have hun:un<N:=by omega
 obtain ⟨cc,hcell⟩:∃ c,cells[un]?=some c:=⟨_,List.getElem?_eq_getElem (by rw [Y.hc];exact hun)⟩
 obtain ⟨S,hS⟩:∃ S,(outOf L)[un]?=some S:=⟨_,List.getElem?_eq_getElem (by rw [outOf_len];omega)⟩
 have hC:=Y.O.cell un _ _ hcell hS
 have gs:=(e.get _ Y.O.lts).trans Y.O.s
 have ls:=load_leaf (P:=E) ta_23 (o:=0+un*1) gs
 rw [lnth_eq,show 0+un*1=un by omega,hcell] at ls
 have ia:=ia_49 (b:=bs) (o:=0) (c:=N) (len:=N) (k:=un) hun
 rw [show 0+un*1=un by omega] at ia
 have hr:rowE L (un:Int)=S:=by unfold rowE;rw [show ((un:Int)).toNat=un from rfl,hS];rfl
 rw [hr]
 exact ⟨cc,_,ia,ls,hC.arr,Y.hS _ (List.mem_of_getElem? hS),eds_of Y.hL hS⟩
theorem Sy.gate (Y:Sy h0 bE bL bs lo N cells L vl ve elsL) {h:AH} (e:Ext h0 h) {i:Nat} (hi:i<L.labs.length):∃ (g:Int) (w:Value) (l:List GT),elsL[i]?=some [.int .i64 g,w]/\RT h0 w l/\L.labs[i]?=some (g,l):=by
 obtain ⟨el,hel⟩:∃ x,elsL[i]?=some x:=⟨_,List.getElem?_eq_getElem (by rw [RLab.length Y.rL];exact hi)⟩
 obtain ⟨g,w,l,rfl,hr,hl⟩:=RLab.at Y.rL i el hel
 exact ⟨g,w,l,hel,hr,hl⟩
theorem lenI (Y:Sy h0 bE bL bs lo N cells L vl ve elsL) {l:List Int} (hn:l.Nodup) (hr:Rg L l):l.length<=N:=nodup_bound N l hn fun x hx=>by have:=hr x hx;have:=Y.hN;omega
theorem row111 {K:KF} {vi cS:Value} (Y:Sy h0 bE bL bs lo N cells L vl ve elsL) (hk:Ext h0 k) {S:List Ed} (ha:Arr h0 3 cS (S.map edCells)) (hSl:S.length<=100000) (hy:∀ y∈S,(0<=y.2.1/\y.2.1<L.labs.length)/\0<=y.2.2/\y.2.2<L.n) {l2:List Int}
  (hK:∀ h v1,Own k h->LS k.next h v1 l2->l2.Nodup->Rg L l2->PI (C111 true) K 10 [v1,ptr bE,ptr bL,vi] h) :
  ∀ (m j:Nat),j+m=S.length->∀ h v1 l1,Own k h->LS k.next h v1 l1->l1.Nodup->Rg L l1->addRow (inE L) l1 (S.drop j)=l2->
   PI (C111 true) K 5 [v1,ptr bE,ptr bL,vi,cS,.int .i64 (S.length:Int),.int .i64 (j:Int)] h:=by
 obtain ⟨z1,z2,_,_⟩:=bad_sizes Y.hL
 have hN:=Y.hN
 intro m
 induction m with
 | zero=>
  intro j hj h v1 l1 o hl hn hr he
  refine P111_5_of ?_
  rw [bf_lss,evO_some,decide_eq_false (by omega),brK_f]
  rw [List.drop_of_length_le (by omega)] at he
  subst he
  exact hK h v1 o hl hn hr
 | succ m ih=>
  intro j hj h v1 l1 o hl hn hr he
  have hjn:j<S.length:=by omega
  obtain ⟨y,hyj⟩:∃ y,S[j]?=some y:=⟨_,List.getElem?_eq_getElem hjn⟩
  obtain ⟨⟨hy1,hy2⟩,hy3,hy4⟩:=hy y (List.mem_of_getElem? hyj)
  have hlen:=lenI Y hn hr
  refine P111_5_of ?_
  rw [bf_lss,evO_some,decide_eq_true (by omega),brK_t]
  refine P111_6_of ?_
  have hx':(S.map edCells)[j]?=some (edCells y):=by rw [List.getElem?_map,hyj];rfl
  have E0:=hk.trans o.ext
  obtain ⟨p1,q1,w1⟩:=idx23 ha E0 hx'
  obtain ⟨m1,e1,n1,t1,o1,f1⟩:=nwUp o (.row [.int .i64 0,.int .i64 0,.int .i64 0] 52 0 false) (.row (edCells y) 52 0 false)
  simp only [evO_some,q1,w1,z_52,new_row,ev_one,cells_agg,box52,e1]
  refine P111_7_of ?_
  have E1:=hk.trans o1.ext
  have hl1:LS k.next m1 v1 l1:=hl.mono (by omega) fun b _ hb _=>f1 b hb
  obtain ⟨la,hla⟩:=Int.eq_ofNat_of_zero_le hy1
  obtain ⟨gy,vy,ly,hel,hry,hlab⟩:=Y.gate E1 (i:=la) (by omega)
  obtain ⟨p2,p3,r2,r3,w3⟩:=idx22f Y.aL E1 hel
  have d4:=load_leaf (P:=E) ta_22 (o:=1) ((E1.get _ Y.lL).trans Y.gL)
  have c1:=load_leaf (P:=E) ta_3 (o:=1) t1
  have c2:=load_leaf (P:=E) ta_3 (o:=2) t1
  simp only [lnth,edCells,hla] at d4 c1 c2
  have c27:=call27 (x:=y.2.2) hl1.arr (by omega) (Ext.refl o1.ext.ok)
  have hin:inE L y=decide (gy=-1):=by unfold inE;rw [hla,show ((la:Int)).toNat=la from rfl,hlab]
  rw [List.drop_eq_getElem_cons hjn,show S[j]=y from (List.getElem?_eq_some_iff.1 hyj).2] at he
  have he':addRow (inE L) (adE (inE L) l1 y) (S.drop (j+1))=l2:=he
  have on:∀ h3 v3,Own k h3->LS k.next h3 v3 (adE (inE L) l1 y)->PI (C111 true) K 9 [v3,ptr bE,ptr bL,vi,cS,.int .i64 (S.length:Int),.int .i64 (j:Int)] h3:=by
   intro h3 v3 o3 hl3
   refine P111_9_of ?_
   simp only [bf_add _ (add1 hjn (by omega)),evO_some]
   refine ih (j+1) (by omega) h3 v3 _ o3 hl3 (adE_nodup hn) (fun x hx=>?_) he'
   rcases adE_mem.1 hx with h1|⟨_,h1⟩
   ·exact hr x h1
   ·omega
  by_cases hg:gy=-1
  ·by_cases hm:y.2.2∈l1
   ·simp only [fa_25_1,fa_52_1,fa_52_2,Nat.zero_add,d4,c1,c2,evO_some,r2,r3,w3,bf_eql,hg,hm,decide_true,gdB_bool,gdW_bool,beq_self_eq_true,cond_true,wCall_0,c27,ev_some,uf_not,pick_bool,Bool.not_true,brK_f]
    refine on m1 v1 o1 ?_
    unfold adE
    rw [if_neg (fun h=>h.2 hm)]
    exact hl1
   ·simp only [fa_25_1,fa_52_1,fa_52_2,Nat.zero_add,d4,c1,c2,evO_some,r2,r3,w3,bf_eql,hg,hm,decide_true,decide_false,gdB_bool,gdW_bool,beq_self_eq_true,cond_true,wCall_0,c27,ev_some,uf_not,pick_bool,Bool.not_false,brK_t]
    refine P111_8_of ?_
    obtain ⟨m2,a1,a2,a3,a4,_⟩:=IS.app2 (.inr hl1) o1.ext.next (by omega) y.2.2
    simp only [fa_52_2,Nat.zero_add,c2,evO_some,bs47,ev_one,a1]
    refine on m2 _ ((a4 o1.ext.ok).own o1 fun c hc=>(hl1.blk hc).1) ?_
    unfold adE
    rw [if_pos ⟨by rw [hin];exact decide_eq_true hg,hm⟩]
    exact a2
  ·simp only [fa_25_1,fa_52_1,fa_52_2,Nat.zero_add,d4,c1,c2,evO_some,r2,r3,w3,bf_eql,hg,decide_false,gdB_bool,gdW_bool,show (false==true)=false from rfl,cond_false,ev_one,pick_bool,brK_f]
   refine on m1 v1 o1 ?_
   unfold adE
   rw [if_neg (fun h=>by rw [hin] at h;exact hg (of_decide_eq_true h.1))]
   exact hl1
theorem call111 {v:Value} {l:List Int} (Y:Sy h0 bE bL bs lo N cells L vl ve elsL) (hk:Ext h0 k) (ha:Arr k 1 v (l.map i1)) (hne:l≠[]) (hn:l.Nodup) (hr:Rg L l) :
  Ev true ((recI E).call 111 [v,ptr bE,ptr bL] k) fun x=>LS k.next x.2 x.1 (closeL L l)/\Fx NoB k x.2/\x.2.wm<=k.wm:=by
 obtain ⟨z1,z2,_,_⟩:=bad_sizes Y.hL
 have hN:=Y.hN
 have hlen:=lenI Y hn hr
 refine F111_some (Rp:=fun x m=>LS k.next m x (closeL L l)/\Fx NoB k m/\m.wm<=k.wm) (P111_0_of (P111_1_of ?_))
 rw [wCall_0]
 refine (call112 (ok_fresh k) (ha.ext (Ext.refl hk.ok).fresh) hne (by omega)).mono fun y hy=>?_
 obtain ⟨v1,k1⟩:=y
 obtain ⟨b,y1,y2,y3,y4,fx⟩:=hy
 simp only at y1 y3 y4 fx ⊢
 subst y1
 have o1:Own k k1:=fx.own (Own.fresh k) fun _ h=>h.elim
 have ls1:LS k.next k1 (sI b l.length) l:=⟨b,_,rfl,y2,y3,.inr ⟨rfl,y4⟩⟩
 refine P111_2_of ?_
 have hcl:closeF L N 0 l=closeL L l:=by unfold closeL;rw [hN];rfl
 have loop:∀ (m i:Nat),i+m=N->∀ h v1 l1,Own k h->LS k.next h v1 l1->l1.Nodup->Rg L l1->closeF L m i l1=closeL L l->
   PI (C111 true) (KR E [.tmp 4] fun x h=>(isFlat x=false\/h.wm<k.next)/\(fun x m=>LS k.next m x (closeL L l)/\Fx NoB k m/\m.wm<=k.wm) x ⟨h.t,h.next,cond (Nat.ble k.wm h.wm) k.wm h.wm⟩) 3 [v1,ptr bE,ptr bL,.int .i64 (i:Int)] h:=by
  have fin:∀ h v1,Own k h->LS k.next h v1 (closeL L l)->PI (C111 true) (KR E [.tmp 4] fun x h=>(isFlat x=false\/h.wm<k.next)/\(fun x m=>LS k.next m x (closeL L l)/\Fx NoB k m/\m.wm<=k.wm) x ⟨h.t,h.next,cond (Nat.ble k.wm h.wm) k.wm h.wm⟩) 11 [v1] h:=by
   intro h v1 o hl
   refine P111_11_of ?_
   rw [kR_1]
   obtain ⟨b,c,rfl,_⟩:=id hl.ex
   exact ⟨ne_ret ▸ trivial,.inl rfl,hl.mono (Nat.le_refl _) fun _ _ _ _=>rfl,(fx_own o).back,(wm_min _ _).1⟩
  intro m
  induction m with
  | zero=>
   intro i hi h v1 l1 o hl hn1 hr1 he
   have hlen1:=lenI Y hn1 hr1
   obtain ⟨ad,cp,hv⟩:=(IS.slice (lo:=k.next) (.inr hl))
   refine P111_3_of ?_
   rw [show evRead E (tmOf [(11,v1)]) (opAt B111 [1,1,0,1,0,0,0,0] 2) h=some (.int .i64 (l1.length:Int)) by rw [hv];exact len111_3_2]
   rw [evO_some,bf_lss,evO_some,decide_eq_false (by omega),brK_f]
   have e:l1=closeL L l:=he
   subst e
   exact fin h v1 o hl
  | succ m ih=>
   intro i hi h v1 l1 o hl hn1 hr1 he
   have hlen1:=lenI Y hn1 hr1
   obtain ⟨ad,cp,hv⟩:=(IS.slice (lo:=k.next) (.inr hl))
   refine P111_3_of ?_
   rw [show evRead E (tmOf [(11,v1)]) (opAt B111 [1,1,0,1,0,0,0,0] 2) h=some (.int .i64 (l1.length:Int)) by rw [hv];exact len111_3_2]
   rw [evO_some,bf_lss,evO_some,brK_d]
   refine ⟨fun hlt=>?_,fun hge=>?_⟩
   rotate_left
   ·have hn0:l1[i]?=none:=List.getElem?_eq_none_iff.2 (by omega)
    have e:l1=closeL L l:=by rw [← he];simp only [closeF,hn0]
    subst e
    exact fin h v1 o hl
   have hil:i<l1.length:=by omega
   obtain ⟨u,hu⟩:∃ u,l1[i]?=some u:=⟨_,List.getElem?_eq_getElem hil⟩
   have hur:=hr1 u (List.mem_of_getElem? hu)
   have E0:=hk.trans o.ext
   obtain ⟨cS,p,q1,q2,q3,q4,q5⟩:=Y.row hur E0
   obtain ⟨p2,r1,r2⟩:=idx47 hl.arr (Ext.refl o.ext.ok) hu
   have lE:rLoad E 49 h (some (ptr bE))=some (.slice (some ⟨bs,0,none⟩) N N):=load_leaf (P:=E) ta_49 (o:=0) ((E0.get _ Y.lE).trans Y.gE)
   obtain ⟨ad3,cp3,hv3⟩:=q3.slice
   rw [List.length_map] at hv3
   refine P111_4_of ?_
   rw [lE,evO_some,r1,evO_some,r2,evO_some,q1,evO_some,q2,evO_some]
   rw [show evRead E (tmOf [(22,cS)]) (opAt B111 [1,1,0,1,0,0,1,0,0,0] 7) h=some (.int .i64 ((rowE L u).length:Int)) by rw [hv3];exact len111_4_7,evO_some]
   have hce:closeF L m (i+1) (addRow (inE L) l1 (rowE L u))=closeL L l:=by rw [← he];simp only [closeF,hu]
   refine row111 (l2:=addRow (inE L) l1 (rowE L u)) Y hk q3 q4 q5 (fun h2 v2 o2 hl2 hn2 hr2=>?_) (rowE L u).length 0 (by omega) h v1 l1 o hl hn1 hr1 rfl
   refine P111_10_of ?_
   simp only [bf_add _ (add1 hil (by omega)),evO_some]
   exact ih (i+1) (by omega) h2 v2 _ o2 hl2 hn2 hr2 hce
 exact loop N 0 (by omega) k1 _ l o1 ls1 hn hr hcl
end
theorem nwUpG {W:Nat} {k l:AH} (f:Fx NoB k l) (hw:l.wm<=W) (x y:AObj):∃ m,(l.new x).upd l.next (some y)=m/\m.next=l.next+1/\m.get l.next=some y/\(Fx NoB k m/\m.wm<=W)/\∀ b,b<l.next->m.get b=l.get b:=
 ⟨_,rfl,rfl,get_upd_self _ _ _,⟨(f.new x).upd (.inr f.next) _,Nat.le_trans (upd_wm _ _ _).1 hw⟩,fun b hb=>by rw [get_upd_ne (by omega),get_new_ne (by omega)]⟩
section
variable {h0 g:AH} {bE bL bs lo N W:Nat} {cells:List Value} {L:GL} {vl ve:Value} {elsL:List (List Value)} {K:KF} {v0 v1 v2 v7 v8 v13 v30 v31 v32:Value} {i:Nat}
theorem row113 {v40 v41 v42 cS:Value} (Y:Sy h0 bE bL bs lo N cells L vl ve elsL) (hg:Ext h0 g) {S:List Ed} (ha:Arr h0 3 cS (S.map edCells)) (hSl:S.length<=100000) (hy:∀ y∈S,(0<=y.2.1/\y.2.1<L.labs.length)/\0<=y.2.2/\y.2.2<L.n) {l2:List Int}
  (hK:∀ h v14,Fx NoB g h/\h.wm<=W->IS g.next h v14 l2->l2.Nodup->Rg L l2->PI (C113 true) K 18 [v0,v1,v2,ptr bE,v7,v8,.int .i64 (i:Int),v13,v14,v30,v31,v32,v40,v41,v42] h) :
  ∀ (m j:Nat),j+m=S.length->∀ h v14 l1,Fx NoB g h/\h.wm<=W->IS g.next h v14 l1->l1.Nodup->Rg L l1->addRow (onE i) l1 (S.drop j)=l2->
   PI (C113 true) K 13 [v0,v1,v2,ptr bE,v7,v8,.int .i64 (i:Int),v13,v14,v30,v31,v32,v40,v41,v42,cS,.int .i64 (S.length:Int),.int .i64 (j:Int)] h:=by
 obtain ⟨z1,z2,_,_⟩:=bad_sizes Y.hL
 have hN:=Y.hN
 intro m
 induction m with
 | zero=>
  intro j hj h v14 l1 o hl hn hr he
  refine P113_13_of ?_
  rw [bf_lss,evO_some,decide_eq_false (by omega),brK_f]
  rw [List.drop_of_length_le (by omega)] at he
  subst he
  exact hK h v14 o hl hn hr
 | succ m ih=>
  intro j hj h v14 l1 o hl hn hr he
  have hjn:j<S.length:=by omega
  obtain ⟨y,hyj⟩:∃ y,S[j]?=some y:=⟨_,List.getElem?_eq_getElem hjn⟩
  obtain ⟨⟨hy1,hy2⟩,hy3,hy4⟩:=hy y (List.mem_of_getElem? hyj)
  have hlen:=lenI Y hn hr
  refine P113_13_of ?_
  rw [bf_lss,evO_some,decide_eq_true (by omega),brK_t]
  refine P113_14_of ?_
  have hx':(S.map edCells)[j]?=some (edCells y):=by rw [List.getElem?_map,hyj];rfl
  have E0:=hg.trans o.1.ext0
  obtain ⟨p1,q1,w1⟩:=idx23 ha E0 hx'
  obtain ⟨m1,e1,n1,t1,o1,f1⟩:=nwUpG o.1 o.2 (.row [.int .i64 0,.int .i64 0,.int .i64 0] 52 0 false) (.row (edCells y) 52 0 false)
  simp only [evO_some,q1,w1,z_52,new_row,ev_one,cells_agg,box52,e1]
  refine P113_15_of ?_
  have hl1:IS g.next m1 v14 l1:=hl.mono (by omega) fun b hb _=>f1 b hb
  have c1:=load_leaf (P:=E) ta_3 (o:=1) t1
  have c2:=load_leaf (P:=E) ta_3 (o:=2) t1
  simp only [lnth,edCells] at c1 c2
  have c27:=call27 (x:=y.2.2) hl1.arr (by omega) (Ext.refl o1.1.ok)
  rw [List.drop_eq_getElem_cons hjn,show S[j]=y from (List.getElem?_eq_some_iff.1 hyj).2] at he
  have he':addRow (onE i) (adE (onE i) l1 y) (S.drop (j+1))=l2:=he
  have on:∀ h3 v3,Fx NoB g h3/\h3.wm<=W->IS g.next h3 v3 (adE (onE i) l1 y)->PI (C113 true) K 17 [v0,v1,v2,ptr bE,v7,v8,.int .i64 (i:Int),v13,v3,v30,v31,v32,v40,v41,v42,cS,.int .i64 (S.length:Int),.int .i64 (j:Int)] h3:=by
   intro h3 v3 o3 hl3
   refine P113_17_of ?_
   simp only [bf_add _ (add1 hjn (by omega)),evO_some]
   refine ih (j+1) (by omega) h3 v3 _ o3 hl3 (adE_nodup hn) (fun x hx=>?_) he'
   rcases adE_mem.1 hx with h1|⟨_,h1⟩
   ·exact hr x h1
   ·omega
  by_cases hq:y.2.1=(i:Int)
  ·by_cases hm:y.2.2∈l1
   ·simp only [fa_52_1,fa_52_2,Nat.zero_add,c1,c2,evO_some,bf_eql,hq,hm,decide_true,gdB_bool,gdW_bool,beq_self_eq_true,cond_true,wCall_0,c27,ev_some,uf_not,pick_bool,Bool.not_true,brK_f]
    refine on m1 v14 o1 ?_
    unfold adE
    rw [if_neg (fun h=>h.2 hm)]
    exact hl1
   ·simp only [fa_52_1,fa_52_2,Nat.zero_add,c1,c2,evO_some,bf_eql,hq,hm,decide_true,decide_false,gdB_bool,gdW_bool,beq_self_eq_true,cond_true,wCall_0,c27,ev_some,uf_not,pick_bool,Bool.not_false,brK_t]
    refine P113_16_of ?_
    obtain ⟨m2,a1,a2,a3,a4,a5⟩:=hl1.app2 o1.1.next (by omega) y.2.2
    simp only [fa_52_2,Nat.zero_add,c2,evO_some,bs47,ev_one,a1]
    refine on m2 _ ⟨o1.1.trans (a4 o1.1.ok) fun c hc=>.inr (hl1.blk hc).1,Nat.le_trans a5 o1.2⟩ ?_
    unfold adE
    rw [if_pos ⟨decide_eq_true hq,hm⟩]
    exact .inr a2
  ·simp only [fa_52_1,fa_52_2,Nat.zero_add,c1,c2,evO_some,bf_eql,hq,decide_false,gdB_bool,gdW_bool,show (false==true)=false from rfl,cond_false,ev_one,pick_bool,brK_f]
   refine on m1 v14 o1 ?_
   unfold adE
   rw [if_neg (fun h=>hq (of_decide_eq_true h.1))]
   exact hl1
theorem set113 (Y:Sy h0 bE bL bs lo N cells L vl ve elsL) (hg:Ext h0 g) {A:List Int} (hA:Arr g 1 v0 (A.map i1)) (hAl:A.length<=1000000) (hR:Rg L A)
  (hK:∀ h v14,Fx NoB g h/\h.wm<=W->IS g.next h v14 (nextS L i A)->PI (C113 true) K 19 [v0,v1,v2,ptr bE,v7,v8,v13,v14,v30,v31,v32] h) (hw:g.wm<=W) :
  PI (C113 true) K 8 [v0,v1,v2,ptr bE,v7,v8,.int .i64 (i:Int),v13,v30,v31,v32] g:=by
 refine P113_8_of (P113_9_of ?_)
 obtain ⟨ad,cp,hv⟩:=hA.slice
 rw [List.length_map] at hv
 rw [show evRead E (tmOf [(40,v0)]) (opAt B113 [1,1,1,1,1,0,0,1,1,0,0,1,1,1,0,0] 1) g=some (.int .i64 (A.length:Int)) by rw [hv];exact len113_9_1,evO_some]
 have loop:∀ (m q:Nat),q+m=A.length->∀ h v14 l1,Fx NoB g h/\h.wm<=W->IS g.next h v14 l1->l1.Nodup->Rg L l1->(A.drop q).foldl (fun l s=>addRow (onE i) l (rowE L s)) l1=nextS L i A->
   PI (C113 true) K 10 [v0,v1,v2,ptr bE,v7,v8,.int .i64 (i:Int),v13,v14,v30,v31,v32,v0,.int .i64 (A.length:Int),.int .i64 (q:Int)] h:=by
  intro m
  induction m with
  | zero=>
   intro q hq h v14 l1 o hl hn hr he
   refine P113_10_of ?_
   rw [bf_lss,evO_some,decide_eq_false (by omega),brK_f]
   rw [List.drop_of_length_le (by omega)] at he
   have e:l1=nextS L i A:=he
   subst e
   exact hK h v14 o hl
  | succ m ih=>
   intro q hq h v14 l1 o hl hn hr he
   have hqn:q<A.length:=by omega
   obtain ⟨u,hu⟩:∃ u,A[q]?=some u:=⟨_,List.getElem?_eq_getElem hqn⟩
   have hur:=hR u (List.mem_of_getElem? hu)
   refine P113_10_of ?_
   rw [bf_lss,evO_some,decide_eq_true (by omega),brK_t]
   refine P113_11_of ?_
   have E0:=hg.trans o.1.ext0
   obtain ⟨p2,r1,r2⟩:=idx47 hA o.1.ext0 hu
   rw [r1,evO_some,r2,evO_some]
   obtain ⟨cS,p,q1,q2,q3,q4,q5⟩:=Y.row hur E0
   have lE:rLoad E 49 h (some (ptr bE))=some (.slice (some ⟨bs,0,none⟩) N N):=load_leaf (P:=E) ta_49 (o:=0) ((E0.get _ Y.lE).trans Y.gE)
   obtain ⟨ad3,cp3,hv3⟩:=q3.slice
   rw [List.length_map] at hv3
   refine P113_12_of ?_
   rw [lE,evO_some,q1,evO_some,q2,evO_some]
   rw [show evRead E (tmOf [(49,cS)]) (opAt B113 [1,1,1,1,1,0,0,1,1,0,0,1,1,1,0,1,0,0,1,1,0,0,1,0] 4) h=some (.int .i64 ((rowE L u).length:Int)) by rw [hv3];exact len113_12_4,evO_some]
   rw [List.drop_eq_getElem_cons hqn,show A[q]=u from (List.getElem?_eq_some_iff.1 hu).2,List.foldl_cons] at he
   refine row113 (l2:=addRow (onE i) l1 (rowE L u)) Y hg q3 q4 q5 (fun h2 v2 o2 hl2 hn2 hr2=>?_) (rowE L u).length 0 (by omega) h v14 l1 o hl hn hr rfl
   refine P113_18_of ?_
   simp only [bf_add _ (add1 hqn (by omega)),evO_some]
   exact ih (q+1) (by omega) h2 v2 _ o2 hl2 hn2 hr2 he
 exact loop A.length 0 (by omega) g _ [] ⟨Fx.refl hg.ok,hw⟩ (.inl ⟨rfl,rfl⟩) List.nodup_nil (fun _ h=>by cases h) rfl
end
def OS (lo:Nat) (h:AH) (v:Value) (ws:List Bs):Prop:=(v=.slice none 0 0/\ws=[])\/∃ b,v=.slice (some ⟨b,0,none⟩) ws.length (UNK+1)/\lo<=b/\b<h.next/\h.get b=some (.row (ws.map sV) 9 1 false)
theorem OS.blk {lo:Nat} {h:AH} {v:Value} {ws:List Bs} (x:OS lo h v ws) {b:Nat} (hb:blkOf v b):lo<=b/\b<h.next:=by
 obtain ⟨n,cap,rfl⟩:=hb
 rcases x with ⟨e,_⟩|⟨c,e,h1,h2,_⟩
 ·cases e
 ·simp only [Value.slice.injEq,Option.some.injEq,Addr.mk.injEq] at e
  rw [e.1.1];exact ⟨h1,h2⟩
theorem OS.mono {lo:Nat} {k k':AH} {v:Value} {ws:List Bs} (h:OS lo k v ws) (hn:k.next<=k'.next) (hg:∀ b,b<k.next->blkOf v b->k'.get b=k.get b):OS lo k' v ws:=by
 rcases h with h|⟨b,e,h1,h2,h3⟩
 ·exact .inl h
 ·exact .inr ⟨b,e,h1,Nat.lt_of_lt_of_le h2 hn,(hg b h2 ⟨_,_,e⟩).trans h3⟩
theorem OS.app {lo:Nat} {h:AH} {v:Value} {ws:List Bs} (x:OS lo h v ws) (hlo:lo<=h.next) (hl:ws.length<=999998) (w:Bs) :
  ∃ m,wBuiltinO E .append [85,85] (some [v,.slice (some ⟨h.next,0,none⟩) 1 1]) (h.new (.row [sV w] 9 0 false))=one (.slice (some ⟨h.next+1,0,none⟩) (ws.length+1) (UNK+1),m) ∧
   OS lo m (.slice (some ⟨h.next+1,0,none⟩) (ws.length+1) (UNK+1)) (ws++[w])/\m.next=h.next+2/\(h.ok->Fx (fun c=>blkOf v c) h m)/\m.wm<=h.wm:=by
 have hrow:=get_new_self h (.row [sV w] 9 0 false)
 have hm:(ws++[w]).map sV=ws.map sV++[sV w]:=by simp
 rcases x with ⟨rfl,rfl⟩|⟨b,rfl,h1,h2,h3⟩
 ·exact ⟨_,append_nil elt85 hrow rfl,.inr ⟨h.next+1,by simp,by omega,by show h.next+1<h.next+1+1;omega,get_new_self (h.new _) _⟩,rfl,fun hok=>((Fx.refl hok).new _).new _,Nat.le_refl _⟩
 ·have hg:(h.new (.row [sV w] 9 0 false)).get b=some (.row (ws.map sV) 9 1 false):=(get_new_ne (by omega)).trans h3
  refine ⟨_,append_unk elt85 (by omega) hg (by simp) (by omega) hrow rfl rfl,.inr ⟨h.next+1,by simp,by omega,by show h.next+1<h.next+1+1;omega,?_⟩,rfl,fun hok=>?_,?_⟩
  ·rw [hm];exact get_new_self ((h.new _).upd b none) _
  ·have f1:Fx (fun x=>blkOf (.slice (some ⟨b,0,none⟩) ws.length (UNK+1)) x) h (h.new (.row [sV w] 9 0 false)):=(Fx.refl hok).new _
   exact (f1.upd (.inl ⟨_,_,rfl⟩) none).new _
  ·exact (upd_wm (h.new (.row [sV w] 9 0 false)) b none).1
abbrev PW (bB bO:Nat) (vO:Value):Nat->Prop:=fun c=>c=bB\/c=bO\/blkOf vO c
abbrev vWalk (bB bO bL bE bW bC:Nat):Value:=.func (.func 113) #[] #[ptr bB,ptr bO,ptr bL,ptr bE,ptr bW,ptr bC]
abbrev vClo (bE bL:Nat):Value:=.func (.func 111) #[] #[ptr bE,ptr bL]
structure Wk (h0 h:AH) (bB bO bW:Nat) (vW:Value) (b:Int) (vO:Value) (ws:List Bs):Prop where
 ext:Ext h0 h
 rB:h.get bB=some (.row [.int .i64 b] 3 0 false)
 rO:h.get bO=some (.row [vO] 85 0 false)
 rW:h.get bW=some (.row [vW] 165 0 false)
 lB:h0.next<=bB/\bB<h.next
 lO:h0.next<=bO/\bO<h.next
 lW:bW<h.next
 ne:bB≠bO/\bB≠bW/\bO≠bW
 out:OS h0.next h vO ws
 nb:¬ blkOf vO bB/\¬ blkOf vO bO/\¬ blkOf vO bW
theorem Wk.fx {h0 h h':AH} {bB bO bW:Nat} {vW:Value} {b:Int} {vO:Value} {ws:List Bs} (W:Wk h0 h bB bO bW vW b vO ws) (f:Fx NoB h h'):Wk h0 h' bB bO bW vW b vO ws:=
 ⟨W.ext.trans f.ext0,(f.get _ W.lB.2 id).trans W.rB,(f.get _ W.lO.2 id).trans W.rO,(f.get _ W.lW id).trans W.rW,⟨W.lB.1,Nat.lt_of_lt_of_le W.lB.2 f.next⟩,⟨W.lO.1,Nat.lt_of_lt_of_le W.lO.2 f.next⟩,Nat.lt_of_lt_of_le W.lW f.next,W.ne,W.out.mono f.next fun c hc _=>f.get c hc id,W.nb⟩
structure Tk (h0 k h:AH) (bB bO bW:Nat) (vW:Value) (b:Int) (vO:Value) (ws:List Bs) (c:Int) (add:List Bs) (b':Int) (vO':Value) (ws':List Bs):Prop where
 wk:Wk h0 h bB bO bW vW b' vO' ws'
 fx:Fx (PW bB bO vO) k h
 wm:h.wm<=bB
 blk:∀ x,blkOf vO' x->blkOf vO x\/k.next<=x
 lo:b-c<=b'
 hi:b'<=b
 txt:0<=b'->ws'=ws++add
 sum:0<=b'->(ws'.length:Int)+b'<=400
 len:ws'.length<=400
theorem Tk.move {h0 k h h':AH} {bB bO bW:Nat} {vW:Value} {b:Int} {vO:Value} {ws:List Bs} {c:Int} {add:List Bs} {b':Int} {vO':Value} {ws':List Bs} (R:Tk h0 k h bB bO bW vW b vO ws c add b' vO' ws') (f:Fx NoB h h') (hw:h'.wm<=bB):Tk h0 k h' bB bO bW vW b vO ws c add b' vO' ws':=
 ⟨R.wk.fx f,R.fx.trans f fun _ h=>h.elim,hw,R.blk,R.lo,R.hi,R.txt,R.sum,R.len⟩
theorem Tk.trans {h0 k h h':AH} {bB bO bW:Nat} {vW:Value} {b:Int} {vO:Value} {ws:List Bs} {c d:Int} {add add2:List Bs} {b1 b2:Int} {vO1 vO2:Value} {ws1 ws2:List Bs} (R:Tk h0 k h bB bO bW vW b vO ws c add b1 vO1 ws1) (S:Tk h0 h h' bB bO bW vW b1 vO1 ws1 d add2 b2 vO2 ws2):Tk h0 k h' bB bO bW vW b vO ws (c+d) (add++add2) b2 vO2 ws2:=
 ⟨S.wk,R.fx.trans S.fx (by
  rintro x (rfl|rfl|h)
  ·exact .inl (.inl rfl)
  ·exact .inl (.inr (.inl rfl))
  ·exact (R.blk x h).imp (fun h=>.inr (.inr h)) id),S.wm,fun x hx=>(S.blk x hx).elim (R.blk x) fun h=>.inr (Nat.le_trans R.fx.next h),by have:=R.lo;have:=S.lo;omega,by have:=R.hi;have:=S.hi;omega,fun h=>by
   have h1:=S.txt h
   have:=S.hi
   rw [h1,R.txt (by omega),List.append_assoc],S.sum,S.len⟩
theorem Tk.le {h0 k h:AH} {bB bO bW:Nat} {vW:Value} {b:Int} {vO:Value} {ws:List Bs} {c c':Int} {add add':List Bs} {b':Int} {vO':Value} {ws':List Bs} (R:Tk h0 k h bB bO bW vW b vO ws c add b' vO' ws') (hc:c<=c') (ha:add=add'):Tk h0 k h bB bO bW vW b vO ws c' add' b' vO' ws':=
 ⟨R.wk,R.fx,R.wm,R.blk,by have:=R.lo;omega,R.hi,fun h=>ha ▸ R.txt h,R.sum,R.len⟩
theorem shLab_len (a:Int) (l:List GT):(shLab a l).length<=4+7*nL l:=by
 have h1:=utF_len (IntKind.i32.wrap (wrapF .i64 (100+a)))
 have h2:=shA_len l
 unfold shLab
 rw [List.length_append];omega
theorem veqW {bB bO bL bE bW bC:Nat}:veq 100 (vWalk bB bO bL bE bW bC) (vWalk bB bO bL bE bW bC)=true:=by
 show (decide _&&veqs 99 [] []&&veqs 99 [ptr bB,ptr bO,ptr bL,ptr bE,ptr bW,ptr bC] [ptr bB,ptr bO,ptr bL,ptr bE,ptr bW,ptr bC])=true
 simp only [veqs,veq_ptr,Bool.and_self,decide_true]
theorem veq36 {a:Int} {x:Option Addr} {n c:Nat}:veq 100 (.agg ⟨[.int .i64 a,.slice x n c]⟩) (.agg ⟨[.int .i64 a,.slice x n c]⟩)=true:=by
 show veqs 99 [.int .i64 a,.slice x n c] [.int .i64 a,.slice x n c]=true
 simp only [veqs,veq_int,veq_slice,Bool.and_self]
theorem ap113 {l:Bs} (h:l.length<=1000000000):evPure E (tmOf [(80,sV l)]) (opAt B113 [1,1,1,1,1,0,0,1,1,0,0,1,1,1,1,1,0] 5)=some (sV (l++[124])):=by
 rw [← sl_add (l:=l) (m:=[124]) (by simp;omega)];kernel_rfl
theorem aq113 {l m:Bs} (h:l.length+m.length<=1000000000):evPure E (tmOf [(81,sV l),(83,sV m)]) (opAt B113 [1,1,1,1,1,0,0,1,1,0,0,1,1,1,1,1,0] 8)=some (sV (l++m)):=by
 rw [← sl_add (l:=l) (m:=m) (by omega)];kernel_rfl
theorem wC111 {bE bL:Nat} {v:Value} {h:AH}:wCallV (recI E) (some (vClo bE bL)) (some [v]) h=(recI E).call 111 [v,ptr bE,ptr bL] h:=by rw [wCall_fn];rfl
theorem wC113 {bB bO bL bE bW bC:Nat} {a b c:Value} {h:AH}:wCallV (recI E) (some (vWalk bB bO bL bE bW bC)) (some [a,b,c]) h=(recI E).call 113 [a,b,c,ptr bB,ptr bO,ptr bL,ptr bE,ptr bW,ptr bC] h:=by rw [wCall_fn];rfl
def cst:Nat->Int
 | 0=>1
 | n+1=>1+4000*cst n
theorem cst_pos:∀ n,1<=cst n
 | 0=>by simp [cst]
 | n+1=>by have:=cst_pos n;simp only [cst];omega
section
variable {h0:AH} {bE bL bs lo N bB bO bW bC:Nat} {cells:List Value} {L:GL} {vl ve:Value} {elsL:List (List Value)}
def St113 (h0:AH) (L:GL) (bB bO bL bE bW bC n:Nat):Prop:=∀ (k:AH) (A:List Int) (w:Bs) (vA vO:Value) (b:Int) (ws:List Bs),Wk h0 k bB bO bW (vWalk bB bO bL bE bW bC) b vO ws->
 (∀ h:AH,h.ok->k.next<=h.next->(∀ c,c<k.next->¬ PW bB bO vO c->h.get c=k.get c)->Arr h 1 vA (A.map i1))->A.length<=1000000->Rg L A->w.length+n*1000000<=10000000->b<=400->cst n-4000000000000000000<=b->(0<=b->(ws.length:Int)+b<=400)->ws.length<=400->
 Ev true ((recI E).call 113 [vA,sV w,.int .i64 (n:Int),ptr bB,ptr bO,ptr bL,ptr bE,ptr bW,ptr bC] k) fun x=>x.1=.tuple #[]/\∃ b' vO' ws',Tk h0 k x.2 bB bO bW (vWalk bB bO bL bE bW bC) b vO ws (cst n) (dfs L n A w) b' vO' ws'
theorem step113 (Y:Sy h0 bE bL bs lo N cells L vl ve elsL) (gC:h0.get bC=some (.row [vClo bE bL] 164 0 false)) (lC:bC<h0.next) (hN2:∀ c∈L.labs,nL c.2<=100000)
  (n:Nat) (ih:∀ n',n=n'+1->St113 h0 L bB bO bL bE bW bC n'):St113 h0 L bB bO bL bE bW bC n:=by
 obtain ⟨z1,z2,z3,_⟩:=bad_sizes Y.hL
 have hNN:=Y.hN
 intro k A w vA vO b ws W0 hA hAl hR hw hb hb2 hs hs2
 have hcp:=cst_pos n
 generalize hvW:vWalk bB bO bL bE bW bC=vW at W0
 obtain ⟨lB1,lB2⟩:=W0.lB
 obtain ⟨lO1,lO2⟩:=W0.lO
 obtain ⟨ne1,ne2,ne3⟩:=W0.ne
 have hk0:=W0.ext.next
 refine F113_some (Rp:=fun x m=>x=.tuple #[]/\∃ b' vO' ws',Tk h0 k m bB bO bW vW b vO ws (cst n) (dfs L n A w) b' vO' ws') (P113_0_of ?_)
 have fin:∀ (h:AH) (c:Int) (add:List Bs) (b':Int) (vO':Value) (ws':List Bs) (ex:Ex),notExit ex=true->Tk h0 k.fresh h bB bO bW vW b vO ws c add b' vO' ws'->c<=cst n->(0<=b'->add=dfs L n A w)->
   KR E [] (fun x k'=>(isFlat x=false\/k'.wm<k.next)/\(fun x m=>x=.tuple #[]/\∃ b' vO' ws',Tk h0 k m bB bO bW vW b vO ws (cst n) (dfs L n A w) b' vO' ws') x ⟨k'.t,k'.next,cond (Nat.ble k.wm k'.wm) k.wm k'.wm⟩) ex [] h:=by
  intro h c add b' vO' ws' ex hex T hc ha
  rw [kR_0]
  have hwm:=T.wm
  have hlo:=T.lo
  have V:=T.wk
  refine ⟨hex,.inr (by omega),rfl,b',vO',ws',?_⟩
  exact ⟨⟨⟨T.fx.back.ok,V.ext.next,V.ext.get⟩,V.rB,V.rO,V.rW,V.lB,V.lO,V.lW,V.ne,V.out.mono (Nat.le_refl _) fun _ _ _=>rfl,V.nb⟩,T.fx.back,Nat.le_trans (wm_min _ _).2 hwm,T.blk,by omega,T.hi,fun h=>by rw [T.txt h,ha h],T.sum,T.len⟩
 have l0:rLoad E 3 k.fresh (some (ptr bB))=some (.int .i64 b):=load_leaf (P:=E) ta_3 (o:=0) W0.rB
 have hst:=store_of (P:=E) ts_3 (o:=0) (h:=k.fresh) W0.rB (cells_int .i64 (b-1)) rfl (by simp) rfl
 rw [show lput [Value.int .i64 b] 0 [.int .i64 (b-1)]=[.int .i64 (b-1)] from rfl] at hst
 rw [l0,evO_some,bf_sub _ (show in64 (b-1) by unfold in64;omega),evO_some,hst,ev_one]
 have f1:Fx (PW bB bO vO) k.fresh (k.fresh.upd bB (some (.row [.int .i64 (b-1)] 3 0 false))):=(Fx.refl (ok_fresh k)).upd (.inl (.inl rfl)) _
 have g1:(k.fresh.upd bB (some (.row [.int .i64 (b-1)] 3 0 false))).get bB=some (.row [.int .i64 (b-1)] 3 0 false):=get_upd_self _ _ _
 have w1:(k.fresh.upd bB (some (.row [.int .i64 (b-1)] 3 0 false))).wm<=bB:=(upd_wm _ _ _).2
 have n1:(k.fresh.upd bB (some (.row [.int .i64 (b-1)] 3 0 false))).next=k.next:=rfl
 have o1:∀ c,c≠bB->(k.fresh.upd bB (some (.row [.int .i64 (b-1)] 3 0 false))).get c=k.get c:=fun c hc=>get_upd_ne hc
 generalize (k.fresh.upd bB (some (.row [.int .i64 (b-1)] 3 0 false)))=k1 at f1 g1 w1 n1 o1
 have W1:Wk h0 k1 bB bO bW vW (b-1) vO ws:=
  ⟨⟨f1.ok,by omega,fun c hc=>(o1 c (by omega)).trans (W0.ext.get c hc)⟩,g1,(o1 _ ne1.symm).trans W0.rO,(o1 _ ne2.symm).trans W0.rW,⟨lB1,by omega⟩,⟨lO1,by omega⟩,by have:=W0.lW;omega,W0.ne,W0.out.mono (by omega) fun c _ hc=>o1 c fun e=>W0.nb.1 (e ▸ hc),W0.nb⟩
 refine P113_1_of ?_
 have l1:rLoad E 3 k1 (some (ptr bB))=some (.int .i64 (b-1)):=load_leaf (P:=E) ta_3 (o:=0) W1.rB
 rw [l1,evO_some,bf_lss,evO_some]
 by_cases hneg:b-1<0
 ·rw [decide_eq_true hneg,brK_t]
  exact fin k1 1 [] (b-1) vO ws _ (ne_ret ▸ trivial) ⟨W1,f1,w1,fun x h=>.inl h,by omega,by omega,fun h=>absurd hneg (by omega),fun h=>absurd hneg (by omega),hs2⟩ hcp fun h=>absurd hneg (by omega)
 rw [decide_eq_false hneg,brK_f]
 refine P113_2_of ?_
 have l2:rLoad E 85 k1 (some (ptr bO))=some vO:=load_leaf (P:=E) ta_85 (o:=0) W1.rO
 obtain ⟨m,a1,a2,a3,a4,a5⟩:=W1.out.app W1.ext.next (by omega) w
 have a4:=a4 f1.ok
 rw [l2,evO_some,bs85,ev_one,a1,ev_one]
 have mO:m.get bO=some (.row [vO] 85 0 false):=(a4.get _ W1.lO.2 W0.nb.2.1).trans W1.rO
 have hst2:=store_of (P:=E) ts_85 (o:=0) (h:=m) (x:=.slice (some ⟨k1.next+1,0,none⟩) (ws.length+1) (UNK+1)) (cs:=[.slice (some ⟨k1.next+1,0,none⟩) (ws.length+1) (UNK+1)]) mO rfl rfl (by simp) rfl
 rw [show lput [vO] 0 [Value.slice (some ⟨k1.next+1,0,none⟩) (ws.length+1) (UNK+1)]=[Value.slice (some ⟨k1.next+1,0,none⟩) (ws.length+1) (UNK+1)] from rfl] at hst2
 rw [hst2,ev_one]
 generalize hv1:Value.slice (some ⟨k1.next+1,0,none⟩) (ws.length+1) (UNK+1)=vO1 at a2 hst2
 have b1:∀ c,blkOf vO1 c->c=k1.next+1:=fun c hc=>by
  obtain ⟨n',cap,e⟩:=hc
  rw [← hv1] at e
  simp only [Value.slice.injEq,Option.some.injEq,Addr.mk.injEq] at e
  exact e.1.1.symm
 have f2:Fx (PW bB bO vO) k.fresh (m.upd bO (some (.row [vO1] 85 0 false))):=(f1.trans a4 fun c hc=>.inl (.inr (.inr hc))).upd (.inl (.inr (.inl rfl))) _
 have g2:(m.upd bO (some (.row [vO1] 85 0 false))).get bO=some (.row [vO1] 85 0 false):=get_upd_self _ _ _
 have w2:(m.upd bO (some (.row [vO1] 85 0 false))).wm<=bB:=Nat.le_trans (upd_wm _ _ _).1 (Nat.le_trans a5 w1)
 have n2:(m.upd bO (some (.row [vO1] 85 0 false))).next=k1.next+2:=a3
 have o2:∀ c,c≠bO->(m.upd bO (some (.row [vO1] 85 0 false))).get c=m.get c:=fun c hc=>get_upd_ne hc
 generalize (m.upd bO (some (.row [vO1] 85 0 false)))=k2 at f2 g2 w2 n2 o2
 have old:∀ c,c<k1.next->c≠bO->¬ blkOf vO c->k2.get c=k1.get c:=fun c h1 h2 h3=>(o2 c h2).trans (a4.get c h1 h3)
 have T2:Tk h0 k.fresh k2 bB bO bW vW b vO ws 1 [w] (b-1) vO1 (ws++[w]):=by
  refine ⟨⟨⟨f2.ok,by omega,fun c hc=>(old c (by omega) (by omega) fun h=>by have:=(W0.out.blk h).1;omega).trans (W1.ext.get c hc)⟩,(old _ W1.lB.2 ne1 W0.nb.1).trans W1.rB,g2,(old _ W1.lW ne3.symm W0.nb.2.2).trans W1.rW,⟨lB1,by omega⟩,⟨lO1,by omega⟩,by have:=W0.lW;omega,W0.ne,a2.mono (by omega) fun c _ hc=>o2 c ?_,?_,?_,?_⟩,f2,w2,fun x hx=>.inr ?_,by omega,by omega,fun _=>rfl,fun _=>?_,?_⟩
  ·have:=b1 c hc;omega
  ·intro h;have:=b1 _ h;omega
  ·intro h;have:=b1 _ h;omega
  ·intro h;have:=b1 _ h;have:=W0.lW;omega
  ·have:=b1 x hx
   show k.next<=x
   omega
  ·have:=hs (by omega)
   simp only [List.length_append,List.length_cons,List.length_nil];omega
  ·have:=hs (by omega)
   simp only [List.length_append,List.length_cons,List.length_nil];omega
 clear a1 a2 a3 a4 a5 mO hst2 f2 g2 w2 n2 o2 old
 refine P113_3_of ?_
 rw [bf_eql,evO_some]
 by_cases hn0:n=0
 ·subst hn0
  rw [decide_eq_true (by rfl),brK_t]
  exact fin k2 1 [w] _ _ _ _ (ne_ret ▸ trivial) T2 hcp fun _=>rfl
 rw [decide_eq_false (by omega),brK_f]
 obtain ⟨n',rfl⟩:∃ n',n=n'+1:=⟨n-1,by omega⟩
 have ihn:=ih n' rfl
 refine P113_4_of ?_
 have E2:Ext h0 k2:=T2.wk.ext
 have lL2:rLoad E 22 k2 (some (.pointer (some ⟨bL,0+1,none⟩)))=some vl:=load_leaf (P:=E) ta_22 (o:=0+1) ((E2.get _ Y.lL).trans Y.gL)
 obtain ⟨al,cl,hvl⟩:=Y.aL.slice
 rw [RLab.length Y.rL] at hvl
 rw [fa_25_1,evO_some,lL2,evO_some,show evRead E (tmOf [(30,vl)]) (opAt B113 [1,1,1,1,0] 2) k2=some (.int .i64 (L.labs.length:Int)) by rw [hvl];exact len113_4_2,evO_some]
 have hC:=cst_pos n'
 have hcn:cst (n'+1)=1+4000*cst n':=rfl
 have mulc:∀ i:Nat,i<=4000->(i:Int)*cst n'<=4000*cst n':=fun i hi=>Int.mul_le_mul_of_nonneg_right (by omega) (by omega)
 have muls:∀ i:Nat,((i+1:Nat):Int)*cst n'=(i:Int)*cst n'+cst n':=fun i=>by rw [Int.natCast_add,Int.add_mul,Int.natCast_one,Int.one_mul]
 have rsucc:∀ i:Nat,(List.range (i+1)).flatMap (brS L (dfs L n') A w)=(List.range i).flatMap (brS L (dfs L n') A w)++brS L (dfs L n') A w i:=fun i=>by rw [List.range_succ,List.flatMap_append];simp
 have loop:∀ (m i:Nat),i+m=L.labs.length->∀ (h:AH) (b1:Int) (vO1:Value) (ws1:List Bs),Tk h0 k.fresh h bB bO bW vW b vO ws (1+(i:Int)*cst n') (w::(List.range i).flatMap (brS L (dfs L n') A w)) b1 vO1 ws1->
   PI (C113 true) (KR E [] (fun x k'=>(isFlat x=false\/k'.wm<k.next)/\(fun x m=>x=.tuple #[]/\∃ b' vO' ws',Tk h0 k m bB bO bW vW b vO ws (cst (n'+1)) (dfs L (n'+1) A w) b' vO' ws') x ⟨k'.t,k'.next,cond (Nat.ble k.wm k'.wm) k.wm k'.wm⟩)) 5
    [vA,sV w,.int .i64 ((n'+1:Nat):Int),ptr bE,ptr bW,ptr bC,vl,.int .i64 (L.labs.length:Int),.int .i64 (i:Int)] h:=by
  intro m
  induction m with
  | zero=>
   intro i hi h b1 vO1 ws1 T
   refine P113_5_of ?_
   rw [bf_lss,evO_some,decide_eq_false (by omega),brK_f]
   obtain rfl:i=L.labs.length:=by omega
   exact fin h _ _ _ _ _ _ (ne_normal ▸ trivial) T (by have:=mulc L.labs.length (by omega);omega) fun _=>rfl
  | succ m ihm=>
   intro i hi h b1 vO1 ws1 T
   have hil:i<L.labs.length:=by omega
   refine P113_5_of ?_
   rw [bf_lss,evO_some,decide_eq_true (by omega),brK_t]
   refine P113_6_of ?_
   have Eh:=T.wk.ext
   obtain ⟨g,lv,l,hel,hrt,hlab⟩:=Y.gate Eh hil
   obtain ⟨sa,sc,hlv⟩:=hrt.slice
   subst hlv
   obtain ⟨p,q1,q2⟩:=idx22 Y.aL Eh hel
   obtain ⟨m1,e1,n1,t1,⟨f1,w1⟩,fr1⟩:=nwUpG (Fx.refl T.fx.ok) T.wm (.row [.int .i64 0,.slice none 0 0] 36 0 false) (.row [.int .i64 g,.slice sa l.length sc] 36 0 false)
   rw [q1,evO_some,q2,evO_some]
   simp only [z_36,new_row,ev_one,cells_agg]
   rw [box36 (rt_leaf hrt),ev_one,e1]
   refine P113_7_of ?_
   have l3:rLoad E 3 m1 (some (.pointer (some ⟨h.next,0+0,none⟩)))=some (.int .i64 g):=load_leaf (P:=E) ta_3 (o:=0+0) t1
   rw [fa_36_0,evO_some,l3,evO_some,bf_eql,evO_some]
   have on:∀ (h2:AH) (b2:Int) (vO2:Value) (ws2:List Bs),Tk h0 k.fresh h2 bB bO bW vW b vO ws (1+((i+1:Nat):Int)*cst n') (w::(List.range (i+1)).flatMap (brS L (dfs L n') A w)) b2 vO2 ws2->
     PI (C113 true) (KR E [] (fun x k'=>(isFlat x=false\/k'.wm<k.next)/\(fun x m=>x=.tuple #[]/\∃ b' vO' ws',Tk h0 k m bB bO bW vW b vO ws (cst (n'+1)) (dfs L (n'+1) A w) b' vO' ws') x ⟨k'.t,k'.next,cond (Nat.ble k.wm k'.wm) k.wm k'.wm⟩)) 21
      [vA,sV w,.int .i64 ((n'+1:Nat):Int),ptr bE,ptr bW,ptr bC,vl,.int .i64 (L.labs.length:Int),.int .i64 (i:Int)] h2:=by
    intro h2 b2 vO2 ws2 T2
    refine P113_21_of ?_
    rw [bf_add _ ⟨by omega,by omega⟩,evO_some]
    exact ihm (i+1) (by omega) h2 b2 vO2 ws2 T2
   have skip:brS L (dfs L n') A w i=[]->∀ h2,Fx NoB h h2->h2.wm<=bB->_:=fun hb h2 f hw=>on h2 b1 vO1 ws1 ((T.move f hw).le (by rw [muls];omega) (by rw [rsucc,hb,List.append_nil]))
   by_cases hg:g=-1
   ·rw [decide_eq_true hg,brK_t]
    exact skip (by unfold brS;rw [hlab];simp only;rw [if_pos (.inl hg)]) m1 f1 w1
   rw [decide_eq_false hg,brK_f]
   have Tm:=T.move f1 w1
   have hAm:=hA m1 Tm.fx.ok Tm.fx.next fun c hc hp=>Tm.fx.get c hc hp
   refine set113 (W:=bB) Y Tm.wk.ext hAm hAl hR (fun h2 v14 o2 his=>?_) w1
   have f2:Fx NoB m1 h2:=o2.1
   have w2:=o2.2
   have his:IS m1.next h2 v14 (nextS L i A):=his
   have f12:Fx NoB h h2:=f1.trans f2 fun _ h=>h.elim
   obtain ⟨ad,cp,hv14⟩:=his.slice
   refine P113_19_of ?_
   rw [show evRead E (tmOf [(73,v14)]) (opAt B113 [1,1,1,1,1,0,0,1,1,0,0,1,1,1,1,0] 1) h2=some (.int .i64 ((nextS L i A).length:Int)) by rw [hv14];exact len113_19_1,evO_some,bf_gtr,evO_some]
   by_cases hnx:nextS L i A=[]
   ·rw [hnx,decide_eq_false (by simp),brK_f]
    exact skip (by unfold brS;rw [hlab];simp only;rw [if_pos (.inr hnx)]) h2 f12 w2
   rw [decide_eq_true (by have:=List.length_pos_iff.2 hnx;omega),brK_t]
   refine P113_20_of ?_
   have T2:=T.move f12 w2
   have rgN:Rg L (nextS L i A):=fun v hv=>by
    obtain ⟨s,_,hs⟩:=(nextS_mem Y.hL hR hlab).1 hv
    exact (stp_rng Y.hL hs).2.1
   obtain ⟨cn,cr,_,_,_⟩:=closeL_ok Y.hL nextS_nodup rgN
   have clen:=lenI Y cn cr
   subst hvW
   have t2:=(f2.get h.next (by omega) id).trans t1
   have lW:rLoad E 165 h2 (some (ptr bW))=some (vWalk bB bO bL bE bW bC):=load_leaf (P:=E) ta_165 (o:=0) T2.wk.rW
   have lCl:rLoad E 164 h2 (some (ptr bC))=some (vClo bE bL):=load_leaf (P:=E) ta_164 (o:=0) ((T2.wk.ext.get _ lC).trans gC)
   have l36:rLoad E 36 h2 (some (ptr h.next))=some (.agg ⟨[.int .i64 g,.slice sa l.length sc]⟩):=load_agg (P:=E) ta_36 (o:=0) t2 (by simp)
   have hnl:nL l<=100000:=hN2 (g,l) (List.mem_of_getElem? hlab)
   have hsl:=shLab_len g l
   rw [lW,evO_some,lCl,evO_some,ap113 (by omega),evO_some,l36,evO_some,bf_sub _ ⟨by omega,by omega⟩,evO_some,wC111]
   refine (call111 Y T2.wk.ext his.arr hnx nextS_nodup rgN).mono fun y hy=>?_
   obtain ⟨vx,h3⟩:=y
   obtain ⟨c1,c2,c3⟩:=hy
   simp only at c1 c2 c3 ⊢
   have T3:=T2.move c2 (Nat.le_trans c3 w2)
   have hb3:=T2.wk.lB.2
   have hO3:=T2.wk.lO.2
   have t3:=(c2.get h.next (by have:=f2.next;omega) id).trans t2
   have lW3:rLoad E 165 h3 (some (ptr bW))=some (vWalk bB bO bL bE bW bC):=load_leaf (P:=E) ta_165 (o:=0) T3.wk.rW
   have l363:rLoad E 36 h3 (some (ptr h.next))=some (.agg ⟨[.int .i64 g,.slice sa l.length sc]⟩):=load_agg (P:=E) ta_36 (o:=0) t3 (by simp)
   rw [l363,evO_some]
   refine ⟨veq36,?_⟩
   rw [lW3,evO_some]
   refine ⟨veqW,?_⟩
   rw [wCall_0,call114 hnl hrt T3.wk.ext,ev_some,lW3,evO_some]
   refine ⟨veqW,?_⟩
   rw [aq113 (by simp;omega),evO_some,wC113,show ((n'+1:Nat):Int)-1=(n':Int) by omega]
   have htx:w++[124]++shLab g l=w++124::shLab g l:=by simp
   rw [htx]
   have hlo:=T.lo
   have hhi:=T.hi
   refine (ihn _ _ _ _ _ _ _ T3.wk (fun hh ok hn hget=>(c1.mono hn fun b' hb1 hb2 hbk=>hget b' hb2 ?_).arr) (by omega) cr (by simp;omega) (by omega) ?_ T.sum T.len).mono fun z hz=>?_
   ·rintro (rfl|rfl|hb)
    ·omega
    ·omega
    ·have:=(T2.wk.out.blk hb).2;omega
   ·have:=mulc (i+1) (by omega)
    rw [muls] at this
    omega
   ·obtain ⟨_,b2,vO2,ws2,S⟩:=hz
    refine on z.2 b2 vO2 ws2 ((T3.trans S).le (by rw [muls];omega) ?_)
    rw [rsucc]
    have:brS L (dfs L n') A w i=dfs L n' (closeL L (nextS L i A)) (w++124::shLab g l):=by
     unfold brS;rw [hlab];simp only;rw [if_neg (not_or.2 ⟨hg,hnx⟩)]
    rw [this,List.cons_append]
 exact loop L.labs.length 0 (by omega) k2 _ _ _ (T2.le (by simp) (by simp))
theorem call113 (Y:Sy h0 bE bL bs lo N cells L vl ve elsL) (gC:h0.get bC=some (.row [vClo bE bL] 164 0 false)) (lC:bC<h0.next) (hN2:∀ c∈L.labs,nL c.2<=100000):∀ n,St113 h0 L bB bO bL bE bW bC n
 | 0=>step113 Y gC lC hN2 0 fun n' h=>by cases h
 | n+1=>step113 Y gC lC hN2 (n+1) fun n' h=>by cases h;exact call113 Y gC lC hN2 n
end
theorem strs_map:∀ ss:List Bs,strsOf (ss.map sV)=some ss
 | []=>rfl
 | s::ss=>by simp only [List.map_cons,strsOf,strs_map ss]
theorem call115 {k:AH} {b:Nat} {ss:List Bs} (hb:k.get b=some (.row (ss.map sV) 9 1 false)) (hl:ss.length<=1000000) :
  (recI E).call 115 [.slice (some ⟨b,0,none⟩) ss.length (UNK+1)] k=some [(.tuple #[],k.upd b (some (.row ((sorS ss).map sV) 9 1 false)))]:=by
 refine call_sum (P:=E) (fn:=Tryz.f115) (c:=bodyOf Tryz.f115) (by kernel_rfl) (by kernel_rfl) ?_
 show sortAt [.slice (some ⟨b,0,none⟩) ss.length (UNK+1)] k=_
 unfold sortAt
 simp only [hb,strs_map,llen_eq,Nat.beq_refl,ble_true.2 hl,Bool.and_self,cond_true]
theorem bx1 {t:TypeId} (ht:tsize E t=some 1) {h:AH} {z v:Value} (hv:cellsOfV v=[v]) (hl:isLeaf v=true) :
  wStore E t (h.new (.row [z] t 0 false)) (some (ptr h.next)) (some v)=one (undef,(h.new (.row [z] t 0 false)).upd h.next (some (.row [v] t 0 false))):=by
 rw [store_of (P:=E) ht (x:=v) (cs:=[v]) (get_new_self h _) hv rfl (by simp) (by simp [hl])]
 rfl
def Q59 (L:GL) (v:Value) (m:AH):Prop:=v=.slice none 0 0\/∃ b,v=.slice (some ⟨b,0,none⟩) (wordsOf L 4).length (UNK+1)/\b<m.next/\m.get b=some (.row ((sorS (wordsOf L 4)).map sV) 9 1 false)/\(wordsOf L 4).length<=400
theorem call59 {k:AH} {x:Value} {L:GL} (hok:k.ok) (hx:RL k x L) (hL:badLts L=false) (hN2:∀ c∈L.labs,nL c.2<=100000) :
  Ev true ((recI E).call 59 [x,.int .i64 4] k) fun y=>Q59 L y.1 y.2/\Fx NoB k y.2:=by
 obtain ⟨z1,z2,z3,z4⟩:=bad_sizes hL
 obtain ⟨N,hN⟩:=Int.eq_ofNat_of_zero_le (show 0<=L.n by omega)
 obtain ⟨vl,ve,elsL,rfl,x2,x3,x4⟩:=id hx.ex
 have main:PI (C59 true) (KR E [.tmp 4] fun v m=>Q59 L v m/\Own k m) 0 [.agg ⟨[.int .i64 L.n,vl,ve]⟩,.int .i64 4] k.fresh:=by
  refine P59_0_of ?_
  obtain ⟨k1,e1,n1,t1,o1,f1⟩:=nwF k (.row [.int .i64 L.n,vl,ve] 25 0 false)
  simp only [new_row,ev_one,cells_agg,e1,next_fresh]
  refine P59_1_of ?_
  have a1:=load_agg (P:=E) ta_25 (o:=0) t1 (by simp)
  simp only [List.drop_zero,List.take] at a1
  rw [a1,evO_some,wCall_0]
  refine (call24 o1.ext.ok (hx.ext o1.ext) hL hN).mono fun u hu=>?_
  obtain ⟨w1,k2⟩:=u
  obtain ⟨bs,cells,hw1,O1,hc1,hS1,fx1⟩:=hu
  simp only at hw1 O1 fx1 ⊢
  subst hw1
  have o2:=fx1.own o1 (fun _ h=>h.elim)
  have hn1:=fx1.next
  obtain ⟨k3,e3,n3,t3,o3,f3⟩:=nwUp o2 (.row [.slice none 0 0] 49 0 false) (.row [.slice (some ⟨bs,0,none⟩) N N] 49 0 false)
  simp only [z_49,new_row,ev_one,cells_slice]
  rw [bx1 ts_49 rfl rfl,ev_one,e3]
  refine P59_2_of ?_
  rw [show pMakeFunc (.func 111) (some []) (some [ptr k2.next,ptr k.next])=some (vClo k2.next k.next) from rfl,evO_some]
  obtain ⟨k4,e4,n4,t4,o4,f4⟩:=nwUp o3 (.row [.nilFunc] 164 0 false) (.row [vClo k2.next k.next] 164 0 false)
  simp only [z_164,new_row,ev_one,cellsOfV]
  rw [bx1 ts_164 rfl rfl,ev_one,e4]
  have f24:∀ b,b<k2.next->k4.get b=k2.get b:=fun b hb=>(f4 b (by omega)).trans (f3 b hb)
  have E24:Ext k2 k4:=⟨o4.ext.ok,by omega,f24⟩
  have tL:k4.get k.next=some (.row [.int .i64 L.n,vl,ve] 25 0 false):=(f24 _ (by omega)).trans ((fx1.get _ (by omega) id).trans t1)
  have Y:Sy k4 k2.next k.next bs k1.next N cells L vl ve elsL:=⟨(f4 _ (by omega)).trans t3,by omega,tL,by omega,O1.ext E24,hc1,x2.ext o4.ext,x3.ext o4.ext,hL,hN,hS1⟩
  have gC:k4.get k3.next=some (.row [vClo k2.next k.next] 164 0 false):=t4
  refine P59_3_of ?_
  obtain ⟨k5,e5,n5,t5,o5,f5⟩:=nw o4 (.row [.slice none 0 0] 85 0 false)
  simp only [z_85,new_row,ev_one,cells_slice,e5]
  refine P59_4_of ?_
  obtain ⟨k6,e6,n6,t6,o6,f6⟩:=nwUp o5 (.row [.int .i64 0] 3 0 false) (.row [.int .i64 400] 3 0 false)
  simp only [z_3,new_row,ev_one,cells_int]
  rw [bx1 ts_3 rfl rfl,ev_one,e6]
  refine P59_5_of ?_
  obtain ⟨k7,e7,n7,t7,o7,f7⟩:=nw o6 (.row [.nilFunc] 165 0 false)
  simp only [z_165,new_row,ev_one,cellsOfV,e7]
  refine P59_6_of ?_
  rw [show pMakeFunc (.func 113) (some []) (some [ptr k5.next,ptr k4.next,ptr k.next,ptr k2.next,ptr k6.next,ptr k3.next])=some (vWalk k5.next k4.next k.next k2.next k6.next k3.next) from rfl,evO_some]
  obtain ⟨k8,e8,n8,t8,o8,f8⟩:=up o7 (b:=k6.next) o6.ext.next (.row [vWalk k5.next k4.next k.next k2.next k6.next k3.next] 165 0 false)
  have hst8:=store_of (P:=E) ts_165 (o:=0) (h:=k7) (x:=vWalk k5.next k4.next k.next k2.next k6.next k3.next) (cs:=[vWalk k5.next k4.next k.next k2.next k6.next k3.next]) t7 rfl rfl (by simp) rfl
  rw [show lput [Value.nilFunc] 0 [vWalk k5.next k4.next k.next k2.next k6.next k3.next]=[vWalk k5.next k4.next k.next k2.next k6.next k3.next] from rfl,e8] at hst8
  rw [hst8,ev_one]
  refine P59_7_of ?_
  obtain ⟨k9,e9,n9,t9,o9,f9⟩:=nw o8 (.row [.int .i64 0] 3 0 false)
  have old:∀ b,b<k4.next->k9.get b=k4.get b:=fun b hb=>(f9 b (by omega)).trans ((f8 b (by omega)).trans ((f7 b (by omega)).trans ((f6 b (by omega)).trans (f5 b hb))))
  have E9:Ext k4 k9:=⟨o9.ext.ok,by omega,old⟩
  have lW8:rLoad E 165 k8 (some (ptr k6.next))=some (vWalk k5.next k4.next k.next k2.next k6.next k3.next):=load_leaf (P:=E) ta_165 (o:=0) t8
  have lW9:rLoad E 165 k9 (some (ptr k6.next))=some (vWalk k5.next k4.next k.next k2.next k6.next k3.next):=load_leaf (P:=E) ta_165 (o:=0) ((f9 _ (by omega)).trans t8)
  have lC8:rLoad E 164 k8 (some (ptr k3.next))=some (vClo k2.next k.next):=load_leaf (P:=E) ta_164 (o:=0) ((f8 _ (by omega)).trans ((f7 _ (by omega)).trans ((f6 _ (by omega)).trans ((f5 _ (by omega)).trans t4))))
  have lC9:rLoad E 164 k9 (some (ptr k3.next))=some (vClo k2.next k.next):=load_leaf (P:=E) ta_164 (o:=0) ((old _ (by omega)).trans t4)
  rw [lW8,evO_some,lC8,evO_some,bs47,ev_one,e9,lC9,evO_some]
  refine ⟨?_,?_⟩
  ·show (decide _&&veqs 99 [] []&&veqs 99 [ptr k2.next,ptr k.next] [ptr k2.next,ptr k.next])=true
   simp only [veqs,veq_ptr,Bool.and_self,decide_true]
  rw [lW9,evO_some]
  refine ⟨veqW,?_⟩
  rw [wC111]
  have r0:Rg L [0]:=fun u hu=>by rw [List.mem_singleton.1 hu];omega
  have ls0:LS k8.next k9 (.slice (some ⟨k8.next,0,none⟩) 1 1) [0]:=⟨k8.next,1,rfl,Nat.le_refl _,by omega,.inl ⟨rfl,rfl,t9⟩⟩
  obtain ⟨cn,cr,_,_,_⟩:=closeL_ok hL (by simp) r0
  have clen:=lenI Y cn cr
  refine (call111 Y E9 ls0.arr (by simp) (by simp) r0).mono fun y hy=>?_
  obtain ⟨va,h1⟩:=y
  obtain ⟨c1,c2,c3⟩:=hy
  simp only at c1 c2 c3 ⊢
  have g9:∀ b,b<k9.next->h1.get b=k9.get b:=fun b hb=>c2.get b hb id
  have hn9:=c2.next
  have tB:h1.get k5.next=some (.row [.int .i64 400] 3 0 false):=(g9 _ (by omega)).trans ((f9 _ (by omega)).trans ((f8 _ (by omega)).trans ((f7 _ (by omega)).trans t6)))
  have tO:h1.get k4.next=some (.row [.slice none 0 0] 85 0 false):=(g9 _ (by omega)).trans ((f9 _ (by omega)).trans ((f8 _ (by omega)).trans ((f7 _ (by omega)).trans ((f6 _ (by omega)).trans t5))))
  have tW:h1.get k6.next=some (.row [vWalk k5.next k4.next k.next k2.next k6.next k3.next] 165 0 false):=(g9 _ (by omega)).trans ((f9 _ (by omega)).trans t8)
  have nob:∀ c,¬ blkOf (.slice none 0 0) c:=by rintro c ⟨n,cap,h⟩;cases h
  have lW1:rLoad E 165 h1 (some (ptr k6.next))=some (vWalk k5.next k4.next k.next k2.next k6.next k3.next):=load_leaf (P:=E) ta_165 (o:=0) tW
  rw [lW1,evO_some]
  refine ⟨veqW,?_⟩
  rw [wC113]
  have W0:Wk k4 h1 k5.next k4.next k6.next (vWalk k5.next k4.next k.next k2.next k6.next k3.next) 400 (.slice none 0 0) []:=
   ⟨E9.trans c2.ext0,tB,tO,tW,⟨by omega,by omega⟩,⟨by omega,by omega⟩,by omega,⟨by omega,by omega,by omega⟩,.inl ⟨rfl,rfl⟩,nob _,nob _,nob _⟩
  refine (call113 Y gC (by omega) hN2 4 h1 (closeL L [0]) [] va (.slice none 0 0) 400 [] W0 (fun hh ok hn hget=>(c1.mono hn fun b' hb1 hb2 hbk=>hget b' hb2 ?_).arr) (by omega) cr (by simp) (by omega) (by decide) (by simp) (by simp)).mono fun z hz=>?_
  ·rintro (rfl|rfl|hb)
   ·omega
   ·omega
   ·exact nob _ hb
  obtain ⟨vz,h2⟩:=z
  obtain ⟨_,b',vO,ws,T⟩:=hz
  simp only at T ⊢
  have o10:Own k h2:=T.fx.own (c2.own o9 fun _ h=>h.elim) (by
   rintro c (rfl|rfl|hb)
   ·have:=o5.ext.next;omega
   ·have:=o4.ext.next;omega
   ·exact absurd hb (nob _))
  refine P59_8_of ?_
  have l8:rLoad E 3 h2 (some (ptr k5.next))=some (.int .i64 b'):=load_leaf (P:=E) ta_3 (o:=0) T.wk.rB
  rw [l8,evO_some,bf_lss,evO_some]
  by_cases hneg:b'<0
  ·rw [decide_eq_true hneg,brK_t]
   refine P59_9_of ?_
   rw [kR_1]
   exact ⟨ne_ret ▸ trivial,.inl rfl,o10⟩
  rw [decide_eq_false hneg,brK_f]
  refine P59_10_of ?_
  have hws:ws=wordsOf L 4:=by rw [T.txt (by omega)];rfl
  have l10:rLoad E 85 h2 (some (ptr k4.next))=some vO:=load_leaf (P:=E) ta_85 (o:=0) T.wk.rO
  obtain ⟨_,e⟩|⟨bb,hv,hb1,hb2,hb3⟩:=T.wk.out
  ·rw [hws] at e;unfold wordsOf at e;simp only [dfs] at e;cases e
  rw [l10,evO_some,wCall_0,hv,call115 hb3 (by have:=T.len;omega),ev_some]
  refine P59_11_of ?_
  obtain ⟨h3,e11,n11,t11,o11,f11⟩:=up o10 (b:=bb) (by have:=o4.ext.next;omega) (.row ((sorS ws).map sV) 9 1 false)
  rw [e11]
  have hbO:k4.next≠bb:=fun e=>T.wk.nb.2.1 ⟨_,_,by rw [hv,e]⟩
  have l11:rLoad E 85 h3 (some (ptr k4.next))=some vO:=load_leaf (P:=E) ta_85 (o:=0) ((f11 _ hbO).trans T.wk.rO)
  rw [l11,evO_some,kR_1]
  exact ⟨ne_ret ▸ trivial,.inr ⟨bb,by rw [hv,hws],by show bb<h3.next;omega,by rw [← hws];exact t11,by rw [← hws];exact T.len⟩,o11⟩
 refine (call_anyF (Q:=fun v m=>Q59 L v m/\Own k m) hok F59_get F59_body (F59_sum _ _) (by kernel_rfl) (F59_ev main)).mono ?_
 rintro ⟨y,m⟩ ⟨k',⟨hq,ho⟩,⟨_,hfl,h2⟩|h2⟩
 ·simp only at h2 hfl hq ⊢
  subst h2
  refine ⟨?_,Fx.refl hok⟩
  rcases hq with e|⟨b,e,_⟩
  ·exact .inl e
  ·rw [e] at hfl;cases hfl
 ·simp only at h2 hq ⊢
  subst h2
  exact ⟨hq,(fx_own ho).back⟩
theorem nL_takeS:∀ (l:List GT) (i:Nat) (t:GT),l[i]?=some t->nL (l.take (i+1))=nL (l.take i)+nT t
 | t::l,0,u,h=>by simp at h;subst h;simp [nL]
 | t::l,i+1,u,h=>by
  simp only [List.getElem?_cons_succ] at h
  simp only [List.take_succ_cons,nL,nL_takeS l i u h];omega
def NdN (k:AH) (bL:Nat) (l0:Int) (ts:List GT) (x:Value) (k':AH):Prop:=∃ b left,x=.bool b/\(b=true->0<=left/\left+nL ts=l0)/\left<=2000/\k'.get bL=some (.row [.int .i64 left] 3 0 false)/\k'.wm<=k.wm/\Fx (fun c=>c=bL) k k'
theorem nodes_stepN {h0 k:AH} {v:Value} {ts:List GT} {bL:Nat} {left deep:Int} (hr:RT h0 v ts) (hk:Ext h0 k) (hb0:h0.next<=bL) (hbL:k.get bL=some (.row [.int .i64 left] 3 0 false)) (hbLl:bL<k.next) (hl0:0<=left) (hl1:left<=2000) (hd1:1<=deep) (hd2:deep<=102)
  (hrec:deep<=100->∀ {k':AH} {v':Value} {ts':List GT} {left':Int},RT h0 v' ts'->Ext h0 k'->k'.get bL=some (.row [.int .i64 left'] 3 0 false)->bL<k'.next->0<=left'->left'<=2000->Ev true ((recI E).call 69 [v',ptr bL,.int .i64 (deep+1)] k') fun x=>NdN k' bL left' ts' x.1 x.2) :
  Ev true ((recI E).call 69 [v,ptr bL,.int .i64 deep] k) fun x=>NdN k bL left ts x.1 x.2:=by
 obtain ⟨ad,cp,hv⟩:=hr.slice
 cases hr with
 | @mk _ els _ ha hn hc=>
 have hlen:=RC.length hc
 by_cases hts:ts.length=0
 ·have:(recI E).call 69 [v,ptr bL,.int .i64 deep] k=some [(.bool true,k)]:=by
   refine F69_flat (s:=true) hk.ok rfl (P69_0_of ?_)
   refine P69_1_of ?_
   rw [hv,hts]
   simp only [evO_some,len69_1_1]
   refine P69_2_of ?_
   simp only [bf_lss,evO_some,brK_d]
   refine ⟨fun h=>by omega,fun _=>P69_8_of ?_⟩
   simp only [evO_some,kR_1,ne_ret,true_and]
   show k.next<=k.next+UNK
   omega
  rw [this,ev_some]
  exact ⟨true,left,rfl,fun _=>⟨hl0,by rw [List.length_eq_zero_iff.1 hts];simp [nL]⟩,hl1,hbL,Nat.le_refl _,Fx.refl hk.ok⟩
 ·refine F69_some (Rp:=fun x k'=>NdN k bL left ts x k') (P69_0_of ?_)
  refine P69_1_of ?_
  rw [hv]
  simp only [evO_some,len69_1_1]
  have fin:∀ (b:Bool) (l:Int) (h:AH),(b=true->0<=l/\l+nL ts=left)->l<=2000->h.get bL=some (.row [.int .i64 l] 3 0 false)->Fx (fun c=>c=bL) k.fresh h->h.wm<=bL->KR E [.tmp 6] (fun x k'=>(isFlat x=false\/k'.wm<k.next)/\NdN k bL left ts x ⟨k'.t,k'.next,cond (Nat.ble k.wm k'.wm) k.wm k'.wm⟩) .ret [.bool b] h:=by
   intro b l h h1 h2 h3 f hw
   simp only [kR_1,ne_ret,true_and]
   refine ⟨.inr (by omega),b,l,rfl,h1,h2,h3,?_,f.back⟩
   show cond (Nat.ble k.wm h.wm) k.wm h.wm<=k.wm
   cases hc:Nat.ble k.wm h.wm with
   | true=>exact Nat.le_refl _
   | false=>have:=ble_false.1 hc;simp only [cond_false];omega
  have loop:∀ (r i:Nat),i+r=ts.length->∀ (l:Int) (h:AH),Fx (fun c=>c=bL) k.fresh h->h.get bL=some (.row [.int .i64 l] 3 0 false)->0<=l->l<=2000->l+nL (ts.take i)=left->(i≠0->h.wm<=bL)->
    P69_2 true (KR E [.tmp 6] (fun x k'=>(isFlat x=false\/k'.wm<k.next)/\NdN k bL left ts x ⟨k'.t,k'.next,cond (Nat.ble k.wm k'.wm) k.wm k'.wm⟩)) (ptr bL) (.int .i64 deep) (.slice ad ts.length cp) (.int .i64 (ts.length:Int)) (.int .i64 (i:Int)) h:=by
   intro r
   induction r with
   | zero=>
    intro i hi l h f hg h1 h2 hs hw
    refine P69_2_of ?_
    have:¬ ((i:Int)<(ts.length:Int)):=by omega
    simp only [bf_lss,evO_some,this,decide_false,brK_f]
    refine P69_8_of ?_
    exact fin true l h (fun _=>⟨h1,by rw [List.take_of_length_le (by omega)] at hs;exact hs⟩) h2 hg f (hw (by omega))
   | succ r ih=>
    intro i hi l h f hg h1 h2 hs hw
    have hin:i<ts.length:=by omega
    have hin2:i<els.length:=by omega
    refine P69_2_of ?_
    have:((i:Int)<(ts.length:Int)):=by omega
    simp only [bf_lss,evO_some,this,decide_true,brK_t]
    refine P69_3_of ?_
    obtain ⟨kk,nn,vv,lv,hel,hrt,hat⟩:=RC.at hc i _ (List.getElem?_eq_getElem hin2)
    obtain ⟨b,o,c,vs,ty,es,ro,hv',hb,hlt,hle,hz,hzl⟩:=ha.load (List.getElem?_eq_getElem hin2)
    rw [hel] at hz
    rw [hv] at hv'
    simp only [Value.slice.injEq] at hv'
    obtain ⟨hv1,_,_⟩:=hv'
    subst hv1
    have ek:Ext h0 h:=f.ext1 hk.fresh hb0
    have gb:=(ek.get b hlt).trans hb
    have hvl:isLeaf vv=true:=rt_leaf hrt
    simp only [ia_34 hin,evO_some,load_agg ta_173 gb hle,hz,z_173,new_row,ev_one,cells_agg,box173 hvl]
    refine P69_4_of ?_
    have hbh:bL<h.next:=Nat.lt_of_lt_of_le hbLl f.next
    have f1:Fx (fun c=>c=bL) k.fresh ((h.new (.row [.int .i64 0,.int .i64 0,.slice none 0 0] 173 0 false)).upd h.next (some (.row [.int .i64 kk,.int .i64 nn,vv] 173 0 false))):=(f.new _).upd (.inr f.next) _
    have t1:((h.new (.row [.int .i64 0,.int .i64 0,.slice none 0 0] 173 0 false)).upd h.next (some (.row [.int .i64 kk,.int .i64 nn,vv] 173 0 false))).get h.next=some (.row [.int .i64 kk,.int .i64 nn,vv] 173 0 false):=get_upd_self _ _ _
    have g1:((h.new (.row [.int .i64 0,.int .i64 0,.slice none 0 0] 173 0 false)).upd h.next (some (.row [.int .i64 kk,.int .i64 nn,vv] 173 0 false))).get bL=_:=((get_upd_ne (by omega)).trans (get_new_ne (by omega))).trans hg
    have n1:((h.new (.row [.int .i64 0,.int .i64 0,.slice none 0 0] 173 0 false)).upd h.next (some (.row [.int .i64 kk,.int .i64 nn,vv] 173 0 false))).next=h.next+1:=rfl
    generalize ((h.new (.row [.int .i64 0,.int .i64 0,.slice none 0 0] 173 0 false)).upd h.next (some (.row [.int .i64 kk,.int .i64 nn,vv] 173 0 false)))=k1 at f1 t1 g1 n1
    have lg:=load_leaf (P:=E) ta_3 (o:=0) g1
    simp only [lnth] at lg
    have hst:=store_of (P:=E) ts_3 (o:=0) g1 (cells_int .i64 (l-1)) rfl (by simp) rfl
    have hput:lput [Value.int .i64 l] 0 [.int .i64 (l-1)]=[.int .i64 (l-1)]:=rfl
    rw [hput] at hst
    simp only [evO_some,nil_ptr,lg,bf_sub _ (show in64 (l-1) by unfold in64;omega),hst,ev_one]
    refine P69_5_of ?_
    have f2:Fx (fun c=>c=bL) k.fresh (k1.upd bL (some (.row [.int .i64 (l-1)] 3 0 false))):=f1.upd (.inl rfl) _
    have g2:(k1.upd bL (some (.row [.int .i64 (l-1)] 3 0 false))).get bL=some (.row [.int .i64 (l-1)] 3 0 false):=get_upd_self _ _ _
    have t2:(k1.upd bL (some (.row [.int .i64 (l-1)] 3 0 false))).get h.next=_:=(get_upd_ne (by omega)).trans t1
    have w2:(k1.upd bL (some (.row [.int .i64 (l-1)] 3 0 false))).wm<=bL:=(upd_wm _ _ _).2
    have n2:(k1.upd bL (some (.row [.int .i64 (l-1)] 3 0 false))).next=k1.next:=rfl
    generalize (k1.upd bL (some (.row [.int .i64 (l-1)] 3 0 false)))=k2 at f2 g2 t2 w2 n2
    have lg2:=load_leaf (P:=E) ta_3 (o:=0) g2
    have lv2:=load_leaf (P:=E) ta_34 (o:=2) t2
    simp only [lnth] at lg2 lv2
    have stop:P69_6 true (KR E [.tmp 6] (fun x k'=>(isFlat x=false\/k'.wm<k.next)/\NdN k bL left ts x ⟨k'.t,k'.next,cond (Nat.ble k.wm k'.wm) k.wm k'.wm⟩)) k2:=by
     refine P69_6_of ?_
     exact fin false _ k2 (fun h=>by cases h) (by omega) g2 f2 w2
    simp only [evO_some,nil_ptr,lg2,bf_lss]
    by_cases e1:l-1<0
    ·simp only [e1,decide_true,gdB_bool,gdW_bool,show (true==false)=false from rfl,cond_false,cond_true,evO_some,ev_one,pick_bool,brK_t]
     exact stop
    ·simp only [e1,decide_false,gdB_bool,beq_self_eq_true,cond_true,evO_some,bf_gtr,pick_bool,cond_false]
     by_cases e2:100<deep
     ·simp only [e2,decide_true,gdB_bool,gdW_bool,show (true==false)=false from rfl,cond_false,cond_true,evO_some,ev_one,pick_bool,brK_t]
      exact stop
     ·simp only [e2,decide_false,gdB_bool,gdW_bool,beq_self_eq_true,cond_true,evO_some,fa_173_2,Nat.zero_add,lv2,bf_add _ (show in64 (deep+1) by unfold in64;omega),wCall_0]
      refine (hrec (by omega) hrt (f2.ext1 hk.fresh hb0) g2 (by omega) (by omega) (by omega)).mono fun y hy=>?_
      obtain ⟨bb,l3,y1,y2,y3,y4,y6,y5⟩:=hy
      rw [y1]
      have f3:Fx (fun c=>c=bL) k.fresh y.2:=f2.trans y5 (fun c h=>.inl h)
      have w3:y.2.wm<=bL:=by omega
      simp only [uf_not,evO_some,pick_bool,cond_false,brK_bool]
      refine ⟨fun hb=>P69_6_of ?_,fun hb=>P69_7_of ?_⟩
      ·skip
       exact fin false l3 y.2 (fun h=>by cases h) y3 y4 f3 w3
      ·have hbt:bb=true:=by simpa using hb
       simp only [bf_add _ (add1 hin (by omega)),evO_some]
       have:=ih (i+1) (by omega) l3 y.2 f3 y4 (y2 hbt).1 y3 (by have:=(y2 hbt).2;rw [nL_takeS ts i _ hat];simp only [nT];omega) (fun _=>w3)
       simpa using this
  exact loop ts.length 0 (by omega) left k.fresh (Fx.refl (ok_fresh k)) hbL hl0 hl1 (by simp [nL]) (fun h=>absurd rfl h)
theorem call69N:∀ (d:Nat) {h0 k:AH} {v:Value} {ts:List GT} {bL:Nat} {left deep:Int},RT h0 v ts->Ext h0 k->h0.next<=bL->k.get bL=some (.row [.int .i64 left] 3 0 false)->bL<k.next->0<=left->left<=2000->1<=deep->deep<=102->101<=deep+d->
  Ev true ((recI E).call 69 [v,ptr bL,.int .i64 deep] k) fun x=>NdN k bL left ts x.1 x.2:=by
 intro d
 induction d with
 | zero=>
  intro h0 k v ts bL left deep hr hk hb0 hbL hbLl hl0 hl1 hd1 hd2 hd3
  exact nodes_stepN hr hk hb0 hbL hbLl hl0 hl1 hd1 hd2 (fun h=>by omega)
 | succ d ihd=>
  intro h0 k v ts bL left deep hr hk hb0 hbL hbLl hl0 hl1 hd1 hd2 hd3
  exact nodes_stepN hr hk hb0 hbL hbLl hl0 hl1 hd1 hd2 (fun h k' v' ts' left' a b c d e f=>ihd a b hb0 c d e f (by omega) (by omega) (by omega))
def FewT (L:GL):Prop:=∀ c∈L.labs,nL c.2<=2000
theorem call14t {k:AH} {v:Value} {els:List (List Value)} {Ls:List GL} (hok:k.ok) (ha:Arr k 3 v els) (hlen:els.length=Ls.length) (hle:els.length<=10) (hr:∀ (i:Nat) (e:List Value) (L:GL),els[i]?=some e->Ls[i]?=some L->RL k (.agg ⟨e⟩) L) :
  ∃ b,(b=true->∀ (i:Nat) (L:GL),Ls[i]?=some L->FewT L)/\(recI E).call 14 [v] k=some [(.bool b,k)]:=by
 have key:∃ w,(∃ b,w=.bool b/\(b=true->∀ (i:Nat) (L:GL),Ls[i]?=some L->FewT L))/\(recI E).call 14 [v] k=some [(w,k)]:=by
  obtain ⟨ad,cp,hv⟩:=ha.slice
  refine F14_flatE hok (P14_0_of ?_)
  refine P14_1_of ?_
  have hst:=store_of (P:=E) ts_3 (o:=0) (get_new_self k.fresh (.row [.int .i64 0] 3 0 false)) (cells_int .i64 2000) rfl (by simp) rfl
  simp only [next_fresh] at hst
  simp only [z_3,new_row,ev_one,cellsOfV,next_fresh,hst]
  refine P14_2_of ?_
  have o1:=((Own.fresh k).new (.row [.int .i64 0] 3 0 false)).upd (b:=k.next) (Nat.le_refl _) (some (.row (lput [.int .i64 0] 0 [.int .i64 2000]) 3 0 false))
  have t1:((k.fresh.new (.row [.int .i64 0] 3 0 false)).upd k.next (some (.row (lput [.int .i64 0] 0 [.int .i64 2000]) 3 0 false))).get k.next=some (.row [.int .i64 2000] 3 0 false):=get_upd_self _ _ _
  have n1:((k.fresh.new (.row [.int .i64 0] 3 0 false)).upd k.next (some (.row (lput [.int .i64 0] 0 [.int .i64 2000]) 3 0 false))).next=k.next+1:=rfl
  generalize ((k.fresh.new (.row [.int .i64 0] 3 0 false)).upd k.next (some (.row (lput [.int .i64 0] 0 [.int .i64 2000]) 3 0 false)))=k1 at o1 t1 n1
  rw [hv]
  simp only [evO_some,len14_2_1]
  have loop:∀ (r i:Nat),i+r=els.length->∀ (l:Int) (h:AH),Own k h->h.get k.next=some (.row [.int .i64 l] 3 0 false)->k.next<h.next->0<=l->l<=2000->(∀ (j:Nat) (L:GL),j<i->Ls[j]?=some L->FewT L)->
    P14_3 true (kfewN (∀ (i:Nat) (L:GL),Ls[i]?=some L->FewT L) k) (ptr k.next) (.slice ad els.length cp) (.int .i64 (els.length:Int)) (.int .i64 (i:Int)) h:=by
   intro r
   induction r with
   | zero=>
    intro i hi l h ho hg hlt h1 h2 hq
    refine P14_3_of ?_
    have:¬ ((i:Int)<(els.length:Int)):=by omega
    simp only [bf_lss,evO_some,this,decide_false,brK_f]
    refine P14_14_of ?_
    exact few_stopN ho true fun _ j L hj=>hq j L (by have:=(List.getElem?_eq_some_iff.1 hj).1;omega) hj
   | succ r ih=>
    intro i hi l h ho hg hlt h1 h2 hq
    have hin:i<els.length:=by omega
    refine P14_3_of ?_
    have:((i:Int)<(els.length:Int)):=by omega
    simp only [bf_lss,evO_some,this,decide_true,brK_t]
    refine P14_4_of ?_
    have hRL:=hr i _ _ (List.getElem?_eq_getElem hin) (List.getElem?_eq_getElem (by omega))
    have hLi:Ls[i]?=some Ls[i]:=List.getElem?_eq_getElem (by omega)
    generalize Ls[i]=L at hRL hLi
    obtain ⟨vl,ve,elsL,q1,q2,q3,q4⟩:=hRL.ex
    have he:els[i]=[.int .i64 L.n,vl,ve]:=by
     simp only [Value.agg.injEq] at q1
     have:=congrArg Array.toList q1
     simpa using this
    obtain ⟨b,o,c,vs,ty,es,ro,hv',hb,hltb,hle',hz,hzl⟩:=ha.load (List.getElem?_eq_getElem hin)
    rw [he] at hz
    rw [hv] at hv'
    simp only [Value.slice.injEq] at hv'
    obtain ⟨hv1,_,_⟩:=hv'
    subst hv1
    have gb:=(ho.ext.get b hltb).trans hb
    obtain ⟨al,cl,hvl⟩:=q2.slice
    rw [RLab.length q3] at hvl
    obtain ⟨ae,ce,hve⟩:=q4.slice
    rw [List.length_map] at hve
    have hbox:=box25 (k:=h) (e:=[.int .i64 L.n,vl,ve]) (by rw [hvl,hve];rfl) rfl
    simp only [ia_82 hin,evO_some,load_agg ta_25 gb hle',hz,z_25,new_row,ev_one,cells_agg,hbox]
    refine P14_5_of ?_
    have f1:Fx NoB h ((h.new (.row [.int .i64 0,.slice none 0 0,.slice none 0 0] 25 0 false)).upd h.next (some (.row [.int .i64 L.n,vl,ve] 25 0 false))):=((Fx.refl ho.ext.ok).new _).upd (.inr (Nat.le_refl _)) _
    have t1:((h.new (.row [.int .i64 0,.slice none 0 0,.slice none 0 0] 25 0 false)).upd h.next (some (.row [.int .i64 L.n,vl,ve] 25 0 false))).get h.next=some (.row [.int .i64 L.n,vl,ve] 25 0 false):=get_upd_self _ _ _
    generalize ((h.new (.row [.int .i64 0,.slice none 0 0,.slice none 0 0] 25 0 false)).upd h.next (some (.row [.int .i64 L.n,vl,ve] 25 0 false)))=k2 at f1 t1
    have o2:=f1.own ho (fun _ h=>h.elim)
    have g2:=(f1.get k.next hlt (fun h=>h)).trans hg
    have lt2:=Nat.lt_of_lt_of_le hlt f1.next
    have s0:=load_leaf (P:=E) ta_3 (o:=0) t1
    have s1:=load_leaf (P:=E) ta_22 (o:=1) t1
    have s2:=load_leaf (P:=E) ta_23 (o:=2) t1
    simp only [lnth] at s0 s1 s2
    have stop:P14_6 true (kfewN (∀ (i:Nat) (L:GL),Ls[i]?=some L->FewT L) k) k2:=by
     refine P14_6_of ?_
     exact few_stopN o2 false (fun h=>Bool.noConfusion h)
    rw [hvl] at s1
    rw [hve] at s2
    simp only [fa_25_0,Nat.add_zero,s0,evO_some,bf_gtr]
    by_cases e1:60<L.n
    ·simp only [e1,decide_true,gdB_bool,show (true==false)=false from rfl,cond_false,cond_true,evO_some,pick_bool,brK_t]
     exact stop
    ·simp only [e1,decide_false,gdB_bool,beq_self_eq_true,cond_true,fa_25_2,Nat.zero_add,s2,evO_some,len14_5_6,bf_gtr,pick_bool,cond_false]
     by_cases e2:300<(L.eds.length:Int)
     ·simp only [e2,decide_true,gdB_bool,show (true==false)=false from rfl,cond_false,cond_true,evO_some,pick_bool,brK_t]
      exact stop
     ·simp only [e2,decide_false,gdB_bool,beq_self_eq_true,cond_true,fa_25_1,Nat.zero_add,s1,evO_some,len14_5_12,bf_gtr,pick_bool,cond_false]
      by_cases e3:60<(L.labs.length:Int)
      ·simp only [e3,decide_true,brK_t]
       exact stop
      ·simp only [e3,decide_false,brK_f]
       refine P14_7_of ?_
       simp only [fa_25_1,Nat.zero_add,s1,evO_some,len14_7_2]
       have inner:∀ (r2 j:Nat),j+r2=L.labs.length->∀ (l:Int) (h:AH),Own k h->h.get k.next=some (.row [.int .i64 l] 3 0 false)->k.next<h.next->0<=l->l<=2000->(∀ (i:Nat) (c:CL),i<j->L.labs[i]?=some c->nL c.2<=2000)->
         P14_8 true (kfewN (∀ (i:Nat) (L:GL),Ls[i]?=some L->FewT L) k) (ptr k.next) (.slice (some ⟨b,o,none⟩) els.length cp) (.int .i64 (els.length:Int)) (.int .i64 (i:Int)) (.slice al L.labs.length cl) (.int .i64 (L.labs.length:Int)) (.int .i64 (j:Int)) h:=by
        intro r2
        induction r2 with
        | zero=>
         intro j hj l h ho hg hlt h1 h2 hc
         refine P14_8_of ?_
         have:¬ ((j:Int)<(L.labs.length:Int)):=by omega
         simp only [bf_lss,evO_some,this,decide_false,brK_f]
         refine P14_13_of ?_
         simp only [bf_add _ (add1 hin (by omega)),evO_some]
         have:=ih (i+1) (by omega) l h ho hg hlt h1 h2 (fun j L' hj hL'=>by
          rcases Nat.lt_succ_iff_lt_or_eq.1 hj with hlt|heq
          ·exact hq j L' hlt hL'
          ·subst heq;rw [hLi] at hL';cases hL';exact fun c hcm=>by obtain ⟨i,hi⟩:=List.getElem?_of_mem hcm;exact hc i c (by have:=(List.getElem?_eq_some_iff.1 hi).1;omega) hi)
         simpa using this
        | succ r2 ih2=>
         intro j hj l h ho hg hlt h1 h2 hc
         have hjn:j<L.labs.length:=by omega
         have hjn2:j<elsL.length:=by rw [RLab.length q3];exact hjn
         refine P14_8_of ?_
         have:((j:Int)<(L.labs.length:Int)):=by omega
         simp only [bf_lss,evO_some,this,decide_true,brK_t]
         refine P14_9_of ?_
         obtain ⟨g,vt,lt,hel,hrt,hat⟩:=RLab.at q3 j _ (List.getElem?_eq_getElem hjn2)
         obtain ⟨b',o',c',vs',ty',es',ro',hv',hb',hlt',hle',hz',hzl'⟩:=q2.load (List.getElem?_eq_getElem hjn2)
         rw [hel] at hz'
         rw [hvl] at hv'
         simp only [Value.slice.injEq] at hv'
         obtain ⟨hv1,_,_⟩:=hv'
         subst hv1
         have gb':=(ho.ext.get b' hlt').trans hb'
         simp only [ia_22 hjn,evO_some,load_agg ta_36 gb' hle',hz',z_36,new_row,ev_one,cells_agg,box36 (rt_leaf hrt)]
         refine P14_10_of ?_
         have f3:Fx NoB h ((h.new (.row [.int .i64 0,.slice none 0 0] 36 0 false)).upd h.next (some (.row [.int .i64 g,vt] 36 0 false))):=((Fx.refl ho.ext.ok).new _).upd (.inr (Nat.le_refl _)) _
         have t3:((h.new (.row [.int .i64 0,.slice none 0 0] 36 0 false)).upd h.next (some (.row [.int .i64 g,vt] 36 0 false))).get h.next=some (.row [.int .i64 g,vt] 36 0 false):=get_upd_self _ _ _
         generalize ((h.new (.row [.int .i64 0,.slice none 0 0] 36 0 false)).upd h.next (some (.row [.int .i64 g,vt] 36 0 false)))=k3 at f3 t3
         have o3:=f3.own ho (fun _ h=>h.elim)
         have g3:=(f3.get k.next hlt (fun h=>h)).trans hg
         have lt3:=Nat.lt_of_lt_of_le hlt f3.next
         have u1:=load_leaf (P:=E) ta_34 (o:=1) t3
         simp only [lnth] at u1
         simp only [fa_36_1,Nat.zero_add,u1,evO_some,wCall_0]
         refine (call69N 100 hrt o3.ext (Nat.le_refl _) g3 lt3 h1 h2 (by omega) (by omega) (by omega)).mono fun y hy=>?_
         obtain ⟨bb,l3,y1,y2,y3,y4,y6,y5⟩:=hy
         have o4:=y5.own o3 (fun c h=>by rw [h];exact Nat.le_refl _)
         rw [y1]
         simp only [uf_not,evO_some,brK_bool]
         refine ⟨fun hb=>P14_11_of ?_,fun hb=>P14_12_of ?_⟩
         ·skip
          exact few_stopN o4 false (fun h=>Bool.noConfusion h)
         ·have hbt:bb=true:=by simpa using hb
          simp only [bf_add _ (add1 hjn (by omega)),evO_some]
          have:=ih2 (j+1) (by omega) l3 y.2 o4 y4 (Nat.lt_of_lt_of_le lt3 y5.next) (y2 hbt).1 y3 (fun i c hi hic=>by
           rcases Nat.lt_succ_iff_lt_or_eq.1 hi with hlt|heq
           ·exact hc i c hlt hic
           ·subst heq;rw [hat] at hic;cases hic;have:=y2 hbt;simp only;omega)
          simpa using this
       exact inner L.labs.length 0 (by omega) l k2 o2 g2 lt2 h1 h2 (fun i c hi=>by omega)
  exact loop els.length 0 (by omega) 2000 k1 o1 t1 (by omega) (by omega) (by omega) (fun j L hj=>by omega)
 obtain ⟨w,⟨b,rfl,hb⟩,hc⟩:=key
 exact ⟨b,hb,hc⟩
end Go.Proofs
namespace Go.Proofs
open Go Go.AM
set_option maxRecDepth 100000
set_option maxHeartbeats 4000000
theorem arrS {k:AH} {b:Nat} {ss:List Bs} {n c:Nat} (hn:n=ss.length) (hb:k.get b=some (.row (ss.map sV) 9 1 false)) (hl:b<k.next):Arr k 1 (.slice (some ⟨b,0,none⟩) n c) (ss.map s1):=by
 have:=Arr.row (z:=1) (c:=c) (o:=0) (els:=ss.map s1) hb hl (by simp) (fun i e he=>by
  rw [List.getElem?_map] at he
  obtain ⟨s,hs,rfl⟩:=Option.map_eq_some_iff.1 he
  refine ⟨rfl,?_⟩
  have hil:i<ss.length:=(List.getElem?_eq_some_iff.1 hs).1
  rw [show 0+i*1=i by omega,List.drop_eq_getElem_cons (by simpa using hil)]
  simp [(List.getElem?_eq_some_iff.1 hs).2])
 rw [List.length_map,← hn] at this
 exact this
theorem n43 {b n c:Nat}:evPure E (tmOf [(43,.slice (some ⟨b,0,none⟩) n c)]) (opAt B11 [1,1,1,1,0] 1)=some (.bool false):=by kernel_rfl
theorem n43n:evPure E (tmOf [(43,.slice none 0 0)]) (opAt B11 [1,1,1,1,0] 1)=some (.bool true):=by kernel_rfl
theorem n46 {b n c:Nat}:evPure E (tmOf [(46,.slice (some ⟨b,0,none⟩) n c)]) (opAt B11 [1,1,1,1,0] 4)=some (.bool false):=by kernel_rfl
theorem n46n:evPure E (tmOf [(46,.slice none 0 0)]) (opAt B11 [1,1,1,1,0] 4)=some (.bool true):=by kernel_rfl
theorem call11 {k:AH} {x y:Value} {L M:GL} {e:List Value} {B:GB} (hok:k.ok) (hx:RL k x L) (hy:RL k y M) (he:RB k e B):(recI E).call 11 [x,y,.agg ⟨e⟩] k=some [(.bool true,k)]:=by
 obtain ⟨vl,ve,elsL,rfl,x2,x3,x4⟩:=id hx.ex
 obtain ⟨wl,we,elsM,rfl,y2,y3,y4⟩:=id hy.ex
 obtain ⟨vp,rfl,e2⟩:=id he.ex
 obtain ⟨ya,yb,hwl⟩:=y2.slice
 obtain ⟨yc,yd,hwe⟩:=y4.slice
 refine F11_flat (s:=true) hok rfl (P11_0_of ?_)
 obtain ⟨k1,e1,n1,t1,o1,f1⟩:=nwF k (.row [.int .i64 L.n,vl,ve] 25 0 false)
 obtain ⟨k2,e2',n2,t2,o2,f2⟩:=nw o1 (.row [.int .i64 M.n,wl,we] 25 0 false)
 obtain ⟨k3,e3,n3,t3,o3,f3⟩:=nw o2 (.row [.int .i64 B.kind,vp] 32 0 false)
 simp only [new_row,ev_one,cells_agg,evO_some,e1,e2',e3,next_fresh]
 refine P11_1_of ?_
 simp only [wCall_0,call13,ev_some,uf_not,evO_some,Bool.not_true,brK_f]
 have g4:=((f3 _ (by omega)).trans (f2 _ (by omega))).trans t1
 have g5:=(f3 _ (by omega)).trans t2
 have fin:∀ h,Own k h->PI (C11 true) (KR E [.tmp 6] fun x l=>x=.bool true/\k.next<=l.wm) 4 [] h:=fun h ho=>P11_4_of (by simp only [evO_some,kR_1,ne_ret,true_and];exact ho.wm)
 refine P11_3_of ?_
 have a4:=load_agg (P:=E) ta_25 (o:=0) g4 (by simp)
 have a5:=load_agg (P:=E) ta_25 (o:=0) g5 (by simp)
 simp only [List.drop_zero,List.take] at a4 a5
 obtain ⟨k4,e4,n4,t4,o4,f4⟩:=nw o3 (.row [.int .i64 L.n,vl,ve,.int .i64 M.n,wl,we] 25 0 false)
 have X4:Ext k k4:=o4.ext
 obtain ⟨b14,hfew,c14⟩:=call14t (k:=k4) (v:=.slice (some ⟨k3.next,0,none⟩) 2 2) (els:=[[.int .i64 L.n,vl,ve],[.int .i64 M.n,wl,we]]) (Ls:=[L,M]) o4.ext.ok (arr2 rfl rfl t4 (by omega)) rfl (by simp) (fun i ee LL h1 h2=>by
  match i with
  | 0=>simp at h1 h2;subst h1 h2;exact hx.ext X4
  | 1=>simp at h1 h2;subst h1 h2;exact hy.ext X4
  | i+2=>simp at h1)
 simp only [a4,a5,evO_some,bs82,ev_one,e4,wCall_0,c14,ev_some,uf_not]
 cases b14 with
 | false=>
  simp only [Bool.not_false,evO_some,gdB_bool,gdW_bool,show (true==false)=false from rfl,cond_false,ev_one,pick_bool,cond_true,brK_t]
  exact fin _ o4
 | true=>
 have fewL:=hfew rfl 0 L rfl
 have fewM:=hfew rfl 1 M rfl
 have h6:=(f4 _ (by omega)).trans t3
 have a6:=load_agg (P:=E) ta_32 (o:=0) h6 (by simp)
 simp only [List.drop_zero,List.take] at a6
 obtain ⟨k5,e5,n5,t5,o5,f5⟩:=nw o4 (.row [.int .i64 B.kind,vp] 32 0 false)
 have hc19:=call19 (h0:=k5) (k:=k5) (v:=.slice (some ⟨k4.next,0,none⟩) 1 1) (els:=[[.int .i64 B.kind,vp]]) (Bs:=[B])
  (Arr.row (els:=[[.int .i64 B.kind,vp]]) t5 (by omega) (by simp) (fun i ee hee=>by
   match i with
   | 0=>simp at hee;subst hee;exact ⟨rfl,rfl⟩
   | i+1=>simp at hee)) rfl (by simp) (fun i ee BB h1 h2=>by
   match i with
   | 0=>simp at h1 h2;subst h1 h2;exact he.ext o5.ext
   | i+1=>simp at h1) (Ext.refl o5.ext.ok)
 obtain ⟨w19,hc19'⟩:∃ w,(recI E).call 19 [.slice (some ⟨k4.next,0,none⟩) 1 1] k5=some [(.bool w,k5)]:=⟨_,hc19⟩
 simp only [Bool.not_true,evO_some,gdB_bool,gdW_bool,beq_self_eq_true,cond_true,a6,bs83,ev_one,e5,wCall_0,hc19',ev_some,uf_not,pick_bool,cond_false]
 cases w19 with
 | false=>
  simp only [Bool.not_false,evO_some,gdB_bool,gdW_bool,show (true==false)=false from rfl,cond_false,ev_one,pick_bool,cond_true,brK_t]
  exact fin _ o5
 | true=>
 have i4:=(f5 _ (by omega)).trans ((f4 _ (by omega)).trans g4)
 have i5:=(f5 _ (by omega)).trans ((f4 _ (by omega)).trans g5)
 have i6:=(f5 _ (by omega)).trans h6
 have c4:=load_agg (P:=E) ta_25 (o:=0) i4 (by simp)
 have c5:=load_agg (P:=E) ta_25 (o:=0) i5 (by simp)
 have c6:=load_agg (P:=E) ta_32 (o:=0) i6 (by simp)
 simp only [List.drop_zero,List.take] at c4 c5 c6
 have hc15:=call15 o5.ext.ok (hx.ext o5.ext) (hy.ext o5.ext) (he.ext o5.ext)
 obtain ⟨r1,_,hc23a⟩:=call23 o5.ext.ok (hx.ext o5.ext)
 obtain ⟨r2,_,hc23b⟩:=call23 o5.ext.ok (hy.ext o5.ext)
 simp only [Bool.not_true,evO_some,gdB_bool,gdW_bool,beq_self_eq_true,cond_true,c4,c5,c6,wCall_0,hc15,ev_some,bf_neq,pick_bool,cond_false]
 by_cases hck:checkV L M B=0
 rotate_left
 ·simp only [hck,decide_false,Bool.not_false,evO_some,gdB_bool,gdW_bool,show (true==false)=false from rfl,cond_false,ev_one,pick_bool,cond_true,brK_t]
  exact fin _ o5
 simp only [hck,decide_true,Bool.not_true,evO_some,gdB_bool,gdW_bool,beq_self_eq_true,cond_true,c4,hc23a,ev_some,bf_neq,pick_bool,cond_false]
 by_cases hr1:r1=0
 rotate_left
 ·simp only [hr1,decide_false,Bool.not_false,evO_some,gdB_bool,gdW_bool,show (true==false)=false from rfl,cond_false,ev_one,pick_bool,cond_true,brK_t]
  exact fin _ o5
 simp only [hr1,decide_true,Bool.not_true,evO_some,gdB_bool,gdW_bool,beq_self_eq_true,cond_true,c5,hc23b,ev_some,bf_neq,pick_bool,cond_false]
 by_cases hr2:r2=0
 rotate_left
 ·simp only [hr2,decide_false,Bool.not_false,brK_t]
  exact fin _ o5
 simp only [hr2,decide_true,Bool.not_true,brK_f]
 obtain ⟨hL,hM,_,_⟩:=check0 hck
 refine P11_5_of ?_
 rw [c4,evO_some,c5,evO_some]
 rw [wCall_0]
 refine (call59 o5.ext.ok (hx.ext o5.ext) hL fun c hc=>by have:=fewL c hc;omega).mono fun u hu=>?_
 obtain ⟨w1,h1⟩:=u
 obtain ⟨qa,fx1⟩:=hu
 simp only at qa fx1 ⊢
 have ow1:=fx1.own o5 (fun _ h=>h.elim)
 have d5:=load_agg (P:=E) ta_25 (o:=0) ((fx1.get _ (by omega) id).trans i5) (by simp)
 simp only [List.drop_zero,List.take] at d5
 rw [d5,evO_some]
 refine ⟨by rw [hwl,hwe];exact veq_slice3,?_⟩
 rw [wCall_0]
 refine (call59 ow1.ext.ok (hy.ext ow1.ext) hM fun c hc=>by have:=fewM c hc;omega).mono fun u hu=>?_
 obtain ⟨w2,h2⟩:=u
 obtain ⟨qb,fx2⟩:=hu
 simp only at qb fx2 ⊢
 have ow2:=fx2.own ow1 (fun _ h=>h.elim)
 refine P11_6_of ?_
 have hend:(KR E [.tmp 6] fun x l=>x=.bool true/\k.next<=l.wm) .ret [.bool true] h2:=by
  simp only [kR_1,ne_ret,true_and];exact ow2.wm
 rcases qa with rfl|⟨b1,rfl,l1,r1,q1⟩
 ·simp only [n43n,evO_some,gdB_bool,gdW_bool,show (true==false)=false from rfl,cond_false,ev_one,pick_bool,cond_true]
  exact hend
 ·rcases qb with rfl|⟨b2,rfl,l2,r2,q2⟩
  ·simp only [n43,n46n,evO_some,gdB_bool,gdW_bool,beq_self_eq_true,show (true==false)=false from rfl,cond_false,ev_one,pick_bool,cond_true]
   exact hend
  ·have hs:=sorS_perm (words_perm hck 4)
   have len:∀ L:GL,(sorS (wordsOf L 4)).length=(wordsOf L 4).length:=fun L=>by unfold sorS;simp
   have hc60:=call60 (arrS (c:=UNK+1) (len L).symm ((fx2.get _ l1 id).trans r1) (Nat.lt_of_lt_of_le l1 fx2.next)) (arrS (c:=UNK+1) (len M).symm r2 l2) (Ext.refl ow2.ext.ok) (by rw [len];omega)
   rw [decide_eq_true hs] at hc60
   simp only [n43,n46,evO_some,gdB_bool,gdW_bool,beq_self_eq_true,cond_false,ev_one,pick_bool,cond_true,wCall_0,hc60,ev_some]
   exact hend
end Go.Proofs
