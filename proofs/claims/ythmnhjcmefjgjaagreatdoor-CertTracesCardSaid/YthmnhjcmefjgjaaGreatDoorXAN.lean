import Derived.Test.YthmnhjcmefjgjaaGreatDoorXAD
set_option linter.all false
set_option linter.unusedSectionVars false
set_option autoImplicit true
set_option relaxedAutoImplicit true
namespace Go.AM
open Go
def eqTr:Tr AObj->Tr AObj->Bool
 | .e,.e=>true
 | .n v l r,.n v' l' r'=>oeq v v'&&(eqTr l l'&&eqTr r r')
 | _,_=>false
theorem eqTr_ok:∀ {a b:Tr AObj},eqTr a b=true->a=b
 | .e,.e,_=>rfl
 | .n v l r,.n v' l' r',h=>by
  simp only [eqTr,Bool.and_eq_true] at h
  rw [oeq_ok h.1,eqTr_ok h.2.1,eqTr_ok h.2.2]
 | .e,.n ..,h=>by simp [eqTr] at h
 | .n ..,.e,h=>by simp [eqTr] at h
def eqAH (a b:AH):Bool:=eqTr a.t b.t&&(Nat.beq a.next b.next&&Nat.beq a.wm b.wm)
theorem eqAH_ok {a b:AH} (h:eqAH a b=true):a=b:=by
 obtain ⟨t,n,w⟩:=a
 obtain ⟨t',n',w'⟩:=b
 simp only [eqAH,Bool.and_eq_true] at h
 rw [eqTr_ok h.1,Nat.eq_of_beq_eq_true h.2.1,Nat.eq_of_beq_eq_true h.2.2]
structure Ent where
 f:FuncId
 a:List Value
 h:AH
 v:Value
def lookM:List Ent->FuncId->List Value->AH->Option Value
 | [],_,_,_=>none
 | e::l,f,a,h=>cond (Nat.beq f e.f&&(veqs 1000 a e.a&&eqAH h e.h)) (some e.v) (lookM l f a h)
theorem lookM_ok:∀ {l:List Ent} {f:FuncId} {a:List Value} {h:AH} {v:Value},lookM l f a h=some v->∃ e∈l,f=e.f/\a=e.a/\h=e.h/\v=e.v
 | [],_,_,_,_,h=>by simp [lookM] at h
 | e::l,f,a,h,v,hh=>by
  simp only [lookM] at hh
  cases hc:(Nat.beq f e.f&&(veqs 1000 a e.a&&eqAH h e.h)) with
  | true=>
   rw [hc] at hh
   simp only [cond_true,Option.some.injEq] at hh
   simp only [Bool.and_eq_true] at hc
   exact ⟨e,by simp,Nat.eq_of_beq_eq_true hc.1,(veq_ok 1000).2 _ _ hc.2.1,eqAH_ok hc.2.2,hh.symm⟩
  | false=>
   rw [hc] at hh
   obtain ⟨e',h1,h2⟩:=lookM_ok (l:=l) hh
   exact ⟨e',by simp [h1],h2⟩
def memoR (l:List Ent) (r:Rec):Rec:={ r with call:=fun f a h=>match lookM l f a h with
 | some v=>some [(v,h)]
 | none=>r.call f a h }
theorem recN_agr (P:Env) (m:Nat) (q:Qy):Agr (recN P m) (recI P) q:=by
 cases q with
 | call f a h=>exact fun x e=>(recI_call P).2 ⟨m,e⟩
 | loop ro c st=>exact fun x e=>(recI_loop P).2 ⟨m,e⟩
 | round l a h=>exact fun x e=>(recI_round P).2 ⟨m,e⟩
theorem memo_agr {P:Env} {l:List Ent} (hl:∀ e∈l,(recI P).call e.f e.a e.h=some [(e.v,e.h)]) (m:Nat) (q:Qy):Agr (memoR l (recN P m)) (recI P) q:=by
 cases q with
 | call f a h=>
  intro x e
  show (recI P).call f a h=some x
  have e':(match lookM l f a h with|some v=>some [(v,h)]|none=>(recN P m).call f a h)=some x:=e
  cases hk:lookM l f a h with
  | none=>rw [hk] at e';exact recN_agr P m (.call f a h) x e'
  | some v=>
   rw [hk] at e'
   obtain ⟨en,h1,rfl,rfl,rfl,rfl⟩:=lookM_ok hk
   rw [hl en h1]
   exact e'
 | loop ro c st=>exact recN_agr P m (.loop ro c st)
 | round k a h=>exact recN_agr P m (.round k a h)
theorem evC_memo {P:Env} {l:List Ent} {m:Nat} (hl:∀ e∈l,(recI P).call e.f e.a e.h=some [(e.v,e.h)]) {ro:Option Nat} {c:Code} {st:St} {x:List Out} (h:evC P (memoR l (recN P m)) ro c st=some x):evC P (recI P) ro c st=some x:=by
 obtain ⟨S,hS⟩:=(Sup.evC P ro c st).out _ _ h
 exact hS _ fun q _=>memo_agr hl m q
theorem evC_recI {P:Env} {m:Nat} {ro:Option Nat} {c:Code} {st:St} {x:List Out} (h:evC P (recN P m) ro c st=some x):evC P (recI P) ro c st=some x:=by
 obtain ⟨S,hS⟩:=(Sup.evC P ro c st).out _ _ h
 exact hS _ fun q _=>recN_agr P m q
theorem seq_go {P:Env} {r:Rec} {ro:Option Nat} {a b:Code} {st st':St} (h:evC P r ro a st=some [⟨.normal,st'⟩]):evC P r ro (.seq a b) st=evC P r ro b st':=by
 simp only [evC,h]
 rfl
end Go.AM
