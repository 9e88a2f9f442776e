import Derived.Test.YthmnhjcmefjgjaaGreatDoorXAD
set_option linter.all false
set_option linter.unusedSectionVars false
set_option autoImplicit true
set_option relaxedAutoImplicit true
set_option maxRecDepth 100000
set_option maxHeartbeats 1000000
namespace Go.AM
open Go Go.Proofs
def zkk:Tr AObj->Tr AObj->Bool
 | .e,.e=>true
 | .n v l r,.n v' l' r'=>oeq v v'&&(zkk l l'&&zkk r r')
 | _,_=>false
def zOW:∀ {a b:Tr AObj},zkk a b=true->a=b
 | .e,.e,_=>rfl
 | .n v l r,.n v' l' r',h=>by
  simp only[zkk,xAP] at h;rw[zii h.1,zOW h.2.1,zOW h.2.2]
 | .e,.n ..,h=>by simp[zkk] at h
 | .n ..,.e,h=>by simp[zkk] at h
def zqr(a b:AH):Bool:=zkk a.t b.t&&(Nat.beq a.qa b.qa&&Nat.beq a.wm b.wm)
def zkl{a b:AH}(h:zqr a b=true):a=b:=by
 obtain⟨t,n,w⟩:=a;obtain⟨t',n',w'⟩:=b;simp only[zqr,xAP] at h;rw[zOW h.1,Nat.eq_of_beq_eq_true h.2.1,Nat.eq_of_beq_eq_true h.2.2]
structure Ent where
 f:FuncId
 a:List Value
 h:AH
 v:Value
def zN3:List Ent->FuncId->List Value->AH->Option Value
 | [],_,_,_=>none
 | e::l,f,a,h=>cond (Nat.beq f e.f&&(zKP 1000 a e.a&&zqr h e.h)) (some e.v) (zN3 l f a h)
def zPZ:∀ {l:List Ent} {f:FuncId} {a:List Value} {h:AH} {v:Value},zN3 l f a h=some v->∃ e∈l,f=e.f/\a=e.a/\h=e.h/\v=e.v
 | [],_,_,_,_,h=>by simp[zN3] at h
 | e::l,f,a,h,v,hh=>by
  simp only[zN3] at hh;cases hc:(Nat.beq f e.f&&(zKP 1000 a e.a&&zqr h e.h)) with
  | true=>
   rw[hc] at hh;simp only[xAG,xAN] at hh;simp only[xAP] at hc;exact⟨e,by simp,Nat.eq_of_beq_eq_true hc.1,(zGy 1000).2 _ _ hc.2.1,zkl hc.2.2,hh.symm⟩
  | false=>
   rw[hc] at hh;obtain⟨e',h1,h2⟩:=zPZ (l:=l) hh;exact⟨e',by simp[h1],h2⟩
def zkI(l:List Ent)(r:Rec):Rec:={ r with call:=fun f a h=>match zN3 l f a h with
 | some v=>some [(v,h)]
 | none=>r.call f a h }
def zHL(P:Env)(m:Nat)(q:Qy):Agr (zDj P m) (zV P) q:=by
 cases q with
 | call f a h=>exact fun x e=>(zB6 P).2 ⟨m,e⟩
 | loop ro c st=>exact fun x e=>(zFm P).2 ⟨m,e⟩
 | round l a h=>exact fun x e=>(zEs P).2 ⟨m,e⟩
def zel{P:Env}{l:List Ent}(hl:∀ e∈l,(zV P).call e.f e.a e.h=some [(e.v,e.h)])(m:Nat)(q:Qy):Agr (zkI l (zDj P m)) (zV P) q:=by
 cases q with
 | call f a h=>
  intro x e;show (zV P).call f a h=some x;have e':(match zN3 l f a h with|some v=>some [(v,h)]|none=>(zDj P m).call f a h)=some x:=e;cases hk:zN3 l f a h with
  | none=>rw[hk] at e';exact zHL P m (.call f a h) x e'
  | some v=>
   rw[hk] at e';obtain⟨en,h1,rfl,rfl,rfl,rfl⟩:=zPZ hk;rw[hl en h1];exact e'
 | loop ro c st=>exact zHL P m (.loop ro c st)
 | round k a h=>exact zHL P m (.round k a h)
def zez{P:Env}{l:List Ent}{m:Nat}(hl:∀ e∈l,(zV P).call e.f e.a e.h=some [(e.v,e.h)]){ro:Option Nat}{c:Code}{st:St}{x:List Out}(h:evC P (zkI l (zDj P m)) ro c st=some x):evC P (zV P) ro c st=some x:=by
 obtain⟨S,hS⟩:=(Sup.evC P ro c st).out _ _ h;exact hS _ fun q _=>zel hl m q
def zBP{P:Env}{m:Nat}{ro:Option Nat}{c:Code}{st:St}{x:List Out}(h:evC P (zDj P m) ro c st=some x):evC P (zV P) ro c st=some x:=by
 obtain⟨S,hS⟩:=(Sup.evC P ro c st).out _ _ h;exact hS _ fun q _=>zHL P m q
def zDT{P:Env}{r:Rec}{ro:Option Nat}{a b:Code}{st st':St}(h:evC P r ro a st=some [⟨.normal,st'⟩]):evC P r ro (.seq a b) st=evC P r ro b st':=by
 simp only[evC,h];rfl
end Go.AM
