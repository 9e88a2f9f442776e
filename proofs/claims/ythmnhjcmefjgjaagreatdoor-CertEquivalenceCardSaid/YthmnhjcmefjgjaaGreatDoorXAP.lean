import Derived.Test.YthmnhjcmefjgjaaGreatDoorXAD
set_option linter.all false
set_option linter.unusedSectionVars false
set_option autoImplicit true
set_option relaxedAutoImplicit true
namespace Go.AM
open Go
def zjO:Tr AObj->Tr AObj->Bool
 | .e,.e=>true
 | .n v l r,.n v' l' r'=>oeq v v'&&(zjO l l'&&zjO r r')
 | _,_=>false
theorem zNZ:∀ {a b:Tr AObj},zjO a b=true->a=b
 | .e,.e,_=>rfl
 | .n v l r,.n v' l' r',h=>by
  simp only [zjO,Bool.and_eq_true] at h
  rw [zhb h.1,zNZ h.2.1,zNZ h.2.2]
 | .e,.n ..,h=>by simp [zjO] at h
 | .n ..,.e,h=>by simp [zjO] at h
def zo4 (a b:AH):Bool:=zjO a.t b.t&&(Nat.beq a.next b.next&&Nat.beq a.wm b.wm)
theorem zjP {a b:AH} (h:zo4 a b=true):a=b:=by
 obtain ⟨t,n,w⟩:=a
 obtain ⟨t',n',w'⟩:=b
 simp only [zo4,Bool.and_eq_true] at h
 rw [zNZ h.1,Nat.eq_of_beq_eq_true h.2.1,Nat.eq_of_beq_eq_true h.2.2]
structure Ent where
 f:FuncId
 a:List Value
 h:AH
 v:Value
def zM1:List Ent->FuncId->List Value->AH->Option Value
 | [],_,_,_=>none
 | e::l,f,a,h=>cond (Nat.beq f e.f&&(zMj 1000 a e.a&&zo4 h e.h)) (some e.v) (zM1 l f a h)
theorem zOY:∀ {l:List Ent} {f:FuncId} {a:List Value} {h:AH} {v:Value},zM1 l f a h=some v->∃ e∈l,f=e.f/\a=e.a/\h=e.h/\v=e.v
 | [],_,_,_,_,h=>by simp [zM1] at h
 | e::l,f,a,h,v,hh=>by
  simp only [zM1] at hh
  cases hc:(Nat.beq f e.f&&(zMj 1000 a e.a&&zo4 h e.h)) with
  | true=>
   rw [hc] at hh
   simp only [cond_true,Option.some.injEq] at hh
   simp only [Bool.and_eq_true] at hc
   exact ⟨e,by simp,Nat.eq_of_beq_eq_true hc.1,(zGU 1000).2 _ _ hc.2.1,zjP hc.2.2,hh.symm⟩
  | false=>
   rw [hc] at hh
   obtain ⟨e',h1,h2⟩:=zOY (l:=l) hh
   exact ⟨e',by simp [h1],h2⟩
def zix (l:List Ent) (r:Rec):Rec:={ r with call:=fun f a h=>match zM1 l f a h with
 | some v=>some [(v,h)]
 | none=>r.call f a h }
theorem zGr (P:Env) (m:Nat) (q:Qy):Agr (zDQ P m) (zY P) q:=by
 cases q with
 | call f a h=>exact fun x e=>(zBs P).2 ⟨m,e⟩
 | loop ro c st=>exact fun x e=>(zFW P).2 ⟨m,e⟩
 | round l a h=>exact fun x e=>(zEa P).2 ⟨m,e⟩
theorem zdf {P:Env} {l:List Ent} (hl:∀ e∈l,(zY P).call e.f e.a e.h=some [(e.v,e.h)]) (m:Nat) (q:Qy):Agr (zix l (zDQ P m)) (zY P) q:=by
 cases q with
 | call f a h=>
  intro x e
  show (zY P).call f a h=some x
  have e':(match zM1 l f a h with|some v=>some [(v,h)]|none=>(zDQ P m).call f a h)=some x:=e
  cases hk:zM1 l f a h with
  | none=>rw [hk] at e';exact zGr P m (.call f a h) x e'
  | some v=>
   rw [hk] at e'
   obtain ⟨en,h1,rfl,rfl,rfl,rfl⟩:=zOY hk
   rw [hl en h1]
   exact e'
 | loop ro c st=>exact zGr P m (.loop ro c st)
 | round k a h=>exact zGr P m (.round k a h)
theorem zdt {P:Env} {l:List Ent} {m:Nat} (hl:∀ e∈l,(zY P).call e.f e.a e.h=some [(e.v,e.h)]) {ro:Option Nat} {c:Code} {st:St} {x:List Out} (h:evC P (zix l (zDQ P m)) ro c st=some x):evC P (zY P) ro c st=some x:=by
 obtain ⟨S,hS⟩:=(Sup.evC P ro c st).out _ _ h
 exact hS _ fun q _=>zdf hl m q
theorem zBF {P:Env} {m:Nat} {ro:Option Nat} {c:Code} {st:St} {x:List Out} (h:evC P (zDQ P m) ro c st=some x):evC P (zY P) ro c st=some x:=by
 obtain ⟨S,hS⟩:=(Sup.evC P ro c st).out _ _ h
 exact hS _ fun q _=>zGr P m q
theorem zC8 {P:Env} {r:Rec} {ro:Option Nat} {a b:Code} {st st':St} (h:evC P r ro a st=some [⟨.normal,st'⟩]):evC P r ro (.seq a b) st=evC P r ro b st':=by
 simp only [evC,h]
 rfl
end Go.AM
