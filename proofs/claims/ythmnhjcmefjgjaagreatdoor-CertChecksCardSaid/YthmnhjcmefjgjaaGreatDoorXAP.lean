import Derived.Test.YthmnhjcmefjgjaaGreatDoorXAD
set_option linter.all false
set_option linter.unusedSectionVars false
set_option autoImplicit true
set_option relaxedAutoImplicit true
set_option maxRecDepth 100000
set_option maxHeartbeats 1000000
namespace Go.AM
open Go Go.Proofs
def zpN:Tr AObj->Tr AObj->Bool
 | .e,.e=>true
 | .n v l r,.n v' l' r'=>oeq v v'&&(zpN l l'&&zpN r r')
 | _,_=>false
def zPz:∀ {a b:Tr AObj},zpN a b=true->a=b
 | .e,.e,_=>rfl
 | .n v l r,.n v' l' r',h=>by
  simp only[zpN,xAP] at h;rw[znA h.1,zPz h.2.1,zPz h.2.2]
 | .e,.n ..,h=>by simp[zpN] at h
 | .n ..,.e,h=>by simp[zpN] at h
def zvT(a b:AH):Bool:=zpN a.t b.t&&(Nat.beq a.qa b.qa&&Nat.beq a.wm b.wm)
def zpO{a b:AH}(h:zvT a b=true):a=b:=by
 obtain⟨t,n,w⟩:=a;obtain⟨t',n',w'⟩:=b;simp only[zvT,xAP] at h;rw[zPz h.1,xAw h.2.1,xAw h.2.2]
structure Ent where
 f:FuncId
 a:List Value
 h:AH
 v:Value
def zPT:List Ent->FuncId->List Value->AH->Option Value
 | [],_,_,_=>none
 | e::l,f,a,h=>cond (Nat.beq f e.f&&(zHl 1000 a e.a&&zvT h e.h)) (some e.v) (zPT l f a h)
def zRB:∀ {l:List Ent} {f:FuncId} {a:List Value} {h:AH} {v:Value},zPT l f a h=some v->∃ e∈l,f=e.f/\a=e.a/\h=e.h/\v=e.v
 | [],_,_,_,_,h=>by simp[zPT] at h
 | e::l,f,a,h,v,hh=>by
  simp only[zPT] at hh;cases hc:(Nat.beq f e.f&&(zHl 1000 a e.a&&zvT h e.h)) with
  | true=>
   rw[hc] at hh;simp only[xAG,xAN] at hh;simp only[xAP] at hc;exact⟨e,by simp,xAw hc.1,(zHN 1000).2 _ _ hc.2.1,zpO hc.2.2,hh.symm⟩
  | false=>
   rw[hc] at hh;obtain⟨e',h1,h2⟩:=zRB (l:=l) hh;exact⟨e',by simp[h1],h2⟩
def zoy(l:List Ent)(r:Rec):Rec:={ r with call:=λ f a h=>match zPT l f a h with
 | some v=>some [(v,h)]
 | none=>r.call f a h }
def zHy(P:Env)(m:Nat)(q:Qy):Agr (zD4 P m) (zc P) q:=by
 cases q with
 | call f a h=>exact λ x e=>(zCF P).2 ⟨m,e⟩
 | loop ro c st=>exact λ x e=>(zGE P).2 ⟨m,e⟩
 | round l a h=>exact λ x e=>(zFG P).2 ⟨m,e⟩
def zhq{P:Env}{l:List Ent}(hl:∀ e∈l,(zc P).call e.f e.a e.h=some [(e.v,e.h)])(m:Nat)(q:Qy):Agr (zoy l (zD4 P m)) (zc P) q:=by
 cases q with
 | call f a h=>
  intro x e;show (zc P).call f a h=some x;have e':(match zPT l f a h with|some v=>some [(v,h)]|none=>(zD4 P m).call f a h)=some x:=e;cases hk:zPT l f a h with
  | none=>rw[hk] at e';exact zHy P m (.call f a h) x e'
  | some v=>
   rw[hk] at e';obtain⟨en,h1,rfl,rfl,rfl,rfl⟩:=zRB hk;rw[hl en h1];exact e'
 | loop ro c st=>exact zHy P m (.loop ro c st)
 | round k a h=>exact zHy P m (.round k a h)
def zh7{P:Env}{l:List Ent}{m:Nat}(hl:∀ e∈l,(zc P).call e.f e.a e.h=some [(e.v,e.h)]){ro:Option Nat}{c:Code}{st:St}{x:List Out}(h:evC P (zoy l (zD4 P m)) ro c st=some x):evC P (zc P) ro c st=some x:=by
 obtain⟨S,hS⟩:=(Sup.evC P ro c st).out _ _ h;exact hS _ λ q _=>zhq hl m q
def zBX{P:Env}{m:Nat}{ro:Option Nat}{c:Code}{st:St}{x:List Out}(h:evC P (zD4 P m) ro c st=some x):evC P (zc P) ro c st=some x:=by
 obtain⟨S,hS⟩:=(Sup.evC P ro c st).out _ _ h;exact hS _ λ q _=>zHy P m q
def zDj{P:Env}{r:Rec}{ro:Option Nat}{a b:Code}{st st':St}(h:evC P r ro a st=some [⟨.normal,st'⟩]):evC P r ro (.seq a b) st=evC P r ro b st':=by
 simp only[evC,h];rfl
end Go.AM
