import Derived.OpenShut
import Derived.Test.YthmnhjcmefjgjaaGreatDoorXAK
import Derived.Test.YthmnhjcmefjgjaaGreatDoorXAH
import Derived.Test.YthmnhjcmefjgjaaGreatDoorXAN
set_option linter.all false
set_option linter.unusedSectionVars false
set_option autoImplicit true
set_option relaxedAutoImplicit true
set_option maxRecDepth 100000
set_option maxHeartbeats 1000000
namespace Go.Proofs
open Go Go.AM
def fieldsOf(P:Program)(t:TypeId):Option (List (TypeId×Nat)):=match P.underlying t with
 | some (.struct fs)=>some (fs.toList.map fun f=>(f.type,f.offset))
 | _=>none
def zDw{H:Type}{enc:TypeId×Value->H}{P:Program}{w:World}{base:Nat}{spare:Nat->Bool}{held:Bool}{fuel:Nat}{t:TypeId}{cs:List Value}{x:DataW H×List MemPlace}{l:List (TypeId×Nat)}
  (hf:fieldsOf P t=some l) (h:DataW.trod enc P w base spare held fuel t cs=some x) :
  ∃ n,fuel=n+1/\cs.length=P.cellsOf t/\∀(i:Nat) (ty:TypeId) (off:Nat),l[i]?=some (ty,off)->∃ y,DataW.trod enc P w base spare held n ty ((cs.drop off).take (P.cellsOf ty))=some y:=by
 unfold fieldsOf at hf;split at hf
 ·rename_i fs hu;cases hf;obtain⟨xs,n,hn,_,hl,hlen,H⟩:=DataW.trod_struct hu h;refine⟨n,hn,hl,fun i ty off hi=>?_⟩;rw[List.getElem?_map] at hi;obtain⟨f,hf,he⟩:=Option.map_eq_some_iff.1 hi;cases he;have hf':fs[i]?=some f:=by simpa using hf
  have ab:i<xs.length:=by rw[hlen];exact (Array.getElem?_eq_some_iff.1 hf').1
  exact⟨xs[i],by rw[H i f hf',xAA ab]⟩
 ·cases hf
def zsn{cs:List Value}(h:cs.length=2):∃ a b,cs=[a,b]:=by
 match cs,h with
 | [a,b],_=>exact⟨a,b,rfl⟩
def zrX{cs:List Value}(h:cs.length=3):∃ a b c,cs=[a,b,c]:=by
 match cs,h with
 | [a,b,c],_=>exact⟨a,b,c,rfl⟩
def zlx:Tryz.prog.underlying 3=some (.int .i64):=by kernel_rfl
def zof:Tryz.prog.underlying 34=some (.slice 173):=zBW Tryz.envOK zT3
def zoh:Tryz.prog.underlying 22=some (.slice 36):=zBW Tryz.envOK zLL
def zog:Tryz.prog.underlying 23=some (.slice 52):=zBW Tryz.envOK zT4
def zly:fieldsOf Tryz.prog 173=some [(3,0),(3,1),(34,2)]:=by kernel_rfl
def zoj:fieldsOf Tryz.prog 36=some [(3,0),(34,1)]:=by kernel_rfl
def zoi:fieldsOf Tryz.prog 52=some [(3,0),(3,1),(3,2)]:=by kernel_rfl
def zWW:fieldsOf Tryz.prog 25=some [(3,0),(22,1),(23,2)]:=by kernel_rfl
def zML:Tryz.prog.cellsOf 3=1:=by kernel_rfl
def zjF:Tryz.prog.cellsOf 34=1:=by kernel_rfl
def zom:Tryz.prog.cellsOf 22=1:=by kernel_rfl
def zol:Tryz.prog.cellsOf 23=1:=by kernel_rfl
def zWX:Tryz.prog.cellsOf 173=3:=by kernel_rfl
def zjE:Tryz.prog.cellsOf 36=2:=by kernel_rfl
def zjD:Tryz.prog.cellsOf 52=3:=by kernel_rfl
def zok:Tryz.prog.cellsOf 25=3:=by kernel_rfl
section
variable {H:Type} {enc:TypeId×Value->H} {w:World} {base:Nat} {held:Bool}
def zD2{n:Nat}{c:Value}{x:DataW H×List MemPlace}(h:DataW.trod enc Tryz.prog w base (fun _=>true) held n 3 [c]=some x):∃ k,c=iI k:=by
 obtain⟨k,hk,_⟩:=DataW.trod_int zlx h;cases hk;exact⟨k,rfl⟩
def zfC:∀(n:Nat) (cs:List Value) (x:DataW H×List MemPlace) (σ:Sg) (h:AH),h.ok->HR w.heap.size σ h w->DataW.trod enc Tryz.prog w base (fun _=>true) held n 34 cs=some x->
  ∃ σ' h' v v' ts,cs=[v']/\More w σ h σ' h'/\VR σ' v v'/\RT h' v ts:=by
 intro n
 induction n using Nat.strongRecOn with
 | ind n ih=>
  intro cs x σ h aa hH bW;obtain⟨σ1,h1,v,v',els,aas,e1,m1,r1,a1,q1,q2⟩:=zFT (α:=GT) (R:=fun h u a=>∃ k n v l,u=[iI k,iI n,v]/\RT h v l/\a=.mk k n l)
   (fun h k u a ex ⟨p,q,v,l,e1,e2,e3⟩=>⟨p,q,v,l,e1,e2.ext ex,e3⟩) zof (by decide) zWX (n:=n) (fun m hm=>by
    intro cs x σ h aa hH bW;obtain⟨m',fg,hl,hf⟩:=zDw zly bW;rw[zWX] at hl;obtain⟨c0,c1,c2,rfl⟩:=zrX hl;obtain⟨y0,g0⟩:=hf 0 3 0 rfl;obtain⟨y1,g1⟩:=hf 1 3 1 rfl;obtain⟨y2,g2⟩:=hf 2 34 2 rfl;rw[zML] at g0 g1;rw[zjF] at g2;obtain⟨k0,rfl⟩:=zD2 g0;obtain⟨k1,rfl⟩:=zD2 g1;obtain⟨σ',h',v,v',ts,e1,m1,r1,t1⟩:=ih m' (by omega) _ _ σ h aa hH g2;cases e1;exact⟨σ',h',[iI k0,iI k1,v],.mk k0 k1 ts,m1,.cons (.int _ _) (.cons (.int _ _) (.cons r1 .nil)),k0,k1,v,ts,rfl,t1,rfl⟩) cs x σ h aa hH bW
  refine⟨σ1,h1,v,v',aas,e1,m1,r1,.mk a1 q2 ?_⟩;clear a1 q2
  induction q1 with
  | nil=>exact .nil
  | cons hh _ ih2=>
   obtain⟨p,q,v,l,e1,e2,e3⟩:=hh;subst e1;subst e3;exact .cons e2 ih2
def zRe{n:Nat}{cs:List Value}{x:DataW H×List MemPlace}{σ:Sg}{h:AH}(aa:h.ok)(hH:HR w.heap.size σ h w)(bW:DataW.trod enc Tryz.prog w base (fun _=>true) held n 22 cs=some x) :
  ∃(σ':Sg) (h':AH) (v v':Value) (els:List (List Value)) (ls:List (Int×List GT)),cs=[v']/\More w σ h σ' h'/\VR σ' v v'/\Arr h' 2 v els/\RLab h' els ls/\els.length<=9223372036854775807:=by
 obtain⟨σ1,h1,v,v',els,aas,e1,m1,r1,a1,q1,q2⟩:=zFT (α:=Int×List GT) (R:=fun h u a=>∃ g v l,u=[iI g,v]/\RT h v l/\a=(g,l))
  (fun h k u a ex ⟨p,v,l,e1,e2,e3⟩=>⟨p,v,l,e1,e2.ext ex,e3⟩) zoh (by decide) zjE (n:=n) (fun m hm=>by
   intro cs x σ h aa hH bW;obtain⟨m',fg,hl,hf⟩:=zDw zoj bW;rw[zjE] at hl;obtain⟨c0,c1,rfl⟩:=zsn hl;obtain⟨y0,g0⟩:=hf 0 3 0 rfl;obtain⟨y1,g1⟩:=hf 1 34 1 rfl;rw[zML] at g0;rw[zjF] at g1;obtain⟨k0,rfl⟩:=zD2 g0;obtain⟨σ',h',v,v',ts,e1,m1,r1,t1⟩:=zfC _ _ _ σ h aa hH g1;cases e1;exact⟨σ',h',[iI k0,v],(k0,ts),m1,.cons (.int _ _) (.cons r1 .nil),k0,v,ts,rfl,t1,rfl⟩) cs x σ h aa hH bW
 refine⟨σ1,h1,v,v',els,aas,e1,m1,r1,a1,?_,q2⟩;clear a1 q2
 induction q1 with
 | nil=>exact .nil
 | cons hh _ ih2=>
  obtain⟨p,v,l,e1,e2,e3⟩:=hh;subst e1;subst e3;exact .cons e2 ih2
def zVg{α:Type}{f:α->List Value}{els:List (List Value)}{aas:List α}(h:Els (fun u a=>u=f a) els aas):els=aas.map f:=by
 induction h with
 | nil=>rfl
 | cons h _ ih=>rw[h,ih];rfl
def zWJ{n:Nat}{cs:List Value}{x:DataW H×List MemPlace}{σ:Sg}{h:AH}(aa:h.ok)(hH:HR w.heap.size σ h w)(bW:DataW.trod enc Tryz.prog w base (fun _=>true) held n 23 cs=some x) :
  ∃(σ':Sg) (h':AH) (v v':Value) (es:List (Int×Int×Int)),cs=[v']/\More w σ h σ' h'/\VR σ' v v'/\Arr h' 3 v (es.map zm)/\es.length<=9223372036854775807:=by
 obtain⟨σ1,h1,v,v',els,aas,e1,m1,r1,a1,q1,q2⟩:=zFT (α:=Int×Int×Int) (R:=fun _ u a=>u=zm a)
  (fun h k u a ex e=>e) zog (by decide) zjD (n:=n) (fun m hm=>by
   intro cs x σ h aa hH bW;obtain⟨m',fg,hl,hf⟩:=zDw zoi bW;rw[zjD] at hl;obtain⟨c0,c1,c2,rfl⟩:=zrX hl;obtain⟨y0,g0⟩:=hf 0 3 0 rfl;obtain⟨y1,g1⟩:=hf 1 3 1 rfl;obtain⟨y2,g2⟩:=hf 2 3 2 rfl;rw[zML] at g0 g1 g2;obtain⟨k0,rfl⟩:=zD2 g0;obtain⟨k1,rfl⟩:=zD2 g1;obtain⟨k2,rfl⟩:=zD2 g2;exact⟨σ,h,_,(k0,k1,k2),.refl hH aa,.cons (.int _ _) (.cons (.int _ _) (.cons (.int _ _) .nil)),rfl⟩) cs x σ h aa hH bW
 have:=zVg q1;subst this;exact⟨σ1,h1,v,v',aas,e1,m1,r1,a1,by simpa using q2⟩
def zQF{n:Nat}{cs:List Value}{x:DataW H×List MemPlace}{σ:Sg}{h:AH}(aa:h.ok)(hH:HR w.heap.size σ h w)(bW:DataW.trod enc Tryz.prog w base (fun _=>true) held n 25 cs=some x) :
  ∃(σ':Sg) (h':AH) (vs:List Value) (L:GL),More w σ h σ' h'/\VRs σ' vs cs/\RL h' (.agg ⟨vs⟩) L/\L.labs.length<=9223372036854775807:=by
 obtain⟨m',fg,hl,hf⟩:=zDw zWW bW;rw[zok] at hl;obtain⟨c0,c1,c2,rfl⟩:=zrX hl;obtain⟨y0,g0⟩:=hf 0 3 0 rfl;obtain⟨y1,g1⟩:=hf 1 22 1 rfl;obtain⟨y2,g2⟩:=hf 2 23 2 rfl;rw[zML] at g0;rw[zom] at g1;rw[zol] at g2;obtain⟨k0,rfl⟩:=zD2 g0;obtain⟨σ1,h1,v1,v1',els,ls,e1,m1,r1,a1,l1,n1⟩:=zRe aa hH g1;cases e1;obtain⟨σ2,h2,v2,v2',es,e2,m2,r2,a2,n2⟩:=zWJ m1.ok m1.hr g2;cases e2;have l2:=l1.ext m2.ext;exact⟨σ2,h2,[iI k0,v1,v2],⟨k0,ls,es⟩,m1.trans m2,.cons (.int _ _) (.cons (r1.mono m2.le) (.cons r2 .nil)),⟨v1,v2,els,rfl,a1.ext m2.ext,l2,a2⟩,by rw[← RLab.length l1];exact n1⟩
end
end Go.Proofs
