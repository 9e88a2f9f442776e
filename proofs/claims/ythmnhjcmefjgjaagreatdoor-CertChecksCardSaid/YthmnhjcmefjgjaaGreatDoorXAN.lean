import Derived.OpenShut
import Derived.Test.YthmnhjcmefjgjaaGreatDoorXAH
import Derived.Test.YthmnhjcmefjgjaaGreatDoorXAF
import Derived.Test.YthmnhjcmefjgjaaGreatDoorXAM
set_option linter.all false
set_option linter.unusedSectionVars false
set_option autoImplicit true
set_option relaxedAutoImplicit true
set_option maxRecDepth 100000
set_option maxHeartbeats 1000000
namespace Go.Proofs
open Go Go.AM
def fieldsOf(P:Program)(t:TypeId):Option (List (TypeId×Nat)):=match P.underlying t with
 | some (.struct fs)=>some (fs.toList.map λ f=>(f.type,f.offset))
 | _=>none
def zDM{H:Type}{enc:TypeId×Value->H}{P:Program}{w:World}{base:Nat}{spare:Nat->Bool}{held:Bool}{fuel:Nat}{t:TypeId}{cs:List Value}{x:DataW H×List MemPlace}{l:List (TypeId×Nat)}
  (hf:fieldsOf P t=some l) (h:DataW.trod enc P w base spare held fuel t cs=some x) :
  ∃ n,fuel=n+1/\cs.length=P.cellsOf t/\∀(i:Nat) (ty:TypeId) (off:Nat),l[i]?=some (ty,off)->∃ y,DataW.trod enc P w base spare held n ty ((cs.drop off).take (P.cellsOf ty))=some y:=by
 unfold fieldsOf at hf;split at hf
 ·rename_i fs hu;cases hf;obtain⟨xs,n,hn,_,hl,hlen,H⟩:=DataW.trod_struct hu h;refine⟨n,hn,hl,λ i ty off hi=>?_⟩;rw[xBi] at hi;obtain⟨f,hf,he⟩:=xAu.1 hi;cases he;have hf':fs[i]?=some f:=by simpa using hf
  have ab:i<xs.length:=by rw[hlen];exact (xAV.1 hf').1
  exact⟨xs[i],by rw[H i f hf',xAA ab]⟩
 ·cases hf
def zvP{cs:List Value}(h:cs.length=2):∃ a b,cs=[a,b]:=by
 match cs,h with
 | [a,b],_=>exact⟨a,b,rfl⟩
def len3{cs:List Value}(h:cs.length=3):∃ a b c,cs=[a,b,c]:=by
 match cs,h with
 | [a,b,c],_=>exact⟨a,b,c,rfl⟩
def zth:Tryz.prog.underlying 3=some (.int .i64):=by kernel_rfl
def ztg:Tryz.prog.underlying 34=some (.slice 173):=zBN Tryz.envOK zV1
def ztk:Tryz.prog.underlying 22=some (.slice 36):=zBN Tryz.envOK zML
def ztj:Tryz.prog.underlying 23=some (.slice 52):=zBN Tryz.envOK zQi
def zti:Tryz.prog.underlying 26=some (.slice 54):=zBN Tryz.envOK zJt
def ztf:Tryz.prog.underlying 54=some (.array 2 3):=zBN Tryz.envOK zV0
def zqc:fieldsOf Tryz.prog 173=some [(3,0),(3,1),(34,2)]:=by kernel_rfl
def ztm:fieldsOf Tryz.prog 36=some [(3,0),(34,1)]:=by kernel_rfl
def ztl:fieldsOf Tryz.prog 52=some [(3,0),(3,1),(3,2)]:=by kernel_rfl
def zYg:fieldsOf Tryz.prog 25=some [(3,0),(22,1),(23,2)]:=by kernel_rfl
def znl:fieldsOf Tryz.prog 32=some [(3,0),(26,1)]:=by kernel_rfl
def zJH:Tryz.prog.cellsOf 3=1:=by kernel_rfl
def znp:Tryz.prog.cellsOf 34=1:=by kernel_rfl
def ztr:Tryz.prog.cellsOf 22=1:=by kernel_rfl
def ztq:Tryz.prog.cellsOf 23=1:=by kernel_rfl
def zto:Tryz.prog.cellsOf 26=1:=by kernel_rfl
def znm:Tryz.prog.cellsOf 54=2:=by kernel_rfl
def zYh:Tryz.prog.cellsOf 173=3:=by kernel_rfl
def zno:Tryz.prog.cellsOf 36=2:=by kernel_rfl
def ztn:Tryz.prog.cellsOf 32=2:=by kernel_rfl
def znn:Tryz.prog.cellsOf 52=3:=by kernel_rfl
def ztp:Tryz.prog.cellsOf 25=3:=by kernel_rfl
section
variable {H:Type} {enc:TypeId×Value->H} {w:World} {base:Nat} {held:Bool}
def zCh{n:Nat}{c:Value}{x:DataW H×List MemPlace}(h:DataW.trod enc Tryz.prog w base (λ _=>true) held n 3 [c]=some x):∃ k,c=iI k:=by
 obtain⟨k,hk,_⟩:=DataW.trod_int zth h;cases hk;exact⟨k,rfl⟩
def ziN:∀(n:Nat) (cs:List Value) (x:DataW H×List MemPlace) (σ:Sg) (h:AH),h.ok->HR w.heap.size σ h w->DataW.trod enc Tryz.prog w base (λ _=>true) held n 34 cs=some x->
  ∃ σ' h' v v' ts,cs=[v']/\More w σ h σ' h'/\VR σ' v v'/\RT h' v ts:=by
 intro n
 induction n using Nat.strongRecOn with
 | ind n ih=>
  intro cs x σ h aa hH cG;obtain⟨σ1,h1,v,v',els,aas,e1,m1,r1,a1,q1,q2⟩:=zES (α:=GT) (R:=λ h u a=>∃ k n v l,u=[iI k,iI n,v]/\RT h v l/\a=.mk k n l)
   (λ h k u a ex ⟨p,q,v,l,e1,e2,e3⟩=>⟨p,q,v,l,e1,e2.ext ex,e3⟩) ztg (by decide) zYh (n:=n) (λ m hm=>by
    intro cs x σ h aa hH cG;obtain⟨m',eO,hl,hf⟩:=zDM zqc cG;rw[zYh] at hl;obtain⟨c0,c1,c2,rfl⟩:=len3 hl;obtain⟨y0,g0⟩:=hf 0 3 0 rfl;obtain⟨y1,g1⟩:=hf 1 3 1 rfl;obtain⟨y2,g2⟩:=hf 2 34 2 rfl;rw[zJH] at g0 g1;rw[znp] at g2;obtain⟨k0,rfl⟩:=zCh g0;obtain⟨k1,rfl⟩:=zCh g1;obtain⟨σ',h',v,v',ts,e1,m1,r1,t1⟩:=ih m' (by omega) _ _ σ h aa hH g2;cases e1;exact⟨σ',h',[iI k0,iI k1,v],.mk k0 k1 ts,m1,.cons (.int _ _) (.cons (.int _ _) (.cons r1 .nil)),k0,k1,v,ts,rfl,t1,rfl⟩) cs x σ h aa hH cG
  refine⟨σ1,h1,v,v',aas,e1,m1,r1,.mk a1 q2 ?_⟩;clear a1 q2
  induction q1 with
  | nil=>exact .nil
  | cons hh _ ih2=>
   obtain⟨p,q,v,l,e1,e2,e3⟩:=hh;subst e1;subst e3;exact .cons e2 ih2
def zTv{n:Nat}{cs:List Value}{x:DataW H×List MemPlace}{σ:Sg}{h:AH}(aa:h.ok)(hH:HR w.heap.size σ h w)(cG:DataW.trod enc Tryz.prog w base (λ _=>true) held n 22 cs=some x) :
  ∃(σ':Sg) (h':AH) (v v':Value) (els:List (List Value)) (ls:List (Int×List GT)),cs=[v']/\More w σ h σ' h'/\VR σ' v v'/\Arr h' 2 v els/\RLab h' els ls/\els.length<=9223372036854775807:=by
 obtain⟨σ1,h1,v,v',els,aas,e1,m1,r1,a1,q1,q2⟩:=zES (α:=Int×List GT) (R:=λ h u a=>∃ g v l,u=[iI g,v]/\RT h v l/\a=(g,l))
  (λ h k u a ex ⟨p,v,l,e1,e2,e3⟩=>⟨p,v,l,e1,e2.ext ex,e3⟩) ztk (by decide) zno (n:=n) (λ m hm=>by
   intro cs x σ h aa hH cG;obtain⟨m',eO,hl,hf⟩:=zDM ztm cG;rw[zno] at hl;obtain⟨c0,c1,rfl⟩:=zvP hl;obtain⟨y0,g0⟩:=hf 0 3 0 rfl;obtain⟨y1,g1⟩:=hf 1 34 1 rfl;rw[zJH] at g0;rw[znp] at g1;obtain⟨k0,rfl⟩:=zCh g0;obtain⟨σ',h',v,v',ts,e1,m1,r1,t1⟩:=ziN _ _ _ σ h aa hH g1;cases e1;exact⟨σ',h',[iI k0,v],(k0,ts),m1,.cons (.int _ _) (.cons r1 .nil),k0,v,ts,rfl,t1,rfl⟩) cs x σ h aa hH cG
 refine⟨σ1,h1,v,v',els,aas,e1,m1,r1,a1,?_,q2⟩;clear a1 q2
 induction q1 with
 | nil=>exact .nil
 | cons hh _ ih2=>
  obtain⟨p,v,l,e1,e2,e3⟩:=hh;subst e1;subst e3;exact .cons e2 ih2
def zP3{α:Type}{f:α->List Value}{els:List (List Value)}{aas:List α}(h:Els (λ u a=>u=f a) els aas):els=aas.map f:=by
 induction h with
 | nil=>rfl
 | cons h _ ih=>rw[h,ih];rfl
def zYS{n:Nat}{cs:List Value}{x:DataW H×List MemPlace}{σ:Sg}{h:AH}(aa:h.ok)(hH:HR w.heap.size σ h w)(cG:DataW.trod enc Tryz.prog w base (λ _=>true) held n 23 cs=some x) :
  ∃(σ':Sg) (h':AH) (v v':Value) (es:List (Int×Int×Int)),cs=[v']/\More w σ h σ' h'/\VR σ' v v'/\Arr h' 3 v (es.map zQ)/\es.length<=9223372036854775807:=by
 obtain⟨σ1,h1,v,v',els,aas,e1,m1,r1,a1,q1,q2⟩:=zES (α:=Int×Int×Int) (R:=λ _ u a=>u=zQ a)
  (λ h k u a ex e=>e) ztj (by decide) znn (n:=n) (λ m hm=>by
   intro cs x σ h aa hH cG;obtain⟨m',eO,hl,hf⟩:=zDM ztl cG;rw[znn] at hl;obtain⟨c0,c1,c2,rfl⟩:=len3 hl;obtain⟨y0,g0⟩:=hf 0 3 0 rfl;obtain⟨y1,g1⟩:=hf 1 3 1 rfl;obtain⟨y2,g2⟩:=hf 2 3 2 rfl;rw[zJH] at g0 g1 g2;obtain⟨k0,rfl⟩:=zCh g0;obtain⟨k1,rfl⟩:=zCh g1;obtain⟨k2,rfl⟩:=zCh g2;exact⟨σ,h,_,(k0,k1,k2),.refl hH aa,.cons (.int _ _) (.cons (.int _ _) (.cons (.int _ _) .nil)),rfl⟩) cs x σ h aa hH cG
 have:=zP3 q1;subst this;exact⟨σ1,h1,v,v',aas,e1,m1,r1,a1,by simpa using q2⟩
def zYQ{n:Nat}{cs:List Value}{x:DataW H×List MemPlace}{σ:Sg}{h:AH}(aa:h.ok)(hH:HR w.heap.size σ h w)(cG:DataW.trod enc Tryz.prog w base (λ _=>true) held n 26 cs=some x) :
  ∃(σ':Sg) (h':AH) (v v':Value) (ps:List (Int×Int)),cs=[v']/\More w σ h σ' h'/\VR σ' v v'/\Arr h' 2 v (ps.map zC)/\ps.length<=9223372036854775807:=by
 obtain⟨σ1,h1,v,v',els,aas,e1,m1,r1,a1,q1,q2⟩:=zES (α:=Int×Int) (R:=λ _ u a=>u=zC a)
  (λ h k u a ex e=>e) zti (by decide) znm (n:=n) (λ m hm=>by
   intro cs x σ h aa hH cG;obtain⟨xs,m',eO,_,hl,hlen,hf⟩:=DataW.trod_array ztf cG;rw[znm] at hl;obtain⟨c0,c1,rfl⟩:=zvP hl;have g0:=hf 0 (by omega);have g1:=hf 1 (by omega);rw[zJH,xAA (by omega)] at g0 g1;obtain⟨k0,rfl⟩:=zCh g0;obtain⟨k1,rfl⟩:=zCh g1;exact⟨σ,h,_,(k0,k1),.refl hH aa,.cons (.int _ _) (.cons (.int _ _) .nil),rfl⟩) cs x σ h aa hH cG
 have:=zP3 q1;subst this;exact⟨σ1,h1,v,v',aas,e1,m1,r1,a1,by simpa using q2⟩
def zRt{n:Nat}{cs:List Value}{x:DataW H×List MemPlace}{σ:Sg}{h:AH}(aa:h.ok)(hH:HR w.heap.size σ h w)(cG:DataW.trod enc Tryz.prog w base (λ _=>true) held n 25 cs=some x) :
  ∃(σ':Sg) (h':AH) (vs:List Value) (L:GL),More w σ h σ' h'/\VRs σ' vs cs/\RL h' (.agg ⟨vs⟩) L/\L.labs.length<=9223372036854775807:=by
 obtain⟨m',eO,hl,hf⟩:=zDM zYg cG;rw[ztp] at hl;obtain⟨c0,c1,c2,rfl⟩:=len3 hl;obtain⟨y0,g0⟩:=hf 0 3 0 rfl;obtain⟨y1,g1⟩:=hf 1 22 1 rfl;obtain⟨y2,g2⟩:=hf 2 23 2 rfl;rw[zJH] at g0;rw[ztr] at g1;rw[ztq] at g2;obtain⟨k0,rfl⟩:=zCh g0;obtain⟨σ1,h1,v1,v1',els,ls,e1,m1,r1,a1,l1,n1⟩:=zTv aa hH g1;cases e1;obtain⟨σ2,h2,v2,v2',es,e2,m2,r2,a2,n2⟩:=zYS m1.ok m1.hr g2;cases e2;have l2:=l1.ext m2.ext;exact⟨σ2,h2,[iI k0,v1,v2],⟨k0,ls,es⟩,m1.trans m2,.cons (.int _ _) (.cons (r1.mono m2.le) (.cons r2 .nil)),⟨v1,v2,els,rfl,a1.ext m2.ext,l2,a2⟩,by rw[← RLab.length l1];exact n1⟩
end
end Go.Proofs
