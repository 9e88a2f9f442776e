import Derived.OpenShut
import Derived.Test.YthmnhjcmefjgjaaGreatDoorXAK
import Derived.Test.YthmnhjcmefjgjaaGreatDoorXAH
import Derived.Test.YthmnhjcmefjgjaaGreatDoorXAM
set_option linter.all false
set_option linter.unusedSectionVars false
set_option autoImplicit true
set_option relaxedAutoImplicit true
namespace Go.Proofs
open Go Go.AM
set_option maxRecDepth 100000
def zCc (P:Program) (t:TypeId):Option (List (TypeId×Nat)):=match P.underlying t with
 | some (.struct fs)=>some (fs.toList.map fun f=>(f.type,f.offset))
 | _=>none
theorem zCn {H:Type} {enc:TypeId×Value->H} {P:Program} {w:World} {base:Nat} {spare:Nat->Bool} {held:Bool} {fuel:Nat} {t:TypeId} {cs:List Value} {x:DataW H×List MemPlace} {l:List (TypeId×Nat)}
  (hf:zCc P t=some l) (h:DataW.trod enc P w base spare held fuel t cs=some x) :
  ∃ n,fuel=n+1/\cs.length=P.cellsOf t/\∀ (i:Nat) (ty:TypeId) (off:Nat),l[i]?=some (ty,off)->∃ y,DataW.trod enc P w base spare held n ty ((cs.drop off).take (P.cellsOf ty))=some y:=by
 unfold zCc at hf
 split at hf
 ·rename_i fs hu
  cases hf
  obtain ⟨xs,n,hn,_,hl,hlen,H⟩:=DataW.trod_struct hu h
  refine ⟨n,hn,hl,fun i ty off hi=>?_⟩
  rw [List.getElem?_map] at hi
  obtain ⟨f,hf,he⟩:=Option.map_eq_some_iff.1 hi
  cases he
  have hf':fs[i]?=some f:=by simpa using hf
  have ab:i<xs.length:=by rw [hlen];exact (Array.getElem?_eq_some_iff.1 hf').1
  exact ⟨xs[i],by rw [H i f hf',List.getElem?_eq_getElem ab]⟩
 ·cases hf
theorem zpl {cs:List Value} (h:cs.length=2):∃ a b,cs=[a,b]:=by
 match cs,h with
 | [a,b],_=>exact ⟨a,b,rfl⟩
theorem zpk {cs:List Value} (h:cs.length=3):∃ a b c,cs=[a,b,c]:=by
 match cs,h with
 | [a,b,c],_=>exact ⟨a,b,c,rfl⟩
theorem zqO:Tryz.prog.underlying 3=some (.int .i64):=by kernel_rfl
theorem zmr:Tryz.prog.underlying 34=some (.slice 173):=zBD Tryz.envOK zSg
theorem zmu:Tryz.prog.underlying 22=some (.slice 36):=zBD Tryz.envOK zKg
theorem zmt:Tryz.prog.underlying 23=some (.slice 52):=zBD Tryz.envOK zSh
theorem zms:Tryz.prog.underlying 26=some (.slice 54):=zBD Tryz.envOK zIN
theorem zmq:Tryz.prog.underlying 54=some (.array 2 3):=zBD Tryz.envOK zSf
theorem zkN:zCc Tryz.prog 173=some [(3,0),(3,1),(34,2)]:=by kernel_rfl
theorem zmw:zCc Tryz.prog 36=some [(3,0),(34,1)]:=by kernel_rfl
theorem zmv:zCc Tryz.prog 52=some [(3,0),(3,1),(3,2)]:=by kernel_rfl
theorem zPC:zCc Tryz.prog 25=some [(3,0),(22,1),(23,2)]:=by kernel_rfl
theorem zPB:zCc Tryz.prog 32=some [(3,0),(26,1)]:=by kernel_rfl
theorem zI9:Tryz.prog.cellsOf 3=1:=by kernel_rfl
theorem zh1:Tryz.prog.cellsOf 34=1:=by kernel_rfl
theorem zm1:Tryz.prog.cellsOf 22=1:=by kernel_rfl
theorem zm0:Tryz.prog.cellsOf 23=1:=by kernel_rfl
theorem zmy:Tryz.prog.cellsOf 26=1:=by kernel_rfl
theorem zhy:Tryz.prog.cellsOf 54=2:=by kernel_rfl
theorem zU6:Tryz.prog.cellsOf 173=3:=by kernel_rfl
theorem zh0:Tryz.prog.cellsOf 36=2:=by kernel_rfl
theorem zmx:Tryz.prog.cellsOf 32=2:=by kernel_rfl
theorem zhz:Tryz.prog.cellsOf 52=3:=by kernel_rfl
theorem zmz:Tryz.prog.cellsOf 25=3:=by kernel_rfl
section
variable {H:Type} {enc:TypeId×Value->H} {w:World} {base:Nat} {held:Bool}
theorem zCH {n:Nat} {c:Value} {x:DataW H×List MemPlace} (h:DataW.trod enc Tryz.prog w base (fun _=>true) held n 3 [c]=some x):∃ k,c=iI k:=by
 obtain ⟨k,hk,_⟩:=DataW.trod_int zqO h
 cases hk;exact ⟨k,rfl⟩
theorem zd0:∀ (n:Nat) (cs:List Value) (x:DataW H×List MemPlace) (σ:Sg) (h:AH),h.ok->HR w.heap.size σ h w->DataW.trod enc Tryz.prog w base (fun _=>true) held n 34 cs=some x->
  ∃ σ' h' v v' ts,cs=[v']/\More w σ h σ' h'/\VR σ' v v'/\RT h' v ts:=by
 intro n
 induction n using Nat.strongRecOn with
 | ind n ih=>
  intro cs x σ h aa hH bW
  obtain ⟨σ1,h1,v,v',els,aas,e1,m1,r1,a1,q1,q2⟩:=zDs (α:=GT) (R:=fun h u a=>∃ k n v l,u=[iI k,iI n,v]/\RT h v l/\a=.mk k n l)
   (fun h k u a ex ⟨p,q,v,l,e1,e2,e3⟩=>⟨p,q,v,l,e1,e2.ext ex,e3⟩) zmr (by decide) zU6 (n:=n) (fun m hm=>by
    intro cs x σ h aa hH bW
    obtain ⟨m',dY,hl,hf⟩:=zCn zkN bW
    rw [zU6] at hl
    obtain ⟨c0,c1,c2,rfl⟩:=zpk hl
    obtain ⟨y0,g0⟩:=hf 0 3 0 rfl
    obtain ⟨y1,g1⟩:=hf 1 3 1 rfl
    obtain ⟨y2,g2⟩:=hf 2 34 2 rfl
    rw [zI9] at g0 g1
    rw [zh1] at g2
    obtain ⟨k0,rfl⟩:=zCH g0
    obtain ⟨k1,rfl⟩:=zCH g1
    obtain ⟨σ',h',v,v',ts,e1,m1,r1,t1⟩:=ih m' (by omega) _ _ σ h aa hH g2
    cases e1
    exact ⟨σ',h',[iI k0,iI k1,v],.mk k0 k1 ts,m1,.cons (.int _ _) (.cons (.int _ _) (.cons r1 .nil)),k0,k1,v,ts,rfl,t1,rfl⟩) cs x σ h aa hH bW
  refine ⟨σ1,h1,v,v',aas,e1,m1,r1,.mk a1 q2 ?_⟩
  clear a1 q2
  induction q1 with
  | nil=>exact .nil
  | cons hh _ ih2=>
   obtain ⟨p,q,v,l,e1,e2,e3⟩:=hh
   subst e1;subst e3
   exact .cons e2 ih2
theorem zQk {n:Nat} {cs:List Value} {x:DataW H×List MemPlace} {σ:Sg} {h:AH} (aa:h.ok) (hH:HR w.heap.size σ h w) (bW:DataW.trod enc Tryz.prog w base (fun _=>true) held n 22 cs=some x) :
  ∃ (σ':Sg) (h':AH) (v v':Value) (els:List (List Value)) (ls:List (Int×List GT)),cs=[v']/\More w σ h σ' h'/\VR σ' v v'/\Arr h' 2 v els/\RLab h' els ls/\els.length<=9223372036854775807:=by
 obtain ⟨σ1,h1,v,v',els,aas,e1,m1,r1,a1,q1,q2⟩:=zDs (α:=Int×List GT) (R:=fun h u a=>∃ g v l,u=[iI g,v]/\RT h v l/\a=(g,l))
  (fun h k u a ex ⟨p,v,l,e1,e2,e3⟩=>⟨p,v,l,e1,e2.ext ex,e3⟩) zmu (by decide) zh0 (n:=n) (fun m hm=>by
   intro cs x σ h aa hH bW
   obtain ⟨m',dY,hl,hf⟩:=zCn zmw bW
   rw [zh0] at hl
   obtain ⟨c0,c1,rfl⟩:=zpl hl
   obtain ⟨y0,g0⟩:=hf 0 3 0 rfl
   obtain ⟨y1,g1⟩:=hf 1 34 1 rfl
   rw [zI9] at g0
   rw [zh1] at g1
   obtain ⟨k0,rfl⟩:=zCH g0
   obtain ⟨σ',h',v,v',ts,e1,m1,r1,t1⟩:=zd0 _ _ _ σ h aa hH g1
   cases e1
   exact ⟨σ',h',[iI k0,v],(k0,ts),m1,.cons (.int _ _) (.cons r1 .nil),k0,v,ts,rfl,t1,rfl⟩) cs x σ h aa hH bW
 refine ⟨σ1,h1,v,v',els,aas,e1,m1,r1,a1,?_,q2⟩
 clear a1 q2
 induction q1 with
 | nil=>exact .nil
 | cons hh _ ih2=>
  obtain ⟨p,v,l,e1,e2,e3⟩:=hh
  subst e1;subst e3
  exact .cons e2 ih2
theorem zUO {α:Type} {f:α->List Value} {els:List (List Value)} {aas:List α} (h:Els (fun u a=>u=f a) els aas):els=aas.map f:=by
 induction h with
 | nil=>rfl
 | cons h _ ih=>rw [h,ih];rfl
theorem zUw {n:Nat} {cs:List Value} {x:DataW H×List MemPlace} {σ:Sg} {h:AH} (aa:h.ok) (hH:HR w.heap.size σ h w) (bW:DataW.trod enc Tryz.prog w base (fun _=>true) held n 23 cs=some x) :
  ∃ (σ':Sg) (h':AH) (v v':Value) (es:List (Int×Int×Int)),cs=[v']/\More w σ h σ' h'/\VR σ' v v'/\Arr h' 3 v (es.map zm)/\es.length<=9223372036854775807:=by
 obtain ⟨σ1,h1,v,v',els,aas,e1,m1,r1,a1,q1,q2⟩:=zDs (α:=Int×Int×Int) (R:=fun _ u a=>u=zm a)
  (fun h k u a ex e=>e) zmt (by decide) zhz (n:=n) (fun m hm=>by
   intro cs x σ h aa hH bW
   obtain ⟨m',dY,hl,hf⟩:=zCn zmv bW
   rw [zhz] at hl
   obtain ⟨c0,c1,c2,rfl⟩:=zpk hl
   obtain ⟨y0,g0⟩:=hf 0 3 0 rfl
   obtain ⟨y1,g1⟩:=hf 1 3 1 rfl
   obtain ⟨y2,g2⟩:=hf 2 3 2 rfl
   rw [zI9] at g0 g1 g2
   obtain ⟨k0,rfl⟩:=zCH g0
   obtain ⟨k1,rfl⟩:=zCH g1
   obtain ⟨k2,rfl⟩:=zCH g2
   exact ⟨σ,h,_,(k0,k1,k2),.refl hH aa,.cons (.int _ _) (.cons (.int _ _) (.cons (.int _ _) .nil)),rfl⟩) cs x σ h aa hH bW
 have:=zUO q1
 subst this
 exact ⟨σ1,h1,v,v',aas,e1,m1,r1,a1,by simpa using q2⟩
theorem zUu {n:Nat} {cs:List Value} {x:DataW H×List MemPlace} {σ:Sg} {h:AH} (aa:h.ok) (hH:HR w.heap.size σ h w) (bW:DataW.trod enc Tryz.prog w base (fun _=>true) held n 26 cs=some x) :
  ∃ (σ':Sg) (h':AH) (v v':Value) (ps:List (Int×Int)),cs=[v']/\More w σ h σ' h'/\VR σ' v v'/\Arr h' 2 v (ps.map zH)/\ps.length<=9223372036854775807:=by
 obtain ⟨σ1,h1,v,v',els,aas,e1,m1,r1,a1,q1,q2⟩:=zDs (α:=Int×Int) (R:=fun _ u a=>u=zH a)
  (fun h k u a ex e=>e) zms (by decide) zhy (n:=n) (fun m hm=>by
   intro cs x σ h aa hH bW
   obtain ⟨xs,m',dY,_,hl,hlen,hf⟩:=DataW.trod_array zmq bW
   rw [zhy] at hl
   obtain ⟨c0,c1,rfl⟩:=zpl hl
   have g0:=hf 0 (by omega)
   have g1:=hf 1 (by omega)
   rw [zI9,List.getElem?_eq_getElem (by omega)] at g0 g1
   obtain ⟨k0,rfl⟩:=zCH g0
   obtain ⟨k1,rfl⟩:=zCH g1
   exact ⟨σ,h,_,(k0,k1),.refl hH aa,.cons (.int _ _) (.cons (.int _ _) .nil),rfl⟩) cs x σ h aa hH bW
 have:=zUO q1
 subst this
 exact ⟨σ1,h1,v,v',aas,e1,m1,r1,a1,by simpa using q2⟩
theorem zKI {n:Nat} {cs:List Value} {x:DataW H×List MemPlace} {σ:Sg} {h:AH} (aa:h.ok) (hH:HR w.heap.size σ h w) (bW:DataW.trod enc Tryz.prog w base (fun _=>true) held n 25 cs=some x) :
  ∃ (σ':Sg) (h':AH) (vs:List Value) (L:GL),More w σ h σ' h'/\VRs σ' vs cs/\RL h' (.agg ⟨vs⟩) L/\L.labs.length<=9223372036854775807:=by
 obtain ⟨m',dY,hl,hf⟩:=zCn zPC bW
 rw [zmz] at hl
 obtain ⟨c0,c1,c2,rfl⟩:=zpk hl
 obtain ⟨y0,g0⟩:=hf 0 3 0 rfl
 obtain ⟨y1,g1⟩:=hf 1 22 1 rfl
 obtain ⟨y2,g2⟩:=hf 2 23 2 rfl
 rw [zI9] at g0
 rw [zm1] at g1
 rw [zm0] at g2
 obtain ⟨k0,rfl⟩:=zCH g0
 obtain ⟨σ1,h1,v1,v1',els,ls,e1,m1,r1,a1,l1,n1⟩:=zQk aa hH g1
 cases e1
 obtain ⟨σ2,h2,v2,v2',es,e2,m2,r2,a2,n2⟩:=zUw m1.ok m1.hr g2
 cases e2
 have l2:=l1.ext m2.ext
 exact ⟨σ2,h2,[iI k0,v1,v2],⟨k0,ls,es⟩,m1.trans m2,.cons (.int _ _) (.cons (r1.mono m2.le) (.cons r2 .nil)),⟨v1,v2,els,rfl,a1.ext m2.ext,l2,a2⟩,by rw [← RLab.length l1];exact n1⟩
end
end Go.Proofs
