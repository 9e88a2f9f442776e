import Derived.OpenShut
import Derived.Test.YthmnhjcmefjgjaaGreatDoorXAI
import Derived.Test.YthmnhjcmefjgjaaGreatDoorXAG
import Derived.Test.YthmnhjcmefjgjaaGreatDoorXAK
set_option linter.all false
set_option linter.unusedSectionVars false
set_option autoImplicit true
set_option relaxedAutoImplicit true
namespace Go.Proofs
open Go Go.AM
set_option maxRecDepth 100000
def fieldsOf (P:Program) (t:TypeId):Option (List (TypeId×Nat)):=match P.underlying t with
 | some (.struct fs)=>some (fs.toList.map fun f=>(f.type,f.offset))
 | _=>none
theorem struct_open {H:Type} {enc:TypeId×Value->H} {P:Program} {w:World} {base:Nat} {spare:Nat->Bool} {held:Bool} {fuel:Nat} {t:TypeId} {cs:List Value} {x:DataW H×List MemPlace} {l:List (TypeId×Nat)}
  (hf:fieldsOf P t=some l) (h:DataW.trod enc P w base spare held fuel t cs=some x) :
  ∃ n,fuel=n+1/\cs.length=P.cellsOf t/\∀ (i:Nat) (ty:TypeId) (off:Nat),l[i]?=some (ty,off)->∃ y,DataW.trod enc P w base spare held n ty ((cs.drop off).take (P.cellsOf ty))=some y:=by
 unfold fieldsOf at hf
 split at hf
 ·rename_i fs hu
  cases hf
  obtain ⟨xs,n,hn,_,hl,hlen,H⟩:=DataW.trod_struct hu h
  refine ⟨n,hn,hl,fun i ty off hi=>?_⟩
  rw [List.getElem?_map] at hi
  obtain ⟨f,hf,he⟩:=Option.map_eq_some_iff.1 hi
  cases he
  have hf':fs[i]?=some f:=by simpa using hf
  have hlt:i<xs.length:=by rw [hlen];exact (Array.getElem?_eq_some_iff.1 hf').1
  exact ⟨xs[i],by rw [H i f hf',List.getElem?_eq_getElem hlt]⟩
 ·cases hf
theorem len2 {cs:List Value} (h:cs.length=2):∃ a b,cs=[a,b]:=by
 match cs,h with
 | [a,b],_=>exact ⟨a,b,rfl⟩
theorem len3 {cs:List Value} (h:cs.length=3):∃ a b c,cs=[a,b,c]:=by
 match cs,h with
 | [a,b,c],_=>exact ⟨a,b,c,rfl⟩
theorem ar_u3:Tryz.prog.underlying 3=some (.int .i64):=by kernel_rfl
theorem ar_u34:Tryz.prog.underlying 34=some (.slice 173):=und_spec Tryz.envOK und_34
theorem ar_u22:Tryz.prog.underlying 22=some (.slice 36):=und_spec Tryz.envOK und_22
theorem ar_u23:Tryz.prog.underlying 23=some (.slice 52):=und_spec Tryz.envOK und_23
theorem ar_u26:Tryz.prog.underlying 26=some (.slice 54):=und_spec Tryz.envOK und_26
theorem ar_u54:Tryz.prog.underlying 54=some (.array 2 3):=und_spec Tryz.envOK und_54
theorem ar_f173:fieldsOf Tryz.prog 173=some [(3,0),(3,1),(34,2)]:=by kernel_rfl
theorem ar_f36:fieldsOf Tryz.prog 36=some [(3,0),(34,1)]:=by kernel_rfl
theorem ar_f52:fieldsOf Tryz.prog 52=some [(3,0),(3,1),(3,2)]:=by kernel_rfl
theorem ar_f25:fieldsOf Tryz.prog 25=some [(3,0),(22,1),(23,2)]:=by kernel_rfl
theorem ar_f32:fieldsOf Tryz.prog 32=some [(3,0),(26,1)]:=by kernel_rfl
theorem ar_c3_:Tryz.prog.cellsOf 3=1:=by kernel_rfl
theorem ar_c34:Tryz.prog.cellsOf 34=1:=by kernel_rfl
theorem ar_c22:Tryz.prog.cellsOf 22=1:=by kernel_rfl
theorem ar_c23:Tryz.prog.cellsOf 23=1:=by kernel_rfl
theorem ar_c26:Tryz.prog.cellsOf 26=1:=by kernel_rfl
theorem ar_c54:Tryz.prog.cellsOf 54=2:=by kernel_rfl
theorem ar_c173:Tryz.prog.cellsOf 173=3:=by kernel_rfl
theorem ar_c36:Tryz.prog.cellsOf 36=2:=by kernel_rfl
theorem ar_c32:Tryz.prog.cellsOf 32=2:=by kernel_rfl
theorem ar_c52:Tryz.prog.cellsOf 52=3:=by kernel_rfl
theorem ar_c25:Tryz.prog.cellsOf 25=3:=by kernel_rfl
section
variable {H:Type} {enc:TypeId×Value->H} {w:World} {base:Nat} {held:Bool}
theorem int_cell {n:Nat} {c:Value} {x:DataW H×List MemPlace} (h:DataW.trod enc Tryz.prog w base (fun _=>true) held n 3 [c]=some x):∃ k,c=.int .i64 k:=by
 obtain ⟨k,hk,_⟩:=DataW.trod_int ar_u3 h
 cases hk;exact ⟨k,rfl⟩
theorem build_RT:∀ (n:Nat) (cs:List Value) (x:DataW H×List MemPlace) (σ:Sg) (h:AH),h.ok->HR w.heap.size σ h w->DataW.trod enc Tryz.prog w base (fun _=>true) held n 34 cs=some x->
  ∃ σ' h' v v' ts,cs=[v']/\More w σ h σ' h'/\VR σ' v v'/\RT h' v ts:=by
 intro n
 induction n using Nat.strongRecOn with
 | ind n ih=>
  intro cs x σ h hok hH htr
  obtain ⟨σ1,h1,v,v',els,aas,e1,m1,r1,a1,q1,q2⟩:=build_slice (α:=GT) (R:=fun h u a=>∃ k n v l,u=[.int .i64 k,.int .i64 n,v]/\RT h v l/\a=.mk k n l)
   (fun h k u a ex ⟨p,q,v,l,e1,e2,e3⟩=>⟨p,q,v,l,e1,e2.ext ex,e3⟩) ar_u34 (by decide) ar_c173 (n:=n) (fun m hm=>by
    intro cs x σ h hok hH htr
    obtain ⟨m',hm',hl,hf⟩:=struct_open ar_f173 htr
    rw [ar_c173] at hl
    obtain ⟨c0,c1,c2,rfl⟩:=len3 hl
    obtain ⟨y0,g0⟩:=hf 0 3 0 rfl
    obtain ⟨y1,g1⟩:=hf 1 3 1 rfl
    obtain ⟨y2,g2⟩:=hf 2 34 2 rfl
    rw [ar_c3_] at g0 g1
    rw [ar_c34] at g2
    obtain ⟨k0,rfl⟩:=int_cell g0
    obtain ⟨k1,rfl⟩:=int_cell g1
    obtain ⟨σ',h',v,v',ts,e1,m1,r1,t1⟩:=ih m' (by omega) _ _ σ h hok hH g2
    cases e1
    exact ⟨σ',h',[.int .i64 k0,.int .i64 k1,v],.mk k0 k1 ts,m1,.cons (.int _ _) (.cons (.int _ _) (.cons r1 .nil)),k0,k1,v,ts,rfl,t1,rfl⟩) cs x σ h hok hH htr
  refine ⟨σ1,h1,v,v',aas,e1,m1,r1,.mk a1 q2 ?_⟩
  clear a1 q2
  induction q1 with
  | nil=>exact .nil
  | cons hh _ ih2=>
   obtain ⟨p,q,v,l,e1,e2,e3⟩:=hh
   subst e1;subst e3
   exact .cons e2 ih2
theorem build_labs {n:Nat} {cs:List Value} {x:DataW H×List MemPlace} {σ:Sg} {h:AH} (hok:h.ok) (hH:HR w.heap.size σ h w) (htr:DataW.trod enc Tryz.prog w base (fun _=>true) held n 22 cs=some x) :
  ∃ (σ':Sg) (h':AH) (v v':Value) (els:List (List Value)) (ls:List (Int×List GT)),cs=[v']/\More w σ h σ' h'/\VR σ' v v'/\Arr h' 2 v els/\RLab h' els ls/\els.length<=9223372036854775807:=by
 obtain ⟨σ1,h1,v,v',els,aas,e1,m1,r1,a1,q1,q2⟩:=build_slice (α:=Int×List GT) (R:=fun h u a=>∃ g v l,u=[.int .i64 g,v]/\RT h v l/\a=(g,l))
  (fun h k u a ex ⟨p,v,l,e1,e2,e3⟩=>⟨p,v,l,e1,e2.ext ex,e3⟩) ar_u22 (by decide) ar_c36 (n:=n) (fun m hm=>by
   intro cs x σ h hok hH htr
   obtain ⟨m',hm',hl,hf⟩:=struct_open ar_f36 htr
   rw [ar_c36] at hl
   obtain ⟨c0,c1,rfl⟩:=len2 hl
   obtain ⟨y0,g0⟩:=hf 0 3 0 rfl
   obtain ⟨y1,g1⟩:=hf 1 34 1 rfl
   rw [ar_c3_] at g0
   rw [ar_c34] at g1
   obtain ⟨k0,rfl⟩:=int_cell g0
   obtain ⟨σ',h',v,v',ts,e1,m1,r1,t1⟩:=build_RT _ _ _ σ h hok hH g1
   cases e1
   exact ⟨σ',h',[.int .i64 k0,v],(k0,ts),m1,.cons (.int _ _) (.cons r1 .nil),k0,v,ts,rfl,t1,rfl⟩) cs x σ h hok hH htr
 refine ⟨σ1,h1,v,v',els,aas,e1,m1,r1,a1,?_,q2⟩
 clear a1 q2
 induction q1 with
 | nil=>exact .nil
 | cons hh _ ih2=>
  obtain ⟨p,v,l,e1,e2,e3⟩:=hh
  subst e1;subst e3
  exact .cons e2 ih2
theorem els_map {α:Type} {f:α->List Value} {els:List (List Value)} {aas:List α} (h:Els (fun u a=>u=f a) els aas):els=aas.map f:=by
 induction h with
 | nil=>rfl
 | cons h _ ih=>rw [h,ih];rfl
theorem build_eds {n:Nat} {cs:List Value} {x:DataW H×List MemPlace} {σ:Sg} {h:AH} (hok:h.ok) (hH:HR w.heap.size σ h w) (htr:DataW.trod enc Tryz.prog w base (fun _=>true) held n 23 cs=some x) :
  ∃ (σ':Sg) (h':AH) (v v':Value) (es:List (Int×Int×Int)),cs=[v']/\More w σ h σ' h'/\VR σ' v v'/\Arr h' 3 v (es.map edCells)/\es.length<=9223372036854775807:=by
 obtain ⟨σ1,h1,v,v',els,aas,e1,m1,r1,a1,q1,q2⟩:=build_slice (α:=Int×Int×Int) (R:=fun _ u a=>u=edCells a)
  (fun h k u a ex e=>e) ar_u23 (by decide) ar_c52 (n:=n) (fun m hm=>by
   intro cs x σ h hok hH htr
   obtain ⟨m',hm',hl,hf⟩:=struct_open ar_f52 htr
   rw [ar_c52] at hl
   obtain ⟨c0,c1,c2,rfl⟩:=len3 hl
   obtain ⟨y0,g0⟩:=hf 0 3 0 rfl
   obtain ⟨y1,g1⟩:=hf 1 3 1 rfl
   obtain ⟨y2,g2⟩:=hf 2 3 2 rfl
   rw [ar_c3_] at g0 g1 g2
   obtain ⟨k0,rfl⟩:=int_cell g0
   obtain ⟨k1,rfl⟩:=int_cell g1
   obtain ⟨k2,rfl⟩:=int_cell g2
   exact ⟨σ,h,_,(k0,k1,k2),.refl hH hok,.cons (.int _ _) (.cons (.int _ _) (.cons (.int _ _) .nil)),rfl⟩) cs x σ h hok hH htr
 have:=els_map q1
 subst this
 exact ⟨σ1,h1,v,v',aas,e1,m1,r1,a1,by simpa using q2⟩
theorem build_prs {n:Nat} {cs:List Value} {x:DataW H×List MemPlace} {σ:Sg} {h:AH} (hok:h.ok) (hH:HR w.heap.size σ h w) (htr:DataW.trod enc Tryz.prog w base (fun _=>true) held n 26 cs=some x) :
  ∃ (σ':Sg) (h':AH) (v v':Value) (ps:List (Int×Int)),cs=[v']/\More w σ h σ' h'/\VR σ' v v'/\Arr h' 2 v (ps.map prCells)/\ps.length<=9223372036854775807:=by
 obtain ⟨σ1,h1,v,v',els,aas,e1,m1,r1,a1,q1,q2⟩:=build_slice (α:=Int×Int) (R:=fun _ u a=>u=prCells a)
  (fun h k u a ex e=>e) ar_u26 (by decide) ar_c54 (n:=n) (fun m hm=>by
   intro cs x σ h hok hH htr
   obtain ⟨xs,m',hm',_,hl,hlen,hf⟩:=DataW.trod_array ar_u54 htr
   rw [ar_c54] at hl
   obtain ⟨c0,c1,rfl⟩:=len2 hl
   have g0:=hf 0 (by omega)
   have g1:=hf 1 (by omega)
   rw [ar_c3_,List.getElem?_eq_getElem (by omega)] at g0 g1
   obtain ⟨k0,rfl⟩:=int_cell g0
   obtain ⟨k1,rfl⟩:=int_cell g1
   exact ⟨σ,h,_,(k0,k1),.refl hH hok,.cons (.int _ _) (.cons (.int _ _) .nil),rfl⟩) cs x σ h hok hH htr
 have:=els_map q1
 subst this
 exact ⟨σ1,h1,v,v',aas,e1,m1,r1,a1,by simpa using q2⟩
theorem build_RL {n:Nat} {cs:List Value} {x:DataW H×List MemPlace} {σ:Sg} {h:AH} (hok:h.ok) (hH:HR w.heap.size σ h w) (htr:DataW.trod enc Tryz.prog w base (fun _=>true) held n 25 cs=some x) :
  ∃ (σ':Sg) (h':AH) (vs:List Value) (L:GL),More w σ h σ' h'/\VRs σ' vs cs/\RL h' (.agg ⟨vs⟩) L/\L.labs.length<=9223372036854775807:=by
 obtain ⟨m',hm',hl,hf⟩:=struct_open ar_f25 htr
 rw [ar_c25] at hl
 obtain ⟨c0,c1,c2,rfl⟩:=len3 hl
 obtain ⟨y0,g0⟩:=hf 0 3 0 rfl
 obtain ⟨y1,g1⟩:=hf 1 22 1 rfl
 obtain ⟨y2,g2⟩:=hf 2 23 2 rfl
 rw [ar_c3_] at g0
 rw [ar_c22] at g1
 rw [ar_c23] at g2
 obtain ⟨k0,rfl⟩:=int_cell g0
 obtain ⟨σ1,h1,v1,v1',els,ls,e1,m1,r1,a1,l1,n1⟩:=build_labs hok hH g1
 cases e1
 obtain ⟨σ2,h2,v2,v2',es,e2,m2,r2,a2,n2⟩:=build_eds m1.ok m1.hr g2
 cases e2
 have l2:=l1.ext m2.ext
 exact ⟨σ2,h2,[.int .i64 k0,v1,v2],⟨k0,ls,es⟩,m1.trans m2,.cons (.int _ _) (.cons (r1.mono m2.le) (.cons r2 .nil)),⟨v1,v2,els,rfl,a1.ext m2.ext,l2,a2⟩,by rw [← RLab.length l1];exact n1⟩
end
end Go.Proofs
