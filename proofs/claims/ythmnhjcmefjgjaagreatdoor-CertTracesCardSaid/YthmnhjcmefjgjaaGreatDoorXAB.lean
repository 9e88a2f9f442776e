import Derived.Laws.Tables
import Derived.Laws.Append
import Derived.Laws.AppendOwn
import Derived.Lib.UnsafeStr
import Derived.Test.YthmnhjcmefjgjaaGreatDoorXAA
set_option linter.all false
set_option linter.unusedSectionVars false
set_option autoImplicit true
set_option relaxedAutoImplicit true
namespace Go.AM
open Go Go.RowKit
variable {E:Env} (hE:EnvOK E) {σ:Sg} {T:Tm} {a:Act} {xs:List Operand}
theorem VRs.lput:∀ {l l' ws ws':List Value} (o:Nat),VRs σ l l'->VRs σ ws ws'->VRs σ (AM.lput l o ws) (AM.lput l' o ws')
 | _,_,_,_,o,hl,.nil=>by cases hl <;> cases o <;> simp only [AM.lput] <;> first|exact .nil|(constructor <;> assumption)
 | _,_,_,_,0,.nil,.cons _ _=>.nil
 | _,_,_,_,_+1,.nil,.cons _ _=>.nil
 | _,_,_,_,o+1,.cons h hs,.cons k ks=>.cons h (VRs.lput o hs (.cons k ks))
 | _,_,_,_,0,.cons _ hs,.cons k ks=>.cons k (VRs.lput 0 hs ks)
theorem fold_set:∀ (ws:List Value) (s o:Nat) (cells:Array Value),o+s+ws.length<=cells.size->
  ((ws.zipIdx s).foldl (fun cs (c,j)=>cs.setIfInBounds (o+j) c) cells).toList=lput cells.toList (o+s) ws
 | [],s,o,cells,_=>by
  simp only [List.zipIdx_nil,List.foldl_nil]
  cases cells.toList <;> cases (o+s) <;> rfl
 | w::ws,s,o,cells,h=>by
  simp only [List.zipIdx_cons,List.foldl_cons]
  rw [fold_set ws (s+1) o _ (by simp at h ⊢;omega)]
  have hlt:o+s<cells.toList.length:=by simp at h ⊢;omega
  apply List.ext_getElem?
  intro k
  rw [get_lput _ _ _ _ (by simp at h ⊢;omega),get_lput _ _ _ _ (by simp at h ⊢;omega)]
  simp only [Array.toList_setIfInBounds,List.getElem?_set,List.length_cons]
  by_cases h1:k=o+s
  ·subst h1
   have e1:¬ (o+(s+1)<=o+s/\o+s<o+(s+1)+ws.length):=by omega
   have e2:o+s<=o+s/\o+s<o+s+(ws.length+1):=by omega
   simp only [e1,e2,if_false,if_true,hlt,Nat.sub_self,List.getElem?_cons_zero,and_self]
  ·have e3:¬ (o+s=k):=fun e=>h1 e.symm
   by_cases h2:o+(s+1)<=k/\k<o+(s+1)+ws.length
   ·have e2:o+s<=k/\k<o+s+(ws.length+1):=by omega
    rw [if_pos h2,if_pos e2,show k-(o+s)=(k-(o+(s+1)))+1 by omega];rfl
   ·have e2:¬ (o+s<=k/\k<o+s+(ws.length+1)):=by omega
    rw [if_neg h2,if_neg e2,if_neg e3]
theorem fill_ok {pl pl':Nat->Option (Nat×Nat)} (hpl:∀ i p,pl i=some p->pl' i=some p):∀ {ps ps':List (Nat×Value)} {cells cs:List Value} {cells':Array Value},PartsR σ ps ps'->VRs σ cells cells'.toList->
  fillV pl cells ps=some cs->∃ cs':Array Value,Instr.fill pl' cells' ps'=some cs'/\VRs σ cs cs'.toList
 | _,_,cells,cs,cells',.nil,hc,e=>by simp only [fillV,Option.some.injEq] at e;subst e;exact ⟨_,rfl,hc⟩
 | _,_,cells,cs,cells',.cons (v:=v) (v':=v') (l:=ps) (l':=ps') i hv hs,hc,e=>by
  simp only [fillV] at e
  split at e
  ·cases e
  rename_i off size hp
  split at e
  rotate_left
  ·cases e
  rename_i hcond
  simp only [Bool.and_eq_true,beq_true,ble_true,llen_eq] at hcond
  have h1:=hv.cells
  have l1:=h1.length
  have l2:=hc.length
  simp only [Array.length_toList] at l1 l2
  have hfold:=fold_set v'.cells.toList 0 off cells' (by simp;omega)
  simp only [Nat.add_zero] at hfold
  obtain ⟨cs',q1,q2⟩:=fill_ok hpl (cells':=((v'.cells.toList.zipIdx 0).foldl (fun cs (c,j)=>cs.setIfInBounds (off+j) c) cells')) hs (by rw [hfold];exact VRs.lput off hc h1) e
  refine ⟨cs',?_,q2⟩
  simp only [Instr.fill,hpl _ _ hp]
  rw [if_neg (by simp;omega)]
  rw [← q1]
  rw [← Array.foldl_toList,Array.toList_zipIdx]
include hE in
theorem places_ok:∀ {fs:List Field} {pl:List (Nat×Nat)},placesV E fs=some pl->fs.mapM (fun f=>(E.prog.info? f.type).map fun i=>(f.offset,i.size))=some pl
 | [],pl,h=>by simp only [placesV,Option.some.injEq] at h;subst h;rfl
 | f::fs,pl,h=>by
  simp only [placesV] at h
  split at h
  ·rename_i s ps hs hps
   cases h
   obtain ⟨info,i1,i2⟩:=tsize_spec hE hs
   rw [List.mapM_cons,places_ok hps,i1]
   simp [i2]
  ·cases h
include hE in
theorem buildV_ok {t:TypeId} {ps ps':List (Nat×Value)} (hp:PartsR σ ps ps') {v:Value} (e:buildV E t ps=some v) :
  ∃ v',(∀ w,(Instr.build t ⟨ps'⟩).run E.prog w=.ok v' w)/\VR σ v v':=by
 unfold buildV at e
 split at e
 ·rename_i z fs hz hu
  split at e
  rotate_left
  ·cases e
  rename_i pl hpl
  split at e
  rotate_left
  ·cases e
  rename_i cs hcs
  cases e
  have hzc:VRs σ (cellsOfV z) z.cells.toList:=(VR.of_flat 4 z (zero_flat hE hz)).cells
  obtain ⟨cs',q1,q2⟩:=fill_ok (pl':=fun i=>pl.toArray[i]?) (fun i p h=>by rw [lnth_eq] at h;simpa using h) hp hzc hcs
  refine ⟨.agg cs',fun w=>run_build w t ⟨ps'⟩ cs' ?_,.agg q2⟩
  unfold zeroV at hz
  split at hz
  rotate_left
  ·cases hz
  rename_i i hi
  obtain ⟨info,i1,i2,i3,i4,i5,i6⟩:=hE.ty t i hi
  unfold Program.built
  rw [i1,und_spec hE hu]
  simp only [i5,hz,places_ok hE hpl]
  exact q1
 ·rename_i z n el hz hu
  split at e
  rotate_left
  ·cases e
  rename_i s hs
  split at e
  rotate_left
  ·cases e
  rename_i cs hcs
  cases e
  have hzc:VRs σ (cellsOfV z) z.cells.toList:=(VR.of_flat 4 z (zero_flat hE hz)).cells
  obtain ⟨cs',q1,q2⟩:=fill_ok (pl':=fun i=>some (i*s,s)) (fun i p h=>h) hp hzc hcs
  refine ⟨.agg cs',fun w=>run_build w t ⟨ps'⟩ cs' ?_,.agg q2⟩
  unfold zeroV at hz
  split at hz
  rotate_left
  ·cases hz
  rename_i i hi
  obtain ⟨info,i1,i2,i3,i4,i5,i6⟩:=hE.ty t i hi
  obtain ⟨info2,j1,j2⟩:=tsize_spec hE hs
  unfold Program.built
  rw [i1,und_spec hE hu]
  simp only [i5,hz,j1,j2]
  exact q1
 ·cases e
theorem optOpnd (h:OpsR σ T a xs) {x:Option Operand} (hx:∀ y,x=some y->y∈xs) {l:List Value} (e:opnds T x.toList=some l):OptR σ l.head? (x.map a.eval):=by
 cases x with
 | none=>simp only [Option.toList_none,opnds,Option.some.injEq] at e;subst e;exact .none
 | some y=>
  simp only [Option.toList_some,opnds] at e
  split at e
  ·rename_i v vs e1 e2
   cases e
   exact .some (opnd_ok h (hx y rfl) e1)
  ·cases e
include hE in
theorem evPure_ok {o:Oper} (h:OpsR σ T a o.op.operands.toList) {v:Value} (e:evPure E T o=some v):∃ v',Yields E.prog o a v'/\VR σ v v':=by
 unfold evPure at e
 split at e
 ·
  rename_i x ho
  refine ⟨a.eval x,fun w=>?_,opnd_ok h (by rw [ho];simp [Op.operands]) e⟩
  simp [execOp,ho]
 ·rename_i x ho
  refine ⟨a.eval x,fun w=>?_,opnd_ok h (by rw [ho];simp [Op.operands]) e⟩
  simp [execOp,ho]
 ·
  rename_i c p q ho
  unfold pPick at e
  split at e
  rotate_left
  ·cases e
  rename_i t ht
  have hc:=opnd_ok h (by rw [ho];simp [Op.operands]) ht
  have hcv:a.eval c=.bool t:=by generalize a.eval c=u at hc;cases hc;rfl
  cases t with
  | true=>
   refine ⟨a.eval p,fun w=>?_,opnd_ok h (by rw [ho];simp [Op.operands]) e⟩
   simp [execOp,ho,hcv,asBool]
  | false=>
   refine ⟨a.eval q,fun w=>?_,opnd_ok h (by rw [ho];simp [Op.operands]) e⟩
   simp [execOp,ho,hcv,asBool]
 ·
  rename_i x ho
  cases hx:opnd T x with
  | none=>rw [hx] at e;simp [pNilCheck] at e
  | some u=>
   rw [hx] at e
   have hu:=opnd_ok h (by rw [ho];simp [Op.operands]) hx
   unfold pNilCheck at e
   split at e
   ·rename_i ad h2
    cases h2;cases e
    refine ⟨a.eval x,fun w=>?_,hu⟩
    generalize hq:a.eval x=q at hu
    cases hu
    simp [execOp,ho,hq]
   ·rename_i f p q h2
    cases h2;cases e
    refine ⟨a.eval x,fun w=>?_,hu⟩
    generalize hq:a.eval x=q at hu
    cases hu
    simp [execOp,ho,hq]
   ·rename_i f p q h2
    cases h2;cases e
    refine ⟨a.eval x,fun w=>?_,hu⟩
    generalize hq:a.eval x=q at hu
    cases hu
    simp [execOp,ho,hq]
   ·cases e
 ·
  rename_i op t x y yt ho
  have hx:x∈o.op.operands.toList:=by rw [ho];simp [Op.operands]
  have hy:y∈o.op.operands.toList:=by rw [ho];simp [Op.operands]
  unfold pBin at e
  split at e
  ·rename_i u hu
   cases e
   obtain ⟨q1,q2⟩:=binFast_ok hE hx hy h hu ho
   exact ⟨_,q1,q2⟩
  ·unfold pBinSlow at e
   cases hc:(flatOperand T x&&flatOperand T y) with
   | true=>rw [hc] at e;exact pureFlat_ok h rfl e
   | false=>
    rw [hc] at e
    simp only [cond_false] at e
    have key:∀ neg,(op=if neg then .neq else .eql)->pEql E neg t (opnd T x) (opnd T y)=some v->∃ v',Yields E.prog o a v'/\VR σ v v':=by
     intro neg hop e
     unfold pEql at e
     split at e
     rotate_left
     ·cases e
     rename_i u1 u2 e1 e2
     split at e
     rotate_left
     ·cases e
     rename_i r hr
     cases e
     refine ⟨_,fun w=>?_,.bool _⟩
     obtain ⟨q1,q2⟩:=eqV_ok hE (opnd_ok h hx e1) (opnd_ok h hy e2) hr w
     have q3:=q2 op (by rw [hop];cases neg <;> simp) x y
     have hbin:(binOp op t (a.eval x) (a.eval y)).run E.prog w=.ok (.bool (xor neg r)) w:=by
      have hnb:∀ u u' v v',VR σ u u'->VR σ v v'->eqV E t u v=some r->(binOp op t u' v').run E.prog w=((Op.equal t u' v').run E.prog w).andThen fun b w=>.ok (.bool (xor neg b)) w:=by
       intro u u' v v' hu hv he
       unfold eqV at he
       cases neg <;> simp only [Bool.false_eq_true,if_false,if_true] at hop <;> subst hop <;>
       ·split at he <;> first
         | (cases he;done)
         | (cases hu <;> cases hv <;> simp [binOp])
      rw [hnb _ _ _ _ (opnd_ok h hx e1) (opnd_ok h hy e2) hr,q1];rfl
     simp only [execOp,ho,Sem.run_bind,q3,hbin,Result.andThen_ok,Sem.run_pure]
    split at e
    ·exact key false rfl e
    ·exact key true rfl e
    ·cases e
 ·
  rename_i op t x ho
  unfold pUn at e
  split at e
  ·rename_i u hu
   cases e
   unfold unFast at hu
   split at hu
   ·rename_i b hb
    cases hu
    have hx:a.eval x=.bool b:=by
     cases x with
     | tmp k=>have:=h k (by rw [ho];simp [Op.operands]);simp only [rho] at hb;rw [hb] at this;generalize hq:a.tmps.getD k undef=q at this;cases this;exact hq
     | const c=>exact hb
     | global g=>cases hb
     | func f=>cases hb
    refine ⟨_,fun w=>?_,.bool _⟩
    simp [execOp,ho,hx,Op.unary]
   ·cases hu
  ·unfold pFlat at e
   cases hc:flatOperand T x with
   | true=>rw [hc] at e;exact pureFlat_ok h rfl e
   | false=>rw [hc] at e;cases e
 ·
  rename_i t x ho
  unfold pFlat at e
  cases hc:flatOperand T x with
  | true=>rw [hc] at e;exact pureFlat_ok h rfl e
  | false=>rw [hc] at e;cases e
 ·
  rename_i x i ho
  cases hx:opnd T x with
  | none=>rw [hx] at e;simp [pExtract] at e
  | some u=>
   rw [hx] at e
   have hu:=opnd_ok h (by rw [ho];simp [Op.operands]) hx
   unfold pExtract at e
   split at e
   ·rename_i vs h2
    cases h2
    generalize hq:a.eval x=q at hu
    cases hu with
    | tuple hu=>
    obtain ⟨v',q1,q2⟩:=hu.lnth e
    refine ⟨v',fun w=>?_,q2⟩
    rw [Array.getElem?_toList] at q1
    simp [execOp,ho,hq,Instr.extract,q1]
   ·cases e
 ·
  rename_i t ps ho
  cases hx:parts T ps.toList with
  | none=>rw [hx] at e;simp [pBuild] at e
  | some vs=>
   rw [hx] at e
   have hp:=parts_ok h (ys:=ps.toList) (fun y hy=>by rw [ho];simp only [Op.operands,List.mem_map];exact ⟨y,hy,rfl⟩) hx
   obtain ⟨v',q1,q2⟩:=buildV_ok hE hp e
   refine ⟨v',fun w=>?_,q2⟩
   have hq:=q1 w
   have harr:(⟨ps.toList.map fun (i,x)=>(i,a.eval x)⟩:Array (Nat×Value))=ps.map fun (i,x)=>(i,a.eval x):=by
    apply Array.ext';simp
   rw [harr] at hq
   simp only [execOp,ho,Sem.run_bind,hq,Result.andThen_ok,Sem.run_pure]
 ·
  rename_i t x f ho
  cases hx:opnd T x with
  | none=>rw [hx] at e;simp [pField] at e
  | some u=>
   rw [hx] at e
   obtain ⟨v',q1,q2⟩:=pField_ok hE (opnd_ok h (by rw [ho];simp [Op.operands]) hx) e
   exact ⟨v',fun w=>by simp only [execOp,ho,Sem.run_bind,q1 w,Result.andThen_ok,Sem.run_pure],q2⟩
 ·
  rename_i t x i ho
  cases hx:opnd T x with
  | none=>rw [hx] at e;simp [pIndex] at e
  | some u=>
   cases hi:opnd T i with
   | none=>rw [hx,hi] at e;simp [pIndex] at e
   | some j=>
    rw [hx,hi] at e
    obtain ⟨v',q1,q2⟩:=pIndex_ok hE (opnd_ok h (by rw [ho];simp [Op.operands]) hx) (opnd_ok h (by rw [ho];simp [Op.operands]) hi) e
    exact ⟨v',fun w=>by simp only [execOp,ho,Sem.run_bind,q1 w,Result.andThen_ok,Sem.run_pure],q2⟩
 ·
  rename_i t x f ho
  cases hx:opnd T x with
  | none=>rw [hx] at e;simp [pFieldAddr] at e
  | some u=>
   rw [hx] at e
   obtain ⟨v',q1,q2⟩:=fieldAddrV_ok hE (opnd_ok h (by rw [ho];simp [Op.operands]) hx) e
   exact ⟨v',fun w=>by simp only [execOp,ho,Sem.run_bind,q1 w,Result.andThen_ok,Sem.run_pure],q2⟩
 ·
  rename_i t x i ho
  cases hx:opnd T x with
  | none=>rw [hx] at e;simp [pIndexAddr] at e
  | some u=>
   cases hi:opnd T i with
   | none=>rw [hx,hi] at e;simp [pIndexAddr] at e
   | some j=>
    rw [hx,hi] at e
    obtain ⟨v',q1,q2⟩:=indexAddrV_ok hE (opnd_ok h (by rw [ho];simp [Op.operands]) hx) (opnd_ok h (by rw [ho];simp [Op.operands]) hi) e
    exact ⟨v',fun w=>by simp only [execOp,ho,Sem.run_bind,q1 w,Result.andThen_ok,Sem.run_pure],q2⟩
 ·
  rename_i t x lo hi mx ho
  unfold pSlice at e
  cases hc:flatOperand T x with
  | true=>rw [hc] at e;exact pureFlat_ok h rfl e
  | false=>
   rw [hc] at e
   simp only [cond_false] at e
   cases hc2:(mx.isSome&&hi.isNone) with
   | true=>rw [hc2] at e;cases e
   | false=>
   rw [hc2] at e
   simp only [cond_false] at e
   unfold pSlice2 at e
   split at e
   rotate_left
   ·cases e
   rename_i u l1 l2 l3 e1 e2 e3 e4
   have mem:∀ y,(y=x\/lo=some y\/hi=some y\/mx=some y)->y∈o.op.operands.toList:=by
    intro y hy
    rw [ho]
    simp only [Op.operands,Array.toList_append,List.mem_append,Option.toList_toArray]
    rcases hy with rfl|rfl|rfl|rfl <;> simp
   have h1:=optOpnd h (x:=lo) (fun y hy=>mem y (.inr (.inl hy))) e2
   have h2:=optOpnd h (x:=hi) (fun y hy=>mem y (.inr (.inr (.inl hy)))) e3
   have h3:=optOpnd h (x:=mx) (fun y hy=>mem y (.inr (.inr (.inr hy)))) e4
   have hmh:l3.head?≠none->l2.head?≠none:=by
    cases mx with
    | none=>intro h';generalize l3.head?=q at h3 h';cases h3;exact absurd rfl h'
    | some m=>
     cases hi with
     | none=>simp at hc2
     | some k=>intro _;generalize l2.head?=q at h2;cases h2;simp
   obtain ⟨v',q1,q2⟩:=sliceV_ok hE (opnd_ok h (mem x (.inl rfl)) e1) h1 h2 h3 hmh e
   exact ⟨v',fun w=>by simp only [execOp,ho,Sem.run_bind,q1 w,Result.andThen_ok,Sem.run_pure],q2⟩
 ·
  rename_i fn fs cs ho
  unfold pMakeFunc at e
  split at e
  rotate_left
  ·cases e
  rename_i f p q e1 e2
  cases e
  have h1:=opnds_ok h (ys:=fs.toList) (fun y hy=>by rw [ho];simp only [Op.operands,Array.toList_append,List.mem_append];exact .inl hy) e1
  have h2:=opnds_ok h (ys:=cs.toList) (fun y hy=>by rw [ho];simp only [Op.operands,Array.toList_append,List.mem_append];exact .inr hy) e2
  refine ⟨.func (.func f) (fs.map a.eval) (cs.map a.eval),fun w=>?_,.func f (by simpa using h1) (by simpa using h2)⟩
  simp [execOp,ho,Instr.makeFunc]
 ·cases e
end Go.AM
namespace Go.AM
open Go Go.RowKit
variable {E:Env} (hE:EnvOK E) {σ:Sg} {T:Tm} {a:Act} {xs:List Operand}
theorem allIntV_spec:∀ {l:List Value},allIntV l=true->∀ v∈l,∃ k n,v=.int k n
 | [],_,v,hv=>by cases hv
 | x::l,h,v,hv=>by
  cases x <;> simp only [allIntV,Bool.false_eq_true] at h
  rcases List.mem_cons.1 hv with rfl|hv
  ·exact ⟨_,_,rfl⟩
  ·exact allIntV_spec h v hv
theorem run_checkKey_loop {P:Program} {e:TypeId} {kd:IntKind} (he:P.underlying e=some (.int kd)) {info:TypeInfo} (hi:P.info? e=some info) (h1:info.size=1) (em:Bool) (n:Nat) (cs:Array Value) :
  ∀ (len o:Nat),o+len<=cs.size->(∀ v∈cs.toList,∃ k n,v=.int k n)->∀ w:World,
   (forIn (List.range' o len) PUnit.unit fun i (_:PUnit)=>(do Instr.checkKey em (n+1) e (← part e cs (i*(← sizeOf e)));pure (ForInStep.yield PUnit.unit):Sem (ForInStep PUnit))).run P w=.ok PUnit.unit w
 | 0,o,_,_,w=>by simp
 | len+1,o,h,H,w=>by
  have ho:o<cs.size:=by omega
  obtain ⟨k,m,hkm⟩:=H cs[o] (by simp)
  have hagg:(isAgg e).run P w=.ok false w:=by unfold isAgg;rw [Sem.run_bind,run_underlying he];rfl
  have hsz:(sizeOf e).run P w=.ok 1 w:=by unfold sizeOf;rw [Sem.run_bind,run_typeInfo w hi];simp [h1]
  have hpart:(part e cs (o*1)).run P w=.ok (.int k m) w:=by
   unfold part
   simp only [Sem.run_bind,hagg,Result.andThen_ok,Bool.false_eq_true,if_false,Nat.mul_one]
   rw [Array.getElem?_eq_getElem ho,hkm];rfl
  have hck:(Instr.checkKey em (n+1) e (.int k m)).run P w=.ok () w:=by
   simp [Instr.checkKey,run_underlying he]
  simp only [List.range'_succ,List.forIn_cons,Sem.run_bind,hsz,Result.andThen_ok,hpart,hck,Sem.run_pure]
  exact run_checkKey_loop he hi h1 em n cs len (o+1) (by omega) H w
include hE in
theorem keyOk_ok {kt:TypeId} {k:Value} (h:keyOk E kt k=true):(∀ em w,(Instr.checkKey em 10000 kt k).run E.prog w=.ok () w)/\∀ k',VR σ k k'->k'=k:=by
 unfold keyOk at h
 split at h
 ·rename_i kd n
  split at h
  ·rename_i kd' hu
   refine ⟨fun em w=>?_,fun k' hk=>by cases hk;rfl⟩
   obtain ⟨d,hd⟩:∃ d,10000=d+1:=⟨9999,rfl⟩
   rw [hd]
   simp [Instr.checkKey,run_und hE hu]
  ·cases h
 ·rename_i cs
  split at h
  rotate_left
  ·cases h
  rename_i n e hu
  split at h
  rotate_left
  ·cases h
  rename_i kd he hs
  simp only [Bool.and_eq_true,beq_true,llen_eq] at h
  have hall:=allIntV_spec h.2
  refine ⟨fun em w=>?_,fun k' hk=>?_⟩
  ·obtain ⟨d,hd⟩:∃ d,10000=d+1+1:=⟨9998,rfl⟩
   rw [hd]
   obtain ⟨info,i1,i2⟩:=tsize_spec hE hs
   have hl:=run_checkKey_loop (und_spec hE he) i1 i2 em d cs n 0 (by have:=h.1;simp at this;omega) hall w
   rw [Instr.checkKey]
   simp only [Sem.run_bind,run_und hE hu,Result.andThen_ok]
   simp only [Std.Legacy.Range.forIn_eq_forIn_range',Std.Legacy.Range.size,Nat.sub_zero,Nat.add_one_sub_one,Nat.div_one]
   rw [hl];rfl
  ·cases hk with
   | agg hk=>rw [Array.toList_inj.1 (VRs.ints hk hall)]
 ·cases h
include hE in
theorem keyEq_ok {kt:TypeId} {k k':Value} {r:Bool} (h:keyEq E kt k k'=some r) (_hk:∃ kd,und E kt=some (.int kd)\/∃ n e,und E kt=some (.array n e)) :
  (∀ w,(Op.equal kt k k').run E.prog w=.ok r w)/\(∀ u,VR σ k' u->u=k') ∧
  (∀ kd,und E kt=some (.int kd)->Instr.sameNow (.int kd) k k'=some r)/\(∀ n e,und E kt=some (.array n e)->Instr.sameNow (.array n e) k k'=none):=by
 unfold keyEq at h
 split at h
 ·rename_i kk x l y
  split at h
  rotate_left
  ·cases h
  rename_i kd hu
  cases hq:keq kk l with
  | false=>rw [hq] at h;cases h
  | true=>
  rw [hq] at h
  obtain rfl:=keq_iff hq
  simp only [cond_true,Option.some.injEq] at h
  rw [ieq_iff] at h
  refine ⟨fun w=>?_,fun u hu'=>by cases hu';rfl,fun kd' hkd=>?_,fun n e he=>?_⟩
  ·unfold Op.equal
   obtain ⟨dd,hdd⟩:∃ dd,Op.maxDepth=dd+1:=⟨9999,rfl⟩
   rw [hdd]
   simp [Op.equalIn,run_und hE hu,h]
  ·simp [Instr.sameNow,h]
  ·rw [hu] at he;cases he
 ·rename_i c d
  split at h
  rotate_left
  ·cases h
  rename_i n e hu
  split at h
  rotate_left
  ·cases h
  rename_i kd he hs
  cases hq:Nat.beq (llen c.toList) n with
  | false=>rw [hq] at h;cases h
  | true=>
  rw [hq] at h
  simp only [cond_true] at h
  rw [beq_true,llen_eq] at hq
  obtain ⟨q1,q2,q3⟩:=allInts_flat h
  refine ⟨fun w=>run_equal_ints hE hu he hs h (by simpa using hq) w,fun u hu'=>?_,fun kd' hkd=>?_,fun n e he=>?_⟩
  ·cases hu' with
   | agg hu'=>rw [Array.toList_inj.1 (VRs.ints hu' q2)]
  ·rw [hu] at hkd;cases hkd
  ·rfl
 ·cases h
theorem findAsking_ok {P:Program} {kt:TypeId} {k:Value} {β:MapEntry->Bool}:∀ {L:List MapEntry} (i:Nat) (w:World),(∀ e∈L,∀ w,(Op.equal kt k e.key).run P w=.ok (β e) w)->
  ∃ r,(Instr.findAsking kt k L i).run P w=.ok r w/\(match r with|none=>∀ e∈L,β e=false|some (j,v)=>∃ e m,j=i+m/\L[m]?=some e/\β e=true/\v=e.val)
 | [],i,w,H=>⟨none,by simp [Instr.findAsking],by simp⟩
 | e::L,i,w,H=>by
  have h1:=H e (by simp) w
  cases hb:β e with
  | true=>
   refine ⟨some (i,e.val),?_,e,0,by omega,rfl,hb,rfl⟩
   simp [Instr.findAsking,h1,hb]
  | false=>
   obtain ⟨r,r1,r2⟩:=findAsking_ok (L:=L) (i+1) w fun e' he=>H e' (List.mem_cons_of_mem _ he)
   refine ⟨r,by simp [Instr.findAsking,h1,hb,r1],?_⟩
   cases r with
   | none=>
    intro e' he
    rcases List.mem_cons.1 he with rfl|he
    ·exact hb
    ·exact r2 e' he
   | some p=>
    obtain ⟨j,v⟩:=p
    obtain ⟨e',m,q1,q2,q3,q4⟩:=r2
    exact ⟨e',m+1,by omega,by simpa using q2,q3,q4⟩
theorem findNow_ok {d:TypeDesc} {k:Value} {β:MapEntry->Bool}:∀ {L:List MapEntry} (i:Nat),(∀ e∈L,Instr.sameNow d k e.key=some (β e))->
  ∃ r,Instr.findNow d k L i=some r/\(match r with|none=>∀ e∈L,β e=false|some (j,v)=>∃ e m,j=i+m/\L[m]?=some e/\β e=true/\v=e.val)
 | [],i,H=>⟨none,rfl,by simp⟩
 | e::L,i,H=>by
  have h1:=H e (by simp)
  cases hb:β e with
  | true=>
   rw [hb] at h1
   exact ⟨some (i,e.val),by simp [Instr.findNow,h1],e,0,by omega,rfl,hb,rfl⟩
  | false=>
   rw [hb] at h1
   obtain ⟨r,r1,r2⟩:=findNow_ok (L:=L) (i+1) fun e' he=>H e' (List.mem_cons_of_mem _ he)
   refine ⟨r,by simp [Instr.findNow,h1,r1],?_⟩
   cases r with
   | none=>
    intro e' he
    rcases List.mem_cons.1 he with rfl|he
    ·exact hb
    ·exact r2 e' he
   | some p=>
    obtain ⟨j,v⟩:=p
    obtain ⟨e',m,q1,q2,q3,q4⟩:=r2
    exact ⟨e',m+1,by omega,by simpa using q2,q3,q4⟩
theorem keyOk_type {kt:TypeId} {k:Value} (h:keyOk E kt k=true):(∃ kd,und E kt=some (.int kd))\/(∃ n e,und E kt=some (.array n e)):=by
 unfold keyOk at h
 split at h
 ·split at h
  ·rename_i kd hu;exact .inl ⟨_,hu⟩
  ·cases h
 ·split at h
  ·rename_i n e hu;exact .inr ⟨_,_,hu⟩
  ·cases h
 ·cases h
include hE in
theorem findKey_ok {kt:TypeId} {k:Value} (hk:keyOk E kt k=true) {β:MapEntry->Bool} {L:List MapEntry} (H:∀ e∈L,keyEq E kt k e.key=some (β e)) (w:World) :
  ∃ r,(Instr.findKey kt k L).run E.prog w=.ok r w/\(match r with|none=>∀ e∈L,β e=false|some (j,v)=>∃ e,L[j]?=some e/\β e=true/\v=e.val):=by
 have strip:∀ r:Option (Nat×Value),(match r with|none=>∀ e∈L,β e=false|some (j,v)=>∃ e m,j=0+m/\L[m]?=some e/\β e=true/\v=e.val)->
   (match r with|none=>∀ e∈L,β e=false|some (j,v)=>∃ e,L[j]?=some e/\β e=true/\v=e.val):=by
  intro r hr
  cases r with
  | none=>exact hr
  | some p=>obtain ⟨j,v⟩:=p;obtain ⟨e,m,q1,q2,q3,q4⟩:=hr;exact ⟨e,by rw [q1,Nat.zero_add];exact q2,q3,q4⟩
 rcases keyOk_type hk with ⟨kd,hu⟩|⟨n,e,hu⟩
 ·obtain ⟨r,r1,r2⟩:=findNow_ok (d:=.int kd) (k:=k) (β:=β) (L:=L) 0 fun e he=>(keyEq_ok (σ:=fun _=>none) hE (H e he) ⟨kd,.inl hu⟩).2.2.1 kd hu
  refine ⟨r,?_,strip r r2⟩
  unfold Instr.findKey
  simp [run_und hE hu,r1]
 ·cases L with
  | nil=>
   refine ⟨none,?_,by simp⟩
   unfold Instr.findKey
   simp [run_und hE hu,Instr.findNow]
  | cons x L=>
   obtain ⟨r,r1,r2⟩:=findAsking_ok (P:=E.prog) (kt:=kt) (k:=k) (β:=β) (L:=x::L) 0 w fun e he=>(keyEq_ok (σ:=fun _=>none) hE (H e he) ⟨.i64,.inr ⟨_,_,hu⟩⟩).1
   refine ⟨r,?_,strip r r2⟩
   have hs:=(keyEq_ok (σ:=fun _=>none) hE (H x (by simp)) ⟨.i64,.inr ⟨_,_,hu⟩⟩).2.2.2 n e hu
   unfold Instr.findKey
   simp [run_und hE hu,Instr.findNow,hs,r1]
theorem findEntry_spec {kt:TypeId} {k:Value}:∀ {es:List (Value×Value)} {r:Option Value},findEntry E kt k es=some r->
  (∀ p∈es,∃ b,keyEq E kt k p.1=some b)/\(r=none->∀ p∈es,keyEq E kt k p.1=some false)/\(∀ v,r=some v->(∃ p∈es,keyEq E kt k p.1=some true)/\∀ p∈es,keyEq E kt k p.1=some true->p.2=v)
 | [],r,h=>by simp only [findEntry,Option.some.injEq] at h;subst h;simp
 | (k',v)::es,r,h=>by
  simp only [findEntry] at h
  split at h
  ·rename_i h1 h2
   cases h
   obtain ⟨a1,a2,a3⟩:=findEntry_spec h2
   refine ⟨fun p hp=>?_,by simp,fun u hu=>?_⟩
   ·rcases List.mem_cons.1 hp with rfl|hp
    ·exact ⟨_,h1⟩
    ·exact a1 p hp
   ·cases hu
    refine ⟨⟨(k',v),by simp,h1⟩,fun p hp hpt=>?_⟩
    rcases List.mem_cons.1 hp with rfl|hp
    ·rfl
    ·rw [a2 rfl p hp] at hpt;cases hpt
  ·rename_i r' h1 h2
   cases h
   obtain ⟨a1,a2,a3⟩:=findEntry_spec h2
   refine ⟨fun p hp=>?_,fun hr p hp=>?_,fun u hu=>?_⟩
   ·rcases List.mem_cons.1 hp with rfl|hp
    ·exact ⟨_,h1⟩
    ·exact a1 p hp
   ·rcases List.mem_cons.1 hp with rfl|hp
    ·exact h1
    ·exact a2 hr p hp
   ·obtain ⟨⟨p,q1,q2⟩,q3⟩:=a3 u hu
    refine ⟨⟨p,by simp [q1],q2⟩,fun p hp hpt=>?_⟩
    rcases List.mem_cons.1 hp with rfl|hp
    ·rw [h1] at hpt;cases hpt
    ·exact q3 p hp hpt
  ·cases h
theorem EntsR.mem:∀ {es:List (Value×Value)} {L:List MapEntry},EntsR σ es L->∀ e∈L,∃ p∈es,VR σ p.1 e.key/\VR σ p.2 e.val
 | _,_,.nil,e,he=>by cases he
 | _,_,.cons hk hv h,e,he=>by
  rcases List.mem_cons.1 he with rfl|he
  ·exact ⟨(_,_),List.mem_cons_self ..,hk,hv⟩
  ·obtain ⟨p,q1,q2⟩:=EntsR.mem h e he
   exact ⟨p,by simp [q1],q2⟩
theorem EntsR.mem':∀ {es:List (Value×Value)} {L:List MapEntry},EntsR σ es L->∀ p∈es,∃ e∈L,VR σ p.1 e.key/\VR σ p.2 e.val
 | _,_,.nil,e,he=>by cases he
 | _,_,.cons hk hv h,p,hp=>by
  rcases List.mem_cons.1 hp with rfl|hp
  ·exact ⟨_,by simp,hk,hv⟩
  ·obtain ⟨e,q1,q2⟩:=EntsR.mem' h p hp
   exact ⟨e,by simp [q1],q2⟩
include hE in
theorem find_ok {kt:TypeId} {k:Value} (hk:keyOk E kt k=true) {es:List (Value×Value)} {ents:Array MapEntry} {clock:Nat} (hm:MapR σ es ents clock) {r:Option Value} (e:findEntry E kt k es=some r) (w:World) :
  ∃ r',(Instr.findKey kt k ents.toList).run E.prog w=.ok r' w/\(match r,r' with
   | none,none=>True
   | some v,some (i,v')=>VR σ v v'/\∃ x,ents[i]?=some x/\x.val=v'/\keyEq E kt k x.key=some true
   | _,_=>False):=by
 obtain ⟨a1,a2,a3⟩:=findEntry_spec e
 obtain ⟨p,hp,hpe⟩:=hm.perm
 have ht:∃ kd,und E kt=some (.int kd)\/∃ n e,und E kt=some (.array n e):=by
  rcases keyOk_type hk with ⟨kd,h⟩|h
  ·exact ⟨kd,.inl h⟩
  ·exact ⟨.i64,.inr h⟩
 have key:∀ x∈ents.toList,∃ q∈es,VR σ q.2 x.val/\keyEq E kt k x.key=keyEq E kt k q.1:=by
  intro x hx
  obtain ⟨q,q1,q2,q3⟩:=hpe.mem x (hp.mem_iff.2 hx)
  obtain ⟨b,hb⟩:=a1 q q1
  have:=(keyEq_ok (σ:=σ) hE hb ht).2.1 _ q2
  exact ⟨q,q1,q3,by rw [this]⟩
 obtain ⟨r',r1,r2⟩:=findKey_ok hE hk (β:=fun x=>(keyEq E kt k x.key).getD false) (L:=ents.toList) (fun x hx=>by
  obtain ⟨q,q1,q2,q3⟩:=key x hx
  obtain ⟨b,hb⟩:=a1 q q1
  rw [q3,hb];rfl) w
 refine ⟨r',r1,?_⟩
 cases r with
 | none=>
  cases r' with
  | none=>trivial
  | some pr=>
   obtain ⟨i,v'⟩:=pr
   obtain ⟨x,x1,x2,x3⟩:=r2
   obtain ⟨q,q1,q2,q3⟩:=key x (List.mem_of_getElem? x1)
   rw [q3,a2 rfl q q1] at x2
   cases x2
 | some v=>
  obtain ⟨⟨q0,q01,q02⟩,q03⟩:=a3 v rfl
  cases r' with
  | none=>
   obtain ⟨x,x1,x2,x3⟩:=hpe.mem' q0 q01
   have:=r2 x (hp.mem_iff.1 x1)
   have hx:=(keyEq_ok (σ:=σ) hE q02 ht).2.1 _ x2
   rw [hx,q02] at this
   cases this
  | some pr=>
   obtain ⟨i,v'⟩:=pr
   obtain ⟨x,x1,x2,x3⟩:=r2
   obtain ⟨q,q1,q2,q3⟩:=key x (List.mem_of_getElem? x1)
   obtain ⟨b,hb⟩:=a1 q q1
   rw [q3,hb] at x2
   simp only [Option.getD_some] at x2
   subst x2
   have:=q03 q q1 hb
   subst this
   exact ⟨by rw [x3];exact q2,x,by rw [Array.getElem?_toList] at x1;exact x1,x3.symm,by rw [q3,hb]⟩
theorem run_getObj {P:Program} {w:World} {k:Nat} {o:Obj} (h:w.heap[k]?=some o) (hc:∀ c e f,o≠.cells c e f):(getObj k).run P w=.ok o w:=by
 unfold getObj
 simp only [Sem.run,h]
 try (cases o <;> first|rfl|exact absurd rfl (hc _ _ _))
theorem run_setObj {P:Program} {w:World} {k:Nat} {o:Obj} (o':Obj) (h:w.heap[k]?=some o) (hc:∀ c e f,o≠.cells c e f):(setObj k o').run P w=.ok () (World.put w k o'):=by
 unfold setObj
 simp only [Sem.run,h]
 try (cases o <;> first|rfl|exact absurd rfl (hc _ _ _))
def lookupTail (et kt:TypeId) (k:Value) (ok:Bool) (ents:Array MapEntry):Sem Value:=do
 Instr.checkKey ents.isEmpty 10000 kt k
 let (v,ok') ← match ← Instr.findKey kt k ents.toList with
  | some (_,v)=>pure (v,true)
  | none=>pure (← zeroValue et,false)
 pure (if ok then .tuple #[v,.bool ok'] else v)
theorem okV_ok {v v':Value} (h:VR σ v v') (ok is:Bool):VR σ (okV ok v is) (if ok then .tuple #[v',.bool is] else v'):=by
 cases ok with
 | true=>exact .tuple (.cons h (.cons (.bool _) .nil))
 | false=>exact h
include hE in
theorem lookupTail_ok {kt et:TypeId} {k:Value} (hko:keyOk E kt k=true) {es:List (Value×Value)} {ents:Array MapEntry} {clock:Nat} (hm:MapR σ es ents clock) {ok:Bool} {v:Value}
  (e:foundV E et ok (findEntry E kt k es)=some v) (w:World):∃ v',(lookupTail et kt k ok ents).run E.prog w=.ok v' w/\VR σ v v':=by
 obtain ⟨ck,_⟩:=keyOk_ok (σ:=σ) hE hko
 unfold foundV at e
 split at e
 ·rename_i u hu
  cases e
  obtain ⟨r',r1,r2⟩:=find_ok hE hko hm hu w
  cases r' with
  | none=>exact r2.elim
  | some p=>
   obtain ⟨i,v'⟩:=p
   refine ⟨_,?_,okV_ok r2.1 ok true⟩
   unfold lookupTail
   simp [ck,r1]
 ·rename_i hu
  split at e
  rotate_left
  ·cases e
  rename_i z hz
  cases e
  obtain ⟨r',r1,r2⟩:=find_ok hE hko hm hu w
  cases r' with
  | some p=>exact r2.elim
  | none=>
   refine ⟨_,?_,okV_ok (VR.of_flat 4 z (zero_flat hE hz)) ok false⟩
   unfold lookupTail
   simp [ck,r1,run_zero hE hz]
 ·cases e
include hE in
theorem lookupV_ok {lo:Nat} {h:AH} {w:World} (H:HR lo σ h w) {t:TypeId} {x x' k k':Value} (hx:VR σ x x') (hk:VR σ k k') {ok:Bool} {v:Value} (e:lookupV E t x k ok h=some v) :
  ∃ v',(Instr.lookup t x' k' ok).run E.prog w=.ok v' w/\VR σ v v':=by
 unfold lookupV at e
 split at e
 rotate_left
 ·cases e
 rename_i kt et es hke hes
 cases hko:keyOk E kt k with
 | false=>rw [hko] at e;cases e
 | true=>
 rw [hko] at e
 simp only [cond_true] at e
 obtain ⟨ck,hk'⟩:=keyOk_ok (σ:=σ) hE hko
 have:=hk' _ hk
 subst this
 have hu:und E t=some (.map kt et):=by
  unfold mapKE at hke
  split at hke
  ·rename_i k0 e0 h0;cases hke;exact h0
  ·cases hke
 have core:∀ (ents:Array MapEntry) (clock:Nat),MapR σ es ents clock->(Instr.lookup t x' k' ok).run E.prog w=(lookupTail et kt k' ok ents).run E.prog w->
   ∃ v',(Instr.lookup t x' k' ok).run E.prog w=.ok v' w/\VR σ v v':=by
  intro ents clock hm hr
  obtain ⟨v',q1,q2⟩:=lookupTail_ok hE hko hm e w
  exact ⟨v',hr.trans q1,q2⟩
 unfold entriesOf at hes
 split at hes
 ·cases hes;cases hx
  refine core #[] 0 ⟨by simp,by simp,[],by simp,.nil⟩ ?_
  unfold Instr.lookup lookupTail
  simp only [Sem.run_bind,run_und hE hu,Result.andThen_ok,Sem.run_pure]
  rfl
 ·rename_i b
  split at hes
  rotate_left
  ·cases hes
  rename_i es0 ver hb
  cases hes
  cases hx with
  | map hσ=>
  obtain ⟨l,a1,⟨ents,clock,m1,m2⟩,_⟩:=H.live b _ hb
  rw [hσ] at a1;cases a1
  refine core ents clock m2 ?_
  unfold Instr.lookup lookupTail
  simp only [Sem.run_bind,run_und hE hu,Result.andThen_ok,run_getObj m1 (by intros;intro h;cases h),Sem.run_pure]
  rfl
 ·cases hes
theorem entryV_ok {P:Program} {lo:Nat} {h:AH} {w:World} (H:HR lo σ h w) {x x':Value} (hx:VR σ x x') {v:Value} (e:entryV x h=some v) :
  ∃ v',(Instr.entry x').run P w=.ok v' w/\VR σ v v':=by
 unfold entryV at e
 split at e
 rotate_left
 ·cases e
 rename_i b
 split at e
 rotate_left
 ·cases e
 rename_i m ver left c hb
 split at e
 rotate_left
 ·cases e
 rename_i es ver' hm
 split at e
 rotate_left
 ·cases e
 rename_i hv
 cases e
 rw [beq_true] at hv
 subst hv
 cases hx with
 | ptr o hσ=>
 rename_i l
 obtain ⟨l',a1,a2,_⟩:=H.live b _ hb
 rw [hσ] at a1;cases a1
 obtain ⟨lm,since,seen,last,b1,⟨b2,b0⟩,b3⟩:=a2
 obtain ⟨c1,c2⟩:=b3 es ver hm
 obtain ⟨ents,d1,d2,d3⟩:=c2 rfl
 obtain ⟨l2,f1,⟨ents2,clock,f2,f3⟩,_⟩:=H.live m _ hm
 rw [b1] at f1;cases f1
 rw [d1] at f2;cases f2
 obtain ⟨x,x1,x2,x3,x4⟩:=d3.cur _ rfl
 subst d2
 rw [b0]
 have hfind:ents.find? (·.born==x.born)=some x:=by
  have hnd:=f3.nodup
  rw [← Array.find?_toList]
  have:∀ (L:List MapEntry),(L.map (·.born)).Nodup->x∈L->L.find? (·.born==x.born)=some x:=by
   intro L
   induction L with
   | nil=>intro _ h;cases h
   | cons y L ih=>
    intro hn hx
    simp only [List.map_cons,List.nodup_cons] at hn
    rcases List.mem_cons.1 hx with rfl|hx
    ·simp
    ·have hne:¬ y.born=x.born:=by
      intro e;exact hn.1 (e ▸ List.mem_map.2 ⟨x,hx,rfl⟩)
     rw [List.find?_cons_of_neg (by simpa using hne)]
     exact ih hn.2 hx
  exact this _ hnd x1
 refine ⟨.tuple #[x.key,x.val],?_,.tuple (.cons x3 (.cons x4 .nil))⟩
 unfold Instr.entry
 simp [run_getObj b2 (by intros;intro h;cases h),run_getObj d1 (by intros;intro h;cases h),x2,hfind]
end Go.AM
namespace Go.AM
open Go Go.RowKit
variable {E:Env} (hE:EnvOK E) {σ:Sg} {T:Tm} {a:Act} {xs:List Operand}
theorem shape_of_row {w:World} {k:Nat} {cs:Array Value} {el:TypeId} {frz:Nat×Nat} (h:w.heap[k]?=some (.cells cs el frz)):w.shape? k=some (el,cs.size):=by
 simp [World.shape?,h]
theorem run_viewAt {P:Program} {w:World} {k:Nat} {cs:Array Value} {el:TypeId} {frz:Nat×Nat} (h:w.heap[k]?=some (.cells cs el frz)):(viewAt k).run P w=.ok none w:=by
 unfold viewAt
 simp [shape_of_row h]
theorem run_seenAt {P:Program} {w:World} {ad:Addr} {cs:Array Value} {el:TypeId} {frz:Nat×Nat} (h:w.heap[ad.block]?=some (.cells cs el frz)):(Conv.seenAt ad).run P w=.ok ad w:=by
 unfold Conv.seenAt
 simp [run_viewAt h]
theorem run_cellsIn {P:Program} {w:World} {k:Nat} {cs:Array Value} {el:TypeId} {frz:Nat×Nat} (h:w.heap[k]?=some (.cells cs el frz)):(cellsIn k).run P w=.ok (some cs.size) w:=by
 unfold cellsIn
 simp [shape_of_row h]
include hE in
theorem convPtr_ok {lo:Nat} {h:AH} {w:World} (H:HR lo σ h w) {src dst:TypeId} {x x':Value} (hx:VR σ x x') {v:Value} (e:convPtr E src dst (some x) h=some v) :
  (convert src dst x').run E.prog w=.ok x' w/\VR σ v x':=by
 unfold convPtr at e
 split at e
 ·rename_i t b o h1 h2 h3
  cases h3
  split at e
  rotate_left
  ·cases e
  rename_i vs ty s hb hs
  cases hx with
  | ptr o hσ=>
  rename_i l
  cases hc:(Nat.beq s 0||Nat.ble (llen vs) o) with
  | true=>rw [hc] at e;cases e
  | false=>
  rw [hc] at e
  simp only [cond_false,Option.some.injEq] at e
  subst e
  simp only [Bool.or_eq_false_iff,ble_false,llen_eq] at hc
  have hs0:s≠0:=by intro e;subst e;simp at hc
  obtain ⟨l',a1,⟨cs,el,frz,r1,r2⟩,_⟩:=H.live b _ hb
  rw [hσ] at a1;cases a1
  obtain ⟨f1,f2⟩:=r2.fixed rfl rfl
  have f3:=r2.elt
  refine ⟨?_,.ptr o hσ⟩
  unfold convert
  simp only [Sem.run_bind,run_und hE h1,run_und hE h2,Result.andThen_ok]
  unfold Conv.unsafePointer
  have hseen:(Conv.seenAt ⟨l.blk,l.base+o,none⟩).run E.prog w=.ok ⟨l.blk,l.base+o,none⟩ w:=run_seenAt r1
  have hlt:l.base+o<cs.size:=by omega
  simp only [Sem.run_bind,run_und hE h1,run_und hE h2,Result.andThen_ok,hseen,run_cellsIn r1,run_sizeOf' hE hs]
  rw [Sem.run_ite,if_neg]
  ·rfl
  ·simp [hs0];omega
 ·rename_i u b o h1 h2 h3
  cases h3
  split at e
  rotate_left
  ·cases e
  rename_i vs ty su hb hsu
  cases hx with
  | ptr o hσ=>
  rename_i l
  cases hc:liesAt E.prog E.prog.depth ty (llen vs / E.prog.cellsOf ty) o u 1 with
  | false=>rw [hc] at e;cases e
  | true=>
  rw [hc] at e
  simp only [cond_true,Option.some.injEq] at e
  subst e
  obtain ⟨l',a1,⟨cs,el,frz,r1,r2⟩,_⟩:=H.live b _ hb
  rw [hσ] at a1;cases a1
  obtain ⟨f1,f2⟩:=r2.fixed rfl rfl
  have f3:=r2.elt
  refine ⟨?_,.ptr o hσ⟩
  have hlies:liesAt E.prog E.prog.depth el (cs.size / E.prog.cellsOf el) (l.base+o) u 1=true:=by
   rw [f1,f2,f3,Nat.zero_add,← llen_eq];exact hc
  unfold convert
  simp only [Sem.run_bind,run_und hE h1,run_und hE h2,Result.andThen_ok]
  have hseen:(Conv.seenAt ⟨l.blk,l.base+o,none⟩).run E.prog w=.ok ⟨l.blk,l.base+o,none⟩ w:=run_seenAt r1
  have hvar:(variablesAt ⟨l.blk,l.base+o,none⟩ u 1).run E.prog w=.ok true w:=by
   unfold variablesAt
   simp [shape_of_row r1,hlies]
  unfold Conv.unsafePointer
  simp only [Sem.run_bind,run_und hE h1,run_und hE h2,Result.andThen_ok,hseen,hvar,run_sizeOf' hE hsu,Sem.run_pure,Bool.or_true,if_true]
 ·cases e
theorem run_sliceData {P:Program} (ts:Array TypeId) (ty:TypeId) (ad:Addr) (n c:Nat) (h:c≠0) (w:World) :
  (Builtin.unsafeSliceData_ ts ty #[.slice (some ad) n c]).run P w=.ok (.pointer (some ad)) w:=by
 show (if c≠0 then (pure (.pointer (some ad)):Sem Value) else _).run P w=_
 rw [Sem.run_ite,if_pos h];rfl
theorem exec_builtin {o:Oper} {c:Call} {b:Builtin} (ho:o.op=.call c) (hb:c.callee=.builtin b) (ρ:Operand->Value) :
  execOp ρ o=builtin b c.argTypes o.type (c.args.map fun | .const _=>true|_=>false) (c.args.map ρ):=by
 simp only [execOp,ho,resolve,hb,pure_bind]
 rfl
include hE in
theorem rBuiltin_ok {lo:Nat} {h:AH} {w:World} (H:HR lo σ h w) {o:Oper} {c:Call} {b:Builtin} (ho:o.op=.call c) (hb:c.callee=.builtin b) (hT:OpsR σ T a o.op.operands.toList)
  {vs:List Value} (hvs:opnds T c.args.toList=some vs) {v:Value} (e:rBuiltin E b c o vs T h=some v):∃ v',(execOp a.eval o).run E.prog w=.ok (.value v') w/\VR σ v v':=by
 have hargs:=opnds_ok hT (ys:=c.args.toList) (fun y hy=>by rw [ho];simp only [Op.operands,Call.operands,hb,Array.toList_append,List.mem_append];exact .inr hy) hvs
 unfold rBuiltin at e
 cases hf:allFlat vs with
 | true=>
  rw [hf] at e
  obtain ⟨v',q1,q2⟩:=pureFlat_ok hT rfl e
  exact ⟨v',q1 w,q2⟩
 | false=>
 rw [hf] at e
 clear hf
 simp only at e
 rw [exec_builtin ho hb]
 have harr:(c.args.map a.eval).toList=c.args.toList.map a.eval:=by simp
 generalize hA:c.args.map a.eval=A at harr ⊢
 rw [← harr] at hargs
 have ty0:∀ d,und1 E c.argTypes.toList=some d->∃ t,c.argTypes[0]?=some t/\und E t=some d:=by
  intro d hd
  unfold und1 at hd
  split at hd
  ·rename_i t ts hts
   exact ⟨t,by rw [← Array.getElem?_toList,hts];rfl,hd⟩
  ·cases hd
 split at e
 ·
  unfold rLen at e
  split at e
  ·rename_i el ad n cp hd
   cases e
   obtain ⟨t,t1,t2⟩:=ty0 _ hd
   generalize hL:A.toList=L at hargs
   cases hargs with
   | cons h1 h2=>
   cases h2
   rename_i u
   have hA0:A[0]?=some u:=by rw [← Array.getElem?_toList,hL];rfl
   have hu:∃ ad' cp',u=.slice ad' n cp':=by cases h1 <;> exact ⟨_,_,rfl⟩
   obtain ⟨ad',cp',rfl⟩:=hu
   refine ⟨_,?_,.int _ _⟩
   simp [builtin,Builtin.len_,t1,hA0,run_und hE t2,goInt]
  ·rename_i k el hd
   cases e
   obtain ⟨t,t1,t2⟩:=ty0 _ hd
   generalize hL:A.toList=L at hargs
   cases hargs with
   | cons h1 h2=>
   cases h2
   rename_i u
   have hA0:A[0]?=some u:=by rw [← Array.getElem?_toList,hL];rfl
   cases h1
   refine ⟨_,?_,.int _ _⟩
   simp [builtin,Builtin.len_,t1,hA0,run_und hE t2,goInt]
  ·rename_i k el m hd
   split at e
   rotate_left
   ·cases e
   rename_i es ver hm
   cases e
   obtain ⟨t,t1,t2⟩:=ty0 _ hd
   generalize hL:A.toList=L at hargs
   cases hargs with
   | cons h1 h2=>
   cases h2
   rename_i u
   have hA0:A[0]?=some u:=by rw [← Array.getElem?_toList,hL];rfl
   cases h1 with
   | map hσ=>
   obtain ⟨l',a1,⟨ents,clock,m1,m2⟩,_⟩:=H.live m _ hm
   rw [hσ] at a1;cases a1
   have hlen:llen es=ents.size:=by
    obtain ⟨p,p1,p2⟩:=m2.perm
    have hl:∀ {es:List (Value×Value)} {L:List MapEntry},EntsR σ es L->es.length=L.length:=by
     intro es L hE
     induction hE with
     | nil=>rfl
     | cons _ _ _ ih=>simp [ih]
    rw [llen_eq,hl p2,p1.length_eq];simp
   refine ⟨.int .i64 (ents.size:Int),?_,by rw [hlen];exact .int _ _⟩
   simp [builtin,Builtin.len_,t1,hA0,run_und hE t2,goInt,run_getObj m1 (by intros;intro h;cases h)]
  ·cases e
 ·
  unfold rCap at e
  split at e
  ·rename_i el ad n cp hd
   cases hc:Nat.ble UNK cp with
   | true=>rw [hc] at e;cases e
   | false=>
   rw [hc] at e
   simp only [cond_false,Option.some.injEq] at e
   subst e
   rw [ble_false] at hc
   obtain ⟨t,t1,t2⟩:=ty0 _ hd
   generalize hL:A.toList=L at hargs
   cases hargs with
   | cons h1 h2=>
   cases h2
   rename_i u
   have hA0:A[0]?=some u:=by rw [← Array.getElem?_toList,hL];rfl
   have hu:∃ ad',u=.slice ad' n cp:=by
    cases h1 with
    | sliceN=>exact ⟨_,rfl⟩
    | slice=>exact ⟨_,rfl⟩
    | sliceS=>exact ⟨_,rfl⟩
    | sliceU=>omega
   obtain ⟨ad',rfl⟩:=hu
   refine ⟨_,?_,.int _ _⟩
   simp [builtin,Builtin.cap_,t1,hA0,run_und hE t2,goInt]
  ·cases e
 ·
  unfold rData at e
  split at e
  ·rename_i ad n cp
   cases hc:(Nat.beq n 0||Nat.beq cp 0) with
   | true=>rw [hc] at e;cases e
   | false=>
   rw [hc] at e
   simp only [cond_false,Option.some.injEq] at e
   subst e
   simp only [Bool.or_eq_false_iff] at hc
   have hn0:n≠0:=by intro e;subst e;simp at hc
   have hc0:cp≠0:=by intro e;subst e;simp at hc
   generalize hL:A.toList=L at hargs
   cases hargs with
   | cons h1 h2=>
   cases h2
   rename_i u
   have hA0:A=#[u]:=by apply Array.ext';rw [hL]
   cases h1 with
   | slice o n c hσ hcU=>
    refine ⟨_,?_,.ptr o hσ⟩
    simp only [builtin,hA0,Sem.run_bind,run_sliceData _ _ _ _ _ hc0,Result.andThen_ok,Sem.run_pure]
   | sliceS a=>exact absurd rfl hn0
   | sliceU o n c hσ hcU hn=>
    refine ⟨_,?_,.ptr o hσ⟩
    have:c≠0:=by omega
    simp only [builtin,hA0,Sem.run_bind,run_sliceData _ _ _ _ _ this,Result.andThen_ok,Sem.run_pure]
  ·cases e
 ·cases e
include hE in
theorem evRead_ok {lo:Nat} {h:AH} {w:World} (H:HR lo σ h w) {o:Oper} (hT:OpsR σ T a o.op.operands.toList) {v:Value} (e:evRead E T o h=some v) :
  ∃ v',(execOp a.eval o).run E.prog w=.ok (.value v') w/\VR σ v v':=by
 unfold evRead at e
 split at e
 ·
  rename_i t x ho
  cases hx:opnd T x with
  | none=>rw [hx] at e;simp [rLoad] at e
  | some u=>
   rw [hx] at e
   obtain ⟨v',q1,q2⟩:=loadV_ok hE H (opnd_ok hT (by rw [ho];simp [Op.operands]) hx) e
   exact ⟨v',by simp only [execOp,ho,Sem.run_bind,q1,Result.andThen_ok,Sem.run_pure],q2⟩
 ·
  rename_i src dst x ho
  unfold rConv at e
  cases hc:flatOperand T x with
  | true=>
   rw [hc] at e
   obtain ⟨v',q1,q2⟩:=pureFlat_ok hT rfl e
   exact ⟨v',q1 w,q2⟩
  | false=>
   rw [hc] at e
   simp only [cond_false] at e
   cases hx:opnd T x with
   | none=>rw [hx] at e;simp [convPtr] at e
   | some u=>
    rw [hx] at e
    obtain ⟨q1,q2⟩:=convPtr_ok hE H (opnd_ok hT (by rw [ho];simp [Op.operands]) hx) e
    exact ⟨_,by simp only [execOp,ho,Sem.run_bind,q1,Result.andThen_ok,Sem.run_pure],q2⟩
 ·
  rename_i t x k ok ho
  unfold rLookup at e
  split at e
  rotate_left
  ·cases e
  rename_i u1 u2 e1 e2
  obtain ⟨v',q1,q2⟩:=lookupV_ok hE H (opnd_ok hT (by rw [ho];simp [Op.operands]) e1) (opnd_ok hT (by rw [ho];simp [Op.operands]) e2) e
  exact ⟨v',by simp only [execOp,ho,Sem.run_bind,q1,Result.andThen_ok,Sem.run_pure],q2⟩
 ·
  rename_i x ho
  unfold rEntry at e
  split at e
  rotate_left
  ·cases e
  rename_i u e1
  obtain ⟨v',q1,q2⟩:=entryV_ok (P:=E.prog) H (opnd_ok hT (by rw [ho];simp [Op.operands]) e1) e
  exact ⟨v',by simp only [execOp,ho,Sem.run_bind,q1,Result.andThen_ok,Sem.run_pure],q2⟩
 ·
  rename_i c ho
  split at e
  rotate_left
  ·cases e
  rename_i b hb
  split at e
  rotate_left
  ·cases e
  rename_i vs hvs
  exact rBuiltin_ok hE H ho hb hT hvs e
 ·cases e
end Go.AM
namespace Go.AM
open Go Go.RowKit
variable {E:Env} (hE:EnvOK E) {σ:Sg} {T:Tm} {a:Act} {xs:List Operand} {lo:Nat} {h:AH} {w:World}
def Done (P:Program) (lo:Nat) (σ:Sg) (o:Oper) (a:Act) (w:World) (outs:List (Value×AH)):Prop:=
 ∃ x∈outs,∃ nx v' w' τ,(execOp a.eval o).run P w=.ok nx w'/\(nx=.value v'\/(nx=.skip/\v'=undef))/\Sg.le σ τ/\HR lo τ x.2 w'/\VR τ x.1 v'/\Below lo w w'
theorem Done.one {P:Program} {o:Oper} {v:Value} {h':AH} {nx:Next} {v':Value} {w':World} {τ:Sg} (r:(execOp a.eval o).run P w=.ok nx w') (hn:nx=.value v'\/(nx=.skip/\v'=undef))
  (le:Sg.le σ τ) (H:HR lo τ h' w') (hv:VR τ v v') (hb:Below lo w w'):Done P lo σ o a w [(v,h')]:=
 ⟨(v,h'),by simp,nx,v',w',τ,r,hn,le,H,hv,hb⟩
theorem newRow_ok (H:HR lo σ h w) {vs:List Value} {cs:Array Value} (hv:VRs σ vs cs.toList) (ty es tot:Nat) (hes:es≠0->cs.size=tot) (hfix:vs.length<=cs.size) :
  HR lo (σ.ext h.next ⟨w.heap.size,0,tot,es⟩) (h.new (.row vs ty es false)) (w.alloc (.cells cs ty))/\Sg.le σ (σ.ext h.next ⟨w.heap.size,0,tot,es⟩)/\Below lo w (w.alloc (.cells cs ty)):=by
 have le:Sg.le σ (σ.ext h.next ⟨w.heap.size,0,tot,es⟩):=Sg.le_ext H.free
 refine ⟨H.new _ _ _ rfl ?_,le,below_add w _ H.lo⟩
 refine ⟨cs,ty,(0,0),by rw [heap_alloc,if_pos rfl],?_,?_,fun _=>rfl,rfl,?_,?_⟩
 ·simpa using hfix
 ·intro i v hi
  obtain ⟨b,q1,q2⟩:=hv.get hi
  exact ⟨b,by simpa using q1,q2.mono le⟩
 ·intro _ _;exact ⟨rfl,by have:=hv.length;simpa using this.symm⟩
 ·intro e;exact ⟨rfl,by simpa using hes e⟩
include hE in
theorem wAlloc_ok (H:HR lo σ h w) {o:Oper} {t:TypeId} (ho:o.op=.alloc t) {outs:List (Value×AH)} (e:wNewRow t h (zeroV E t)=some outs):Done E.prog lo σ o a w outs:=by
 unfold wNewRow at e
 split at e
 rotate_left
 ·cases e
 rename_i z hz
 cases e
 have hzr:VR σ z z:=VR.of_flat 4 z (zero_flat hE hz)
 obtain ⟨q1,q2,q3⟩:=newRow_ok H hzr.cells t 0 0 (by simp) (Nat.le_of_eq (hzr.cells.length.trans Array.length_toList))
 refine Done.one (nx:=.value (.pointer (some ⟨w.heap.size,0,none⟩))) ?_ (.inl rfl) q2 q1 (.ptr (l:=⟨w.heap.size,0,0,0⟩) 0 (Sg.ext_self ..)) q3
 simp [execOp,ho,Instr.alloc,run_zero hE hz,newVar,Go.newRow]
theorem wBox_ok {P:Program} (H:HR lo σ h w) {o:Oper} {t:TypeId} {x:Operand} (ho:o.op=.box t x) (hT:OpsR σ T a o.op.operands.toList) {outs:List (Value×AH)} (e:wNewRow t h (opnd T x)=some outs):Done P lo σ o a w outs:=by
 unfold wNewRow at e
 split at e
 rotate_left
 ·cases e
 rename_i z hz
 cases e
 have hzr:VR σ z (a.eval x):=opnd_ok hT (by rw [ho];simp [Op.operands]) hz
 obtain ⟨q1,q2,q3⟩:=newRow_ok H hzr.cells t 0 0 (by simp) (Nat.le_of_eq (hzr.cells.length.trans Array.length_toList))
 refine Done.one (nx:=.value (.pointer (some ⟨w.heap.size,0,none⟩))) ?_ (.inl rfl) q2 q1 (.ptr (l:=⟨w.heap.size,0,0,0⟩) 0 (Sg.ext_self ..)) q3
 simp [execOp,ho,Instr.box,newVar,Go.newRow]
include hE in
theorem wStore_ok (H:HR lo σ h w) {o:Oper} {t:TypeId} {x y:Operand} (ho:o.op=.store t x y) (hT:OpsR σ T a o.op.operands.toList) {outs:List (Value×AH)} (e:wStore E t h (opnd T x) (opnd T y)=some outs):Done E.prog lo σ o a w outs:=by
 unfold wStore at e
 split at e
 rotate_left
 ·cases e
 rename_i u v hu hv
 unfold u1 at e
 split at e
 rotate_left
 ·cases e
 rename_i h' hh
 cases e
 obtain ⟨w',q1,q2,q3⟩:=storeV_ok hE H (opnd_ok hT (by rw [ho];simp [Op.operands]) hu) (opnd_ok hT (by rw [ho];simp [Op.operands]) hv) hh
 refine Done.one (nx:=.skip) ?_ (.inr ⟨rfl,rfl⟩) (Sg.le_refl σ) q2 (.tuple .nil) q3
 simp only [execOp,ho,Sem.run_bind,q1,Result.andThen_ok,Sem.run_pure]
theorem rep_get {α:Type}:∀ (n:Nat) (l:List α) (k:Nat),k<n*l.length->(rep n l)[k]?=l[k % l.length]?
 | 0,l,k,h=>by simp at h
 | n+1,l,k,h=>by
  simp only [rep]
  by_cases hk:k<l.length
  ·rw [List.getElem?_append_left hk,Nat.mod_eq_of_lt hk]
  ·have hm:(n+1)*l.length=n*l.length+l.length:=Nat.succ_mul n l.length
   rw [List.getElem?_append_right (by omega),rep_get n l _ (by omega),← Nat.mod_eq_sub_mod (by omega)]
theorem rep_length {α:Type}:∀ (n:Nat) (l:List α),(rep n l).length=n*l.length
 | 0,l=>by simp [rep]
 | n+1,l=>by simp [rep,rep_length n l,Nat.succ_mul];omega
theorem cellsOf_eq (z:Value):cellsOfV z=z.cells.toList:=by cases z <;> rfl
theorem zeros_eq {z:Value} {size:Nat} (hz:(cellsOfV z).length=size) (n:Nat) (h0:n*size≠0):((Array.range (n*size)).map (z.cells[· % z.cells.size]!)).toList=rep n (cellsOfV z):=by
 have hc:=cellsOf_eq z
 have hsz:z.cells.size=size:=by rw [← hz,hc];simp
 apply List.ext_getElem?
 intro k
 by_cases hk:k<n*size
 ·rw [rep_get n _ k (by rw [hz];exact hk),hz]
  have hm:k % size<size:=Nat.mod_lt _ (Nat.pos_of_ne_zero (fun e=>h0 (by rw [e,Nat.mul_zero])))
  simp only [Array.toList_map,List.getElem?_map,Array.toList_range,List.getElem?_range hk,Option.map_some,hsz]
  rw [getElem!_pos z.cells (k % size) (by omega),hc,Array.getElem?_toList,Array.getElem?_eq_getElem (by omega)]
 ·rw [List.getElem?_eq_none (by simp;omega),List.getElem?_eq_none (by rw [rep_length,hz];omega)]
theorem VRs.rep {l l':List Value} (h:VRs σ l l'):∀ n,VRs σ (AM.rep n l) (AM.rep n l')
 | 0=>.nil
 | n+1=>h.append (VRs.rep h n)
include hE in
theorem wBuildSlice_ok (H:HR lo σ h w) {o:Oper} {t:TypeId} {len:Nat} {ps:Array (Nat×Operand)} (ho:o.op=.buildSlice t len ps) (hT:OpsR σ T a o.op.operands.toList) {outs:List (Value×AH)}
  (e:wBuildSlice E t len (parts T ps.toList) h=some outs):Done E.prog lo σ o a w outs:=by
 unfold wBuildSlice at e
 split at e
 rotate_left
 ·cases e
 rename_i vs el hvs hel
 split at e
 rotate_left
 ·cases e
 rename_i size z hs hz
 split at e
 rotate_left
 ·cases e
 rename_i cs hcs
 cases hc:(Nat.ble (len*size) 1000000&&Nat.ble len 1000000&&Nat.beq (llen (cellsOfV z)) size) with
 | false=>rw [hc] at e;cases e
 | true=>
 rw [hc] at e
 cases e
 simp only [Bool.and_eq_true,ble_true,beq_true,llen_eq] at hc
 obtain ⟨⟨c1,c2⟩,c3⟩:=hc
 have hp:=parts_ok hT (ys:=ps.toList) (fun y hy=>by rw [ho];simp only [Op.operands,List.mem_map];exact ⟨y,hy,rfl⟩) hvs
 have hzr:VR σ z z:=VR.of_flat 4 z (zero_flat hE hz)
 let init:Array Value:=if len*size=0 then #[] else (Array.range (len*size)).map (z.cells[· % z.cells.size]!)
 have hinit:init.toList=rep len (cellsOfV z):=by
  show (if len*size=0 then #[] else (Array.range (len*size)).map (z.cells[· % z.cells.size]!):Array Value).toList=_
  split
  ·rename_i h0
   have:(rep len (cellsOfV z)).length=0:=by rw [rep_length,c3];exact h0
   rw [List.length_eq_zero_iff.1 this]
  ·rename_i h0;exact zeros_eq c3 len h0
 have hzz:VRs σ (rep len (cellsOfV z)) init.toList:=by
  rw [hinit]
  have:=hzr.cells
  rw [← cellsOf_eq] at this
  exact this.rep len
 obtain ⟨cs',q1,q2⟩:=fill_ok (pl':=fun i=>some (i*size,size)) (fun i p h=>h) hp hzz hcs
 obtain ⟨r1,r2,r3⟩:=newRow_ok H q2 el 0 0 (by simp) (Nat.le_of_eq (q2.length.trans Array.length_toList))
 refine Done.one (nx:=.value (.slice (some ⟨w.heap.size,0,none⟩) len len)) ?_ (.inl rfl) r2 r1 (.slice (l:=⟨w.heap.size,0,0,0⟩) 0 len len (Sg.ext_self ..) (by unfold UNK;omega)) r3
 have harr:ps.map (fun (i,x)=>(i,a.eval x))=⟨ps.toList.map fun (i,x)=>(i,a.eval x)⟩:=by apply Array.ext';simp
 have hu:=elem_spec hE hel
 have hrun:(Instr.buildSlice t len ⟨ps.toList.map fun (i,x)=>(i,a.eval x)⟩).run E.prog w=.ok (.slice (some ⟨w.heap.size,0,none⟩) len len) (w.alloc (.cells cs' el)):=by
  obtain ⟨info,i1,i2⟩:=tsize_spec hE hs
  have hnl:¬ len*size > 2 ^ 24:=by omega
  by_cases h0:len*size=0
  ·have hi0:init=#[]:=if_pos h0
   rw [hi0] at q1
   simp [Instr.buildSlice,run_und hE hu,run_sizeOf' hE hs,h0,Go.newRow]
   rw [show Array.map (fun _=>(default:Value)) (Array.range 0)=#[] by simp]
   rw [show Instr.fill (fun i=>some (i*size,size)) #[] (List.map (fun x=>(x.fst,a.eval x.snd)) ps.toList)=some cs' from q1]
   rfl
  ·have hi0:init=(Array.range (len*size)).map (z.cells[· % z.cells.size]!):=if_neg h0
   rw [hi0] at q1
   simp [Instr.buildSlice,run_und hE hu,run_sizeOf' hE hs,h0,hnl,q1,Go.newRow,run_zero hE hz]
 simp only [execOp,ho,harr,Sem.run_bind,hrun,Result.andThen_ok,Sem.run_pure]
include hE in
theorem wMakeSlice_ok (H:HR lo σ h w) {o:Oper} {t:TypeId} {l c:Operand} (ho:o.op=.makeSlice t l c) (hT:OpsR σ T a o.op.operands.toList) {outs:List (Value×AH)}
  (e:wMakeSlice E t (opnd T l) (opnd T c) h=some outs):Done E.prog lo σ o a w outs:=by
 unfold wMakeSlice at e
 split at e
 rotate_left
 ·cases e
 rename_i u1 u2 el h1 h2 hel
 split at e
 rotate_left
 ·cases e
 rename_i n m i hn hm hi
 split at e
 rotate_left
 ·cases e
 rename_i z hz
 cases hc:(Nat.ble n m&&Nat.ble m 1000000&&Nat.ble i.bytes 1000000&&Nat.beq (llen (cellsOfV z)) i.size) with
 | false=>rw [hc] at e;cases e
 | true=>
 rw [hc] at e
 cases e
 simp only [Bool.and_eq_true,ble_true,beq_true,llen_eq] at hc
 obtain ⟨⟨⟨c1,c2⟩,c3⟩,c4⟩:=hc
 obtain ⟨k1,e1⟩:=asNat_ok (opnd_ok hT (by rw [ho];simp [Op.operands]) h1) hn
 obtain ⟨k2,e2⟩:=asNat_ok (opnd_ok hT (by rw [ho];simp [Op.operands]) h2) hm
 have hzV:zeroV E el=some z:=by unfold zeroV;unfold tinfo at hi;rw [hi];exact hz
 have hzr:VR σ z z:=VR.of_flat 4 z (zero_flat hE hzV)
 obtain ⟨info,i1,i2,i3,i4,i5,i6⟩:=hE.ty el i hi
 have hs:tsize E el=some i.size:=by unfold tsize;unfold tinfo at hi;rw [hi]
 let init:Array Value:=(Array.range (m*i.size)).map ((if m*i.size=0 then #[] else z.cells)[· % (if m*i.size=0 then #[] else z.cells).size]!)
 have hinit:init.toList=rep m (cellsOfV z):=by
  show ((Array.range (m*i.size)).map ((if m*i.size=0 then #[] else z.cells)[· % (if m*i.size=0 then #[] else z.cells).size]!)).toList=_
  by_cases h0:m*i.size=0
  ·have:(rep m (cellsOfV z)).length=0:=by rw [rep_length,c4];exact h0
   rw [List.length_eq_zero_iff.1 this,h0];simp
  ·rw [if_neg h0];exact zeros_eq c4 m h0
 have hzz:VRs σ (rep m (cellsOfV z)) init.toList:=by
  rw [hinit]
  have:=hzr.cells
  rw [← cellsOf_eq] at this
  exact this.rep m
 obtain ⟨r1,r2,r3⟩:=newRow_ok H hzz el 0 0 (by simp) (Nat.le_of_eq (hzz.length.trans Array.length_toList))
 refine Done.one (nx:=.value (.slice (some ⟨w.heap.size,0,none⟩) n m)) ?_ (.inl rfl) r2 r1 (.slice (l:=⟨w.heap.size,0,0,0⟩) 0 n m (Sg.ext_self ..) (by unfold UNK;omega)) r3
 have hu:=elem_spec hE hel
 have hw64:∀ k:Nat,k<=1000000->IntKind.wrap .i64 (k:Int)=k:=by intro k hk;rw [IntKind.wrap_i64];omega
 have hbytes:i.bytes*m<=1000000*1000000:=Nat.mul_le_mul c3 c2
 have hrun:(Instr.makeSlice t (.int k1 (n:Int)) (.int k2 (m:Int))).run E.prog w=.ok (.slice (some ⟨w.heap.size,0,none⟩) n m) (w.alloc (.cells init el)):=by
  unfold Instr.makeSlice
  simp only [Sem.run_bind,run_und hE hu,Result.andThen_ok,asInt,asIntOf,Sem.run_pure,run_typeInfo w i1,hw64 n (by omega),hw64 m c2,i4]
  have hb:((i.bytes*m:Nat):Int)=(i.bytes:Int)*(m:Int):=by push_cast;rfl
  rw [← hb,Sem.run_ite,if_neg (by simp;omega)]
  by_cases h0:m*i.size=0
  ·simp [run_sizeOf' hE hs,h0,Go.newRow,init]
  ·simp [run_sizeOf' hE hs,h0,Go.newRow,init,run_zero hE hzV]
 simp only [execOp,ho,e1,e2,Sem.run_bind,hrun,Result.andThen_ok,Sem.run_pure]
theorem wMakeMap_ok {P:Program} (H:HR lo σ h w) {o:Oper} {t:TypeId} (ho:o.op=.makeMap t none):Done P lo σ o a w [(.map (some h.next),h.new (.map [] 0))]:=by
 have le:Sg.le σ (σ.ext h.next ⟨w.heap.size,0,0,0⟩):=Sg.le_ext H.free
 have q:=H.new (.map [] 0) (.map #[] 0) ⟨w.heap.size,0,0,0⟩ rfl ⟨#[],0,by rw [heap_alloc,if_pos rfl],⟨by simp,by simp,[],by simp,.nil⟩⟩
 refine Done.one (nx:=.value (.map (some w.heap.size))) ?_ (.inl rfl) le q (.map (l:=⟨w.heap.size,0,0,0⟩) (by simp)) (below_add w _ H.lo)
 simp [execOp,ho,Instr.makeMap]
include hE in
theorem wRange_ok (H:HR lo σ h w) {o:Oper} {t:TypeId} {x:Operand} (ho:o.op=.range t x) (hT:OpsR σ T a o.op.operands.toList) {outs:List (Value×AH)}
  (e:wRange (opnd T x) h=some outs) (hu:∃ k v,und E t=some (.map k v)):Done E.prog lo σ o a w outs:=by
 obtain ⟨kt,vt,hu⟩:=hu
 have le:∀ l,Sg.le σ (σ.ext h.next l):=fun l=>Sg.le_ext H.free
 unfold wRange at e
 split at e
 ·rename_i hx
  cases e
  have hv:=opnd_ok hT (by rw [ho];simp [Op.operands]) hx
  generalize hq:a.eval x=q at hv
  cases hv
  have q:=H.new (.iter none 0 [] none) (.mapIter none 0 #[] 0) ⟨w.heap.size,0,0,0⟩ rfl ⟨0,#[],0,by rw [heap_alloc,if_pos rfl],rfl⟩
  refine Done.one (nx:=.value (.pointer (some ⟨w.heap.size,0,none⟩))) ?_ (.inl rfl) (le _) q (.ptr (l:=⟨w.heap.size,0,0,0⟩) 0 (Sg.ext_self ..)) (below_add w _ H.lo)
  simp [execOp,ho,hq,Instr.range,run_und hE hu]
 ·rename_i m hx
  split at e
  rotate_left
  ·cases e
  rename_i es ver hm
  cases e
  have hv:=opnd_ok hT (by rw [ho];simp [Op.operands]) hx
  generalize hq:a.eval x=q at hv
  cases hv with
  | map hσ=>
  rename_i lm
  obtain ⟨l',a1,⟨ents,clock,m1,m2⟩,_⟩:=H.live m _ hm
  rw [hσ] at a1;cases a1
  have hml:=lt_of_get m1
  have hne:m≠h.next:=by intro e;subst e;rw [H.fresh _ (Nat.le_refl _)] at hm;cases hm
  have q:=H.new (.iter (some m) ver es none) (.mapIter (some lm.blk) clock #[] clock) ⟨w.heap.size,0,0,0⟩ rfl (by
   refine ⟨lm,clock,#[],clock,le _ _ _ hσ,⟨by rw [heap_alloc,if_pos rfl],rfl⟩,fun es' v' hg=>?_⟩
   rw [AH.get_new,if_neg hne,hm] at hg
   cases hg
   refine ⟨Nat.le_refl _,fun _=>⟨ents,by rw [heap_alloc,if_neg (by omega)];exact m1,rfl,?_,by simp⟩⟩
   obtain ⟨p,p1,p2⟩:=m2.perm
   exact ⟨p,by rw [List.filter_eq_self.2 (by simp)];exact p1,p2.mono (le _)⟩)
  refine Done.one (nx:=.value (.pointer (some ⟨w.heap.size,0,none⟩))) ?_ (.inl rfl) (le _) q (.ptr (l:=⟨w.heap.size,0,0,0⟩) 0 (Sg.ext_self ..)) (below_add w _ H.lo)
  simp [execOp,ho,hq,Instr.range,run_und hE hu,run_getObj m1 (by intros;intro h;cases h)]
 ·cases e
end Go.AM
namespace Go.AM
open Go Go.RowKit
variable {E:Env} (hE:EnvOK E) {σ:Sg} {T:Tm} {a:Act} {xs:List Operand} {lo:Nat} {h:AH} {w:World}
theorem OR.heap {h:AH} {o:AObj} {l:Loc} {w w':World} (H:OR σ h o l w) (e:w'.heap=w.heap):OR σ h o l w':=by
 refine OR.mono H (Sg.le_refl σ) (by rw [e]) (fun m es v lm hm hs=>⟨hm,by rw [e]⟩)
theorem HR.heap {w':World} (H:HR lo σ h w) (e:w'.heap=w.heap):HR lo σ h w':=
 ⟨H.dom,H.fresh,fun b o hb=>let ⟨l,x,y,z⟩:=H.live b o hb;⟨l,x,y.heap e,z⟩,H.inj,by rw [e];exact H.lo,H.kept.same (Nat.le_refl _) fun _=>by rw [e]⟩
def World.drew1 (w:World):World:={ w with drawn:=w.drawn+1 }
theorem below_drew1 {B:Nat} (w:World):Below B w (World.drew1 w):=⟨rfl,rfl,rfl,Nat.le_refl _,fun _ _=>rfl⟩
theorem EntsR.append:∀ {es fs:List (Value×Value)} {L M:List MapEntry},EntsR σ es L->EntsR σ fs M->EntsR σ (es++fs) (L++M)
 | _,_,_,_,.nil,h=>h
 | _,_,_,_,.cons hk hv h,h2=>.cons hk hv (EntsR.append h h2)
theorem takes_ok:∀ {es:List (Value×Value)} {pre:List (Value×Value)} {L preL:List MapEntry} {e:MapEntry},EntsR σ pre preL->EntsR σ es L->e∈L->
  ∃ x∈takes pre es,∃ q,VR σ x.1.1 e.key/\VR σ x.1.2 e.val/\EntsR σ x.2 q/\(preL++L).Perm (e::q)
 | _,_,_,_,e,_,.nil,he=>by cases he
 | _,pre,_,preL,e,hpre,.cons (k:=k) (v:=v) (e:=f) (es:=es) (fs:=fs) hk hv h,he=>by
  rcases List.mem_cons.1 he with rfl|he
  ·exact ⟨((k,v),pre++es),by simp [takes],preL++fs,hk,hv,hpre.append h,List.perm_middle⟩
  ·obtain ⟨x,x1,q,q1,q2,q3,q4⟩:=takes_ok (hpre.append (.cons hk hv .nil)) h he
   exact ⟨x,by simp only [takes,List.mem_cons];exact .inr x1,q,q1,q2,q3,by simpa using q4⟩
theorem filter_push {L:List MapEntry} {seen:Array Nat} {e:MapEntry} {q:List MapEntry} (hn:(L.map (·.born)).Nodup) (hp:(L.filter fun x=>!seen.contains x.born).Perm (e::q)) :
  (L.filter fun x=>!(seen.push e.born).contains x.born).Perm q:=by
 have h1:(L.filter fun x=>!(seen.push e.born).contains x.born)=(L.filter fun x=>!seen.contains x.born).filter fun x=>!(x.born==e.born):=by
  rw [List.filter_filter]
  apply List.filter_congr
  intro x _
  rw [Bool.eq_iff_iff]
  simp
  constructor
  ·intro h;exact ⟨h.2,h.1⟩
  ·intro h;exact ⟨h.2,h.1⟩
 rw [h1]
 have h2:=hp.filter fun x=>!(x.born==e.born)
 refine h2.trans ?_
 have hn2:((e::q).map (·.born)).Nodup:=by
  have:=(hp.map (·.born)).nodup_iff.1 ((List.filter_sublist.map _).nodup hn)
  exact this
 simp only [List.map_cons,List.nodup_cons] at hn2
 rw [List.filter_cons_of_neg (by simp),List.filter_eq_self.2]
 intro x hx
 simp only [Bool.not_eq_true',beq_eq_false_iff_ne]
 intro he
 exact hn2.1 (he ▸ List.mem_map.2 ⟨x,hx,rfl⟩)
theorem run_next_step {P:Program} {w:World} {r m:Nat} {since:Nat} {seen:Array Nat} {ents:Array MapEntry} {t:TypeId} (hi:w.heap[r]?=some (.mapIter (some m) since seen since)) (hm:w.heap[m]?=some (.map ents since))
  (hb:∀ e∈ents.toList,e.born<since) :
  let left:=ents.filter fun e=>!seen.contains e.born
  (left.size=0->(Instr.next (.pointer (some ⟨r,0,none⟩)) false t).run P w=.ok (.tuple #[.bool false]) w) ∧
  (left.size≠0->∃ e∈left.toList,∃ w1:World,w1.heap=w.heap/\Below 0 w w1/\(∀ B,Below B w w1)/\(Instr.next (.pointer (some ⟨r,0,none⟩)) false t).run P w=.ok (.tuple #[.bool true,e.key,e.val]) (World.put w1 r (.mapIter (some m) since (seen.push e.born) since))):=by
 intro left
 have hold:left.filter (·.born<since)=left:=by
  rw [Array.filter_eq_self]
  intro e he
  have:e∈ents:=(Array.mem_filter.1 he).1
  simpa using hb e (Array.mem_toList_iff.2 this)
 have hnew:left.filter (·.born ≥ since)=#[]:=by
  rw [Array.filter_eq_empty_iff]
  intro e he
  have:e∈ents:=(Array.mem_filter.1 he).1
  have:=hb e (Array.mem_toList_iff.2 this)
  simp;omega
 have hguard:(!seen.isEmpty&&!ents.isEmpty&&ents.all (·.born ≥ since))=false:=by
  cases he:ents.isEmpty with
  | true=>simp
  | false=>
   have hne:ents.size≠0:=by intro h;simp [Array.isEmpty,h] at he
   have:ents.all (·.born ≥ since)=false:=by
    rw [Array.all_eq_false]
    refine ⟨0,by omega,?_⟩
    have:=hb ents[0] (by simp)
    simp;omega
   rw [this];simp
 have g1:=run_getObj (P:=P) hi (by intros;intro h;cases h)
 have g2:=run_getObj (P:=P) hm (by intros;intro h;cases h)
 constructor
 ·intro h0
  have hl:left=#[]:=Array.eq_empty_of_size_eq_zero h0
  have hl':(ents.filter fun e=>!seen.contains e.born)=#[]:=hl
  unfold Instr.next
  simp only [Sem.run_bind,g1,g2,Result.andThen_ok,hguard,Bool.false_eq_true,if_false,hl']
  simp [Question.forced]
 ·intro h0
  have hemp:left.isEmpty=false:=by simp [Array.isEmpty,h0]
  have key:∃ i w1,i<left.size/\w1.heap=w.heap/\(∀ B,Below B w w1)/\(choose (.mapNext left.size)).run P w=.ok i w1:=by
   rw [run_choose]
   by_cases hf:(Question.mapNext left.size).forced=true
   ·rw [if_pos hf];exact ⟨0,w,by omega,rfl,fun B=>Below.refl B w,rfl⟩
   ·rw [if_neg hf]
    exact ⟨_,World.drew1 w,Nat.mod_lt _ (by omega),rfl,fun B=>below_drew1 w,rfl⟩
  obtain ⟨i,w1,hi1,hw1,hw2,hch⟩:=key
  refine ⟨left[i],by simp,w1,hw1,hw2 0,hw2,?_⟩
  have hset:=run_setObj (P:=P) (w:=w1) (.mapIter (some m) since (seen.push left[i].born) since) (by rw [hw1];exact hi) (by intros;intro h;cases h)
  have hemp':(left.filter (·.born<since)).isEmpty=false:=by rw [hold];exact hemp
  have hcand:((if (left.filter (·.born<since)).isEmpty then #[none] else #[])++(left.filter (·.born<since)++left.filter (·.born ≥ since)).map some:Array (Option MapEntry))=left.map some:=by
   rw [hold,hnew,hemp];simp
  unfold Instr.next
  simp only [Sem.run_bind,g1,g2,Result.andThen_ok,hguard,Bool.false_eq_true,if_false]
  show ((choose (.mapNext ((if (left.filter (·.born<since)).isEmpty then #[none] else #[])++(left.filter (·.born<since)++left.filter (·.born ≥ since)).map some:Array (Option MapEntry)).size)).run P w).andThen _=_
  rw [hcand,Array.size_map,hch]
  simp only [Result.andThen_ok]
  have hget:(Array.map some left)[i]?=some (some left[i]):=by
   rw [Array.getElem?_map,Array.getElem?_eq_getElem hi1];rfl
  rw [hget]
  simp only [Sem.run_bind,hset,Result.andThen_ok,Sem.run_pure]
theorem bind_value {P:Program} {s:Sem Value} {v:Value} {w w':World} (h:s.run P w=.ok v w'):(do pure (Next.value (← s)):Sem Next).run P w=.ok (.value v) w':=by
 simp only [Sem.run_bind,h,Result.andThen_ok,Sem.run_pure]
theorem wNext_ok {P:Program} (H:HR lo σ h w) {o:Oper} {x:Operand} {s:Bool} (ho:o.op=.next x s) (hT:OpsR σ T a o.op.operands.toList) {outs:List (Value×AH)}
  (e:wNext s (opnd T x) h=some outs):Done P lo σ o a w outs:=by
 unfold wNext at e
 split at e
 rotate_left
 ·cases e
 rename_i u hu
 have hv:=opnd_ok hT (by rw [ho];simp [Op.operands]) hu
 have hexec:∀ v' w',(Instr.next (a.eval x) s o.type).run P w=.ok v' w'->(execOp a.eval o).run P w=.ok (.value v') w':=fun v' w' hr=>by
  simp only [execOp,ho];exact bind_value hr
 unfold nextV at e
 split at e
 rotate_left
 ·cases e
 rename_i b
 split at e
 ·
  rename_i ver left cur hb
  cases e
  generalize hq:a.eval x=q at hv hexec
  cases hv with
  | ptr o' hσ=>
  rename_i l
  obtain ⟨l',a1,a2,_⟩:=H.live b _ hb
  rw [hσ] at a1;cases a1
  obtain ⟨since,seen,last,b1,b0⟩:=a2
  refine Done.one (hexec _ _ ?_) (.inl rfl) (Sg.le_refl σ) H (.tuple (.cons (.bool _) .nil)) (Below.refl lo w)
  rw [b0]
  unfold Instr.next
  simp [run_getObj b1 (by intros;intro h;cases h)]
 ·rename_i m ver left cur hb
  split at e
  rotate_left
  ·cases e
  rename_i es ver' hm
  split at e
  ·cases e
  rename_i hver
  simp only [Bool.not_eq_true',Bool.not_eq_false] at hver
  rw [beq_true] at hver
  subst hver
  generalize hq:a.eval x=q at hv hexec
  cases hv with
  | ptr o' hσ=>
  rename_i l
  obtain ⟨l',a1,a2,_⟩:=H.live b _ hb
  rw [hσ] at a1;cases a1
  obtain ⟨lm,since,seen,last,b1,⟨b2,b0⟩,b3⟩:=a2
  obtain ⟨_,c2⟩:=b3 es ver hm
  obtain ⟨ents,d1,d2,d3⟩:=c2 rfl
  subst d2
  obtain ⟨l2,f1,⟨ents2,clock,f2,f3⟩,_⟩:=H.live m _ hm
  rw [b1] at f1;cases f1
  rw [d1] at f2;cases f2
  obtain ⟨st1,st2⟩:=run_next_step (P:=P) (t:=o.type) b2 d1 f3.born
  obtain ⟨p,p1,p2⟩:=d3.left
  have hsz:(ents.filter fun e=>!seen.contains e.born).size=p.length:=by
   rw [p1.length_eq]
   simp [← Array.length_toList]
  rw [b0] at hexec
  simp only [Nat.add_zero] at hexec
  split at e
  ·
   cases e
   cases p2
   refine Done.one (hexec _ _ (st1 (by rw [hsz];rfl))) (.inl rfl) (Sg.le_refl σ) H (.tuple (.cons (.bool _) .nil)) (Below.refl lo w)
  ·rename_i hne
   cases e
   have hp0:p.length≠0:=by
    intro h0
    cases p2 with
    | nil=>exact hne rfl
    | cons _ _ _=>simp at h0
   obtain ⟨y,y1,w1,y2,_,y3,y4⟩:=st2 (by rw [hsz];exact hp0)
   have hmem:y∈p:=by
    rw [p1.mem_iff]
    have:=Array.mem_toList_iff.1 y1
    rw [Array.mem_filter] at this
    rw [List.mem_filter]
    exact ⟨Array.mem_toList_iff.2 this.1,this.2⟩
   obtain ⟨c,c1,q,q1,q2,q3,q4⟩:=takes_ok (pre:=[]) (preL:=[]) .nil p2 hmem
   have H1:HR lo σ h w1:=H.heap y2
   have hro:isRO (AObj.iter (some m) ver left cur)=false:=rfl
   have hlt:l.blk<w1.heap.size:=by rw [y2];exact lt_of_get b2
   have hne2:lm.blk≠l.blk:=by
    intro hh;rw [hh] at d1;rw [d1] at b2;cases b2
   have H2:=H1.upd (.mapIter (some lm.blk) last (seen.push y.born) last) hb hσ hro (by intros;rename_i e;cases e) (o':=.iter (some m) ver c.2 (some c.1)) (by
    refine ⟨lm,last,seen.push y.born,last,b1,⟨by rw [World.put_get hlt,if_pos rfl],b0⟩,fun es' v' hg=>?_⟩
    have hmb:m≠b:=by intro e;subst e;rw [hm] at hb;cases hb
    rw [AH.get_upd,if_neg hmb,hm] at hg
    cases hg
    refine ⟨Nat.le_refl _,fun _=>⟨ents,by rw [World.put_get hlt,if_neg hne2,y2];exact d1,rfl,?_,?_⟩⟩
    ·refine ⟨q,(filter_push f3.nodup ?_).symm,q3⟩
     exact p1.symm.trans q4
    ·intro c' hc'
     cases hc'
     refine ⟨y,?_,by simp,q1,q2⟩
     have:=p1.mem_iff.1 hmem
     exact (List.mem_filter.1 this).1)
   obtain ⟨l3,g1,_,g3⟩:=H.live b _ hb
   rw [hσ] at g1;cases g1
   refine ⟨(.tuple #[.bool true,c.1.1,c.1.2],h.upd b (some (.iter (some m) ver c.2 (some c.1)))),?_,_,_,_,σ,hexec _ _ y4,.inl rfl,Sg.le_refl σ,H2,?_,(y3 lo).trans (below_put _ (g3 hro))⟩
   ·rw [List.mem_map]
    exact ⟨c,c1,rfl⟩
   ·exact .tuple (.cons (.bool _) (.cons q1 (.cons q2 .nil)))
 ·cases e
end Go.AM
namespace Go.AM
open Go Go.RowKit
variable {E:Env} (hE:EnvOK E) {σ:Sg} {T:Tm} {a:Act} {xs:List Operand} {lo:Nat} {h:AH} {w:World}
theorem ba_eq {a b:ByteArray} (h:(a==b)=true):a=b:=by
 cases a;cases b
 exact congrArg _ (eq_of_beq (α:=Array UInt8) h)
theorem veq_ok:∀ n,(∀ x y,veq n x y=true->x=y)/\(∀ l m,veqs n l m=true->l=m):=by
 intro n
 induction n with
 | zero=>
  refine ⟨fun x y hxy=>?_,fun l m hlm=>?_⟩
  ·cases x <;> cases y <;> first
    | (simp_all [veq];done)
    | (simp only [veq] at hxy;rw [ba_eq hxy])
  ·cases l <;> cases m <;> simp_all [veqs]
 | succ n ih=>
  refine ⟨fun x y hxy=>?_,fun l m hlm=>?_⟩
  ·cases x <;> cases y <;> simp only [veq,Bool.false_eq_true,Bool.and_eq_true,decide_eq_true_eq,beq_iff_eq,beq_true] at hxy <;> first
    | (simp_all;done)
    | (rw [ba_eq hxy];done)
    | skip
   ·obtain ⟨⟨q1,q2⟩,q3⟩:=hxy
    rw [q1,Array.toList_inj.1 (ih.2 _ _ q2),Array.toList_inj.1 (ih.2 _ _ q3)]
   ·rw [hxy.1,ih.1 _ _ hxy.2]
   ·rw [Array.toList_inj.1 (ih.2 _ _ hxy)]
   ·rw [Array.toList_inj.1 (ih.2 _ _ hxy)]
  ·cases l <;> cases m <;> simp only [veqs,Bool.false_eq_true,Bool.and_eq_true] at hlm <;> first
    | rfl
    | (cases hlm;done)
    | (rw [ih.1 _ _ hlm.1,ih.2 _ _ hlm.2])
theorem sameBits_ints:∀ (n:Nat) {l:List Value},(∀ v∈l,∃ k m,v=.int k m)->((l.zip l).all fun (x,y)=>Instr.sameBits n x y)=true
 | n,[],_=>rfl
 | n,v::l,H=>by
  obtain ⟨k,m,rfl⟩:=H v (by simp)
  simp only [List.zip_cons_cons,List.all_cons,Bool.and_eq_true]
  refine ⟨by cases n <;> simp [Instr.sameBits],sameBits_ints n fun u hu=>H u (by simp [hu])⟩
theorem sameBits_key {kt:TypeId} {k:Value} (hk:keyOk E kt k=true):Instr.sameBits 10000 k k=true:=by
 obtain ⟨d,hd⟩:∃ d,10000=d+1:=⟨9999,rfl⟩
 rw [hd]
 unfold keyOk at hk
 split at hk
 ·simp [Instr.sameBits]
 ·split at hk
  ·split at hk
   ·simp only [Bool.and_eq_true] at hk
    have:=sameBits_ints d (allIntV_spec hk.2)
    simp only [Instr.sameBits,beq_self_eq_true,Bool.true_and]
    exact this
   ·cases hk
  ·cases hk
 ·cases hk
def one1 (Q:MapEntry->Bool) (l:List MapEntry):Prop:=(l.filter Q).length<=1
theorem modify_map {Q:MapEntry->Bool} {g:MapEntry->MapEntry}:∀ {L:List MapEntry} {i:Nat} {x:MapEntry},one1 Q L->L[i]?=some x->Q x=true->L.modify i g=L.map fun e=>if Q e then g e else e
 | [],i,x,_,hx,_=>by simp at hx
 | y::L,0,x,h1,hx,hq=>by
  simp only [List.getElem?_cons_zero,Option.some.injEq] at hx
  subst hx
  unfold one1 at h1
  rw [List.filter_cons_of_pos hq] at h1
  have h0:L.filter Q=[]:=List.eq_nil_of_length_eq_zero (by simp at h1;simpa using h1)
  rw [List.filter_eq_nil_iff] at h0
  simp only [List.modify_zero_cons,List.map_cons,hq,if_true]
  congr 1
  rw [List.map_congr_left (g:=id)]
  ·simp
  ·intro z hz;rw [if_neg (h0 z hz)];rfl
 | y::L,i+1,x,h1,hx,hq=>by
  simp only [List.getElem?_cons_succ] at hx
  have hy:Q y=false:=by
   cases hy:Q y with
   | false=>rfl
   | true=>
    unfold one1 at h1
    rw [List.filter_cons_of_pos hy] at h1
    have:x∈L.filter Q:=List.mem_filter.2 ⟨List.mem_of_getElem? hx,hq⟩
    have:=List.length_pos_of_mem this
    rw [List.length_cons] at h1;omega
  have h2:one1 Q L:=by
   unfold one1 at h1 ⊢
   rw [List.filter_cons_of_neg (by simp [hy])] at h1
   exact h1
  simp only [List.modify_succ_cons,List.map_cons,hy,Bool.false_eq_true,if_false]
  rw [modify_map h2 hx hq]
include hE in
theorem entry_one {kt:TypeId} {k:Value} (ht:∃ kd,und E kt=some (.int kd)\/∃ n e,und E kt=some (.array n e)):∀ {es:List (Value×Value)} {p:List MapEntry} {r:Option Value},EntsR σ es p->findEntry E kt k es=some r->
  one1 (fun e=>keyEq E kt k e.key==some true) p/\(r=none->(p.filter fun e=>keyEq E kt k e.key==some true)=[])
 | _,_,r,.nil,_=>⟨by simp [one1],fun _=>rfl⟩
 | _,_,r,.cons (k:=k') (v:=v) (e:=e) (es:=es) (fs:=fs) hk hv hs,hf=>by
  simp only [findEntry] at hf
  split at hf
  ·rename_i h1 h2
   cases hf
   obtain ⟨_,q2⟩:=entry_one ht hs h2
   have hkey:=(keyEq_ok (σ:=σ) hE h1 ht).2.1 _ hk
   refine ⟨?_,by simp⟩
   unfold one1
   rw [List.filter_cons_of_pos (p:=fun (e:MapEntry)=>keyEq E kt k e.key==some true) (by rw [hkey,h1];rfl),q2 rfl]
   simp
  ·rename_i r' h1 h2
   cases hf
   obtain ⟨q1,q2⟩:=entry_one ht hs h2
   have hkey:=(keyEq_ok (σ:=σ) hE h1 ht).2.1 _ hk
   have hneg:¬ ((keyEq E kt k e.key==some true)=true):=by rw [hkey,h1];simp
   refine ⟨?_,fun hr=>?_⟩
   ·unfold one1 at q1 ⊢
    rw [List.filter_cons_of_neg (p:=fun (e:MapEntry)=>keyEq E kt k e.key==some true) hneg];exact q1
   ·rw [List.filter_cons_of_neg (p:=fun (e:MapEntry)=>keyEq E kt k e.key==some true) hneg];exact q2 hr
  ·cases hf
include hE in
theorem setEntry_ok {kt:TypeId} {k v v':Value} (ht:∃ kd,und E kt=some (.int kd)\/∃ n e,und E kt=some (.array n e)) (hkf:VR σ k k) (hv:VR σ v v'):∀ {es es':List (Value×Value)} {p:List MapEntry},EntsR σ es p->setEntry E kt k v es=some es'->
  EntsR σ es' (p.map fun e=>if (keyEq E kt k e.key==some true)=true then { e with key:=k,val:=v' } else e)
 | _,es',_,.nil,hs=>by simp only [setEntry,Option.some.injEq] at hs;subst hs;exact .nil
 | _,es',_,.cons (k:=k') (v:=u) (e:=e) (es:=es) (fs:=fs) hk hu hr,hs=>by
  simp only [setEntry] at hs
  split at hs
  ·rename_i r h1 h2
   split at hs
   rotate_left
   ·cases hs
   rename_i hveq
   cases hs
   have hkk:=(veq_ok 3).1 _ _ hveq
   have hkey:=(keyEq_ok (σ:=σ) hE h1 ht).2.1 _ hk
   simp only [List.map_cons]
   rw [if_pos (by rw [hkey,h1];rfl)]
   exact .cons (hkk ▸ hkf) hv (setEntry_ok ht hkf hv hr h2)
  ·rename_i r h1 h2
   cases hs
   have hkey:=(keyEq_ok (σ:=σ) hE h1 ht).2.1 _ hk
   simp only [List.map_cons]
   rw [if_neg (by rw [hkey,h1];simp)]
   exact .cons hk hu (setEntry_ok ht hkf hv hr h2)
  ·cases hs
theorem insertEntry_ok {k v:Value} {e:MapEntry} (hk:VR σ k e.key) (hv:VR σ v e.val):∀ {es:List (Value×Value)} {p:List MapEntry},EntsR σ es p->∃ q,q.Perm (e::p)/\EntsR σ (insertEntry k v es) q
 | _,_,.nil=>⟨[e],.refl _,.cons hk hv .nil⟩
 | _,_,.cons (k:=k') (v:=u) (e:=f) (es:=es) (fs:=fs) hk' hv' hs=>by
  simp only [insertEntry]
  split
  ·exact ⟨e::f::fs,.refl _,.cons hk hv (.cons hk' hv' hs)⟩
  ·obtain ⟨q,q1,q2⟩:=insertEntry_ok hk hv hs
   exact ⟨f::q,(q1.cons f).trans (.swap ..),.cons hk' hv' q2⟩
include hE in
theorem mapUpdateV_ok (H:HR lo σ h w) {t:TypeId} {m m' k k' v v':Value} (hm:VR σ m m') (hk:VR σ k k') (hv:VR σ v v') {h':AH} (e:mapUpdateV E t m k v h=some h') :
  ∃ w',(Instr.mapUpdate t m' k' v').run E.prog w=.ok () w'/\HR lo σ h' w'/\Below lo w w':=by
 unfold mapUpdateV at e
 split at e
 rotate_left
 ·cases e
 rename_i kt et b hke
 split at e
 rotate_left
 ·cases e
 rename_i es ver hb
 cases hc:(keyOk E kt k&&isFlat k) with
 | false=>rw [hc] at e;cases e
 | true=>
 rw [hc] at e
 simp only [Bool.and_eq_true] at hc
 simp only [cond_true] at e
 split at e
 rotate_left
 ·cases e
 rename_i es' hes
 cases e
 obtain ⟨ck,hk'⟩:=keyOk_ok (σ:=σ) hE hc.1
 have:=hk' _ hk
 subst this
 have hu:und E t=some (.map kt et):=by
  unfold mapKE at hke
  split at hke
  ·rename_i k0 e0 h0;cases hke;exact h0
  ·cases hke
 have ht:∃ kd,und E kt=some (.int kd)\/∃ n e,und E kt=some (.array n e):=by
  rcases keyOk_type hc.1 with ⟨kd,h⟩|h
  ·exact ⟨kd,.inl h⟩
  ·exact ⟨.i64,.inr h⟩
 cases hm with
 | map hσ=>
 rename_i l
 obtain ⟨l',a1,⟨ents,clock,m1,m2⟩,a3⟩:=H.live b _ hb
 rw [hσ] at a1;cases a1
 have hlt:=lt_of_get m1
 have finish:∀ (ents':Array MapEntry) (clock':Nat),MapR σ es' ents' clock'->(Instr.mapUpdate t (.map (some l.blk)) k' v').run E.prog w=.ok () (World.put w l.blk (.map ents' clock'))->
   ∃ w',(Instr.mapUpdate t (.map (some l.blk)) k' v').run E.prog w=.ok () w'/\HR lo σ (h.upd b (some (.map es' (ver+1)))) w'/\Below lo w w':=by
  intro ents' clock' hm' hr
  refine ⟨_,hr,H.upd _ hb hσ rfl (fun es1 v1 e1=>by cases e1;exact ⟨es,ver,rfl,by omega⟩) ⟨ents',clock',by rw [World.put_get hlt,if_pos rfl],hm'⟩,below_put _ (a3 rfl)⟩
 have gm:=run_getObj (P:=E.prog) m1 (by intros;intro h;cases h)
 have sm:=fun o'=>run_setObj (P:=E.prog) o' m1 (by intros;intro h;cases h)
 obtain ⟨p,p1,p2⟩:=m2.perm
 unfold updEntries at hes
 split at hes
 ·
  rename_i u hf
  obtain ⟨r',r1,r2⟩:=find_ok hE hc.1 m2 hf w
  cases r' with
  | none=>exact r2.elim
  | some pr=>
  obtain ⟨i,v0⟩:=pr
  obtain ⟨_,x,x1,x2,x3⟩:=r2
  have hxk:x.key=k':=by
   obtain ⟨q,q1,q2,q3⟩:=p2.mem x (p1.mem_iff.2 (List.mem_of_getElem? (by rw [Array.getElem?_toList];exact x1)))
   obtain ⟨bb,hbb⟩:=(findEntry_spec hf).1 q q1
   have e1:=(keyEq_ok (σ:=σ) hE hbb ht).2.1 _ q2
   have e2:setEntry E kt k' v es=some es':=hes
   have key:∀ {es es':List (Value×Value)},setEntry E kt k' v es=some es'->∀ q∈es,keyEq E kt k' q.1=some true->q.1=k':=by
    intro es
    induction es with
    | nil=>intro es' _ q hq;cases hq
    | cons y ys ih=>
     intro es' hs q hq hqt
     obtain ⟨y1,y2⟩:=y
     simp only [setEntry] at hs
     split at hs
     ·rename_i r g1 g2
      split at hs
      rotate_left
      ·cases hs
      rename_i hveq
      rcases List.mem_cons.1 hq with rfl|hq
      ·exact ((veq_ok 3).1 _ _ hveq).symm
      ·exact ih g2 q hq hqt
     ·rename_i r g1 g2
      rcases List.mem_cons.1 hq with rfl|hq
      ·rw [g1] at hqt;cases hqt
      ·exact ih g2 q hq hqt
     ·cases hs
   rw [e1] at x3 ⊢
   exact key e2 q q1 x3
  have hQ:=entry_one hE ht p2 hf
  have hone:one1 (fun e=>keyEq E kt k' e.key==some true) ents.toList:=by
   unfold one1
   rw [← (p1.filter _).length_eq];exact hQ.1
  refine finish (ents.modify i fun e=>{ e with key:=k',val:=v' }) clock ?_ ?_
  ·have hmod:(ents.modify i fun e=>{ e with key:=k',val:=v' }).toList=ents.toList.map fun e=>if (keyEq E kt k' e.key==some true)=true then { e with key:=k',val:=v' } else e:=by
    rw [Array.toList_modify]
    exact modify_map hone (by rw [Array.getElem?_toList];exact x1) (by rw [x3];rfl)
   refine ⟨?_,?_,p.map (fun e=>if (keyEq E kt k' e.key==some true)=true then { e with key:=k',val:=v' } else e),?_,setEntry_ok hE ht (VR.of_isFlat hc.2) hv p2 hes⟩
   ·intro e he
    rw [hmod] at he
    obtain ⟨e0,he0,rfl⟩:=List.mem_map.1 he
    split <;> exact m2.born e0 he0
   ·rw [hmod,List.map_map]
    have:(ents.toList.map ((fun e=>e.born) ∘ fun e=>if (keyEq E kt k' e.key==some true)=true then ({ e with key:=k',val:=v' }:MapEntry) else e))=ents.toList.map (·.born):=by
     apply List.map_congr_left
     intro e _
     simp only [Function.comp]
     split <;> rfl
    rw [this];exact m2.nodup
   ·rw [hmod];exact p1.map _
  ·have hstay:(Instr.keyThatStays (((ents[i]?).map (·.key)).getD k') k').run E.prog w=.ok k' w:=by
    rw [x1]
    simp only [Option.map_some,Option.getD_some,hxk]
    unfold Instr.keyThatStays
    rw [if_pos (sameBits_key hc.1)];rfl
   unfold Instr.mapUpdate
   simp only [Sem.run_bind,run_und hE hu,Result.andThen_ok,gm,ck,r1,hstay,sm]
 ·
  rename_i hf
  cases hes
  obtain ⟨r',r1,r2⟩:=find_ok hE hc.1 m2 hf w
  cases r' with
  | some pr=>exact r2.elim
  | none=>
  obtain ⟨q,q1,q2⟩:=insertEntry_ok (σ:=σ) (k:=k') (v:=v) (e:={ key:=k',val:=v',born:=clock }) (VR.of_isFlat hc.2) hv p2
  refine finish (ents.push { key:=k',val:=v',born:=clock }) (clock+1) ?_ ?_
  ·refine ⟨?_,?_,q,?_,q2⟩
   ·intro e he
    rw [Array.toList_push,List.mem_append] at he
    rcases he with he|he
    ·have:=m2.born e he;omega
    ·simp at he;subst he;simp
   ·rw [Array.toList_push,List.map_append,List.nodup_append]
    refine ⟨m2.nodup,by simp,?_⟩
    intro x hx y hy
    simp at hy;subst hy
    obtain ⟨e,he,rfl⟩:=List.mem_map.1 hx
    have:=m2.born e he
    omega
   ·rw [Array.toList_push]
    exact q1.trans ((p1.cons _).trans (by simpa using (List.perm_append_singleton _ _).symm))
  ·unfold Instr.mapUpdate
   simp only [Sem.run_bind,run_und hE hu,Result.andThen_ok,gm,ck,r1,sm]
 ·cases hes
include hE in
theorem wMapUpdate_ok (H:HR lo σ h w) {o:Oper} {t:TypeId} {m k v:Operand} (ho:o.op=.mapUpdate t m k v\/o.op=.insert t m k v) (hT:OpsR σ T a o.op.operands.toList) {outs:List (Value×AH)}
  (e:wMapUpdate E t (opnd T m) (opnd T k) (opnd T v) h=some outs):Done E.prog lo σ o a w outs:=by
 have hmem:∀ y,(y=m\/y=k\/y=v)->y∈o.op.operands.toList:=by
  intro y hy
  rcases ho with ho|ho <;> rw [ho] <;> simp [Op.operands] <;> exact hy
 unfold wMapUpdate at e
 split at e
 rotate_left
 ·cases e
 rename_i u1' u2' u3' h1 h2 h3
 unfold u1 at e
 split at e
 rotate_left
 ·cases e
 rename_i h' hh
 cases e
 obtain ⟨w',q1,q2,q3⟩:=mapUpdateV_ok hE H (opnd_ok hT (hmem _ (.inl rfl)) h1) (opnd_ok hT (hmem _ (.inr (.inl rfl))) h2) (opnd_ok hT (hmem _ (.inr (.inr rfl))) h3) hh
 refine Done.one (nx:=.skip) ?_ (.inr ⟨rfl,rfl⟩) (Sg.le_refl σ) q2 (.tuple .nil) q3
 rcases ho with ho|ho <;> simp only [execOp,ho,Sem.run_bind,q1,Result.andThen_ok,Sem.run_pure]
end Go.AM
namespace Go.AM
open Go Go.RowKit
variable {E:Env} (hE:EnvOK E) {σ:Sg} {T:Tm} {a:Act} {xs:List Operand} {lo:Nat} {h:AH} {w:World}
theorem sliceCells_ok {P:Program} (H:HR lo σ h w) {size:Nat} {x x':Value} (hx:VR σ x x') {n:Nat} {cs:List Value} (e:sliceCells size x h=some (n,cs)) :
  (∀ w',(Builtin.lenOf x').run P w'=.ok n w')/\cs.length=n*size ∧
  ∀ m,m<=n->∀ w',w'.heap=w.heap->∃ us:List Value,(Builtin.firstCells size m x').run P w'=.ok us.toArray w'/\us.length=m*size/\VRs σ (cs.take (m*size)) us:=by
 have zero:∀ {a':Option Addr} {c':Nat},(∀ w',(Builtin.lenOf (.slice a' 0 c')).run P w'=.ok 0 w')/\([]:List Value).length=0*size ∧
   ∀ m,m<=0->∀ w',w'.heap=w.heap->∃ us:List Value,(Builtin.firstCells size m (.slice a' 0 c')).run P w'=.ok us.toArray w'/\us.length=m*size/\VRs σ (([]:List Value).take (m*size)) us:=fun {a' c'}=>
  ⟨fun _=>rfl,by simp,fun m hm w' _=>⟨[],by
   have:m=0:=by omega
   subst this
   cases a' <;> simp [Builtin.firstCells,loadCells,loadCellsFrom],by
   have:m=0:=by omega
   subst this;simp,by simp;exact .nil⟩⟩
 unfold sliceCells at e
 split at e
 ·cases e
  cases hx
  refine ⟨fun _=>rfl,by simp,fun m hm w' _=>⟨[],?_,?_,?_⟩⟩
  ·simp [Builtin.firstCells]
  ·have:m=0:=by omega
   subst this;simp
  ·simp;exact .nil
 ·rename_i b o k c
  split at e
  rotate_left
  ·split at e
   rotate_left
   ·cases e
   rename_i hz
   rw [beq_true] at hz
   subst hz
   cases e
   cases hx <;> exact zero
  rename_i vs ty es ro hb
  simp only [ltake_eq,ldrop_eq,llen_eq] at e
  split at e
  rotate_left
  ·cases e
  rename_i hlen
  rw [beq_true] at hlen
  cases e
  have main:∀ {l:Loc} {c':Nat},σ b=some l->∀ m,m<=n->∀ w',w'.heap=w.heap->∃ us:List Value,(Builtin.firstCells size m (.slice (some ⟨l.blk,l.base+o,none⟩) n c')).run P w'=.ok us.toArray w'/\us.length=m*size ∧
    VRs σ (((vs.drop o).take (n*size)).take (m*size)) us:=by
   intro l c' hσ m hm w' hw'
   obtain ⟨l',a1,⟨cc,el,frz,r1,r2⟩,_⟩:=H.live b _ hb
   rw [hσ] at a1;cases a1
   have hms:m*size<=n*size:=Nat.mul_le_mul_right _ hm
   obtain ⟨us,u1,u2,u3⟩:=load_cells (P:=P) (w:=w') (by rw [hw'];exact r1) r2 o (m*size) (by rw [List.length_take] at hlen ⊢;omega)
   refine ⟨us,u1,u2,?_⟩
   rw [List.take_take,Nat.min_eq_left hms];exact u3
  cases hx with
  | slice _ _ _ hσ hc=>exact ⟨fun _=>rfl,hlen,main hσ⟩
  | sliceU _ _ _ hσ hc hn=>exact ⟨fun _=>rfl,hlen,main hσ⟩
 ·cases e
  cases hx <;> exact zero
 ·rename_i s
  split at e
  rotate_left
  ·cases e
  rename_i hs
  rw [beq_true] at hs
  subst hs
  cases e
  cases hx
  refine ⟨fun _=>rfl,by simp,fun m hm w' _=>⟨((s.data.toList.map fun b=>Value.int .u8 b.toNat).take m),?_,?_,?_⟩⟩
  ·simp only [Builtin.firstCells,Sem.run_pure]
   congr 1
   apply Array.ext'
   simp [ByteArray.data_extract,List.extract_eq_take_drop]
  ·simp only [List.length_take,List.length_map,Array.length_toList,Nat.mul_one]
   exact Nat.min_eq_left hm
  ·rw [Nat.mul_one]
   exact (VRs.refl_of fun v hv=>by
    obtain ⟨b,_,rfl⟩:=List.mem_map.1 (List.mem_of_mem_take hv)
    exact .int _ _)
 ·cases e
theorem grown_ok (H:HR lo σ h w) {vs:List Value} {cs:Array Value} {ty es tot:Nat} (hv:∀ (i:Nat) (v:Value),vs[i]?=some v->∃ u,cs[i]?=some u/\VR σ v u) (hes:cs.size=tot) (hes0:es≠0) (hfix:vs.length<=cs.size) :
  HR lo (σ.ext h.next ⟨w.heap.size,0,tot,es⟩) (h.new (.row vs ty es false)) (w.alloc (.cells cs ty))/\Sg.le σ (σ.ext h.next ⟨w.heap.size,0,tot,es⟩)/\Below lo w (w.alloc (.cells cs ty)):=by
 have le:Sg.le σ (σ.ext h.next ⟨w.heap.size,0,tot,es⟩):=Sg.le_ext H.free
 refine ⟨H.new _ _ _ rfl ?_,le,below_add w _ H.lo⟩
 refine ⟨cs,ty,(0,0),by rw [heap_alloc,if_pos rfl],?_,?_,fun _=>rfl,rfl,?_,?_⟩
 ·simpa using hfix
 ·intro i v hi
  obtain ⟨b,q1,q2⟩:=hv i v hi
  exact ⟨b,by simpa using q1,q2.mono le⟩
 ·intro e;exact absurd e hes0
 ·intro e;exact ⟨rfl,by simpa using hes⟩
theorem HR.rename (H:HR lo σ h w) {b:Nat} {vs vs':List Value} {ty es o:Nat} {l:Loc} (hb:h.get b=some (.row vs ty es false)) (hs:σ b=some l) (hes:es≠0) (ho:o<=l.tot) (hvs:∀ (i:Nat) (v:Value),vs'[i]?=some v->vs[o+i]?=some v) (hlen:o+vs'.length<=vs.length) :
  HR lo (σ.ext h.next ⟨l.blk,l.base+o,l.tot-o,es⟩) ((h.upd b none).new (.row vs' ty es false)) w/\Sg.le σ (σ.ext h.next ⟨l.blk,l.base+o,l.tot-o,es⟩):=by
 have K:=H.kill b
 have le:Sg.le σ (σ.ext h.next ⟨l.blk,l.base+o,l.tot-o,es⟩):=Sg.le_ext H.free
 obtain ⟨l0,a0,⟨cs,el,frz,r1,r2⟩,d0⟩:=H.live b _ hb
 rw [hs] at a0;cases a0
 refine ⟨⟨?_,?_,?_,?_,H.lo,H.kept⟩,le⟩
 ·intro c m e
  unfold Sg.ext at e
  split at e
  ·rename_i hc;subst hc;simp
  ·have:=H.dom _ _ e;simp;omega
 ·intro c hc
  rw [AH.get_new]
  simp at hc
  rw [if_neg (by simp;omega)];exact K.fresh c (by simp;omega)
 ·intro c x e
  rw [AH.get_new,AH.next_upd] at e
  by_cases hc:c=h.next
  ·subst hc
   rw [if_pos rfl] at e
   cases e
   refine ⟨_,Sg.ext_self ..,⟨cs,el,frz,r1,?_,?_,fun _=>r2.free rfl,r2.elt,fun e=>absurd e hes,fun _=>⟨rfl,?_⟩⟩,fun _=>d0 rfl⟩
   ·have:=r2.size;simp;omega
   ·intro i v hi
    obtain ⟨u,q1,q2⟩:=r2.cell _ _ (hvs i v hi)
    exact ⟨u,by simp only;rw [Nat.add_assoc];exact q1,q2.mono le⟩
   ·have:=(r2.grown hes).2;simp only;omega
  ·rw [if_neg hc] at e
   obtain ⟨m,q1,q2,q3⟩:=K.live c x e
   refine ⟨m,le _ _ q1,q2.mono le rfl (fun i es v lm hi hs=>?_),q3⟩
   rw [AH.get_new] at hi
   have hin:i≠(h.upd b none).next:=by intro e;subst e;simp only [AH.next_upd] at hs;rw [H.free] at hs;cases hs
   rw [if_neg hin] at hi
   exact ⟨hi,rfl⟩
 ·intro c c' o1 o2 l1 l2 e1 e2 s1 s2 hblk hne
  rw [AH.get_new,AH.next_upd] at e1 e2
  unfold Sg.ext at s1 s2
  have key:∀ {d:Nat} {x:AObj} {m:Loc},(h.upd b none).get d=some x->σ d=some m->m.blk=l.blk->False:=by
   intro d x m hd hm hbl
   rw [AH.get_upd] at hd
   split at hd
   ·cases hd
   ·rename_i hdb
    have:=(H.inj d b _ _ _ _ hd hb hm hs hbl hdb).2
    cases this
  by_cases hc:c=h.next
  ·rw [if_pos hc] at s1;cases s1
   rw [if_neg (fun e=>hne (hc.trans e.symm))] at e2 s2
   exact (key e2 s2 hblk.symm).elim
  ·rw [if_neg hc] at e1 s1
   by_cases hc':c'=h.next
   ·rw [if_pos hc'] at s2;cases s2
    exact (key e1 s1 hblk).elim
   ·rw [if_neg hc'] at e2 s2
    exact K.inj c c' o1 o2 l1 l2 e1 e2 s1 s2 hblk hne
section runs
variable {P:Program} {ts:Array TypeId} {ty sT xT elem:TypeId} (h0:ts[0]?=some sT) (h1:ts[1]?=some xT) (hu:∀ w,(underlying sT).run P w=.ok (.slice elem) w)
 {d:TypeDesc} (hd:∀ w,(underlying xT).run P w=.ok d w) (hi:isIntD d=false) {size:Nat} (hs:∀ w,(sizeOf elem).run P w=.ok size w)
 {sLen sCap n:Nat} {x':Value} (hn:∀ w',(Builtin.lenOf x').run P w'=.ok n w')
include h0 h1 hu hd hi hs hn
theorem run_append_in {ad:Addr} {us:List Value} {w':World} (hroom:sLen+n<=sCap) (hf:(Builtin.firstCells size n x').run P w=.ok us.toArray w) (hst:(storeCells (ad.add (sLen*size)) us).run P w=.ok () w') :
  (Builtin.append_ ts ty #[.slice (some ad) sLen sCap,x']).run P w=.ok (.slice (some ad) (sLen+n) sCap) w':=by
 unfold Builtin.append_
 cases d <;> first
  | (cases hi;done)
  | simp [h0,h1,hu,hd,hs,hn,hroom,hf,hst]
theorem run_append_nil0 {cs:Array Value} (hroom:sLen+n<=sCap) (hf:(Builtin.firstCells size n x').run P w=.ok cs w) :
  (Builtin.append_ ts ty #[.slice none sLen sCap,x']).run P w=.ok (.slice none (sLen+n) sCap) w:=by
 unfold Builtin.append_
 cases d <;> first
  | (cases hi;done)
  | simp [h0,h1,hu,hd,hs,hn,hroom,hf]
set_option maxHeartbeats 2000000 in
theorem run_append_out {base:Option Addr} {info:TypeInfo} {z:Value} (hinfo:P.info? elem=some info) (hz:info.zero=some z) (hg:sCap<sLen+n) (h63:sLen+n<=1000000) (hb:info.bytes<=1000000)
  {olds news:List Value} (hfo:(Builtin.firstCells size sLen (.slice base sLen sCap)).run P w.drew=.ok olds.toArray w.drew) (hf:(Builtin.firstCells size n x').run P w.drew=.ok news.toArray w.drew) :
  (Builtin.append_ ts ty #[.slice base sLen sCap,x']).run P w=.ok (.slice (some ⟨w.heap.size,0,none⟩) (sLen+n) (grownCap w (sLen+n) sCap elem))
    (w.drew.alloc (.cells (olds.toArray++news.toArray++Builtin.zeroCells z.cells (grownCap w (sLen+n) sCap elem-(sLen+n))) elem)):=by
 have hr:¬ (sLen+n<=sCap):=by omega
 have hmax:IntKind.i64.max=9223372036854775807:=rfl
 have h1':¬ ((9223372036854775807:Int)<(sLen:Int)+(n:Int)):=by omega
 have hcap:=nextslicecap_le hg
 have h2:Builtin.nextslicecap (sLen+n) sCap*info.bytes<=2000000*1000000:=Nat.mul_le_mul (by omega) hb
 have h2':¬ (281474976710656<Builtin.nextslicecap (sLen+n) sCap*info.bytes):=by omega
 unfold Builtin.append_
 cases d <;> first
  | (cases hi;done)
  | (
   simp [h0,h1,hu,hd,hs,hn,hr,hmax,h1',h2',zeroValue,typeInfo,hinfo,hz,Question.forced,Go.newRow,grownCap,hfo,hf]
   congr 2
   apply Array.ext'
   simp [List.append_assoc])
end runs
end Go.AM
namespace Go.AM
open Go Go.RowKit
variable {E:Env} (hE:EnvOK E) {σ:Sg} {T:Tm} {a:Act} {xs:List Operand} {lo:Nat} {h:AH} {w:World}
theorem OR.same {h h':AH} {o:AObj} {l:Loc} (H:OR σ h o l w) (e:∀ b,h'.get b=h.get b):OR σ h' o l w:=
 OR.mono H (Sg.le_refl σ) rfl fun m es v lm hm _=>⟨(e m) ▸ hm,rfl⟩
theorem HR.same {h h':AH} (H:HR lo σ h w) (en:h'.next=h.next) (e:∀ b,h'.get b=h.get b):HR lo σ h' w:=
 ⟨fun b l hb=>en ▸ H.dom b l hb,fun b hb=>(e b).trans (H.fresh b (en ▸ hb)),fun b o hb=>let ⟨l,x,y,z⟩:=H.live b o ((e b) ▸ hb);⟨l,x,y.same e,z⟩,
  fun b b' o o' l l' h1 h2=>H.inj b b' o o' l l' ((e b) ▸ h1) ((e b') ▸ h2),H.lo,H.kept⟩
theorem get_new_kill (h:AH) (b:Nat) (x:Option AObj) (y:AObj) (k:Nat):((h.upd b none).new y).get k=(((h.upd b x).upd b none).new y).get k:=by
 rw [AH.get_new,AH.get_new,AH.next_upd,AH.next_upd,AH.next_upd]
 by_cases hk1:k=h.next
 ·rw [if_pos hk1,if_pos hk1]
 ·rw [if_neg hk1,if_neg hk1,AH.get_upd,AH.get_upd]
  by_cases hk2:k=b
  ·rw [if_pos hk2,if_pos hk2]
  ·rw [if_neg hk2,if_neg hk2,AH.get_upd,if_neg hk2]
def AppR (P:Program) (lo:Nat) (σ:Sg) (w:World) (s:Sem Value) (v:Value) (h':AH):Prop:=
 ∃ v' w' τ,s.run P w=.ok v' w'/\Sg.le σ τ/\HR lo τ h' w'/\VR τ v v'/\Below lo w w'
theorem smallT_spec {i:TI} (h:smallT i=true):1<=i.size/\i.bytes<=1000000/\∃ z,i.zero=some z/\(cellsOfV z).length=i.size:=by
 unfold smallT at h
 simp only [Bool.and_eq_true,ble_true] at h
 obtain ⟨⟨h1,h2⟩,h3⟩:=h
 split at h3
 ·rename_i z hz;exact ⟨h1,h2,z,hz,by rw [← llen_eq];exact beq_true.1 h3⟩
 ·cases h3
section
variable {ts:Array TypeId} {ty sT xT elem:TypeId} (h0:ts[0]?=some sT) (h1:ts[1]?=some xT) (hu:elemT E sT=some elem) {d:TypeDesc} (hd:und E xT=some d) (hi:isIntD d=false)
 {i:TI} (hti:tinfo E elem=some i) (hsm:smallT i=true) {n:Nat} {cs:List Value} {x':Value} (hn:∀ w',(Builtin.lenOf x').run E.prog w'=.ok n w') (hlen:cs.length=n*i.size)
 (hsrc:∀ m,m<=n->∀ w',w'.heap=w.heap->∃ us:List Value,(Builtin.firstCells i.size m x').run E.prog w'=.ok us.toArray w'/\us.length=m*i.size/\VRs σ (cs.take (m*i.size)) us)
include hE h0 h1 hu hd hi hti hsm hn hlen hsrc
theorem appendOut_ok {hh:AH} (H:HR lo σ hh w) {base:Option Addr} {sLen sCap:Nat} (hg:sCap<sLen+n) (h6:sLen+n<=1000000) {own olds:List Value}
  (hfo:(Builtin.firstCells i.size sLen (.slice base sLen sCap)).run E.prog w.drew=.ok olds.toArray w.drew) (hol:own.length=sLen*i.size) (hov:VRs σ own olds) :
  AppR E.prog lo σ w (Builtin.append_ ts ty #[.slice base sLen sCap,x']) (.slice (some ⟨hh.next,0,none⟩) (sLen+n) (UNK+i.size)) (hh.new (.row (own++cs) elem i.size false)):=by
 obtain ⟨hs1,hs2,z,hz,hzl⟩:=smallT_spec hsm
 obtain ⟨info,i1,i2,i3,i4,i5,i6⟩:=hE.ty elem i hti
 have hs:tsize E elem=some i.size:=by unfold tsize;unfold tinfo at hti;rw [hti]
 obtain ⟨news,n1,n2,n3⟩:=hsrc n (Nat.le_refl _) w.drew rfl
 rw [List.take_of_length_le (by omega)] at n3
 have hrun:=run_append_out (ty:=ty) (w:=w) h0 h1 (run_und hE (elem_spec hE hu)) (run_und hE hd) hi (run_sizeOf' hE hs) hn i1 (i5.trans hz) hg h6 (by omega) hfo n1
 have hge:=grownCap_ge w (sLen+n) sCap elem
 have hzs:z.cells.size=i.size:=by rw [← hzl,cellsOf_eq];simp
 have hol2:=hov.length
 have hne:i.size≠0:=by omega
 obtain ⟨r1,r2,r3⟩:=grown_ok (w:=w.drew) (H.heap rfl) (ty:=elem) (es:=i.size) (tot:=grownCap w (sLen+n) sCap elem*i.size) (vs:=own++cs) (cs:=olds.toArray++news.toArray++Builtin.zeroCells z.cells (grownCap w (sLen+n) sCap elem-(sLen+n))) (by
   intro k v hk
   obtain ⟨u,q1,q2⟩:=(hov.append n3).get hk
   refine ⟨u,?_,q2⟩
   rw [← Array.getElem?_toList]
   simp only [Array.toList_append]
   rw [List.getElem?_append_left]
   ·exact q1
   ·have:=(List.getElem?_eq_some_iff.1 q1).1
    simpa using this) (by
   simp only [Array.size_append,List.size_toArray,size_zeroCells,hzs]
   rw [← hol2,hol,n2,← Nat.add_mul,← Nat.add_mul]
   congr 1
   omega) hne (by
   simp only [Array.size_append,List.size_toArray,List.length_append]
   have:=n3.length
   omega)
 refine ⟨_,_,_,hrun,r2,r1,?_,(below_drew1 w).trans r3⟩
 have:=VR.sliceU (σ:=σ.ext hh.next ⟨w.heap.size,0,grownCap w (sLen+n) sCap elem*i.size,i.size⟩) (b:=hh.next) (l:=⟨w.heap.size,0,grownCap w (sLen+n) sCap elem*i.size,i.size⟩) 0 (sLen+n) (grownCap w (sLen+n) sCap elem) (Sg.ext_self ..) (by simp) hge
 exact this
theorem appendIn_ok (H:HR lo σ h w) {b o len cap c:Nat} {l:Loc} {vs:List Value} {rty es:Nat} (hb:h.get b=some (.row vs rty es false)) (hσ:σ b=some l) (hroom:len+n<=c)
  (hv:VR σ (.slice (some ⟨b,o,none⟩) (len+n) cap) (.slice (some ⟨l.blk,l.base+o,none⟩) (len+n) c)) {v:Value} {h':AH} (e:appendIn b o len n cap (o+len*i.size) cs vs rty es h=some (v,h')) :
  AppR E.prog lo σ w (Builtin.append_ ts ty #[.slice (some ⟨l.blk,l.base+o,none⟩) len c,x']) v h':=by
 unfold appendIn at e
 cases hc:(cs.all isLeaf&&Nat.ble (o+len*i.size+llen cs) (llen vs)) with
 | false=>rw [hc] at e;cases e
 | true=>
 rw [hc] at e
 cases e
 simp only [Bool.and_eq_true,ble_true,llen_eq] at hc
 have hs:tsize E elem=some i.size:=by unfold tsize;unfold tinfo at hti;rw [hti]
 obtain ⟨news,n1,n2,n3⟩:=hsrc n (Nat.le_refl _) w rfl
 rw [List.take_of_length_le (by omega)] at n3
 obtain ⟨l',a1,⟨cc,el,frz,r1,r2⟩,_⟩:=H.live b _ hb
 rw [hσ] at a1;cases a1
 obtain ⟨cs',s1,s2⟩:=store_cells (P:=E.prog) r1 r2 (o+len*i.size) n3 hc.1 hc.2
 obtain ⟨q1,q2⟩:=H.updRow hb hσ s2
 refine ⟨_,_,σ,run_append_in (ty:=ty) (w:=w) h0 h1 (run_und hE (elem_spec hE hu)) (run_und hE hd) hi (run_sizeOf' hE hs) hn hroom n1 ?_,Sg.le_refl σ,q1,hv,q2⟩
 rw [add_none,Nat.add_assoc];exact s1
theorem store_behind {P:Program} {vs us us':List Value} {rty es:Nat} {l:Loc} {cc:Array Value} {el:TypeId} {frz:Nat×Nat} (hes:es≠0)
  (hw:w.heap[l.blk]?=some (.cells cc el frz)) (hr:RowR σ vs rty es false l cc el frz) (hu:VRs σ us us') (hleaf:us.all isLeaf=true) (hn:l.base+vs.length+us.length<=cc.size) :
  ∃ cs':Array Value,(storeCells ⟨l.blk,l.base+vs.length,none⟩ us').run P w=.ok () (World.put w l.blk (.cells cs' el frz))/\RowR σ (vs++us) rty es false l cs' el frz:=by
 have hf:=hr.free rfl
 subst hf
 have hlen:=hu.length
 have h1:∀ v∈us',v.oneCell'=true:=by
  intro v hv
  obtain ⟨k,hk⟩:=List.mem_iff_getElem?.1 hv
  have hlt:k<us.length:=by
   rcases Nat.lt_or_ge k us.length with h|h
   ·exact h
   ·rw [List.getElem?_eq_none (by omega)] at hk;cases hk
  obtain ⟨b,hb1,hb2⟩:=hu.get (List.getElem?_eq_getElem hlt)
  rw [hk] at hb1;cases hb1
  apply leaf_one
  rw [hb2.leaf]
  exact List.all_eq_true.1 hleaf _ (List.getElem_mem hlt)
 have hrun:=run_storeCells_at (P:=P) l.blk (l.base+vs.length) el us' 0 cc w hw (by omega) h1
 rw [setRow_put hw] at hrun
 refine ⟨_,hrun,?_⟩
 have hsz:(cc.toList.take (l.base+vs.length+0)++us'++cc.toList.drop (l.base+vs.length+0+us'.length)).toArray.size=cc.size:=by simp;omega
 refine ⟨?_,?_,hr.free,hr.elt,fun e=>absurd e hes,?_⟩
 ·rw [hsz,List.length_append];omega
 ·intro k v hk
  rw [List.getElem?_toArray,List.append_assoc,List.getElem?_append]
  have hm:(cc.toList.take (l.base+vs.length+0)).length=l.base+vs.length:=by simp;omega
  rw [hm]
  rw [List.getElem?_append] at hk
  split at hk
  ·rename_i hlt
   rw [if_pos (by omega),List.getElem?_take_of_lt (by omega),Array.getElem?_toList]
   exact hr.cell k v hk
  ·rename_i hge
   rw [if_neg (by omega)]
   obtain ⟨u,u1,u2⟩:=hu.get hk
   refine ⟨u,?_,u2⟩
   rw [show l.base+k-(l.base+vs.length)=k-vs.length by omega,List.getElem?_append_left]
   ·exact u1
   ·exact (List.getElem?_eq_some_iff.1 u1).1
 ·intro e
  obtain ⟨a,b⟩:=hr.grown e
  exact ⟨a,by rw [hsz];exact b⟩
theorem appendTo_ok (H:HR lo σ h w) {s s':Value} (hs:VR σ s s') {v:Value} {h':AH} (e:appendTo elem i.size s n cs h=some (v,h')):AppR E.prog lo σ w (Builtin.append_ ts ty #[s',x']) v h':=by
 obtain ⟨hs1,hs2,z,hz,hzl⟩:=smallT_spec hsm
 have hts:tsize E elem=some i.size:=by unfold tsize;unfold tinfo at hti;rw [hti]
 unfold appendTo at e
 split at e
 ·cases hs
  by_cases hn0:n=0
  ·rw [hn0] at e
   cases e
   obtain ⟨news,n1,n2,n3⟩:=hsrc n (Nat.le_refl _) w rfl
   have:=run_append_nil0 (ty:=ty) (w:=w) h0 h1 (run_und hE (elem_spec hE hu)) (run_und hE hd) hi (run_sizeOf' hE hts) hn (sLen:=0) (sCap:=0) (by omega) n1
   rw [hn0] at this
   exact ⟨_,_,σ,this,Sg.le_refl σ,H,.sliceN _ _,Below.refl _ _⟩
  ·rw [beq_false hn0] at e
   simp only [cond_false] at e
   unfold appendNew at e
   cases hc:Nat.ble n 1000000 with
   | false=>rw [hc] at e;cases e
   | true=>
   rw [hc] at e
   cases e
   rw [ble_true] at hc
   have:=appendOut_ok (ty:=ty) hE h0 h1 hu hd hi hti hsm hn hlen hsrc H (base:=none) (sLen:=0) (sCap:=0) (own:=[]) (olds:=[]) (by omega) (by omega) (by simp [Builtin.firstCells]) (by simp) .nil
   simpa using this
 ·rename_i b o len cap
  by_cases hn0:n=0
  ·rw [hn0] at e
   cases hc:Nat.ble len cap with
   | false=>rw [hc] at e;cases e
   | true=>
   rw [hc] at e
   cases e
   rw [ble_true] at hc
   obtain ⟨news,n1,n2,n3⟩:=hsrc n (Nat.le_refl _) w rfl
   have hnil:news=[]:=List.eq_nil_of_length_eq_zero (by rw [n2,hn0,Nat.zero_mul])
   subst hnil
   have fin:∀ {ad:Addr} {c:Nat},len<=c->(Builtin.append_ ts ty #[.slice (some ad) len c,x']).run E.prog w=.ok (.slice (some ad) len c) w:=by
    intro ad c hlc
    have:=run_append_in (ty:=ty) (w:=w) (w':=w) (ad:=ad) h0 h1 (run_und hE (elem_spec hE hu)) (run_und hE hd) hi (run_sizeOf' hE hts) hn (sLen:=len) (sCap:=c) (by omega) n1 rfl
    rw [hn0] at this;exact this
   cases hs with
   | slice _ _ _ hσ hcap=>exact ⟨_,_,σ,fin hc,Sg.le_refl σ,H,.slice _ _ _ hσ hcap,Below.refl _ _⟩
   | sliceU _ _ _ hσ hcap hnn=>exact ⟨_,_,σ,fin hnn,Sg.le_refl σ,H,.sliceU _ _ _ hσ hcap hnn,Below.refl _ _⟩
  ·rw [beq_false hn0] at e
   simp only [cond_false] at e
   split at e
   rotate_left
   ·cases e
   rename_i vs rty es ro hb
   have ownR:∀ {l:Loc} {c:Nat},σ b=some l->((vs.drop o).take (len*i.size)).length=len*i.size->∃ olds:List Value,(Builtin.firstCells i.size len (.slice (some ⟨l.blk,l.base+o,none⟩) len c)).run E.prog w.drew=.ok olds.toArray w.drew ∧
     VRs σ ((vs.drop o).take (len*i.size)) olds:=by
    intro l c hσ hl
    obtain ⟨l',a1,⟨cc,el,frz,r1,r2⟩,_⟩:=H.live b _ hb
    rw [hσ] at a1;cases a1
    obtain ⟨us,u1,u2,u3⟩:=load_cells (P:=E.prog) (w:=w.drew) r1 r2 o (len*i.size) hl
    exact ⟨us,u1,u3⟩
   unfold appendRow at e
   split at e
   ·
    rename_i hU
    rw [ble_true] at hU
    cases hc:(Nat.beq cap (UNK+i.size)&&Nat.beq es i.size&&!ro&&Nat.beq rty elem) with
    | false=>rw [hc] at e;cases e
    | true=>
    rw [hc] at e
    simp only [cond_true] at e
    simp only [Bool.and_eq_true,beq_true,Bool.not_eq_true'] at hc
    obtain ⟨⟨⟨c1,c2⟩,c3⟩,c4⟩:=hc
    subst c3
    cases hs with
    | slice _ _ _ hσ hcap=>omega
    | sliceU _ _ c hσ hcap hnn=>
    rename_i l
    have hes:l.es=i.size:=by omega
    have hne:es≠0:=by omega
    obtain ⟨l',a1,⟨cc,el,frz,r1,r2⟩,d0⟩:=H.live b _ hb
    rw [hσ] at a1;cases a1
    obtain ⟨g1,g2⟩:=r2.grown hne
    have hsz:=r2.size
    rw [hes] at hcap
    unfold appendUnk at e
    cases hA:Nat.ble (o+(len+n)*i.size) (llen vs) with
    | true=>
     rw [hA] at e
     rw [ble_true,llen_eq] at hA
     have hroom:len+n<=c:=Nat.le_of_mul_le_mul_right (by omega:(len+n)*i.size<=c*i.size) (by omega)
     exact appendIn_ok (ty:=ty) hE h0 h1 hu hd hi hti hsm hn hlen hsrc H hb hσ hroom (.sliceU _ _ _ hσ (by rw [hes];exact hcap) hroom) e
    | false=>
     rw [hA] at e
     simp only [cond_false] at e
     cases hB:Nat.beq (o+len*i.size) (llen vs) with
     | false=>rw [hB] at e;cases e
     | true=>
     rw [hB] at e
     simp only [cond_true] at e
     rw [beq_true,llen_eq] at hB
     unfold appendMove at e
     cases hL:cs.all isLeaf with
     | false=>rw [hL] at e;cases e
     | true=>
     rw [hL] at e
     simp only [cond_true] at e
     unfold appendNew at e
     cases h6:Nat.ble (len+n) 1000000 with
     | false=>rw [h6] at e;cases e
     | true=>
     rw [h6] at e
     simp only [cond_true,Option.some.injEq,Prod.mk.injEq] at e
     obtain ⟨e1,e2⟩:=e
     subst e1 e2
     rw [ble_true] at h6
     simp only [ltake_eq,ldrop_eq]
     have hown:(vs.drop o).take (len*i.size)=vs.drop o:=List.take_of_length_le (by rw [List.length_drop];omega)
     have hownl:(vs.drop o).length=len*i.size:=by rw [List.length_drop];omega
     rw [hown]
     by_cases hroom:len+n<=c
     ·
      obtain ⟨news,n1,n2,n3⟩:=hsrc n (Nat.le_refl _) w rfl
      rw [List.take_of_length_le (by omega)] at n3
      have hms:(len+n)*i.size<=c*i.size:=Nat.mul_le_mul_right _ hroom
      rw [Nat.add_mul] at hms
      obtain ⟨cs',s1,s2⟩:=store_behind (P:=E.prog) hE h0 h1 hu hd hi hti hsm hn hlen hsrc hne r1 r2 n3 hL (by rw [g2];omega)
      obtain ⟨q1,q2⟩:=H.updRow hb hσ s2
      have hr:=run_append_in (ty:=ty) (w:=w) h0 h1 (run_und hE (elem_spec hE hu)) (run_und hE hd) hi (run_sizeOf' hE hts) hn hroom n1 (ad:=⟨l.blk,l.base+o,none⟩) (by
       rw [add_none,show l.base+o+len*i.size=l.base+vs.length by omega];exact s1)
      obtain ⟨k1,k2⟩:=HR.rename q1 (b:=b) (vs:=vs++cs) (vs':=vs.drop o++cs) (ty:=rty) (es:=es) (o:=o) (l:=l) (by rw [AH.get_upd,if_pos rfl]) hσ hne (by omega) (by
       intro k u hk
       rw [← List.drop_append_of_le_length (by omega),List.getElem?_drop] at hk
       exact hk) (by simp;omega)
      subst c2 c4
      refine ⟨_,_,_,hr,k2,k1.same rfl (fun k=>?_),?_,q2⟩
      ·exact get_new_kill ..
      ·have:=VR.sliceU (σ:=σ.ext h.next ⟨l.blk,l.base+o,l.tot-o,i.size⟩) (b:=h.next) (l:=⟨l.blk,l.base+o,l.tot-o,i.size⟩) 0 (len+n) c (Sg.ext_self ..) (by simp only;omega) hroom
       exact this
     ·obtain ⟨olds,o1,o2⟩:=ownR (c:=c) hσ (by rw [hown];exact hownl)
      rw [hown] at o2
      have:=appendOut_ok (ty:=ty) hE h0 h1 hu hd hi hti hsm hn hlen hsrc (H.kill b) (base:=some ⟨l.blk,l.base+o,none⟩) (sLen:=len) (sCap:=c) (own:=vs.drop o) (olds:=olds) (by omega) h6 o1 hownl o2
      exact this
   ·rename_i hU
    rw [ble_false] at hU
    cases hs with
    | sliceU _ _ _ hσ hcap hnn=>omega
    | slice _ _ _ hσ hcap=>
    rename_i l
    cases hA:Nat.ble (len+n) cap with
    | true=>
     rw [hA] at e
     rw [ble_true] at hA
     cases ro with
     | true=>cases e
     | false=>exact appendIn_ok (ty:=ty) hE h0 h1 hu hd hi hti hsm hn hlen hsrc H hb hσ hA (.slice _ _ _ hσ hcap) e
    | false=>
     rw [hA] at e
     simp only [cond_false] at e
     rw [ble_false] at hA
     simp only [ltake_eq,ldrop_eq,llen_eq] at e
     cases hB:Nat.beq ((vs.drop o).take (len*i.size)).length (len*i.size) with
     | false=>rw [hB] at e;cases e
     | true=>
     rw [hB] at e
     rw [beq_true] at hB
     simp only [cond_true] at e
     unfold appendNew at e
     cases h6:Nat.ble (len+n) 1000000 with
     | false=>rw [h6] at e;cases e
     | true=>
     rw [h6] at e
     simp only [cond_true,Option.some.injEq,Prod.mk.injEq] at e
     obtain ⟨e1,e2⟩:=e
     subst e1 e2
     rw [ble_true] at h6
     obtain ⟨olds,o1,o2⟩:=ownR (c:=cap) hσ hB
     exact appendOut_ok (ty:=ty) hE h0 h1 hu hd hi hti hsm hn hlen hsrc H (base:=some ⟨l.blk,l.base+o,none⟩) (sLen:=len) (sCap:=cap) hA h6 o1 hB o2
 ·cases e
end
end Go.AM
namespace Go.AM
open Go Go.RowKit
variable {E:Env} (hE:EnvOK E) {σ:Sg} {T:Tm} {a:Act} {xs:List Operand} {lo:Nat} {h:AH} {w:World}
include hE in
theorem appendV_ok (H:HR lo σ h w) {ts:Array TypeId} {ty:TypeId} {s s' x x':Value} (hs:VR σ s s') (hx:VR σ x x') {v:Value} {h':AH} (e:appendV E ts.toList s x h=some (v,h')) :
  AppR E.prog lo σ w (Builtin.append_ ts ty #[s',x']) v h':=by
 unfold appendV at e
 split at e
 rotate_left
 ·cases e
 rename_i sT xT rest hts
 split at e
 rotate_left
 ·cases e
 rename_i elem d hu hd
 cases hi:isIntD d with
 | true=>rw [hi] at e;cases e
 | false=>
 rw [hi] at e
 simp only [cond_false] at e
 split at e
 rotate_left
 ·cases e
 rename_i i hti
 unfold appendSrc at e
 split at e
 rotate_left
 ·cases e
 rename_i n cs hsc
 cases hsm:smallT i with
 | false=>rw [hsm] at e;cases e
 | true=>
 rw [hsm] at e
 simp only [cond_true] at e
 obtain ⟨q1,q2,q3⟩:=sliceCells_ok (P:=E.prog) H hx hsc
 have h0:ts[0]?=some sT:=by rw [← Array.getElem?_toList,hts];rfl
 have h1:ts[1]?=some xT:=by rw [← Array.getElem?_toList,hts];rfl
 exact appendTo_ok (ty:=ty) hE h0 h1 hu hd hi hti hsm q1 q2 q3 H hs e
include hE in
theorem wClear_ok (H:HR lo σ h w) {ts:Array TypeId} {ty t:TypeId} (h0:ts[0]?=some t) {x x':Value} (hx:VR σ x x') {outs:List (Value×AH)} (e:wClear E t x h=some outs) :
  ∃ v h',outs=[(v,h')]/\AppR E.prog lo σ w (Builtin.clear_ ts ty #[x']) v h':=by
 unfold wClear at e
 split at e
 ·rename_i el _ _ hel
  cases e
  cases hx
  refine ⟨_,_,rfl,_,w,σ,?_,Sg.le_refl σ,H,.tuple .nil,Below.refl _ _⟩
  simp [Builtin.clear_,h0,run_und hE (elem_spec hE hel)]
 ·rename_i el b o n c hel
  have hu:=run_und hE (elem_spec hE hel)
  by_cases hn:n=0
  ·subst hn
   cases e
   refine ⟨_,_,rfl,.tuple #[],w,σ,?_,Sg.le_refl σ,H,.tuple .nil,Below.refl _ _⟩
   cases hx <;> simp [Builtin.clear_,h0,hu]
  ·rw [beq_false hn] at e
   simp only [cond_false] at e
   unfold clearRow at e
   split at e
   rotate_left
   ·cases e
   rename_i z size vs rty es hz hs hb
   cases hc:(Nat.ble (o+n*size) (llen vs)&&(cellsOfV z).all isLeaf&&Nat.beq (llen (cellsOfV z)) size) with
   | false=>rw [hc] at e;cases e
   | true=>
   rw [hc] at e
   cases e
   simp only [Bool.and_eq_true,ble_true,beq_true,llen_eq] at hc
   obtain ⟨⟨c1,c2⟩,c3⟩:=hc
   refine ⟨_,_,rfl,?_⟩
   have hzr:VR σ z z:=VR.of_flat 4 z (zero_flat hE hz)
   have hzz:VRs σ (rep n (cellsOfV z)) (rep n (cellsOfV z)):=by
    have:=hzr.cells
    rw [← cellsOf_eq] at this
    exact this.rep n
   have hleaf:(rep n (cellsOfV z)).all isLeaf=true:=by
    have aux:∀ k,(rep k (cellsOfV z)).all isLeaf=true:=by
     intro k
     induction k with
     | zero=>rfl
     | succ k ih=>simp only [rep,List.all_append,c2,ih,Bool.and_self]
    exact aux n
   have hcells:(Builtin.zeroCells z.cells n).toList=rep n (cellsOfV z):=by
    have hzs:z.cells.size=size:=by rw [← c3,cellsOf_eq];simp
    unfold Builtin.zeroCells
    rw [hzs]
    by_cases h00:n*size=0
    ·have:(rep n (cellsOfV z)).length=0:=by rw [rep_length,c3];exact h00
     rw [List.length_eq_zero_iff.1 this,h00];simp
    ·have:=zeros_eq c3 n h00
     rw [hzs] at this;exact this
   have main:∀ {l:Loc} {c':Nat},σ b=some l->AppR E.prog lo σ w (Builtin.clear_ ts ty #[.slice (some ⟨l.blk,l.base+o,none⟩) n c']) (.tuple #[]) (h.upd b (some (.row (lput vs o (rep n (cellsOfV z))) rty es false))):=by
    intro l c' hσ
    obtain ⟨l',a1,⟨cc,elt,frz,r1,r2⟩,_⟩:=H.live b _ hb
    rw [hσ] at a1;cases a1
    obtain ⟨cs',s1,s2⟩:=store_cells (P:=E.prog) r1 r2 o hzz hleaf (by rw [rep_length,c3];exact c1)
    obtain ⟨q1,q2⟩:=H.updRow hb hσ s2
    refine ⟨.tuple #[],_,σ,?_,Sg.le_refl σ,q1,.tuple .nil,q2⟩
    obtain ⟨k,rfl⟩:∃ k,n=k+1:=⟨n-1,by omega⟩
    simp [Builtin.clear_,h0,hu,run_zero hE hz,hcells,s1]
   cases hx with
   | slice _ _ _ hσ hcap=>exact main hσ
   | sliceU _ _ _ hσ hcap hnn=>exact main hσ
 ·cases e
include hE in
theorem wCopy_ok (H:HR lo σ h w) {ts:Array TypeId} {ty t:TypeId} (h0:ts[0]?=some t) {x x' y y':Value} (hx:VR σ x x') (hy:VR σ y y') {outs:List (Value×AH)} (e:wCopy E t x y h=some outs) :
  ∃ v h',outs=[(v,h')]/\AppR E.prog lo σ w (Builtin.copy_ ts ty #[x',y']) v h':=by
 unfold wCopy at e
 split at e
 rotate_left
 ·cases e
 rename_i el b o dn c hel
 have hu:=run_und hE (elem_spec hE hel)
 split at e
 rotate_left
 ·cases e
 rename_i size hs
 split at e
 rotate_left
 ·cases e
 rename_i sn cs hsc
 obtain ⟨q1,q2,q3⟩:=sliceCells_ok (P:=E.prog) H hy hsc
 have hk:cond (Nat.ble sn dn) sn dn=Nat.min sn dn:=by
  cases hb:Nat.ble sn dn with
  | true=>rw [ble_true] at hb;simp only [cond_true];exact (Nat.min_eq_left hb).symm
  | false=>rw [ble_false] at hb;simp only [cond_false];exact (Nat.min_eq_right (Nat.le_of_lt hb)).symm
 rw [hk] at e
 unfold copyRow at e
 split at e
 rotate_left
 ·cases e
 rename_i vs rty es hb
 cases hc:(Nat.ble (o+Nat.min sn dn*size) (llen vs)&&cs.all isLeaf) with
 | false=>rw [hc] at e;cases e
 | true=>
 rw [hc] at e
 cases e
 simp only [Bool.and_eq_true,ble_true,llen_eq] at hc
 refine ⟨_,_,rfl,?_⟩
 have hkn:Nat.min sn dn<=sn:=Nat.min_le_left ..
 obtain ⟨us,u1,u2,u3⟩:=q3 _ hkn w rfl
 have hle:Nat.min sn dn*size<=sn*size:=Nat.mul_le_mul_right _ hkn
 have main:∀ {l:Loc} {c':Nat},σ b=some l->AppR E.prog lo σ w (Builtin.copy_ ts ty #[.slice (some ⟨l.blk,l.base+o,none⟩) dn c',y']) (.int .i64 (Nat.min sn dn:Nat)) (h.upd b (some (.row (lput vs o (ltake (Nat.min sn dn*size) cs)) rty es false))):=by
  intro l c' hσ
  obtain ⟨l',a1,⟨cc,elt,frz,r1,r2⟩,_⟩:=H.live b _ hb
  rw [hσ] at a1;cases a1
  rw [ltake_eq]
  obtain ⟨cs',s1,s2⟩:=store_cells (P:=E.prog) r1 r2 o u3 (List.all_eq_true.2 fun v hv=>List.all_eq_true.1 hc.2 v (List.mem_of_mem_take hv)) (by rw [List.length_take];omega)
  obtain ⟨k1,k2⟩:=H.updRow hb hσ s2
  refine ⟨_,_,σ,?_,Sg.le_refl σ,k1,.int _ _,k2⟩
  simp [Builtin.copy_,h0,hu,q1,run_sizeOf' hE hs,u1,s1,goInt]
 cases hx with
 | slice _ _ _ hσ hcap=>exact main hσ
 | sliceU _ _ _ hσ hcap hnn=>exact main hσ
theorem liesAt_bytes_at {P:Program} {e:TypeId} (hc:P.cellsOf e=1) (count off n:Nat) (hn:off+n<=count):liesAt P P.depth e count off e n=true:=by
 have hd:P.depth=(2*(P.types.size+Made.depth)+1)+1:=rfl
 rw [hd]
 simp only [liesAt,Bool.or_eq_true]
 left
 rw [hd]
 simp [rowAt,hc,hn,sameLayout,Nat.mod_one]
theorem bytesOf_ok:∀ {l:List Value} {bs:List UInt8},bytesOf l=some bs->l.length=bs.length/\∀ (j:Nat) (b:UInt8),bs[j]?=some b->∃ i:Int,l[j]?=some (.int .u8 i)/\i.toNat.toUInt8=b
 | [],bs,h=>by cases h;simp
 | v::l,bs,h=>by
  cases v with
  | int k i=>
   cases k <;> first
    | (
      simp only [bytesOf] at h
      split at h
      ·rename_i r hr
       cases h
       obtain ⟨q1,q2⟩:=bytesOf_ok hr
       refine ⟨by simp [q1],fun j b hj=>?_⟩
       cases j with
       | zero=>simp at hj;subst hj;exact ⟨i,rfl,rfl⟩
       | succ j=>simp only [List.getElem?_cons_succ] at hj ⊢;exact q2 j b hj
      ·cases h)
    | (simp [bytesOf] at h;done)
  | _=>simp [bytesOf] at h
theorem run_loadBytes' {P:Program}:∀ (l:List UInt8) (ad:Addr) (acc:ByteArray),(∀ (j:Nat) (b:UInt8),l[j]?=some b->∃ i:Int,w.cell? (ad.add j)=some (.int .u8 i)/\i.toNat.toUInt8=b)->
  (loadBytes ad acc l.length).run P w=.ok ⟨acc.data++l.toArray⟩ w
 | [],ad,acc,_=>by simp [loadBytes]
 | x::l,ad,acc,hh=>by
  obtain ⟨i,h0,hx⟩:=hh 0 x rfl
  have h0':w.cell? ad=some (.int .u8 i):=by simpa [Addr.add] using h0
  have ih:=run_loadBytes' (P:=P) l (ad.add 1) (acc.push x) (fun j y hy=>by
   have:=hh (j+1) y (by simpa using hy)
   have e:(ad.add 1).add j=ad.add (j+1):=by
    unfold Addr.add
    by_cases hj:j=0
    ·subst hj;simp
    ·simp [hj];omega
   rw [e];exact this)
  simp only [List.length_cons,loadBytes,Sem.run_bind,run_load,h0',Result.andThen,hx]
  rw [ih]
  congr 1
  apply ByteArray.ext
  simp [ByteArray.push]
theorem freeze_put {g o n:Nat} {cs:Array Value} {el:TypeId} {frz:Nat×Nat} (hn:n≠0) (hg:w.heap[g]?=some (.cells cs el frz)):∃ frz',w.freeze ⟨g,o,none⟩ n=World.put w g (.cells cs el frz'):=by
 have hlt:=lt_of_get hg
 refine ⟨if frz.1==frz.2 then (o,o+n) else (min frz.1 o,max frz.2 (o+n)),?_⟩
 unfold World.freeze World.put
 rw [if_neg hn]
 congr 1
 apply Array.ext
 ·simp
 ·intro i h1 h2
  rw [Array.getElem_modify]
  by_cases e:g=i
  ·subst e
   have:w.heap[g]=.cells cs el frz:=(Array.getElem?_eq_some_iff.1 hg).2
   obtain ⟨f1,f2⟩:=frz
   simp [this]
  ·rw [Array.getElem_setIfInBounds]
   ·simp [e]
   ·simpa using h1
include hE in
theorem wUnsafeString_ok (H:HR lo σ h w) {ts:Array TypeId} {ty t:TypeId} (h0:ts[0]?=some t) {x x' y y':Value} (hx:VR σ x x') (hy:VR σ y y') {outs:List (Value×AH)} (e:wUnsafeString E t x y h=some outs) :
  ∃ v h',outs=[(v,h')]/\AppR E.prog lo σ w (Builtin.unsafeString_ ts ty #[x',y']) v h':=by
 unfold wUnsafeString at e
 split at e
 rotate_left
 ·cases e
 rename_i b o n hn
 obtain ⟨kd,hy'⟩:=asNat_ok hy hn
 subst hy'
 unfold usRow at e
 split at e
 rotate_left
 ·cases e
 rename_i vs rty es hb
 split at e
 rotate_left
 ·cases e
 rename_i bs hbs
 cases hc:(Nat.beq (llen bs) n&&Nat.ble 1 n&&Nat.ble n 9223372036854775807&&byteT E t rty) with
 | false=>rw [hc] at e;cases e
 | true=>
 rw [hc] at e
 cases e
 simp only [Bool.and_eq_true,beq_true,ble_true,llen_eq] at hc
 obtain ⟨⟨⟨c1,c2⟩,c3⟩,c4⟩:=hc
 refine ⟨_,_,rfl,?_⟩
 simp only [ltake_eq,ldrop_eq] at hbs
 obtain ⟨b1,b2⟩:=bytesOf_ok hbs
 cases hx with
 | ptr _ hσ=>
 rename_i l
 obtain ⟨l',a1,⟨cc,elt,frz,r1,r2⟩,_⟩:=H.live b _ hb
 rw [hσ] at a1;cases a1
 unfold byteT at c4
 split at c4
 rotate_left
 ·cases c4
 rename_i et het
 split at c4
 rotate_left
 ·cases c4
 rename_i hsz
 rw [beq_true] at c4
 subst c4
 have hel:=r2.elt
 subst hel
 have hcell1:E.prog.cellsOf elt=1:=by
  obtain ⟨info,i1,i2⟩:=tsize_spec hE hsz
  simp [Program.cellsOf,i1,i2]
 have hol:o+n<=vs.length:=by
  rw [List.length_take,List.length_drop] at b1;omega
 have hcs:=r2.size
 obtain ⟨frz',hf⟩:=freeze_put (w:=w) (o:=l.base+o) (n:=n) (by omega) r1
 have hr':RowR σ vs elt es true l cc elt frz':=⟨r2.size,r2.cell,(fun h=>by cases h),rfl,(fun _ h=>by cases h),r2.grown⟩
 obtain ⟨k1,k2⟩:=H.updRow hb hσ hr'
 refine ⟨_,_,σ,?_,Sg.le_refl σ,k1,.string _,k2⟩
 have hlb:=run_loadBytes' (P:=E.prog) (w:=w) bs ⟨l.blk,l.base+o,none⟩ .empty (by
  intro j x hj
  obtain ⟨i,q1,q2⟩:=b2 j x hj
  refine ⟨i,?_,q2⟩
  rw [add_none,cell_of_row r1]
  have hjn:j<n:=by rw [← c1];exact (List.getElem?_eq_some_iff.1 hj).1
  rw [List.getElem?_take_of_lt hjn,List.getElem?_drop] at q1
  obtain ⟨u,u1,u2⟩:=r2.cell _ _ q1
  cases u2
  rw [Nat.add_assoc];exact u1)
 have hlies:=liesAt_bytes_at (P:=E.prog) hcell1 (cc.size / E.prog.cellsOf elt) (l.base+o) n (by rw [hcell1,Nat.div_one];omega)
 have hmax:IntKind.i64.max=9223372036854775807:=rfl
 have h63':¬ (9223372036854775807:Int)<(n:Int):=by omega
 have hneg:¬ (n:Int)<0:=by omega
 have hn0:n≠0:=by omega
 have hs:w.shape? l.blk=some (elt,cc.size):=shape_of_row r1
 rw [c1] at hlb
 conv in Builtin.unsafeString_ _ _ _=>whnf
 simp [asInt,asIntOf,hmax,h63',hneg,hn0,h0,variablesAt,hs,elemOf,run_und hE het,hlies,hlb,hf]
end Go.AM
namespace Go.AM
open Go Go.RowKit
variable {E:Env} (hE:EnvOK E) {σ:Sg} {T:Tm} {a:Act} {xs:List Operand} {lo:Nat} {h:AH} {w:World}
def Goes (lo:Nat) (σ:Sg) (w:World) (outs:List (Value×AH)) (v':Value) (w':World):Prop:=
 ∃ x∈outs,∃ τ,Sg.le σ τ/\HR lo τ x.2 w'/\VR τ x.1 v'/\Below lo w w'
def Ret (G:Value->World->Prop):Ending->World->Prop
 | .returned v,w=>G v w
 | _,_=>False
def Upon (P:Program) (G:Value->World->Prop):Result Next->Prop
 | .ok (.value v) w'=>G v w'
 | .ok .skip w'=>G undef w'
 | .ok (.enter f args) w'=>CallsIn Fence.wide 0 P f args w' (Ret G)
 | .ok (.round l f tmps aas body) w'=>RoundIn Fence.wide 0 P l f tmps aas body w' (Ret G)
 | _=>False
def FW (F:Fence):Prop:=F=Fence.wide\/∃ l,F=Fence.wide.inRound l
theorem FW.fn {F:Fence} (h:FW F) (f:FuncId):F.fn f:=by
 rcases h with rfl|⟨l,rfl⟩ <;> trivial
theorem FW.depth {F:Fence} (h:FW F):¬ F.depth.isSome=true:=by
 rcases h with rfl|⟨l,rfl⟩ <;> simp [Fence.wide,Fence.inRound]
theorem FW.fenced {F:Fence} (h:FW F) (P:Program):Machine.fenced P F=Machine.fenced P Fence.wide:=by
 rcases h with rfl|⟨l,rfl⟩ <;> rfl
theorem FW.calls {F:Fence} (h:FW F) {n m:Nat} {P:Program} {f:FuncId} {args:Array Value} {R:Ending->World->Prop} (H:CallsIn Fence.wide m P f args w R):CallsIn F n P f args w R:=
 ⟨h.fn f,fun cs _=>by rw [h.fenced];exact H.2 cs (room_wide _)⟩
theorem FW.rounds {F:Fence} (h:FW F) {n m:Nat} {P:Program} {l:Nat} {f:FuncId} {tmps:Array Value} {aas body:Code} {R:Ending->World->Prop} (H:RoundIn Fence.wide m P l f tmps aas body w R):RoundIn F n P l f tmps aas body w R:=
 ⟨h.fn f,fun c cs _=>by rw [h.fenced];exact H.2 c cs (room_wide _)⟩
theorem Upon.uponIn {F:Fence} (hF:FW F) {n:Nat} {P:Program} {o:Oper} {next:Act->World->Prop} {Q:Exit->Act->World->Prop} {G:Value->World->Prop} {r:Result Next}
  (H:Upon P G r) (hn:∀ v w',G v w'->next (a.put o.dst v) w'):o.uponIn F n P a next Q r:=by
 unfold Upon at H
 split at H
 ·exact hn _ _ H
 ·exact hn _ _ H
 ·refine ⟨fun h=>absurd h hF.depth,hF.calls (CallsIn.mono H fun e w he=>?_)⟩
  cases e <;> first|exact hn _ _ he|exact he.elim
 ·refine ⟨fun h=>absurd h hF.depth,hF.rounds (RoundIn.mono H fun e w he=>?_)⟩
  cases e <;> first|exact hn _ _ he|exact he.elim
 ·exact H.elim
theorem Upon.wpIn {F:Fence} (hF:FW F) {n:Nat} {P:Program} {o:Oper} {next:Act->World->Prop} {Q:Exit->Act->World->Prop} {G:Value->World->Prop}
  (H:Upon P G ((execOp a.eval o).run P w)) (hd:∀ c,o.op≠.defer c) (hn:∀ v w',G v w'->next (a.put o.dst v) w'):o.wpIn F n P a w next Q:=
 ⟨fun _ _=>hF.fn _,by rw [Oper.semAt_eq _ _ _ hd];exact H.uponIn hF hn⟩
theorem Done.upon {P:Program} {o:Oper} {outs:List (Value×AH)} (H:Done P lo σ o a w outs):Upon P (Goes lo σ w outs) ((execOp a.eval o).run P w):=by
 obtain ⟨x,hx,nx,v',w',τ,r,hn,le,hr,hv,hb⟩:=H
 rw [r]
 rcases hn with rfl|⟨rfl,rfl⟩
 ·exact ⟨x,hx,τ,le,hr,hv,hb⟩
 ·exact ⟨x,hx,τ,le,hr,hv,hb⟩
structure RecOps (E:Env) (rec:Rec):Prop where
 call:∀ {lo:Nat} {σ:Sg} {h:AH} {w:World} {f:FuncId} {args args':List Value} {outs:List (Value×AH)},HR lo σ h w->VRs σ args args'->rec.call f args h=some outs->
  Upon E.prog (Goes lo σ w outs) ((callFunc f args'.toArray).run E.prog w)
 round:∀ {lo:Nat} {σ:Sg} {h:AH} {w:World} {l:Nat} {loc:Loc} {args args':List Value} {outs:List (Value×AH)},HR lo σ h w->σ l=some loc->VRs σ args args'->rec.round l args h=some outs->
  Upon E.prog (Goes lo σ w outs) ((Instr.yield loc.blk args'.toArray).run E.prog w)
theorem callFn_ok {rec:Rec} (hrec:RecOps E rec) (H:HR lo σ h w) {fn:Fn} {fs cs:Array Value} {f':Value} (hf:VR σ (.func fn fs cs) f') {args args':List Value} (ha:VRs σ args args') {outs:List (Value×AH)}
  (e:callFn rec fn fs.toList args cs.toList h=some outs):∃ d:Deferred,(∀ w,(Deferred.ofValue f' args'.toArray).run E.prog w=.ok d w)/\Upon E.prog (Goes lo σ w outs) ((invoke d.target d.args).run E.prog w):=by
 unfold callFn at e
 split at e
 ·cases hf with
  | func f hfs hcs=>
  rename_i fs' cs'
  refine ⟨{ target:=.fn (.func _) cs',args:=fs'++args'.toArray },fun _=>rfl,?_⟩
  have:=hrec.call H ((hfs.append ha).append hcs) e
  simp only [invoke]
  have hl:fs'++args'.toArray++cs'=(fs'.toList++args'++cs'.toList).toArray:=by apply Array.ext';simp
  rw [hl];exact this
 ·cases hf with
  | yield hσ hfs hcs=>
  rename_i l _ fs' cs'
  refine ⟨{ target:=.fn (.yield _) cs',args:=fs'++args'.toArray },fun _=>rfl,?_⟩
  have:=hrec.round H hσ (hfs.append ha) e
  simp only [invoke]
  have hl:fs'++args'.toArray=(fs'.toList++args').toArray:=by apply Array.ext';simp
  rw [hl];exact this
 ·cases e
theorem v1_some {x:Option Value} {outs:List (Value×AH)} (e:v1 x h=some outs):∃ v,x=some v/\outs=[(v,h)]:=by
 unfold v1 at e
 split at e
 ·cases e;exact ⟨_,rfl,rfl⟩
 ·cases e
theorem AppR.upon {P:Program} {o:Oper} {c:Call} {b:Builtin} (ho:o.op=.call c) (hb:c.callee=.builtin b) {v:Value} {h':AH} {s:Sem Value} (H:AppR P lo σ w s v h')
  (hx:∀ consts,builtin b c.argTypes o.type consts (c.args.map a.eval)=(do pure (.value (← s)):Sem Next)):Upon P (Goes lo σ w [(v,h')]) ((execOp a.eval o).run P w):=by
 obtain ⟨v',w',τ,r,le,hr,hv,hbel⟩:=H
 rw [exec_builtin ho hb,hx,bind_value r]
 exact ⟨(v,h'),by simp,τ,le,hr,hv,hbel⟩
theorem VRs.two {x y:Value} {l:List Value} (hh:VRs σ [x,y] l):∃ x' y',l=[x',y']/\VR σ x x'/\VR σ y y':=by
 cases hh with
 | cons h1 hs=>cases hs with
  | cons h2 hs=>cases hs;exact ⟨_,_,rfl,h1,h2⟩
theorem VRs.one1 {x:Value} {l:List Value} (hh:VRs σ [x] l):∃ x',l=[x']/\VR σ x x':=by
 cases hh with
 | cons h1 hs=>cases hs;exact ⟨_,rfl,h1⟩
include hE in
theorem wBuiltin_ok (H:HR lo σ h w) {o:Oper} {c:Call} {b:Builtin} (ho:o.op=.call c) (hb:c.callee=.builtin b) (hT:OpsR σ T a o.op.operands.toList) {vs:List Value} (hvs:opnds T c.args.toList=some vs)
  {outs:List (Value×AH)} (e:wBuiltin E b c vs h=some outs):Upon E.prog (Goes lo σ w outs) ((execOp a.eval o).run E.prog w):=by
 have hargs:=opnds_ok hT (ys:=c.args.toList) (fun y hy=>by rw [ho];simp only [Op.operands,Call.operands,hb,Array.toList_append,List.mem_append];exact .inr hy) hvs
 have harr:∀ l:List Value,c.args.toList.map a.eval=l->c.args.map a.eval=⟨l⟩:=fun l hl=>by apply Array.ext';simp [hl]
 unfold wBuiltin at e
 split at e
 ·rename_i s x _
  obtain ⟨s',x',h1,h2,h3⟩:=hargs.two
  unfold v2 at e
  split at e
  ·rename_i r hr
   cases e
   obtain ⟨v,h'⟩:=r
   exact AppR.upon ho hb (appendV_ok (ty:=o.type) hE H h2 h3 hr) (fun _=>by rw [harr _ h1];rfl)
  ·cases e
 ·rename_i x t _ hts
  obtain ⟨x',h1,h2⟩:=hargs.one1
  have h0:c.argTypes[0]?=some t:=by rw [← Array.getElem?_toList,hts];rfl
  obtain ⟨v,h',rfl,hA⟩:=wClear_ok (ty:=o.type) hE H h0 h2 e
  exact AppR.upon ho hb hA (fun _=>by rw [harr _ h1];rfl)
 ·rename_i d s t _ hts
  obtain ⟨d',s',h1,h2,h3⟩:=hargs.two
  have h0:c.argTypes[0]?=some t:=by rw [← Array.getElem?_toList,hts];rfl
  obtain ⟨v,h',rfl,hA⟩:=wCopy_ok (ty:=o.type) hE H h0 h2 h3 e
  exact AppR.upon ho hb hA (fun _=>by rw [harr _ h1];rfl)
 ·rename_i p n t _ hts
  obtain ⟨p',n',h1,h2,h3⟩:=hargs.two
  have h0:c.argTypes[0]?=some t:=by rw [← Array.getElem?_toList,hts];rfl
  obtain ⟨v,h',rfl,hA⟩:=wUnsafeString_ok (ty:=o.type) hE H h0 h2 h3 e
  exact AppR.upon ho hb hA (fun _=>by rw [harr _ h1];rfl)
 ·cases e
include hE in
theorem evWrite_ok {rec:Rec} (hrec:RecOps E rec) (H:HR lo σ h w) {o:Oper} (hT:OpsR σ T a o.op.operands.toList) {outs:List (Value×AH)} (e:evWrite E rec T o h=some outs) :
  Upon E.prog (Goes lo σ w outs) ((execOp a.eval o).run E.prog w)/\∀ c,o.op≠.defer c:=by
 unfold evWrite at e
 split at e
 ·rename_i t ho;exact ⟨(wAlloc_ok hE H ho e).upon,fun c hc=>by rw [ho] at hc;cases hc⟩
 ·rename_i t x ho;exact ⟨(wBox_ok H ho hT e).upon,fun c hc=>by rw [ho] at hc;cases hc⟩
 ·rename_i t x y ho;exact ⟨(wStore_ok hE H ho hT e).upon,fun c hc=>by rw [ho] at hc;cases hc⟩
 ·rename_i t len ps ho;exact ⟨(wBuildSlice_ok hE H ho hT e).upon,fun c hc=>by rw [ho] at hc;cases hc⟩
 ·rename_i t ho;cases e;exact ⟨(wMakeMap_ok H ho).upon,fun c hc=>by rw [ho] at hc;cases hc⟩
 ·rename_i t l c ho;exact ⟨(wMakeSlice_ok hE H ho hT e).upon,fun c hc=>by rw [ho] at hc;cases hc⟩
 ·rename_i t m k v ho;exact ⟨(wMapUpdate_ok hE H (.inl ho) hT e).upon,fun c hc=>by rw [ho] at hc;cases hc⟩
 ·rename_i t m k v ho;exact ⟨(wMapUpdate_ok hE H (.inr ho) hT e).upon,fun c hc=>by rw [ho] at hc;cases hc⟩
 ·rename_i t x ho
  split at e
  ·rename_i k v hu;exact ⟨(wRange_ok hE H ho hT e ⟨k,v,hu⟩).upon,fun c hc=>by rw [ho] at hc;cases hc⟩
  ·cases e
 ·rename_i x s ho;exact ⟨(wNext_ok H ho hT e).upon,fun c hc=>by rw [ho] at hc;cases hc⟩
 ·rename_i c ho
  refine ⟨?_,fun c hc=>by rw [ho] at hc;cases hc⟩
  unfold wCall at e
  split at e
  ·rename_i b hb
   split at e
   ·rename_i vs hvs;exact wBuiltin_ok hE H ho hb hT hvs e
   ·cases e
  ·rename_i f hf
   unfold wCallV at e
   split at e
   ·rename_i fn fs cs args hfv hargs
    have h1:=opnd_ok hT (x:=f) (by rw [ho];simp [Op.operands,Call.operands,hf]) hfv
    have h2:=opnds_ok hT (ys:=c.args.toList) (fun y hy=>by rw [ho];simp only [Op.operands,Call.operands,hf,Array.toList_append,List.mem_append];exact .inr hy) hargs
    obtain ⟨d,d1,d2⟩:=callFn_ok hrec H h1 h2 e
    have harr:c.args.map a.eval=(c.args.toList.map a.eval).toArray:=by apply Array.ext';simp
    simp only [execOp,ho,resolve,hf,Sem.run_bind,harr,d1,Result.andThen_ok]
    exact d2
   ·cases e
  ·cases e
 ·cases e
include hE in
theorem evOp_ok {rec:Rec} (hrec:RecOps E rec) (H:HR lo σ h w) {o:Oper} (hT:OpsR σ T a o.op.operands.toList) {outs:List (Value×AH)} (e:evOp E rec T o h=some outs) :
  Upon E.prog (Goes lo σ w outs) ((execOp a.eval o).run E.prog w)/\∀ c,o.op≠.defer c:=by
 unfold evOp at e
 split at e
 ·obtain ⟨v,hv,rfl⟩:=v1_some e
  obtain ⟨v',q1,q2⟩:=evPure_ok hE hT hv
  refine ⟨?_,fun c hc=>by simp [evPure,hc] at hv⟩
  rw [q1 w]
  exact ⟨(v,h),by simp,σ,Sg.le_refl σ,H,q2,Below.refl _ _⟩
 ·obtain ⟨v,hv,rfl⟩:=v1_some e
  obtain ⟨v',q1,q2⟩:=evRead_ok hE H hT hv
  refine ⟨?_,fun c hc=>by simp [evRead,hc] at hv⟩
  rw [q1]
  exact ⟨(v,h),by simp,σ,Sg.le_refl σ,H,q2,Below.refl _ _⟩
 ·exact evWrite_ok hE hrec H hT e
end Go.AM
namespace Go.AM
open Go Go.RowKit
variable {E:Env} (hE:EnvOK E) {σ:Sg} {T:Tm} {a:Act} {lo:Nat} {h:AH} {w:World} {F:Fence} (hF:FW F)
theorem bindL_some {α β:Type} {f:α->R β}:∀ {l:List α} {bs:List β},bindL f l=some bs->∀ b∈l,∃ cs,f b=some cs/\∀ c∈cs,c∈bs
 | [],bs,_,b,hb=>by cases hb
 | a::aas,bs,h,b,hb=>by
  simp only [bindL] at h
  split at h
  ·cases h
  ·rename_i xs h1
   split at h
   ·cases h
   ·rename_i ys h2
    cases h
    rcases List.mem_cons.1 hb with rfl|hb
    ·exact ⟨xs,h1,fun c hc=>by simp [hc]⟩
    ·obtain ⟨cs,q1,q2⟩:=bindL_some h2 b hb
     exact ⟨cs,q1,fun c hc=>by simp [q2 c hc]⟩
theorem andThen_some {α β:Type} {x:R α} {f:α->R β} {bs:List β} (h:R.andThen x f=some bs):∃ l,x=some l/\∀ b∈l,∃ cs,f b=some cs/\∀ c∈cs,c∈bs:=by
 unfold R.andThen at h
 split at h
 ·cases h
 ·rename_i b;exact ⟨[b],rfl,fun c hc=>by simp at hc;subst hc;exact ⟨bs,h,fun d hd=>hd⟩⟩
 ·rename_i l _;exact ⟨l,rfl,bindL_some h⟩
inductive DefsR (σ:Sg):List Nat->List Deferred->Prop
 | nil:DefsR σ [] []
 | cons {b:Nat} {l:Loc} {bs:List Nat} {ds:List Deferred} (h:σ b=some l) (hs:DefsR σ bs ds):DefsR σ (b::bs) ({ target:=.collected l.blk,args:=#[] }::ds)
theorem DefsR.mono {σ τ:Sg} (le:Sg.le σ τ):∀ {bs:List Nat} {ds:List Deferred},DefsR σ bs ds->DefsR τ bs ds
 | _,_,.nil=>.nil
 | _,_,.cons h hs=>.cons (le _ _ h) (DefsR.mono le hs)
structure StR (n lo:Nat) (σ:Sg) (st:St) (a:Act) (w:World):Prop where
 T:TmR σ st.T a.tmps
 H:HR lo σ st.h w
 D:DefsR σ st.defs a.defers
 n:st.T.n=n
theorem TmR.ops (hT:TmR σ T a.tmps) (xs:List Operand):OpsR σ T a xs:=fun t _=>hT.get t
theorem wantedT_ok {all:Array Oper} {o:Oper} {b:Bool} (hg:∀ d,d∈guardD all.toList o->VR σ (T.get d) (a.tmps.getD d undef)) (e:wantedT o all.toList T=some b):Region.wanted o (yielded all a.tmps)=b:=by
 unfold wantedT at e
 unfold Region.wanted
 split at e
 ·rename_i hno
  cases e
  simp [hno]
 ·rename_i j want hj
  simp only [hj]
  unfold yielded
  split at e
  ·rename_i oj hoj
   rw [lnth_eq,Array.getElem?_toList] at hoj
   rw [hoj]
   simp only [Option.bind_some]
   split at e
   ·rename_i d hd
    have hv:=hg d (by unfold guardD;rw [hj];simp only;rw [lnth_eq,Array.getElem?_toList,hoj];simp [hd])
    rw [hd]
    simp only [Option.bind_some]
    rw [Array.getD_eq_getD_getElem?] at hv
    cases ht:a.tmps[d]? with
    | none=>
     rw [ht] at hv
     simp only [Option.getD_none] at hv
     generalize hq:T.get d=q at hv e
     cases hv
     simp only [Option.some.injEq] at e
     simp [e]
    | some v=>
     rw [ht] at hv
     simp only [Option.getD_some] at hv
     generalize hq:T.get d=q at hv e
     cases hv <;> simp only [Option.some.injEq] at e <;> simp [← e]
   ·rename_i hd
    cases e
    rw [hd];simp
  ·rename_i hoj
   cases e
   rw [lnth_eq,Array.getElem?_toList] at hoj
   rw [hoj];simp
theorem opFits_lt {n:Nat} {o:Oper} (h:opFits n o=true) {d:Tmp} (hd:o.dst=some d):d<n:=by
 unfold opFits at h
 rw [hd] at h
 exact ble_true.1 h
theorem TmR.putDst {n:Nat} (hT:TmR σ T a.tmps) (hn:T.n=n) {o:Oper} (hf:opFits n o=true) {v v':Value} (hv:VR σ v v'):TmR σ (AM.putDst T o.dst v) (a.put o.dst v').tmps:=by
 unfold AM.putDst Act.put
 cases hd:o.dst with
 | none=>simpa using hT
 | some d=>exact hT.put (by rw [hn];exact opFits_lt hf hd) hv
theorem putDst_n (T:Tm) (d:Option Tmp) (v:Value):(AM.putDst T d v).n=T.n:=by
 unfold AM.putDst;split <;> rfl
theorem Act.put_defers' (a:Act) (d:Option Tmp) (v:Value):(a.put d v).defers=a.defers:=by
 unfold Act.put;split <;> rfl
include hE hF in
theorem evOps_ok {rec:Rec} (hrec:RecOps E rec) {n k:Nat} {all:Array Oper} (hfit:∀ o∈all.toList,opFits n o=true) {Q:Exit->Act->World->Prop}:∀ (rest:List Oper) (i:Nat),all.toList.drop i=rest->
  ∀ {σ:Sg} {st:St} {a:Act} {w:World} {outs:List St},StR n lo σ st a w->evOps E rec all.toList rest st=some outs->
  (∀ st'∈outs,∀ τ a' w',Sg.le σ τ->StR n lo τ st' a' w'->Below lo w w'->Q .normal a' w')->wpOpsIn F k E.prog all Q (List.range' i rest.length) a w:=by
 intro rest
 induction rest with
 | nil=>
  intro i hi σ st a w outs hst e hQ
  simp only [evOps,one,Option.some.injEq] at e
  subst e
  simp only [List.length_nil,List.range'_zero,wpOpsIn]
  exact hQ st (by simp) σ a w (Sg.le_refl σ) hst (Below.refl _ _)
 | cons o rest ih=>
  intro i hi σ st a w outs hst e hQ
  have hoi:all[i]?=some o:=by
   rw [← Array.getElem?_toList]
   have:=congrArg (·[0]?) hi
   simpa [List.getElem?_drop] using this
  have hrest:all.toList.drop (i+1)=rest:=by
   have:all.toList.drop (i+1)=(all.toList.drop i).drop 1:=by rw [List.drop_drop]
   rw [this,hi];rfl
  have hof:opFits n o=true:=hfit o (List.mem_of_getElem? (by rw [Array.getElem?_toList];exact hoi))
  simp only [List.length_cons,List.range'_succ,wpOpsIn,hoi]
  simp only [evOps] at e
  split at e
  ·rename_i hw
   have hwant:=wantedT_ok (a:=a) (fun d _=>hst.T.get d) hw
   rw [if_pos hwant]
   obtain ⟨xs,hx,hnext⟩:=andThen_some e
   obtain ⟨hup,hnd⟩:=evOp_ok hE hrec hst.H (hst.T.ops _) hx
   refine hup.wpIn hF hnd fun v w' hg=>?_
   obtain ⟨x,hxm,τ,le,hr,hv,hb⟩:=hg
   obtain ⟨cs,hc,hsub⟩:=hnext x hxm
   refine ih (i+1) hrest (σ:=τ) ⟨(hst.T.mono le).putDst hst.n hof hv,hr,?_,?_⟩ hc fun st' hm υ a' w'' le' hs' hb'=>?_
   ·rw [Act.put_defers'];exact hst.D.mono le
   ·show (AM.putDst _ _ _).n=_
    rw [putDst_n];exact hst.n
   ·exact hQ st' (hsub _ hm) υ a' w'' (Sg.le_trans le le') hs' (hb.trans hb')
  ·rename_i hw
   have hwant:=wantedT_ok (a:=a) (fun d _=>hst.T.get d) hw
   rw [if_neg (by rw [hwant];simp)]
   refine ⟨fun f _=>hF.fn f,?_⟩
   refine ih (i+1) hrest (σ:=σ) (st:=⟨AM.putDst st.T o.dst undef,st.h,st.defs⟩) ⟨hst.T.putDst (v':=undef) hst.n hof (.tuple .nil),hst.H,?_,?_⟩ e fun st' hm υ a' w'' le' hs' hb'=>hQ st' hm υ a' w'' le' hs' hb'
   ·rw [Act.put_defers'];exact hst.D
   ·show (AM.putDst _ _ _).n=_
    rw [putDst_n];exact hst.n
  ·cases e
end Go.AM
