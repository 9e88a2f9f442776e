import Derived.Test.YthmnhjcmefjgjaaGreatDoorXAG
import Derived.Test.YthmnhjcmefjgjaaGreatDoorXAD
import Derived.Test.YthmnhjcmefjgjaaGreatDoorXAE
set_option linter.all false
set_option linter.unusedSectionVars false
set_option autoImplicit true
set_option relaxedAutoImplicit true
namespace Go.Proofs
open Go Go.AM
set_option maxRecDepth 100000
set_option maxHeartbeats 1000000
abbrev Rel:=List (Int×Int)
def ent (R:Rel):List (Value×Value):=R.map fun p=>(.agg ⟨prCells p⟩,.bool true)
theorem u54:und E 54=some (.array 2 3):=und_54
theorem u3:und E 3=some (.int .i64):=by kernel_rfl
theorem mk174:mapKE E 174=some (54,4):=by kernel_rfl
theorem z4:zeroV E 4=some (.bool false):=by kernel_rfl
theorem allInts2 (a b c d:Int):allInts [.int .i64 a,.int .i64 b] [.int .i64 c,.int .i64 d]=some (decide ((a,b)=(c,d))):=by
 have hb:allInts [.int .i64 b] [.int .i64 d]=some (decide (b=d)):=by
  simp only [allInts]
  have:keq .i64 .i64=true:=rfl
  simp only [this,if_true,ieq_iff]
  by_cases h:b=d
  ·simp [h]
  ·have:(b==d)=false:=by simpa using h
   simp [this,h]
 simp only [allInts] at hb ⊢
 have hk:keq .i64 .i64=true:=rfl
 simp only [hk,if_true,ieq_iff] at hb ⊢
 rw [hb]
 by_cases h:a=c
 ·simp [h]
 ·have:(a==c)=false:=by simpa using h
  simp [this,h]
theorem keyEq54 (p q:Int×Int):keyEq E 54 (.agg ⟨prCells p⟩) (.agg ⟨prCells q⟩)=some (decide (p=q)):=by
 simp only [keyEq,u54,u3,ts_3,prCells,llen]
 show cond (Nat.beq (0+1+1) 2) (allInts [.int .i64 p.1,.int .i64 p.2] [.int .i64 q.1,.int .i64 q.2]) none=_
 rw [allInts2]
 rfl
theorem keyOk54 (p:Int×Int):keyOk E 54 (.agg ⟨prCells p⟩)=true:=by
 simp only [keyOk,u54,u3,ts_3,prCells];rfl
theorem find54:∀ {R:Rel},R.Nodup->∀ q:Int×Int,findEntry E 54 (.agg ⟨prCells q⟩) (ent R)=some (if q∈R then some (.bool true) else none)
 | [],_,q=>by simp [ent,findEntry]
 | p::R,h,q=>by
  obtain ⟨h1,h2⟩:=List.nodup_cons.1 h
  have ih:=find54 h2 q
  simp only [ent,List.map_cons,findEntry] at ih ⊢
  rw [keyEq54,ih]
  by_cases e:q=p
  ·subst e
   simp [h1]
  ·simp [e]
theorem look174 {h:AH} {m ver:Nat} {R:Rel} (hm:h.get m=some (.map (ent R) ver)) (hR:R.Nodup) (q:Int×Int) :
  rLookup E 174 false (some (.map (some m))) (some (.agg ⟨prCells q⟩)) h=some (.bool (decide (q∈R))):=by
 simp only [rLookup,lookupV,mk174,entriesOf,hm,keyOk54,cond_true,find54 hR]
 by_cases e:q∈R
 ·simp [e,foundV,okV]
 ·simp [e,foundV,z4,okV]
theorem pb54 {a b:Int}:pBuild E 54 (some [(0,.int .i64 a),(1,.int .i64 b)])=some (.agg ⟨prCells (a,b)⟩):=by kernel_rfl
abbrev coup (x y:Value) (m:Nat):List Value:=[x,y,.map (some m)]
theorem call123 {k:AH} {x y:Value} {m ver:Nat} {R:Rel} (hok:k.ok) (hm:k.get m=some (.map (ent R) ver)) (hml:m<k.next) (hR:R.Nodup) (s t:Int) :
  (recI E).call 123 [.agg ⟨coup x y m⟩,.int .i64 s,.int .i64 t] k=some [(.bool (decide ((s,t)∈R)),k)]:=by
 refine F123_flat (s:=true) hok rfl (P123_0_of ?_)
 simp only [new_row,ev_one,cells_agg,evO_some]
 refine P123_1_of ?_
 have o1:=(Own.fresh k).new (.row (coup x y m) 176 0 false)
 have t1:=get_new_self k.fresh (.row (coup x y m) 176 0 false)
 simp only [next_fresh] at t1 ⊢
 generalize k.fresh.new (.row (coup x y m) 176 0 false)=k1 at o1 t1
 have l2:=load_leaf (P:=E) ta_174 (o:=2) t1
 simp only [lnth,coup] at l2
 have hm1:=(o1.ext.get m hml).trans hm
 simp only [fa_176_2,Nat.zero_add,l2,evO_some,pb54,look174 hm1 hR,kR_1,ne_ret,true_and]
 exact o1.wm
def stepIs (R:Rel) (x y:Int×Int):Bool:=decide (y.1=x.1)&&decide ((x.2,y.2)∈R)
theorem call174 {k:AH} {gx gy:Value} {m ver:Nat} {R:Rel} {x y:Int×Int} {bx bf ty1 ty2:Nat} (hok:k.ok) (hm:k.get m=some (.map (ent R) ver)) (hml:m<k.next) (hR:R.Nodup) (hx:k.get bx=some (.row (prCells x) ty1 0 false)) (hxl:bx<k.next) (hf:k.get bf=some (.row (coup gx gy m) ty2 0 false)) (hfl:bf<k.next) :
  (recI E).call 174 [.agg ⟨prCells y⟩,ptr bx,ptr bf] k=some [(.bool (stepIs R x y),k)]:=by
 refine F174_flat (s:=true) hok rfl (P174_0_of ?_)
 simp only [new_row,ev_one,cells_agg,evO_some]
 refine P174_1_of ?_
 have o1:=(Own.fresh k).new (.row (prCells y) 134 0 false)
 have t1:=get_new_self k.fresh (.row (prCells y) 134 0 false)
 simp only [next_fresh] at t1 ⊢
 generalize k.fresh.new (.row (prCells y) 134 0 false)=k1 at o1 t1
 have hx1:=(o1.ext.get bx hxl).trans hx
 have hf1:=(o1.ext.get bf hfl).trans hf
 have hm1:=(o1.ext.get m hml).trans hm
 have y0:=load_leaf (P:=E) ta_3 (o:=0) t1
 have y1:=load_leaf (P:=E) ta_3 (o:=1) t1
 have x0:=load_leaf (P:=E) ta_3 (o:=0) hx1
 have x1:=load_leaf (P:=E) ta_3 (o:=1) hx1
 have lf:=load_agg (P:=E) ta_176 (o:=0) hf1 (by simp [coup])
 rw [List.drop_zero,List.take_of_length_le (by simp [coup])] at lf
 simp only [lnth,prCells] at y0 y1 x0 x1
 simp only [fa_134_0,fa_134_1,Nat.add_zero,Nat.zero_add,y0,x0,evO_some,bf_eql]
 by_cases e:y.1=x.1
 ·simp only [e,decide_true,gdB_bool,gdW_bool,beq_self_eq_true,cond_true,fa_178_0,fa_134_1,Nat.add_zero,Nat.zero_add,lf,x1,y1,evO_some,wCall_0,call123 o1.ext.ok hm1 (Nat.lt_of_lt_of_le hml o1.ext.next) hR,ev_some,pick_bool,kR_1,ne_ret,true_and,stepIs,Bool.true_and]
  exact o1.wm
 ·simp only [e,decide_false,gdB_bool,gdW_bool,gdB_undef,gdW_undef,show (false==true)=false from rfl,cond_false,evO_some,ev_one,pick_bool,kR_1,ne_ret,true_and,stepIs,Bool.false_and]
  exact o1.wm
theorem cell_arr {h:AH} {c:Value} {S:Steps} (k:CellOK h c S):Arr h 2 c (S.map prCells):=by
 rcases k with ⟨rfl,rfl⟩|⟨b,rfl,hg,hlt⟩
 ·exact .nil _ _
 ·have:=Arr.row (h:=h) (z:=2) (b:=b) (o:=0) (c:=UNK+2) (els:=S.map prCells) hg hlt (by simp [stc_len]) (fun i e he=>by
   simp only [List.getElem?_map] at he
   cases hx:S[i]? with
   | none=>rw [hx] at he;cases he
   | some x=>
    rw [hx] at he
    simp only [Option.map_some,Option.some.injEq] at he
    subst he
    refine ⟨rfl,?_⟩
    rw [Nat.zero_add]
    have:∀ (S:Steps) (i:Nat),S[i]?=some x->((stc S).drop (i*2)).take 2=prCells x:=by
     intro S
     induction S with
     | nil=>intro i h;simp at h
     | cons y S ih=>
      intro i h
      cases i with
      | zero=>simp at h;subst h;rfl
      | succ i=>
       rw [show (i+1)*2=i*2+2 by omega]
       have:=ih i (by simpa using h)
       rw [← this]
       rfl
    exact this S i hx)
  simpa using this
theorem idx_any (p:Nat->Bool) (n:Nat):decide (0<=idxFrom p n 0)=(List.range n).any p:=by
 have h:=idxFrom_neg (p:=p) n 0
 cases hb:(List.range n).any p with
 | true=>
  have:¬ idxFrom p n 0<0:=by
   intro hneg
   have:=h.2 hneg
   obtain ⟨j,hj,hp⟩:=List.any_eq_true.1 hb
   rw [this j (Nat.zero_le _) (by have:=List.mem_range.1 hj;omega)] at hp
   cases hp
  exact decide_eq_true (by omega)
 | false=>
  have:idxFrom p n 0<0:=h.1 fun j _ hj=>by
   have:=List.any_eq_false.1 hb j (List.mem_range.2 (by omega))
   simpa using this
  exact decide_eq_false (by omega)
structure GV (h:AH) (bg:Nat) (SS:List Steps):Prop where
 ex:∃ loc bs cells,GG loc h bg bs cells SS
theorem GV.ext {h k:AH} {bg:Nat} {SS:List Steps} (g:GV h bg SS) (e:Ext h k):GV k bg SS:=by
 obtain ⟨loc,bs,cells,G⟩:=g.ex
 refine ⟨loc,bs,cells,(e.get bg G.ltg).trans G.g,(e.get bs G.lts).trans G.s,G.len,G.ne,Nat.lt_of_lt_of_le G.ltg e.next,Nat.lt_of_lt_of_le G.lts e.next,G.locg,G.locs,fun i c S hc hS=>?_,G.blk,G.dis⟩
 rcases G.cell i c S hc hS with a|⟨b,a1,a2,a3⟩
 ·exact .inl a
 ·exact .inr ⟨b,a1,(e.get b a3).trans a2,Nat.lt_of_lt_of_le a3 e.next⟩
def strongB (R:Rel) (S:Steps) (x:Int×Int):Bool:=S.any fun y=>stepIs R x y
def pAt (S:Steps) (f:Int×Int->Bool) (i:Nat):Bool:=match S[i]? with
 | some y=>f y
 | none=>false
theorem any_pAt (S:Steps) (f:Int×Int->Bool):(List.range S.length).any (pAt S f)=S.any f:=by
 rw [Bool.eq_iff_iff]
 simp only [List.any_eq_true,List.mem_range]
 constructor
 ·rintro ⟨i,hi,h⟩
  unfold pAt at h
  rw [List.getElem?_eq_getElem hi] at h
  exact ⟨_,List.getElem_mem hi,h⟩
 ·rintro ⟨y,hy,h⟩
  obtain ⟨i,hi⟩:=List.mem_iff_getElem?.1 hy
  refine ⟨i,(List.getElem?_eq_some_iff.1 hi).1,?_⟩
  unfold pAt
  rw [hi];exact h
theorem call128 {k:AH} {gx:Value} {bg m ver t:Nat} {R:Rel} {SS:List Steps} {S:Steps} {x:Int×Int} {v1:Value} (hok:k.ok) (hm:k.get m=some (.map (ent R) ver)) (hml:m<k.next) (hR:R.Nodup) (hg:GV k bg SS) (hS:SS[t]?=some S) (hSl:S.length<=1000000) :
  (recI E).call 128 [.agg ⟨coup gx (ptr bg) m⟩,v1,.int .i64 (t:Int),.agg ⟨prCells x⟩] k=some [(.bool (strongB R S x),k)]:=by
 refine F128_flat (s:=true) hok rfl (P128_0_of ?_)
 simp only [new_row,ev_one,cells_agg,evO_some]
 refine P128_1_of ?_
 have o1:=((Own.fresh k).new (.row (coup gx (ptr bg) m) 178 0 false)).new (.row (prCells x) 134 0 false)
 have tf:((k.fresh.new (.row (coup gx (ptr bg) m) 178 0 false)).new (.row (prCells x) 134 0 false)).get k.next=some (.row (coup gx (ptr bg) m) 178 0 false):=by
  rw [get_new_ne (by simp)];exact get_new_self k.fresh _
 have tx:((k.fresh.new (.row (coup gx (ptr bg) m) 178 0 false)).new (.row (prCells x) 134 0 false)).get (k.next+1)=some (.row (prCells x) 134 0 false):=get_new_self (k.fresh.new _) _
 have n1:((k.fresh.new (.row (coup gx (ptr bg) m) 178 0 false)).new (.row (prCells x) 134 0 false)).next=k.next+2:=rfl
 simp only [next_fresh,AH.next_new]
 generalize ((k.fresh.new (.row (coup gx (ptr bg) m) 178 0 false)).new (.row (prCells x) 134 0 false))=k1 at o1 tf tx n1
 obtain ⟨loc,bs,cells,G⟩:=(hg.ext o1.ext).ex
 have hm1:=(o1.ext.get m hml).trans hm
 have lf:=load_leaf (P:=E) ta_128 (o:=1) tf
 have lg:=load_leaf (P:=E) ta_129 (o:=0) G.g
 simp only [lnth,coup] at lf lg
 have ht:t<cells.length:=by rw [G.len];exact (List.getElem?_eq_some_iff.1 hS).1
 have hc:cells[t]?=some cells[t]:=List.getElem?_eq_getElem ht
 have ls:=load_leaf (P:=E) ta_132 (o:=0+t*1) G.s
 rw [lnth_eq,show 0+t*1=t by omega,hc] at ls
 have ia:=ia_129 (b:=bs) (o:=0) (c:=cells.length) ht
 rw [show 0+t*1=t by omega] at ia
 have hcell:=G.cell t _ _ hc hS
 have hcf:=call173 (h0:=k1) (v:=cells[t]) (f:=.func (.func 174) #[] #[ptr (k.next+1),ptr k.next]) (p:=pAt S (stepIs R x)) (cell_arr hcell) (by simp;omega) (fun k2 hk2 i e he=>by
  simp only [List.getElem?_map] at he
  cases hy:S[i]? with
  | none=>rw [hy] at he;cases he
  | some y=>
   rw [hy] at he
   simp only [Option.map_some,Option.some.injEq] at he
   subst he
   have:=call174 (k:=k2) (y:=y) (gx:=gx) (gy:=ptr bg) hk2.ok ((hk2.get m (Nat.lt_of_lt_of_le hml o1.ext.next)).trans hm1) (Nat.lt_of_lt_of_le (Nat.lt_of_lt_of_le hml o1.ext.next) hk2.next) hR ((hk2.get _ (by omega)).trans tx) (by have:=hk2.next;omega) ((hk2.get _ (by omega)).trans tf) (by have:=hk2.next;omega)
   simp only [wCall_fn,List.nil_append,List.cons_append,pAt,hy]
   exact this) (Ext.refl o1.ext.ok)
 simp only [fa_178_0,fa_176_1,Nat.add_zero,Nat.zero_add,lf,evO_some,nil_ptr,fa_131_0,lg,ia,ls,pMakeFunc,wCall_0,hcf,ev_some,kR_1,ne_ret,true_and]
 refine ⟨?_,o1.wm⟩
 rw [idx_any,List.length_map,any_pAt]
 rfl
theorem ev_list {α:Type} {l:List α} {Q:α->Prop} (h1:l≠[]) (h2:∀ a∈l,Q a):Ev false (some l) Q:=⟨l,rfl,h1,(fun h=>by cases h),h2⟩
theorem takes_mem {α:Type}:∀ (l pre:List α) (x:α×List α),x∈takes pre l->∃ l1 l2,l=l1++x.1::l2/\x.2=pre++l1++l2
 | [],_,x,h=>by cases h
 | a::l,pre,x,h=>by
  simp only [takes,List.mem_cons] at h
  rcases h with rfl|h
  ·exact ⟨[],l,rfl,by simp⟩
  ·obtain ⟨l1,l2,e1,e2⟩:=takes_mem l (pre++[a]) x h
   exact ⟨a::l1,l2,by rw [e1];rfl,by rw [e2];simp⟩
theorem range_map {h:AH} {m ver:Nat} {es:List (Value×Value)} (hm:h.get m=some (.map es ver)):wRange (some (.map (some m))) h=one (ptr h.next,h.new (.iter (some m) ver es none)):=by
 simp only [wRange,hm]
theorem next_nil {h:AH} {b m ver:Nat} {es:List (Value×Value)} {cur:Option (Value×Value)} (hb:h.get b=some (.iter (some m) ver [] cur)) (hm:h.get m=some (.map es ver)) :
  wNext false (some (ptr b)) h=one (.tuple #[.bool false],h):=by
 simp only [wNext,nextV,hb,hm,Nat.beq_refl,Bool.not_true,Bool.false_eq_true,if_false]
theorem next_cons {h:AH} {b m ver:Nat} {es left:List (Value×Value)} {cur:Option (Value×Value)} {Q:Value×AH->Prop} (hb:h.get b=some (.iter (some m) ver left cur)) (hm:h.get m=some (.map es ver)) (hl:left≠[])
  (hQ:∀ e l1 l2,left=l1++e::l2->Q (.tuple #[.bool true,e.1,e.2],h.upd b (some (.iter (some m) ver (l1++l2) (some e))))):Ev false (wNext false (some (ptr b)) h) Q:=by
 cases left with
 | nil=>exact absurd rfl hl
 | cons a l=>
  have:wNext false (some (ptr b)) h=some ((takes [] (a::l)).map fun x=>(.tuple #[.bool true,x.1.1,x.1.2],h.upd b (some (.iter (some m) ver x.2 (some x.1))))):=by
   simp only [wNext,nextV,hb,hm,Nat.beq_refl,Bool.not_true,Bool.false_eq_true,if_false]
  rw [this]
  refine ev_list (by simp [takes]) fun y hy=>?_
  obtain ⟨x,hx,rfl⟩:=List.mem_map.1 hy
  obtain ⟨l1,l2,e1,e2⟩:=takes_mem _ _ _ hx
  rw [e2]
  exact hQ x.1 l1 l2 e1
theorem entry_of {h:AH} {b m ver:Nat} {es left:List (Value×Value)} {e:Value×Value} (hb:h.get b=some (.iter (some m) ver left (some e))) (hm:h.get m=some (.map es ver)):rEntry (some (ptr b)) h=some (.tuple #[e.1,e.2]):=by
 simp only [rEntry,entryV,hb,hm,Nat.beq_refl,if_true]
theorem ent_split {R:Rel} {e:Value×Value} {l1 l2:List (Value×Value)} (h:ent R=l1++e::l2):∃ R1 p R2,R=R1++p::R2/\l1=ent R1/\e=(.agg ⟨prCells p⟩,.bool true)/\l2=ent R2:=by
 unfold ent at h
 obtain ⟨R1,R3,e1,e2,e3⟩:=List.map_eq_append_iff.1 h
 obtain ⟨p,R2,e4,e5,e6⟩:=List.map_eq_cons_iff.1 e3
 exact ⟨R1,p,R2,by rw [e1,e4],e2.symm,e5.symm,e6.symm⟩
theorem ent_append (R1 R2:Rel):ent R1++ent R2=ent (R1++R2):=by simp [ent]
theorem box54 {k:AH} {p:Int×Int} :
  wStore E 54 (k.new (.row [.int .i64 0,.int .i64 0] 54 0 false)) (some (ptr k.next)) (some (.agg ⟨prCells p⟩))=one (undef,(k.new (.row [.int .i64 0,.int .i64 0] 54 0 false)).upd k.next (some (.row (prCells p) 54 0 false))):=by
 rw [store_of (P:=E) ts_54 (x:=.agg ⟨prCells p⟩) (cs:=prCells p) (get_new_self k _) rfl rfl (by simp) (by simp [prCells,isLeaf])]
 rfl
theorem box134 {k:AH} {p:Int×Int} :
  wStore E 134 (k.new (.row [.int .i64 0,.int .i64 0] 134 0 false)) (some (ptr k.next)) (some (.agg ⟨prCells p⟩))=one (undef,(k.new (.row [.int .i64 0,.int .i64 0] 134 0 false)).upd k.next (some (.row (prCells p) 134 0 false))):=by
 rw [store_of (P:=E) ts_134 (x:=.agg ⟨prCells p⟩) (cs:=prCells p) (get_new_self k _) rfl rfl (by simp) (by simp [prCells,isLeaf])]
 rfl
def allB (R:Rel) (SS:List Steps) (fB:Int×Int->Int×Int->Bool):Bool:=R.all fun p=>match SS[p.1.toNat]? with
 | some S=>S.all (fB p)
 | none=>true
theorem call124 {h0 k:AH} {b1 b2 m ver:Nat} {R:Rel} {SS:List Steps} {fol can:FuncId} {nm:ByteArray} {fB:Int×Int->Int×Int->Bool} (hh:Ext h0 k) (hm:h0.get m=some (.map (ent R) ver)) (hml:m<h0.next) (hg:GV h0 b1 SS)
  (hin:∀ p∈R,0<=p.1/\p.1<SS.length) (hsz:∀ (i:Nat) (S:Steps),SS[i]?=some S->S.length<=1000000)
  (hfol:∀ k',Ext h0 k'->∀ p∈R,∀ x S,SS[p.1.toNat]?=some S->x∈S->(recI E).call fol [.agg ⟨coup (ptr b1) (ptr b2) m⟩,.int .i64 p.1,.int .i64 p.2,.agg ⟨prCells x⟩] k'=some [(.bool (fB p x),k')]) :
  (recI E).call 124 [.agg ⟨coup (ptr b1) (ptr b2) m⟩,.agg ⟨[.func (.func fol) #[] #[],.func (.func can) #[] #[],.string nm]⟩] k=some [(.bool (allB R SS fB),k)]:=by
 refine F124_flat (s:=false) hh.ok rfl (P124_0_of ?_)
 simp only [new_row,ev_one,cells_agg,evO_some]
 refine P124_1_of ?_
 have o1:=((Own.fresh k).new (.row (coup (ptr b1) (ptr b2) m) 178 0 false)).new (.row [.func (.func fol) #[] #[],.func (.func can) #[] #[],.string nm] 112 0 false)
 have tf:((k.fresh.new (.row (coup (ptr b1) (ptr b2) m) 178 0 false)).new (.row [.func (.func fol) #[] #[],.func (.func can) #[] #[],.string nm] 112 0 false)).get k.next=some (.row (coup (ptr b1) (ptr b2) m) 178 0 false):=by
  rw [get_new_ne (by simp)];exact get_new_self k.fresh _
 have tm:((k.fresh.new (.row (coup (ptr b1) (ptr b2) m) 178 0 false)).new (.row [.func (.func fol) #[] #[],.func (.func can) #[] #[],.string nm] 112 0 false)).get (k.next+1)=some (.row [.func (.func fol) #[] #[],.func (.func can) #[] #[],.string nm] 112 0 false):=get_new_self (k.fresh.new _) _
 have n1:((k.fresh.new (.row (coup (ptr b1) (ptr b2) m) 178 0 false)).new (.row [.func (.func fol) #[] #[],.func (.func can) #[] #[],.string nm] 112 0 false)).next=k.next+2:=rfl
 simp only [next_fresh,AH.next_new]
 generalize ((k.fresh.new (.row (coup (ptr b1) (ptr b2) m) 178 0 false)).new (.row [.func (.func fol) #[] #[],.func (.func can) #[] #[],.string nm] 112 0 false))=k1 at o1 tf tm n1
 have e1:=hh.trans o1.ext
 have l2:=load_leaf (P:=E) ta_174 (o:=2) tf
 simp only [lnth,coup] at l2
 have hm1:=(e1.get m hml).trans hm
 simp only [fa_178_0,fa_176_2,Nat.add_zero,Nat.zero_add,l2,evO_some,range_map hm1,ev_one]
 have loop:∀ (n:Nat) (Lf:Rel),Lf.length=n->(∀ p∈Lf,p∈R)->allB R SS fB=allB Lf SS fB->∀ l cur,Own k l->l.get k.next=some (.row (coup (ptr b1) (ptr b2) m) 178 0 false)->l.get (k.next+1)=some (.row [.func (.func fol) #[] #[],.func (.func can) #[] #[],.string nm] 112 0 false)->
   l.get k1.next=some (.iter (some m) ver (ent Lf) cur)->k1.next<l.next->
   P124_2 false (KR E [.tmp 4] (fun x l=>x=.bool (allB R SS fB)/\k.next<=l.wm)) (ptr k.next) (ptr (k.next+1)) (ptr k1.next) l:=by
  intro n
  induction n with
  | zero=>
   intro Lf hLf hsub heq l cur ho hf hmm hit hlt
   have:Lf=[]:=List.length_eq_zero_iff.1 hLf
   subst this
   refine P124_2_of ?_
   have hml':=((hh.trans ho.ext).get m hml).trans hm
   simp only [next_nil hit hml',ev_one,pExtract,lnth,evO_some,brK_f]
   refine P124_10_of ?_
   simp only [evO_some,kR_1,ne_ret,true_and]
   exact ⟨by rw [heq];rfl,ho.wm⟩
  | succ n ih=>
   intro Lf hLf hsub heq l cur ho hf hmm hit hlt
   refine P124_2_of ?_
   have he:=hh.trans ho.ext
   have hml':=(he.get m hml).trans hm
   refine next_cons hit hml' (by cases Lf with|nil=>simp at hLf|cons a l=>simp [ent]) fun e l1 l2 hsp=>?_
   obtain ⟨R1,p,R2,hR,hl1,hep,hl2⟩:=ent_split hsp
   subst hep
   rw [hl1,hl2,ent_append]
   simp only [pExtract,lnth,evO_some,brK_t]
   refine P124_3_of ?_
   have hkl:=ho.ext.next
   have o2:=ho.upd (b:=k1.next) (by omega) (some (.iter (some m) ver (ent (R1++R2)) (some (.agg ⟨prCells p⟩,.bool true))))
   have i2:(l.upd k1.next (some (.iter (some m) ver (ent (R1++R2)) (some (.agg ⟨prCells p⟩,.bool true))))).get k1.next=_:=get_upd_self _ _ _
   have f2:(l.upd k1.next (some (.iter (some m) ver (ent (R1++R2)) (some (.agg ⟨prCells p⟩,.bool true))))).get k.next=_:=(get_upd_ne (by omega)).trans hf
   have m2:(l.upd k1.next (some (.iter (some m) ver (ent (R1++R2)) (some (.agg ⟨prCells p⟩,.bool true))))).get (k.next+1)=_:=(get_upd_ne (by omega)).trans hmm
   have n2:(l.upd k1.next (some (.iter (some m) ver (ent (R1++R2)) (some (.agg ⟨prCells p⟩,.bool true))))).next=l.next:=rfl
   generalize (l.upd k1.next (some (.iter (some m) ver (ent (R1++R2)) (some (.agg ⟨prCells p⟩,.bool true)))))=l2 at o2 i2 f2 m2 n2
   have hml2:=((hh.trans o2.ext).get m hml).trans hm
   simp only [entry_of i2 hml2,evO_some,pExtract,lnth,z_54,new_row,ev_one,cells_agg,box54]
   refine P124_4_of ?_
   have o3:=(o2.new (.row [.int .i64 0,.int .i64 0] 54 0 false)).upd (b:=l2.next) (by omega) (some (.row (prCells p) 54 0 false))
   have p3:((l2.new (.row [.int .i64 0,.int .i64 0] 54 0 false)).upd l2.next (some (.row (prCells p) 54 0 false))).get l2.next=some (.row (prCells p) 54 0 false):=get_upd_self _ _ _
   have i3:((l2.new (.row [.int .i64 0,.int .i64 0] 54 0 false)).upd l2.next (some (.row (prCells p) 54 0 false))).get k1.next=_:=((get_upd_ne (by omega)).trans (get_new_ne (by omega))).trans i2
   have f3:((l2.new (.row [.int .i64 0,.int .i64 0] 54 0 false)).upd l2.next (some (.row (prCells p) 54 0 false))).get k.next=_:=((get_upd_ne (by omega)).trans (get_new_ne (by omega))).trans f2
   have m3:((l2.new (.row [.int .i64 0,.int .i64 0] 54 0 false)).upd l2.next (some (.row (prCells p) 54 0 false))).get (k.next+1)=_:=((get_upd_ne (by omega)).trans (get_new_ne (by omega))).trans m2
   have n3:((l2.new (.row [.int .i64 0,.int .i64 0] 54 0 false)).upd l2.next (some (.row (prCells p) 54 0 false))).next=l2.next+1:=rfl
   generalize ((l2.new (.row [.int .i64 0,.int .i64 0] 54 0 false)).upd l2.next (some (.row (prCells p) 54 0 false)))=l3 at o3 p3 i3 f3 m3 n3
   have hpR:p∈R:=hsub p (by rw [hR];simp)
   obtain ⟨hp1,hp2⟩:=hin p hpR
   obtain ⟨s,hs⟩:=Int.eq_ofNat_of_zero_le hp1
   have hsS:s<SS.length:=by omega
   have hSs:SS[s]?=some SS[s]:=List.getElem?_eq_getElem hsS
   have hSp:SS[p.1.toNat]?=some SS[s]:=by rw [hs];exact hSs
   obtain ⟨loc,bs,cells,G⟩:=(hg.ext (hh.trans o3.ext)).ex
   have hsc:s<cells.length:=by rw [G.len];exact hsS
   have hcs:cells[s]?=some cells[s]:=List.getElem?_eq_getElem hsc
   have q0:=load_leaf (P:=E) ta_128 (o:=0) f3
   have q1:=load_leaf (P:=E) ta_129 (o:=0) G.g
   have q2:=load_leaf (P:=E) ta_3 (o:=0) p3
   have q3:=load_leaf (P:=E) ta_132 (o:=0+s*1) G.s
   simp only [lnth,coup,prCells] at q0 q1 q2
   rw [lnth_eq,show 0+s*1=s by omega,hcs] at q3
   rw [hs] at q2
   have ia:=ia_129 (b:=bs) (o:=0) (c:=cells.length) hsc
   rw [show 0+s*1=s by omega] at ia
   have hcell:=G.cell s _ _ hcs hSs
   obtain ⟨ca,cc,hcc⟩:=(cell_arr hcell).slice
   rw [List.length_map] at hcc
   have harr:=cell_arr hcell
   rw [hcc] at q3 harr
   simp only [fa_178_0,fa_176_0,Nat.add_zero,q0,evO_some,nil_ptr,fa_131_0,q1,ia54_0,q2,ia,q3,len124_4_10]
   have hgood:allB Lf SS fB=((SS[s]).all (fB p)&&allB (R1++R2) SS fB):=by
    rw [hR]
    simp only [allB,List.all_append,List.all_cons,hSp]
    cases (SS[s]).all (fB p) <;> simp
   have steps:∀ (j i:Nat),i+j=(SS[s]).length->((SS[s]).drop i).all (fB p)=(SS[s]).all (fB p)->∀ l4,Ext l3 l4->k.next<=l4.wm->
     P124_5 false (KR E [.tmp 4] (fun x l=>x=.bool (allB R SS fB)/\k.next<=l.wm)) (ptr k.next) (ptr (k.next+1)) (ptr l2.next) (ptr k1.next) (.slice ca (SS[s]).length cc) (.int .i64 ((SS[s]).length:Int)) (.int .i64 (i:Int)) l4:=by
    intro j
    induction j with
    | zero=>
     intro i hi hall l4 he4 hw4
     have hx:=he4.next
     refine P124_5_of ?_
     simp only [bf_lss,evO_some,brK_d]
     refine ⟨fun h=>by omega,fun _=>?_⟩
     have ht:(SS[s]).all (fB p)=true:=by rw [← hall,List.drop_eq_nil_of_le (by omega)];rfl
     exact ih (R1++R2) (by rw [hR] at hLf;simp at hLf ⊢;omega) (fun q hq=>hsub q (by rw [hR];rcases List.mem_append.1 hq with h|h <;> simp [h])) (by rw [heq,hgood,ht];rfl) l4 _ ⟨o3.ext.trans he4,hw4⟩
      ((he4.get _ (by omega)).trans f3) ((he4.get _ (by omega)).trans m3) ((he4.get _ (by omega)).trans i3) (by omega)
    | succ j ihj=>
     intro i hi hall l4 he4 hw4
     have hx:=he4.next
     have hin':i<(SS[s]).length:=by omega
     refine P124_5_of ?_
     simp only [bf_lss,evO_some,brK_d]
     refine ⟨fun _=>P124_6_of ?_,fun h=>by omega⟩
     have hat:((SS[s]).map prCells)[i]?=some (prCells (SS[s])[i]):=by simp [hin']
     obtain ⟨b',o',c',vs',ty',es',ro',hv',hb',hlt',hle',hz',hzl'⟩:=harr.load hat
     simp only [Value.slice.injEq] at hv'
     obtain ⟨hv1,_,_⟩:=hv'
     subst hv1
     have gb':=(he4.get b' hlt').trans hb'
     simp only [ia_132 hin',evO_some,load_agg ta_134 gb' hle',hz',z_134,new_row,ev_one,cells_agg,box134]
     refine P124_7_of ?_
     have e5:=(he4.new (.row [.int .i64 0,.int .i64 0] 134 0 false)).upd (b:=l4.next) hx (some (.row (prCells (SS[s])[i]) 134 0 false))
     have x5:((l4.new (.row [.int .i64 0,.int .i64 0] 134 0 false)).upd l4.next (some (.row (prCells (SS[s])[i]) 134 0 false))).get l4.next=some (.row (prCells (SS[s])[i]) 134 0 false):=get_upd_self _ _ _
     have w5:k.next<=((l4.new (.row [.int .i64 0,.int .i64 0] 134 0 false)).upd l4.next (some (.row (prCells (SS[s])[i]) 134 0 false))).wm:=wm_upd_le (by rw [wm_new];exact hw4) (by omega)
     generalize ((l4.new (.row [.int .i64 0,.int .i64 0] 134 0 false)).upd l4.next (some (.row (prCells (SS[s])[i]) 134 0 false)))=l5 at e5 x5 w5
     have f5:=(e5.get _ (by omega)).trans f3
     have m5:=(e5.get _ (by omega)).trans m3
     have p5:=(e5.get _ (by omega)).trans p3
     have r0:=load_leaf (P:=E) ta_109 (o:=0) m5
     have r1:=load_agg (P:=E) ta_178 (o:=0) f5 (by simp [coup])
     have r2:=load_leaf (P:=E) ta_3 (o:=0) p5
     have r3:=load_leaf (P:=E) ta_3 (o:=1) p5
     have r4:=load_agg (P:=E) ta_134 (o:=0) x5 (by simp [prCells])
     rw [List.drop_zero,List.take_of_length_le (by simp [coup])] at r1
     rw [List.drop_zero,List.take_of_length_le (by simp [prCells])] at r4
     simp only [lnth,prCells] at r0 r2 r3
     have hcall:=hfol l5 ((hh.trans o3.ext).trans e5) p hpR (SS[s])[i] _ hSp (List.getElem_mem hin')
     simp only [fa_112_0,Nat.add_zero,Nat.zero_add,r0,r1,r2,r3,r4,evO_some,ia54_0,ia54_1,wCall_0,hcall,ev_some,uf_not]
     have hdrop:((SS[s]).drop i).all (fB p)=(fB p (SS[s])[i]&&((SS[s]).drop (i+1)).all (fB p)):=by rw [List.drop_eq_getElem_cons hin',List.all_cons]
     cases hq:fB p (SS[s])[i] with
     | false=>
      simp only [Bool.not_false,brK_t]
      refine P124_8_of ?_
      simp only [evO_some,kR_1,ne_ret,true_and]
      exact ⟨by rw [heq,hgood,← hall,hdrop,hq];rfl,w5⟩
     | true=>
      simp only [Bool.not_true,brK_f]
      refine P124_9_of ?_
      simp only [bf_add _ (add1 hin' (by have:=hsz s _ hSs;omega)),evO_some]
      have:=ihj (i+1) (by omega) (by rw [← hall,hdrop,hq];rfl) l5 e5 w5
      simpa using this
   exact steps (SS[s]).length 0 (by omega) rfl l3 (Ext.refl o3.ext.ok) o3.wm
 exact loop R.length R rfl (fun p h=>h) rfl _ none (o1.new _) ((get_new_ne (by omega)).trans tf) ((get_new_ne (by omega)).trans tm) (get_new_self _ _) (by simp)
def insP (q:Int×Int):Rel->Rel
 | []=>[q]
 | p::R=>if klt (.agg ⟨prCells q⟩) (.agg ⟨prCells p⟩) then q::p::R else p::insP q R
theorem insP_ent (q:Int×Int):∀ R:Rel,insertEntry (.agg ⟨prCells q⟩) (.bool true) (ent R)=ent (insP q R)
 | []=>rfl
 | p::R=>by
  have:=insP_ent q R
  simp only [ent,List.map_cons,insertEntry,insP] at this ⊢
  split
  ·rfl
  ·rw [this];rfl
theorem insP_mem (q:Int×Int):∀ (R:Rel) (x:Int×Int),x∈insP q R ↔ x=q\/x∈R
 | [],x=>by simp [insP]
 | p::R,x=>by
  simp only [insP]
  split
  ·simp
  ·simp only [List.mem_cons,insP_mem q R]
   constructor
   ·rintro (h|h|h) <;> simp [h]
   ·rintro (h|h|h) <;> simp [h]
theorem insP_nodup {q:Int×Int}:∀ {R:Rel},R.Nodup->q ∉ R->(insP q R).Nodup
 | [],_,_=>by simp [insP]
 | p::R,h,hq=>by
  obtain ⟨h1,h2⟩:=List.nodup_cons.1 h
  simp only [List.mem_cons,not_or] at hq
  simp only [insP]
  split
  ·exact List.nodup_cons.2 ⟨by simp [hq.1,hq.2],h⟩
  ·exact List.nodup_cons.2 ⟨by rw [insP_mem];simp [h1];exact fun e=>hq.1 e.symm,insP_nodup h2 hq.2⟩
theorem veq_pr (q:Int×Int):veq 3 (.agg ⟨prCells q⟩) (.agg ⟨prCells q⟩)=true:=by
 show veqs 2 [.int .i64 q.1,.int .i64 q.2] [.int .i64 q.1,.int .i64 q.2]=true
 simp only [veqs,veq_int,Bool.and_self]
theorem setE (q:Int×Int):∀ {R:Rel},R.Nodup->setEntry E 54 (.agg ⟨prCells q⟩) (.bool true) (ent R)=some (ent R)
 | [],_=>rfl
 | p::R,h=>by
  obtain ⟨h1,h2⟩:=List.nodup_cons.1 h
  have ih:=setE q h2
  simp only [ent,List.map_cons,setEntry] at ih ⊢
  rw [keyEq54,ih]
  by_cases e:q=p
  ·subst e
   simp [veq_pr]
  ·simp [e]
theorem upd174 {h:AH} {m ver:Nat} {R:Rel} (hm:h.get m=some (.map (ent R) ver)) (hR:R.Nodup) (q:Int×Int) :
  ∃ R',wMapUpdate E 174 (some (.map (some m))) (some (.agg ⟨prCells q⟩)) (some (.bool true)) h=one (undef,h.upd m (some (.map (ent R') (ver+1))))/\R'.Nodup/\∀ x,x∈R' ↔ x=q\/x∈R:=by
 have hfl:isFlat (.agg ⟨prCells q⟩)=true:=rfl
 by_cases e:q∈R
 ·refine ⟨R,?_,hR,fun x=>⟨.inr,fun h=>h.elim (fun h=>h ▸ e) id⟩⟩
  simp only [wMapUpdate,mapUpdateV,mk174,hm,keyOk54,hfl,Bool.and_self,cond_true,updEntries,find54 hR,e,if_true,setE q hR,u1]
 ·refine ⟨insP q R,?_,insP_nodup hR e,fun x=>insP_mem q R x⟩
  simp only [wMapUpdate,mapUpdateV,mk174,hm,keyOk54,hfl,Bool.and_self,cond_true,updEntries,find54 hR,e,if_false,insP_ent,u1]
theorem pb176 {a b:Option Addr} {m:Nat}:pBuild E 176 (some [(0,.pointer a),(1,.pointer b),(2,.map (some m))])=some (.agg ⟨coup (.pointer a) (.pointer b) m⟩):=by kernel_rfl
theorem box176 {k:AH} {a b:Option Addr} {m:Nat} :
  wStore E 176 (k.new (.row [.pointer none,.pointer none,.map none] 176 0 false)) (some (ptr k.next)) (some (.agg ⟨coup (.pointer a) (.pointer b) m⟩))=one (undef,(k.new (.row [.pointer none,.pointer none,.map none] 176 0 false)).upd k.next (some (.row (coup (.pointer a) (.pointer b) m) 176 0 false))):=by
 rw [store_of (P:=E) ts_176 (x:=.agg ⟨coup (.pointer a) (.pointer b) m⟩) (cs:=coup (.pointer a) (.pointer b) m) (get_new_self k _) rfl rfl (by simp) (by simp [coup,isLeaf])]
 rfl
def swapP (p:Int×Int):Int×Int:=(p.2,p.1)
theorem reach_map {h:AH} {lo b1 b2 m ver:Nat} {es:List (Value×Value)} (hb1:b1<lo) (hb2:b2<lo) (hm:lo<=m) (hg:h.get m=some (.map es ver)) (hes:es.flatMap (fun e=>idsOf 4 e.2)=[]) :
  reach h lo 1000 (idsOf 4 (.agg ⟨coup (ptr b1) (ptr b2) m⟩)) []=[m]:=by
 have e0:idsOf 4 (.agg ⟨coup (ptr b1) (ptr b2) m⟩)=[b1,b2,m]:=rfl
 rw [e0]
 have s1:reach h lo 1000 [b1,b2,m] []=reach h lo 999 [b2,m] []:=by
  show (if Nat.ble (b1+1) lo||[].any (Nat.beq b1) then _ else _)=_
  rw [ble_true.2 (by omega)];rfl
 have s2:reach h lo 999 [b2,m] []=reach h lo 998 [m] []:=by
  show (if Nat.ble (b2+1) lo||[].any (Nat.beq b2) then _ else _)=_
  rw [ble_true.2 (by omega)];rfl
 have s3:reach h lo 998 [m] []=reach h lo 997 (idsIn (.map es ver)++[]) [m]:=by
  show (if Nat.ble (m+1) lo||[].any (Nat.beq m) then _ else (match h.get m with|some o=>reach h lo 997 (idsIn o++[]) [m]|none=>_))=_
  rw [ble_false.2 (by omega),hg];rfl
 rw [s1,s2,s3]
 simp only [idsIn,hes,List.append_nil]
 rfl
theorem wmTo_fx {k l:AH} (o:Own k l):Fx NoB k (l.wmTo k.wm):=by
 refine ⟨?_,o.ext.next,fun c hc _=>o.ext.get c hc,fun m h1 _ h3=>?_⟩
 ·show cond (Nat.ble k.wm l.wm) k.wm l.wm<=l.next+UNK
  have:=o.ext.ok
  unfold AH.ok at this
  cases hcc:Nat.ble k.wm l.wm with
  | true=>rw [ble_true] at hcc;simp only [cond_true];omega
  | false=>exact this
 ·show m<=cond (Nat.ble k.wm l.wm) k.wm l.wm
  have:=o.wm
  cases hcc:Nat.ble k.wm l.wm with
  | true=>exact h1
  | false=>simp only [cond_false];omega
theorem call125 {k:AH} {b1 b2 m ver:Nat} {R:Rel} (hok:k.ok) (hb1:b1<k.next) (hb2:b2<k.next) (hm:k.get m=some (.map (ent R) ver)) (hml:m<k.next) :
  Ev false ((recI E).call 125 [.agg ⟨coup (ptr b1) (ptr b2) m⟩] k) fun x=>∃ m' ver' R',x.1=.agg ⟨coup (ptr b2) (ptr b1) m'⟩/\x.2.get m'=some (.map (ent R') ver')/\k.next<=m'/\m'<x.2.next/\R'.Nodup/\(∀ p,p∈R' ↔ swapP p∈R)/\Fx NoB k x.2:=by
 refine call_many (s:=false) (Rp:=fun v k'=>∃ m' ver' R',v=.agg ⟨coup (ptr b2) (ptr b1) m'⟩/\k'.get m'=some (.map (ent R') ver')/\k.next<=m'/\m'<k'.next/\R'.Nodup/\(∀ p,p∈R' ↔ swapP p∈R)/\Fx NoB k k') F125_get F125_body (F125_sum _ _) (by kernel_rfl) ?_
 have key:Ev false (AM.R.andThen (evC E (recI E) none (bodyOf Tryz.f125) ⟨⟨Tryz.f125.ntmps,initT [.agg ⟨coup (ptr b1) (ptr b2) m⟩] 0 .e⟩,k.fresh,[]⟩) (endCall E Tryz.f125)) fun x=>
   ∃ m' ver' R',x.1=.agg ⟨coup (ptr b2) (ptr b1) m'⟩/\x.2.get m'=some (.map (ent R') ver')/\k.next<=m'/\m'<x.2.next/\R'.Nodup/\(∀ p,p∈R' ↔ swapP p∈R)/\Own k x.2:=by
  refine F125_ev (Rp:=fun v k'=>∃ m' ver' R',v=.agg ⟨coup (ptr b2) (ptr b1) m'⟩/\k'.get m'=some (.map (ent R') ver')/\k.next<=m'/\m'<k'.next/\R'.Nodup/\(∀ p,p∈R' ↔ swapP p∈R)/\Own k k') (P125_0_of ?_)
  simp only [Q125_0,new_row,ev_one,cells_agg,z_176]
  refine P125_1_of ?_
  have o1:=((Own.fresh k).new (.row (coup (ptr b1) (ptr b2) m) 176 0 false)).new (.row [.pointer none,.pointer none,.map none] 176 0 false)
  have t1:((k.fresh.new (.row (coup (ptr b1) (ptr b2) m) 176 0 false)).new (.row [.pointer none,.pointer none,.map none] 176 0 false)).get k.next=some (.row (coup (ptr b1) (ptr b2) m) 176 0 false):=by
   rw [get_new_ne (by simp)];exact get_new_self k.fresh _
  have r1:((k.fresh.new (.row (coup (ptr b1) (ptr b2) m) 176 0 false)).new (.row [.pointer none,.pointer none,.map none] 176 0 false)).get (k.next+1)=some (.row [.pointer none,.pointer none,.map none] 176 0 false):=get_new_self (k.fresh.new _) _
  have n1:((k.fresh.new (.row (coup (ptr b1) (ptr b2) m) 176 0 false)).new (.row [.pointer none,.pointer none,.map none] 176 0 false)).next=k.next+2:=rfl
  simp only [next_fresh,AH.next_new]
  generalize ((k.fresh.new (.row (coup (ptr b1) (ptr b2) m) 176 0 false)).new (.row [.pointer none,.pointer none,.map none] 176 0 false))=k1 at o1 t1 r1 n1
  have l0:=load_leaf (P:=E) ta_128 (o:=0) t1
  have l1:=load_leaf (P:=E) ta_128 (o:=1) t1
  simp only [lnth,coup] at l0 l1
  simp only [Q125_1,fa_176_0,fa_176_1,Nat.add_zero,Nat.zero_add,l0,l1,evO_some,ev_one,pb176,z_176,new_row,cells_agg,box176]
  refine P125_2_of ?_
  have o2:=((o1.new (.map [] 0)).new (.row [.pointer none,.pointer none,.map none] 176 0 false)).upd (b:=(k1.new (.map [] 0)).next) (by simp;omega) (some (.row (coup (ptr b2) (ptr b1) k1.next) 176 0 false))
  have q1:(((k1.new (.map [] 0)).new (.row [.pointer none,.pointer none,.map none] 176 0 false)).upd (k1.new (.map [] 0)).next (some (.row (coup (ptr b2) (ptr b1) k1.next) 176 0 false))).get k1.next=some (.map [] 0):=by
   rw [get_upd_ne (by simp),get_new_ne (by simp)];exact get_new_self _ _
  have q2:(((k1.new (.map [] 0)).new (.row [.pointer none,.pointer none,.map none] 176 0 false)).upd (k1.new (.map [] 0)).next (some (.row (coup (ptr b2) (ptr b1) k1.next) 176 0 false))).get (k1.next+1)=some (.row (coup (ptr b2) (ptr b1) k1.next) 176 0 false):=get_upd_self _ _ _
  have q3:(((k1.new (.map [] 0)).new (.row [.pointer none,.pointer none,.map none] 176 0 false)).upd (k1.new (.map [] 0)).next (some (.row (coup (ptr b2) (ptr b1) k1.next) 176 0 false))).get k.next=some (.row (coup (ptr b1) (ptr b2) m) 176 0 false):=by
   rw [get_upd_ne (by simp;omega),get_new_ne (by simp;omega),get_new_ne (by omega)];exact t1
  have q4:(((k1.new (.map [] 0)).new (.row [.pointer none,.pointer none,.map none] 176 0 false)).upd (k1.new (.map [] 0)).next (some (.row (coup (ptr b2) (ptr b1) k1.next) 176 0 false))).get (k.next+1)=some (.row [.pointer none,.pointer none,.map none] 176 0 false):=by
   rw [get_upd_ne (by simp;omega),get_new_ne (by simp;omega),get_new_ne (by omega)];exact r1
  have q5:(((k1.new (.map [] 0)).new (.row [.pointer none,.pointer none,.map none] 176 0 false)).upd (k1.new (.map [] 0)).next (some (.row (coup (ptr b2) (ptr b1) k1.next) 176 0 false))).next=k1.next+2:=rfl
  simp only [coup] at q1 q2 q3 q4 q5 o2 ⊢
  simp only [AH.next_new] at q1 q2 q3 q4 q5 o2 ⊢
  generalize (((k1.new (.map [] 0)).new (.row [.pointer none,.pointer none,.map none] 176 0 false)).upd (k1.next+1) (some (.row [ptr b2,ptr b1,.map (some k1.next)] 176 0 false)))=k2 at o2 q1 q2 q3 q4 q5
  have l2:=load_leaf (P:=E) ta_174 (o:=2) q3
  simp only [lnth] at l2
  have hm2:=(o2.ext.get m hml).trans hm
  simp only [Q125_2,fa_176_2,Nat.zero_add,l2,evO_some,range_map hm2,ev_one]
  have loop:∀ (n:Nat) (Lf Rn:Rel) (vr:Nat),Lf.length=n->Rn.Nodup->(∀ p,p∈Rn\/swapP p∈Lf ↔ swapP p∈R)->∀ l cur,Own k l->k2.next<l.next->l.get k1.next=some (.map (ent Rn) vr)->l.get (k1.next+1)=some (.row [ptr b2,ptr b1,.map (some k1.next)] 176 0 false)->l.get (k.next+1)=some (.row [.pointer none,.pointer none,.map none] 176 0 false)->
    l.get k2.next=some (.iter (some m) ver (ent Lf) cur)->
    P125_3 false (KR E [.cell 2 176] (fun v k'=>∃ m' ver' R',v=.agg ⟨[ptr b2,ptr b1,.map (some m')]⟩/\k'.get m'=some (.map (ent R') ver')/\k.next<=m'/\m'<k'.next/\R'.Nodup/\(∀ p,p∈R' ↔ swapP p∈R)/\Own k k')) (ptr (k.next+1)) (ptr (k1.next+1)) (ptr k2.next) l:=by
   intro n
   induction n with
   | zero=>
    intro Lf Rn vr hLf hnd hmem l cur ho hlt hmp hcp hrs hit
    have:Lf=[]:=List.length_eq_zero_iff.1 hLf
    subst this
    refine P125_3_of ?_
    have hml':=(ho.ext.get m hml).trans hm
    simp only [Q125_3,next_nil hit hml',ev_one,pExtract,lnth,evO_some,brK_f]
    refine P125_6_of ?_
    have la:=load_agg (P:=E) ta_176 (o:=0) hcp (by simp)
    simp only [List.drop_zero,List.take] at la
    have hst:=store_of (P:=E) ts_176 (o:=0) (x:=.agg ⟨[ptr b2,ptr b1,.map (some k1.next)]⟩) (cs:=[ptr b2,ptr b1,.map (some k1.next)]) hrs rfl rfl (by simp) (by simp [isLeaf])
    simp only [Q125_6,la,evO_some,hst,ev_one,kR_c,ne_ret,true_and]
    have g1:(l.upd (k.next+1) (some (.row (lput [.pointer none,.pointer none,.map none] 0 [ptr b2,ptr b1,.map (some k1.next)]) 176 0 false))).get (k.next+1)=some (.row [ptr b2,ptr b1,.map (some k1.next)] 176 0 false):=get_upd_self _ _ _
    have lb:=load_agg (P:=E) ta_176 (o:=0) g1 (by simp)
    simp only [List.drop_zero,List.take] at lb
    have:loadV E 176 (ptr (k.next+1)) (l.upd (k.next+1) (some (.row (lput [.pointer none,.pointer none,.map none] 0 [ptr b2,ptr b1,.map (some k1.next)]) 176 0 false)))=some (.agg ⟨[ptr b2,ptr b1,.map (some k1.next)]⟩):=lb
    rw [this,evO_some]
    refine ⟨k1.next,vr,Rn,rfl,(get_upd_ne (by omega)).trans hmp,by omega,by show k1.next<l.next;omega,hnd,fun p=>by have:=hmem p;simpa using this,ho.upd (by omega) _⟩
   | succ n ih=>
    intro Lf Rn vr hLf hnd hmem l cur ho hlt hmp hcp hrs hit
    refine P125_3_of ?_
    have hml':=(ho.ext.get m hml).trans hm
    simp only [Q125_3]
    refine next_cons hit hml' (by cases Lf with|nil=>simp at hLf|cons a l=>simp [ent]) fun e l1 l2 hsp=>?_
    obtain ⟨R1,p,R2,hR,hl1,hep,hl2⟩:=ent_split hsp
    subst hep
    rw [hl1,hl2,ent_append]
    simp only [pExtract,lnth,evO_some,brK_t]
    refine P125_4_of ?_
    have hkl:=ho.ext.next
    have o3:=ho.upd (b:=k2.next) (by omega) (some (.iter (some m) ver (ent (R1++R2)) (some (.agg ⟨prCells p⟩,.bool true))))
    have i3:(l.upd k2.next (some (.iter (some m) ver (ent (R1++R2)) (some (.agg ⟨prCells p⟩,.bool true))))).get k2.next=_:=get_upd_self _ _ _
    have a3:(l.upd k2.next (some (.iter (some m) ver (ent (R1++R2)) (some (.agg ⟨prCells p⟩,.bool true))))).get k1.next=_:=(get_upd_ne (by omega)).trans hmp
    have c3:(l.upd k2.next (some (.iter (some m) ver (ent (R1++R2)) (some (.agg ⟨prCells p⟩,.bool true))))).get (k1.next+1)=_:=(get_upd_ne (by omega)).trans hcp
    have d3:(l.upd k2.next (some (.iter (some m) ver (ent (R1++R2)) (some (.agg ⟨prCells p⟩,.bool true))))).get (k.next+1)=_:=(get_upd_ne (by omega)).trans hrs
    have n3:(l.upd k2.next (some (.iter (some m) ver (ent (R1++R2)) (some (.agg ⟨prCells p⟩,.bool true))))).next=l.next:=rfl
    generalize (l.upd k2.next (some (.iter (some m) ver (ent (R1++R2)) (some (.agg ⟨prCells p⟩,.bool true)))))=l3 at o3 i3 a3 c3 d3 n3
    have hml3:=(o3.ext.get m hml).trans hm
    simp only [Q125_4,entry_of i3 hml3,evO_some,pExtract,lnth,z_54,new_row,ev_one,cells_agg,box54]
    refine P125_5_of ?_
    have o4:=(o3.new (.row [.int .i64 0,.int .i64 0] 54 0 false)).upd (b:=l3.next) (by omega) (some (.row (prCells p) 54 0 false))
    have p4:((l3.new (.row [.int .i64 0,.int .i64 0] 54 0 false)).upd l3.next (some (.row (prCells p) 54 0 false))).get l3.next=some (.row (prCells p) 54 0 false):=get_upd_self _ _ _
    have i4:((l3.new (.row [.int .i64 0,.int .i64 0] 54 0 false)).upd l3.next (some (.row (prCells p) 54 0 false))).get k2.next=_:=((get_upd_ne (by omega)).trans (get_new_ne (by omega))).trans i3
    have a4:((l3.new (.row [.int .i64 0,.int .i64 0] 54 0 false)).upd l3.next (some (.row (prCells p) 54 0 false))).get k1.next=_:=((get_upd_ne (by omega)).trans (get_new_ne (by omega))).trans a3
    have c4:((l3.new (.row [.int .i64 0,.int .i64 0] 54 0 false)).upd l3.next (some (.row (prCells p) 54 0 false))).get (k1.next+1)=_:=((get_upd_ne (by omega)).trans (get_new_ne (by omega))).trans c3
    have d4:((l3.new (.row [.int .i64 0,.int .i64 0] 54 0 false)).upd l3.next (some (.row (prCells p) 54 0 false))).get (k.next+1)=_:=((get_upd_ne (by omega)).trans (get_new_ne (by omega))).trans d3
    have n4:((l3.new (.row [.int .i64 0,.int .i64 0] 54 0 false)).upd l3.next (some (.row (prCells p) 54 0 false))).next=l3.next+1:=rfl
    generalize ((l3.new (.row [.int .i64 0,.int .i64 0] 54 0 false)).upd l3.next (some (.row (prCells p) 54 0 false)))=l4 at o4 p4 i4 a4 c4 d4 n4
    have g0:=load_leaf (P:=E) ta_174 (o:=2) c4
    have g1:=load_leaf (P:=E) ta_3 (o:=0) p4
    have g2:=load_leaf (P:=E) ta_3 (o:=1) p4
    simp only [lnth,prCells] at g0 g1 g2
    obtain ⟨R',u1,u2,u3⟩:=upd174 a4 hnd (p.2,p.1)
    simp only [Q125_5,fa_176_2,Nat.zero_add,Nat.add_zero,g0,g1,g2,evO_some,ia54_0,ia54_1,pb54,u1,ev_one]
    refine ih (R1++R2) R' (vr+1) (by rw [hR] at hLf;simp at hLf ⊢;omega) u2 (fun x=>?_) _ _ (o4.upd (by omega) _) (by show k2.next<l4.next;omega) (get_upd_self _ _ _) ((get_upd_ne (by omega)).trans c4) ((get_upd_ne (by omega)).trans d4) ((get_upd_ne (by omega)).trans i4)
    rw [← hmem x,u3 x,hR]
    have hsw:x=(p.2,p.1) ↔ swapP x=p:=by
     constructor
     ·rintro rfl;rfl
     ·intro h;rw [← h];rfl
    rw [hsw]
    simp only [List.mem_append,List.mem_cons]
    constructor
    ·rintro ((h|h)|h|h) <;> simp [h]
    ·rintro (h|h|h|h) <;> simp [h]
  refine loop R.length R [] 0 rfl (by simp) (fun p=>by simp) _ none (o2.new _) (by simp) ((get_new_ne (by omega)).trans q1) ((get_new_ne (by omega)).trans q2) ((get_new_ne (by omega)).trans q4) (get_new_self _ _)
 refine key.mono fun x hx=>?_
 obtain ⟨m',ver',R',h1,h2,h3,h4,h5,h6,h7⟩:=hx
 have hids:reach x.2 k.fresh.next 1000 (idsOf 4 x.1) []=[m']:=by
  rw [h1]
  exact reach_map hb2 hb1 h3 h2 (by simp [ent,List.flatMap_map,idsOf])
 refine ⟨by rw [h1];rfl,⟨m',ver',R',h1,h2,h3,h4,h5,h6,wmTo_fx h7⟩,m',ver',R',h1,?_,h3,h4,h5,h6,wmTo_fx ?_⟩
 ·show (AH.kept k.fresh x.1 x.2).get m'=_
  unfold AH.kept
  rw [hids,keepOnly_get,if_pos (by simp)]
  exact h2
 ·refine ⟨⟨?_,h7.ext.next,fun c hc=>?_⟩,?_⟩
  ·exact h7.ext.ok
  ·unfold AH.kept
   rw [hids,keepOnly_get]
   split
   ·exact h7.ext.get c hc
   ·rfl
  ·exact h7.wm
def entI (R:List Int):List (Value×Value):=R.map fun p=>(.int .i64 p,.bool true)
theorem mk273:mapKE E 273=some (3,4):=by kernel_rfl
theorem keyEq3 (p q:Int):keyEq E 3 (.int .i64 p) (.int .i64 q)=some (decide (p=q)):=by
 simp only [keyEq,u3]
 have hk:keq .i64 .i64=true:=rfl
 simp only [hk,cond_true,ieq_iff]
 by_cases h:p=q <;> simp [h]
theorem keyOk3 (p:Int):keyOk E 3 (.int .i64 p)=true:=by
 simp only [keyOk,u3]
theorem find3:∀ {R:List Int},R.Nodup->∀ q:Int,findEntry E 3 (.int .i64 q) (entI R)=some (if q∈R then some (.bool true) else none)
 | [],_,q=>by simp [entI,findEntry]
 | p::R,h,q=>by
  obtain ⟨h1,h2⟩:=List.nodup_cons.1 h
  have ih:=find3 h2 q
  simp only [entI,List.map_cons,findEntry] at ih ⊢
  rw [keyEq3,ih]
  by_cases e:q=p
  ·subst e
   simp [h1]
  ·simp [e]
theorem look273 {h:AH} {m ver:Nat} {R:List Int} (hm:h.get m=some (.map (entI R) ver)) (hR:R.Nodup) (q:Int) :
  rLookup E 273 false (some (.map (some m))) (some (.int .i64 q)) h=some (.bool (decide (q∈R))):=by
 simp only [rLookup,lookupV,mk273,entriesOf,hm,keyOk3,cond_true,find3 hR]
 by_cases e:q∈R
 ·simp [e,foundV,okV]
 ·simp [e,foundV,z4,okV]
def insI (q:Int):List Int->List Int
 | []=>[q]
 | p::R=>if klt (.int .i64 q) (.int .i64 p) then q::p::R else p::insI q R
theorem insI_ent (q:Int):∀ R:List Int,insertEntry (.int .i64 q) (.bool true) (entI R)=entI (insI q R)
 | []=>rfl
 | p::R=>by
  have:=insI_ent q R
  simp only [entI,List.map_cons,insertEntry,insI] at this ⊢
  split
  ·rfl
  ·rw [this];rfl
theorem insI_mem (q:Int):∀ (R:List Int) (x:Int),x∈insI q R ↔ x=q\/x∈R
 | [],x=>by simp [insI]
 | p::R,x=>by
  simp only [insI]
  split
  ·simp
  ·simp only [List.mem_cons,insI_mem q R]
   constructor
   ·rintro (h|h|h) <;> simp [h]
   ·rintro (h|h|h) <;> simp [h]
theorem insI_nodup {q:Int}:∀ {R:List Int},R.Nodup->q ∉ R->(insI q R).Nodup
 | [],_,_=>by simp [insI]
 | p::R,h,hq=>by
  obtain ⟨h1,h2⟩:=List.nodup_cons.1 h
  simp only [List.mem_cons,not_or] at hq
  simp only [insI]
  split
  ·exact List.nodup_cons.2 ⟨by simp [hq.1,hq.2],h⟩
  ·exact List.nodup_cons.2 ⟨by rw [insI_mem];simp [h1];exact fun e=>hq.1 e.symm,insI_nodup h2 hq.2⟩
theorem upd273 {h:AH} {m ver:Nat} {R:List Int} (hm:h.get m=some (.map (entI R) ver)) (hR:R.Nodup) {q:Int} (e:q ∉ R) :
  wMapUpdate E 273 (some (.map (some m))) (some (.int .i64 q)) (some (.bool true)) h=one (undef,h.upd m (some (.map (entI (insI q R)) (ver+1)))):=by
 have hfl:isFlat (.int .i64 q)=true:=rfl
 simp only [wMapUpdate,mapUpdateV,mk273,hm,keyOk3,hfl,Bool.and_self,cond_true,updEntries,find3 hR,e,if_false,insI_ent,u1]
theorem bs47 {u:Int} {h:AH}:wBuildSlice E 47 1 (some [(0,.int .i64 u)]) h=one (.slice (some ⟨h.next,0,none⟩) 1 1,h.new (.row [.int .i64 u] 3 0 false)):=by kernel_rfl
theorem elt47:Elt 47 3 1:=elt_of elt_47 und_47 ta_3 (by kernel_rfl)
theorem append_full {t e z:Nat} (H:Elt t e z) {h:AH} {b c:Nat} {vs us:List Value} {ty es:Nat} {ro:Bool} {ty' es':Nat} {ro':Bool} (hb:h.get b=some (.row vs ty' es' ro')) (hvs:vs.length=z)
  (hc:h.get c=some (.row us ty es ro)) (hl:us.length=z) :
  wBuiltinO E .append [t,t] (some [.slice (some ⟨b,0,none⟩) 1 1,.slice (some ⟨c,0,none⟩) 1 1]) h=one (.slice (some ⟨h.next,0,none⟩) 2 (UNK+z),h.new (.row (vs++us) e z false)):=by
 obtain ⟨ti,e1,e2,e3⟩:=H.ti
 show v2 (appendV E [t,t] (.slice (some ⟨b,0,none⟩) 1 1) (.slice (some ⟨c,0,none⟩) 1 1) h)=_
 simp only [appendV,H.el,H.un,isIntD,cond_false,e1,appendSrc,sliceCells,hc,e2,Nat.one_mul,ltake_eq,ldrop_eq,llen_eq,List.drop_zero]
 rw [List.take_of_length_le (by omega),hl,Nat.beq_refl]
 simp only [if_true,e3,cond_true,appendTo,show Nat.beq 1 0=false from rfl,cond_false,hb]
 simp only [appendRow,show Nat.ble UNK 1=false from rfl,show Nat.ble (1+1) 1=false from rfl,cond_false,Nat.one_mul,ltake_eq,ldrop_eq,llen_eq,List.drop_zero]
 rw [List.take_of_length_le (by omega),hvs,Nat.beq_refl]
 simp only [cond_true,appendNew,show Nat.ble (1+1) 1000000=true from rfl,v2]
structure LS (lo:Nat) (k:AH) (v:Value) (L:List Int):Prop where
 ex:∃ b c,v=.slice (some ⟨b,0,none⟩) L.length c/\lo<=b/\b<k.next/\((c=1/\L.length=1/\k.get b=some (.row (ints L) 3 0 false))\/(c=UNK+1/\k.get b=some (.row (ints L) 3 1 false)))
theorem LS.mono {lo:Nat} {k k':AH} {v:Value} {L:List Int} (h:LS lo k v L) (hn:k.next<=k'.next) (hg:∀ b,lo<=b->b<k.next->blkOf v b->k'.get b=k.get b):LS lo k' v L:=by
 obtain ⟨b,c,e,h1,h2,h3⟩:=h
 have:=hg b h1 h2 ⟨_,_,e⟩
 exact ⟨b,c,e,h1,Nat.lt_of_lt_of_le h2 hn,by rw [this];exact h3⟩
theorem LS.at {lo:Nat} {k:AH} {v:Value} {L:List Int} (h:LS lo k v L) {i:Nat} (hi:i<L.length):∃ x3,pIndexAddr E 47 (some v) (some (.int .i64 (i:Int)))=some x3/\∃ x4,rLoad E 3 k (some x3)=some x4/\x4=.int .i64 L[i]:=by
 obtain ⟨b,c,rfl,h1,h2,h3⟩:=h
 refine ⟨_,ia_47 hi,?_⟩
 have hrow:∃ es,k.get b=some (.row (ints L) 3 es false):=by
  rcases h3 with ⟨_,_,h⟩|⟨_,h⟩ <;> exact ⟨_,h⟩
 obtain ⟨es,hrow⟩:=hrow
 rw [load_leaf (P:=E) ta_3 hrow,lnth_eq,show 0+i*1=i by omega]
 have:(ints L)[i]?=some (.int .i64 L[i]):=by simp [ints,hi]
 exact ⟨_,this,rfl⟩
theorem LS.app {lo:Nat} {k:AH} {v:Value} {L:List Int} (h:LS lo k v L) (hL:L.length<=999999) {u:Int} {c0:Nat} {ty es:Nat} {ro:Bool} (hc:k.get c0=some (.row [.int .i64 u] ty es ro)) :
  ∃ v' k1,wBuiltinO E .append [47,47] (some [v,.slice (some ⟨c0,0,none⟩) 1 1]) k=one (v',k1)/\v'=.slice (some ⟨k.next,0,none⟩) (L.length+1) (UNK+1)/\k1.next=k.next+1/\k1.get k.next=some (.row (ints (L++[u])) 3 1 false) ∧
   (∀ b,b<k.next->¬ blkOf v b->k1.get b=k.get b)/\(k.ok->k1.ok)/\k1.wm<=k.wm/\∀ w,w<=k.wm->w<=lo->w<=k1.wm:=by
 obtain ⟨b,c,rfl,h1,h2,h3⟩:=h
 have hap:ints L++[.int .i64 u]=ints (L++[u]):=by simp [ints]
 rcases h3 with ⟨rfl,hl1,hb⟩|⟨rfl,hb⟩
 ·refine ⟨_,k.new (.row (ints L++[.int .i64 u]) 3 1 false),by rw [hl1];exact append_full elt47 hb (by simpa [ints] using hl1) hc rfl,by rw [hl1],rfl,?_,?_,?_,Nat.le_refl _,?_⟩
  ·rw [← hap];exact get_new_self _ _
  ·intro b' hb' _
   exact get_new_ne (by omega)
  ·intro hok;exact ok_new hok _
  ·intro w hw _
   exact hw
 ·refine ⟨_,_,append_unk elt47 (by omega) hb (by simp [ints]) (by omega) hc rfl rfl,rfl,rfl,?_,?_,?_,(upd_wm k b none).1,?_⟩
  ·rw [← hap];exact get_new_self (k.upd b none) _
  ·intro b' hb' hne
   have hbb:b'≠b:=fun e=>hne ⟨_,_,by rw [e]⟩
   have:k.next≠b':=by omega
   rw [get_new_ne (by show b'≠k.next;omega),get_upd_ne hbb]
  ·intro hok;exact ok_new (ok_upd hok _ _) _
  ·intro w hw hlo
   show w<=(k.upd b none).wm
   exact wm_upd_le hw (by omega)
def addS (L:List Int) (x:Int×Int):List Int:=if x.1=0/\x.2 ∉ L then L++[x.2] else L
def nextL (SS:List Steps) (L:List Int) (u:Int):List Int:=match SS[u.toNat]? with
 | some S=>S.foldl addS L
 | none=>L
def bfs (SS:List Steps) (body:Int->Bool):Nat->Nat->List Int->Bool
 | 0,_,_=>false
 | f+1,i,L=>match L[i]? with
  | none=>false
  | some u=>body u||bfs SS body f (i+1) (nextL SS L u)
theorem nodup_bound:∀ (N:Nat) (L:List Int),L.Nodup->(∀ x∈L,0<=x/\x<(N:Int))->L.length<=N
 | 0,L,_,h=>by
  cases L with
  | nil=>simp
  | cons a l=>have:=h a (by simp);omega
 | N+1,L,hn,h=>by
  by_cases hm:(N:Int)∈L
  ·have h1:=nodup_bound N (L.erase (N:Int)) (hn.erase _) fun x hx=>by
    have:=hn.mem_erase_iff.1 hx
    have h2:=h x this.2
    have:=this.1
    omega
   rw [List.length_erase_of_mem hm] at h1
   omega
  ·have h1:=nodup_bound N L hn fun x hx=>by
    have h2:=h x hx
    have:x≠(N:Int):=fun e=>hm (e ▸ hx)
    omega
   omega
theorem addS_nodup {L:List Int} (h:L.Nodup) (x:Int×Int):(addS L x).Nodup:=by
 unfold addS
 split
 ·rename_i hx
  rw [List.nodup_append]
  refine ⟨h,by simp,fun a ha b hb=>?_⟩
  simp only [List.mem_singleton] at hb
  subst hb
  exact fun e=>hx.2 (e ▸ ha)
 ·exact h
theorem addS_mem {L:List Int} {x:Int×Int} {y:Int} (h:y∈addS L x):y∈L\/y=x.2:=by
 unfold addS at h
 split at h
 ·simpa using h
 ·exact .inl h
theorem fold_nodup:∀ {S:Steps} {L:List Int},L.Nodup->(S.foldl addS L).Nodup
 | [],_,h=>h
 | x::S,_,h=>fold_nodup (S:=S) (addS_nodup h x)
theorem fold_mem:∀ {S:Steps} {L:List Int} {y:Int},y∈S.foldl addS L->y∈L\/∃ x∈S,y=x.2
 | [],_,_,h=>.inl h
 | x::S,L,y,h=>by
  rcases fold_mem (S:=S) h with h|⟨x',hx',h⟩
  ·rcases addS_mem h with h|h
   ·exact .inl h
   ·exact .inr ⟨x,by simp,h⟩
  ·exact .inr ⟨x',by simp [hx'],h⟩
def Yd (k:AH) (l w0 N:Nat) (body:Int->Bool) (Rt:AH->Prop):Prop:=∀ h,Ext k h->w0<=h.wm->∀ u:Int,0<=u->u<(N:Int)->
 ∃ h',(recI E).round l [.int .i64 u] h=some [(.bool (!body u),h')]/\h'.ok/\h'.wm<=l/\w0<=h'.wm/\(body u=false->h'.next=h.next/\∀ c,h'.get c=h.get c)/\(body u=true->Rt h')
structure St22 (k:AH) (w0 m1 N:Nat) (v5:Value) (L:List Int) (h:AH):Prop where
 ext:Ext k h
 w:w0<=h.wm
 map:∃ R ver,h.get m1=some (.map (entI R) ver)/\R.Nodup/\∀ x,x∈R ↔ x∈L
 mlt:m1<h.next
 nd:L.Nodup
 bd:∀ x∈L,0<=x/\x<(N:Int)
 ls:LS (m1+1) h v5 L
theorem St22.keep {k:AH} {w0 m1 N:Nat} {v5:Value} {L:List Int} {h h':AH} (s:St22 k w0 m1 N v5 L h) (e:Ext k h') (w:w0<=h'.wm) (hn:h.next<=h'.next) (hg:∀ c,m1<=c->c<h.next->h'.get c=h.get c):St22 k w0 m1 N v5 L h':=by
 obtain ⟨R,ver,a,b⟩:=s.map
 exact ⟨e,w,⟨R,ver,(hg m1 (Nat.le_refl _) s.mlt).trans a,b⟩,Nat.lt_of_lt_of_le s.mlt hn,s.nd,s.bd,s.ls.mono hn fun b h1 h2 _=>hg b (by omega) h2⟩
structure SSok (SS:List Steps):Prop where
 len:SS.length<=900000
 stp:∀ (i:Nat) (S:Steps),SS[i]?=some S->S.length<=900000/\∀ x∈S,0<=x.2/\x.2<(SS.length:Int)
theorem in64_of {n:Int} (h1:0<=n) (h2:n<=1000000):in64 n:=⟨by omega,by omega⟩
theorem fold_drop {S:Steps} {L:List Int} {j:Nat} (hj:j<S.length):(S.drop j).foldl addS L=(S.drop (j+1)).foldl addS (addS L S[j]):=by
 rw [List.drop_eq_getElem_cons hj]
 rfl
def Fin22 (k:AH) (w0:Nat) (Rt:AH->Prop) (b:Bool) (h:AH):Prop:=h.ok/\w0<=h.wm/\(b=false->k.next<=h.next/\∀ c,c<k.next->h.get c=k.get c)/\(b=true->Rt h)
theorem call222 {k:AH} {l bs0 bgp bg w0:Nat} {SS:List Steps} {body:Int->Bool} {Rt:AH->Prop} {t:Int} {ty1 es1 ty2 es2:Nat} {ro1 ro2:Bool} (hok:k.ok)
  (hs:k.get bs0=some (.row [.int .i64 t] ty1 es1 ro1)) (hsl:bs0<k.next) (hgp:k.get bgp=some (.row [ptr bg] ty2 es2 ro2)) (hgl:bgp<k.next)
  (hg:GV k bg SS) (hSS:SSok SS) (ht0:0<=t) (htN:t<(SS.length:Int)) (hw:w0<=k.wm) (hw':w0<=k.next) (hl:l<k.next) (hRt:∀ h h':AH,(∀ c,h'.get c=h.get c)->h'.next=h.next->Rt h->Rt h')
  (hY:Yd k l w0 SS.length body Rt) :
  Ev true ((recI E).call 222 [.func (.yield l) #[] #[],ptr bs0,ptr bgp] k) fun x=>x.1=.tuple #[]/\Fin22 k w0 Rt (bfs SS body SS.length 0 [t]) x.2:=by
 refine F222_some (Rp:=fun x k'=>x=.tuple #[]/\Fin22 k w0 Rt (bfs SS body SS.length 0 [t]) k') (P222_0_of ?_)
 obtain ⟨loc,bs,cells,G⟩:=hg.ex
 have hs0:k.fresh.get bs0=_:=hs
 have e0:=(Ext.refl hok).fresh
 simp only [ev_one]
 have e1:=e0.new (.map [] 0)
 have m1g:=get_new_self k.fresh (.map [] 0)
 have hs1:(k.fresh.new (.map [] 0)).get bs0=_:=(e1.get bs0 hsl).trans hs
 have ls1:=load_leaf (P:=E) ta_3 (o:=0) hs1
 simp only [lnth] at ls1
 have hu:=upd273 (h:=k.fresh.new (.map [] 0)) (R:=[]) (q:=t) m1g List.nodup_nil (by simp)
 simp only [ls1,evO_some,next_fresh] at hu ⊢
 rw [hu,ev_one]
 refine P222_1_of ?_
 have e2:=e1.upd (b:=k.next) (Nat.le_refl _) (some (.map (entI (insI t [])) (0+1)))
 have m2:((k.fresh.new (.map [] 0)).upd k.next (some (.map (entI (insI t [])) (0+1)))).get k.next=_:=get_upd_self _ _ _
 have w2:w0<=((k.fresh.new (.map [] 0)).upd k.next (some (.map (entI (insI t [])) (0+1)))).wm:=wm_upd_le (by rw [wm_new,wm_fresh];omega) hw'
 have n2:((k.fresh.new (.map [] 0)).upd k.next (some (.map (entI (insI t [])) (0+1)))).next=k.next+1:=rfl
 generalize ((k.fresh.new (.map [] 0)).upd k.next (some (.map (entI (insI t [])) (0+1))))=k2 at e2 m2 w2 n2
 have ls2:=load_leaf (P:=E) ta_3 (o:=0) ((e2.get bs0 hsl).trans hs)
 simp only [lnth] at ls2
 simp only [ls2,evO_some,bs47,ev_one]
 refine P222_2_of ?_
 have st0:St22 k w0 k.next SS.length (.slice (some ⟨k2.next,0,none⟩) 1 1) [t] (k2.new (.row [.int .i64 t] 3 0 false)):=by
  refine ⟨e2.new _,w2,⟨[t],0+1,(get_new_ne (by omega)).trans m2,by simp,by simp⟩,by simp;omega,by simp,by simpa using ⟨ht0,htN⟩,⟨k2.next,1,rfl,by omega,by simp,.inl ⟨rfl,rfl,get_new_self _ _⟩⟩⟩
 generalize (k2.new (.row [.int .i64 t] 3 0 false))=k3 at st0
 have loop:∀ (f i:Nat) (L:List Int) (v5:Value) (h:AH),f+i=SS.length->St22 k w0 k.next SS.length v5 L h->0<L.length->i<=L.length->(i=0\/h.wm<=l)->bfs SS body SS.length 0 [t]=bfs SS body f i L->
   P222_3 true (KR E [] (fun x k'=>(isFlat x=false\/k'.wm<k.next)/\(x=.tuple #[]/\Fin22 k w0 Rt (bfs SS body SS.length 0 [t]) ⟨k'.t,k'.next,cond (Nat.ble k.wm k'.wm) k.wm k'.wm⟩))) (.func (.yield l) #[] #[]) (ptr bgp) (.map (some k.next)) v5 (.int .i64 (i:Int)) h:=by
  intro f
  induction f with
  | zero=>
   intro i L v5 h hf st h0 hi hwl hb
   have hlen:=nodup_bound _ _ st.nd st.bd
   refine P222_3_of ?_
   obtain ⟨b,c,hv,h1,h2,h3⟩:=st.ls
   subst hv
   have:¬ ((i:Int)<(L.length:Int)):=by omega
   simp only [evO_some,len222_3_2,bf_lss,this,decide_false,brK_f,kR_0,ne_normal,true_and]
   have hwl':h.wm<=l:=hwl.resolve_left (by omega)
   refine ⟨.inr (by omega),?_⟩
   rw [hb]
   refine ⟨?_,?_,fun _=>⟨st.ext.next,fun c hc=>st.ext.get c hc⟩,fun h=>by cases h⟩
   ·have:=st.ext.ok
    show cond (Nat.ble k.wm h.wm) k.wm h.wm<=h.next+UNK
    unfold AH.ok at this
    cases hc:Nat.ble k.wm h.wm with
    | true=>have:=ble_true.1 hc;simp only [cond_true];omega
    | false=>simpa using this
   ·show w0<=cond (Nat.ble k.wm h.wm) k.wm h.wm
    cases Nat.ble k.wm h.wm
    ·exact st.w
    ·exact hw
  | succ f ih=>
   intro i L v5 h hf st h0 hi hwl hb
   have hlen:=nodup_bound _ _ st.nd st.bd
   refine P222_3_of ?_
   obtain ⟨b,c,hv,h1,h2,h3⟩:=id st.ls
   have hat:=fun (h':AH) (s':LS (k.next+1) h' v5 L) (hi:i<L.length)=>s'.at hi
   by_cases hiL:i<L.length
   ·have hlt:((i:Int)<(L.length:Int)):=by omega
    have hq:P222_4 true (KR E [] (fun x k'=>(isFlat x=false\/k'.wm<k.next)/\(x=.tuple #[]/\Fin22 k w0 Rt (bfs SS body SS.length 0 [t]) ⟨k'.t,k'.next,cond (Nat.ble k.wm k'.wm) k.wm k'.wm⟩))) (.func (.yield l) #[] #[]) (ptr bgp) (.map (some k.next)) v5 (.int .i64 (i:Int)) h:=by
     refine P222_4_of ?_
     obtain ⟨x3,e3,x4,e4,rfl⟩:=hat h st.ls hiL
     obtain ⟨u0,u1⟩:=st.bd L[i] (List.getElem_mem hiL)
     obtain ⟨h',y1,y2,y3,y4,y5,y6⟩:=hY h st.ext st.w L[i] u0 u1
     simp only [evO_some,e3,e4,wCall_yield,List.nil_append,y1,ev_some,uf_not,Bool.not_not,brK_bool]
     have hbf:bfs SS body (f+1) i L=(body L[i]||bfs SS body f (i+1) (nextL SS L L[i])):=by
      simp only [bfs,List.getElem?_eq_getElem hiL]
     refine ⟨fun hbt=>?_,fun hbf'=>?_⟩
     ·simp only [kR_0,ne_ret,true_and]
      refine ⟨.inr (by omega),?_⟩
      rw [hb,hbf,hbt]
      refine ⟨?_,?_,(fun h=>by cases h),fun _=>hRt h' _ (fun _=>rfl) rfl (y6 hbt)⟩
      ·unfold AH.ok at y2
       show cond (Nat.ble k.wm h'.wm) k.wm h'.wm<=h'.next+UNK
       cases hc:Nat.ble k.wm h'.wm with
       | true=>have:=ble_true.1 hc;simp only [cond_true];omega
       | false=>simpa using y2
      ·show w0<=cond (Nat.ble k.wm h'.wm) k.wm h'.wm
       cases Nat.ble k.wm h'.wm
       ·exact y4
       ·exact hw
     ·obtain ⟨z1,z2⟩:=y5 hbf'
      have st1:St22 k w0 k.next SS.length v5 L h':=st.keep ⟨y2,by rw [z1];exact st.ext.next,fun c hc=>(z2 c).trans (st.ext.get c hc)⟩ y4 (by omega) (fun c _ _=>z2 c)
      refine P222_5_of ?_
      have hgp':=(st1.ext.get bgp hgl).trans hgp
      obtain ⟨x3,e3,x4,e4,rfl⟩:=hat h' st1.ls hiL
      obtain ⟨s,hs'⟩:=Int.eq_ofNat_of_zero_le u0
      have hsN:s<SS.length:=by omega
      have hsc:s<cells.length:=by rw [G.len];exact hsN
      have hcs:cells[s]?=some cells[s]:=List.getElem?_eq_getElem hsc
      have hSs:SS[s]?=some SS[s]:=List.getElem?_eq_getElem hsN
      have q0:=load_leaf (P:=E) ta_128 (o:=0) hgp'
      have q1:=load_leaf (P:=E) ta_129 (o:=0) ((st1.ext.get bg G.ltg).trans G.g)
      have q3:=load_leaf (P:=E) ta_132 (o:=0+s*1) ((st1.ext.get bs G.lts).trans G.s)
      simp only [lnth] at q0 q1
      rw [lnth_eq,show 0+s*1=s by omega,hcs] at q3
      have ia:=ia_129 (b:=bs) (o:=0) (c:=cells.length) hsc
      rw [show 0+s*1=s by omega] at ia
      have hcell:=G.cell s _ _ hcs hSs
      obtain ⟨ca,cc,hcc⟩:=(cell_arr hcell).slice
      rw [List.length_map] at hcc
      have harr:=cell_arr hcell
      rw [hcc] at q3 harr
      rw [hs'] at e4
      obtain ⟨hS1,hS2⟩:=hSS.stp s _ hSs
      simp only [q0,evO_some,nil_ptr,fa_131_0,q1,e3,e4,Nat.add_zero,ia,q3,len222_5_10]
      have hnx:nextL SS L L[i]=(SS[s]).foldl addS L:=by
       unfold nextL
       rw [hs']
       simp [hSs]
      have steps:∀ (r j:Nat) (L':List Int) (v5':Value) (g:AH),r+j=(SS[s]).length->St22 k w0 k.next SS.length v5' L' g->L.length<=L'.length->g.wm<=l->((SS[s]).drop j).foldl addS L'=(SS[s]).foldl addS L->
        P222_6 true (KR E [] (fun x k'=>(isFlat x=false\/k'.wm<k.next)/\(x=.tuple #[]/\Fin22 k w0 Rt (bfs SS body SS.length 0 [t]) ⟨k'.t,k'.next,cond (Nat.ble k.wm k'.wm) k.wm k'.wm⟩))) (.func (.yield l) #[] #[]) (ptr bgp) (.map (some k.next)) v5' (.int .i64 (i:Int)) (.slice ca (SS[s]).length cc) (.int .i64 ((SS[s]).length:Int)) (.int .i64 (j:Int)) g:=by
       intro r
       induction r with
       | zero=>
        intro j L' v5' g hr sg hLL hgw hfold
        refine P222_6_of ?_
        have:¬ ((j:Int)<((SS[s]).length:Int)):=by omega
        simp only [bf_lss,evO_some,this,decide_false,brK_f]
        refine P222_12_of ?_
        have hi64:in64 ((i:Int)+1):=in64_of (by omega) (by have:=hSS.len;omega)
        simp only [evO_some,bf_add _ hi64]
        have:=ih (i+1) L' v5' g (by omega) sg (by omega) (by omega) (.inr hgw) (by
         rw [hb,hbf,hbf',hnx,← hfold,List.drop_eq_nil_of_le (by omega)]
         rfl)
        simpa using this
       | succ r ihr=>
        intro j L' v5' g hr sg hLL hgw hfold
        have hjS:j<(SS[s]).length:=by omega
        refine P222_6_of ?_
        have:((j:Int)<((SS[s]).length:Int)):=by omega
        simp only [bf_lss,evO_some,this,decide_true,brK_t]
        refine P222_7_of ?_
        have hat':((SS[s]).map prCells)[j]?=some (prCells (SS[s])[j]):=by simp [hjS]
        obtain ⟨b',o',c',vs',ty',es',ro',hv',hb',hlt',hle',hz',hzl'⟩:=harr.load hat'
        simp only [Value.slice.injEq] at hv'
        obtain ⟨hv1,_,_⟩:=hv'
        subst hv1
        have gb':=(sg.ext.get b' hlt').trans hb'
        obtain ⟨xt0,xtN⟩:=hS2 (SS[s])[j] (List.getElem_mem hjS)
        have hdr:=fold_drop (L:=L') hjS
        rw [hdr] at hfold
        generalize (SS[s])[j]=x at hz' xt0 xtN hfold
        simp only [ia_132 hjS,evO_some,load_agg ta_134 gb' hle',hz',z_134,new_row,ev_one,cells_agg,box134]
        refine P222_8_of ?_
        have e5:=(sg.ext.new (.row [.int .i64 0,.int .i64 0] 134 0 false)).upd (b:=g.next) sg.ext.next (some (.row (prCells x) 134 0 false))
        have x5:((g.new (.row [.int .i64 0,.int .i64 0] 134 0 false)).upd g.next (some (.row (prCells x) 134 0 false))).get g.next=some (.row (prCells x) 134 0 false):=get_upd_self _ _ _
        have w5:w0<=((g.new (.row [.int .i64 0,.int .i64 0] 134 0 false)).upd g.next (some (.row (prCells x) 134 0 false))).wm:=wm_upd_le sg.w (by have:=sg.ext.next;omega)
        have v5w:((g.new (.row [.int .i64 0,.int .i64 0] 134 0 false)).upd g.next (some (.row (prCells x) 134 0 false))).wm<=l:=Nat.le_trans (upd_wm _ _ _).1 hgw
        have n5:((g.new (.row [.int .i64 0,.int .i64 0] 134 0 false)).upd g.next (some (.row (prCells x) 134 0 false))).next=g.next+1:=rfl
        have s5:St22 k w0 k.next SS.length v5' L' ((g.new (.row [.int .i64 0,.int .i64 0] 134 0 false)).upd g.next (some (.row (prCells x) 134 0 false))):=sg.keep e5 w5 (by omega) (fun c _ hc=>(get_upd_ne (by omega)).trans (get_new_ne (by omega)))
        generalize ((g.new (.row [.int .i64 0,.int .i64 0] 134 0 false)).upd g.next (some (.row (prCells x) 134 0 false)))=g5 at e5 x5 w5 v5w n5 s5
        have y0:=load_leaf (P:=E) ta_3 (o:=0) x5
        have y1:=load_leaf (P:=E) ta_3 (o:=1) x5
        simp only [lnth,prCells] at y0 y1
        obtain ⟨R,ver,mg,mnd,mmem⟩:=s5.map
        have hdec:decide (x.2∈R)=decide (x.2∈L'):=decide_eq_decide.2 (mmem x.2)
        simp only [fa_134_0,fa_134_1,Nat.add_zero,Nat.zero_add,y0,y1,evO_some,bf_eql,gdB_bool,look273 mg mnd,hdec]
        have hj64:in64 ((j:Int)+1):=in64_of (by omega) (by omega)
        have skip:∀ g' v6 L'',St22 k w0 k.next SS.length v6 L'' g'->L.length<=L''.length->g'.wm<=l->((SS[s]).drop (j+1)).foldl addS L''=(SS[s]).foldl addS L->
          P222_11 true (KR E [] (fun x k'=>(isFlat x=false\/k'.wm<k.next)/\(x=.tuple #[]/\Fin22 k w0 Rt (bfs SS body SS.length 0 [t]) ⟨k'.t,k'.next,cond (Nat.ble k.wm k'.wm) k.wm k'.wm⟩))) (.func (.yield l) #[] #[]) (ptr bgp) (.map (some k.next)) v6 (.int .i64 (i:Int)) (.slice (some ⟨b',o',none⟩) (SS[s]).length cc) (.int .i64 ((SS[s]).length:Int)) (.int .i64 (j:Int)) g':=by
         intro g' v6 L'' s6 hl6 hw6 hf6
         refine P222_11_of ?_
         simp only [bf_add _ hj64,evO_some]
         have:=ihr (j+1) L'' v6 g' (by omega) s6 hl6 hw6 hf6
         simpa using this
        by_cases hx0:x.1=0
        ·by_cases hxm:x.2∈L'
         ·have:addS L' x=L':=by unfold addS;simp [hxm]
          rw [this] at hfold
          simp only [hx0,hxm,decide_true,beq_self_eq_true,cond_true,evO_some,fa_134_1,Nat.zero_add,y1,look273 mg mnd,hdec,uf_not,pick_bool,Bool.not_true,brK_f]
          exact skip g5 v5' L' s5 hLL v5w hfold
         ·have hadd:addS L' x=L'++[x.2]:=by unfold addS;simp [hxm,hx0]
          rw [hadd] at hfold
          simp only [hx0,hxm,decide_true,decide_false,beq_self_eq_true,cond_true,evO_some,fa_134_1,Nat.zero_add,y1,look273 mg mnd,hdec,uf_not,pick_bool,Bool.not_false,brK_t]
          refine P222_9_of ?_
          have hxR:x.2 ∉ R:=fun h=>hxm ((mmem _).1 h)
          simp only [fa_134_1,Nat.zero_add,y1,evO_some,upd273 mg mnd hxR,ev_one]
          refine P222_10_of ?_
          have e6:=s5.ext.upd (b:=k.next) (Nat.le_refl _) (some (.map (entI (insI x.2 R)) (ver+1)))
          have m6:(g5.upd k.next (some (.map (entI (insI x.2 R)) (ver+1)))).get k.next=_:=get_upd_self _ _ _
          have x6:(g5.upd k.next (some (.map (entI (insI x.2 R)) (ver+1)))).get g.next=_:=(get_upd_ne (by have:=sg.mlt;omega)).trans x5
          have w6:w0<=(g5.upd k.next (some (.map (entI (insI x.2 R)) (ver+1)))).wm:=wm_upd_le s5.w hw'
          have v6w:(g5.upd k.next (some (.map (entI (insI x.2 R)) (ver+1)))).wm<=l:=Nat.le_trans (upd_wm _ _ _).1 v5w
          have n6:(g5.upd k.next (some (.map (entI (insI x.2 R)) (ver+1)))).next=g5.next:=rfl
          have l6:LS (k.next+1) (g5.upd k.next (some (.map (entI (insI x.2 R)) (ver+1)))) v5' L':=s5.ls.mono (Nat.le_of_eq n6.symm) (fun b h1 h2 _=>get_upd_ne (by omega))
          generalize (g5.upd k.next (some (.map (entI (insI x.2 R)) (ver+1))))=g6 at e6 m6 x6 w6 v6w n6 l6
          have y6:=load_leaf (P:=E) ta_3 (o:=1) x6
          simp only [lnth,prCells] at y6
          have l7:LS (k.next+1) (g6.new (.row [.int .i64 x.2] 3 0 false)) v5' L':=l6.mono (by simp) (fun b h1 h2 _=>get_new_ne (by omega))
          have e7:=e6.new (.row [.int .i64 x.2] 3 0 false)
          have r7:=get_new_self g6 (.row [.int .i64 x.2] 3 0 false)
          have m7:(g6.new (.row [.int .i64 x.2] 3 0 false)).get k.next=_:=(get_new_ne (by have:=sg.mlt;omega)).trans m6
          have hL9:L'.length<=999999:=by have:=nodup_bound _ _ s5.nd s5.bd;have:=hSS.len;omega
          obtain ⟨v8,g8,a1,a2,a3,a4,a5,a6,a7,a8⟩:=l7.app hL9 r7
          simp only [fa_134_1,Nat.zero_add,y6,evO_some,bs47,ev_one,a1]
          have n7:(g6.new (.row [.int .i64 x.2] 3 0 false)).next=g6.next+1:=rfl
          obtain ⟨bl,cl,hvl,hl1,hl2,_⟩:=l7.ex
          have hkn:k.next<g.next:=sg.mlt
          have hnb:∀ c,c<=k.next->¬ blkOf v5' c:=by
           rintro c hc ⟨n',c',he⟩
           rw [hvl] at he
           simp only [Value.slice.injEq,Option.some.injEq,Addr.mk.injEq] at he
           omega
          have hge:∀ c,c<=k.next->g8.get c=(g6.new (.row [.int .i64 x.2] 3 0 false)).get c:=fun c hc=>a5 c (by omega) (hnb c hc)
          have s8:St22 k w0 k.next SS.length v8 (L'++[x.2]) g8:=by
           refine ⟨⟨a6 e7.ok,by omega,fun c hc=>(hge c (by omega)).trans (e7.get c hc)⟩,a8 w0 (by rw [wm_new];exact w6) (by omega),⟨insI x.2 R,ver+1,(hge _ (Nat.le_refl _)).trans m7,insI_nodup mnd hxR,fun y=>?_⟩,by omega,?_,?_,?_⟩
           ·rw [insI_mem,mmem]
            simp only [List.mem_append,List.mem_singleton]
            exact Or.comm
           ·rw [← hadd];exact addS_nodup s5.nd x
           ·intro y hy
            rcases List.mem_append.1 hy with hy|hy
            ·exact s5.bd y hy
            ·rw [List.mem_singleton.1 hy];exact ⟨xt0,xtN⟩
           ·refine ⟨_,UNK+1,?_,?_,?_,.inr ⟨rfl,a4⟩⟩
            ·rw [a2];simp
            ·omega
            ·omega
          exact skip g8 v8 _ s8 (by simp;omega) (Nat.le_trans a7 (by rw [wm_new];exact v6w)) hfold
        ·have:addS L' x=L':=by unfold addS;simp [hx0]
         rw [this] at hfold
         simp only [hx0,decide_false,show (false==true)=false from rfl,cond_false,evO_some,pick_bool,brK_f]
         exact skip g5 v5' L' s5 hLL v5w hfold
      exact steps (SS[s]).length 0 L v5 h' (by omega) st1 (Nat.le_refl _) y3 (by simp)
    subst hv
    simp only [evO_some,len222_3_2,bf_lss,hlt,decide_true,brK_t]
    exact hq
   ·subst hv
    have:¬ ((i:Int)<(L.length:Int)):=by omega
    simp only [evO_some,len222_3_2,bf_lss,this,decide_false,brK_f,kR_0,ne_normal,true_and]
    have hwl':h.wm<=l:=hwl.resolve_left (by omega)
    refine ⟨.inr (by omega),?_⟩
    rw [hb]
    have:bfs SS body (f+1) i L=false:=by
     simp only [bfs,List.getElem?_eq_none (by omega:L.length<=i)]
    rw [this]
    refine ⟨?_,?_,fun _=>⟨st.ext.next,fun c hc=>st.ext.get c hc⟩,fun h=>by cases h⟩
    ·have:=st.ext.ok
     show cond (Nat.ble k.wm h.wm) k.wm h.wm<=h.next+UNK
     unfold AH.ok at this
     cases hc:Nat.ble k.wm h.wm with
     | true=>have:=ble_true.1 hc;simp only [cond_true];omega
     | false=>simpa using this
    ·show w0<=cond (Nat.ble k.wm h.wm) k.wm h.wm
     cases Nat.ble k.wm h.wm
     ·exact st.w
     ·exact hw
 exact loop SS.length 0 [t] _ _ (by omega) st0 (by simp) (by simp) (.inl rfl) rfl
noncomputable def C130f (s:Bool) (d:Nat):Cx:=⟨E,s,none,B130e,[([],[8])],[8],[d]⟩
theorem F130f_ev {s:Bool} {d:Nat} {v8:Value} {T:Tm} {h:AH} {K:KF} (hT:∀ x∈[(8,v8)],T.get x.1=x.2) (H:Q130e_0 s K v8 h) :
  Ev s (evC E (recI E) none B130e ⟨T,h,[d]⟩) (finQ (C130f s d) K):=
 enter_ok (C:=C130f s d) (by kernel_rfl) (by kernel_rfl) hT ((by kernel_rfl:contK (C130f s d) K 30 (rs B130e 60 (.at [])) (tmOf [(8,v8)]) h=(SP (C130f s d) K [] [(8,v8)] h)).mpr
  (step_ok (p:=[]) (by kernel_rfl) rfl ((by kernel_rfl:stepK (C130f s d) K [] (tmOf [(8,v8)]) h=Q130e_0 s K v8 h).mpr H)))
theorem B130_eq:B130=.seq B130a (.seq (.seq B130b (.block 0 (.rangeFunc (.tmp 14) #[15] B130d B130c))) (.seq B130e .ret)):=by kernel_rfl
def strongAt (R:Rel) (SS:List Steps) (u:Int) (x:Int×Int):Bool:=match SS[u.toNat]? with
 | some S=>strongB R S x
 | none=>false
def bodyB (R:Rel) (SS:List Steps) (s:Int) (x:Int×Int) (u:Int):Bool:=
 decide ((s,u)∈R)&&((decide (x.1=0)&&decide ((x.2,u)∈R))||strongAt R SS u x)
def branchB (R:Rel) (SS:List Steps) (s t:Int) (x:Int×Int):Bool:=bfs SS (bodyB R SS s x) SS.length 0 [t]
theorem call178 {k:AH} {bg:Nat} {t:Int} :
  Ev true ((recI E).call 178 [ptr bg,.int .i64 t] k) fun x=>x.1=.func (.func 222) #[] #[ptr (k.next+1),ptr k.next]/\x.2.next=k.next+2/\x.2.ok/\(∀ w,w<=k.wm->w<=k.next->w<=x.2.wm) ∧
   x.2.get k.next=some (.row [ptr bg] 128 0 false)/\x.2.get (k.next+1)=some (.row [.int .i64 t] 3 0 false)/\∀ c,c<k.next->x.2.get c=k.get c:=by
 refine F178_some (Rp:=fun v k'=>v=.func (.func 222) #[] #[ptr (k.next+1),ptr k.next]/\k'.next=k.next+2/\k'.ok/\(∀ w,w<=k.wm->w<=k.next->w<=k'.wm) ∧
   k'.get k.next=some (.row [ptr bg] 128 0 false)/\k'.get (k.next+1)=some (.row [.int .i64 t] 3 0 false)/\∀ c,c<k.next->k'.get c=k.get c) (P178_0_of ?_)
 simp only [new_row,ev_one,evO_some,cellsOfV]
 refine P178_1_of ?_
 have g0:((k.fresh.new (.row [ptr bg] 128 0 false)).new (.row [.int .i64 t] 3 0 false)).get k.next=some (.row [ptr bg] 128 0 false):=(get_new_ne (by simp)).trans (get_new_self k.fresh _)
 have g1:((k.fresh.new (.row [ptr bg] 128 0 false)).new (.row [.int .i64 t] 3 0 false)).get (k.next+1)=some (.row [.int .i64 t] 3 0 false):=get_new_self (k.fresh.new _) _
 have g2:∀ c,c<k.next->((k.fresh.new (.row [ptr bg] 128 0 false)).new (.row [.int .i64 t] 3 0 false)).get c=k.get c:=fun c hc=>(get_new_ne (by simp;omega)).trans ((get_new_ne (by simp;omega)).trans rfl)
 have n1:((k.fresh.new (.row [ptr bg] 128 0 false)).new (.row [.int .i64 t] 3 0 false)).next=k.next+2:=rfl
 have w1:((k.fresh.new (.row [ptr bg] 128 0 false)).new (.row [.int .i64 t] 3 0 false)).wm=k.next+UNK:=rfl
 simp only [next_fresh,AH.next_new]
 generalize ((k.fresh.new (.row [ptr bg] 128 0 false)).new (.row [.int .i64 t] 3 0 false))=k1 at g0 g1 g2 n1 w1
 simp only [pMakeFunc,evO_some,kR_1,ne_ret,true_and]
 refine ⟨.inl rfl,n1,?_,fun w h1 h2=>?_,g0,g1,g2⟩
 ·show cond (Nat.ble k.wm k1.wm) k.wm k1.wm<=k1.next+UNK
  cases hc:Nat.ble k.wm k1.wm with
  | true=>have:=ble_true.1 hc;simp only [cond_true];omega
  | false=>simp only [cond_false];omega
 ·show w<=cond (Nat.ble k.wm k1.wm) k.wm k1.wm
  cases Nat.ble k.wm k1.wm
  ·simp only [cond_false];omega
  ·exact h1
theorem ev_inv {α:Type} {x:R α} {Q:α->Prop} (h:Ev true x Q):∃ a,x=some [a]/\Q a:=by
 obtain ⟨l,e,_,h1,h2⟩:=h
 match l,h1 rfl with
 | [a],_=>exact ⟨a,e,h2 a (by simp)⟩
def KB130 (R:Rel) (SS:List Steps) (s:Int) (x:Int×Int) (un:Int) (h:AH) (b8:Nat):KF:=fun ex _ g=>(bodyB R SS s x un=false/\ex=.normal/\g=h)\/(bodyB R SS s x un=true/\ex=.ret/\g=h.upd b8 (some (.row [.bool true] 4 0 false)))
theorem body130 {h:AH} {l b4 b5 b7 b8 m ver bg un:Nat} {gx:Value} {R:Rel} {SS:List Steps} {S:Steps} {s:Int} {x:Int×Int} {v:Value} {T:Tm} (hok:h.ok)
  (h4:h.get b4=some (.row (coup gx (ptr bg) m) 178 0 false)) (h5:h.get b5=some (.row [.int .i64 s] 3 0 false)) (h7:h.get b7=some (.row (prCells x) 134 0 false)) (h8:h.get b8=some (.row [v] 4 0 false))
  (hm:h.get m=some (.map (ent R) ver)) (hml:m<h.next) (hR:R.Nodup) (hg:GV h bg SS) (hS:SS[un]?=some S) (hSl:S.length<=1000000)
  (hT:∀ y∈[(4,ptr b4),(5,ptr b5),(7,ptr b7),(8,ptr b8),(9,Value.int .i64 (un:Int))],T.get y.1=y.2) :
  Ev true (evC E (recI E) (some l) B130c ⟨T,h,[]⟩) (finQ (C130c true l) (KB130 R SS s x un h b8)):=by
 refine F130c_ev hT (P130c_0_of ?_)
 have la:=load_agg (P:=E) ta_176 (o:=0) h4 (by simp [coup])
 rw [List.drop_zero,List.take_of_length_le (by simp [coup])] at la
 have lf:=load_agg (P:=E) ta_178 (o:=0) h4 (by simp [coup])
 rw [List.drop_zero,List.take_of_length_le (by simp [coup])] at lf
 have l5:=load_leaf (P:=E) ta_3 (o:=0) h5
 have x0:=load_leaf (P:=E) ta_3 (o:=0) h7
 have x1:=load_leaf (P:=E) ta_3 (o:=1) h7
 have lx:=load_agg (P:=E) ta_134 (o:=0) h7 (by simp [prCells])
 rw [List.drop_zero,List.take_of_length_le (by simp [prCells])] at lx
 simp only [lnth,prCells] at l5 x0 x1
 have hstrong:strongAt R SS (un:Int) x=strongB R S x:=by
  unfold strongAt
  simp [hS]
 have fin:∀ b:Bool,bodyB R SS s x un=b->BrK (some (.bool b)) (P130c_1 true l (KB130 R SS s x un h b8) (ptr b8) h) (KB130 R SS s x un h b8 .normal [] h):=by
  intro b hb
  rw [brK_bool]
  refine ⟨fun e=>?_,fun e=>.inl ⟨by rw [hb,e],rfl,rfl⟩⟩
  refine P130c_1_of ?_
  have hst:=store_of (P:=E) ts_4 (o:=0) (x:=.bool true) (cs:=[.bool true]) h8 rfl rfl (by simp) (by simp [isLeaf])
  simp only [hst,ev_one]
  exact .inr ⟨by rw [hb,e],rfl,rfl⟩
 simp only [fa_178_0,Nat.add_zero,la,l5,evO_some,wCall_0,call123 hok hm hml hR,ev_some]
 by_cases e1:(s,(un:Int))∈R
 ·simp only [e1,decide_true,gdB_bool,beq_self_eq_true,cond_true,fa_134_0,fa_134_1,Nat.add_zero,Nat.zero_add,x0,x1,evO_some,bf_eql]
  by_cases e2:x.1=0
  ·simp only [e2,decide_true,gdB_bool,gdW_bool,beq_self_eq_true,cond_true,fa_178_0,fa_134_0,fa_134_1,Nat.add_zero,Nat.zero_add,la,x1,evO_some,wCall_0,call123 hok hm hml hR,ev_some,pick_bool]
   by_cases e3:(x.2,(un:Int))∈R
   ·simp only [e3,decide_true,gdB_bool,gdW_bool,show (true==false)=false from rfl,cond_false,evO_some,ev_one,pick_bool,cond_true]
    exact fin true (by simp [bodyB,e1,e2,e3])
   ·simp only [e3,decide_false,gdB_bool,gdW_bool,beq_self_eq_true,cond_true,lf,l5,lx,evO_some,wCall_0,call128 hok hm hml hR hg hS hSl,ev_some,pick_bool,cond_false]
    exact fin _ (by simp [bodyB,e1,e2,e3,hstrong])
  ·simp only [e2,decide_false,gdB_bool,gdW_bool,show (false==true)=false from rfl,beq_self_eq_true,cond_false,cond_true,evO_some,ev_one,pick_bool,lf,l5,lx,wCall_0,call128 hok hm hml hR hg hS hSl,ev_some]
   exact fin _ (by simp [bodyB,e1,e2,hstrong])
 ·simp only [e1,decide_false,gdB_bool,gdW_bool,gdB_undef,gdW_undef,show (false==true)=false from rfl,cond_false,evO_some,ev_one,pick_bool]
  exact fin false (by simp [bodyB,e1])
noncomputable def loopO (st:LoopState) (pend:Option Code) (T:Tm) (d:Nat):AObj:=.loop st pend T [15] B130d B130c d
theorem row_ne_loop {h:AH} {a l:Nat} {vs:List Value} {ty es:Nat} {ro:Bool} {st:LoopState} {pend:Option Code} {T:Tm} {d:Nat} (h1:h.get a=some (.row vs ty es ro)) (h2:h.get l=some (loopO st pend T d)):a≠l:=by
 rintro rfl
 rw [h1] at h2
 simp [loopO] at h2
theorem map_ne_loop {h:AH} {a l:Nat} {es:List (Value×Value)} {ver:Nat} {st:LoopState} {pend:Option Code} {T:Tm} {d:Nat} (h1:h.get a=some (.map es ver)) (h2:h.get l=some (loopO st pend T d)):a≠l:=by
 rintro rfl
 rw [h1] at h2
 simp [loopO] at h2
theorem GV.upd_loop {h:AH} {bg l:Nat} {SS:List Steps} {st:LoopState} {pend:Option Code} {T:Tm} {d:Nat} (g:GV h bg SS) (hl:h.get l=some (loopO st pend T d)) (o:Option AObj):GV (h.upd l o) bg SS:=by
 obtain ⟨loc,bs,cells,G⟩:=g.ex
 refine ⟨loc,bs,cells,(get_upd_ne (row_ne_loop G.g hl)).trans G.g,(get_upd_ne (row_ne_loop G.s hl)).trans G.s,G.len,G.ne,G.ltg,G.lts,G.locg,G.locs,fun i c S hc hS=>?_,G.blk,G.dis⟩
 rcases G.cell i c S hc hS with a|⟨b,a1,a2,a3⟩
 ·exact .inl a
 ·exact .inr ⟨b,a1,(get_upd_ne (row_ne_loop a2 hl)).trans a2,a3⟩
theorem round130 {h:AH} {l d b4 b5 b7 b8 m ver bg un:Nat} {gx:Value} {R:Rel} {SS:List Steps} {S:Steps} {s:Int} {x:Int×Int} {v:Value} {T:Tm} (hok:h.ok)
  (hl:h.get l=some (loopO .ready none T d))
  (h4:h.get b4=some (.row (coup gx (ptr bg) m) 178 0 false)) (h5:h.get b5=some (.row [.int .i64 s] 3 0 false)) (h7:h.get b7=some (.row (prCells x) 134 0 false)) (h8:h.get b8=some (.row [v] 4 0 false))
  (hm:h.get m=some (.map (ent R) ver)) (hml:m<h.next) (hR:R.Nodup) (hg:GV h bg SS) (hS:SS[un]?=some S) (hSl:S.length<=1000000)
  (hT:∀ y∈[(4,ptr b4),(5,ptr b5),(7,ptr b7),(8,ptr b8)],T.get y.1=y.2) :
  ∃ h',(recI E).round l [.int .i64 (un:Int)] h=some [(.bool (!bodyB R SS s x un),h')]/\h'.ok/\h'.wm<=l/\(∀ w,w<=h.wm->w<=l->w<=b8->w<=h'.wm)/\h'.next=h.next/\(bodyB R SS s x un=false->∀ c,h'.get c=h.get c) ∧
   (bodyB R SS s x un=true->h'.get l=some (loopO .done (some .ret) T d)/\h'.get b8=some (.row [.bool true] 4 0 false)/\∀ c,c≠l->c≠b8->h'.get c=h.get c):=by
 have n4:=row_ne_loop h4 hl
 have n5:=row_ne_loop h5 hl
 have n7:=row_ne_loop h7 hl
 have n8:=row_ne_loop h8 hl
 have nm:=map_ne_loop hm hl
 let hb:=h.upd l (some (loopO .busy none T d))
 have hbok:hb.ok:=ok_upd hok _ _
 have q:∀ {c:Nat},c≠l->hb.get c=h.get c:=fun hc=>get_upd_ne hc
 have ql:hb.get l=some (loopO .busy none T d):=get_upd_self _ _ _
 have key:Ev true ((recI E).round l [.int .i64 (un:Int)] h) fun y=>(bodyB R SS s x un=false/\y=(.bool true,hb.upd l (some (loopO .ready none T d))))\/(bodyB R SS s x un=true/\y=(.bool false,(hb.upd b8 (some (.row [.bool true] 4 0 false))).upd l (some (loopO .done (some .ret) T d)))):=by
  rw [round_eq]
  unfold roundCall
  rw [hl]
  show Ev true (startRound E (recI E) l B130d B130c h (setParams T [15] [.int .i64 (un:Int)])) _
  show Ev true (AM.R.andThen (evC E (recI E) (some l) B130d ⟨T.put 15 (.int .i64 (un:Int)),h,[]⟩) (midRound E (recI E) l B130c)) _
  have hT':∀ y∈[(4,ptr b4),(5,ptr b5),(7,ptr b7),(8,ptr b8),(15,Value.int .i64 (un:Int))],(T.put 15 (.int .i64 (un:Int))).get y.1=y.2:=by
   intro y hy
   rw [Tm.get_put]
   simp only [List.mem_cons,List.not_mem_nil,or_false] at hy
   rcases hy with rfl|rfl|rfl|rfl|rfl
   ·exact hT _ (by simp)
   ·exact hT _ (by simp)
   ·exact hT _ (by simp)
   ·exact hT _ (by simp)
   ·rfl
  have ha:=F130d_ev (s:=true) (ll:=l) (h:=h) (K:=fun ex vs g=>ex=.normal/\vs=[ptr b4,ptr b5,ptr b7,ptr b8,.int .i64 (un:Int)]/\g=h) hT' (P130d_0_of (by exact ⟨by trivial,by trivial,by trivial⟩))
  refine Ev.andThen (ha.mono fun o ho=>?_)
  obtain ⟨o1,o2,o3,o4⟩:=ho
  have ho1:o.st.defs=[]:=o1
  have ho3:[o.st.T.get 4,o.st.T.get 5,o.st.T.get 7,o.st.T.get 8,o.st.T.get 9]=[ptr b4,ptr b5,ptr b7,ptr b8,.int .i64 (un:Int)]:=o3
  simp only [List.cons.injEq,and_true] at ho3
  unfold midRound
  rw [o2,o4,ho1]
  simp only [isReady,hl,loopO,cond_true,setLoop,beginRound]
  have hT2:∀ y∈[(4,ptr b4),(5,ptr b5),(7,ptr b7),(8,ptr b8),(9,Value.int .i64 (un:Int))],o.st.T.get y.1=y.2:=by
   intro y hy
   simp only [List.mem_cons,List.not_mem_nil,or_false] at hy
   rcases hy with rfl|rfl|rfl|rfl|rfl
   ·exact ho3.1
   ·exact ho3.2.1
   ·exact ho3.2.2.1
   ·exact ho3.2.2.2.1
   ·exact ho3.2.2.2.2
  have hb0:=body130 (h:=hb) (l:=l) (s:=s) (T:=o.st.T) hbok ((q n4).trans h4) ((q n5).trans h5) ((q n7).trans h7) ((q n8).trans h8) ((q nm).trans hm) hml hR (hg.upd_loop hl _) hS hSl hT2
  refine Ev.andThen (hb0.mono fun p hp=>?_)
  obtain ⟨_,p2⟩:=hp
  rcases p2 with ⟨p3,p4,p5⟩|⟨p3,p4,p5⟩
  ·unfold endRound
   rw [p4,p5]
   simp only [jumpOf,setLoop,ql,loopO,endRoundAt,Option.isNone,cond_true]
   exact Ev.one (.inl ⟨p3,rfl⟩)
  ·unfold endRound
   rw [p4,p5]
   have:(hb.upd b8 (some (.row [.bool true] 4 0 false))).get l=some (loopO .busy none T d):=(get_upd_ne (Ne.symm n8)).trans ql
   simp only [jumpOf,setLoop,this,loopO,endRoundAt,Option.isNone,cond_false]
   exact Ev.one (.inr ⟨p3,rfl⟩)
 obtain ⟨y,e,hy⟩:=ev_inv key
 rcases hy with ⟨hy,rfl⟩|⟨hy,rfl⟩
 ·refine ⟨_,by rw [e,hy];rfl,ok_upd hbok _ _,(upd_wm _ _ _).2,fun w h1 h2 h3=>wm_upd_le (wm_upd_le h1 h2) h2,rfl,fun _ c=>?_,(fun h=>by rw [hy] at h;cases h)⟩
  by_cases hc:c=l
  ·subst hc;rw [get_upd_self,hl]
  ·rw [get_upd_ne hc,q hc]
 ·refine ⟨_,by rw [e,hy];rfl,ok_upd (ok_upd hbok _ _) _ _,(upd_wm _ _ _).2,fun w h1 h2 h3=>wm_upd_le (wm_upd_le (wm_upd_le h1 h2) h3) h2,rfl,(fun h=>by rw [hy] at h;cases h),fun _=>⟨get_upd_self _ _ _,(get_upd_ne n8).trans (get_upd_self _ _ _),fun c h1 h2=>?_⟩⟩
  rw [get_upd_ne h1,get_upd_ne h2,q h1]
theorem end130 {T:Tm} {h:AH} {d b8:Nat} {b:Bool} {ex:Ex} (hex:ex=.ret\/ex=.normal) (hT:T.get 8=ptr b8) (hd:h.get d=some .defd) (h8:h.get b8=some (.row [.bool b] 4 0 false)) :
  endCall E Tryz.f130 ⟨ex,⟨T,h,[d]⟩⟩=one (.bool b,h.upd d none):=by
 have hne:b8≠d:=by rintro rfl;rw [hd] at h8;cases h8
 have h8':(h.upd d none).get b8=some (.row [.bool b] 4 0 false):=(get_upd_ne hne).trans h8
 have hres:Tryz.f130.results.toList=[.cell 8 4]:=by kernel_rfl
 have hld:=load_leaf (P:=E) ta_4 (o:=0) h8'
 simp only [lnth] at hld
 have hld':loadV E 4 (ptr b8) (h.upd d none)=some (.bool b):=hld
 have:endCall E Tryz.f130 ⟨ex,⟨T,h,[d]⟩⟩=endCallAt E Tryz.f130 T (killAll [d] h):=by
  rcases hex with rfl|rfl <;> rfl
 rw [this]
 simp only [killAll,hd,endCallAt,resultsV,hres,resVars,hT,hld',v1]
theorem call130 {k:AH} {m ver bg:Nat} {gx:Value} {R:Rel} {SS:List Steps} {s t:Int} {x:Int×Int} (hok:k.ok)
  (hm:k.get m=some (.map (ent R) ver)) (hml:m<k.next) (hR:R.Nodup) (hg:GV k bg SS) (hSS:SSok SS) (ht0:0<=t) (htN:t<(SS.length:Int)) :
  (recI E).call 130 [.agg ⟨coup gx (ptr bg) m⟩,.int .i64 s,.int .i64 t,.agg ⟨prCells x⟩] k=some [(.bool (branchB R SS s t x),k)]:=by
 refine call_flat (s:=true) hok F130_get F130_body (F130_sum _ _) (by kernel_rfl) rfl ?_
 show Ev true (AM.R.andThen (evC E (recI E) none B130 ⟨⟨Tryz.f130.ntmps,initT [.agg ⟨coup gx (ptr bg) m⟩,.int .i64 s,.int .i64 t,.agg ⟨prCells x⟩] 0 .e⟩,k.fresh,[]⟩) (endCall E Tryz.f130)) _
 have hT0:∀ y∈[(0,Value.agg ⟨coup gx (ptr bg) m⟩),(1,.int .i64 s),(2,.int .i64 t),(3,.agg ⟨prCells x⟩)],(⟨Tryz.f130.ntmps,initT [.agg ⟨coup gx (ptr bg) m⟩,.int .i64 s,.int .i64 t,.agg ⟨prCells x⟩] 0 .e⟩:Tm).get y.1=y.2:=by
  intro y hy
  simp only [List.mem_cons,List.not_mem_nil,or_false] at hy
  rcases hy with rfl|rfl|rfl|rfl <;> kernel_rfl
 generalize (⟨Tryz.f130.ntmps,initT [.agg ⟨coup gx (ptr bg) m⟩,.int .i64 s,.int .i64 t,.agg ⟨prCells x⟩] 0 .e⟩:Tm)=T0 at hT0
 rw [B130_eq]
 refine Ev.andThen ?_
 show Ev true (AM.R.andThen (evC E (recI E) none B130a ⟨T0,k.fresh,[]⟩) (thenC (evC E (recI E) none (.seq (.seq B130b (.block 0 (.rangeFunc (.tmp 14) #[15] B130d B130c))) (.seq B130e .ret))))) _
 obtain ⟨kA,hkA,oA,a4,a5,a7,a8,nA⟩:∃ kA,kA=(((k.fresh.new (.row (coup gx (ptr bg) m) 178 0 false)).new (.row [.int .i64 s] 3 0 false)).new (.row (prCells x) 134 0 false)).new (.row [.bool false] 4 0 false)/\Own k kA/\kA.get k.next=some (.row (coup gx (ptr bg) m) 178 0 false) ∧
   kA.get (k.next+1)=some (.row [.int .i64 s] 3 0 false)/\kA.get (k.next+2)=some (.row (prCells x) 134 0 false)/\kA.get (k.next+3)=some (.row [.bool false] 4 0 false)/\kA.next=k.next+4:=by
  refine ⟨_,rfl,((((Own.fresh k).new _).new _).new _).new _,?_,?_,?_,?_,rfl⟩
  ·exact (get_new_ne (by simp;omega)).trans ((get_new_ne (by simp;omega)).trans ((get_new_ne (by simp)).trans (get_new_self k.fresh _)))
  ·exact (get_new_ne (by simp)).trans ((get_new_ne (by simp)).trans (get_new_self (k.fresh.new _) _))
  ·exact (get_new_ne (by simp)).trans (get_new_self ((k.fresh.new _).new _) _)
  ·exact get_new_self (((k.fresh.new _).new _).new _) _
 have ha:=F130a_ev (s:=true) (h:=k.fresh) (K:=fun ex vs g=>ex=.normal/\vs=[.int .i64 t,ptr k.next,ptr (k.next+1),ptr (k.next+2),ptr (k.next+3)]/\g=kA) hT0 (P130a_0_of (by
  simp only [new_row,ev_one,evO_some,cells_agg,cellsOfV,z4]
  exact ⟨trivial,rfl,hkA.symm⟩))
 refine Ev.andThen (ha.mono fun o ho=>?_)
 obtain ⟨ex,T,g,ds⟩:=o
 obtain ⟨o1,o2,o3,o4⟩:=ho
 have o1':ds=[]:=o1
 have o2':ex=.normal:=o2
 have o4':g=kA:=o4
 subst o1' o2' o4'
 clear o1 o2 o4
 have o3':[T.get 2,T.get 4,T.get 5,T.get 7,T.get 8]=[.int .i64 t,ptr k.next,ptr (k.next+1),ptr (k.next+2),ptr (k.next+3)]:=o3
 simp only [List.cons.injEq,and_true] at o3'
 show Ev true (AM.R.andThen (AM.R.andThen (evC E (recI E) none B130b ⟨T,g,[]⟩) (thenC (evC E (recI E) none (.block 0 (.rangeFunc (.tmp 14) #[15] B130d B130c))))) (thenC (evC E (recI E) none (.seq B130e .ret)))) _
 refine Ev.andThen (Ev.andThen ?_)
 have hTb:∀ y∈[(2,Value.int .i64 t),(4,ptr k.next),(5,ptr (k.next+1)),(7,ptr (k.next+2)),(8,ptr (k.next+3))],T.get y.1=y.2:=by
  intro y hy
  simp only [List.mem_cons,List.not_mem_nil,or_false] at hy
  rcases hy with rfl|rfl|rfl|rfl|rfl
  ·exact o3'.1
  ·exact o3'.2.1
  ·exact o3'.2.2.1
  ·exact o3'.2.2.2.1
  ·exact o3'.2.2.2.2
 have lg:=load_leaf (P:=E) ta_128 (o:=1) a4
 simp only [lnth,coup] at lg
 have hb:=F130b_ev (s:=true) (h:=g) (K:=fun ex vs kB=>ex=.normal/\vs=[ptr k.next,ptr (k.next+1),ptr (k.next+2),ptr (k.next+3),.func (.func 222) #[] #[ptr (g.next+1),ptr g.next]] ∧
   kB.next=g.next+2/\kB.ok/\(∀ w,w<=g.wm->w<=g.next->w<=kB.wm)/\kB.get g.next=some (.row [ptr bg] 128 0 false)/\kB.get (g.next+1)=some (.row [.int .i64 t] 3 0 false)/\∀ c,c<g.next->kB.get c=g.get c) hTb (P130b_0_of (by
  simp only [fa_178_0,fa_176_1,Nat.add_zero,Nat.zero_add,lg,evO_some,wCall_0]
  refine call178.mono fun y hy=>?_
  obtain ⟨y1,y2⟩:=hy
  rw [y1]
  exact ⟨trivial,rfl,y2⟩))
 refine hb.mono fun o ho=>?_
 obtain ⟨ex,T',kB,ds⟩:=o
 obtain ⟨p1,p2,p3,nB,okB,wB,b4,b5,bo⟩:=ho
 have p1':ds=[]:=p1
 have p2':ex=.normal:=p2
 subst p1' p2'
 clear p1 p2
 have p3':[T'.get 4,T'.get 5,T'.get 7,T'.get 8,T'.get 14]=[ptr k.next,ptr (k.next+1),ptr (k.next+2),ptr (k.next+3),.func (.func 222) #[] #[ptr (g.next+1),ptr g.next]]:=p3
 simp only [List.cons.injEq,and_true] at p3'
 obtain ⟨t4,t5,t7,t8,t14⟩:=p3'
 clear p3
 simp only at nB okB wB b4 b5 bo
 show Ev true (AM.R.andThen (evRange E (recI E) none (some (T'.get 14)) [15] B130d B130c ⟨T',kB,[]⟩) (blockOut 0)) _
 rw [t14]
 have hhb:hasBody E 222=true:=by kernel_rfl
 have hst:evRange E (recI E) none (some (.func (.func 222) #[] #[ptr (g.next+1),ptr g.next])) [15] B130d B130c ⟨T',kB,[]⟩ =
   AM.R.andThen ((recI E).call 222 [.func (.yield (kB.next+1)) #[] #[],ptr (g.next+1),ptr g.next] ((kB.new .defd).new (loopO .ready none T' kB.next))) fun x=>endRange (kB.next+1) T' [kB.next] x.2:=by
  unfold evRange
  simp only [hhb,cond_true]
  rfl
 rw [hst]
 refine Ev.andThen (Ev.andThen ?_)
 have okC:((kB.new .defd).new (loopO .ready none T' kB.next)).ok:=ok_new (ok_new okB _) _
 have cl:((kB.new .defd).new (loopO .ready none T' kB.next)).get (kB.next+1)=some (loopO .ready none T' kB.next):=get_new_self (kB.new .defd) _
 have cd:((kB.new .defd).new (loopO .ready none T' kB.next)).get kB.next=some .defd:=(get_new_ne (by simp)).trans (get_new_self kB _)
 have co:∀ c,c<kB.next->((kB.new .defd).new (loopO .ready none T' kB.next)).get c=kB.get c:=fun c hc=>(get_new_ne (by simp;omega)).trans (get_new_ne (by omega))
 have nC:((kB.new .defd).new (loopO .ready none T' kB.next)).next=kB.next+2:=rfl
 have wC:((kB.new .defd).new (loopO .ready none T' kB.next)).wm=kB.wm:=rfl
 generalize ((kB.new .defd).new (loopO .ready none T' kB.next))=kC at okC cl cd co nC wC
 have cg:∀ c,c<g.next->kC.get c=g.get c:=fun c hc=>(co c (by omega)).trans (bo c hc)
 have eC:Ext k kC:=⟨okC,by omega,fun c hc=>(cg c (by omega)).trans (oA.ext.get c hc)⟩
 have hw0:k.next<=kC.wm:=by rw [wC];exact wB _ oA.wm (by omega)
 have hY:Yd kC (kB.next+1) k.next SS.length (bodyB R SS s x) (fun h'=>h'.get (kB.next+1)=some (loopO .done (some .ret) T' kB.next)/\h'.get (k.next+3)=some (.row [.bool true] 4 0 false)/\h'.get kB.next=some .defd):=by
  intro h he hw u hu0 huN
  obtain ⟨un,rfl⟩:=Int.eq_ofNat_of_zero_le hu0
  have hun:un<SS.length:=by omega
  have hSu:SS[un]?=some SS[un]:=List.getElem?_eq_getElem hun
  have hek:=eC.trans he
  obtain ⟨h',r1,r2,r3,r4,r5,r6,r7⟩:=round130 (h:=h) (un:=un) (s:=s) (x:=x) he.ok ((he.get _ (by omega)).trans cl) ((he.get _ (by omega)).trans ((cg _ (by omega)).trans a4)) ((he.get _ (by omega)).trans ((cg _ (by omega)).trans a5)) ((he.get _ (by omega)).trans ((cg _ (by omega)).trans a7)) ((he.get _ (by omega)).trans ((cg _ (by omega)).trans a8))
   ((hek.get m hml).trans hm) (Nat.lt_of_lt_of_le hml hek.next) hR (hg.ext hek) hSu (by have:=(hSS.stp un _ hSu).1;omega) (by
    intro y hy
    simp only [List.mem_cons,List.not_mem_nil,or_false] at hy
    rcases hy with rfl|rfl|rfl|rfl
    ·exact t4
    ·exact t5
    ·exact t7
    ·exact t8)
  refine ⟨h',r1,r2,r3,r4 _ hw (by omega) (by omega),fun e=>⟨r5,r6 e⟩,fun e=>?_⟩
  obtain ⟨z1,z2,z3⟩:=r7 e
  exact ⟨z1,z2,(z3 _ (by omega) (by omega)).trans ((he.get _ (by omega)).trans cd)⟩
 have hc:=call222 (k:=kC) (l:=kB.next+1) (bs0:=g.next+1) (bgp:=g.next) (bg:=bg) (w0:=k.next) (SS:=SS) (t:=t) okC ((co _ (by omega)).trans b5) (by omega) ((co _ (by omega)).trans b4) (by omega) (hg.ext eC) hSS ht0 htN hw0 (by omega) (by omega) (fun h h' hge hn hr=>by
  rw [hge,hge,hge];exact hr) hY
 refine hc.mono fun y hy=>?_
 obtain ⟨v,h⟩:=y
 obtain ⟨_,f1,f2,f3,f4⟩:=hy
 simp only at f1 f2 f3 f4 ⊢
 have hfold:bfs SS (bodyB R SS s x) SS.length 0 [t]=branchB R SS s t x:=rfl
 rw [hfold] at f3 f4
 cases hb:branchB R SS s t x with
 | true=>
  obtain ⟨r1,r2,r3⟩:=f4 hb
  have her:endRange (kB.next+1) T' [kB.next] h=one ⟨.ret,⟨T',h.upd (kB.next+1) (some (loopO .exhausted (some .ret) T' kB.next)),[kB.next]⟩⟩:=by
   unfold endRange
   rw [r1]
   rfl
  rw [her,ev_one]
  show Ev true (one _) _
  rw [ev_one]
  show Ev true (one _) _
  rw [ev_one]
  show Ev true (endCall E Tryz.f130 ⟨.ret,⟨T',h.upd (kB.next+1) (some (loopO .exhausted (some .ret) T' kB.next)),[kB.next]⟩⟩) _
  rw [end130 (.inl rfl) t8 ((get_upd_ne (by omega)).trans r3) ((get_upd_ne (by omega)).trans r2),ev_one]
  exact ⟨rfl,wm_upd_le (wm_upd_le f2 (by omega)) (by omega)⟩
 | false=>
  obtain ⟨r1,r2⟩:=f3 hb
  have hgl:h.get (kB.next+1)=some (loopO .ready none T' kB.next):=(r2 _ (by omega)).trans cl
  have her:endRange (kB.next+1) T' [kB.next] h=one ⟨.normal,⟨T',h.upd (kB.next+1) (some (loopO .exhausted none T' kB.next)),[kB.next]⟩⟩:=by
   unfold endRange
   rw [hgl]
   rfl
  rw [her,ev_one]
  show Ev true (one _) _
  rw [ev_one]
  have q8:(h.upd (kB.next+1) (some (loopO .exhausted none T' kB.next))).get (k.next+3)=some (.row [.bool false] 4 0 false):=(get_upd_ne (by omega)).trans ((r2 _ (by omega)).trans ((cg _ (by omega)).trans a8))
  have qd:(h.upd (kB.next+1) (some (loopO .exhausted none T' kB.next))).get kB.next=some .defd:=(get_upd_ne (by omega)).trans ((r2 _ (by omega)).trans cd)
  have qw:k.next<=(h.upd (kB.next+1) (some (loopO .exhausted none T' kB.next))).wm:=wm_upd_le f2 (by omega)
  generalize (h.upd (kB.next+1) (some (loopO .exhausted none T' kB.next)))=h1 at q8 qd qw
  show Ev true (AM.R.andThen (evC E (recI E) none B130e ⟨T',h1,[kB.next]⟩) (thenC (evC E (recI E) none .ret))) _
  have hst:=store_of (P:=E) ts_4 (o:=0) (x:=.bool false) (cs:=[.bool false]) q8 rfl rfl (by simp) (by simp [isLeaf])
  have he:=F130f_ev (s:=true) (d:=kB.next) (v8:=ptr (k.next+3)) (T:=T') (h:=h1) (K:=fun ex vs g=>ex=.normal/\vs=[ptr (k.next+3)]/\g=h1.upd (k.next+3) (some (.row [.bool false] 4 0 false))) (by
   intro y hy
   simp only [List.mem_cons,List.not_mem_nil,or_false] at hy
   subst hy
   exact t8) (by
   simp only [Q130e_0,hst,ev_one]
   exact ⟨trivial,trivial,rfl⟩)
  refine Ev.andThen (he.mono fun o ho=>?_)
  obtain ⟨ex,T2,g2,ds⟩:=o
  obtain ⟨o1,o2,o3,o4⟩:=ho
  have o1':ds=[kB.next]:=o1
  have o2':ex=.normal:=o2
  have o4':g2=h1.upd (k.next+3) (some (.row [.bool false] 4 0 false)):=o4
  have o3':[T2.get 8]=[ptr (k.next+3)]:=o3
  subst o1' o2' o4'
  show Ev true (one _) _
  rw [ev_one]
  show Ev true (endCall E Tryz.f130 ⟨.ret,⟨T2,h1.upd (k.next+3) (some (.row [.bool false] 4 0 false)),[kB.next]⟩⟩) _
  rw [end130 (.inl rfl) (List.cons.inj o3').1 ((get_upd_ne (by omega)).trans qd) (get_upd_self _ _ _),ev_one]
  exact ⟨rfl,wm_upd_le (wm_upd_le qw (by omega)) (by omega)⟩
def SameR (R R':Rel):Prop:=∀ p,p∈R ↔ p∈R'
theorem SameR.dec {R R':Rel} (h:SameR R R') (p:Int×Int):decide (p∈R)=decide (p∈R'):=decide_eq_decide.2 (h p)
theorem strongB_same {R R':Rel} (h:SameR R R') (S:Steps) (x:Int×Int):strongB R S x=strongB R' S x:=by
 have:stepIs R x=stepIs R' x:=by funext y;unfold stepIs;rw [h.dec]
 unfold strongB
 simp only [this]
theorem strongAt_same {R R':Rel} (h:SameR R R') (SS:List Steps) (u:Int) (x:Int×Int):strongAt R SS u x=strongAt R' SS u x:=by
 unfold strongAt
 split
 ·exact strongB_same h _ _
 ·rfl
theorem bodyB_same {R R':Rel} (h:SameR R R') (SS:List Steps) (s:Int) (x:Int×Int):bodyB R SS s x=bodyB R' SS s x:=by
 funext u
 unfold bodyB
 rw [h.dec,h.dec,strongAt_same h]
theorem branchB_same {R R':Rel} (h:SameR R R') (SS:List Steps) (s t:Int) (x:Int×Int):branchB R SS s t x=branchB R' SS s t x:=by
 unfold branchB
 rw [bodyB_same h]
def followB (kind:Int) (R:Rel) (TT:List Steps) (p x:Int×Int):Bool:=if kind=1 then strongAt R TT p.2 x else branchB R TT p.1 p.2 x
theorem followB_same {R R':Rel} (h:SameR R R') (kind:Int) (TT:List Steps):followB kind R TT=followB kind R' TT:=by
 funext p x
 unfold followB
 rw [strongAt_same h,branchB_same h]
theorem all_same {α:Type} {l l':List α} (h:∀ a,a∈l ↔ a∈l') (f:α->Bool):l.all f=l'.all f:=by
 rw [Bool.eq_iff_iff,List.all_eq_true,List.all_eq_true]
 exact ⟨fun H a ha=>H a ((h a).2 ha),fun H a ha=>H a ((h a).1 ha)⟩
def allK (kind:Int) (R:Rel) (SS TT:List Steps):Bool:=allB R SS (followB kind R TT)
theorem allK_same {R R':Rel} (h:SameR R R') (kind:Int) (SS TT:List Steps):allK kind R SS TT=allK kind R' SS TT:=by
 unfold allK allB
 rw [followB_same h]
 exact all_same h _
def inB (n m:Int) (p:Int×Int):Bool:=decide (p.1<n)&&decide (p.2<m)
def relB (kind:Int) (prs:Rel) (SS TT:List Steps) (n m:Int):Bool:=
 prs.all (inB n m)&&(decide ((0,0)∈prs)&&allK kind prs SS TT&&allK kind (prs.map swapP) TT SS)
def manCells (kind:Int):List Value:=
 if kind=1 then [.func (.func 128) #[] #[],.func (.func 129) #[] #[],.string ⟨#[115,116,114,111,110,103]⟩]
 else [.func (.func 130) #[] #[],.func (.func 131) #[] #[],.string ⟨#[98,114,97,110,99,104,105,110,103]⟩]
def mansV:Value:=.agg ⟨[.nilFunc,.nilFunc,.string ⟨#[]⟩]++manCells 1++manCells 2⟩
theorem pbm1:pBuild E 112 (some [(0,(.func (.func 128) #[] #[])),(1,(.func (.func 129) #[] #[])),(2,(.string ⟨#[115,116,114,111,110,103]⟩))])=some (.agg ⟨manCells 1⟩):=by kernel_rfl
theorem pbm2:pBuild E 112 (some [(0,(.func (.func 130) #[] #[])),(1,(.func (.func 131) #[] #[])),(2,(.string ⟨#[98,114,97,110,99,104,105,110,103]⟩))])=some (.agg ⟨manCells 2⟩):=by kernel_rfl
theorem pbm:pBuild E 113 (some [(1,.agg ⟨manCells 1⟩),(2,.agg ⟨manCells 2⟩)])=some mansV:=by kernel_rfl
theorem pim1:pIndex E 113 (some mansV) (some (.int .i64 1))=some (.agg ⟨manCells 1⟩):=by kernel_rfl
theorem pim2:pIndex E 113 (some mansV) (some (.int .i64 2))=some (.agg ⟨manCells 2⟩):=by kernel_rfl
theorem pim {kind:Int} (h:isMan kind=true):pIndex E 113 (some mansV) (some (.int .i64 kind))=some (.agg ⟨manCells kind⟩):=by
 simp only [isMan,Bool.or_eq_true,decide_eq_true_eq] at h
 rcases h with rfl|rfl
 ·exact pim1
 ·exact pim2
theorem call79 {k:AH} (hok:k.ok):(recI E).call 79 [] k=some [(mansV,k)]:=by
 refine F79_flat1 hok (by kernel_rfl) (P79_0_of ?_)
 simp only [z_113,new_row,ev_one,cells_agg]
 refine P79_1_of ?_
 have o1:=(Own.fresh k).new (.row [.nilFunc,.nilFunc,.string ⟨#[]⟩,.nilFunc,.nilFunc,.string ⟨#[]⟩,.nilFunc,.nilFunc,.string ⟨#[]⟩] 113 0 false)
 have t1:=get_new_self k.fresh (.row [.nilFunc,.nilFunc,.string ⟨#[]⟩,.nilFunc,.nilFunc,.string ⟨#[]⟩,.nilFunc,.nilFunc,.string ⟨#[]⟩] 113 0 false)
 generalize k.fresh.new (.row [.nilFunc,.nilFunc,.string ⟨#[]⟩,.nilFunc,.nilFunc,.string ⟨#[]⟩,.nilFunc,.nilFunc,.string ⟨#[]⟩] 113 0 false)=k1 at o1 t1
 simp only [next_fresh] at t1 ⊢
 have hst:=store_of (P:=E) ts_113 (o:=0) (x:=mansV) (cs:=[.nilFunc,.nilFunc,.string ⟨#[]⟩]++manCells 1++manCells 2) t1 rfl rfl (by simp) (by rfl)
 simp only [pbm1,pbm2,pbm,evO_some,hst,ev_one,kR_c,ne_ret,true_and]
 have g1:(k1.upd k.next (some (.row (lput [.nilFunc,.nilFunc,.string ⟨#[]⟩,.nilFunc,.nilFunc,.string ⟨#[]⟩,.nilFunc,.nilFunc,.string ⟨#[]⟩] 0 ([.nilFunc,.nilFunc,.string ⟨#[]⟩]++manCells 1++manCells 2)) 113 0 false))).get k.next=some (.row ([.nilFunc,.nilFunc,.string ⟨#[]⟩]++manCells 1++manCells 2) 113 0 false):=get_upd_self _ _ _
 have la:=load_agg (P:=E) ta_113 (o:=0) g1 (by decide)
 have:loadV E 113 (ptr k.next) (k1.upd k.next (some (.row (lput [.nilFunc,.nilFunc,.string ⟨#[]⟩,.nilFunc,.nilFunc,.string ⟨#[]⟩,.nilFunc,.nilFunc,.string ⟨#[]⟩] 0 ([.nilFunc,.nilFunc,.string ⟨#[]⟩]++manCells 1++manCells 2)) 113 0 false)))=some mansV:=la
 rw [this,evO_some]
 exact ⟨rfl,wm_upd_le o1.wm (Nat.le_refl _)⟩
theorem GV.fx {k l:AH} {bg:Nat} {SS:List Steps} (g:GV k bg SS) (f:Fx NoB k l):GV l bg SS:=g.ext ⟨f.ok,f.next,fun c hc=>f.get c hc (fun h=>h)⟩
theorem Fx.ext0 {k l:AH} (f:Fx NoB k l):Ext k l:=⟨f.ok,f.next,fun c hc=>f.get c hc (fun h=>h)⟩
theorem pb178 {a b:Option Addr} {m:Nat}:pBuild E 178 (some [(0,.agg ⟨coup (.pointer a) (.pointer b) m⟩)])=some (.agg ⟨coup (.pointer a) (.pointer b) m⟩):=by kernel_rfl
def folOf (kind:Int):FuncId:=if kind=1 then 128 else 130
def canOf (kind:Int):FuncId:=if kind=1 then 129 else 131
def nmOf (kind:Int):ByteArray:=if kind=1 then ⟨#[115,116,114,111,110,103]⟩ else ⟨#[98,114,97,110,99,104,105,110,103]⟩
theorem man_eq (kind:Int):manCells kind=[.func (.func (folOf kind)) #[] #[],.func (.func (canOf kind)) #[] #[],.string (nmOf kind)]:=by
 unfold manCells folOf canOf nmOf
 by_cases h:kind=1 <;> simp [h]
theorem veq_man {kind:Int} (h:isMan kind=true):veq 100 (.agg ⟨manCells kind⟩) (.agg ⟨manCells kind⟩)=true:=by
 simp only [isMan,Bool.or_eq_true,decide_eq_true_eq] at h
 rcases h with rfl|rfl <;> kernel_rfl
theorem fol_ok {h0 k':AH} {kind:Int} {gx:Value} {bg m ver:Nat} {R:Rel} {SS:List Steps} (hkind:isMan kind=true) (e:Ext h0 k') (hm:h0.get m=some (.map (ent R) ver)) (hml:m<h0.next) (hR:R.Nodup) (hg:GV h0 bg SS) (hSS:SSok SS)
  {p x:Int×Int} (h0':0<=p.2) (hN:p.2<(SS.length:Int)):(recI E).call (folOf kind) [.agg ⟨coup gx (ptr bg) m⟩,.int .i64 p.1,.int .i64 p.2,.agg ⟨prCells x⟩] k'=some [(.bool (followB kind R SS p x),k')]:=by
 have hm':=(e.get m hml).trans hm
 have hml':=Nat.lt_of_lt_of_le hml e.next
 simp only [isMan,Bool.or_eq_true,decide_eq_true_eq] at hkind
 rcases hkind with rfl|rfl
 ·obtain ⟨t,ht⟩:=Int.eq_ofNat_of_zero_le h0'
  have htN:t<SS.length:=by omega
  have hS:SS[t]?=some SS[t]:=List.getElem?_eq_getElem htN
  have hf:followB 1 R SS p x=strongB R SS[t] x:=by
   unfold followB strongAt
   rw [ht]
   simp [hS]
  rw [hf,ht]
  exact call128 e.ok hm' hml' hR (hg.ext e) hS (by have:=(hSS.stp t _ hS).1;omega)
 ·have hf:followB 2 R SS p x=branchB R SS p.1 p.2 x:=by
   unfold followB
   simp
  rw [hf]
  exact call130 e.ok hm' hml' hR (hg.ext e) hSS h0' hN
theorem rel11 {k h:AH} {kind:Int} {b1 b2 m ver b8 b11:Nat} {R:Rel} {SS TT:List Steps} (ho:Own k h) (hkind:isMan kind=true)
  (h8:h.get b8=some (.row (coup (ptr b1) (ptr b2) m) 176 0 false)) (h8l:b8<h.next) (h11:h.get b11=some (.row (manCells kind) 112 0 false)) (h11l:b11<h.next) (hm:h.get m=some (.map (ent R) ver)) (hml:m<h.next) (hR:R.Nodup)
  (hg1:GV h b1 SS) (hg2:GV h b2 TT) (hb1:b1<h.next) (hb2:b2<h.next) (hSS:SSok SS) (hTT:SSok TT) (hin:∀ p∈R,(0<=p.1/\p.1<(SS.length:Int))/\(0<=p.2/\p.2<(TT.length:Int))) {V:Bool}
  (hV:V=(decide ((0,0)∈R)&&allK kind R SS TT&&allK kind (R.map swapP) TT SS)) :
  P72_11 false (KR E [.tmp 6] (fun x l=>x=.bool V/\k.next<=l.wm)) (ptr b8) (ptr b11) h:=by
 refine P72_11_of ?_
 have la:=load_agg (P:=E) ta_176 (o:=0) h8 (by simp [coup])
 rw [List.drop_zero,List.take_of_length_le (by simp [coup])] at la
 have lm:=load_agg (P:=E) ta_112 (o:=0) h11 (by rw [man_eq];simp)
 rw [List.drop_zero,List.take_of_length_le (by rw [man_eq];simp)] at lm
 have hsz:∀ (SS:List Steps),SSok SS->∀ (i:Nat) (S:Steps),SS[i]?=some S->S.length<=1000000:=fun SS hS i S h=>by have:=(hS.stp i S h).1;omega
 have c1:(recI E).call 124 [.agg ⟨coup (ptr b1) (ptr b2) m⟩,.agg ⟨manCells kind⟩] h=some [(.bool (allK kind R SS TT),h)]:=by
  rw [man_eq]
  exact call124 (h0:=h) (Ext.refl ho.ext.ok) hm hml hg1 (fun p hp=>(hin p hp).1) (hsz SS hSS) (fun k' hk' p hp x S hS hx=>fol_ok hkind hk' hm hml hR hg2 hTT (hin p hp).2.1 (hin p hp).2.2)
 simp only [la,lm,evO_some,wCall_0,call123 ho.ext.ok hm hml hR,ev_some]
 by_cases e0:((0:Int),(0:Int))∈R
 ·simp only [e0,decide_true,gdB_bool,gdW_bool,beq_self_eq_true,cond_true,la,lm,evO_some,pb178,wCall_0,c1,ev_some,pick_bool]
  cases e1:allK kind R SS TT with
  | true=>
   simp only [gdB_bool,gdW_bool,beq_self_eq_true,cond_true,la,lm,evO_some,wCall_0]
   refine (call125 ho.ext.ok hb1 hb2 hm hml).mono fun y hy=>?_
   obtain ⟨v,h2⟩:=y
   obtain ⟨m',ver',R',rfl,g1,g2,g3,g4,g5,g6⟩:=hy
   simp only at g1 g2 g3 g4 g5 g6
   have o2:=g6.own ho (fun _ h=>h.elim)
   have lm2:=load_agg (P:=E) ta_112 (o:=0) ((g6.get b11 h11l (fun h=>h)).trans h11) (by rw [man_eq];simp)
   rw [List.drop_zero,List.take_of_length_le (by rw [man_eq];simp)] at lm2
   have hin':∀ p∈R',(0<=p.1/\p.1<(TT.length:Int))/\(0<=p.2/\p.2<(SS.length:Int)):=fun p hp=>by
    have:=hin _ ((g5 p).1 hp)
    exact ⟨this.2,this.1⟩
   have c2:(recI E).call 124 [.agg ⟨coup (ptr b2) (ptr b1) m'⟩,.agg ⟨manCells kind⟩] h2=some [(.bool (allK kind R' TT SS),h2)]:=by
    rw [man_eq]
    exact call124 (h0:=h2) (Ext.refl o2.ext.ok) g1 g3 (hg2.fx g6) (fun p hp=>(hin' p hp).1) (hsz TT hTT) (fun k' hk' p hp x S hS hx=>fol_ok hkind hk' g1 g3 g4 (hg1.fx g6) hSS (hin' p hp).2.1 (hin' p hp).2.2)
   have hsame:SameR R' (R.map swapP):=fun p=>by
    rw [g5,List.mem_map]
    constructor
    ·intro h;exact ⟨_,h,rfl⟩
    ·rintro ⟨q,hq,rfl⟩;exact hq
   simp only [gdB_bool,gdW_bool,beq_self_eq_true,cond_true,lm2,evO_some,veq_man hkind,pb178,wCall_0,c2,ev_some,pick_bool,kR_1,ne_ret,true_and]
   refine ⟨?_,o2.wm⟩
   rw [hV,e1,allK_same hsame]
   simp [e0]
  | false=>
   simp only [gdB_bool,gdW_bool,gdB_undef,gdW_undef,show (false==true)=false from rfl,cond_false,evO_some,ev_one,pick_bool,show veq 100 undef undef=true from by kernel_rfl,kR_1,ne_ret,true_and]
   exact ⟨by rw [hV,e1];simp,ho.wm⟩
 ·simp only [e0,decide_false,gdB_bool,gdW_bool,gdB_undef,gdW_undef,show (false==true)=false from rfl,cond_false,evO_some,ev_one,pick_bool,show veq 100 undef undef=true from by kernel_rfl,kR_1,ne_ret,true_and]
  exact ⟨by rw [hV];simp [e0],ho.wm⟩
theorem box112 {h:AH} {kind:Int}:wStore E 112 (h.new (.row [.nilFunc,.nilFunc,.string ⟨#[]⟩] 112 0 false)) (some (ptr h.next)) (some (.agg ⟨manCells kind⟩))=one (undef,(h.new (.row [.nilFunc,.nilFunc,.string ⟨#[]⟩] 112 0 false)).upd h.next (some (.row (manCells kind) 112 0 false))):=by
 rw [store_of (P:=E) ts_112 (x:=.agg ⟨manCells kind⟩) (cs:=manCells kind) (get_new_self h _) rfl (by rw [man_eq];rfl) (by simp) (by rw [man_eq];rfl)]
 rw [man_eq];rfl
theorem rel10 {k h:AH} {kind:Int} {vp:Value} {b1 b2 m ver b5 b8:Nat} {R:Rel} {SS TT:List Steps} (ho:Own k h) (hkind:isMan kind=true)
  (h5:h.get b5=some (.row [.int .i64 kind,vp] 32 0 false)) (h5l:b5<h.next)
  (h8:h.get b8=some (.row (coup (ptr b1) (ptr b2) m) 176 0 false)) (h8l:b8<h.next) (hm:h.get m=some (.map (ent R) ver)) (hml:m<h.next) (hR:R.Nodup)
  (hg1:GV h b1 SS) (hg2:GV h b2 TT) (hb1:b1<h.next) (hb2:b2<h.next) (hSS:SSok SS) (hTT:SSok TT) (hin:∀ p∈R,(0<=p.1/\p.1<(SS.length:Int))/\(0<=p.2/\p.2<(TT.length:Int))) {V:Bool}
  (hV:V=(decide ((0,0)∈R)&&allK kind R SS TT&&allK kind (R.map swapP) TT SS)) :
  P72_10 false (KR E [.tmp 6] (fun x l=>x=.bool V/\k.next<=l.wm)) (ptr b5) (ptr b8) h:=by
 refine P72_10_of ?_
 have l5:=load_leaf (P:=E) ta_3 (o:=0) h5
 simp only [lnth] at l5
 have l5n:rLoad E 3 (h.new (.row [.nilFunc,.nilFunc,.string ⟨#[]⟩] 112 0 false)) (some (ptr b5))=some (.int .i64 kind):=by
  have:=load_leaf (P:=E) ta_3 (o:=0) ((get_new_ne (o:=.row [.nilFunc,.nilFunc,.string ⟨#[]⟩] 112 0 false) (by omega)).trans h5)
  simpa only [lnth] using this
 have fxf:Fx NoB h ((h.new (.row [.nilFunc,.nilFunc,.string ⟨#[]⟩] 112 0 false)).upd h.next (some (.row (manCells kind) 112 0 false))):=((Fx.refl ho.ext.ok).new _).upd (.inr (Nat.le_refl _)) _
 have hget:∀ c,c<h.next->((h.new (.row [.nilFunc,.nilFunc,.string ⟨#[]⟩] 112 0 false)).upd h.next (some (.row (manCells kind) 112 0 false))).get c=h.get c:=fun c hc=>fxf.get c hc (fun h=>h)
 have hnx:((h.new (.row [.nilFunc,.nilFunc,.string ⟨#[]⟩] 112 0 false)).upd h.next (some (.row (manCells kind) 112 0 false))).next=h.next+1:=rfl
 have fin:P72_11 false (KR E [.tmp 6] (fun x l=>x=.bool V/\k.next<=l.wm)) (ptr b8) (ptr h.next) ((h.new (.row [.nilFunc,.nilFunc,.string ⟨#[]⟩] 112 0 false)).upd h.next (some (.row (manCells kind) 112 0 false))):=
  rel11 (fxf.own ho (fun _ h=>h.elim)) hkind ((hget _ h8l).trans h8) (by omega) (get_upd_self _ _ _) (by omega) ((hget _ hml).trans hm) (by omega) hR (hg1.fx fxf) (hg2.fx fxf) (by omega) (by omega) hSS hTT hin hV
 have hok1:(h.new (.row [.nilFunc,.nilFunc,.string ⟨#[]⟩] 112 0 false)).ok:=ok_new ho.ext.ok _
 simp only [fa_32_0,Nat.add_zero,l5,evO_some,wCall_0,call79 ho.ext.ok,call79 hok1,ev_some,veq_int,true_and,pim hkind,z_112,new_row,ev_one,cells_agg,l5n,box112]
 exact ⟨fin,fin⟩
theorem GV.fxm {k l:AH} {bg m ver:Nat} {SS:List Steps} {es:List (Value×Value)} (g:GV k bg SS) (f:Fx (fun c=>c=m) k l) (hm:k.get m=some (.map es ver)):GV l bg SS:=by
 obtain ⟨loc,bs,cells,G⟩:=g.ex
 have hne:∀ {a:Nat} {vs:List Value} {ty es:Nat} {ro:Bool},k.get a=some (.row vs ty es ro)->a≠m:=by
  rintro a vs ty es ro h rfl
  rw [hm] at h;cases h
 refine ⟨loc,bs,cells,(f.get bg G.ltg (hne G.g)).trans G.g,(f.get bs G.lts (hne G.s)).trans G.s,G.len,G.ne,Nat.lt_of_lt_of_le G.ltg f.next,Nat.lt_of_lt_of_le G.lts f.next,G.locg,G.locs,fun i c S hc hS=>?_,G.blk,G.dis⟩
 rcases G.cell i c S hc hS with a|⟨b,a1,a2,a3⟩
 ·exact .inl a
 ·exact .inr ⟨b,a1,(f.get b a3 (hne a2)).trans a2,Nat.lt_of_lt_of_le a3 f.next⟩
theorem ne_map {k:AH} {a m ver:Nat} {vs:List Value} {ty es:Nat} {ro:Bool} {en:List (Value×Value)} (h:k.get a=some (.row vs ty es ro)) (hm:k.get m=some (.map en ver)):a≠m:=by
 rintro rfl
 rw [hm] at h;cases h
theorem rel4 {k h1:AH} {kind n1 n2:Int} {vp vl ve wl we:Value} {prs:Rel} {b1 b2 m b3 b4 b5 b8 ver0:Nat} {es0:List (Value×Value)} {SS TT:List Steps} (hkind:isMan kind=true)
  (hm0:h1.get m=some (.map es0 ver0)) (hml:m<h1.next) (hkm:k.next<=m)
  (h3:h1.get b3=some (.row [.int .i64 n1,vl,ve] 25 0 false)) (h3l:b3<h1.next) (h4:h1.get b4=some (.row [.int .i64 n2,wl,we] 25 0 false)) (h4l:b4<h1.next)
  (h5:h1.get b5=some (.row [.int .i64 kind,vp] 32 0 false)) (h5l:b5<h1.next)
  (h8:h1.get b8=some (.row (coup (ptr b1) (ptr b2) m) 176 0 false)) (h8l:b8<h1.next)
  (hg1:GV h1 b1 SS) (hg2:GV h1 b2 TT) (hb1:b1<h1.next) (hb2:b2<h1.next) (hSS:SSok SS) (hTT:SSok TT) (hn1:n1=(SS.length:Int)) (hn2:n2=(TT.length:Int))
  {ap:Option Addr} {cp:Nat} (hvp:vp=.slice ap prs.length cp) (ha:Arr k 2 vp (prs.map prCells)) (hpl:prs.length<=200000) (hpos:∀ p∈prs,0<=p.1/\0<=p.2) {V:Bool} (hV:V=relB kind prs SS TT n1 n2) :
  ∀ (r i:Nat),i+r=prs.length->∀ h Rn ver,Own k h->Fx (fun c=>c=m) h1 h->h.get m=some (.map (ent Rn) ver)->Rn.Nodup->(∀ p,p∈Rn ↔ p∈prs.take i)->(prs.take i).all (inB n1 n2)=true->
   P72_4 false (KR E [.tmp 6] (fun x l=>x=.bool V/\k.next<=l.wm)) (ptr b3) (ptr b4) (ptr b5) (ptr b8) vp (.int .i64 (prs.length:Int)) (.int .i64 (i:Int)) h:=by
 intro r
 induction r with
 | zero=>
  intro i hi h Rn ver ho f hm hnd hmem hall
  refine P72_4_of ?_
  have:¬ ((i:Int)<(prs.length:Int)):=by omega
  simp only [bf_lss,evO_some,this,decide_false,brK_f]
  rw [List.take_of_length_le (by omega)] at hmem hall
  have hin:∀ p∈Rn,(0<=p.1/\p.1<(SS.length:Int))/\(0<=p.2/\p.2<(TT.length:Int)):=fun p hp=>by
   have hp':=(hmem p).1 hp
   have h1':=List.all_eq_true.1 hall p hp'
   simp only [inB,Bool.and_eq_true,decide_eq_true_eq] at h1'
   have h2':=hpos p hp'
   omega
  have hnx:=f.next
  refine rel10 ho hkind ((f.get b5 h5l (ne_map h5 hm0)).trans h5) (by omega) ((f.get b8 h8l (ne_map h8 hm0)).trans h8) (by omega) hm (by omega) hnd (hg1.fxm f hm0) (hg2.fxm f hm0) (by omega) (by omega) hSS hTT hin ?_
  rw [hV]
  unfold relB
  rw [hall,SameR.dec hmem,allK_same hmem,allK_same (R:=Rn.map swapP) (R':=prs.map swapP) (fun p=>by
   simp only [List.mem_map]
   exact ⟨fun ⟨q,a,b⟩=>⟨q,(hmem q).1 a,b⟩,fun ⟨q,a,b⟩=>⟨q,(hmem q).2 a,b⟩⟩)]
  rfl
 | succ r ih=>
  intro i hi h Rn ver ho f hm hnd hmem hall
  have hin:i<prs.length:=by omega
  refine P72_4_of ?_
  have hlt:((i:Int)<(prs.length:Int)):=by omega
  simp only [bf_lss,evO_some,hlt,decide_true,brK_t]
  refine P72_5_of ?_
  have hat:(prs.map prCells)[i]?=some (prCells prs[i]):=by simp [hin]
  obtain ⟨b,o,c,vs,ty,es,ro,hv,hb,hlt',hle,hz,hzl⟩:=ha.load hat
  have hp:=hpos prs[i] (List.getElem_mem hin)
  have hpt:prs.take (i+1)=prs.take i++[prs[i]]:=by rw [List.take_add_one];simp [hin]
  have hpm:prs[i]∈prs:=List.getElem_mem hin
  generalize prs[i]=p at hz hp hpt hpm
  rw [hvp] at hv
  simp only [Value.slice.injEq] at hv
  obtain ⟨hv1,_,_⟩:=hv
  subst hv1
  have gb:=(ho.ext.get b hlt').trans hb
  simp only [hvp,ia_26 hin,evO_some,load_agg ta_54 gb hle,hz,z_54,new_row,ev_one,cells_agg,box54]
  refine P72_6_of ?_
  have fb:Fx NoB h ((h.new (.row [.int .i64 0,.int .i64 0] 54 0 false)).upd h.next (some (.row (prCells p) 54 0 false))):=((Fx.refl ho.ext.ok).new _).upd (.inr (Nat.le_refl _)) _
  have tb:((h.new (.row [.int .i64 0,.int .i64 0] 54 0 false)).upd h.next (some (.row (prCells p) 54 0 false))).get h.next=some (.row (prCells p) 54 0 false):=get_upd_self _ _ _
  have nb:((h.new (.row [.int .i64 0,.int .i64 0] 54 0 false)).upd h.next (some (.row (prCells p) 54 0 false))).next=h.next+1:=rfl
  generalize ((h.new (.row [.int .i64 0,.int .i64 0] 54 0 false)).upd h.next (some (.row (prCells p) 54 0 false)))=k1 at fb tb nb
  have o1:=fb.own ho (fun _ h=>h.elim)
  have f1:Fx (fun c=>c=m) h1 k1:=f.trans fb (fun _ h=>h.elim)
  have hm1:k1.get m=_:=(fb.get m (by have:=f.next;omega) (fun h=>h)).trans hm
  have c0:=load_leaf (P:=E) ta_3 (o:=0) tb
  have c1:=load_leaf (P:=E) ta_3 (o:=1) tb
  have x0:=load_leaf (P:=E) ta_3 (o:=0) ((f1.get b3 h3l (ne_map h3 hm0)).trans h3)
  have y0:=load_leaf (P:=E) ta_3 (o:=0) ((f1.get b4 h4l (ne_map h4 hm0)).trans h4)
  simp only [lnth,prCells] at c0 c1 x0 y0
  simp only [ia54_0,ia54_1,c0,fa_25_0,Nat.add_zero,x0,evO_some,bf_geq]
  have bad:inB n1 n2 p=false->P72_7 false (KR E [.tmp 6] (fun x l=>x=.bool V/\k.next<=l.wm)) k1:=by
   intro hb
   refine P72_7_of ?_
   simp only [evO_some,kR_1,ne_ret,true_and]
   refine ⟨?_,o1.wm⟩
   rw [hV]
   have:prs.all (inB n1 n2)=false:=by
    rw [List.all_eq_false]
    exact ⟨p,hpm,by rw [hb];simp⟩
   unfold relB
   rw [this];rfl
  by_cases e1:n1<=p.1
  ·simp only [e1,decide_true,gdB_bool,show (true==false)=false from rfl,cond_false,evO_some,pick_bool,cond_true,brK_t]
   exact bad (by simp [inB];omega)
  ·simp only [e1,decide_false,gdB_bool,beq_self_eq_true,cond_true,c1,fa_25_0,Nat.add_zero,y0,evO_some,bf_geq,pick_bool,cond_false]
   by_cases e2:n2<=p.2
   ·simp only [e2,decide_true,brK_t]
    exact bad (by simp [inB];omega)
   ·simp only [e2,decide_false,brK_f]
    refine P72_8_of ?_
    have l8:=load_leaf (P:=E) ta_174 (o:=2) ((f1.get b8 h8l (ne_map h8 hm0)).trans h8)
    simp only [lnth,coup] at l8
    have lp:=load_agg (P:=E) ta_54 (o:=0) tb (by simp [prCells])
    rw [List.drop_zero,List.take_of_length_le (by simp [prCells])] at lp
    obtain ⟨R',u1,u2,u3⟩:=upd174 hm1 hnd p
    simp only [fa_176_2,Nat.zero_add,l8,lp,evO_some,u1,ev_one]
    refine P72_9_of ?_
    simp only [bf_add _ (add1 hin (by omega)),evO_some]
    have f2:Fx (fun c=>c=m) h1 (k1.upd m (some (.map (ent R') (ver+1)))):=f1.upd (.inl rfl) _
    have f3:Fx (fun c=>c=m) k1 (k1.upd m (some (.map (ent R') (ver+1)))):=Fx.upd (P:=fun c=>c=m) (Fx.refl o1.ext.ok) (.inl rfl) _
    have:=ih (i+1) (by omega) _ R' (ver+1) (f3.own o1 (fun c h=>by rw [h];exact hkm)) f2 (get_upd_self _ _ _) u2 (fun q=>by
     rw [u3,hmem,hpt,List.mem_append,List.mem_singleton]
     exact Or.comm) (by
     rw [hpt,List.all_append,hall]
     simp [inB];omega)
    rw [hvp] at this
    simpa using this
theorem veq_ptr (n:Nat) (a:Option Addr):veq n (.pointer a) (.pointer a)=true:=by cases n <;> (show decide (a=a)=true;simp)
theorem bs82 {a b c a' b' c':Value} {h:AH}:wBuildSlice E 82 2 (some [(0,.agg #[a,b,c]),(1,.agg #[a',b',c'])]) h=one (.slice (some ⟨h.next,0,none⟩) 2 2,h.new (.row [a,b,c,a',b',c'] 25 0 false)):=by kernel_rfl
def relV (L M:GL) (B:GB):Bool:=match graphsOf [L,M] with
 | [SS,TT]=>relB B.kind B.prs SS TT L.n M.n
 | _=>false
theorem GrOf.ss {L:GL} {x:Gr} {loc:Nat} {h:AH} (g:GrOf L x) (G:GG loc h x.1 x.2.1 x.2.2.1 x.2.2.2) (hL:badLts L=false):SSok x.2.2.2/\L.n=(x.2.2.2.length:Int):=by
 have hs:=bad_sizes hL
 have h1:=g.1
 have h2:=G.len
 refine ⟨⟨by omega,fun i S hS=>?_⟩,by omega⟩
 obtain ⟨a,b⟩:=g.2 i S hS
 refine ⟨by omega,fun y hy=>?_⟩
 have:=(a y hy).1
 omega
theorem lnk_ok {B:GB} (h:lnkErr B=0):isMan B.kind=true/\B.prs.length<=200000/\∀ p∈B.prs,0<=p.1/\0<=p.2:=by
 unfold lnkErr at h
 cases h1:isMan B.kind with
 | false=>rw [h1] at h;simp at h
 | true=>
  rw [h1] at h
  simp only [Bool.true_eq_false,if_false] at h
  by_cases h2:200000<B.prs.length
  ·rw [if_pos h2] at h;omega
  ·rw [if_neg h2] at h
   cases h3:anyFrom (prBadAt B.prs) B.prs.length 0 with
   | true=>rw [h3] at h;simp at h
   | false=>
    refine ⟨rfl,by omega,fun p hp=>?_⟩
    obtain ⟨i,hi⟩:=List.mem_iff_getElem?.1 hp
    have:=anyFrom_false h3 i (Nat.zero_le _) (by have:=(List.getElem?_eq_some_iff.1 hi).1;omega)
    unfold prBadAt at this
    rw [hi] at this
    simp only [Bool.or_eq_false_iff,decide_eq_false_iff_not] at this
    omega
theorem call72 {k:AH} {x y:Value} {e:List Value} {L M:GL} {B:GB} (hok:k.ok) (hx:RL k x L) (hy:RL k y M) (hL:badLts L=false) (hM:badLts M=false) (he:RB k e B) (hB:lnkErr B=0) :
  (recI E).call 72 [x,y,.agg ⟨e⟩] k=some [(.bool (relV L M B),k)]:=by
 obtain ⟨vl,ve,elsL,rfl,x2,x3,x4⟩:=hx.ex
 obtain ⟨wl,we,elsM,rfl,y2,y3,y4⟩:=hy.ex
 obtain ⟨vp,rfl,e2⟩:=he.ex
 obtain ⟨hkind,hpl,hpos⟩:=lnk_ok hB
 refine F72_flat (s:=false) hok rfl (P72_0_of ?_)
 simp only [new_row,ev_one,cells_agg,evO_some]
 refine P72_1_of ?_
 have o1:=(((Own.fresh k).new (.row [.int .i64 L.n,vl,ve] 25 0 false)).new (.row [.int .i64 M.n,wl,we] 25 0 false)).new (.row [.int .i64 B.kind,vp] 32 0 false)
 have g3:(((k.fresh.new (.row [.int .i64 L.n,vl,ve] 25 0 false)).new (.row [.int .i64 M.n,wl,we] 25 0 false)).new (.row [.int .i64 B.kind,vp] 32 0 false)).get k.next=some (.row [.int .i64 L.n,vl,ve] 25 0 false):=
  (get_new_ne (by simp;omega)).trans ((get_new_ne (by simp)).trans (get_new_self k.fresh _))
 have g4:(((k.fresh.new (.row [.int .i64 L.n,vl,ve] 25 0 false)).new (.row [.int .i64 M.n,wl,we] 25 0 false)).new (.row [.int .i64 B.kind,vp] 32 0 false)).get (k.next+1)=some (.row [.int .i64 M.n,wl,we] 25 0 false):=
  (get_new_ne (by simp)).trans (get_new_self (k.fresh.new _) _)
 have g5:(((k.fresh.new (.row [.int .i64 L.n,vl,ve] 25 0 false)).new (.row [.int .i64 M.n,wl,we] 25 0 false)).new (.row [.int .i64 B.kind,vp] 32 0 false)).get (k.next+2)=some (.row [.int .i64 B.kind,vp] 32 0 false):=get_new_self ((k.fresh.new _).new _) _
 have n1:(((k.fresh.new (.row [.int .i64 L.n,vl,ve] 25 0 false)).new (.row [.int .i64 M.n,wl,we] 25 0 false)).new (.row [.int .i64 B.kind,vp] 32 0 false)).next=k.next+3:=rfl
 simp only [next_fresh,AH.next_new]
 generalize (((k.fresh.new (.row [.int .i64 L.n,vl,ve] 25 0 false)).new (.row [.int .i64 M.n,wl,we] 25 0 false)).new (.row [.int .i64 B.kind,vp] 32 0 false))=k1 at o1 g3 g4 g5 n1
 have la:=load_agg (P:=E) ta_25 (o:=0) g3 (by simp)
 have lb:=load_agg (P:=E) ta_25 (o:=0) g4 (by simp)
 simp only [List.drop_zero,List.take] at la lb
 simp only [la,lb,evO_some,bs82,ev_one,wCall_0]
 have o2:=o1.new (.row [.int .i64 L.n,vl,ve,.int .i64 M.n,wl,we] 25 0 false)
 have t2:=get_new_self k1 (.row [.int .i64 L.n,vl,ve,.int .i64 M.n,wl,we] 25 0 false)
 have g3':(k1.new (.row [.int .i64 L.n,vl,ve,.int .i64 M.n,wl,we] 25 0 false)).get k.next=_:=(get_new_ne (by omega)).trans g3
 have g4':(k1.new (.row [.int .i64 L.n,vl,ve,.int .i64 M.n,wl,we] 25 0 false)).get (k.next+1)=_:=(get_new_ne (by omega)).trans g4
 have g5':(k1.new (.row [.int .i64 L.n,vl,ve,.int .i64 M.n,wl,we] 25 0 false)).get (k.next+2)=_:=(get_new_ne (by omega)).trans g5
 have n2:(k1.new (.row [.int .i64 L.n,vl,ve,.int .i64 M.n,wl,we] 25 0 false)).next=k1.next+1:=rfl
 generalize (k1.new (.row [.int .i64 L.n,vl,ve,.int .i64 M.n,wl,we] 25 0 false))=k2 at o2 t2 g3' g4' g5' n2
 have hargs:Args k2 (.slice (some ⟨k1.next,0,none⟩) 2 2) [[.int .i64 L.n,vl,ve],[.int .i64 M.n,wl,we]] [L,M]:=by
  refine ⟨?_,rfl,by simp,fun i ee LL h1 h2=>?_,fun i LL h=>?_⟩
  ·refine Arr.row (els:=[[.int .i64 L.n,vl,ve],[.int .i64 M.n,wl,we]]) t2 (by omega) (by simp) (fun i ee hee=>?_)
   match i with
   | 0=>simp at hee;subst hee;exact ⟨rfl,rfl⟩
   | 1=>simp at hee;subst hee;exact ⟨rfl,rfl⟩
   | i+2=>simp at hee
  ·match i with
   | 0=>simp at h1 h2;subst h1 h2;exact hx.ext o2.ext
   | 1=>simp at h1 h2;subst h1 h2;exact hy.ext o2.ext
   | i+2=>simp at h1
  ·match i with
   | 0=>simp at h;subst h;exact hL
   | 1=>simp at h;subst h;exact hM
   | i+2=>simp at h
 refine ((call90 o2.ext.ok (by simp) hargs).weak).mono fun z hz=>?_
 obtain ⟨gs,hO,hlen,hgr,hmap,fx⟩:=hz
 obtain ⟨out,k3⟩:=z
 simp only at hO fx ⊢
 match gs,hlen with
 | [x1,x2],_=>
  have o3:=fx.own o2 (fun _ h=>h.elim)
  have G1:=hO.gg x1 (by simp)
  have G2:=hO.gg x2 (by simp)
  obtain ⟨s1,s2⟩:=(hgr 0 x1 L rfl rfl).ss G1 hL
  obtain ⟨r1,r2⟩:=(hgr 1 x2 M rfl rfl).ss G2 hM
  have V1:GV k3 x1.1 x1.2.2.2:=⟨_,_,_,G1⟩
  have V2:GV k3 x2.1 x2.2.2.2:=⟨_,_,_,G2⟩
  have hrv:relV L M B=relB B.kind B.prs x1.2.2.2 x2.2.2.2 L.n M.n:=by
   unfold relV
   rw [← hmap]
   rfl
  rcases hO.sl with ⟨_,h⟩|⟨bo,rfl,hbo,hbol,hbolo⟩
  ·cases h
  ·have p3:k3.get k.next=_:=(fx.get _ (by omega) (fun h=>h)).trans g3'
   have p4:k3.get (k.next+1)=_:=(fx.get _ (by omega) (fun h=>h)).trans g4'
   have p5:k3.get (k.next+2)=_:=(fx.get _ (by omega) (fun h=>h)).trans g5'
   have hnx:=fx.next
   refine P72_2_of ?_
   have m0:=load_leaf (P:=E) ta_128 (o:=0) hbo
   have m1:=load_leaf (P:=E) ta_128 (o:=1) hbo
   simp only [List.map_cons,List.map_nil,lnth] at m0 m1
   have i0:pIndexAddr E 126 (some (.slice (some ⟨bo,0,none⟩) [x1,x2].length (UNK+1))) (some (.int .i64 0))=some (.pointer (some ⟨bo,0,none⟩)):=ia_126 (k:=0) (by simp)
   have i1:pIndexAddr E 126 (some (.slice (some ⟨bo,0,none⟩) [x1,x2].length (UNK+1))) (some (.int .i64 1))=some (.pointer (some ⟨bo,1,none⟩)):=ia_126 (k:=1) (by simp)
   have rest:∀ (h:AH) (m b8 ver:Nat),Fx NoB k3 h->h.get m=some (.map (ent []) ver)->m<h.next->k3.next<=m->h.get b8=some (.row (coup (ptr x1.1) (ptr x2.1) m) 176 0 false)->b8<h.next->
     P72_3 false (KR E [.tmp 6] (fun x l=>x=.bool (relV L M B)/\k.next<=l.wm)) (ptr k.next) (ptr (k.next+1)) (ptr (k.next+2)) (ptr b8) h:=by
    intro h m b8 ver f hm hml hkm h8 h8l
    refine P72_3_of ?_
    have fn:=f.next
    have w3:=(f.get k.next (by omega) (fun h=>h)).trans p3
    have w4:=(f.get (k.next+1) (by omega) (fun h=>h)).trans p4
    have w5:=(f.get (k.next+2) (by omega) (fun h=>h)).trans p5
    have l1:=load_leaf (P:=E) ta_26 (o:=1) w5
    simp only [lnth] at l1
    obtain ⟨ap,cp,hvp⟩:=e2.slice
    rw [List.length_map] at hvp
    rw [hvp] at l1
    simp only [fa_32_1,Nat.zero_add,l1,evO_some,len72_3_2]
    have:=rel4 (k:=k) (h1:=h) (kind:=B.kind) (prs:=B.prs) (V:=relV L M B) hkind hm hml (by omega) w3 (by omega) w4 (by omega) w5 (by omega) h8 h8l (V1.fx f) (V2.fx f) (by have:=G1.ltg;omega) (by have:=G2.ltg;omega) s1 r1 s2 r2 hvp e2 hpl hpos hrv
     B.prs.length 0 (by omega) h [] ver (f.own o3 (fun _ h=>h.elim)) (Fx.refl f.ok) hm (by simp) (by simp) (by simp)
    rw [hvp] at this
    simpa using this
   have hne:∀ {o:AObj} {c:Nat},c<k3.next->(k3.new o).get c=k3.get c:=fun hc=>get_new_ne (by omega)
   have hne2:∀ {o o':AObj} {c:Nat},c<k3.next->((k3.new o).new o').get c=k3.get c:=fun hc=>(get_new_ne (by simp;omega)).trans (get_new_ne (by omega))
   have a0:∀ {o:AObj},rLoad E 128 (k3.new o) (some (.pointer (some ⟨bo,0,none⟩)))=some (ptr x1.1):=fun {o}=>by
    have:=load_leaf (P:=E) ta_128 (o:=0) ((hne (o:=o) hbol).trans hbo)
    simpa only [List.map_cons,List.map_nil,lnth] using this
   have a1:∀ {o:AObj},rLoad E 128 (k3.new o) (some (.pointer (some ⟨bo,1,none⟩)))=some (ptr x2.1):=fun {o}=>by
    have:=load_leaf (P:=E) ta_128 (o:=1) ((hne (o:=o) hbol).trans hbo)
    simpa only [List.map_cons,List.map_nil,lnth] using this
   have b0:∀ {o o':AObj},rLoad E 128 ((k3.new o).new o') (some (.pointer (some ⟨bo,0,none⟩)))=some (ptr x1.1):=fun {o o'}=>by
    have:=load_leaf (P:=E) ta_128 (o:=0) ((hne2 (o:=o) (o':=o') hbol).trans hbo)
    simpa only [List.map_cons,List.map_nil,lnth] using this
   have b1:∀ {o o':AObj},rLoad E 128 ((k3.new o).new o') (some (.pointer (some ⟨bo,1,none⟩)))=some (ptr x2.1):=fun {o o'}=>by
    have:=load_leaf (P:=E) ta_128 (o:=1) ((hne2 (o:=o) (o':=o') hbol).trans hbo)
    simpa only [List.map_cons,List.map_nil,lnth] using this
   have hst2:=store_of (P:=E) ts_176 (o:=0) (h:=(k3.new (.row [.pointer none,.pointer none,.map none] 176 0 false)).new (.map [] 0)) (x:=.agg ⟨coup (ptr x1.1) (ptr x2.1) (k3.next+1)⟩) (cs:=coup (ptr x1.1) (ptr x2.1) (k3.next+1)) ((get_new_ne (by simp)).trans (get_new_self k3 _)) rfl rfl (by simp) (by simp [coup,isLeaf])
   have hst1:=store_of (P:=E) ts_176 (o:=0) (h:=(k3.new (.map [] 0)).new (.row [.pointer none,.pointer none,.map none] 176 0 false)) (b:=k3.next+1) (x:=.agg ⟨coup (ptr x1.1) (ptr x2.1) k3.next⟩) (cs:=coup (ptr x1.1) (ptr x2.1) k3.next) (get_new_self (k3.new _) _) rfl rfl (by simp) (by simp [coup,isLeaf])
   simp only [evO_some,i0,i1,m0,m1,ev_one,a0,a1,b0,b1,veq_ptr,true_and,pb176,z_176,new_row,cells_agg,AH.next_new,hst1,hst2]
   refine ⟨?_,?_⟩
   ·have ff:Fx NoB k3 (((k3.new (.map [] 0)).new (.row [.pointer none,.pointer none,.map none] 176 0 false)).upd (k3.next+1) (some (.row (coup (ptr x1.1) (ptr x2.1) k3.next) 176 0 false))):=(((Fx.refl o3.ext.ok).new _).new _).upd (.inr (by omega)) _
    exact rest _ k3.next (k3.next+1) 0 ff ((get_upd_ne (by omega)).trans ((get_new_ne (by simp)).trans (get_new_self k3 _))) (by show k3.next<k3.next+2;omega) (Nat.le_refl _) (get_upd_self _ _ _) (by show k3.next+1<k3.next+2;omega)
   ·have ff:Fx NoB k3 (((k3.new (.row [.pointer none,.pointer none,.map none] 176 0 false)).new (.map [] 0)).upd k3.next (some (.row (coup (ptr x1.1) (ptr x2.1) (k3.next+1)) 176 0 false))):=(((Fx.refl o3.ext.ok).new _).new _).upd (.inr (Nat.le_refl _)) _
    exact rest _ (k3.next+1) k3.next 0 ff ((get_upd_ne (by omega)).trans (get_new_self (k3.new _) _)) (by show k3.next+1<k3.next+2;omega) (by omega) (get_upd_self _ _ _) (by show k3.next<k3.next+2;omega)
theorem bs83 {a b:Value} {h:AH}:wBuildSlice E 83 1 (some [(0,.agg #[a,b])]) h=one (.slice (some ⟨h.next,0,none⟩) 1 1,h.new (.row [a,b] 32 0 false)):=by kernel_rfl
def checkV (L M:GL) (B:GB):Int:=if badLts L||badLts M then 8 else if lnkErr B≠0 then lnkErr B else if relV L M B then 0 else 360
theorem call15 {k:AH} {x y:Value} {e:List Value} {L M:GL} {B:GB} (hok:k.ok) (hx:RL k x L) (hy:RL k y M) (he:RB k e B) :
  (recI E).call 15 [x,y,.agg ⟨e⟩] k=some [(.int .i64 (checkV L M B),k)]:=by
 obtain ⟨vl,ve,elsL,rfl,x2,x3,x4⟩:=id hx.ex
 obtain ⟨wl,we,elsM,rfl,y2,y3,y4⟩:=id hy.ex
 obtain ⟨vp,rfl,e2⟩:=id he.ex
 refine F15_flat (s:=true) hok rfl (P15_0_of ?_)
 simp only [new_row,ev_one,cells_agg,evO_some]
 refine P15_1_of ?_
 have o1:=(((Own.fresh k).new (.row [.int .i64 L.n,vl,ve] 25 0 false)).new (.row [.int .i64 M.n,wl,we] 25 0 false)).new (.row [.int .i64 B.kind,vp] 32 0 false)
 have g3:(((k.fresh.new (.row [.int .i64 L.n,vl,ve] 25 0 false)).new (.row [.int .i64 M.n,wl,we] 25 0 false)).new (.row [.int .i64 B.kind,vp] 32 0 false)).get k.next=some (.row [.int .i64 L.n,vl,ve] 25 0 false):=
  (get_new_ne (by simp;omega)).trans ((get_new_ne (by simp)).trans (get_new_self k.fresh _))
 have g4:(((k.fresh.new (.row [.int .i64 L.n,vl,ve] 25 0 false)).new (.row [.int .i64 M.n,wl,we] 25 0 false)).new (.row [.int .i64 B.kind,vp] 32 0 false)).get (k.next+1)=some (.row [.int .i64 M.n,wl,we] 25 0 false):=
  (get_new_ne (by simp)).trans (get_new_self (k.fresh.new _) _)
 have g5:(((k.fresh.new (.row [.int .i64 L.n,vl,ve] 25 0 false)).new (.row [.int .i64 M.n,wl,we] 25 0 false)).new (.row [.int .i64 B.kind,vp] 32 0 false)).get (k.next+2)=some (.row [.int .i64 B.kind,vp] 32 0 false):=get_new_self ((k.fresh.new _).new _) _
 have n1:(((k.fresh.new (.row [.int .i64 L.n,vl,ve] 25 0 false)).new (.row [.int .i64 M.n,wl,we] 25 0 false)).new (.row [.int .i64 B.kind,vp] 32 0 false)).next=k.next+3:=rfl
 simp only [next_fresh,AH.next_new]
 generalize (((k.fresh.new (.row [.int .i64 L.n,vl,ve] 25 0 false)).new (.row [.int .i64 M.n,wl,we] 25 0 false)).new (.row [.int .i64 B.kind,vp] 32 0 false))=k1 at o1 g3 g4 g5 n1
 have la:=load_agg (P:=E) ta_25 (o:=0) g3 (by simp)
 have lb:=load_agg (P:=E) ta_25 (o:=0) g4 (by simp)
 simp only [List.drop_zero,List.take] at la lb
 have o2:=o1.new (.row [.int .i64 L.n,vl,ve,.int .i64 M.n,wl,we] 25 0 false)
 have t2:=get_new_self k1 (.row [.int .i64 L.n,vl,ve,.int .i64 M.n,wl,we] 25 0 false)
 have n2:(k1.new (.row [.int .i64 L.n,vl,ve,.int .i64 M.n,wl,we] 25 0 false)).next=k1.next+1:=rfl
 have g3':(k1.new (.row [.int .i64 L.n,vl,ve,.int .i64 M.n,wl,we] 25 0 false)).get k.next=_:=(get_new_ne (by omega)).trans g3
 have g4':(k1.new (.row [.int .i64 L.n,vl,ve,.int .i64 M.n,wl,we] 25 0 false)).get (k.next+1)=_:=(get_new_ne (by omega)).trans g4
 have g5':(k1.new (.row [.int .i64 L.n,vl,ve,.int .i64 M.n,wl,we] 25 0 false)).get (k.next+2)=_:=(get_new_ne (by omega)).trans g5
 simp only [la,lb,evO_some,bs82,ev_one,wCall_0]
 generalize (k1.new (.row [.int .i64 L.n,vl,ve,.int .i64 M.n,wl,we] 25 0 false))=k2 at o2 t2 n2 g3' g4' g5'
 have hc70:=call70 (h0:=k2) (k:=k2) (v:=.slice (some ⟨k1.next,0,none⟩) 2 2) (els:=[[.int .i64 L.n,vl,ve],[.int .i64 M.n,wl,we]]) (Ls:=[L,M])
  (Arr.row (els:=[[.int .i64 L.n,vl,ve],[.int .i64 M.n,wl,we]]) t2 (by omega) (by simp) (fun i ee hee=>by
   match i with
   | 0=>simp at hee;subst hee;exact ⟨rfl,rfl⟩
   | 1=>simp at hee;subst hee;exact ⟨rfl,rfl⟩
   | i+2=>simp at hee)) rfl (by simp) (fun i ee LL h1 h2=>by
   match i with
   | 0=>simp at h1 h2;subst h1 h2;exact hx.ext o2.ext
   | 1=>simp at h1 h2;subst h1 h2;exact hy.ext o2.ext
   | i+2=>simp at h1) (Ext.refl o2.ext.ok)
 have hbad:anyFrom (badAt [L,M]) 2 0=(badLts L||badLts M):=by
  simp [anyFrom,badAt]
 simp only [List.length_cons,List.length_nil,hbad] at hc70
 simp only [hc70,ev_some]
 refine P15_2_of ?_
 cases hb:(badLts L||badLts M) with
 | true=>
  simp only [if_true,evO_some,bf_neq,show decide ((8:Int)=0)=false from rfl,Bool.not_false,brK_t]
  refine P15_3_of ?_
  simp only [evO_some,kR_1,ne_ret,true_and]
  exact ⟨by simp [checkV,hb],o2.wm⟩
 | false=>
  obtain ⟨hL,hM⟩:=Bool.or_eq_false_iff.1 hb
  simp only [Bool.false_eq_true,if_false,evO_some,bf_neq,decide_true,Bool.not_true,brK_f]
  refine P15_4_of ?_
  have lc:=load_agg (P:=E) ta_32 (o:=0) g5' (by simp)
  simp only [List.drop_zero,List.take] at lc
  simp only [lc,evO_some,bs83,ev_one,wCall_0]
  have o3:=o2.new (.row [.int .i64 B.kind,vp] 32 0 false)
  have t3:=get_new_self k2 (.row [.int .i64 B.kind,vp] 32 0 false)
  have g3'':(k2.new (.row [.int .i64 B.kind,vp] 32 0 false)).get k.next=_:=(get_new_ne (by omega)).trans g3'
  have g4'':(k2.new (.row [.int .i64 B.kind,vp] 32 0 false)).get (k.next+1)=_:=(get_new_ne (by omega)).trans g4'
  have g5'':(k2.new (.row [.int .i64 B.kind,vp] 32 0 false)).get (k.next+2)=_:=(get_new_ne (by omega)).trans g5'
  have n3:(k2.new (.row [.int .i64 B.kind,vp] 32 0 false)).next=k2.next+1:=rfl
  generalize (k2.new (.row [.int .i64 B.kind,vp] 32 0 false))=k3 at o3 t3 g3'' g4'' g5'' n3
  have hc71:=call71 (h0:=k3) (k:=k3) (v:=.slice (some ⟨k2.next,0,none⟩) 1 1) (els:=[[.int .i64 B.kind,vp]]) (Bs:=[B])
   (Arr.row (els:=[[.int .i64 B.kind,vp]]) t3 (by omega) (by simp) (fun i ee hee=>by
    match i with
    | 0=>simp at hee;subst hee;exact ⟨rfl,rfl⟩
    | i+1=>simp at hee)) rfl (by simp) (fun i ee BB h1 h2=>by
    match i with
    | 0=>simp at h1 h2;subst h1 h2;exact he.ext o3.ext
    | i+1=>simp at h1) (Ext.refl o3.ext.ok)
  have herr:errFrom [B] 1 0=lnkErr B:=by
   simp only [errFrom,errAt,List.getElem?_cons_zero]
   by_cases h:lnkErr B=0 <;> simp [h]
  simp only [List.length_cons,List.length_nil] at hc71
  rw [show (0+1:Nat)=1 from rfl,herr] at hc71
  simp only [hc71,ev_some]
  refine P15_5_of ?_
  by_cases hle:lnkErr B=0
  ·simp only [evO_some,bf_neq,hle,decide_true,Bool.not_true,brK_f]
   refine P15_7_of ?_
   have la:=load_agg (P:=E) ta_25 (o:=0) g3'' (by simp)
   have lb:=load_agg (P:=E) ta_25 (o:=0) g4'' (by simp)
   have lc:=load_agg (P:=E) ta_32 (o:=0) g5'' (by simp)
   simp only [List.drop_zero,List.take] at la lb lc
   simp only [la,lb,lc,evO_some,wCall_0,call72 o3.ext.ok (hx.ext o3.ext) (hy.ext o3.ext) hL hM (he.ext o3.ext) hle,ev_some,uf_not,brK_bool]
   refine ⟨fun h=>P15_8_of ?_,fun h=>P15_9_of ?_⟩
   ·simp only [evO_some,kR_1,ne_ret,true_and]
    have:relV L M B=false:=by simpa using h
    exact ⟨by simp [checkV,hb,hle,this],o3.wm⟩
   ·simp only [evO_some,kR_1,ne_ret,true_and]
    have:relV L M B=true:=by simpa using h
    exact ⟨by simp [checkV,hb,hle,this],o3.wm⟩
  ·simp only [evO_some,bf_neq,hle,decide_false,Bool.not_false,brK_t]
   refine P15_6_of ?_
   simp only [evO_some,kR_1,ne_ret,true_and]
   exact ⟨by simp [checkV,hb,hle],o3.wm⟩
theorem stepsGo_len {nums:List Int}:∀ {l:List (Int×Int×Int)} {SS:List Steps},(stepsGo nums SS l).length=SS.length
 | [],_=>rfl
 | e::l,SS=>by simp only [stepsGo];rw [stepsGo_len];simp
theorem stepsOf_len (nums:List Int) (L:GL):(stepsOf nums L).length=L.n.toNat:=by
 unfold stepsOf
 rw [stepsGo_len,List.length_replicate]
end Go.Proofs
