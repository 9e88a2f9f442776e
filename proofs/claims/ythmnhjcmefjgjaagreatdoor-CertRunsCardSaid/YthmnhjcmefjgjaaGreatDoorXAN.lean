import Derived.Test.YthmnhjcmefjgjaaGreatDoorXAM
import Derived.Test.YthmnhjcmefjgjaaGreatDoorXAD
import Derived.Test.YthmnhjcmefjgjaaGreatDoorXAE
set_option linter.all false
set_option linter.unusedSectionVars false
set_option autoImplicit true
set_option relaxedAutoImplicit true
namespace Go.Proofs
open Go Go.AM
set_option maxRecDepth 100000
set_option maxHeartbeats 1000000
abbrev Rel:=List (Int×Int)
def ent (R:Rel):List (Value×Value):=R.map fun p=>(.agg ⟨zJ p⟩,.bool true)
theorem u54:und E 54=some (.array 2 3):=und_54
theorem u3:und E 3=some (.int .i64):=by kernel_rfl
theorem mk174:mapKE E 174=some (54,4):=by kernel_rfl
theorem z4:zAC E 4=some (.bool false):=by kernel_rfl
theorem allInts2 (a b c d:Int):zAm [.int .i64 a,.int .i64 b] [.int .i64 c,.int .i64 d]=some (decide ((a,b)=(c,d))):=by
 have hb:zAm [.int .i64 b] [.int .i64 d]=some (decide (b=d)):=by
  simp only [zAm]
  have:keq .i64 .i64=true:=rfl
  simp only [this,if_true,zC9]
  by_cases h:b=d
  ·simp [h]
  ·have:(b==d)=false:=by simpa using h
   simp [this,h]
 simp only [zAm] at hb ⊢
 have hk:keq .i64 .i64=true:=rfl
 simp only [hk,if_true,zC9] at hb ⊢
 rw [hb]
 by_cases h:a=c
 ·simp [h]
 ·have:(a==c)=false:=by simpa using h
  simp [this,h]
theorem keyEq54 (p q:Int×Int):zBV E 54 (.agg ⟨zJ p⟩) (.agg ⟨zJ q⟩)=some (decide (p=q)):=by
 simp only [zBV,u54,u3,ts_3,zJ,zA5]
 show cond (Nat.beq (0+1+1) 2) (zAm [.int .i64 p.1,.int .i64 p.2] [.int .i64 q.1,.int .i64 q.2]) none=_
 rw [allInts2]
 rfl
theorem keyOk54 (p:Int×Int):keyOk E 54 (.agg ⟨zJ p⟩)=true:=by
 simp only [keyOk,u54,u3,ts_3,zJ];rfl
theorem find54:∀ {R:Rel},R.Nodup->∀ q:Int×Int,zAd E 54 (.agg ⟨zJ q⟩) (ent R)=some (if q∈R then some (.bool true) else none)
 | [],_,q=>by simp [ent,zAd]
 | p::R,h,q=>by
  obtain ⟨h1,h2⟩:=List.nodup_cons.1 h
  have ih:=find54 h2 q
  simp only [ent,List.map_cons,zAd] at ih ⊢
  rw [keyEq54,ih]
  by_cases e:q=p
  ·subst e
   simp [h1]
  ·simp [e]
theorem look174 {h:AH} {m ver:Nat} {R:Rel} (hm:h.get m=some (.map (ent R) ver)) (hR:R.Nodup) (q:Int×Int) :
  zC6 E 174 false (some (.map (some m))) (some (.agg ⟨zJ q⟩)) h=some (.bool (decide (q∈R))):=by
 simp only [zC6,lookupV,mk174,entriesOf,hm,keyOk54,cond_true,find54 hR]
 by_cases e:q∈R
 ·simp [e,foundV,okV]
 ·simp [e,foundV,z4,okV]
theorem pb54 {a b:Int}:zAu E 54 (some [(0,.int .i64 a),(1,.int .i64 b)])=some (.agg ⟨zJ (a,b)⟩):=by kernel_rfl
abbrev zAi (x y:Value) (m:Nat):List Value:=[x,y,.map (some m)]
theorem call123 {k:AH} {x y:Value} {m ver:Nat} {R:Rel} (hok:k.ok) (hm:k.get m=some (.map (ent R) ver)) (hml:m<k.next) (hR:R.Nodup) (s t:Int) :
  (zV E).call 123 [.agg ⟨zAi x y m⟩,.int .i64 s,.int .i64 t] k=some [(.bool (decide ((s,t)∈R)),k)]:=by
 refine F123_flat (s:=true) hok rfl (P123_0_of ?_)
 simp only [ze,zL,zS,zA]
 refine P123_1_of ?_
 have o1:=(Own.fresh k).new (.row (zAi x y m) 176 0 false)
 have t1:=zF k.fresh (.row (zAi x y m) 176 0 false)
 simp only [zb] at t1 ⊢
 generalize k.fresh.new (.row (zAi x y m) 176 0 false)=k1 at o1 t1
 have l2:=zD (P:=E) ta_174 (o:=2) t1
 simp only [lnth,zAi] at l2
 have hm1:=(o1.ext.get m hml).trans hm
 simp only [fa_176_2,Nat.zero_add,l2,zA,pb54,look174 hm1 hR,zAN,zX,true_and]
 exact o1.wm
def stepIs (R:Rel) (x y:Int×Int):Bool:=decide (y.1=x.1)&&decide ((x.2,y.2)∈R)
theorem call174 {k:AH} {gx gy:Value} {m ver:Nat} {R:Rel} {x y:Int×Int} {bx bf ty1 ty2:Nat} (hok:k.ok) (hm:k.get m=some (.map (ent R) ver)) (hml:m<k.next) (hR:R.Nodup) (hx:k.get bx=some (.row (zJ x) ty1 0 false)) (hxl:bx<k.next) (hf:k.get bf=some (.row (zAi gx gy m) ty2 0 false)) (hfl:bf<k.next) :
  (zV E).call 174 [.agg ⟨zJ y⟩,ptr bx,ptr bf] k=some [(.bool (stepIs R x y),k)]:=by
 refine F174_flat (s:=true) hok rfl (P174_0_of ?_)
 simp only [ze,zL,zS,zA]
 refine P174_1_of ?_
 have o1:=(Own.fresh k).new (.row (zJ y) 134 0 false)
 have t1:=zF k.fresh (.row (zJ y) 134 0 false)
 simp only [zb] at t1 ⊢
 generalize k.fresh.new (.row (zJ y) 134 0 false)=k1 at o1 t1
 have hx1:=(o1.ext.get bx hxl).trans hx
 have hf1:=(o1.ext.get bf hfl).trans hf
 have hm1:=(o1.ext.get m hml).trans hm
 have y0:=zD (P:=E) zAS (o:=0) t1
 have y1:=zD (P:=E) zAS (o:=1) t1
 have x0:=zD (P:=E) zAS (o:=0) hx1
 have x1:=zD (P:=E) zAS (o:=1) hx1
 have lf:=zW (P:=E) ta_176 (o:=0) hf1 (by simp [zAi])
 rw [List.drop_zero,List.take_of_length_le (by simp [zAi])] at lf
 simp only [lnth,zJ] at y0 y1 x0 x1
 simp only [fa_134_0,zB9,Nat.add_zero,Nat.zero_add,y0,x0,zA,zAU]
 by_cases e:y.1=x.1
 ·simp only [e,decide_true,zM,zY,beq_self_eq_true,cond_true,zDC,zB9,Nat.add_zero,Nat.zero_add,lf,x1,y1,zA,zZ,call123 o1.ext.ok hm1 (Nat.lt_of_lt_of_le hml o1.ext.next) hR,zO,zK,zAN,zX,true_and,stepIs,Bool.true_and]
  exact o1.wm
 ·simp only [e,decide_false,zM,zY,zn,zq,show (false==true)=false from rfl,cond_false,zA,zL,zK,zAN,zX,true_and,stepIs,Bool.false_and]
  exact o1.wm
theorem cell_arr {h:AH} {c:Value} {S:zAA} (k:CellOK h c S):Arr h 2 c (S.map zJ):=by
 rcases k with ⟨rfl,rfl⟩|⟨b,rfl,hg,hlt⟩
 ·exact .nil _ _
 ·have:=Arr.row (h:=h) (z:=2) (b:=b) (o:=0) (c:=UNK+2) (els:=S.map zJ) hg hlt (by simp [stc_len]) (fun i e he=>by
   simp only [List.getElem?_map] at he
   cases hx:S[i]? with
   | none=>rw [hx] at he;cases he
   | some x=>
    rw [hx] at he
    simp only [Option.map_some,Option.some.injEq] at he
    subst he
    refine ⟨rfl,?_⟩
    rw [Nat.zero_add]
    have:∀ (S:zAA) (i:Nat),S[i]?=some x->((stc S).drop (i*2)).take 2=zJ x:=by
     intro S
     induction S with
     | nil=>intro i h;simp at h
     | cons y S ih=>
      intro i h
      cases i with
      | zero=>simp at h;subst h;rfl
      | succ i=>
       rw [show (i+1)*2=i*2+2 by omega]
       have:=ih i (by simpa using h)
       rw [← this]
       rfl
    exact this S i hx)
  simpa using this
theorem idx_any (p:Nat->Bool) (n:Nat):decide (0<=zt p n 0)=(List.range n).any p:=by
 have h:=zBe (p:=p) n 0
 cases hb:(List.range n).any p with
 | true=>
  have:¬ zt p n 0<0:=by
   intro hneg
   have:=h.2 hneg
   obtain ⟨j,hj,hp⟩:=List.any_eq_true.1 hb
   rw [this j (Nat.zero_le _) (by have:=List.mem_range.1 hj;omega)] at hp
   cases hp
  exact decide_eq_true (by omega)
 | false=>
  have:zt p n 0<0:=h.1 fun j _ hj=>by
   have:=List.any_eq_false.1 hb j (List.mem_range.2 (by omega))
   simpa using this
  exact decide_eq_false (by omega)
structure GV (h:AH) (bg:Nat) (SS:List zAA):Prop where
 ex:∃ loc bs cells,GG loc h bg bs cells SS
theorem GV.ext {h k:AH} {bg:Nat} {SS:List zAA} (g:GV h bg SS) (e:Ext h k):GV k bg SS:=by
 obtain ⟨loc,bs,cells,G⟩:=g.ex
 refine ⟨loc,bs,cells,(e.get bg G.ltg).trans G.g,(e.get bs G.lts).trans G.s,G.len,G.ne,Nat.lt_of_lt_of_le G.ltg e.next,Nat.lt_of_lt_of_le G.lts e.next,G.locg,G.locs,fun i c S hc hS=>?_,G.blk,G.dis⟩
 rcases G.cell i c S hc hS with a|⟨b,a1,a2,a3⟩
 ·exact .inl a
 ·exact .inr ⟨b,a1,(e.get b a3).trans a2,Nat.lt_of_lt_of_le a3 e.next⟩
def strongB (R:Rel) (S:zAA) (x:Int×Int):Bool:=S.any fun y=>stepIs R x y
def pAt (S:zAA) (f:Int×Int->Bool) (i:Nat):Bool:=match S[i]? with
 | some y=>f y
 | none=>false
theorem any_pAt (S:zAA) (f:Int×Int->Bool):(List.range S.length).any (pAt S f)=S.any f:=by
 rw [Bool.eq_iff_iff]
 simp only [List.any_eq_true,List.mem_range]
 constructor
 ·rintro ⟨i,hi,h⟩
  unfold pAt at h
  rw [List.getElem?_eq_getElem hi] at h
  exact ⟨_,List.getElem_mem hi,h⟩
 ·rintro ⟨y,hy,h⟩
  obtain ⟨i,hi⟩:=List.mem_iff_getElem?.1 hy
  refine ⟨i,(List.getElem?_eq_some_iff.1 hi).1,?_⟩
  unfold pAt
  rw [hi];exact h
theorem call128 {k:AH} {gx:Value} {bg m ver t:Nat} {R:Rel} {SS:List zAA} {S:zAA} {x:Int×Int} {v1:Value} (hok:k.ok) (hm:k.get m=some (.map (ent R) ver)) (hml:m<k.next) (hR:R.Nodup) (hg:GV k bg SS) (hS:SS[t]?=some S) (hSl:S.length<=1000000) :
  (zV E).call 128 [.agg ⟨zAi gx (ptr bg) m⟩,v1,.int .i64 (t:Int),.agg ⟨zJ x⟩] k=some [(.bool (strongB R S x),k)]:=by
 refine F128_flat (s:=true) hok rfl (P128_0_of ?_)
 simp only [ze,zL,zS,zA]
 refine P128_1_of ?_
 have o1:=((Own.fresh k).new (.row (zAi gx (ptr bg) m) 178 0 false)).new (.row (zJ x) 134 0 false)
 have tf:((k.fresh.new (.row (zAi gx (ptr bg) m) 178 0 false)).new (.row (zJ x) 134 0 false)).get k.next=some (.row (zAi gx (ptr bg) m) 178 0 false):=by
  rw [zI (by simp)];exact zF k.fresh _
 have tx:((k.fresh.new (.row (zAi gx (ptr bg) m) 178 0 false)).new (.row (zJ x) 134 0 false)).get (k.next+1)=some (.row (zJ x) 134 0 false):=zF (k.fresh.new _) _
 have n1:((k.fresh.new (.row (zAi gx (ptr bg) m) 178 0 false)).new (.row (zJ x) 134 0 false)).next=k.next+2:=rfl
 simp only [zb,AH.next_new]
 generalize ((k.fresh.new (.row (zAi gx (ptr bg) m) 178 0 false)).new (.row (zJ x) 134 0 false))=k1 at o1 tf tx n1
 obtain ⟨loc,bs,cells,G⟩:=(hg.ext o1.ext).ex
 have hm1:=(o1.ext.get m hml).trans hm
 have lf:=zD (P:=E) zCo (o:=1) tf
 have lg:=zD (P:=E) ta_129 (o:=0) G.g
 simp only [lnth,zAi] at lf lg
 have ht:t<cells.length:=by rw [G.len];exact (List.getElem?_eq_some_iff.1 hS).1
 have hc:cells[t]?=some cells[t]:=List.getElem?_eq_getElem ht
 have ls:=zD (P:=E) ta_132 (o:=0+t*1) G.s
 rw [zAa,show 0+t*1=t by omega,hc] at ls
 have ia:=ia_129 (b:=bs) (o:=0) (c:=cells.length) ht
 rw [show 0+t*1=t by omega] at ia
 have hcell:=G.cell t _ _ hc hS
 have hcf:=call173 (h0:=k1) (v:=cells[t]) (f:=.func (.func 174) #[] #[ptr (k.next+1),ptr k.next]) (p:=pAt S (stepIs R x)) (cell_arr hcell) (by simp;omega) (fun k2 hk2 i e he=>by
  simp only [List.getElem?_map] at he
  cases hy:S[i]? with
  | none=>rw [hy] at he;cases he
  | some y=>
   rw [hy] at he
   simp only [Option.map_some,Option.some.injEq] at he
   subst he
   have:=call174 (k:=k2) (y:=y) (gx:=gx) (gy:=ptr bg) hk2.ok ((hk2.get m (Nat.lt_of_lt_of_le hml o1.ext.next)).trans hm1) (Nat.lt_of_lt_of_le (Nat.lt_of_lt_of_le hml o1.ext.next) hk2.next) hR ((hk2.get _ (by omega)).trans tx) (by have:=hk2.next;omega) ((hk2.get _ (by omega)).trans tf) (by have:=hk2.next;omega)
   simp only [wCall_fn,List.nil_append,List.cons_append,pAt,hy]
   exact this) (Ext.refl o1.ext.ok)
 simp only [zDC,fa_176_1,Nat.add_zero,Nat.zero_add,lf,zA,zBH,fa_131_0,lg,ia,ls,zAp,zZ,hcf,zO,zAN,zX,true_and]
 refine ⟨?_,o1.wm⟩
 rw [idx_any,List.length_map,any_pAt]
 rfl
theorem ev_list {α:Type} {l:List α} {Q:α->Prop} (h1:l≠[]) (h2:∀ a∈l,Q a):Ev false (some l) Q:=⟨l,rfl,h1,(fun h=>by cases h),h2⟩
theorem takes_mem {α:Type}:∀ (l pre:List α) (x:α×List α),x∈takes pre l->∃ l1 l2,l=l1++x.1::l2/\x.2=pre++l1++l2
 | [],_,x,h=>by cases h
 | a::l,pre,x,h=>by
  simp only [takes,List.mem_cons] at h
  rcases h with rfl|h
  ·exact ⟨[],l,rfl,by simp⟩
  ·obtain ⟨l1,l2,e1,e2⟩:=takes_mem l (pre++[a]) x h
   exact ⟨a::l1,l2,by rw [e1];rfl,by rw [e2];simp⟩
theorem range_map {h:AH} {m ver:Nat} {es:List (Value×Value)} (hm:h.get m=some (.map es ver)):wRange (some (.map (some m))) h=one (ptr h.next,h.new (.iter (some m) ver es none)):=by
 simp only [wRange,hm]
theorem next_nil {h:AH} {b m ver:Nat} {es:List (Value×Value)} {cur:Option (Value×Value)} (hb:h.get b=some (.iter (some m) ver [] cur)) (hm:h.get m=some (.map es ver)) :
  wNext false (some (ptr b)) h=one (.tuple #[.bool false],h):=by
 simp only [wNext,nextV,hb,hm,Nat.beq_refl,Bool.not_true,Bool.false_eq_true,if_false]
theorem next_cons {h:AH} {b m ver:Nat} {es left:List (Value×Value)} {cur:Option (Value×Value)} {Q:Value×AH->Prop} (hb:h.get b=some (.iter (some m) ver left cur)) (hm:h.get m=some (.map es ver)) (hl:left≠[])
  (hQ:∀ e l1 l2,left=l1++e::l2->Q (.tuple #[.bool true,e.1,e.2],h.upd b (some (.iter (some m) ver (l1++l2) (some e))))):Ev false (wNext false (some (ptr b)) h) Q:=by
 cases left with
 | nil=>exact absurd rfl hl
 | cons a l=>
  have:wNext false (some (ptr b)) h=some ((takes [] (a::l)).map fun x=>(.tuple #[.bool true,x.1.1,x.1.2],h.upd b (some (.iter (some m) ver x.2 (some x.1))))):=by
   simp only [wNext,nextV,hb,hm,Nat.beq_refl,Bool.not_true,Bool.false_eq_true,if_false]
  rw [this]
  refine ev_list (by simp [takes]) fun y hy=>?_
  obtain ⟨x,hx,rfl⟩:=List.mem_map.1 hy
  obtain ⟨l1,l2,e1,e2⟩:=takes_mem _ _ _ hx
  rw [e2]
  exact hQ x.1 l1 l2 e1
theorem entry_of {h:AH} {b m ver:Nat} {es left:List (Value×Value)} {e:Value×Value} (hb:h.get b=some (.iter (some m) ver left (some e))) (hm:h.get m=some (.map es ver)):rEntry (some (ptr b)) h=some (.tuple #[e.1,e.2]):=by
 simp only [rEntry,entryV,hb,hm,Nat.beq_refl,if_true]
theorem ent_split {R:Rel} {e:Value×Value} {l1 l2:List (Value×Value)} (h:ent R=l1++e::l2):∃ R1 p R2,R=R1++p::R2/\l1=ent R1/\e=(.agg ⟨zJ p⟩,.bool true)/\l2=ent R2:=by
 unfold ent at h
 obtain ⟨R1,R3,e1,e2,e3⟩:=List.map_eq_append_iff.1 h
 obtain ⟨p,R2,e4,e5,e6⟩:=List.map_eq_cons_iff.1 e3
 exact ⟨R1,p,R2,by rw [e1,e4],e2.symm,e5.symm,e6.symm⟩
theorem ent_append (R1 R2:Rel):ent R1++ent R2=ent (R1++R2):=by simp [ent]
theorem box54 {k:AH} {p:Int×Int} :
  zu E 54 (k.new (.row [.int .i64 0,.int .i64 0] 54 0 false)) (some (ptr k.next)) (some (.agg ⟨zJ p⟩))=one (undef,(k.new (.row [.int .i64 0,.int .i64 0] 54 0 false)).upd k.next (some (.row (zJ p) 54 0 false))):=by
 rw [z0 (P:=E) ts_54 (x:=.agg ⟨zJ p⟩) (cs:=zJ p) (zF k _) rfl rfl (by simp) (by simp [zJ,zp])]
 rfl
theorem box134 {k:AH} {p:Int×Int} :
  zu E 134 (k.new (.row [.int .i64 0,.int .i64 0] 134 0 false)) (some (ptr k.next)) (some (.agg ⟨zJ p⟩))=one (undef,(k.new (.row [.int .i64 0,.int .i64 0] 134 0 false)).upd k.next (some (.row (zJ p) 134 0 false))):=by
 rw [z0 (P:=E) ts_134 (x:=.agg ⟨zJ p⟩) (cs:=zJ p) (zF k _) rfl rfl (by simp) (by simp [zJ,zp])]
 rfl
def allB (R:Rel) (SS:List zAA) (fB:Int×Int->Int×Int->Bool):Bool:=R.all fun p=>match SS[p.1.toNat]? with
 | some S=>S.all (fB p)
 | none=>true
theorem call124 {h0 k:AH} {b1 b2 m ver:Nat} {R:Rel} {SS:List zAA} {fol can:FuncId} {nm:ByteArray} {fB:Int×Int->Int×Int->Bool} (hh:Ext h0 k) (hm:h0.get m=some (.map (ent R) ver)) (hml:m<h0.next) (hg:GV h0 b1 SS)
  (hin:∀ p∈R,0<=p.1/\p.1<SS.length) (hsz:∀ (i:Nat) (S:zAA),SS[i]?=some S->S.length<=1000000)
  (hfol:∀ k',Ext h0 k'->∀ p∈R,∀ x S,SS[p.1.toNat]?=some S->x∈S->(zV E).call fol [.agg ⟨zAi (ptr b1) (ptr b2) m⟩,.int .i64 p.1,.int .i64 p.2,.agg ⟨zJ x⟩] k'=some [(.bool (fB p x),k')]) :
  (zV E).call 124 [.agg ⟨zAi (ptr b1) (ptr b2) m⟩,.agg ⟨[.func (.func fol) #[] #[],.func (.func can) #[] #[],.string nm]⟩] k=some [(.bool (allB R SS fB),k)]:=by
 refine F124_flat (s:=false) hh.ok rfl (P124_0_of ?_)
 simp only [ze,zL,zS,zA]
 refine P124_1_of ?_
 have o1:=((Own.fresh k).new (.row (zAi (ptr b1) (ptr b2) m) 178 0 false)).new (.row [.func (.func fol) #[] #[],.func (.func can) #[] #[],.string nm] 112 0 false)
 have tf:((k.fresh.new (.row (zAi (ptr b1) (ptr b2) m) 178 0 false)).new (.row [.func (.func fol) #[] #[],.func (.func can) #[] #[],.string nm] 112 0 false)).get k.next=some (.row (zAi (ptr b1) (ptr b2) m) 178 0 false):=by
  rw [zI (by simp)];exact zF k.fresh _
 have tm:((k.fresh.new (.row (zAi (ptr b1) (ptr b2) m) 178 0 false)).new (.row [.func (.func fol) #[] #[],.func (.func can) #[] #[],.string nm] 112 0 false)).get (k.next+1)=some (.row [.func (.func fol) #[] #[],.func (.func can) #[] #[],.string nm] 112 0 false):=zF (k.fresh.new _) _
 have n1:((k.fresh.new (.row (zAi (ptr b1) (ptr b2) m) 178 0 false)).new (.row [.func (.func fol) #[] #[],.func (.func can) #[] #[],.string nm] 112 0 false)).next=k.next+2:=rfl
 simp only [zb,AH.next_new]
 generalize ((k.fresh.new (.row (zAi (ptr b1) (ptr b2) m) 178 0 false)).new (.row [.func (.func fol) #[] #[],.func (.func can) #[] #[],.string nm] 112 0 false))=k1 at o1 tf tm n1
 have e1:=hh.trans o1.ext
 have l2:=zD (P:=E) ta_174 (o:=2) tf
 simp only [lnth,zAi] at l2
 have hm1:=(e1.get m hml).trans hm
 simp only [zDC,fa_176_2,Nat.add_zero,Nat.zero_add,l2,zA,range_map hm1,zL]
 have loop:∀ (n:Nat) (Lf:Rel),Lf.length=n->(∀ p∈Lf,p∈R)->allB R SS fB=allB Lf SS fB->∀ l cur,Own k l->l.get k.next=some (.row (zAi (ptr b1) (ptr b2) m) 178 0 false)->l.get (k.next+1)=some (.row [.func (.func fol) #[] #[],.func (.func can) #[] #[],.string nm] 112 0 false)->
   l.get k1.next=some (.iter (some m) ver (ent Lf) cur)->k1.next<l.next->
   P124_2 false (KR E [.tmp 4] (fun x l=>x=.bool (allB R SS fB)/\k.next<=l.wm)) (ptr k.next) (ptr (k.next+1)) (ptr k1.next) l:=by
  intro n
  induction n with
  | zero=>
   intro Lf hLf hsub heq l cur ho hf hmm hit hlt
   have:Lf=[]:=List.length_eq_zero_iff.1 hLf
   subst this
   refine P124_2_of ?_
   have hml':=((hh.trans ho.ext).get m hml).trans hm
   simp only [next_nil hit hml',zL,zAH,lnth,zA,zAE]
   refine P124_10_of ?_
   simp only [zA,zAN,zX,true_and]
   exact ⟨by rw [heq];rfl,ho.wm⟩
  | succ n ih=>
   intro Lf hLf hsub heq l cur ho hf hmm hit hlt
   refine P124_2_of ?_
   have he:=hh.trans ho.ext
   have hml':=(he.get m hml).trans hm
   refine next_cons hit hml' (by cases Lf with|nil=>simp at hLf|cons a l=>simp [ent]) fun e l1 l2 hsp=>?_
   obtain ⟨R1,p,R2,hR,hl1,hep,hl2⟩:=ent_split hsp
   subst hep
   rw [hl1,hl2,ent_append]
   simp only [zAH,lnth,zA,zAK]
   refine P124_3_of ?_
   have hkl:=ho.ext.next
   have o2:=ho.upd (b:=k1.next) (by omega) (some (.iter (some m) ver (ent (R1++R2)) (some (.agg ⟨zJ p⟩,.bool true))))
   have i2:(l.upd k1.next (some (.iter (some m) ver (ent (R1++R2)) (some (.agg ⟨zJ p⟩,.bool true))))).get k1.next=_:=zR _ _ _
   have f2:(l.upd k1.next (some (.iter (some m) ver (ent (R1++R2)) (some (.agg ⟨zJ p⟩,.bool true))))).get k.next=_:=(zQ (by omega)).trans hf
   have m2:(l.upd k1.next (some (.iter (some m) ver (ent (R1++R2)) (some (.agg ⟨zJ p⟩,.bool true))))).get (k.next+1)=_:=(zQ (by omega)).trans hmm
   have n2:(l.upd k1.next (some (.iter (some m) ver (ent (R1++R2)) (some (.agg ⟨zJ p⟩,.bool true))))).next=l.next:=rfl
   generalize (l.upd k1.next (some (.iter (some m) ver (ent (R1++R2)) (some (.agg ⟨zJ p⟩,.bool true)))))=l2 at o2 i2 f2 m2 n2
   have hml2:=((hh.trans o2.ext).get m hml).trans hm
   simp only [entry_of i2 hml2,zA,zAH,lnth,z_54,ze,zL,zS,box54]
   refine P124_4_of ?_
   have o3:=(o2.new (.row [.int .i64 0,.int .i64 0] 54 0 false)).upd (b:=l2.next) (by omega) (some (.row (zJ p) 54 0 false))
   have p3:((l2.new (.row [.int .i64 0,.int .i64 0] 54 0 false)).upd l2.next (some (.row (zJ p) 54 0 false))).get l2.next=some (.row (zJ p) 54 0 false):=zR _ _ _
   have i3:((l2.new (.row [.int .i64 0,.int .i64 0] 54 0 false)).upd l2.next (some (.row (zJ p) 54 0 false))).get k1.next=_:=((zQ (by omega)).trans (zI (by omega))).trans i2
   have f3:((l2.new (.row [.int .i64 0,.int .i64 0] 54 0 false)).upd l2.next (some (.row (zJ p) 54 0 false))).get k.next=_:=((zQ (by omega)).trans (zI (by omega))).trans f2
   have m3:((l2.new (.row [.int .i64 0,.int .i64 0] 54 0 false)).upd l2.next (some (.row (zJ p) 54 0 false))).get (k.next+1)=_:=((zQ (by omega)).trans (zI (by omega))).trans m2
   have n3:((l2.new (.row [.int .i64 0,.int .i64 0] 54 0 false)).upd l2.next (some (.row (zJ p) 54 0 false))).next=l2.next+1:=rfl
   generalize ((l2.new (.row [.int .i64 0,.int .i64 0] 54 0 false)).upd l2.next (some (.row (zJ p) 54 0 false)))=l3 at o3 p3 i3 f3 m3 n3
   have hpR:p∈R:=hsub p (by rw [hR];simp)
   obtain ⟨hp1,hp2⟩:=hin p hpR
   obtain ⟨s,hs⟩:=Int.eq_ofNat_of_zero_le hp1
   have hsS:s<SS.length:=by omega
   have hSs:SS[s]?=some SS[s]:=List.getElem?_eq_getElem hsS
   have hSp:SS[p.1.toNat]?=some SS[s]:=by rw [hs];exact hSs
   obtain ⟨loc,bs,cells,G⟩:=(hg.ext (hh.trans o3.ext)).ex
   have hsc:s<cells.length:=by rw [G.len];exact hsS
   have hcs:cells[s]?=some cells[s]:=List.getElem?_eq_getElem hsc
   have q0:=zD (P:=E) zCo (o:=0) f3
   have q1:=zD (P:=E) ta_129 (o:=0) G.g
   have q2:=zD (P:=E) zAS (o:=0) p3
   have q3:=zD (P:=E) ta_132 (o:=0+s*1) G.s
   simp only [lnth,zAi,zJ] at q0 q1 q2
   rw [zAa,show 0+s*1=s by omega,hcs] at q3
   rw [hs] at q2
   have ia:=ia_129 (b:=bs) (o:=0) (c:=cells.length) hsc
   rw [show 0+s*1=s by omega] at ia
   have hcell:=G.cell s _ _ hcs hSs
   obtain ⟨ca,cc,hcc⟩:=(cell_arr hcell).slice
   rw [List.length_map] at hcc
   have harr:=cell_arr hcell
   rw [hcc] at q3 harr
   simp only [zDC,fa_176_0,Nat.add_zero,q0,zA,zBH,fa_131_0,q1,ia54_0,q2,ia,q3,len124_4_10]
   have hgood:allB Lf SS fB=((SS[s]).all (fB p)&&allB (R1++R2) SS fB):=by
    rw [hR]
    simp only [allB,List.all_append,List.all_cons,hSp]
    cases (SS[s]).all (fB p) <;> simp
   have steps:∀ (j i:Nat),i+j=(SS[s]).length->((SS[s]).drop i).all (fB p)=(SS[s]).all (fB p)->∀ l4,Ext l3 l4->k.next<=l4.wm->
     P124_5 false (KR E [.tmp 4] (fun x l=>x=.bool (allB R SS fB)/\k.next<=l.wm)) (ptr k.next) (ptr (k.next+1)) (ptr l2.next) (ptr k1.next) (.slice ca (SS[s]).length cc) (.int .i64 ((SS[s]).length:Int)) (.int .i64 (i:Int)) l4:=by
    intro j
    induction j with
    | zero=>
     intro i hi hall l4 he4 hw4
     have hx:=he4.next
     refine P124_5_of ?_
     simp only [zd,zA,zAL]
     refine ⟨fun h=>by omega,fun _=>?_⟩
     have ht:(SS[s]).all (fB p)=true:=by rw [← hall,List.drop_eq_nil_of_le (by omega)];rfl
     exact ih (R1++R2) (by rw [hR] at hLf;simp at hLf ⊢;omega) (fun q hq=>hsub q (by rw [hR];rcases List.mem_append.1 hq with h|h <;> simp [h])) (by rw [heq,hgood,ht];rfl) l4 _ ⟨o3.ext.trans he4,hw4⟩
      ((he4.get _ (by omega)).trans f3) ((he4.get _ (by omega)).trans m3) ((he4.get _ (by omega)).trans i3) (by omega)
    | succ j ihj=>
     intro i hi hall l4 he4 hw4
     have hx:=he4.next
     have hin':i<(SS[s]).length:=by omega
     refine P124_5_of ?_
     simp only [zd,zA,zAL]
     refine ⟨fun _=>P124_6_of ?_,fun h=>by omega⟩
     have hat:((SS[s]).map zJ)[i]?=some (zJ (SS[s])[i]):=by simp [hin']
     obtain ⟨b',o',c',vs',ty',es',ro',hv',hb',hlt',hle',hz',hzl'⟩:=harr.load hat
     simp only [Value.slice.injEq] at hv'
     obtain ⟨hv1,_,_⟩:=hv'
     subst hv1
     have gb':=(he4.get b' hlt').trans hb'
     simp only [ia_132 hin',zA,zW ta_134 gb' hle',hz',z_134,ze,zL,zS,box134]
     refine P124_7_of ?_
     have e5:=(he4.new (.row [.int .i64 0,.int .i64 0] 134 0 false)).upd (b:=l4.next) hx (some (.row (zJ (SS[s])[i]) 134 0 false))
     have x5:((l4.new (.row [.int .i64 0,.int .i64 0] 134 0 false)).upd l4.next (some (.row (zJ (SS[s])[i]) 134 0 false))).get l4.next=some (.row (zJ (SS[s])[i]) 134 0 false):=zR _ _ _
     have w5:k.next<=((l4.new (.row [.int .i64 0,.int .i64 0] 134 0 false)).upd l4.next (some (.row (zJ (SS[s])[i]) 134 0 false))).wm:=zx (by rw [wm_new];exact hw4) (by omega)
     generalize ((l4.new (.row [.int .i64 0,.int .i64 0] 134 0 false)).upd l4.next (some (.row (zJ (SS[s])[i]) 134 0 false)))=l5 at e5 x5 w5
     have f5:=(e5.get _ (by omega)).trans f3
     have m5:=(e5.get _ (by omega)).trans m3
     have p5:=(e5.get _ (by omega)).trans p3
     have r0:=zD (P:=E) ta_109 (o:=0) m5
     have r1:=zW (P:=E) ta_178 (o:=0) f5 (by simp [zAi])
     have r2:=zD (P:=E) zAS (o:=0) p5
     have r3:=zD (P:=E) zAS (o:=1) p5
     have r4:=zW (P:=E) ta_134 (o:=0) x5 (by simp [zJ])
     rw [List.drop_zero,List.take_of_length_le (by simp [zAi])] at r1
     rw [List.drop_zero,List.take_of_length_le (by simp [zJ])] at r4
     simp only [lnth,zJ] at r0 r2 r3
     have hcall:=hfol l5 ((hh.trans o3.ext).trans e5) p hpR (SS[s])[i] _ hSp (List.getElem_mem hin')
     simp only [fa_112_0,Nat.add_zero,Nat.zero_add,r0,r1,r2,r3,r4,zA,ia54_0,ia54_1,zZ,hcall,zO,zz]
     have hdrop:((SS[s]).drop i).all (fB p)=(fB p (SS[s])[i]&&((SS[s]).drop (i+1)).all (fB p)):=by rw [List.drop_eq_getElem_cons hin',List.all_cons]
     cases hq:fB p (SS[s])[i] with
     | false=>
      simp only [Bool.not_false,zAK]
      refine P124_8_of ?_
      simp only [zA,zAN,zX,true_and]
      exact ⟨by rw [heq,hgood,← hall,hdrop,hq];rfl,w5⟩
     | true=>
      simp only [Bool.not_true,zAE]
      refine P124_9_of ?_
      simp only [zAJ _ (add1 hin' (by have:=hsz s _ hSs;omega)),zA]
      have:=ihj (i+1) (by omega) (by rw [← hall,hdrop,hq];rfl) l5 e5 w5
      simpa using this
   exact steps (SS[s]).length 0 (by omega) rfl l3 (Ext.refl o3.ext.ok) o3.wm
 exact loop R.length R rfl (fun p h=>h) rfl _ none (o1.new _) ((zI (by omega)).trans tf) ((zI (by omega)).trans tm) (zF _ _) (by simp)
def insP (q:Int×Int):Rel->Rel
 | []=>[q]
 | p::R=>if klt (.agg ⟨zJ q⟩) (.agg ⟨zJ p⟩) then q::p::R else p::insP q R
theorem insP_ent (q:Int×Int):∀ R:Rel,zA0 (.agg ⟨zJ q⟩) (.bool true) (ent R)=ent (insP q R)
 | []=>rfl
 | p::R=>by
  have:=insP_ent q R
  simp only [ent,List.map_cons,zA0,insP] at this ⊢
  split
  ·rfl
  ·rw [this];rfl
theorem insP_mem (q:Int×Int):∀ (R:Rel) (x:Int×Int),x∈insP q R ↔ x=q\/x∈R
 | [],x=>by simp [insP]
 | p::R,x=>by
  simp only [insP]
  split
  ·simp
  ·simp only [List.mem_cons,insP_mem q R]
   constructor
   ·rintro (h|h|h) <;> simp [h]
   ·rintro (h|h|h) <;> simp [h]
theorem insP_nodup {q:Int×Int}:∀ {R:Rel},R.Nodup->q ∉ R->(insP q R).Nodup
 | [],_,_=>by simp [insP]
 | p::R,h,hq=>by
  obtain ⟨h1,h2⟩:=List.nodup_cons.1 h
  simp only [List.mem_cons,not_or] at hq
  simp only [insP]
  split
  ·exact List.nodup_cons.2 ⟨by simp [hq.1,hq.2],h⟩
  ·exact List.nodup_cons.2 ⟨by rw [insP_mem];simp [h1];exact fun e=>hq.1 e.symm,insP_nodup h2 hq.2⟩
theorem veq_pr (q:Int×Int):veq 3 (.agg ⟨zJ q⟩) (.agg ⟨zJ q⟩)=true:=by
 show veqs 2 [.int .i64 q.1,.int .i64 q.2] [.int .i64 q.1,.int .i64 q.2]=true
 simp only [veqs,zCf,Bool.and_self]
theorem setE (q:Int×Int):∀ {R:Rel},R.Nodup->zBl E 54 (.agg ⟨zJ q⟩) (.bool true) (ent R)=some (ent R)
 | [],_=>rfl
 | p::R,h=>by
  obtain ⟨h1,h2⟩:=List.nodup_cons.1 h
  have ih:=setE q h2
  simp only [ent,List.map_cons,zBl] at ih ⊢
  rw [keyEq54,ih]
  by_cases e:q=p
  ·subst e
   simp [veq_pr]
  ·simp [e]
theorem upd174 {h:AH} {m ver:Nat} {R:Rel} (hm:h.get m=some (.map (ent R) ver)) (hR:R.Nodup) (q:Int×Int) :
  ∃ R',zAR E 174 (some (.map (some m))) (some (.agg ⟨zJ q⟩)) (some (.bool true)) h=one (undef,h.upd m (some (.map (ent R') (ver+1))))/\R'.Nodup/\∀ x,x∈R' ↔ x=q\/x∈R:=by
 have hfl:zg (.agg ⟨zJ q⟩)=true:=rfl
 by_cases e:q∈R
 ·refine ⟨R,?_,hR,fun x=>⟨.inr,fun h=>h.elim (fun h=>h ▸ e) id⟩⟩
  simp only [zAR,zBM,mk174,hm,keyOk54,hfl,Bool.and_self,cond_true,zCn,find54 hR,e,if_true,setE q hR,u1]
 ·refine ⟨insP q R,?_,insP_nodup hR e,fun x=>insP_mem q R x⟩
  simp only [zAR,zBM,mk174,hm,keyOk54,hfl,Bool.and_self,cond_true,zCn,find54 hR,e,if_false,insP_ent,u1]
theorem pb176 {a b:Option Addr} {m:Nat}:zAu E 176 (some [(0,.pointer a),(1,.pointer b),(2,.map (some m))])=some (.agg ⟨zAi (.pointer a) (.pointer b) m⟩):=by kernel_rfl
theorem box176 {k:AH} {a b:Option Addr} {m:Nat} :
  zu E 176 (k.new (.row [.pointer none,.pointer none,.map none] 176 0 false)) (some (ptr k.next)) (some (.agg ⟨zAi (.pointer a) (.pointer b) m⟩))=one (undef,(k.new (.row [.pointer none,.pointer none,.map none] 176 0 false)).upd k.next (some (.row (zAi (.pointer a) (.pointer b) m) 176 0 false))):=by
 rw [z0 (P:=E) ts_176 (x:=.agg ⟨zAi (.pointer a) (.pointer b) m⟩) (cs:=zAi (.pointer a) (.pointer b) m) (zF k _) rfl rfl (by simp) (by simp [zAi,zp])]
 rfl
def swapP (p:Int×Int):Int×Int:=(p.2,p.1)
theorem reach_map {h:AH} {lo b1 b2 m ver:Nat} {es:List (Value×Value)} (hb1:b1<lo) (hb2:b2<lo) (hm:lo<=m) (hg:h.get m=some (.map es ver)) (hes:es.flatMap (fun e=>idsOf 4 e.2)=[]) :
  reach h lo 1000 (idsOf 4 (.agg ⟨zAi (ptr b1) (ptr b2) m⟩)) []=[m]:=by
 have e0:idsOf 4 (.agg ⟨zAi (ptr b1) (ptr b2) m⟩)=[b1,b2,m]:=rfl
 rw [e0]
 have s1:reach h lo 1000 [b1,b2,m] []=reach h lo 999 [b2,m] []:=by
  show (if Nat.ble (b1+1) lo||[].any (Nat.beq b1) then _ else _)=_
  rw [ble_true.2 (by omega)];rfl
 have s2:reach h lo 999 [b2,m] []=reach h lo 998 [m] []:=by
  show (if Nat.ble (b2+1) lo||[].any (Nat.beq b2) then _ else _)=_
  rw [ble_true.2 (by omega)];rfl
 have s3:reach h lo 998 [m] []=reach h lo 997 (idsIn (.map es ver)++[]) [m]:=by
  show (if Nat.ble (m+1) lo||[].any (Nat.beq m) then _ else (match h.get m with|some o=>reach h lo 997 (idsIn o++[]) [m]|none=>_))=_
  rw [ble_false.2 (by omega),hg];rfl
 rw [s1,s2,s3]
 simp only [idsIn,hes,List.append_nil]
 rfl
theorem wmTo_fx {k l:AH} (o:Own k l):Fx NoB k (l.wmTo k.wm):=by
 refine ⟨?_,o.ext.next,fun c hc _=>o.ext.get c hc,fun m h1 _ h3=>?_⟩
 ·show cond (Nat.ble k.wm l.wm) k.wm l.wm<=l.next+UNK
  have:=o.ext.ok
  unfold AH.ok at this
  cases hcc:Nat.ble k.wm l.wm with
  | true=>rw [ble_true] at hcc;simp only [cond_true];omega
  | false=>exact this
 ·show m<=cond (Nat.ble k.wm l.wm) k.wm l.wm
  have:=o.wm
  cases hcc:Nat.ble k.wm l.wm with
  | true=>exact h1
  | false=>simp only [cond_false];omega
theorem call125 {k:AH} {b1 b2 m ver:Nat} {R:Rel} (hok:k.ok) (hb1:b1<k.next) (hb2:b2<k.next) (hm:k.get m=some (.map (ent R) ver)) (hml:m<k.next) :
  Ev false ((zV E).call 125 [.agg ⟨zAi (ptr b1) (ptr b2) m⟩] k) fun x=>∃ m' ver' R',x.1=.agg ⟨zAi (ptr b2) (ptr b1) m'⟩/\x.2.get m'=some (.map (ent R') ver')/\k.next<=m'/\m'<x.2.next/\R'.Nodup/\(∀ p,p∈R' ↔ swapP p∈R)/\Fx NoB k x.2:=by
 refine call_many (s:=false) (Rp:=fun v k'=>∃ m' ver' R',v=.agg ⟨zAi (ptr b2) (ptr b1) m'⟩/\k'.get m'=some (.map (ent R') ver')/\k.next<=m'/\m'<k'.next/\R'.Nodup/\(∀ p,p∈R' ↔ swapP p∈R)/\Fx NoB k k') F125_get F125_body (F125_sum _ _) (by kernel_rfl) ?_
 have key:Ev false (AM.R.andThen (evC E (zV E) none (zT Tryz.f125) ⟨⟨Tryz.f125.ntmps,zw [.agg ⟨zAi (ptr b1) (ptr b2) m⟩] 0 .e⟩,k.fresh,[]⟩) (zc E Tryz.f125)) fun x=>
   ∃ m' ver' R',x.1=.agg ⟨zAi (ptr b2) (ptr b1) m'⟩/\x.2.get m'=some (.map (ent R') ver')/\k.next<=m'/\m'<x.2.next/\R'.Nodup/\(∀ p,p∈R' ↔ swapP p∈R)/\Own k x.2:=by
  refine F125_ev (Rp:=fun v k'=>∃ m' ver' R',v=.agg ⟨zAi (ptr b2) (ptr b1) m'⟩/\k'.get m'=some (.map (ent R') ver')/\k.next<=m'/\m'<k'.next/\R'.Nodup/\(∀ p,p∈R' ↔ swapP p∈R)/\Own k k') (P125_0_of ?_)
  simp only [Q125_0,ze,zL,zS,z_176]
  refine P125_1_of ?_
  have o1:=((Own.fresh k).new (.row (zAi (ptr b1) (ptr b2) m) 176 0 false)).new (.row [.pointer none,.pointer none,.map none] 176 0 false)
  have t1:((k.fresh.new (.row (zAi (ptr b1) (ptr b2) m) 176 0 false)).new (.row [.pointer none,.pointer none,.map none] 176 0 false)).get k.next=some (.row (zAi (ptr b1) (ptr b2) m) 176 0 false):=by
   rw [zI (by simp)];exact zF k.fresh _
  have r1:((k.fresh.new (.row (zAi (ptr b1) (ptr b2) m) 176 0 false)).new (.row [.pointer none,.pointer none,.map none] 176 0 false)).get (k.next+1)=some (.row [.pointer none,.pointer none,.map none] 176 0 false):=zF (k.fresh.new _) _
  have n1:((k.fresh.new (.row (zAi (ptr b1) (ptr b2) m) 176 0 false)).new (.row [.pointer none,.pointer none,.map none] 176 0 false)).next=k.next+2:=rfl
  simp only [zb,AH.next_new]
  generalize ((k.fresh.new (.row (zAi (ptr b1) (ptr b2) m) 176 0 false)).new (.row [.pointer none,.pointer none,.map none] 176 0 false))=k1 at o1 t1 r1 n1
  have l0:=zD (P:=E) zCo (o:=0) t1
  have l1:=zD (P:=E) zCo (o:=1) t1
  simp only [lnth,zAi] at l0 l1
  simp only [Q125_1,fa_176_0,fa_176_1,Nat.add_zero,Nat.zero_add,l0,l1,zA,zL,pb176,z_176,ze,zS,box176]
  refine P125_2_of ?_
  have o2:=((o1.new (.map [] 0)).new (.row [.pointer none,.pointer none,.map none] 176 0 false)).upd (b:=(k1.new (.map [] 0)).next) (by simp;omega) (some (.row (zAi (ptr b2) (ptr b1) k1.next) 176 0 false))
  have q1:(((k1.new (.map [] 0)).new (.row [.pointer none,.pointer none,.map none] 176 0 false)).upd (k1.new (.map [] 0)).next (some (.row (zAi (ptr b2) (ptr b1) k1.next) 176 0 false))).get k1.next=some (.map [] 0):=by
   rw [zQ (by simp),zI (by simp)];exact zF _ _
  have q2:(((k1.new (.map [] 0)).new (.row [.pointer none,.pointer none,.map none] 176 0 false)).upd (k1.new (.map [] 0)).next (some (.row (zAi (ptr b2) (ptr b1) k1.next) 176 0 false))).get (k1.next+1)=some (.row (zAi (ptr b2) (ptr b1) k1.next) 176 0 false):=zR _ _ _
  have q3:(((k1.new (.map [] 0)).new (.row [.pointer none,.pointer none,.map none] 176 0 false)).upd (k1.new (.map [] 0)).next (some (.row (zAi (ptr b2) (ptr b1) k1.next) 176 0 false))).get k.next=some (.row (zAi (ptr b1) (ptr b2) m) 176 0 false):=by
   rw [zQ (by simp;omega),zI (by simp;omega),zI (by omega)];exact t1
  have q4:(((k1.new (.map [] 0)).new (.row [.pointer none,.pointer none,.map none] 176 0 false)).upd (k1.new (.map [] 0)).next (some (.row (zAi (ptr b2) (ptr b1) k1.next) 176 0 false))).get (k.next+1)=some (.row [.pointer none,.pointer none,.map none] 176 0 false):=by
   rw [zQ (by simp;omega),zI (by simp;omega),zI (by omega)];exact r1
  have q5:(((k1.new (.map [] 0)).new (.row [.pointer none,.pointer none,.map none] 176 0 false)).upd (k1.new (.map [] 0)).next (some (.row (zAi (ptr b2) (ptr b1) k1.next) 176 0 false))).next=k1.next+2:=rfl
  simp only [zAi] at q1 q2 q3 q4 q5 o2 ⊢
  simp only [AH.next_new] at q1 q2 q3 q4 q5 o2 ⊢
  generalize (((k1.new (.map [] 0)).new (.row [.pointer none,.pointer none,.map none] 176 0 false)).upd (k1.next+1) (some (.row [ptr b2,ptr b1,.map (some k1.next)] 176 0 false)))=k2 at o2 q1 q2 q3 q4 q5
  have l2:=zD (P:=E) ta_174 (o:=2) q3
  simp only [lnth] at l2
  have hm2:=(o2.ext.get m hml).trans hm
  simp only [Q125_2,fa_176_2,Nat.zero_add,l2,zA,range_map hm2,zL]
  have loop:∀ (n:Nat) (Lf Rn:Rel) (vr:Nat),Lf.length=n->Rn.Nodup->(∀ p,p∈Rn\/swapP p∈Lf ↔ swapP p∈R)->∀ l cur,Own k l->k2.next<l.next->l.get k1.next=some (.map (ent Rn) vr)->l.get (k1.next+1)=some (.row [ptr b2,ptr b1,.map (some k1.next)] 176 0 false)->l.get (k.next+1)=some (.row [.pointer none,.pointer none,.map none] 176 0 false)->
    l.get k2.next=some (.iter (some m) ver (ent Lf) cur)->
    P125_3 false (KR E [.cell 2 176] (fun v k'=>∃ m' ver' R',v=.agg ⟨[ptr b2,ptr b1,.map (some m')]⟩/\k'.get m'=some (.map (ent R') ver')/\k.next<=m'/\m'<k'.next/\R'.Nodup/\(∀ p,p∈R' ↔ swapP p∈R)/\Own k k')) (ptr (k.next+1)) (ptr (k1.next+1)) (ptr k2.next) l:=by
   intro n
   induction n with
   | zero=>
    intro Lf Rn vr hLf hnd hmem l cur ho hlt hmp hcp hrs hit
    have:Lf=[]:=List.length_eq_zero_iff.1 hLf
    subst this
    refine P125_3_of ?_
    have hml':=(ho.ext.get m hml).trans hm
    simp only [Q125_3,next_nil hit hml',zL,zAH,lnth,zA,zAE]
    refine P125_6_of ?_
    have la:=zW (P:=E) ta_176 (o:=0) hcp (by simp)
    simp only [List.drop_zero,List.take] at la
    have hst:=z0 (P:=E) ts_176 (o:=0) (x:=.agg ⟨[ptr b2,ptr b1,.map (some k1.next)]⟩) (cs:=[ptr b2,ptr b1,.map (some k1.next)]) hrs rfl rfl (by simp) (by simp [zp])
    simp only [Q125_6,la,zA,hst,zL,kR_c,zX,true_and]
    have g1:(l.upd (k.next+1) (some (.row (lput [.pointer none,.pointer none,.map none] 0 [ptr b2,ptr b1,.map (some k1.next)]) 176 0 false))).get (k.next+1)=some (.row [ptr b2,ptr b1,.map (some k1.next)] 176 0 false):=zR _ _ _
    have lb:=zW (P:=E) ta_176 (o:=0) g1 (by simp)
    simp only [List.drop_zero,List.take] at lb
    have:loadV E 176 (ptr (k.next+1)) (l.upd (k.next+1) (some (.row (lput [.pointer none,.pointer none,.map none] 0 [ptr b2,ptr b1,.map (some k1.next)]) 176 0 false)))=some (.agg ⟨[ptr b2,ptr b1,.map (some k1.next)]⟩):=lb
    rw [this,zA]
    refine ⟨k1.next,vr,Rn,rfl,(zQ (by omega)).trans hmp,by omega,by show k1.next<l.next;omega,hnd,fun p=>by have:=hmem p;simpa using this,ho.upd (by omega) _⟩
   | succ n ih=>
    intro Lf Rn vr hLf hnd hmem l cur ho hlt hmp hcp hrs hit
    refine P125_3_of ?_
    have hml':=(ho.ext.get m hml).trans hm
    simp only [Q125_3]
    refine next_cons hit hml' (by cases Lf with|nil=>simp at hLf|cons a l=>simp [ent]) fun e l1 l2 hsp=>?_
    obtain ⟨R1,p,R2,hR,hl1,hep,hl2⟩:=ent_split hsp
    subst hep
    rw [hl1,hl2,ent_append]
    simp only [zAH,lnth,zA,zAK]
    refine P125_4_of ?_
    have hkl:=ho.ext.next
    have o3:=ho.upd (b:=k2.next) (by omega) (some (.iter (some m) ver (ent (R1++R2)) (some (.agg ⟨zJ p⟩,.bool true))))
    have i3:(l.upd k2.next (some (.iter (some m) ver (ent (R1++R2)) (some (.agg ⟨zJ p⟩,.bool true))))).get k2.next=_:=zR _ _ _
    have a3:(l.upd k2.next (some (.iter (some m) ver (ent (R1++R2)) (some (.agg ⟨zJ p⟩,.bool true))))).get k1.next=_:=(zQ (by omega)).trans hmp
    have c3:(l.upd k2.next (some (.iter (some m) ver (ent (R1++R2)) (some (.agg ⟨zJ p⟩,.bool true))))).get (k1.next+1)=_:=(zQ (by omega)).trans hcp
    have d3:(l.upd k2.next (some (.iter (some m) ver (ent (R1++R2)) (some (.agg ⟨zJ p⟩,.bool true))))).get (k.next+1)=_:=(zQ (by omega)).trans hrs
    have n3:(l.upd k2.next (some (.iter (some m) ver (ent (R1++R2)) (some (.agg ⟨zJ p⟩,.bool true))))).next=l.next:=rfl
    generalize (l.upd k2.next (some (.iter (some m) ver (ent (R1++R2)) (some (.agg ⟨zJ p⟩,.bool true)))))=l3 at o3 i3 a3 c3 d3 n3
    have hml3:=(o3.ext.get m hml).trans hm
    simp only [Q125_4,entry_of i3 hml3,zA,zAH,lnth,z_54,ze,zL,zS,box54]
    refine P125_5_of ?_
    have o4:=(o3.new (.row [.int .i64 0,.int .i64 0] 54 0 false)).upd (b:=l3.next) (by omega) (some (.row (zJ p) 54 0 false))
    have p4:((l3.new (.row [.int .i64 0,.int .i64 0] 54 0 false)).upd l3.next (some (.row (zJ p) 54 0 false))).get l3.next=some (.row (zJ p) 54 0 false):=zR _ _ _
    have i4:((l3.new (.row [.int .i64 0,.int .i64 0] 54 0 false)).upd l3.next (some (.row (zJ p) 54 0 false))).get k2.next=_:=((zQ (by omega)).trans (zI (by omega))).trans i3
    have a4:((l3.new (.row [.int .i64 0,.int .i64 0] 54 0 false)).upd l3.next (some (.row (zJ p) 54 0 false))).get k1.next=_:=((zQ (by omega)).trans (zI (by omega))).trans a3
    have c4:((l3.new (.row [.int .i64 0,.int .i64 0] 54 0 false)).upd l3.next (some (.row (zJ p) 54 0 false))).get (k1.next+1)=_:=((zQ (by omega)).trans (zI (by omega))).trans c3
    have d4:((l3.new (.row [.int .i64 0,.int .i64 0] 54 0 false)).upd l3.next (some (.row (zJ p) 54 0 false))).get (k.next+1)=_:=((zQ (by omega)).trans (zI (by omega))).trans d3
    have n4:((l3.new (.row [.int .i64 0,.int .i64 0] 54 0 false)).upd l3.next (some (.row (zJ p) 54 0 false))).next=l3.next+1:=rfl
    generalize ((l3.new (.row [.int .i64 0,.int .i64 0] 54 0 false)).upd l3.next (some (.row (zJ p) 54 0 false)))=l4 at o4 p4 i4 a4 c4 d4 n4
    have g0:=zD (P:=E) ta_174 (o:=2) c4
    have g1:=zD (P:=E) zAS (o:=0) p4
    have g2:=zD (P:=E) zAS (o:=1) p4
    simp only [lnth,zJ] at g0 g1 g2
    obtain ⟨R',u1,u2,u3⟩:=upd174 a4 hnd (p.2,p.1)
    simp only [Q125_5,fa_176_2,Nat.zero_add,Nat.add_zero,g0,g1,g2,zA,ia54_0,ia54_1,pb54,u1,zL]
    refine ih (R1++R2) R' (vr+1) (by rw [hR] at hLf;simp at hLf ⊢;omega) u2 (fun x=>?_) _ _ (o4.upd (by omega) _) (by show k2.next<l4.next;omega) (zR _ _ _) ((zQ (by omega)).trans c4) ((zQ (by omega)).trans d4) ((zQ (by omega)).trans i4)
    rw [← hmem x,u3 x,hR]
    have hsw:x=(p.2,p.1) ↔ swapP x=p:=by
     constructor
     ·rintro rfl;rfl
     ·intro h;rw [← h];rfl
    rw [hsw]
    simp only [List.mem_append,List.mem_cons]
    constructor
    ·rintro ((h|h)|h|h) <;> simp [h]
    ·rintro (h|h|h|h) <;> simp [h]
  refine loop R.length R [] 0 rfl (by simp) (fun p=>by simp) _ none (o2.new _) (by simp) ((zI (by omega)).trans q1) ((zI (by omega)).trans q2) ((zI (by omega)).trans q4) (zF _ _)
 refine key.mono fun x hx=>?_
 obtain ⟨m',ver',R',h1,h2,h3,h4,h5,h6,h7⟩:=hx
 have hids:reach x.2 k.fresh.next 1000 (idsOf 4 x.1) []=[m']:=by
  rw [h1]
  exact reach_map hb2 hb1 h3 h2 (by simp [ent,List.flatMap_map,idsOf])
 refine ⟨by rw [h1];rfl,⟨m',ver',R',h1,h2,h3,h4,h5,h6,wmTo_fx h7⟩,m',ver',R',h1,?_,h3,h4,h5,h6,wmTo_fx ?_⟩
 ·show (AH.kept k.fresh x.1 x.2).get m'=_
  unfold AH.kept
  rw [hids,zBu,if_pos (by simp)]
  exact h2
 ·refine ⟨⟨?_,h7.ext.next,fun c hc=>?_⟩,?_⟩
  ·exact h7.ext.ok
  ·unfold AH.kept
   rw [hids,zBu]
   split
   ·exact h7.ext.get c hc
   ·rfl
  ·exact h7.wm
end Go.Proofs
namespace Go.Proofs
open Go Go.AM
set_option maxRecDepth 100000
variable {s:Bool} {K:KF} {h:AH} {a:Option Addr} {n c:Nat} {v0 v1 v2 v3 v4 v5 v6 v7 v8 v9 v15 v36 v37 v38:Value}
noncomputable def B222:Code:=zT Tryz.f222
noncomputable def C222 (s:Bool):Cx:=⟨E,s,none,B222,[([0],[0,1,2]),([1,0],[0,1,2,4]),([1,1,0],[0,2,4,5]),([1,1,1,0,0,0,0],[0,2,4,5,6]),([1,1,1,0,0,1,0,0,0,0],[0,2,4,5,6]),([1,1,1,0,0,1,0,0,1,0],[0,2,4,5,6]),([1,1,1,0,0,1,0,0,1,1,0,0,0],[0,2,4,5,6,36,37,38]),([1,1,1,0,0,1,0,0,1,1,0,0,1,1,0,0,0],[0,2,4,5,6,36,37,38]),([1,1,1,0,0,1,0,0,1,1,0,0,1,1,0,0,1,0],[0,2,4,5,6,8,36,37,38]),([1,1,1,0,0,1,0,0,1,1,0,0,1,1,0,0,1,1,0,0],[0,2,4,5,6,8,36,37,38]),([1,1,1,0,0,1,0,0,1,1,0,0,1,1,0,0,1,1,0,1],[0,2,4,5,6,8,36,37,38]),([1,1,1,0,0,1,0,0,1,1,0,0,1,1,1],[0,2,4,5,6,36,37,38]),([1,1,1,0,0,1,1],[0,2,4,5,6])],[],[]⟩
def P222_0 (s:Bool) (K:KF) (v0 v1 v2:Value) (h:AH):Prop:=PI (C222 s) K 0 [v0,v1,v2] h
def P222_1 (s:Bool) (K:KF) (v0 v1 v2 v4:Value) (h:AH):Prop:=PI (C222 s) K 1 [v0,v1,v2,v4] h
def P222_2 (s:Bool) (K:KF) (v0 v2 v4 v5:Value) (h:AH):Prop:=PI (C222 s) K 2 [v0,v2,v4,v5] h
def P222_3 (s:Bool) (K:KF) (v0 v2 v4 v5 v6:Value) (h:AH):Prop:=PI (C222 s) K 3 [v0,v2,v4,v5,v6] h
def P222_4 (s:Bool) (K:KF) (v0 v2 v4 v5 v6:Value) (h:AH):Prop:=PI (C222 s) K 4 [v0,v2,v4,v5,v6] h
def P222_5 (s:Bool) (K:KF) (v0 v2 v4 v5 v6:Value) (h:AH):Prop:=PI (C222 s) K 5 [v0,v2,v4,v5,v6] h
def P222_6 (s:Bool) (K:KF) (v0 v2 v4 v5 v6 v36 v37 v38:Value) (h:AH):Prop:=PI (C222 s) K 6 [v0,v2,v4,v5,v6,v36,v37,v38] h
def P222_7 (s:Bool) (K:KF) (v0 v2 v4 v5 v6 v36 v37 v38:Value) (h:AH):Prop:=PI (C222 s) K 7 [v0,v2,v4,v5,v6,v36,v37,v38] h
def P222_8 (s:Bool) (K:KF) (v0 v2 v4 v5 v6 v8 v36 v37 v38:Value) (h:AH):Prop:=PI (C222 s) K 8 [v0,v2,v4,v5,v6,v8,v36,v37,v38] h
def P222_9 (s:Bool) (K:KF) (v0 v2 v4 v5 v6 v8 v36 v37 v38:Value) (h:AH):Prop:=PI (C222 s) K 9 [v0,v2,v4,v5,v6,v8,v36,v37,v38] h
def P222_10 (s:Bool) (K:KF) (v0 v2 v4 v5 v6 v8 v36 v37 v38:Value) (h:AH):Prop:=PI (C222 s) K 10 [v0,v2,v4,v5,v6,v8,v36,v37,v38] h
def P222_11 (s:Bool) (K:KF) (v0 v2 v4 v5 v6 v36 v37 v38:Value) (h:AH):Prop:=PI (C222 s) K 11 [v0,v2,v4,v5,v6,v36,v37,v38] h
def P222_12 (s:Bool) (K:KF) (v0 v2 v4 v5 v6:Value) (h:AH):Prop:=PI (C222 s) K 12 [v0,v2,v4,v5,v6] h
theorem P222_0_of (H :
 Ev s (one (.map (some (h).next),(h).new (.map [] 0))) fun x0=>
 EvO (zG E 3 x0.2 (some v1)) fun x1=>
 Ev s (zAR E 273 (some x0.1) (some x1) (some (.bool true)) x0.2) fun x2=>
 EvO (some x0.1) fun x3=>
 EvO (some x3) fun x4=>
 P222_1 s K v0 v1 v2 x4 x2.2):P222_0 s K v0 v1 v2 h:=zB H
theorem P222_1_of (H :
 EvO (zG E 3 h (some v1)) fun x0=>
 Ev s (zh E 47 1 (some [(0,x0)]) h) fun x1=>
 EvO (some x1.1) fun x2=>
 P222_2 s K v0 v2 v4 x2 x1.2):P222_1 s K v0 v1 v2 v4 h:=zB H
theorem P222_2_of (H :
 EvO (α:=Value) (some (.int .i64 0)) fun x0=>
 P222_3 s K v0 v2 v4 v5 x0 h):P222_2 s K v0 v2 v4 v5 h:=zB H
theorem P222_3_of (H :
 EvO (some v6) fun x0=>
 EvO (some v5) fun x1=>
 EvO (zN E (zj [(15,x1)]) (zy B222 [1,1,1,0,0,0,0] 2) h) fun x2=>
 EvO (zE E .lss 3 x0 x2) fun x3=>
 BrK (some x3) (P222_4 s K v0 v2 v4 v5 v6 h) (K .normal [] h)):P222_3 s K v0 v2 v4 v5 v6 h:=zB H
theorem len222_3_2:zN E (zj [(15,.slice a n c)]) (zy B222 [1,1,1,0,0,0,0] 2) h=some (.int .i64 (n:Int)):=by cases a <;> kernel_rfl
theorem P222_4_of (H :
 EvO (some v0) fun x0=>
 EvO (some v5) fun x1=>
 EvO (some v6) fun x2=>
 EvO (zH E 47 (some x1) (some x2)) fun x3=>
 EvO (zG E 3 h (some x3)) fun x4=>
 Ev s (za (zV E) (some x0) (some [x4]) h) fun x5=>
 EvO (zAf .not x5.1) fun x6=>
 BrK (some x6) (K .ret [] x5.2) (P222_5 s K v0 v2 v4 v5 v6 x5.2)):P222_4 s K v0 v2 v4 v5 v6 h:=zB H
theorem P222_5_of (H :
 EvO (zG E 128 h (some v2)) fun x0=>
 EvO (zAB (some x0)) fun x1=>
 EvO (zC E 131 0 (some x1)) fun x2=>
 EvO (zG E 129 h (some x2)) fun x3=>
 EvO (some v5) fun x4=>
 EvO (some v6) fun x5=>
 EvO (zH E 47 (some x4) (some x5)) fun x6=>
 EvO (zG E 3 h (some x6)) fun x7=>
 EvO (zH E 129 (some x3) (some x7)) fun x8=>
 EvO (zG E 132 h (some x8)) fun x9=>
 EvO (zN E (zj [(36,x9)]) (zy B222 [1,1,1,0,0,1,0,0,1,0] 10) h) fun x10=>
 EvO (α:=Value) (some (.int .i64 0)) fun x11=>
 P222_6 s K v0 v2 v4 v5 v6 x9 x10 x11 h):P222_5 s K v0 v2 v4 v5 v6 h:=zB H
theorem len222_5_10:zN E (zj [(36,.slice a n c)]) (zy B222 [1,1,1,0,0,1,0,0,1,0] 10) h=some (.int .i64 (n:Int)):=by cases a <;> kernel_rfl
theorem P222_6_of (H :
 EvO (zE E .lss 3 v38 v37) fun x0=>
 BrK (some x0) (P222_7 s K v0 v2 v4 v5 v6 v36 v37 v38 h) (P222_12 s K v0 v2 v4 v5 v6 h)):P222_6 s K v0 v2 v4 v5 v6 v36 v37 v38 h:=zB H
theorem P222_7_of (H :
 EvO (zH E 132 (some v36) (some v38)) fun x0=>
 EvO (zG E 134 h (some x0)) fun x1=>
 Ev s (zU 134 h (zAC E 134)) fun x2=>
 Ev s (zu E 134 x2.2 (some x2.1) (some x1)) fun x3=>
 P222_8 s K v0 v2 v4 v5 v6 x2.1 v36 v37 v38 x3.2):P222_7 s K v0 v2 v4 v5 v6 v36 v37 v38 h:=zB H
theorem P222_8_of (H :
 EvO (zC E 134 0 (some v8)) fun x0=>
 EvO (zG E 3 h (some x0)) fun x1=>
 EvO (zE E .eql 3 x1 (.int .i64 0)) fun x2=>
 EvO (some x2) fun x3=>
 EvO (gdB x3 true (some v4)) fun x4=>
 EvO (gdB x3 true (zC E 134 1 (some v8))) fun x5=>
 EvO (gdB x3 true (zG E 3 h (some x5))) fun x6=>
 EvO (gdB x3 true (zC6 E 273 false (some x4) (some x6) h)) fun x7=>
 EvO (gdB x3 true (zAf .not x7)) fun x8=>
 EvO (z9 (some x3) (some x8) (some (.bool false))) fun x9=>
 BrK (some x9) (P222_9 s K v0 v2 v4 v5 v6 v8 v36 v37 v38 h) (P222_11 s K v0 v2 v4 v5 v6 v36 v37 v38 h)):P222_8 s K v0 v2 v4 v5 v6 v8 v36 v37 v38 h:=zB H
theorem P222_9_of (H :
 EvO (some v4) fun x0=>
 EvO (zC E 134 1 (some v8)) fun x1=>
 EvO (zG E 3 h (some x1)) fun x2=>
 Ev s (zAR E 273 (some x0) (some x2) (some (.bool true)) h) fun x3=>
 P222_10 s K v0 v2 v4 v5 v6 v8 v36 v37 v38 x3.2):P222_9 s K v0 v2 v4 v5 v6 v8 v36 v37 v38 h:=zB H
theorem P222_10_of (H :
 EvO (some v5) fun x0=>
 EvO (zC E 134 1 (some v8)) fun x1=>
 EvO (zG E 3 h (some x1)) fun x2=>
 Ev s (zh E 47 1 (some [(0,x2)]) h) fun x3=>
 Ev s (zAO E .append [47,47] (some [x0,x3.1]) x3.2) fun x4=>
 EvO (some x4.1) fun x5=>
 P222_11 s K v0 v2 v4 x5 v6 v36 v37 v38 x4.2):P222_10 s K v0 v2 v4 v5 v6 v8 v36 v37 v38 h:=zB H
theorem P222_11_of (H :
 EvO (zE E .add 3 v38 (.int .i64 1)) fun x0=>
 EvO (some x0) fun x1=>
 P222_6 s K v0 v2 v4 v5 v6 v36 v37 x1 h):P222_11 s K v0 v2 v4 v5 v6 v36 v37 v38 h:=zB H
theorem P222_12_of (H :
 EvO (some v6) fun x0=>
 EvO (zE E .add 3 x0 (.int .i64 1)) fun x1=>
 EvO (some x1) fun x2=>
 P222_3 s K v0 v2 v4 v5 x2 h):P222_12 s K v0 v2 v4 v5 v6 h:=zB H
theorem F222_ev {s:Bool} {v0 v1 v2:Value} {h:AH} {Rp:Value->AH->Prop} (H:P222_0 s (KR E [] Rp) v0 v1 v2 h) :
 Ev s (R.andThen (evC E (zV E) none (zT Tryz.f222) ⟨⟨Tryz.f222.ntmps,zw [v0,v1,v2] 0 .e⟩,h,[]⟩) (zc E Tryz.f222)) fun x=>Rp x.1 x.2:=
 zf (C:=C222 s) rfl rfl ⟨rfl,rfl,by kernel_rfl,rfl⟩ (by kernel_rfl) (by kernel_rfl) ((by kernel_rfl:z5 (C222 s) (KR E Tryz.f222.results.toList Rp) 30 (rs B222 60 (.at [])) (zj (zAw 0 [v0,v1,v2])) h=(P222_0 s (KR E [] Rp) v0 v1 v2 h)).mpr H)
theorem F222_get:E.tab.fn.get 222=some Tryz.f222:=by kernel_rfl
theorem F222_body:Tryz.f222.body=some B222:=by kernel_rfl
theorem F222_sum (l:List Value) (h:AH):E.sum 222 l h=none:=by kernel_rfl
theorem F222_some {v0 v1 v2:Value} {h:AH} {Rp:Value->AH->Prop} (H:P222_0 true (KR E [] (fun x k=>(zg x=false\/k.wm<h.next)/\Rp x ⟨k.t,k.next,cond (Nat.ble h.wm k.wm) h.wm k.wm⟩)) v0 v1 v2 h.fresh):Ev true ((zV E).call 222 [v0,v1,v2] h) fun x=>Rp x.1 x.2:=
 zBw F222_get F222_body (F222_sum _ _) (by kernel_rfl) (F222_ev (Rp:=fun x k=>(zg x=false\/k.wm<h.next)/\Rp x ⟨k.t,k.next,cond (Nat.ble h.wm k.wm) h.wm k.wm⟩) H)
noncomputable def B130a:Code:=sub B130 [0]
noncomputable def C130a (s:Bool):Cx:=⟨E,s,none,B130a,[([],[0,1,2,3])],[2,4,5,7,8],[]⟩
def P130a_0 (s:Bool) (K:KF) (v0 v1 v2 v3:Value) (h:AH):Prop:=PI (C130a s) K 0 [v0,v1,v2,v3] h
theorem P130a_0_of (H :
 Ev s (zU 178 h (some v0)) fun x0=>
 Ev s (zU 3 x0.2 (some v1)) fun x1=>
 Ev s (zU 134 x1.2 (some v3)) fun x2=>
 Ev s (zU 4 x2.2 (zAC E 4)) fun x3=>
 K .normal [v2,x0.1,x1.1,x2.1,x3.1] x3.2):P130a_0 s K v0 v1 v2 v3 h:=zB H
theorem F130a_ev {s:Bool} {v0 v1 v2 v3:Value} {T:Tm} {h:AH} {K:KF} (hT:∀ x∈[(0,v0),(1,v1),(2,v2),(3,v3)],T.get x.1=x.2) (H:P130a_0 s K v0 v1 v2 v3 h) :
 Ev s (evC E (zV E) none B130a ⟨T,h,[]⟩) (finQ (C130a s ) K):=
 enter_ok (C:=C130a s ) (by kernel_rfl) (by kernel_rfl) hT ((by kernel_rfl:z5 (C130a s ) K 30 (rs B130a 60 (.at [])) (zj [(0,v0),(1,v1),(2,v2),(3,v3)]) h=(P130a_0 s K v0 v1 v2 v3 h)).mpr H)
noncomputable def B130b:Code:=sub B130 [1,0,0]
noncomputable def C130b (s:Bool):Cx:=⟨E,s,none,B130b,[([],[2,4,5,7,8])],[4,5,7,8,14],[]⟩
def P130b_0 (s:Bool) (K:KF) (v2 v4 v5 v7 v8:Value) (h:AH):Prop:=PI (C130b s) K 0 [v2,v4,v5,v7,v8] h
theorem P130b_0_of (H :
 EvO (zC E 178 0 (some v4)) fun x0=>
 EvO (zC E 176 1 (some x0)) fun x1=>
 EvO (zG E 128 h (some x1)) fun x2=>
 EvO (some v2) fun x3=>
 Ev s (za (zV E) (some (.func (.func 178) #[] #[])) (some [x2,x3]) h) fun x4=>
 K .normal [v4,v5,v7,v8,x4.1] x4.2):P130b_0 s K v2 v4 v5 v7 v8 h:=zB H
theorem F130b_ev {s:Bool} {v2 v4 v5 v7 v8:Value} {T:Tm} {h:AH} {K:KF} (hT:∀ x∈[(2,v2),(4,v4),(5,v5),(7,v7),(8,v8)],T.get x.1=x.2) (H:P130b_0 s K v2 v4 v5 v7 v8 h) :
 Ev s (evC E (zV E) none B130b ⟨T,h,[]⟩) (finQ (C130b s ) K):=
 enter_ok (C:=C130b s ) (by kernel_rfl) (by kernel_rfl) hT ((by kernel_rfl:z5 (C130b s ) K 30 (rs B130b 60 (.at [])) (zj [(2,v2),(4,v4),(5,v5),(7,v7),(8,v8)]) h=(P130b_0 s K v2 v4 v5 v7 v8 h)).mpr H)
noncomputable def B130c:Code:=rfBody (sub B130 [1,0,1,0])
noncomputable def C130c (s:Bool) (ll:Nat):Cx:=⟨E,s,some ll,B130c,[([0,0],[4,5,7,8,9]),([0,1,0,0],[8])],[],[]⟩
def P130c_0 (s:Bool) (ll:Nat) (K:KF) (v4 v5 v7 v8 v9:Value) (h:AH):Prop:=PI (C130c s ll) K 0 [v4,v5,v7,v8,v9] h
def P130c_1 (s:Bool) (ll:Nat) (K:KF) (v8:Value) (h:AH):Prop:=PI (C130c s ll) K 1 [v8] h
theorem P130c_0_of {ll:Nat} (H :
 EvO (zC E 178 0 (some v4)) fun x0=>
 EvO (zG E 176 h (some x0)) fun x1=>
 EvO (zG E 3 h (some v5)) fun x2=>
 EvO (some v9) fun x3=>
 Ev s (za (zV E) (some (.func (.func 123) #[] #[])) (some [x1,x2,x3]) h) fun x4=>
 EvO (some x4.1) fun x5=>
 EvO (gdB x5 true (zC E 134 0 (some v7))) fun x6=>
 EvO (gdB x5 true (zG E 3 x4.2 (some x6))) fun x7=>
 EvO (gdB x5 true (zE E .eql 3 x7 (.int .i64 0))) fun x8=>
 EvO (gdB x5 true (some x8)) fun x9=>
 EvO (gdB x9 true (zC E 178 0 (some v4))) fun x10=>
 EvO (gdB x9 true (zG E 176 x4.2 (some x10))) fun x11=>
 EvO (gdB x9 true (zC E 134 1 (some v7))) fun x12=>
 EvO (gdB x9 true (zG E 3 x4.2 (some x12))) fun x13=>
 EvO (gdB x9 true (some v9)) fun x14=>
 Ev s (gdW x9 true (za (zV E) (some (.func (.func 123) #[] #[])) (some [x11,x13,x14]) x4.2) x4.2) fun x15=>
 EvO (gdB x5 true (z9 (some x9) (some x15.1) (some (.bool false)))) fun x16=>
 EvO (gdB x5 true (some x16)) fun x17=>
 EvO (gdB x17 false (zG E 178 x15.2 (some v4))) fun x18=>
 EvO (gdB x17 false (zG E 3 x15.2 (some v5))) fun x19=>
 EvO (gdB x17 false (some v9)) fun x20=>
 EvO (gdB x17 false (zG E 134 x15.2 (some v7))) fun x21=>
 Ev s (gdW x17 false (za (zV E) (some (.func (.func 128) #[] #[])) (some [x18,x19,x20,x21]) x15.2) x15.2) fun x22=>
 EvO (gdB x5 true (z9 (some x17) (some (.bool true)) (some x22.1))) fun x23=>
 EvO (z9 (some x5) (some x23) (some (.bool false))) fun x24=>
 BrK (some x24) (P130c_1 s ll K v8 x22.2) (K .normal [] x22.2)):P130c_0 s ll K v4 v5 v7 v8 v9 h:=zB H
theorem P130c_1_of {ll:Nat} (H :
 Ev s (zu E 4 h (some v8) (some (.bool true))) fun x0=>
 K .ret [] x0.2):P130c_1 s ll K v8 h:=zB H
theorem F130c_ev {s:Bool} {ll:Nat} {v4 v5 v7 v8 v9:Value} {T:Tm} {h:AH} {K:KF} (hT:∀ x∈[(4,v4),(5,v5),(7,v7),(8,v8),(9,v9)],T.get x.1=x.2) (H:P130c_0 s ll K v4 v5 v7 v8 v9 h) :
 Ev s (evC E (zV E) (some ll) B130c ⟨T,h,[]⟩) (finQ (C130c s ll ) K):=
 enter_ok (C:=C130c s ll ) (by kernel_rfl) (by kernel_rfl) hT ((by kernel_rfl:z5 (C130c s ll ) K 30 (rs B130c 60 (.at [])) (zj [(4,v4),(5,v5),(7,v7),(8,v8),(9,v9)]) h=(P130c_0 s ll K v4 v5 v7 v8 v9 h)).mpr H)
noncomputable def B130d:Code:=rfAs (sub B130 [1,0,1,0])
noncomputable def C130d (s:Bool) (ll:Nat):Cx:=⟨E,s,some ll,B130d,[([],[4,5,7,8,15])],[4,5,7,8,9],[]⟩
def P130d_0 (s:Bool) (ll:Nat) (K:KF) (v4 v5 v7 v8 v15:Value) (h:AH):Prop:=PI (C130d s ll) K 0 [v4,v5,v7,v8,v15] h
theorem P130d_0_of {ll:Nat} (H :
 EvO (some v15) fun x0=>
 K .normal [v4,v5,v7,v8,x0] h):P130d_0 s ll K v4 v5 v7 v8 v15 h:=zB H
theorem F130d_ev {s:Bool} {ll:Nat} {v4 v5 v7 v8 v15:Value} {T:Tm} {h:AH} {K:KF} (hT:∀ x∈[(4,v4),(5,v5),(7,v7),(8,v8),(15,v15)],T.get x.1=x.2) (H:P130d_0 s ll K v4 v5 v7 v8 v15 h) :
 Ev s (evC E (zV E) (some ll) B130d ⟨T,h,[]⟩) (finQ (C130d s ll ) K):=
 enter_ok (C:=C130d s ll ) (by kernel_rfl) (by kernel_rfl) hT ((by kernel_rfl:z5 (C130d s ll ) K 30 (rs B130d 60 (.at [])) (zj [(4,v4),(5,v5),(7,v7),(8,v8),(15,v15)]) h=(P130d_0 s ll K v4 v5 v7 v8 v15 h)).mpr H)
noncomputable def B130e:Code:=sub B130 [1,1,0]
def Q130e_0 (s:Bool) (K:KF) (v8:Value) (h:AH):Prop:=
 Ev s (zu E 4 h (some v8) (some (.bool false))) fun x0=>
 K .normal [v8] x0.2
end Go.Proofs
namespace Go.Proofs
open Go Go.AM
set_option maxRecDepth 100000
set_option maxHeartbeats 1000000
def entI (R:List Int):List (Value×Value):=R.map fun p=>(.int .i64 p,.bool true)
theorem mk273:mapKE E 273=some (3,4):=by kernel_rfl
theorem keyEq3 (p q:Int):zBV E 3 (.int .i64 p) (.int .i64 q)=some (decide (p=q)):=by
 simp only [zBV,u3]
 have hk:keq .i64 .i64=true:=rfl
 simp only [hk,cond_true,zC9]
 by_cases h:p=q <;> simp [h]
theorem keyOk3 (p:Int):keyOk E 3 (.int .i64 p)=true:=by
 simp only [keyOk,u3]
theorem find3:∀ {R:List Int},R.Nodup->∀ q:Int,zAd E 3 (.int .i64 q) (entI R)=some (if q∈R then some (.bool true) else none)
 | [],_,q=>by simp [entI,zAd]
 | p::R,h,q=>by
  obtain ⟨h1,h2⟩:=List.nodup_cons.1 h
  have ih:=find3 h2 q
  simp only [entI,List.map_cons,zAd] at ih ⊢
  rw [keyEq3,ih]
  by_cases e:q=p
  ·subst e
   simp [h1]
  ·simp [e]
theorem look273 {h:AH} {m ver:Nat} {R:List Int} (hm:h.get m=some (.map (entI R) ver)) (hR:R.Nodup) (q:Int) :
  zC6 E 273 false (some (.map (some m))) (some (.int .i64 q)) h=some (.bool (decide (q∈R))):=by
 simp only [zC6,lookupV,mk273,entriesOf,hm,keyOk3,cond_true,find3 hR]
 by_cases e:q∈R
 ·simp [e,foundV,okV]
 ·simp [e,foundV,z4,okV]
def insI (q:Int):List Int->List Int
 | []=>[q]
 | p::R=>if klt (.int .i64 q) (.int .i64 p) then q::p::R else p::insI q R
theorem insI_ent (q:Int):∀ R:List Int,zA0 (.int .i64 q) (.bool true) (entI R)=entI (insI q R)
 | []=>rfl
 | p::R=>by
  have:=insI_ent q R
  simp only [entI,List.map_cons,zA0,insI] at this ⊢
  split
  ·rfl
  ·rw [this];rfl
theorem insI_mem (q:Int):∀ (R:List Int) (x:Int),x∈insI q R ↔ x=q\/x∈R
 | [],x=>by simp [insI]
 | p::R,x=>by
  simp only [insI]
  split
  ·simp
  ·simp only [List.mem_cons,insI_mem q R]
   constructor
   ·rintro (h|h|h) <;> simp [h]
   ·rintro (h|h|h) <;> simp [h]
theorem insI_nodup {q:Int}:∀ {R:List Int},R.Nodup->q ∉ R->(insI q R).Nodup
 | [],_,_=>by simp [insI]
 | p::R,h,hq=>by
  obtain ⟨h1,h2⟩:=List.nodup_cons.1 h
  simp only [List.mem_cons,not_or] at hq
  simp only [insI]
  split
  ·exact List.nodup_cons.2 ⟨by simp [hq.1,hq.2],h⟩
  ·exact List.nodup_cons.2 ⟨by rw [insI_mem];simp [h1];exact fun e=>hq.1 e.symm,insI_nodup h2 hq.2⟩
theorem upd273 {h:AH} {m ver:Nat} {R:List Int} (hm:h.get m=some (.map (entI R) ver)) (hR:R.Nodup) {q:Int} (e:q ∉ R) :
  zAR E 273 (some (.map (some m))) (some (.int .i64 q)) (some (.bool true)) h=one (undef,h.upd m (some (.map (entI (insI q R)) (ver+1)))):=by
 have hfl:zg (.int .i64 q)=true:=rfl
 simp only [zAR,zBM,mk273,hm,keyOk3,hfl,Bool.and_self,cond_true,zCn,find3 hR,e,if_false,insI_ent,u1]
theorem bs47 {u:Int} {h:AH}:zh E 47 1 (some [(0,.int .i64 u)]) h=one (.slice (some ⟨h.next,0,none⟩) 1 1,h.new (.row [.int .i64 u] 3 0 false)):=by kernel_rfl
theorem elt47:Elt 47 3 1:=elt_of elt_47 und_47 zAS (by kernel_rfl)
theorem append_full {t e z:Nat} (H:Elt t e z) {h:AH} {b c:Nat} {vs us:List Value} {ty es:Nat} {ro:Bool} {ty' es':Nat} {ro':Bool} (hb:h.get b=some (.row vs ty' es' ro')) (hvs:vs.length=z)
  (hc:h.get c=some (.row us ty es ro)) (hl:us.length=z) :
  zAO E .append [t,t] (some [.slice (some ⟨b,0,none⟩) 1 1,.slice (some ⟨c,0,none⟩) 1 1]) h=one (.slice (some ⟨h.next,0,none⟩) 2 (UNK+z),h.new (.row (vs++us) e z false)):=by
 obtain ⟨ti,e1,e2,e3⟩:=H.ti
 show v2 (zA3 E [t,t] (.slice (some ⟨b,0,none⟩) 1 1) (.slice (some ⟨c,0,none⟩) 1 1) h)=_
 simp only [zA3,H.el,H.un,isIntD,cond_false,e1,zCZ,zBK,hc,e2,Nat.one_mul,zAn,zAt,zAI,List.drop_zero]
 rw [List.take_of_length_le (by omega),hl,Nat.beq_refl]
 simp only [if_true,e3,cond_true,zCC,show Nat.beq 1 0=false from rfl,cond_false,hb]
 simp only [zC1,show Nat.ble UNK 1=false from rfl,show Nat.ble (1+1) 1=false from rfl,cond_false,Nat.one_mul,zAn,zAt,zAI,List.drop_zero]
 rw [List.take_of_length_le (by omega),hvs,Nat.beq_refl]
 simp only [cond_true,zAv,show Nat.ble (1+1) 1000000=true from rfl,v2]
structure LS (lo:Nat) (k:AH) (v:Value) (L:List Int):Prop where
 ex:∃ b c,v=.slice (some ⟨b,0,none⟩) L.length c/\lo<=b/\b<k.next/\((c=1/\L.length=1/\k.get b=some (.row (ints L) 3 0 false))\/(c=UNK+1/\k.get b=some (.row (ints L) 3 1 false)))
theorem LS.mono {lo:Nat} {k k':AH} {v:Value} {L:List Int} (h:LS lo k v L) (hn:k.next<=k'.next) (hg:∀ b,lo<=b->b<k.next->zr v b->k'.get b=k.get b):LS lo k' v L:=by
 obtain ⟨b,c,e,h1,h2,h3⟩:=h
 have:=hg b h1 h2 ⟨_,_,e⟩
 exact ⟨b,c,e,h1,Nat.lt_of_lt_of_le h2 hn,by rw [this];exact h3⟩
theorem LS.at {lo:Nat} {k:AH} {v:Value} {L:List Int} (h:LS lo k v L) {i:Nat} (hi:i<L.length):EvO (zH E 47 (some v) (some (.int .i64 (i:Int)))) fun x3=>EvO (zG E 3 k (some x3)) fun x4=>x4=.int .i64 L[i]:=by
 obtain ⟨b,c,rfl,h1,h2,h3⟩:=h
 rw [ia_47 hi,zA]
 have hrow:∃ es,k.get b=some (.row (ints L) 3 es false):=by
  rcases h3 with ⟨_,_,h⟩|⟨_,h⟩ <;> exact ⟨_,h⟩
 obtain ⟨es,hrow⟩:=hrow
 rw [zD (P:=E) zAS hrow,zAa,show 0+i*1=i by omega]
 have:(ints L)[i]?=some (.int .i64 L[i]):=by simp [ints,hi]
 rw [this,zA]
theorem LS.app {lo:Nat} {k:AH} {v:Value} {L:List Int} (h:LS lo k v L) (hL:L.length<=999999) {u:Int} {c0:Nat} {ty es:Nat} {ro:Bool} (hc:k.get c0=some (.row [.int .i64 u] ty es ro)) :
  ∃ v' k1,zAO E .append [47,47] (some [v,.slice (some ⟨c0,0,none⟩) 1 1]) k=one (v',k1)/\v'=.slice (some ⟨k.next,0,none⟩) (L.length+1) (UNK+1)/\k1.next=k.next+1/\k1.get k.next=some (.row (ints (L++[u])) 3 1 false) ∧
   (∀ b,b<k.next->¬ zr v b->k1.get b=k.get b)/\(k.ok->k1.ok)/\k1.wm<=k.wm/\∀ w,w<=k.wm->w<=lo->w<=k1.wm:=by
 obtain ⟨b,c,rfl,h1,h2,h3⟩:=h
 have hap:ints L++[.int .i64 u]=ints (L++[u]):=by simp [ints]
 rcases h3 with ⟨rfl,hl1,hb⟩|⟨rfl,hb⟩
 ·refine ⟨_,k.new (.row (ints L++[.int .i64 u]) 3 1 false),by rw [hl1];exact append_full elt47 hb (by simpa [ints] using hl1) hc rfl,by rw [hl1],rfl,?_,?_,?_,Nat.le_refl _,?_⟩
  ·rw [← hap];exact zF _ _
  ·intro b' hb' _
   exact zI (by omega)
  ·intro hok;exact zB4 hok _
  ·intro w hw _
   exact hw
 ·refine ⟨_,_,zC0 elt47 (by omega) hb (by simp [ints]) (by omega) hc rfl rfl,rfl,rfl,?_,?_,?_,(zCm k b none).1,?_⟩
  ·rw [← hap];exact zF (k.upd b none) _
  ·intro b' hb' hne
   have hbb:b'≠b:=fun e=>hne ⟨_,_,by rw [e]⟩
   have:k.next≠b':=by omega
   rw [zI (by show b'≠k.next;omega),zQ hbb]
  ·intro hok;exact zB4 (ok_upd hok _ _) _
  ·intro w hw hlo
   show w<=(k.upd b none).wm
   exact zx hw (by omega)
def addS (L:List Int) (x:Int×Int):List Int:=if x.1=0/\x.2 ∉ L then L++[x.2] else L
def nextL (SS:List zAA) (L:List Int) (u:Int):List Int:=match SS[u.toNat]? with
 | some S=>S.foldl addS L
 | none=>L
def bfs (SS:List zAA) (body:Int->Bool):Nat->Nat->List Int->Bool
 | 0,_,_=>false
 | f+1,i,L=>match L[i]? with
  | none=>false
  | some u=>body u||bfs SS body f (i+1) (nextL SS L u)
theorem zCP:∀ (N:Nat) (L:List Int),L.Nodup->(∀ x∈L,0<=x/\x<(N:Int))->L.length<=N
 | 0,L,_,h=>by
  cases L with
  | nil=>simp
  | cons a l=>have:=h a (by simp);omega
 | N+1,L,hn,h=>by
  by_cases hm:(N:Int)∈L
  ·have h1:=zCP N (L.erase (N:Int)) (hn.erase _) fun x hx=>by
    have:=hn.mem_erase_iff.1 hx
    have h2:=h x this.2
    have:=this.1
    omega
   rw [List.length_erase_of_mem hm] at h1
   omega
  ·have h1:=zCP N L hn fun x hx=>by
    have h2:=h x hx
    have:x≠(N:Int):=fun e=>hm (e ▸ hx)
    omega
   omega
theorem addS_nodup {L:List Int} (h:L.Nodup) (x:Int×Int):(addS L x).Nodup:=by
 unfold addS
 split
 ·rename_i hx
  rw [List.nodup_append]
  refine ⟨h,by simp,fun a ha b hb=>?_⟩
  simp only [List.mem_singleton] at hb
  subst hb
  exact fun e=>hx.2 (e ▸ ha)
 ·exact h
def Yd (k:AH) (l w0 N:Nat) (body:Int->Bool) (Rt:AH->Prop):Prop:=∀ h,Ext k h->w0<=h.wm->∀ u:Int,0<=u->u<(N:Int)->
 ∃ h',(zV E).round l [.int .i64 u] h=some [(.bool (!body u),h')]/\h'.ok/\h'.wm<=l/\w0<=h'.wm/\(body u=false->h'.next=h.next/\∀ c,h'.get c=h.get c)/\(body u=true->Rt h')
structure St22 (k:AH) (w0 m1 N:Nat) (v5:Value) (L:List Int) (h:AH):Prop where
 ext:Ext k h
 w:w0<=h.wm
 map:∃ R ver,h.get m1=some (.map (entI R) ver)/\R.Nodup/\∀ x,x∈R ↔ x∈L
 mlt:m1<h.next
 nd:L.Nodup
 bd:∀ x∈L,0<=x/\x<(N:Int)
 ls:LS (m1+1) h v5 L
theorem St22.keep {k:AH} {w0 m1 N:Nat} {v5:Value} {L:List Int} {h h':AH} (s:St22 k w0 m1 N v5 L h) (e:Ext k h') (w:w0<=h'.wm) (hn:h.next<=h'.next) (hg:∀ c,m1<=c->c<h.next->h'.get c=h.get c):St22 k w0 m1 N v5 L h':=by
 obtain ⟨R,ver,a,b⟩:=s.map
 exact ⟨e,w,⟨R,ver,(hg m1 (Nat.le_refl _) s.mlt).trans a,b⟩,Nat.lt_of_lt_of_le s.mlt hn,s.nd,s.bd,s.ls.mono hn fun b h1 h2 _=>hg b (by omega) h2⟩
structure SSok (SS:List zAA):Prop where
 len:SS.length<=900000
 stp:∀ (i:Nat) (S:zAA),SS[i]?=some S->S.length<=900000/\∀ x∈S,0<=x.2/\x.2<(SS.length:Int)
theorem in64_of {n:Int} (h1:0<=n) (h2:n<=1000000):in64 n:=⟨by omega,by omega⟩
theorem fold_drop {S:zAA} {L:List Int} {j:Nat} (hj:j<S.length):(S.drop j).foldl addS L=(S.drop (j+1)).foldl addS (addS L S[j]):=by
 rw [List.drop_eq_getElem_cons hj]
 rfl
def Fin22 (k:AH) (w0:Nat) (Rt:AH->Prop) (b:Bool) (h:AH):Prop:=h.ok/\w0<=h.wm/\(b=false->k.next<=h.next/\∀ c,c<k.next->h.get c=k.get c)/\(b=true->Rt h)
theorem call222 {k:AH} {l bs0 bgp bg w0:Nat} {SS:List zAA} {body:Int->Bool} {Rt:AH->Prop} {t:Int} {ty1 es1 ty2 es2:Nat} {ro1 ro2:Bool} (hok:k.ok)
  (hs:k.get bs0=some (.row [.int .i64 t] ty1 es1 ro1)) (hsl:bs0<k.next) (hgp:k.get bgp=some (.row [ptr bg] ty2 es2 ro2)) (hgl:bgp<k.next)
  (hg:GV k bg SS) (hSS:SSok SS) (ht0:0<=t) (htN:t<(SS.length:Int)) (hw:w0<=k.wm) (hw':w0<=k.next) (hl:l<k.next) (hRt:∀ h h':AH,(∀ c,h'.get c=h.get c)->h'.next=h.next->Rt h->Rt h')
  (hY:Yd k l w0 SS.length body Rt) :
  Ev true ((zV E).call 222 [.func (.yield l) #[] #[],ptr bs0,ptr bgp] k) fun x=>x.1=.tuple #[]/\Fin22 k w0 Rt (bfs SS body SS.length 0 [t]) x.2:=by
 refine F222_some (Rp:=fun x k'=>x=.tuple #[]/\Fin22 k w0 Rt (bfs SS body SS.length 0 [t]) k') (P222_0_of ?_)
 obtain ⟨loc,bs,cells,G⟩:=hg.ex
 have hs0:k.fresh.get bs0=_:=hs
 have e0:=(Ext.refl hok).fresh
 simp only [zL]
 have e1:=e0.new (.map [] 0)
 have m1g:=zF k.fresh (.map [] 0)
 have hs1:(k.fresh.new (.map [] 0)).get bs0=_:=(e1.get bs0 hsl).trans hs
 have ls1:=zD (P:=E) zAS (o:=0) hs1
 simp only [lnth] at ls1
 have hu:=upd273 (h:=k.fresh.new (.map [] 0)) (R:=[]) (q:=t) m1g List.nodup_nil (by simp)
 simp only [ls1,zA,zb] at hu ⊢
 rw [hu,zL]
 refine P222_1_of ?_
 have e2:=e1.upd (b:=k.next) (Nat.le_refl _) (some (.map (entI (insI t [])) (0+1)))
 have m2:((k.fresh.new (.map [] 0)).upd k.next (some (.map (entI (insI t [])) (0+1)))).get k.next=_:=zR _ _ _
 have w2:w0<=((k.fresh.new (.map [] 0)).upd k.next (some (.map (entI (insI t [])) (0+1)))).wm:=zx (by rw [wm_new,zAx];omega) hw'
 have n2:((k.fresh.new (.map [] 0)).upd k.next (some (.map (entI (insI t [])) (0+1)))).next=k.next+1:=rfl
 generalize ((k.fresh.new (.map [] 0)).upd k.next (some (.map (entI (insI t [])) (0+1))))=k2 at e2 m2 w2 n2
 have ls2:=zD (P:=E) zAS (o:=0) ((e2.get bs0 hsl).trans hs)
 simp only [lnth] at ls2
 simp only [ls2,zA,bs47,zL]
 refine P222_2_of ?_
 simp only [zA]
 have st0:St22 k w0 k.next SS.length (.slice (some ⟨k2.next,0,none⟩) 1 1) [t] (k2.new (.row [.int .i64 t] 3 0 false)):=by
  refine ⟨e2.new _,w2,⟨[t],0+1,(zI (by omega)).trans m2,by simp,by simp⟩,by simp;omega,by simp,by simpa using ⟨ht0,htN⟩,⟨k2.next,1,rfl,by omega,by simp,.inl ⟨rfl,rfl,zF _ _⟩⟩⟩
 generalize (k2.new (.row [.int .i64 t] 3 0 false))=k3 at st0
 have loop:∀ (f i:Nat) (L:List Int) (v5:Value) (h:AH),f+i=SS.length->St22 k w0 k.next SS.length v5 L h->0<L.length->i<=L.length->(i=0\/h.wm<=l)->bfs SS body SS.length 0 [t]=bfs SS body f i L->
   P222_3 true (KR E [] (fun x k'=>(zg x=false\/k'.wm<k.next)/\(x=.tuple #[]/\Fin22 k w0 Rt (bfs SS body SS.length 0 [t]) ⟨k'.t,k'.next,cond (Nat.ble k.wm k'.wm) k.wm k'.wm⟩))) (.func (.yield l) #[] #[]) (ptr bgp) (.map (some k.next)) v5 (.int .i64 (i:Int)) h:=by
  intro f
  induction f with
  | zero=>
   intro i L v5 h hf st h0 hi hwl hb
   have hlen:=zCP _ _ st.nd st.bd
   refine P222_3_of ?_
   obtain ⟨b,c,hv,h1,h2,h3⟩:=st.ls
   subst hv
   have:¬ ((i:Int)<(L.length:Int)):=by omega
   simp only [zA,len222_3_2,zd,this,decide_false,zAE,kR_0,ne_normal,true_and]
   have hwl':h.wm<=l:=hwl.resolve_left (by omega)
   refine ⟨.inr (by omega),?_⟩
   rw [hb]
   refine ⟨?_,?_,fun _=>⟨st.ext.next,fun c hc=>st.ext.get c hc⟩,fun h=>by cases h⟩
   ·have:=st.ext.ok
    show cond (Nat.ble k.wm h.wm) k.wm h.wm<=h.next+UNK
    unfold AH.ok at this
    cases hc:Nat.ble k.wm h.wm with
    | true=>have:=ble_true.1 hc;simp only [cond_true];omega
    | false=>simpa using this
   ·show w0<=cond (Nat.ble k.wm h.wm) k.wm h.wm
    cases Nat.ble k.wm h.wm
    ·exact st.w
    ·exact hw
  | succ f ih=>
   intro i L v5 h hf st h0 hi hwl hb
   have hlen:=zCP _ _ st.nd st.bd
   refine P222_3_of ?_
   obtain ⟨b,c,hv,h1,h2,h3⟩:=id st.ls
   have hat:=fun (h':AH) (s':LS (k.next+1) h' v5 L) (hi:i<L.length)=>s'.at hi
   by_cases hiL:i<L.length
   ·have hlt:((i:Int)<(L.length:Int)):=by omega
    have hq:P222_4 true (KR E [] (fun x k'=>(zg x=false\/k'.wm<k.next)/\(x=.tuple #[]/\Fin22 k w0 Rt (bfs SS body SS.length 0 [t]) ⟨k'.t,k'.next,cond (Nat.ble k.wm k'.wm) k.wm k'.wm⟩))) (.func (.yield l) #[] #[]) (ptr bgp) (.map (some k.next)) v5 (.int .i64 (i:Int)) h:=by
     refine P222_4_of ?_
     obtain ⟨x3,e3,x4,e4,rfl⟩:=hat h st.ls hiL
     obtain ⟨u0,u1⟩:=st.bd L[i] (List.getElem_mem hiL)
     obtain ⟨h',y1,y2,y3,y4,y5,y6⟩:=hY h st.ext st.w L[i] u0 u1
     simp only [zA,e3,e4,wCall_yield,List.nil_append,y1,zO,zz,Bool.not_not,zBD]
     have hbf:bfs SS body (f+1) i L=(body L[i]||bfs SS body f (i+1) (nextL SS L L[i])):=by
      simp only [bfs,List.getElem?_eq_getElem hiL]
     refine ⟨fun hbt=>?_,fun hbf'=>?_⟩
     ·simp only [kR_0,zX,true_and]
      refine ⟨.inr (by omega),?_⟩
      rw [hb,hbf,hbt]
      refine ⟨?_,?_,(fun h=>by cases h),fun _=>hRt h' _ (fun _=>rfl) rfl (y6 hbt)⟩
      ·unfold AH.ok at y2
       show cond (Nat.ble k.wm h'.wm) k.wm h'.wm<=h'.next+UNK
       cases hc:Nat.ble k.wm h'.wm with
       | true=>have:=ble_true.1 hc;simp only [cond_true];omega
       | false=>simpa using y2
      ·show w0<=cond (Nat.ble k.wm h'.wm) k.wm h'.wm
       cases Nat.ble k.wm h'.wm
       ·exact y4
       ·exact hw
     ·obtain ⟨z1,z2⟩:=y5 hbf'
      have st1:St22 k w0 k.next SS.length v5 L h':=st.keep ⟨y2,by rw [z1];exact st.ext.next,fun c hc=>(z2 c).trans (st.ext.get c hc)⟩ y4 (by omega) (fun c _ _=>z2 c)
      refine P222_5_of ?_
      have hgp':=(st1.ext.get bgp hgl).trans hgp
      obtain ⟨x3,e3,x4,e4,rfl⟩:=hat h' st1.ls hiL
      obtain ⟨s,hs'⟩:=Int.eq_ofNat_of_zero_le u0
      have hsN:s<SS.length:=by omega
      have hsc:s<cells.length:=by rw [G.len];exact hsN
      have hcs:cells[s]?=some cells[s]:=List.getElem?_eq_getElem hsc
      have hSs:SS[s]?=some SS[s]:=List.getElem?_eq_getElem hsN
      have q0:=zD (P:=E) zCo (o:=0) hgp'
      have q1:=zD (P:=E) ta_129 (o:=0) ((st1.ext.get bg G.ltg).trans G.g)
      have q3:=zD (P:=E) ta_132 (o:=0+s*1) ((st1.ext.get bs G.lts).trans G.s)
      simp only [lnth] at q0 q1
      rw [zAa,show 0+s*1=s by omega,hcs] at q3
      have ia:=ia_129 (b:=bs) (o:=0) (c:=cells.length) hsc
      rw [show 0+s*1=s by omega] at ia
      have hcell:=G.cell s _ _ hcs hSs
      obtain ⟨ca,cc,hcc⟩:=(cell_arr hcell).slice
      rw [List.length_map] at hcc
      have harr:=cell_arr hcell
      rw [hcc] at q3 harr
      rw [hs'] at e4
      obtain ⟨hS1,hS2⟩:=hSS.stp s _ hSs
      simp only [q0,zA,zBH,fa_131_0,q1,e3,e4,Nat.add_zero,ia,q3,len222_5_10]
      have hnx:nextL SS L L[i]=(SS[s]).foldl addS L:=by
       unfold nextL
       rw [hs']
       simp [hSs]
      have steps:∀ (r j:Nat) (L':List Int) (v5':Value) (g:AH),r+j=(SS[s]).length->St22 k w0 k.next SS.length v5' L' g->L.length<=L'.length->g.wm<=l->((SS[s]).drop j).foldl addS L'=(SS[s]).foldl addS L->
        P222_6 true (KR E [] (fun x k'=>(zg x=false\/k'.wm<k.next)/\(x=.tuple #[]/\Fin22 k w0 Rt (bfs SS body SS.length 0 [t]) ⟨k'.t,k'.next,cond (Nat.ble k.wm k'.wm) k.wm k'.wm⟩))) (.func (.yield l) #[] #[]) (ptr bgp) (.map (some k.next)) v5' (.int .i64 (i:Int)) (.slice ca (SS[s]).length cc) (.int .i64 ((SS[s]).length:Int)) (.int .i64 (j:Int)) g:=by
       intro r
       induction r with
       | zero=>
        intro j L' v5' g hr sg hLL hgw hfold
        refine P222_6_of ?_
        have:¬ ((j:Int)<((SS[s]).length:Int)):=by omega
        simp only [zd,zA,this,decide_false,zAE]
        refine P222_12_of ?_
        have hi64:in64 ((i:Int)+1):=in64_of (by omega) (by have:=hSS.len;omega)
        simp only [zA,zAJ _ hi64]
        have:=ih (i+1) L' v5' g (by omega) sg (by omega) (by omega) (.inr hgw) (by
         rw [hb,hbf,hbf',hnx,← hfold,List.drop_eq_nil_of_le (by omega)]
         rfl)
        simpa using this
       | succ r ihr=>
        intro j L' v5' g hr sg hLL hgw hfold
        have hjS:j<(SS[s]).length:=by omega
        refine P222_6_of ?_
        have:((j:Int)<((SS[s]).length:Int)):=by omega
        simp only [zd,zA,this,decide_true,zAK]
        refine P222_7_of ?_
        have hat':((SS[s]).map zJ)[j]?=some (zJ (SS[s])[j]):=by simp [hjS]
        obtain ⟨b',o',c',vs',ty',es',ro',hv',hb',hlt',hle',hz',hzl'⟩:=harr.load hat'
        simp only [Value.slice.injEq] at hv'
        obtain ⟨hv1,_,_⟩:=hv'
        subst hv1
        have gb':=(sg.ext.get b' hlt').trans hb'
        obtain ⟨xt0,xtN⟩:=hS2 (SS[s])[j] (List.getElem_mem hjS)
        have hdr:=fold_drop (L:=L') hjS
        rw [hdr] at hfold
        generalize (SS[s])[j]=x at hz' xt0 xtN hfold
        simp only [ia_132 hjS,zA,zW ta_134 gb' hle',hz',z_134,ze,zL,zS,box134]
        refine P222_8_of ?_
        have e5:=(sg.ext.new (.row [.int .i64 0,.int .i64 0] 134 0 false)).upd (b:=g.next) sg.ext.next (some (.row (zJ x) 134 0 false))
        have x5:((g.new (.row [.int .i64 0,.int .i64 0] 134 0 false)).upd g.next (some (.row (zJ x) 134 0 false))).get g.next=some (.row (zJ x) 134 0 false):=zR _ _ _
        have w5:w0<=((g.new (.row [.int .i64 0,.int .i64 0] 134 0 false)).upd g.next (some (.row (zJ x) 134 0 false))).wm:=zx sg.w (by have:=sg.ext.next;omega)
        have v5w:((g.new (.row [.int .i64 0,.int .i64 0] 134 0 false)).upd g.next (some (.row (zJ x) 134 0 false))).wm<=l:=Nat.le_trans (zCm _ _ _).1 hgw
        have n5:((g.new (.row [.int .i64 0,.int .i64 0] 134 0 false)).upd g.next (some (.row (zJ x) 134 0 false))).next=g.next+1:=rfl
        have s5:St22 k w0 k.next SS.length v5' L' ((g.new (.row [.int .i64 0,.int .i64 0] 134 0 false)).upd g.next (some (.row (zJ x) 134 0 false))):=sg.keep e5 w5 (by omega) (fun c _ hc=>(zQ (by omega)).trans (zI (by omega)))
        generalize ((g.new (.row [.int .i64 0,.int .i64 0] 134 0 false)).upd g.next (some (.row (zJ x) 134 0 false)))=g5 at e5 x5 w5 v5w n5 s5
        have y0:=zD (P:=E) zAS (o:=0) x5
        have y1:=zD (P:=E) zAS (o:=1) x5
        simp only [lnth,zJ] at y0 y1
        obtain ⟨R,ver,mg,mnd,mmem⟩:=s5.map
        have hdec:decide (x.2∈R)=decide (x.2∈L'):=decide_eq_decide.2 (mmem x.2)
        simp only [fa_134_0,zB9,Nat.add_zero,Nat.zero_add,y0,y1,zA,zAU,zM,look273 mg mnd,hdec]
        have hj64:in64 ((j:Int)+1):=in64_of (by omega) (by omega)
        have skip:∀ g' v6 L'',St22 k w0 k.next SS.length v6 L'' g'->L.length<=L''.length->g'.wm<=l->((SS[s]).drop (j+1)).foldl addS L''=(SS[s]).foldl addS L->
          P222_11 true (KR E [] (fun x k'=>(zg x=false\/k'.wm<k.next)/\(x=.tuple #[]/\Fin22 k w0 Rt (bfs SS body SS.length 0 [t]) ⟨k'.t,k'.next,cond (Nat.ble k.wm k'.wm) k.wm k'.wm⟩))) (.func (.yield l) #[] #[]) (ptr bgp) (.map (some k.next)) v6 (.int .i64 (i:Int)) (.slice (some ⟨b',o',none⟩) (SS[s]).length cc) (.int .i64 ((SS[s]).length:Int)) (.int .i64 (j:Int)) g':=by
         intro g' v6 L'' s6 hl6 hw6 hf6
         refine P222_11_of ?_
         simp only [zAJ _ hj64,zA]
         have:=ihr (j+1) L'' v6 g' (by omega) s6 hl6 hw6 hf6
         simpa using this
        by_cases hx0:x.1=0
        ·by_cases hxm:x.2∈L'
         ·have:addS L' x=L':=by unfold addS;simp [hxm]
          rw [this] at hfold
          simp only [hx0,hxm,decide_true,beq_self_eq_true,cond_true,zA,zB9,Nat.zero_add,y1,look273 mg mnd,hdec,zz,zK,Bool.not_true,zAE]
          exact skip g5 v5' L' s5 hLL v5w hfold
         ·have hadd:addS L' x=L'++[x.2]:=by unfold addS;simp [hxm,hx0]
          rw [hadd] at hfold
          simp only [hx0,hxm,decide_true,decide_false,beq_self_eq_true,cond_true,zA,zB9,Nat.zero_add,y1,look273 mg mnd,hdec,zz,zK,Bool.not_false,zAK]
          refine P222_9_of ?_
          have hxR:x.2 ∉ R:=fun h=>hxm ((mmem _).1 h)
          simp only [zB9,Nat.zero_add,y1,zA,upd273 mg mnd hxR,zL]
          refine P222_10_of ?_
          have e6:=s5.ext.upd (b:=k.next) (Nat.le_refl _) (some (.map (entI (insI x.2 R)) (ver+1)))
          have m6:(g5.upd k.next (some (.map (entI (insI x.2 R)) (ver+1)))).get k.next=_:=zR _ _ _
          have x6:(g5.upd k.next (some (.map (entI (insI x.2 R)) (ver+1)))).get g.next=_:=(zQ (by have:=sg.mlt;omega)).trans x5
          have w6:w0<=(g5.upd k.next (some (.map (entI (insI x.2 R)) (ver+1)))).wm:=zx s5.w hw'
          have v6w:(g5.upd k.next (some (.map (entI (insI x.2 R)) (ver+1)))).wm<=l:=Nat.le_trans (zCm _ _ _).1 v5w
          have n6:(g5.upd k.next (some (.map (entI (insI x.2 R)) (ver+1)))).next=g5.next:=rfl
          have l6:LS (k.next+1) (g5.upd k.next (some (.map (entI (insI x.2 R)) (ver+1)))) v5' L':=s5.ls.mono (Nat.le_of_eq n6.symm) (fun b h1 h2 _=>zQ (by omega))
          generalize (g5.upd k.next (some (.map (entI (insI x.2 R)) (ver+1))))=g6 at e6 m6 x6 w6 v6w n6 l6
          have y6:=zD (P:=E) zAS (o:=1) x6
          simp only [lnth,zJ] at y6
          have l7:LS (k.next+1) (g6.new (.row [.int .i64 x.2] 3 0 false)) v5' L':=l6.mono (by simp) (fun b h1 h2 _=>zI (by omega))
          have e7:=e6.new (.row [.int .i64 x.2] 3 0 false)
          have r7:=zF g6 (.row [.int .i64 x.2] 3 0 false)
          have m7:(g6.new (.row [.int .i64 x.2] 3 0 false)).get k.next=_:=(zI (by have:=sg.mlt;omega)).trans m6
          have hL9:L'.length<=999999:=by have:=zCP _ _ s5.nd s5.bd;have:=hSS.len;omega
          obtain ⟨v8,g8,a1,a2,a3,a4,a5,a6,a7,a8⟩:=l7.app hL9 r7
          simp only [zB9,Nat.zero_add,y6,zA,bs47,zL,a1]
          have n7:(g6.new (.row [.int .i64 x.2] 3 0 false)).next=g6.next+1:=rfl
          obtain ⟨bl,cl,hvl,hl1,hl2,_⟩:=l7.ex
          have hkn:k.next<g.next:=sg.mlt
          have hnb:∀ c,c<=k.next->¬ zr v5' c:=by
           rintro c hc ⟨n',c',he⟩
           rw [hvl] at he
           simp only [Value.slice.injEq,Option.some.injEq,Addr.mk.injEq] at he
           omega
          have hge:∀ c,c<=k.next->g8.get c=(g6.new (.row [.int .i64 x.2] 3 0 false)).get c:=fun c hc=>a5 c (by omega) (hnb c hc)
          have s8:St22 k w0 k.next SS.length v8 (L'++[x.2]) g8:=by
           refine ⟨⟨a6 e7.ok,by omega,fun c hc=>(hge c (by omega)).trans (e7.get c hc)⟩,a8 w0 (by rw [wm_new];exact w6) (by omega),⟨insI x.2 R,ver+1,(hge _ (Nat.le_refl _)).trans m7,insI_nodup mnd hxR,fun y=>?_⟩,by omega,?_,?_,?_⟩
           ·rw [insI_mem,mmem]
            simp only [List.mem_append,List.mem_singleton]
            exact Or.comm
           ·rw [← hadd];exact addS_nodup s5.nd x
           ·intro y hy
            rcases List.mem_append.1 hy with hy|hy
            ·exact s5.bd y hy
            ·rw [List.mem_singleton.1 hy];exact ⟨xt0,xtN⟩
           ·refine ⟨_,UNK+1,?_,?_,?_,.inr ⟨rfl,a4⟩⟩
            ·rw [a2];simp
            ·omega
            ·omega
          exact skip g8 v8 _ s8 (by simp;omega) (Nat.le_trans a7 (by rw [wm_new];exact v6w)) hfold
        ·have:addS L' x=L':=by unfold addS;simp [hx0]
         rw [this] at hfold
         simp only [hx0,decide_false,show (false==true)=false from rfl,cond_false,zA,zK,zAE]
         exact skip g5 v5' L' s5 hLL v5w hfold
      exact steps (SS[s]).length 0 L v5 h' (by omega) st1 (Nat.le_refl _) y3 (by simp)
    subst hv
    simp only [zA,len222_3_2,zd,hlt,decide_true,zAK]
    exact hq
   ·subst hv
    have:¬ ((i:Int)<(L.length:Int)):=by omega
    simp only [zA,len222_3_2,zd,this,decide_false,zAE,kR_0,ne_normal,true_and]
    have hwl':h.wm<=l:=hwl.resolve_left (by omega)
    refine ⟨.inr (by omega),?_⟩
    rw [hb]
    have:bfs SS body (f+1) i L=false:=by
     simp only [bfs,List.getElem?_eq_none (by omega:L.length<=i)]
    rw [this]
    refine ⟨?_,?_,fun _=>⟨st.ext.next,fun c hc=>st.ext.get c hc⟩,fun h=>by cases h⟩
    ·have:=st.ext.ok
     show cond (Nat.ble k.wm h.wm) k.wm h.wm<=h.next+UNK
     unfold AH.ok at this
     cases hc:Nat.ble k.wm h.wm with
     | true=>have:=ble_true.1 hc;simp only [cond_true];omega
     | false=>simpa using this
    ·show w0<=cond (Nat.ble k.wm h.wm) k.wm h.wm
     cases Nat.ble k.wm h.wm
     ·exact st.w
     ·exact hw
 exact loop SS.length 0 [t] _ _ (by omega) st0 (by simp) (by simp) (.inl rfl) rfl
noncomputable def C130f (s:Bool) (d:Nat):Cx:=⟨E,s,none,B130e,[([],[8])],[8],[d]⟩
theorem F130f_ev {s:Bool} {d:Nat} {v8:Value} {T:Tm} {h:AH} {K:KF} (hT:∀ x∈[(8,v8)],T.get x.1=x.2) (H:Q130e_0 s K v8 h) :
  Ev s (evC E (zV E) none B130e ⟨T,h,[d]⟩) (finQ (C130f s d) K):=
 enter_ok (C:=C130f s d) (by kernel_rfl) (by kernel_rfl) hT ((by kernel_rfl:z5 (C130f s d) K 30 (rs B130e 60 (.at [])) (zj [(8,v8)]) h=(SP (C130f s d) K [] [(8,v8)] h)).mpr
  (step_ok (p:=[]) (by kernel_rfl) rfl ((by kernel_rfl:stepK (C130f s d) K [] (zj [(8,v8)]) h=Q130e_0 s K v8 h).mpr H)))
theorem B130_eq:B130=.seq B130a (.seq (.seq B130b (.block 0 (.rangeFunc (.tmp 14) #[15] B130d B130c))) (.seq B130e .ret)):=by kernel_rfl
def zBk (R:Rel) (SS:List zAA) (u:Int) (x:Int×Int):Bool:=match SS[u.toNat]? with
 | some S=>strongB R S x
 | none=>false
def zDK (R:Rel) (SS:List zAA) (s:Int) (x:Int×Int) (u:Int):Bool:=
 decide ((s,u)∈R)&&((decide (x.1=0)&&decide ((x.2,u)∈R))||zBk R SS u x)
def branchB (R:Rel) (SS:List zAA) (s t:Int) (x:Int×Int):Bool:=bfs SS (zDK R SS s x) SS.length 0 [t]
theorem call178 {k:AH} {bg:Nat} {t:Int} :
  Ev true ((zV E).call 178 [ptr bg,.int .i64 t] k) fun x=>x.1=.func (.func 222) #[] #[ptr (k.next+1),ptr k.next]/\x.2.next=k.next+2/\x.2.ok/\(∀ w,w<=k.wm->w<=k.next->w<=x.2.wm) ∧
   x.2.get k.next=some (.row [ptr bg] 128 0 false)/\x.2.get (k.next+1)=some (.row [.int .i64 t] 3 0 false)/\∀ c,c<k.next->x.2.get c=k.get c:=by
 refine F178_some (Rp:=fun v k'=>v=.func (.func 222) #[] #[ptr (k.next+1),ptr k.next]/\k'.next=k.next+2/\k'.ok/\(∀ w,w<=k.wm->w<=k.next->w<=k'.wm) ∧
   k'.get k.next=some (.row [ptr bg] 128 0 false)/\k'.get (k.next+1)=some (.row [.int .i64 t] 3 0 false)/\∀ c,c<k.next->k'.get c=k.get c) (P178_0_of ?_)
 simp only [ze,zL,zA,zi]
 refine P178_1_of ?_
 have g0:((k.fresh.new (.row [ptr bg] 128 0 false)).new (.row [.int .i64 t] 3 0 false)).get k.next=some (.row [ptr bg] 128 0 false):=(zI (by simp)).trans (zF k.fresh _)
 have g1:((k.fresh.new (.row [ptr bg] 128 0 false)).new (.row [.int .i64 t] 3 0 false)).get (k.next+1)=some (.row [.int .i64 t] 3 0 false):=zF (k.fresh.new _) _
 have g2:∀ c,c<k.next->((k.fresh.new (.row [ptr bg] 128 0 false)).new (.row [.int .i64 t] 3 0 false)).get c=k.get c:=fun c hc=>(zI (by simp;omega)).trans ((zI (by simp;omega)).trans rfl)
 have n1:((k.fresh.new (.row [ptr bg] 128 0 false)).new (.row [.int .i64 t] 3 0 false)).next=k.next+2:=rfl
 have w1:((k.fresh.new (.row [ptr bg] 128 0 false)).new (.row [.int .i64 t] 3 0 false)).wm=k.next+UNK:=rfl
 simp only [zb,AH.next_new]
 generalize ((k.fresh.new (.row [ptr bg] 128 0 false)).new (.row [.int .i64 t] 3 0 false))=k1 at g0 g1 g2 n1 w1
 simp only [zAp,zA,zAN,zX,true_and]
 refine ⟨.inl rfl,n1,?_,fun w h1 h2=>?_,g0,g1,g2⟩
 ·show cond (Nat.ble k.wm k1.wm) k.wm k1.wm<=k1.next+UNK
  cases hc:Nat.ble k.wm k1.wm with
  | true=>have:=ble_true.1 hc;simp only [cond_true];omega
  | false=>simp only [cond_false];omega
 ·show w<=cond (Nat.ble k.wm k1.wm) k.wm k1.wm
  cases Nat.ble k.wm k1.wm
  ·simp only [cond_false];omega
  ·exact h1
theorem ev_inv {α:Type} {x:R α} {Q:α->Prop} (h:Ev true x Q):∃ a,x=some [a]/\Q a:=by
 obtain ⟨l,e,_,h1,h2⟩:=h
 match l,h1 rfl with
 | [a],_=>exact ⟨a,e,h2 a (by simp)⟩
def KB130 (R:Rel) (SS:List zAA) (s:Int) (x:Int×Int) (un:Int) (h:AH) (b8:Nat):KF:=fun ex _ g=>(zDK R SS s x un=false/\ex=.normal/\g=h)\/(zDK R SS s x un=true/\ex=.ret/\g=h.upd b8 (some (.row [.bool true] 4 0 false)))
theorem body130 {h:AH} {l b4 b5 b7 b8 m ver bg un:Nat} {gx:Value} {R:Rel} {SS:List zAA} {S:zAA} {s:Int} {x:Int×Int} {v:Value} {T:Tm} (hok:h.ok)
  (h4:h.get b4=some (.row (zAi gx (ptr bg) m) 178 0 false)) (h5:h.get b5=some (.row [.int .i64 s] 3 0 false)) (h7:h.get b7=some (.row (zJ x) 134 0 false)) (h8:h.get b8=some (.row [v] 4 0 false))
  (hm:h.get m=some (.map (ent R) ver)) (hml:m<h.next) (hR:R.Nodup) (hg:GV h bg SS) (hS:SS[un]?=some S) (hSl:S.length<=1000000)
  (hT:∀ y∈[(4,ptr b4),(5,ptr b5),(7,ptr b7),(8,ptr b8),(9,Value.int .i64 (un:Int))],T.get y.1=y.2) :
  Ev true (evC E (zV E) (some l) B130c ⟨T,h,[]⟩) (finQ (C130c true l) (KB130 R SS s x un h b8)):=by
 refine F130c_ev hT (P130c_0_of ?_)
 have la:=zW (P:=E) ta_176 (o:=0) h4 (by simp [zAi])
 rw [List.drop_zero,List.take_of_length_le (by simp [zAi])] at la
 have lf:=zW (P:=E) ta_178 (o:=0) h4 (by simp [zAi])
 rw [List.drop_zero,List.take_of_length_le (by simp [zAi])] at lf
 have l5:=zD (P:=E) zAS (o:=0) h5
 have x0:=zD (P:=E) zAS (o:=0) h7
 have x1:=zD (P:=E) zAS (o:=1) h7
 have lx:=zW (P:=E) ta_134 (o:=0) h7 (by simp [zJ])
 rw [List.drop_zero,List.take_of_length_le (by simp [zJ])] at lx
 simp only [lnth,zJ] at l5 x0 x1
 have hstrong:zBk R SS (un:Int) x=strongB R S x:=by
  unfold zBk
  simp [hS]
 have fin:∀ b:Bool,zDK R SS s x un=b->BrK (some (.bool b)) (P130c_1 true l (KB130 R SS s x un h b8) (ptr b8) h) (KB130 R SS s x un h b8 .normal [] h):=by
  intro b hb
  rw [zBD]
  refine ⟨fun e=>?_,fun e=>.inl ⟨by rw [hb,e],rfl,rfl⟩⟩
  refine P130c_1_of ?_
  have hst:=z0 (P:=E) ts_4 (o:=0) (x:=.bool true) (cs:=[.bool true]) h8 rfl rfl (by simp) (by simp [zp])
  simp only [hst,zL]
  exact .inr ⟨by rw [hb,e],rfl,rfl⟩
 simp only [zDC,Nat.add_zero,la,l5,zA,zZ,call123 hok hm hml hR,zO]
 by_cases e1:(s,(un:Int))∈R
 ·simp only [e1,decide_true,zM,beq_self_eq_true,cond_true,fa_134_0,zB9,Nat.add_zero,Nat.zero_add,x0,x1,zA,zAU]
  by_cases e2:x.1=0
  ·simp only [e2,decide_true,zM,zY,beq_self_eq_true,cond_true,zDC,fa_134_0,zB9,Nat.add_zero,Nat.zero_add,la,x1,zA,zZ,call123 hok hm hml hR,zO,zK]
   by_cases e3:(x.2,(un:Int))∈R
   ·simp only [e3,decide_true,zM,zY,show (true==false)=false from rfl,cond_false,zA,zL,zK,cond_true]
    exact fin true (by simp [zDK,e1,e2,e3])
   ·simp only [e3,decide_false,zM,zY,beq_self_eq_true,cond_true,lf,l5,lx,zA,zZ,call128 hok hm hml hR hg hS hSl,zO,zK,cond_false]
    exact fin _ (by simp [zDK,e1,e2,e3,hstrong])
  ·simp only [e2,decide_false,zM,zY,show (false==true)=false from rfl,beq_self_eq_true,cond_false,cond_true,zA,zL,zK,lf,l5,lx,zZ,call128 hok hm hml hR hg hS hSl,zO]
   exact fin _ (by simp [zDK,e1,e2,hstrong])
 ·simp only [e1,decide_false,zM,zY,zn,zq,show (false==true)=false from rfl,cond_false,zA,zL,zK]
  exact fin false (by simp [zDK,e1])
noncomputable def zA6 (st:LoopState) (pend:Option Code) (T:Tm) (d:Nat):AObj:=.loop st pend T [15] B130d B130c d
theorem zBF {h:AH} {a l:Nat} {vs:List Value} {ty es:Nat} {ro:Bool} {st:LoopState} {pend:Option Code} {T:Tm} {d:Nat} (h1:h.get a=some (.row vs ty es ro)) (h2:h.get l=some (zA6 st pend T d)):a≠l:=by
 rintro rfl
 rw [h1] at h2
 simp [zA6] at h2
theorem map_ne_loop {h:AH} {a l:Nat} {es:List (Value×Value)} {ver:Nat} {st:LoopState} {pend:Option Code} {T:Tm} {d:Nat} (h1:h.get a=some (.map es ver)) (h2:h.get l=some (zA6 st pend T d)):a≠l:=by
 rintro rfl
 rw [h1] at h2
 simp [zA6] at h2
theorem GV.upd_loop {h:AH} {bg l:Nat} {SS:List zAA} {st:LoopState} {pend:Option Code} {T:Tm} {d:Nat} (g:GV h bg SS) (hl:h.get l=some (zA6 st pend T d)) (o:Option AObj):GV (h.upd l o) bg SS:=by
 obtain ⟨loc,bs,cells,G⟩:=g.ex
 refine ⟨loc,bs,cells,(zQ (zBF G.g hl)).trans G.g,(zQ (zBF G.s hl)).trans G.s,G.len,G.ne,G.ltg,G.lts,G.locg,G.locs,fun i c S hc hS=>?_,G.blk,G.dis⟩
 rcases G.cell i c S hc hS with a|⟨b,a1,a2,a3⟩
 ·exact .inl a
 ·exact .inr ⟨b,a1,(zQ (zBF a2 hl)).trans a2,a3⟩
theorem round130 {h:AH} {l d b4 b5 b7 b8 m ver bg un:Nat} {gx:Value} {R:Rel} {SS:List zAA} {S:zAA} {s:Int} {x:Int×Int} {v:Value} {T:Tm} (hok:h.ok)
  (hl:h.get l=some (zA6 .ready none T d))
  (h4:h.get b4=some (.row (zAi gx (ptr bg) m) 178 0 false)) (h5:h.get b5=some (.row [.int .i64 s] 3 0 false)) (h7:h.get b7=some (.row (zJ x) 134 0 false)) (h8:h.get b8=some (.row [v] 4 0 false))
  (hm:h.get m=some (.map (ent R) ver)) (hml:m<h.next) (hR:R.Nodup) (hg:GV h bg SS) (hS:SS[un]?=some S) (hSl:S.length<=1000000)
  (hT:∀ y∈[(4,ptr b4),(5,ptr b5),(7,ptr b7),(8,ptr b8)],T.get y.1=y.2) :
  ∃ h',(zV E).round l [.int .i64 (un:Int)] h=some [(.bool (!zDK R SS s x un),h')]/\h'.ok/\h'.wm<=l/\(∀ w,w<=h.wm->w<=l->w<=b8->w<=h'.wm)/\h'.next=h.next/\(zDK R SS s x un=false->∀ c,h'.get c=h.get c) ∧
   (zDK R SS s x un=true->h'.get l=some (zA6 .done (some .ret) T d)/\h'.get b8=some (.row [.bool true] 4 0 false)/\∀ c,c≠l->c≠b8->h'.get c=h.get c):=by
 have n4:=zBF h4 hl
 have n5:=zBF h5 hl
 have n7:=zBF h7 hl
 have n8:=zBF h8 hl
 have nm:=map_ne_loop hm hl
 let hb:=h.upd l (some (zA6 .busy none T d))
 have hbok:hb.ok:=ok_upd hok _ _
 have q:∀ {c:Nat},c≠l->hb.get c=h.get c:=fun hc=>zQ hc
 have ql:hb.get l=some (zA6 .busy none T d):=zR _ _ _
 have key:Ev true ((zV E).round l [.int .i64 (un:Int)] h) fun y=>(zDK R SS s x un=false/\y=(.bool true,hb.upd l (some (zA6 .ready none T d))))\/(zDK R SS s x un=true/\y=(.bool false,(hb.upd b8 (some (.row [.bool true] 4 0 false))).upd l (some (zA6 .done (some .ret) T d)))):=by
  rw [round_eq]
  unfold roundCall
  rw [hl]
  show Ev true (zCp E (zV E) l B130d B130c h (zBQ T [15] [.int .i64 (un:Int)])) _
  show Ev true (AM.R.andThen (evC E (zV E) (some l) B130d ⟨T.put 15 (.int .i64 (un:Int)),h,[]⟩) (midRound E (zV E) l B130c)) _
  have hT':∀ y∈[(4,ptr b4),(5,ptr b5),(7,ptr b7),(8,ptr b8),(15,Value.int .i64 (un:Int))],(T.put 15 (.int .i64 (un:Int))).get y.1=y.2:=by
   intro y hy
   rw [Tm.get_put]
   simp only [List.mem_cons,List.not_mem_nil,or_false] at hy
   rcases hy with rfl|rfl|rfl|rfl|rfl
   ·exact hT _ (by simp)
   ·exact hT _ (by simp)
   ·exact hT _ (by simp)
   ·exact hT _ (by simp)
   ·rfl
  have ha:=F130d_ev (s:=true) (ll:=l) (h:=h) (K:=fun ex vs g=>ex=.normal/\vs=[ptr b4,ptr b5,ptr b7,ptr b8,.int .i64 (un:Int)]/\g=h) hT' (P130d_0_of (by simp only [zA];exact ⟨trivial,trivial,trivial⟩))
  refine Ev.andThen (ha.mono fun o ho=>?_)
  obtain ⟨o1,o2,o3,o4⟩:=ho
  have ho1:o.st.defs=[]:=o1
  have ho3:[o.st.T.get 4,o.st.T.get 5,o.st.T.get 7,o.st.T.get 8,o.st.T.get 9]=[ptr b4,ptr b5,ptr b7,ptr b8,.int .i64 (un:Int)]:=o3
  simp only [List.cons.injEq,and_true] at ho3
  unfold midRound
  rw [o2,o4,ho1]
  simp only [isReady,hl,zA6,cond_true,zCL,beginRound]
  have hT2:∀ y∈[(4,ptr b4),(5,ptr b5),(7,ptr b7),(8,ptr b8),(9,Value.int .i64 (un:Int))],o.st.T.get y.1=y.2:=by
   intro y hy
   simp only [List.mem_cons,List.not_mem_nil,or_false] at hy
   rcases hy with rfl|rfl|rfl|rfl|rfl
   ·exact ho3.1
   ·exact ho3.2.1
   ·exact ho3.2.2.1
   ·exact ho3.2.2.2.1
   ·exact ho3.2.2.2.2
  have hb0:=body130 (h:=hb) (l:=l) (s:=s) (T:=o.st.T) hbok ((q n4).trans h4) ((q n5).trans h5) ((q n7).trans h7) ((q n8).trans h8) ((q nm).trans hm) hml hR (hg.upd_loop hl _) hS hSl hT2
  refine Ev.andThen (hb0.mono fun p hp=>?_)
  obtain ⟨_,p2⟩:=hp
  rcases p2 with ⟨p3,p4,p5⟩|⟨p3,p4,p5⟩
  ·unfold endRound
   rw [p4,p5]
   simp only [jumpOf,zCL,ql,zA6,zCw,Option.isNone,cond_true]
   exact Ev.one (.inl ⟨p3,rfl⟩)
  ·unfold endRound
   rw [p4,p5]
   have:(hb.upd b8 (some (.row [.bool true] 4 0 false))).get l=some (zA6 .busy none T d):=(zQ (Ne.symm n8)).trans ql
   simp only [jumpOf,zCL,this,zA6,zCw,Option.isNone,cond_false]
   exact Ev.one (.inr ⟨p3,rfl⟩)
 obtain ⟨y,e,hy⟩:=ev_inv key
 rcases hy with ⟨hy,rfl⟩|⟨hy,rfl⟩
 ·refine ⟨_,by rw [e,hy];rfl,ok_upd hbok _ _,(zCm _ _ _).2,fun w h1 h2 h3=>zx (zx h1 h2) h2,rfl,fun _ c=>?_,(fun h=>by rw [hy] at h;cases h)⟩
  by_cases hc:c=l
  ·subst hc;rw [zR,hl]
  ·rw [zQ hc,q hc]
 ·refine ⟨_,by rw [e,hy];rfl,ok_upd (ok_upd hbok _ _) _ _,(zCm _ _ _).2,fun w h1 h2 h3=>zx (zx (zx h1 h2) h3) h2,rfl,(fun h=>by rw [hy] at h;cases h),fun _=>⟨zR _ _ _,(zQ n8).trans (zR _ _ _),fun c h1 h2=>?_⟩⟩
  rw [zQ h1,zQ h2,q h1]
theorem end130 {T:Tm} {h:AH} {d b8:Nat} {b:Bool} {ex:Ex} (hex:ex=.ret\/ex=.normal) (hT:T.get 8=ptr b8) (hd:h.get d=some .defd) (h8:h.get b8=some (.row [.bool b] 4 0 false)) :
  zc E Tryz.f130 ⟨ex,⟨T,h,[d]⟩⟩=one (.bool b,h.upd d none):=by
 have hne:b8≠d:=by rintro rfl;rw [hd] at h8;cases h8
 have h8':(h.upd d none).get b8=some (.row [.bool b] 4 0 false):=(zQ hne).trans h8
 have hres:Tryz.f130.results.toList=[.cell 8 4]:=by kernel_rfl
 have hld:=zD (P:=E) ta_4 (o:=0) h8'
 simp only [lnth] at hld
 have hld':loadV E 4 (ptr b8) (h.upd d none)=some (.bool b):=hld
 have:zc E Tryz.f130 ⟨ex,⟨T,h,[d]⟩⟩=zCT E Tryz.f130 T (zB0 [d] h):=by
  rcases hex with rfl|rfl <;> rfl
 rw [this]
 simp only [zB0,hd,zCT,resultsV,hres,zCN,hT,hld',v1]
theorem call130 {k:AH} {m ver bg:Nat} {gx:Value} {R:Rel} {SS:List zAA} {s t:Int} {x:Int×Int} (hok:k.ok)
  (hm:k.get m=some (.map (ent R) ver)) (hml:m<k.next) (hR:R.Nodup) (hg:GV k bg SS) (hSS:SSok SS) (ht0:0<=t) (htN:t<(SS.length:Int)) :
  (zV E).call 130 [.agg ⟨zAi gx (ptr bg) m⟩,.int .i64 s,.int .i64 t,.agg ⟨zJ x⟩] k=some [(.bool (branchB R SS s t x),k)]:=by
 refine zk (s:=true) hok F130_get F130_body (F130_sum _ _) (by kernel_rfl) rfl ?_
 show Ev true (AM.R.andThen (evC E (zV E) none B130 ⟨⟨Tryz.f130.ntmps,zw [.agg ⟨zAi gx (ptr bg) m⟩,.int .i64 s,.int .i64 t,.agg ⟨zJ x⟩] 0 .e⟩,k.fresh,[]⟩) (zc E Tryz.f130)) _
 have hT0:∀ y∈[(0,Value.agg ⟨zAi gx (ptr bg) m⟩),(1,.int .i64 s),(2,.int .i64 t),(3,.agg ⟨zJ x⟩)],(⟨Tryz.f130.ntmps,zw [.agg ⟨zAi gx (ptr bg) m⟩,.int .i64 s,.int .i64 t,.agg ⟨zJ x⟩] 0 .e⟩:Tm).get y.1=y.2:=by
  intro y hy
  simp only [List.mem_cons,List.not_mem_nil,or_false] at hy
  rcases hy with rfl|rfl|rfl|rfl <;> kernel_rfl
 generalize (⟨Tryz.f130.ntmps,zw [.agg ⟨zAi gx (ptr bg) m⟩,.int .i64 s,.int .i64 t,.agg ⟨zJ x⟩] 0 .e⟩:Tm)=T0 at hT0
 rw [B130_eq]
 refine Ev.andThen ?_
 show Ev true (AM.R.andThen (evC E (zV E) none B130a ⟨T0,k.fresh,[]⟩) (thenC (evC E (zV E) none (.seq (.seq B130b (.block 0 (.rangeFunc (.tmp 14) #[15] B130d B130c))) (.seq B130e .ret))))) _
 obtain ⟨kA,hkA,oA,a4,a5,a7,a8,nA⟩:∃ kA,kA=(((k.fresh.new (.row (zAi gx (ptr bg) m) 178 0 false)).new (.row [.int .i64 s] 3 0 false)).new (.row (zJ x) 134 0 false)).new (.row [.bool false] 4 0 false)/\Own k kA/\kA.get k.next=some (.row (zAi gx (ptr bg) m) 178 0 false) ∧
   kA.get (k.next+1)=some (.row [.int .i64 s] 3 0 false)/\kA.get (k.next+2)=some (.row (zJ x) 134 0 false)/\kA.get (k.next+3)=some (.row [.bool false] 4 0 false)/\kA.next=k.next+4:=by
  refine ⟨_,rfl,((((Own.fresh k).new _).new _).new _).new _,?_,?_,?_,?_,rfl⟩
  ·exact (zI (by simp;omega)).trans ((zI (by simp;omega)).trans ((zI (by simp)).trans (zF k.fresh _)))
  ·exact (zI (by simp)).trans ((zI (by simp)).trans (zF (k.fresh.new _) _))
  ·exact (zI (by simp)).trans (zF ((k.fresh.new _).new _) _)
  ·exact zF (((k.fresh.new _).new _).new _) _
 have ha:=F130a_ev (s:=true) (h:=k.fresh) (K:=fun ex vs g=>ex=.normal/\vs=[.int .i64 t,ptr k.next,ptr (k.next+1),ptr (k.next+2),ptr (k.next+3)]/\g=kA) hT0 (P130a_0_of (by
  simp only [ze,zL,zA,zS,zi,z4]
  exact ⟨trivial,rfl,hkA.symm⟩))
 refine Ev.andThen (ha.mono fun o ho=>?_)
 obtain ⟨ex,T,g,ds⟩:=o
 obtain ⟨o1,o2,o3,o4⟩:=ho
 have o1':ds=[]:=o1
 have o2':ex=.normal:=o2
 have o4':g=kA:=o4
 subst o1' o2' o4'
 clear o1 o2 o4
 have o3':[T.get 2,T.get 4,T.get 5,T.get 7,T.get 8]=[.int .i64 t,ptr k.next,ptr (k.next+1),ptr (k.next+2),ptr (k.next+3)]:=o3
 simp only [List.cons.injEq,and_true] at o3'
 show Ev true (AM.R.andThen (AM.R.andThen (evC E (zV E) none B130b ⟨T,g,[]⟩) (thenC (evC E (zV E) none (.block 0 (.rangeFunc (.tmp 14) #[15] B130d B130c))))) (thenC (evC E (zV E) none (.seq B130e .ret)))) _
 refine Ev.andThen (Ev.andThen ?_)
 have hTb:∀ y∈[(2,Value.int .i64 t),(4,ptr k.next),(5,ptr (k.next+1)),(7,ptr (k.next+2)),(8,ptr (k.next+3))],T.get y.1=y.2:=by
  intro y hy
  simp only [List.mem_cons,List.not_mem_nil,or_false] at hy
  rcases hy with rfl|rfl|rfl|rfl|rfl
  ·exact o3'.1
  ·exact o3'.2.1
  ·exact o3'.2.2.1
  ·exact o3'.2.2.2.1
  ·exact o3'.2.2.2.2
 have lg:=zD (P:=E) zCo (o:=1) a4
 simp only [lnth,zAi] at lg
 have hb:=F130b_ev (s:=true) (h:=g) (K:=fun ex vs kB=>ex=.normal/\vs=[ptr k.next,ptr (k.next+1),ptr (k.next+2),ptr (k.next+3),.func (.func 222) #[] #[ptr (g.next+1),ptr g.next]] ∧
   kB.next=g.next+2/\kB.ok/\(∀ w,w<=g.wm->w<=g.next->w<=kB.wm)/\kB.get g.next=some (.row [ptr bg] 128 0 false)/\kB.get (g.next+1)=some (.row [.int .i64 t] 3 0 false)/\∀ c,c<g.next->kB.get c=g.get c) hTb (P130b_0_of (by
  simp only [zDC,fa_176_1,Nat.add_zero,Nat.zero_add,lg,zA,zZ]
  refine call178.mono fun y hy=>?_
  obtain ⟨y1,y2⟩:=hy
  rw [y1]
  exact ⟨trivial,rfl,y2⟩))
 refine hb.mono fun o ho=>?_
 obtain ⟨ex,T',kB,ds⟩:=o
 obtain ⟨p1,p2,p3,nB,okB,wB,b4,b5,bo⟩:=ho
 have p1':ds=[]:=p1
 have p2':ex=.normal:=p2
 subst p1' p2'
 clear p1 p2
 have p3':[T'.get 4,T'.get 5,T'.get 7,T'.get 8,T'.get 14]=[ptr k.next,ptr (k.next+1),ptr (k.next+2),ptr (k.next+3),.func (.func 222) #[] #[ptr (g.next+1),ptr g.next]]:=p3
 simp only [List.cons.injEq,and_true] at p3'
 obtain ⟨t4,t5,t7,t8,t14⟩:=p3'
 clear p3
 simp only at nB okB wB b4 b5 bo
 show Ev true (AM.R.andThen (evRange E (zV E) none (some (T'.get 14)) [15] B130d B130c ⟨T',kB,[]⟩) (zDL 0)) _
 rw [t14]
 have hhb:zCk E 222=true:=by kernel_rfl
 have hst:evRange E (zV E) none (some (.func (.func 222) #[] #[ptr (g.next+1),ptr g.next])) [15] B130d B130c ⟨T',kB,[]⟩ =
   AM.R.andThen ((zV E).call 222 [.func (.yield (kB.next+1)) #[] #[],ptr (g.next+1),ptr g.next] ((kB.new .defd).new (zA6 .ready none T' kB.next))) fun x=>zBp (kB.next+1) T' [kB.next] x.2:=by
  unfold evRange
  simp only [hhb,cond_true]
  rfl
 rw [hst]
 refine Ev.andThen (Ev.andThen ?_)
 have okC:((kB.new .defd).new (zA6 .ready none T' kB.next)).ok:=zB4 (zB4 okB _) _
 have cl:((kB.new .defd).new (zA6 .ready none T' kB.next)).get (kB.next+1)=some (zA6 .ready none T' kB.next):=zF (kB.new .defd) _
 have cd:((kB.new .defd).new (zA6 .ready none T' kB.next)).get kB.next=some .defd:=(zI (by simp)).trans (zF kB _)
 have co:∀ c,c<kB.next->((kB.new .defd).new (zA6 .ready none T' kB.next)).get c=kB.get c:=fun c hc=>(zI (by simp;omega)).trans (zI (by omega))
 have nC:((kB.new .defd).new (zA6 .ready none T' kB.next)).next=kB.next+2:=rfl
 have wC:((kB.new .defd).new (zA6 .ready none T' kB.next)).wm=kB.wm:=rfl
 generalize ((kB.new .defd).new (zA6 .ready none T' kB.next))=kC at okC cl cd co nC wC
 have cg:∀ c,c<g.next->kC.get c=g.get c:=fun c hc=>(co c (by omega)).trans (bo c hc)
 have eC:Ext k kC:=⟨okC,by omega,fun c hc=>(cg c (by omega)).trans (oA.ext.get c hc)⟩
 have hw0:k.next<=kC.wm:=by rw [wC];exact wB _ oA.wm (by omega)
 have hY:Yd kC (kB.next+1) k.next SS.length (zDK R SS s x) (fun h'=>h'.get (kB.next+1)=some (zA6 .done (some .ret) T' kB.next)/\h'.get (k.next+3)=some (.row [.bool true] 4 0 false)/\h'.get kB.next=some .defd):=by
  intro h he hw u hu0 huN
  obtain ⟨un,rfl⟩:=Int.eq_ofNat_of_zero_le hu0
  have hun:un<SS.length:=by omega
  have hSu:SS[un]?=some SS[un]:=List.getElem?_eq_getElem hun
  have hek:=eC.trans he
  obtain ⟨h',r1,r2,r3,r4,r5,r6,r7⟩:=round130 (h:=h) (un:=un) (s:=s) (x:=x) he.ok ((he.get _ (by omega)).trans cl) ((he.get _ (by omega)).trans ((cg _ (by omega)).trans a4)) ((he.get _ (by omega)).trans ((cg _ (by omega)).trans a5)) ((he.get _ (by omega)).trans ((cg _ (by omega)).trans a7)) ((he.get _ (by omega)).trans ((cg _ (by omega)).trans a8))
   ((hek.get m hml).trans hm) (Nat.lt_of_lt_of_le hml hek.next) hR (hg.ext hek) hSu (by have:=(hSS.stp un _ hSu).1;omega) (by
    intro y hy
    simp only [List.mem_cons,List.not_mem_nil,or_false] at hy
    rcases hy with rfl|rfl|rfl|rfl
    ·exact t4
    ·exact t5
    ·exact t7
    ·exact t8)
  refine ⟨h',r1,r2,r3,r4 _ hw (by omega) (by omega),fun e=>⟨r5,r6 e⟩,fun e=>?_⟩
  obtain ⟨z1,z2,z3⟩:=r7 e
  exact ⟨z1,z2,(z3 _ (by omega) (by omega)).trans ((he.get _ (by omega)).trans cd)⟩
 have hc:=call222 (k:=kC) (l:=kB.next+1) (bs0:=g.next+1) (bgp:=g.next) (bg:=bg) (w0:=k.next) (SS:=SS) (t:=t) okC ((co _ (by omega)).trans b5) (by omega) ((co _ (by omega)).trans b4) (by omega) (hg.ext eC) hSS ht0 htN hw0 (by omega) (by omega) (fun h h' hge hn hr=>by
  rw [hge,hge,hge];exact hr) hY
 refine hc.mono fun y hy=>?_
 obtain ⟨v,h⟩:=y
 obtain ⟨_,f1,f2,f3,f4⟩:=hy
 simp only at f1 f2 f3 f4 ⊢
 have hfold:bfs SS (zDK R SS s x) SS.length 0 [t]=branchB R SS s t x:=rfl
 rw [hfold] at f3 f4
 cases hb:branchB R SS s t x with
 | true=>
  obtain ⟨r1,r2,r3⟩:=f4 hb
  have her:zBp (kB.next+1) T' [kB.next] h=one ⟨.ret,⟨T',h.upd (kB.next+1) (some (zA6 .exhausted (some .ret) T' kB.next)),[kB.next]⟩⟩:=by
   unfold zBp
   rw [r1]
   rfl
  rw [her,zL]
  show Ev true (one _) _
  rw [zL]
  show Ev true (one _) _
  rw [zL]
  show Ev true (zc E Tryz.f130 ⟨.ret,⟨T',h.upd (kB.next+1) (some (zA6 .exhausted (some .ret) T' kB.next)),[kB.next]⟩⟩) _
  rw [end130 (.inl rfl) t8 ((zQ (by omega)).trans r3) ((zQ (by omega)).trans r2),zL]
  exact ⟨rfl,zx (zx f2 (by omega)) (by omega)⟩
 | false=>
  obtain ⟨r1,r2⟩:=f3 hb
  have hgl:h.get (kB.next+1)=some (zA6 .ready none T' kB.next):=(r2 _ (by omega)).trans cl
  have her:zBp (kB.next+1) T' [kB.next] h=one ⟨.normal,⟨T',h.upd (kB.next+1) (some (zA6 .exhausted none T' kB.next)),[kB.next]⟩⟩:=by
   unfold zBp
   rw [hgl]
   rfl
  rw [her,zL]
  show Ev true (one _) _
  rw [zL]
  have q8:(h.upd (kB.next+1) (some (zA6 .exhausted none T' kB.next))).get (k.next+3)=some (.row [.bool false] 4 0 false):=(zQ (by omega)).trans ((r2 _ (by omega)).trans ((cg _ (by omega)).trans a8))
  have qd:(h.upd (kB.next+1) (some (zA6 .exhausted none T' kB.next))).get kB.next=some .defd:=(zQ (by omega)).trans ((r2 _ (by omega)).trans cd)
  have qw:k.next<=(h.upd (kB.next+1) (some (zA6 .exhausted none T' kB.next))).wm:=zx f2 (by omega)
  generalize (h.upd (kB.next+1) (some (zA6 .exhausted none T' kB.next)))=h1 at q8 qd qw
  show Ev true (AM.R.andThen (evC E (zV E) none B130e ⟨T',h1,[kB.next]⟩) (thenC (evC E (zV E) none .ret))) _
  have hst:=z0 (P:=E) ts_4 (o:=0) (x:=.bool false) (cs:=[.bool false]) q8 rfl rfl (by simp) (by simp [zp])
  have he:=F130f_ev (s:=true) (d:=kB.next) (v8:=ptr (k.next+3)) (T:=T') (h:=h1) (K:=fun ex vs g=>ex=.normal/\vs=[ptr (k.next+3)]/\g=h1.upd (k.next+3) (some (.row [.bool false] 4 0 false))) (by
   intro y hy
   simp only [List.mem_cons,List.not_mem_nil,or_false] at hy
   subst hy
   exact t8) (by
   simp only [Q130e_0,hst,zL]
   exact ⟨trivial,trivial,rfl⟩)
  refine Ev.andThen (he.mono fun o ho=>?_)
  obtain ⟨ex,T2,g2,ds⟩:=o
  obtain ⟨o1,o2,o3,o4⟩:=ho
  have o1':ds=[kB.next]:=o1
  have o2':ex=.normal:=o2
  have o4':g2=h1.upd (k.next+3) (some (.row [.bool false] 4 0 false)):=o4
  have o3':[T2.get 8]=[ptr (k.next+3)]:=o3
  subst o1' o2' o4'
  show Ev true (one _) _
  rw [zL]
  show Ev true (zc E Tryz.f130 ⟨.ret,⟨T2,h1.upd (k.next+3) (some (.row [.bool false] 4 0 false)),[kB.next]⟩⟩) _
  rw [end130 (.inl rfl) (List.cons.inj o3').1 ((zQ (by omega)).trans qd) (zR _ _ _),zL]
  exact ⟨rfl,zx (zx qw (by omega)) (by omega)⟩
def SameR (R R':Rel):Prop:=∀ p,p∈R ↔ p∈R'
theorem SameR.dec {R R':Rel} (h:SameR R R') (p:Int×Int):decide (p∈R)=decide (p∈R'):=decide_eq_decide.2 (h p)
theorem strongB_same {R R':Rel} (h:SameR R R') (S:zAA) (x:Int×Int):strongB R S x=strongB R' S x:=by
 have:stepIs R x=stepIs R' x:=by funext y;unfold stepIs;rw [h.dec]
 unfold strongB
 simp only [this]
theorem strongAt_same {R R':Rel} (h:SameR R R') (SS:List zAA) (u:Int) (x:Int×Int):zBk R SS u x=zBk R' SS u x:=by
 unfold zBk
 split
 ·exact strongB_same h _ _
 ·rfl
theorem bodyB_same {R R':Rel} (h:SameR R R') (SS:List zAA) (s:Int) (x:Int×Int):zDK R SS s x=zDK R' SS s x:=by
 funext u
 unfold zDK
 rw [h.dec,h.dec,strongAt_same h]
theorem branchB_same {R R':Rel} (h:SameR R R') (SS:List zAA) (s t:Int) (x:Int×Int):branchB R SS s t x=branchB R' SS s t x:=by
 unfold branchB
 rw [bodyB_same h]
def zCR (kind:Int) (R:Rel) (TT:List zAA) (p x:Int×Int):Bool:=if kind=1 then zBk R TT p.2 x else branchB R TT p.1 p.2 x
theorem followB_same {R R':Rel} (h:SameR R R') (kind:Int) (TT:List zAA):zCR kind R TT=zCR kind R' TT:=by
 funext p x
 unfold zCR
 rw [strongAt_same h,branchB_same h]
theorem all_same {α:Type} {l l':List α} (h:∀ a,a∈l ↔ a∈l') (f:α->Bool):l.all f=l'.all f:=by
 rw [Bool.eq_iff_iff,List.all_eq_true,List.all_eq_true]
 exact ⟨fun H a ha=>H a ((h a).2 ha),fun H a ha=>H a ((h a).1 ha)⟩
def allK (kind:Int) (R:Rel) (SS TT:List zAA):Bool:=allB R SS (zCR kind R TT)
theorem allK_same {R R':Rel} (h:SameR R R') (kind:Int) (SS TT:List zAA):allK kind R SS TT=allK kind R' SS TT:=by
 unfold allK allB
 rw [followB_same h]
 exact all_same h _
def inB (n m:Int) (p:Int×Int):Bool:=decide (p.1<n)&&decide (p.2<m)
def relB (kind:Int) (prs:Rel) (SS TT:List zAA) (n m:Int):Bool:=
 prs.all (inB n m)&&(decide ((0,0)∈prs)&&allK kind prs SS TT&&allK kind (prs.map swapP) TT SS)
def z6 (kind:Int):List Value:=
 if kind=1 then [.func (.func 128) #[] #[],.func (.func 129) #[] #[],.string ⟨#[115,116,114,111,110,103]⟩]
 else [.func (.func 130) #[] #[],.func (.func 131) #[] #[],.string ⟨#[98,114,97,110,99,104,105,110,103]⟩]
def mansV:Value:=.agg ⟨[.nilFunc,.nilFunc,.string ⟨#[]⟩]++z6 1++z6 2⟩
theorem pbm1:zAu E 112 (some [(0,(.func (.func 128) #[] #[])),(1,(.func (.func 129) #[] #[])),(2,(.string ⟨#[115,116,114,111,110,103]⟩))])=some (.agg ⟨z6 1⟩):=by kernel_rfl
theorem pbm2:zAu E 112 (some [(0,(.func (.func 130) #[] #[])),(1,(.func (.func 131) #[] #[])),(2,(.string ⟨#[98,114,97,110,99,104,105,110,103]⟩))])=some (.agg ⟨z6 2⟩):=by kernel_rfl
theorem pbm:zAu E 113 (some [(1,.agg ⟨z6 1⟩),(2,.agg ⟨z6 2⟩)])=some mansV:=by kernel_rfl
theorem pim1:pIndex E 113 (some mansV) (some (.int .i64 1))=some (.agg ⟨z6 1⟩):=by kernel_rfl
theorem pim2:pIndex E 113 (some mansV) (some (.int .i64 2))=some (.agg ⟨z6 2⟩):=by kernel_rfl
theorem pim {kind:Int} (h:isMan kind=true):pIndex E 113 (some mansV) (some (.int .i64 kind))=some (.agg ⟨z6 kind⟩):=by
 simp only [isMan,Bool.or_eq_true,decide_eq_true_eq] at h
 rcases h with rfl|rfl
 ·exact pim1
 ·exact pim2
theorem call79 {k:AH} (hok:k.ok):(zV E).call 79 [] k=some [(mansV,k)]:=by
 refine F79_flat1 hok (by kernel_rfl) (P79_0_of ?_)
 simp only [z_113,ze,zL,zS]
 refine P79_1_of ?_
 have o1:=(Own.fresh k).new (.row [.nilFunc,.nilFunc,.string ⟨#[]⟩,.nilFunc,.nilFunc,.string ⟨#[]⟩,.nilFunc,.nilFunc,.string ⟨#[]⟩] 113 0 false)
 have t1:=zF k.fresh (.row [.nilFunc,.nilFunc,.string ⟨#[]⟩,.nilFunc,.nilFunc,.string ⟨#[]⟩,.nilFunc,.nilFunc,.string ⟨#[]⟩] 113 0 false)
 generalize k.fresh.new (.row [.nilFunc,.nilFunc,.string ⟨#[]⟩,.nilFunc,.nilFunc,.string ⟨#[]⟩,.nilFunc,.nilFunc,.string ⟨#[]⟩] 113 0 false)=k1 at o1 t1
 simp only [zb] at t1 ⊢
 have hst:=z0 (P:=E) ts_113 (o:=0) (x:=mansV) (cs:=[.nilFunc,.nilFunc,.string ⟨#[]⟩]++z6 1++z6 2) t1 rfl rfl (by simp) (by rfl)
 simp only [pbm1,pbm2,pbm,zA,hst,zL,kR_c,zX,true_and]
 have g1:(k1.upd k.next (some (.row (lput [.nilFunc,.nilFunc,.string ⟨#[]⟩,.nilFunc,.nilFunc,.string ⟨#[]⟩,.nilFunc,.nilFunc,.string ⟨#[]⟩] 0 ([.nilFunc,.nilFunc,.string ⟨#[]⟩]++z6 1++z6 2)) 113 0 false))).get k.next=some (.row ([.nilFunc,.nilFunc,.string ⟨#[]⟩]++z6 1++z6 2) 113 0 false):=zR _ _ _
 have la:=zW (P:=E) ta_113 (o:=0) g1 (by decide)
 have:loadV E 113 (ptr k.next) (k1.upd k.next (some (.row (lput [.nilFunc,.nilFunc,.string ⟨#[]⟩,.nilFunc,.nilFunc,.string ⟨#[]⟩,.nilFunc,.nilFunc,.string ⟨#[]⟩] 0 ([.nilFunc,.nilFunc,.string ⟨#[]⟩]++z6 1++z6 2)) 113 0 false)))=some mansV:=la
 rw [this,zA]
 exact ⟨rfl,zx o1.wm (Nat.le_refl _)⟩
theorem GV.fx {k l:AH} {bg:Nat} {SS:List zAA} (g:GV k bg SS) (f:Fx NoB k l):GV l bg SS:=g.ext ⟨f.ok,f.next,fun c hc=>f.get c hc (fun h=>h)⟩
theorem Fx.ext0 {k l:AH} (f:Fx NoB k l):Ext k l:=⟨f.ok,f.next,fun c hc=>f.get c hc (fun h=>h)⟩
theorem pb178 {a b:Option Addr} {m:Nat}:zAu E 178 (some [(0,.agg ⟨zAi (.pointer a) (.pointer b) m⟩)])=some (.agg ⟨zAi (.pointer a) (.pointer b) m⟩):=by kernel_rfl
def folOf (kind:Int):FuncId:=if kind=1 then 128 else 130
def canOf (kind:Int):FuncId:=if kind=1 then 129 else 131
def nmOf (kind:Int):ByteArray:=if kind=1 then ⟨#[115,116,114,111,110,103]⟩ else ⟨#[98,114,97,110,99,104,105,110,103]⟩
theorem man_eq (kind:Int):z6 kind=[.func (.func (folOf kind)) #[] #[],.func (.func (canOf kind)) #[] #[],.string (nmOf kind)]:=by
 unfold z6 folOf canOf nmOf
 by_cases h:kind=1 <;> simp [h]
theorem veq_man {kind:Int} (h:isMan kind=true):veq 100 (.agg ⟨z6 kind⟩) (.agg ⟨z6 kind⟩)=true:=by
 simp only [isMan,Bool.or_eq_true,decide_eq_true_eq] at h
 rcases h with rfl|rfl <;> kernel_rfl
theorem fol_ok {h0 k':AH} {kind:Int} {gx:Value} {bg m ver:Nat} {R:Rel} {SS:List zAA} (hkind:isMan kind=true) (e:Ext h0 k') (hm:h0.get m=some (.map (ent R) ver)) (hml:m<h0.next) (hR:R.Nodup) (hg:GV h0 bg SS) (hSS:SSok SS)
  {p x:Int×Int} (h0':0<=p.2) (hN:p.2<(SS.length:Int)):(zV E).call (folOf kind) [.agg ⟨zAi gx (ptr bg) m⟩,.int .i64 p.1,.int .i64 p.2,.agg ⟨zJ x⟩] k'=some [(.bool (zCR kind R SS p x),k')]:=by
 have hm':=(e.get m hml).trans hm
 have hml':=Nat.lt_of_lt_of_le hml e.next
 simp only [isMan,Bool.or_eq_true,decide_eq_true_eq] at hkind
 rcases hkind with rfl|rfl
 ·obtain ⟨t,ht⟩:=Int.eq_ofNat_of_zero_le h0'
  have htN:t<SS.length:=by omega
  have hS:SS[t]?=some SS[t]:=List.getElem?_eq_getElem htN
  have hf:zCR 1 R SS p x=strongB R SS[t] x:=by
   unfold zCR zBk
   rw [ht]
   simp [hS]
  rw [hf,ht]
  exact call128 e.ok hm' hml' hR (hg.ext e) hS (by have:=(hSS.stp t _ hS).1;omega)
 ·have hf:zCR 2 R SS p x=branchB R SS p.1 p.2 x:=by
   unfold zCR
   simp
  rw [hf]
  exact call130 e.ok hm' hml' hR (hg.ext e) hSS h0' hN
theorem rel11 {k h:AH} {kind:Int} {b1 b2 m ver b8 b11:Nat} {R:Rel} {SS TT:List zAA} (ho:Own k h) (hkind:isMan kind=true)
  (h8:h.get b8=some (.row (zAi (ptr b1) (ptr b2) m) 176 0 false)) (h8l:b8<h.next) (h11:h.get b11=some (.row (z6 kind) 112 0 false)) (h11l:b11<h.next) (hm:h.get m=some (.map (ent R) ver)) (hml:m<h.next) (hR:R.Nodup)
  (hg1:GV h b1 SS) (hg2:GV h b2 TT) (hb1:b1<h.next) (hb2:b2<h.next) (hSS:SSok SS) (hTT:SSok TT) (hin:∀ p∈R,(0<=p.1/\p.1<(SS.length:Int))/\(0<=p.2/\p.2<(TT.length:Int))) {V:Bool}
  (hV:V=(decide ((0,0)∈R)&&allK kind R SS TT&&allK kind (R.map swapP) TT SS)) :
  P72_11 false (KR E [.tmp 6] (fun x l=>x=.bool V/\k.next<=l.wm)) (ptr b8) (ptr b11) h:=by
 refine P72_11_of ?_
 have la:=zW (P:=E) ta_176 (o:=0) h8 (by simp [zAi])
 rw [List.drop_zero,List.take_of_length_le (by simp [zAi])] at la
 have lm:=zW (P:=E) ta_112 (o:=0) h11 (by rw [man_eq];simp)
 rw [List.drop_zero,List.take_of_length_le (by rw [man_eq];simp)] at lm
 have hsz:∀ (SS:List zAA),SSok SS->∀ (i:Nat) (S:zAA),SS[i]?=some S->S.length<=1000000:=fun SS hS i S h=>by have:=(hS.stp i S h).1;omega
 have c1:(zV E).call 124 [.agg ⟨zAi (ptr b1) (ptr b2) m⟩,.agg ⟨z6 kind⟩] h=some [(.bool (allK kind R SS TT),h)]:=by
  rw [man_eq]
  exact call124 (h0:=h) (Ext.refl ho.ext.ok) hm hml hg1 (fun p hp=>(hin p hp).1) (hsz SS hSS) (fun k' hk' p hp x S hS hx=>fol_ok hkind hk' hm hml hR hg2 hTT (hin p hp).2.1 (hin p hp).2.2)
 simp only [la,lm,zA,zZ,call123 ho.ext.ok hm hml hR,zO]
 by_cases e0:((0:Int),(0:Int))∈R
 ·simp only [e0,decide_true,zM,zY,beq_self_eq_true,cond_true,la,lm,zA,pb178,zZ,c1,zO,zK]
  cases e1:allK kind R SS TT with
  | true=>
   simp only [zM,zY,beq_self_eq_true,cond_true,la,lm,zA,zZ]
   refine (call125 ho.ext.ok hb1 hb2 hm hml).mono fun y hy=>?_
   obtain ⟨v,h2⟩:=y
   obtain ⟨m',ver',R',rfl,g1,g2,g3,g4,g5,g6⟩:=hy
   simp only at g1 g2 g3 g4 g5 g6
   have o2:=g6.own ho (fun _ h=>h.elim)
   have lm2:=zW (P:=E) ta_112 (o:=0) ((g6.get b11 h11l (fun h=>h)).trans h11) (by rw [man_eq];simp)
   rw [List.drop_zero,List.take_of_length_le (by rw [man_eq];simp)] at lm2
   have hin':∀ p∈R',(0<=p.1/\p.1<(TT.length:Int))/\(0<=p.2/\p.2<(SS.length:Int)):=fun p hp=>by
    have:=hin _ ((g5 p).1 hp)
    exact ⟨this.2,this.1⟩
   have c2:(zV E).call 124 [.agg ⟨zAi (ptr b2) (ptr b1) m'⟩,.agg ⟨z6 kind⟩] h2=some [(.bool (allK kind R' TT SS),h2)]:=by
    rw [man_eq]
    exact call124 (h0:=h2) (Ext.refl o2.ext.ok) g1 g3 (hg2.fx g6) (fun p hp=>(hin' p hp).1) (hsz TT hTT) (fun k' hk' p hp x S hS hx=>fol_ok hkind hk' g1 g3 g4 (hg1.fx g6) hSS (hin' p hp).2.1 (hin' p hp).2.2)
   have hsame:SameR R' (R.map swapP):=fun p=>by
    rw [g5,List.mem_map]
    constructor
    ·intro h;exact ⟨_,h,rfl⟩
    ·rintro ⟨q,hq,rfl⟩;exact hq
   simp only [zM,zY,beq_self_eq_true,cond_true,lm2,zA,veq_man hkind,pb178,zZ,c2,zO,zK,zAN,zX,true_and]
   refine ⟨?_,o2.wm⟩
   rw [hV,e1,allK_same hsame]
   simp [e0]
  | false=>
   simp only [zM,zY,zn,zq,show (false==true)=false from rfl,cond_false,zA,zL,zK,show veq 100 undef undef=true from by kernel_rfl,zAN,zX,true_and]
   exact ⟨by rw [hV,e1];simp,ho.wm⟩
 ·simp only [e0,decide_false,zM,zY,zn,zq,show (false==true)=false from rfl,cond_false,zA,zL,zK,show veq 100 undef undef=true from by kernel_rfl,zAN,zX,true_and]
  exact ⟨by rw [hV];simp [e0],ho.wm⟩
theorem box112 {h:AH} {kind:Int}:zu E 112 (h.new (.row [.nilFunc,.nilFunc,.string ⟨#[]⟩] 112 0 false)) (some (ptr h.next)) (some (.agg ⟨z6 kind⟩))=one (undef,(h.new (.row [.nilFunc,.nilFunc,.string ⟨#[]⟩] 112 0 false)).upd h.next (some (.row (z6 kind) 112 0 false))):=by
 rw [z0 (P:=E) ts_112 (x:=.agg ⟨z6 kind⟩) (cs:=z6 kind) (zF h _) rfl (by rw [man_eq];rfl) (by simp) (by rw [man_eq];rfl)]
 rw [man_eq];rfl
theorem rel10 {k h:AH} {kind:Int} {vp:Value} {b1 b2 m ver b5 b8:Nat} {R:Rel} {SS TT:List zAA} (ho:Own k h) (hkind:isMan kind=true)
  (h5:h.get b5=some (.row [.int .i64 kind,vp] 32 0 false)) (h5l:b5<h.next)
  (h8:h.get b8=some (.row (zAi (ptr b1) (ptr b2) m) 176 0 false)) (h8l:b8<h.next) (hm:h.get m=some (.map (ent R) ver)) (hml:m<h.next) (hR:R.Nodup)
  (hg1:GV h b1 SS) (hg2:GV h b2 TT) (hb1:b1<h.next) (hb2:b2<h.next) (hSS:SSok SS) (hTT:SSok TT) (hin:∀ p∈R,(0<=p.1/\p.1<(SS.length:Int))/\(0<=p.2/\p.2<(TT.length:Int))) {V:Bool}
  (hV:V=(decide ((0,0)∈R)&&allK kind R SS TT&&allK kind (R.map swapP) TT SS)) :
  P72_10 false (KR E [.tmp 6] (fun x l=>x=.bool V/\k.next<=l.wm)) (ptr b5) (ptr b8) h:=by
 refine P72_10_of ?_
 have l5:=zD (P:=E) zAS (o:=0) h5
 simp only [lnth] at l5
 have l5n:zG E 3 (h.new (.row [.nilFunc,.nilFunc,.string ⟨#[]⟩] 112 0 false)) (some (ptr b5))=some (.int .i64 kind):=by
  have:=zD (P:=E) zAS (o:=0) ((zI (o:=.row [.nilFunc,.nilFunc,.string ⟨#[]⟩] 112 0 false) (by omega)).trans h5)
  simpa only [lnth] using this
 have fxf:Fx NoB h ((h.new (.row [.nilFunc,.nilFunc,.string ⟨#[]⟩] 112 0 false)).upd h.next (some (.row (z6 kind) 112 0 false))):=((Fx.refl ho.ext.ok).new _).upd (.inr (Nat.le_refl _)) _
 have hget:∀ c,c<h.next->((h.new (.row [.nilFunc,.nilFunc,.string ⟨#[]⟩] 112 0 false)).upd h.next (some (.row (z6 kind) 112 0 false))).get c=h.get c:=fun c hc=>fxf.get c hc (fun h=>h)
 have hnx:((h.new (.row [.nilFunc,.nilFunc,.string ⟨#[]⟩] 112 0 false)).upd h.next (some (.row (z6 kind) 112 0 false))).next=h.next+1:=rfl
 have fin:P72_11 false (KR E [.tmp 6] (fun x l=>x=.bool V/\k.next<=l.wm)) (ptr b8) (ptr h.next) ((h.new (.row [.nilFunc,.nilFunc,.string ⟨#[]⟩] 112 0 false)).upd h.next (some (.row (z6 kind) 112 0 false))):=
  rel11 (fxf.own ho (fun _ h=>h.elim)) hkind ((hget _ h8l).trans h8) (by omega) (zR _ _ _) (by omega) ((hget _ hml).trans hm) (by omega) hR (hg1.fx fxf) (hg2.fx fxf) (by omega) (by omega) hSS hTT hin hV
 have hok1:(h.new (.row [.nilFunc,.nilFunc,.string ⟨#[]⟩] 112 0 false)).ok:=zB4 ho.ext.ok _
 simp only [fa_32_0,Nat.add_zero,l5,zA,zZ,call79 ho.ext.ok,call79 hok1,zO,zCf,true_and,pim hkind,z_112,ze,zL,zS,l5n,box112]
 exact ⟨fin,fin⟩
theorem GV.fxm {k l:AH} {bg m ver:Nat} {SS:List zAA} {es:List (Value×Value)} (g:GV k bg SS) (f:Fx (fun c=>c=m) k l) (hm:k.get m=some (.map es ver)):GV l bg SS:=by
 obtain ⟨loc,bs,cells,G⟩:=g.ex
 have hne:∀ {a:Nat} {vs:List Value} {ty es:Nat} {ro:Bool},k.get a=some (.row vs ty es ro)->a≠m:=by
  rintro a vs ty es ro h rfl
  rw [hm] at h;cases h
 refine ⟨loc,bs,cells,(f.get bg G.ltg (hne G.g)).trans G.g,(f.get bs G.lts (hne G.s)).trans G.s,G.len,G.ne,Nat.lt_of_lt_of_le G.ltg f.next,Nat.lt_of_lt_of_le G.lts f.next,G.locg,G.locs,fun i c S hc hS=>?_,G.blk,G.dis⟩
 rcases G.cell i c S hc hS with a|⟨b,a1,a2,a3⟩
 ·exact .inl a
 ·exact .inr ⟨b,a1,(f.get b a3 (hne a2)).trans a2,Nat.lt_of_lt_of_le a3 f.next⟩
theorem ne_map {k:AH} {a m ver:Nat} {vs:List Value} {ty es:Nat} {ro:Bool} {en:List (Value×Value)} (h:k.get a=some (.row vs ty es ro)) (hm:k.get m=some (.map en ver)):a≠m:=by
 rintro rfl
 rw [hm] at h;cases h
theorem rel4 {k h1:AH} {kind n1 n2:Int} {vp vl ve wl we:Value} {prs:Rel} {b1 b2 m b3 b4 b5 b8 ver0:Nat} {es0:List (Value×Value)} {SS TT:List zAA} (hkind:isMan kind=true)
  (hm0:h1.get m=some (.map es0 ver0)) (hml:m<h1.next) (hkm:k.next<=m)
  (h3:h1.get b3=some (.row [.int .i64 n1,vl,ve] 25 0 false)) (h3l:b3<h1.next) (h4:h1.get b4=some (.row [.int .i64 n2,wl,we] 25 0 false)) (h4l:b4<h1.next)
  (h5:h1.get b5=some (.row [.int .i64 kind,vp] 32 0 false)) (h5l:b5<h1.next)
  (h8:h1.get b8=some (.row (zAi (ptr b1) (ptr b2) m) 176 0 false)) (h8l:b8<h1.next)
  (hg1:GV h1 b1 SS) (hg2:GV h1 b2 TT) (hb1:b1<h1.next) (hb2:b2<h1.next) (hSS:SSok SS) (hTT:SSok TT) (hn1:n1=(SS.length:Int)) (hn2:n2=(TT.length:Int))
  {ap:Option Addr} {cp:Nat} (hvp:vp=.slice ap prs.length cp) (ha:Arr k 2 vp (prs.map zJ)) (hpl:prs.length<=200000) (hpos:∀ p∈prs,0<=p.1/\0<=p.2) {V:Bool} (hV:V=relB kind prs SS TT n1 n2) :
  ∀ (r i:Nat),i+r=prs.length->∀ h Rn ver,Own k h->Fx (fun c=>c=m) h1 h->h.get m=some (.map (ent Rn) ver)->Rn.Nodup->(∀ p,p∈Rn ↔ p∈prs.take i)->(prs.take i).all (inB n1 n2)=true->
   P72_4 false (KR E [.tmp 6] (fun x l=>x=.bool V/\k.next<=l.wm)) (ptr b3) (ptr b4) (ptr b5) (ptr b8) vp (.int .i64 (prs.length:Int)) (.int .i64 (i:Int)) h:=by
 intro r
 induction r with
 | zero=>
  intro i hi h Rn ver ho f hm hnd hmem hall
  refine P72_4_of ?_
  have:¬ ((i:Int)<(prs.length:Int)):=by omega
  simp only [zd,zA,this,decide_false,zAE]
  rw [List.take_of_length_le (by omega)] at hmem hall
  have hin:∀ p∈Rn,(0<=p.1/\p.1<(SS.length:Int))/\(0<=p.2/\p.2<(TT.length:Int)):=fun p hp=>by
   have hp':=(hmem p).1 hp
   have h1':=List.all_eq_true.1 hall p hp'
   simp only [inB,Bool.and_eq_true,decide_eq_true_eq] at h1'
   have h2':=hpos p hp'
   omega
  have hnx:=f.next
  refine rel10 ho hkind ((f.get b5 h5l (ne_map h5 hm0)).trans h5) (by omega) ((f.get b8 h8l (ne_map h8 hm0)).trans h8) (by omega) hm (by omega) hnd (hg1.fxm f hm0) (hg2.fxm f hm0) (by omega) (by omega) hSS hTT hin ?_
  rw [hV]
  unfold relB
  rw [hall,SameR.dec hmem,allK_same hmem,allK_same (R:=Rn.map swapP) (R':=prs.map swapP) (fun p=>by
   simp only [List.mem_map]
   exact ⟨fun ⟨q,a,b⟩=>⟨q,(hmem q).1 a,b⟩,fun ⟨q,a,b⟩=>⟨q,(hmem q).2 a,b⟩⟩)]
  rfl
 | succ r ih=>
  intro i hi h Rn ver ho f hm hnd hmem hall
  have hin:i<prs.length:=by omega
  refine P72_4_of ?_
  have hlt:((i:Int)<(prs.length:Int)):=by omega
  simp only [zd,zA,hlt,decide_true,zAK]
  refine P72_5_of ?_
  have hat:(prs.map zJ)[i]?=some (zJ prs[i]):=by simp [hin]
  obtain ⟨b,o,c,vs,ty,es,ro,hv,hb,hlt',hle,hz,hzl⟩:=ha.load hat
  have hp:=hpos prs[i] (List.getElem_mem hin)
  have hpt:prs.take (i+1)=prs.take i++[prs[i]]:=by rw [List.take_add_one];simp [hin]
  have hpm:prs[i]∈prs:=List.getElem_mem hin
  generalize prs[i]=p at hz hp hpt hpm
  rw [hvp] at hv
  simp only [Value.slice.injEq] at hv
  obtain ⟨hv1,_,_⟩:=hv
  subst hv1
  have gb:=(ho.ext.get b hlt').trans hb
  simp only [hvp,ia_26 hin,zA,zW ta_54 gb hle,hz,z_54,ze,zL,zS,box54]
  refine P72_6_of ?_
  have fb:Fx NoB h ((h.new (.row [.int .i64 0,.int .i64 0] 54 0 false)).upd h.next (some (.row (zJ p) 54 0 false))):=((Fx.refl ho.ext.ok).new _).upd (.inr (Nat.le_refl _)) _
  have tb:((h.new (.row [.int .i64 0,.int .i64 0] 54 0 false)).upd h.next (some (.row (zJ p) 54 0 false))).get h.next=some (.row (zJ p) 54 0 false):=zR _ _ _
  have nb:((h.new (.row [.int .i64 0,.int .i64 0] 54 0 false)).upd h.next (some (.row (zJ p) 54 0 false))).next=h.next+1:=rfl
  generalize ((h.new (.row [.int .i64 0,.int .i64 0] 54 0 false)).upd h.next (some (.row (zJ p) 54 0 false)))=k1 at fb tb nb
  have o1:=fb.own ho (fun _ h=>h.elim)
  have f1:Fx (fun c=>c=m) h1 k1:=f.trans fb (fun _ h=>h.elim)
  have hm1:k1.get m=_:=(fb.get m (by have:=f.next;omega) (fun h=>h)).trans hm
  have c0:=zD (P:=E) zAS (o:=0) tb
  have c1:=zD (P:=E) zAS (o:=1) tb
  have x0:=zD (P:=E) zAS (o:=0) ((f1.get b3 h3l (ne_map h3 hm0)).trans h3)
  have y0:=zD (P:=E) zAS (o:=0) ((f1.get b4 h4l (ne_map h4 hm0)).trans h4)
  simp only [lnth,zJ] at c0 c1 x0 y0
  simp only [ia54_0,ia54_1,c0,zB1,Nat.add_zero,x0,zA,zA2]
  have bad:inB n1 n2 p=false->P72_7 false (KR E [.tmp 6] (fun x l=>x=.bool V/\k.next<=l.wm)) k1:=by
   intro hb
   refine P72_7_of ?_
   simp only [zA,zAN,zX,true_and]
   refine ⟨?_,o1.wm⟩
   rw [hV]
   have:prs.all (inB n1 n2)=false:=by
    rw [List.all_eq_false]
    exact ⟨p,hpm,by rw [hb];simp⟩
   unfold relB
   rw [this];rfl
  by_cases e1:n1<=p.1
  ·simp only [e1,decide_true,zM,show (true==false)=false from rfl,cond_false,zA,zK,cond_true,zAK]
   exact bad (by simp [inB];omega)
  ·simp only [e1,decide_false,zM,beq_self_eq_true,cond_true,c1,zB1,Nat.add_zero,y0,zA,zA2,zK,cond_false]
   by_cases e2:n2<=p.2
   ·simp only [e2,decide_true,zAK]
    exact bad (by simp [inB];omega)
   ·simp only [e2,decide_false,zAE]
    refine P72_8_of ?_
    have l8:=zD (P:=E) ta_174 (o:=2) ((f1.get b8 h8l (ne_map h8 hm0)).trans h8)
    simp only [lnth,zAi] at l8
    have lp:=zW (P:=E) ta_54 (o:=0) tb (by simp [zJ])
    rw [List.drop_zero,List.take_of_length_le (by simp [zJ])] at lp
    obtain ⟨R',u1,u2,u3⟩:=upd174 hm1 hnd p
    simp only [fa_176_2,Nat.zero_add,l8,lp,zA,u1,zL]
    refine P72_9_of ?_
    simp only [zAJ _ (add1 hin (by omega)),zA]
    have f2:Fx (fun c=>c=m) h1 (k1.upd m (some (.map (ent R') (ver+1)))):=f1.upd (.inl rfl) _
    have f3:Fx (fun c=>c=m) k1 (k1.upd m (some (.map (ent R') (ver+1)))):=Fx.upd (P:=fun c=>c=m) (Fx.refl o1.ext.ok) (.inl rfl) _
    have:=ih (i+1) (by omega) _ R' (ver+1) (f3.own o1 (fun c h=>by rw [h];exact hkm)) f2 (zR _ _ _) u2 (fun q=>by
     rw [u3,hmem,hpt,List.mem_append,List.mem_singleton]
     exact Or.comm) (by
     rw [hpt,List.all_append,hall]
     simp [inB];omega)
    rw [hvp] at this
    simpa using this
end Go.Proofs
