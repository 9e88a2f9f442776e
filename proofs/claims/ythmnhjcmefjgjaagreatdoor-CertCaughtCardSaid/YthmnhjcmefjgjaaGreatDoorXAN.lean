import Derived.Test.YthmnhjcmefjgjaaGreatDoorXAM
import Derived.Test.YthmnhjcmefjgjaaGreatDoorXAD
import Derived.Test.YthmnhjcmefjgjaaGreatDoorXAE
set_option linter.all false
set_option linter.unusedSectionVars false
set_option autoImplicit true
set_option relaxedAutoImplicit true
namespace Go.Proofs
open Go Go.AM
set_option maxRecDepth 100000
set_option maxHeartbeats 1000000
abbrev Rel:=List (Int×Int)
def ent (R:Rel):List (Value×Value):=R.map fun p=>(.agg ⟨zG p⟩,.bool true)
theorem u54:und E 54=some (.array 2 3):=zRS
theorem u3:und E 3=some (.int .i64):=by kernel_rfl
theorem mk174:zPF E 174=some (54,4):=by kernel_rfl
theorem z4:zAG E 4=some (.bool false):=by kernel_rfl
theorem zb2 (a b c d:Int):zAn [.int .i64 a,.int .i64 b] [.int .i64 c,.int .i64 d]=some (decide ((a,b)=(c,d))):=by
 have hb:zAn [.int .i64 b] [.int .i64 d]=some (decide (b=d)):=by
  simp only [zAn]
  have:keq .i64 .i64=true:=rfl
  simp only [this,if_true,zC5]
  by_cases h:b=d
  ·simp [h]
  ·have:(b==d)=false:=by simpa using h
   simp [this,h]
 simp only [zAn] at hb ⊢
 have hk:keq .i64 .i64=true:=rfl
 simp only [hk,if_true,zC5] at hb ⊢
 rw [hb]
 by_cases h:a=c
 ·simp [h]
 ·have:(a==c)=false:=by simpa using h
  simp [this,h]
theorem zSc (p q:Int×Int):zBm E 54 (.agg ⟨zG p⟩) (.agg ⟨zG q⟩)=some (decide (p=q)):=by
 simp only [zBm,u54,u3,ts_3,zG,zA1]
 show cond (Nat.beq (0+1+1) 2) (zAn [.int .i64 p.1,.int .i64 p.2] [.int .i64 q.1,.int .i64 q.2]) none=_
 rw [zb2]
 rfl
theorem zMU (p:Int×Int):zDw E 54 (.agg ⟨zG p⟩)=true:=by
 simp only [zDw,u54,u3,ts_3,zG];rfl
theorem zNw:∀ {R:Rel},R.Nodup->∀ q:Int×Int,zAf E 54 (.agg ⟨zG q⟩) (ent R)=some (if q∈R then some (.bool true) else none)
 | [],_,q=>by simp [ent,zAf]
 | p::R,h,q=>by
  obtain ⟨h1,h2⟩:=List.nodup_cons.1 h
  have ih:=zNw h2 q
  simp only [ent,List.map_cons,zAf] at ih ⊢
  rw [zSc,ih]
  by_cases e:q=p
  ·subst e
   simp [h1]
  ·simp [e]
theorem look174 {h:AH} {m ver:Nat} {R:Rel} (hm:h.get m=some (.map (ent R) ver)) (hR:R.Nodup) (q:Int×Int) :
  zDT E 174 false (some (.map (some m))) (some (.agg ⟨zG q⟩)) h=some (.bool (decide (q∈R))):=by
 simp only [zDT,zG8,mk174,zFP,hm,zMU,cond_true,zNw hR]
 by_cases e:q∈R
 ·simp [e,zHF,okV]
 ·simp [e,zHF,z4,okV]
theorem pb54 {a b:Int}:zAi E 54 (some [(0,.int .i64 a),(1,.int .i64 b)])=some (.agg ⟨zG (a,b)⟩):=by kernel_rfl
abbrev zAm (x y:Value) (m:Nat):List Value:=[x,y,.map (some m)]
theorem zJd {k:AH} {x y:Value} {m ver:Nat} {R:Rel} (hok:k.ok) (hm:k.get m=some (.map (ent R) ver)) (hml:m<k.next) (hR:R.Nodup) (s t:Int) :
  (zW E).call 123 [.agg ⟨zAm x y m⟩,.int .i64 s,.int .i64 t] k=some [(.bool (decide ((s,t)∈R)),k)]:=by
 refine za8 (s:=true) hok rfl (zZ2 ?_)
 simp only [zd,zL,zV,zA]
 refine zZ1 ?_
 have o1:=(Own.fresh k).new (.row (zAm x y m) 176 0 false)
 have t1:=zI k.fresh (.row (zAm x y m) 176 0 false)
 simp only [zZ] at t1 ⊢
 generalize k.fresh.new (.row (zAm x y m) 176 0 false)=k1 at o1 t1
 have l2:=zF (P:=E) zJ1 (o:=2) t1
 simp only [lnth,zAm] at l2
 have hm1:=(o1.ext.get m hml).trans hm
 simp only [zFL,Nat.zero_add,l2,zA,pb54,look174 hm1 hR,zAJ,zT,true_and]
 exact o1.wm
def zEz (R:Rel) (x y:Int×Int):Bool:=decide (y.1=x.1)&&decide ((x.2,y.2)∈R)
theorem call174 {k:AH} {gx gy:Value} {m ver:Nat} {R:Rel} {x y:Int×Int} {bx bf ty1 ty2:Nat} (hok:k.ok) (hm:k.get m=some (.map (ent R) ver)) (hml:m<k.next) (hR:R.Nodup) (hx:k.get bx=some (.row (zG x) ty1 0 false)) (hxl:bx<k.next) (hf:k.get bf=some (.row (zAm gx gy m) ty2 0 false)) (hfl:bf<k.next) :
  (zW E).call 174 [.agg ⟨zG y⟩,ptr bx,ptr bf] k=some [(.bool (zEz R x y),k)]:=by
 refine zaj (s:=true) hok rfl (zXg ?_)
 simp only [zd,zL,zV,zA]
 refine zXf ?_
 have o1:=(Own.fresh k).new (.row (zG y) 134 0 false)
 have t1:=zI k.fresh (.row (zG y) 134 0 false)
 simp only [zZ] at t1 ⊢
 generalize k.fresh.new (.row (zG y) 134 0 false)=k1 at o1 t1
 have hx1:=(o1.ext.get bx hxl).trans hx
 have hf1:=(o1.ext.get bf hfl).trans hf
 have hm1:=(o1.ext.get m hml).trans hm
 have y0:=zF (P:=E) zAS (o:=0) t1
 have y1:=zF (P:=E) zAS (o:=1) t1
 have x0:=zF (P:=E) zAS (o:=0) hx1
 have x1:=zF (P:=E) zAS (o:=1) hx1
 have lf:=za (P:=E) zJ0 (o:=0) hf1 (by simp [zAm])
 rw [List.drop_zero,List.take_of_length_le (by simp [zAm])] at lf
 simp only [lnth,zG] at y0 y1 x0 x1
 simp only [zGd,zCQ,Nat.add_zero,Nat.zero_add,y0,x0,zA,zAZ]
 by_cases e:y.1=x.1
 ·simp only [e,decide_true,zM,zP,beq_self_eq_true,cond_true,zDZ,zCQ,Nat.add_zero,Nat.zero_add,lf,x1,y1,zA,zS,zJd o1.ext.ok hm1 (Nat.lt_of_lt_of_le hml o1.ext.next) hR,zN,zJ,zAJ,zT,true_and,zEz,Bool.true_and]
  exact o1.wm
 ·simp only [e,decide_false,zM,zP,zt,zx,show (false==true)=false from rfl,cond_false,zA,zL,zJ,zAJ,zT,true_and,zEz,Bool.false_and]
  exact o1.wm
theorem zFS {h:AH} {c:Value} {S:zAF} (k:CellOK h c S):Arr h 2 c (S.map zG):=by
 rcases k with ⟨rfl,rfl⟩|⟨b,rfl,hg,hlt⟩
 ·exact .nil _ _
 ·have:=Arr.row (h:=h) (z:=2) (b:=b) (o:=0) (c:=UNK+2) (els:=S.map zG) hg hlt (by simp [zLy]) (fun i e he=>by
   simp only [List.getElem?_map] at he
   cases hx:S[i]? with
   | none=>rw [hx] at he;cases he
   | some x=>
    rw [hx] at he
    simp only [Option.map_some,Option.some.injEq] at he
    subst he
    refine ⟨rfl,?_⟩
    rw [Nat.zero_add]
    have:∀ (S:zAF) (i:Nat),S[i]?=some x->((stc S).drop (i*2)).take 2=zG x:=by
     intro S
     induction S with
     | nil=>intro i h;simp at h
     | cons y S ih=>
      intro i h
      cases i with
      | zero=>simp at h;subst h;rfl
      | succ i=>
       rw [show (i+1)*2=i*2+2 by omega]
       have:=ih i (by simpa using h)
       rw [← this]
       rfl
    exact this S i hx)
  simpa using this
theorem idx_any (p:Nat->Bool) (n:Nat):decide (0<=zm p n 0)=(List.range n).any p:=by
 have h:=zBW (p:=p) n 0
 cases hb:(List.range n).any p with
 | true=>
  have:¬ zm p n 0<0:=by
   intro hneg
   have:=h.2 hneg
   obtain ⟨j,hj,hp⟩:=List.any_eq_true.1 hb
   rw [this j (Nat.zero_le _) (by have:=List.mem_range.1 hj;omega)] at hp
   cases hp
  exact decide_eq_true (by omega)
 | false=>
  have:zm p n 0<0:=h.1 fun j _ hj=>by
   have:=List.any_eq_false.1 hb j (List.mem_range.2 (by omega))
   simpa using this
  exact decide_eq_false (by omega)
structure GV (h:AH) (bg:Nat) (SS:List zAF):Prop where
 ex:∃ loc bs cells,GG loc h bg bs cells SS
theorem GV.ext {h k:AH} {bg:Nat} {SS:List zAF} (g:GV h bg SS) (e:Ext h k):GV k bg SS:=by
 obtain ⟨loc,bs,cells,G⟩:=g.ex
 refine ⟨loc,bs,cells,(e.get bg G.ltg).trans G.g,(e.get bs G.lts).trans G.s,G.len,G.ne,Nat.lt_of_lt_of_le G.ltg e.next,Nat.lt_of_lt_of_le G.lts e.next,G.locg,G.locs,fun i c S hc hS=>?_,G.blk,G.dis⟩
 rcases G.cell i c S hc hS with a|⟨b,a1,a2,a3⟩
 ·exact .inl a
 ·exact .inr ⟨b,a1,(e.get b a3).trans a2,Nat.lt_of_lt_of_le a3 e.next⟩
def zDt (R:Rel) (S:zAF) (x:Int×Int):Bool:=S.any fun y=>zEz R x y
def pAt (S:zAF) (f:Int×Int->Bool) (i:Nat):Bool:=match S[i]? with
 | some y=>f y
 | none=>false
theorem any_pAt (S:zAF) (f:Int×Int->Bool):(List.range S.length).any (pAt S f)=S.any f:=by
 rw [Bool.eq_iff_iff]
 simp only [List.any_eq_true,List.mem_range]
 constructor
 ·rintro ⟨i,hi,h⟩
  unfold pAt at h
  rw [List.getElem?_eq_getElem hi] at h
  exact ⟨_,List.getElem_mem hi,h⟩
 ·rintro ⟨y,hy,h⟩
  obtain ⟨i,hi⟩:=List.mem_iff_getElem?.1 hy
  refine ⟨i,(List.getElem?_eq_some_iff.1 hi).1,?_⟩
  unfold pAt
  rw [hi];exact h
theorem zM2 {k:AH} {gx:Value} {bg m ver t:Nat} {R:Rel} {SS:List zAF} {S:zAF} {x:Int×Int} {v1:Value} (hok:k.ok) (hm:k.get m=some (.map (ent R) ver)) (hml:m<k.next) (hR:R.Nodup) (hg:GV k bg SS) (hS:SS[t]?=some S) (hSl:S.length<=1000000) :
  (zW E).call 128 [.agg ⟨zAm gx (ptr bg) m⟩,v1,.int .i64 (t:Int),.agg ⟨zG x⟩] k=some [(.bool (zDt R S x),k)]:=by
 refine za4 (s:=true) hok rfl (zZf ?_)
 simp only [zd,zL,zV,zA]
 refine zZe ?_
 have o1:=((Own.fresh k).new (.row (zAm gx (ptr bg) m) 178 0 false)).new (.row (zG x) 134 0 false)
 have tf:((k.fresh.new (.row (zAm gx (ptr bg) m) 178 0 false)).new (.row (zG x) 134 0 false)).get k.next=some (.row (zAm gx (ptr bg) m) 178 0 false):=by
  rw [zK (by simp)];exact zI k.fresh _
 have tx:((k.fresh.new (.row (zAm gx (ptr bg) m) 178 0 false)).new (.row (zG x) 134 0 false)).get (k.next+1)=some (.row (zG x) 134 0 false):=zI (k.fresh.new _) _
 have n1:((k.fresh.new (.row (zAm gx (ptr bg) m) 178 0 false)).new (.row (zG x) 134 0 false)).next=k.next+2:=rfl
 simp only [zZ,AH.next_new]
 generalize ((k.fresh.new (.row (zAm gx (ptr bg) m) 178 0 false)).new (.row (zG x) 134 0 false))=k1 at o1 tf tx n1
 obtain ⟨loc,bs,cells,G⟩:=(hg.ext o1.ext).ex
 have hm1:=(o1.ext.get m hml).trans hm
 have lf:=zF (P:=E) zDD (o:=1) tf
 have lg:=zF (P:=E) zHw (o:=0) G.g
 simp only [lnth,zAm] at lf lg
 have ht:t<cells.length:=by rw [G.len];exact (List.getElem?_eq_some_iff.1 hS).1
 have hc:cells[t]?=some cells[t]:=List.getElem?_eq_getElem ht
 have ls:=zF (P:=E) zHv (o:=0+t*1) G.s
 rw [zAk,show 0+t*1=t by omega,hc] at ls
 have ia:=zNq (b:=bs) (o:=0) (c:=cells.length) ht
 rw [show 0+t*1=t by omega] at ia
 have hcell:=G.cell t _ _ hc hS
 have hcf:=call173 (h0:=k1) (v:=cells[t]) (f:=.func (.func 174) #[] #[ptr (k.next+1),ptr k.next]) (p:=pAt S (zEz R x)) (zFS hcell) (by simp;omega) (fun k2 hk2 i e he=>by
  simp only [List.getElem?_map] at he
  cases hy:S[i]? with
  | none=>rw [hy] at he;cases he
  | some y=>
   rw [hy] at he
   simp only [Option.map_some,Option.some.injEq] at he
   subst he
   have:=call174 (k:=k2) (y:=y) (gx:=gx) (gy:=ptr bg) hk2.ok ((hk2.get m (Nat.lt_of_lt_of_le hml o1.ext.next)).trans hm1) (Nat.lt_of_lt_of_le (Nat.lt_of_lt_of_le hml o1.ext.next) hk2.next) hR ((hk2.get _ (by omega)).trans tx) (by have:=hk2.next;omega) ((hk2.get _ (by omega)).trans tf) (by have:=hk2.next;omega)
   simp only [zD9,List.nil_append,List.cons_append,pAt,hy]
   exact this) (Ext.refl o1.ext.ok)
 simp only [zDZ,zJW,Nat.add_zero,Nat.zero_add,lf,zA,zAu,zGe,lg,ia,ls,zAt,zS,hcf,zN,zAJ,zT,true_and]
 refine ⟨?_,o1.wm⟩
 rw [idx_any,List.length_map,any_pAt]
 rfl
theorem ev_list {α:Type} {l:List α} {Q:α->Prop} (h1:l≠[]) (h2:∀ a∈l,Q a):Ev false (some l) Q:=⟨l,rfl,h1,(fun h=>by cases h),h2⟩
theorem zJx {α:Type}:∀ (l pre:List α) (x:α×List α),x∈zI1 pre l->∃ l1 l2,l=l1++x.1::l2/\x.2=pre++l1++l2
 | [],_,x,h=>by cases h
 | a::l,pre,x,h=>by
  simp only [zI1,List.mem_cons] at h
  rcases h with rfl|h
  ·exact ⟨[],l,rfl,by simp⟩
  ·obtain ⟨l1,l2,e1,e2⟩:=zJx l (pre++[a]) x h
   exact ⟨a::l1,l2,by rw [e1];rfl,by rw [e2];simp⟩
theorem zKE {h:AH} {m ver:Nat} {es:List (Value×Value)} (hm:h.get m=some (.map es ver)):zF5 (some (.map (some m))) h=one (ptr h.next,h.new (.iter (some m) ver es none)):=by
 simp only [zF5,hm]
theorem zNc {h:AH} {b m ver:Nat} {es:List (Value×Value)} {cur:Option (Value×Value)} (hb:h.get b=some (.iter (some m) ver [] cur)) (hm:h.get m=some (.map es ver)) :
  zGH false (some (ptr b)) h=one (.tuple #[.bool false],h):=by
 simp only [zGH,zSE,hb,hm,Nat.beq_refl,Bool.not_true,Bool.false_eq_true,if_false]
theorem zKK {h:AH} {b m ver:Nat} {es left:List (Value×Value)} {cur:Option (Value×Value)} {Q:Value×AH->Prop} (hb:h.get b=some (.iter (some m) ver left cur)) (hm:h.get m=some (.map es ver)) (hl:left≠[])
  (hQ:∀ e l1 l2,left=l1++e::l2->Q (.tuple #[.bool true,e.1,e.2],h.upd b (some (.iter (some m) ver (l1++l2) (some e))))):Ev false (zGH false (some (ptr b)) h) Q:=by
 cases left with
 | nil=>exact absurd rfl hl
 | cons a l=>
  have:zGH false (some (ptr b)) h=some ((zI1 [] (a::l)).map fun x=>(.tuple #[.bool true,x.1.1,x.1.2],h.upd b (some (.iter (some m) ver x.2 (some x.1))))):=by
   simp only [zGH,zSE,hb,hm,Nat.beq_refl,Bool.not_true,Bool.false_eq_true,if_false]
  rw [this]
  refine ev_list (by simp [zI1]) fun y hy=>?_
  obtain ⟨x,hx,rfl⟩:=List.mem_map.1 hy
  obtain ⟨l1,l2,e1,e2⟩:=zJx _ _ _ hx
  rw [e2]
  exact hQ x.1 l1 l2 e1
theorem zNz {h:AH} {b m ver:Nat} {es left:List (Value×Value)} {e:Value×Value} (hb:h.get b=some (.iter (some m) ver left (some e))) (hm:h.get m=some (.map es ver)):zGu (some (ptr b)) h=some (.tuple #[e.1,e.2]):=by
 simp only [zGu,zN0,hb,hm,Nat.beq_refl,if_true]
theorem zKm {R:Rel} {e:Value×Value} {l1 l2:List (Value×Value)} (h:ent R=l1++e::l2):∃ R1 p R2,R=R1++p::R2/\l1=ent R1/\e=(.agg ⟨zG p⟩,.bool true)/\l2=ent R2:=by
 unfold ent at h
 obtain ⟨R1,R3,e1,e2,e3⟩:=List.map_eq_append_iff.1 h
 obtain ⟨p,R2,e4,e5,e6⟩:=List.map_eq_cons_iff.1 e3
 exact ⟨R1,p,R2,by rw [e1,e4],e2.symm,e5.symm,e6.symm⟩
theorem zIT (R1 R2:Rel):ent R1++ent R2=ent (R1++R2):=by simp [ent]
theorem zb0 {k:AH} {p:Int×Int} :
  ze E 54 (k.new (.row [.int .i64 0,.int .i64 0] 54 0 false)) (some (ptr k.next)) (some (.agg ⟨zG p⟩))=one (undef,(k.new (.row [.int .i64 0,.int .i64 0] 54 0 false)).upd k.next (some (.row (zG p) 54 0 false))):=by
 rw [zw (P:=E) zHg (x:=.agg ⟨zG p⟩) (cs:=zG p) (zI k _) rfl rfl (by simp) (by simp [zG,zr])]
 rfl
theorem box134 {k:AH} {p:Int×Int} :
  ze E 134 (k.new (.row [.int .i64 0,.int .i64 0] 134 0 false)) (some (ptr k.next)) (some (.agg ⟨zG p⟩))=one (undef,(k.new (.row [.int .i64 0,.int .i64 0] 134 0 false)).upd k.next (some (.row (zG p) 134 0 false))):=by
 rw [zw (P:=E) ts_134 (x:=.agg ⟨zG p⟩) (cs:=zG p) (zI k _) rfl rfl (by simp) (by simp [zG,zr])]
 rfl
def zTm (R:Rel) (SS:List zAF) (fB:Int×Int->Int×Int->Bool):Bool:=R.all fun p=>match SS[p.1.toNat]? with
 | some S=>S.all (fB p)
 | none=>true
theorem zTS {h0 k:AH} {b1 b2 m ver:Nat} {R:Rel} {SS:List zAF} {fol can:FuncId} {nm:ByteArray} {fB:Int×Int->Int×Int->Bool} (hh:Ext h0 k) (hm:h0.get m=some (.map (ent R) ver)) (hml:m<h0.next) (hg:GV h0 b1 SS)
  (hin:∀ p∈R,0<=p.1/\p.1<SS.length) (hsz:∀ (i:Nat) (S:zAF),SS[i]?=some S->S.length<=1000000)
  (hfol:∀ k',Ext h0 k'->∀ p∈R,∀ x S,SS[p.1.toNat]?=some S->x∈S->(zW E).call fol [.agg ⟨zAm (ptr b1) (ptr b2) m⟩,.int .i64 p.1,.int .i64 p.2,.agg ⟨zG x⟩] k'=some [(.bool (fB p x),k')]) :
  (zW E).call 124 [.agg ⟨zAm (ptr b1) (ptr b2) m⟩,.agg ⟨[.func (.func fol) #[] #[],.func (.func can) #[] #[],.string nm]⟩] k=some [(.bool (zTm R SS fB),k)]:=by
 refine za7 (s:=false) hh.ok rfl (zZ0 ?_)
 simp only [zd,zL,zV,zA]
 refine zZz ?_
 have o1:=((Own.fresh k).new (.row (zAm (ptr b1) (ptr b2) m) 178 0 false)).new (.row [.func (.func fol) #[] #[],.func (.func can) #[] #[],.string nm] 112 0 false)
 have tf:((k.fresh.new (.row (zAm (ptr b1) (ptr b2) m) 178 0 false)).new (.row [.func (.func fol) #[] #[],.func (.func can) #[] #[],.string nm] 112 0 false)).get k.next=some (.row (zAm (ptr b1) (ptr b2) m) 178 0 false):=by
  rw [zK (by simp)];exact zI k.fresh _
 have tm:((k.fresh.new (.row (zAm (ptr b1) (ptr b2) m) 178 0 false)).new (.row [.func (.func fol) #[] #[],.func (.func can) #[] #[],.string nm] 112 0 false)).get (k.next+1)=some (.row [.func (.func fol) #[] #[],.func (.func can) #[] #[],.string nm] 112 0 false):=zI (k.fresh.new _) _
 have n1:((k.fresh.new (.row (zAm (ptr b1) (ptr b2) m) 178 0 false)).new (.row [.func (.func fol) #[] #[],.func (.func can) #[] #[],.string nm] 112 0 false)).next=k.next+2:=rfl
 simp only [zZ,AH.next_new]
 generalize ((k.fresh.new (.row (zAm (ptr b1) (ptr b2) m) 178 0 false)).new (.row [.func (.func fol) #[] #[],.func (.func can) #[] #[],.string nm] 112 0 false))=k1 at o1 tf tm n1
 have e1:=hh.trans o1.ext
 have l2:=zF (P:=E) zJ1 (o:=2) tf
 simp only [lnth,zAm] at l2
 have hm1:=(e1.get m hml).trans hm
 simp only [zDZ,zFL,Nat.add_zero,Nat.zero_add,l2,zA,zKE hm1,zL]
 have loop:∀ (n:Nat) (Lf:Rel),Lf.length=n->(∀ p∈Lf,p∈R)->zTm R SS fB=zTm Lf SS fB->∀ l cur,Own k l->l.get k.next=some (.row (zAm (ptr b1) (ptr b2) m) 178 0 false)->l.get (k.next+1)=some (.row [.func (.func fol) #[] #[],.func (.func can) #[] #[],.string nm] 112 0 false)->
   l.get k1.next=some (.iter (some m) ver (ent Lf) cur)->k1.next<l.next->
   P124_2 false (KR E [.tmp 4] (fun x l=>x=.bool (zTm R SS fB)/\k.next<=l.wm)) (ptr k.next) (ptr (k.next+1)) (ptr k1.next) l:=by
  intro n
  induction n with
  | zero=>
   intro Lf hLf hsub heq l cur ho hf hmm hit hlt
   have:Lf=[]:=List.length_eq_zero_iff.1 hLf
   subst this
   refine zLj ?_
   have hml':=((hh.trans ho.ext).get m hml).trans hm
   simp only [zNc hit hml',zL,z6,lnth,zA,zk]
   refine zQm ?_
   simp only [zA,zAJ,zT,true_and]
   exact ⟨by rw [heq];rfl,ho.wm⟩
  | succ n ih=>
   intro Lf hLf hsub heq l cur ho hf hmm hit hlt
   refine zLj ?_
   have he:=hh.trans ho.ext
   have hml':=(he.get m hml).trans hm
   refine zKK hit hml' (by cases Lf with|nil=>simp at hLf|cons a l=>simp [ent]) fun e l1 l2 hsp=>?_
   obtain ⟨R1,p,R2,hR,hl1,hep,hl2⟩:=zKm hsp
   subst hep
   rw [hl1,hl2,zIT]
   simp only [z6,lnth,zA,zu]
   refine zZy ?_
   have hkl:=ho.ext.next
   have o2:=ho.upd (b:=k1.next) (by omega) (some (.iter (some m) ver (ent (R1++R2)) (some (.agg ⟨zG p⟩,.bool true))))
   have i2:(l.upd k1.next (some (.iter (some m) ver (ent (R1++R2)) (some (.agg ⟨zG p⟩,.bool true))))).get k1.next=_:=zR _ _ _
   have f2:(l.upd k1.next (some (.iter (some m) ver (ent (R1++R2)) (some (.agg ⟨zG p⟩,.bool true))))).get k.next=_:=(zU (by omega)).trans hf
   have m2:(l.upd k1.next (some (.iter (some m) ver (ent (R1++R2)) (some (.agg ⟨zG p⟩,.bool true))))).get (k.next+1)=_:=(zU (by omega)).trans hmm
   have n2:(l.upd k1.next (some (.iter (some m) ver (ent (R1++R2)) (some (.agg ⟨zG p⟩,.bool true))))).next=l.next:=rfl
   generalize (l.upd k1.next (some (.iter (some m) ver (ent (R1++R2)) (some (.agg ⟨zG p⟩,.bool true)))))=l2 at o2 i2 f2 m2 n2
   have hml2:=((hh.trans o2.ext).get m hml).trans hm
   simp only [zNz i2 hml2,zA,z6,lnth,z_54,zd,zL,zV,zb0]
   refine zZx ?_
   have o3:=(o2.new (.row [.int .i64 0,.int .i64 0] 54 0 false)).upd (b:=l2.next) (by omega) (some (.row (zG p) 54 0 false))
   have p3:((l2.new (.row [.int .i64 0,.int .i64 0] 54 0 false)).upd l2.next (some (.row (zG p) 54 0 false))).get l2.next=some (.row (zG p) 54 0 false):=zR _ _ _
   have i3:((l2.new (.row [.int .i64 0,.int .i64 0] 54 0 false)).upd l2.next (some (.row (zG p) 54 0 false))).get k1.next=_:=((zU (by omega)).trans (zK (by omega))).trans i2
   have f3:((l2.new (.row [.int .i64 0,.int .i64 0] 54 0 false)).upd l2.next (some (.row (zG p) 54 0 false))).get k.next=_:=((zU (by omega)).trans (zK (by omega))).trans f2
   have m3:((l2.new (.row [.int .i64 0,.int .i64 0] 54 0 false)).upd l2.next (some (.row (zG p) 54 0 false))).get (k.next+1)=_:=((zU (by omega)).trans (zK (by omega))).trans m2
   have n3:((l2.new (.row [.int .i64 0,.int .i64 0] 54 0 false)).upd l2.next (some (.row (zG p) 54 0 false))).next=l2.next+1:=rfl
   generalize ((l2.new (.row [.int .i64 0,.int .i64 0] 54 0 false)).upd l2.next (some (.row (zG p) 54 0 false)))=l3 at o3 p3 i3 f3 m3 n3
   have hpR:p∈R:=hsub p (by rw [hR];simp)
   obtain ⟨hp1,hp2⟩:=hin p hpR
   obtain ⟨s,hs⟩:=Int.eq_ofNat_of_zero_le hp1
   have hsS:s<SS.length:=by omega
   have hSs:SS[s]?=some SS[s]:=List.getElem?_eq_getElem hsS
   have hSp:SS[p.1.toNat]?=some SS[s]:=by rw [hs];exact hSs
   obtain ⟨loc,bs,cells,G⟩:=(hg.ext (hh.trans o3.ext)).ex
   have hsc:s<cells.length:=by rw [G.len];exact hsS
   have hcs:cells[s]?=some cells[s]:=List.getElem?_eq_getElem hsc
   have q0:=zF (P:=E) zDD (o:=0) f3
   have q1:=zF (P:=E) zHw (o:=0) G.g
   have q2:=zF (P:=E) zAS (o:=0) p3
   have q3:=zF (P:=E) zHv (o:=0+s*1) G.s
   simp only [lnth,zAm,zG] at q0 q1 q2
   rw [zAk,show 0+s*1=s by omega,hcs] at q3
   rw [hs] at q2
   have ia:=zNq (b:=bs) (o:=0) (c:=cells.length) hsc
   rw [show 0+s*1=s by omega] at ia
   have hcell:=G.cell s _ _ hcs hSs
   obtain ⟨ca,cc,hcc⟩:=(zFS hcell).slice
   rw [List.length_map] at hcc
   have harr:=zFS hcell
   rw [hcc] at q3 harr
   simp only [zDZ,zNy,Nat.add_zero,q0,zA,zAu,zGe,q1,zIL,q2,ia,q3,zMQ]
   have hgood:zTm Lf SS fB=((SS[s]).all (fB p)&&zTm (R1++R2) SS fB):=by
    rw [hR]
    simp only [zTm,List.all_append,List.all_cons,hSp]
    cases (SS[s]).all (fB p) <;> simp
   have steps:∀ (j i:Nat),i+j=(SS[s]).length->((SS[s]).drop i).all (fB p)=(SS[s]).all (fB p)->∀ l4,Ext l3 l4->k.next<=l4.wm->
     P124_5 false (KR E [.tmp 4] (fun x l=>x=.bool (zTm R SS fB)/\k.next<=l.wm)) (ptr k.next) (ptr (k.next+1)) (ptr l2.next) (ptr k1.next) (.slice ca (SS[s]).length cc) (.int .i64 ((SS[s]).length:Int)) (.int .i64 (i:Int)) l4:=by
    intro j
    induction j with
    | zero=>
     intro i hi hall l4 he4 hw4
     have hx:=he4.next
     refine zLi ?_
     simp only [zY,zA,zAA]
     refine ⟨fun h=>by omega,fun _=>?_⟩
     have ht:(SS[s]).all (fB p)=true:=by rw [← hall,List.drop_eq_nil_of_le (by omega)];rfl
     exact ih (R1++R2) (by rw [hR] at hLf;simp at hLf ⊢;omega) (fun q hq=>hsub q (by rw [hR];rcases List.mem_append.1 hq with h|h <;> simp [h])) (by rw [heq,hgood,ht];rfl) l4 _ ⟨o3.ext.trans he4,hw4⟩
      ((he4.get _ (by omega)).trans f3) ((he4.get _ (by omega)).trans m3) ((he4.get _ (by omega)).trans i3) (by omega)
    | succ j ihj=>
     intro i hi hall l4 he4 hw4
     have hx:=he4.next
     have hin':i<(SS[s]).length:=by omega
     refine zLi ?_
     simp only [zY,zA,zAA]
     refine ⟨fun _=>zZw ?_,fun h=>by omega⟩
     have hat:((SS[s]).map zG)[i]?=some (zG (SS[s])[i]):=by simp [hin']
     obtain ⟨b',o',c',vs',ty',es',ro',hv',hb',hlt',hle',hz',hzl'⟩:=harr.load hat
     simp only [Value.slice.injEq] at hv'
     obtain ⟨hv1,_,_⟩:=hv'
     subst hv1
     have gb':=(he4.get b' hlt').trans hb'
     simp only [zSq hin',zA,za zHu gb' hle',hz',z_134,zd,zL,zV,box134]
     refine zZv ?_
     have e5:=(he4.new (.row [.int .i64 0,.int .i64 0] 134 0 false)).upd (b:=l4.next) hx (some (.row (zG (SS[s])[i]) 134 0 false))
     have x5:((l4.new (.row [.int .i64 0,.int .i64 0] 134 0 false)).upd l4.next (some (.row (zG (SS[s])[i]) 134 0 false))).get l4.next=some (.row (zG (SS[s])[i]) 134 0 false):=zR _ _ _
     have w5:k.next<=((l4.new (.row [.int .i64 0,.int .i64 0] 134 0 false)).upd l4.next (some (.row (zG (SS[s])[i]) 134 0 false))).wm:=z9 (by rw [zC9];exact hw4) (by omega)
     generalize ((l4.new (.row [.int .i64 0,.int .i64 0] 134 0 false)).upd l4.next (some (.row (zG (SS[s])[i]) 134 0 false)))=l5 at e5 x5 w5
     have f5:=(e5.get _ (by omega)).trans f3
     have m5:=(e5.get _ (by omega)).trans m3
     have p5:=(e5.get _ (by omega)).trans p3
     have r0:=zF (P:=E) ta_109 (o:=0) m5
     have r1:=za (P:=E) ta_178 (o:=0) f5 (by simp [zAm])
     have r2:=zF (P:=E) zAS (o:=0) p5
     have r3:=zF (P:=E) zAS (o:=1) p5
     have r4:=za (P:=E) zHu (o:=0) x5 (by simp [zG])
     rw [List.drop_zero,List.take_of_length_le (by simp [zAm])] at r1
     rw [List.drop_zero,List.take_of_length_le (by simp [zG])] at r4
     simp only [lnth,zG] at r0 r2 r3
     have hcall:=hfol l5 ((hh.trans o3.ext).trans e5) p hpR (SS[s])[i] _ hSp (List.getElem_mem hin')
     simp only [zbn,Nat.add_zero,Nat.zero_add,r0,r1,r2,r3,r4,zA,zIL,zKb,zS,hcall,zN,zv]
     have hdrop:((SS[s]).drop i).all (fB p)=(fB p (SS[s])[i]&&((SS[s]).drop (i+1)).all (fB p)):=by rw [List.drop_eq_getElem_cons hin',List.all_cons]
     cases hq:fB p (SS[s])[i] with
     | false=>
      simp only [Bool.not_false,zu]
      refine zZu ?_
      simp only [zA,zAJ,zT,true_and]
      exact ⟨by rw [heq,hgood,← hall,hdrop,hq];rfl,w5⟩
     | true=>
      simp only [Bool.not_true,zk]
      refine zZt ?_
      simp only [zAM _ (zD7 hin' (by have:=hsz s _ hSs;omega)),zA]
      have:=ihj (i+1) (by omega) (by rw [← hall,hdrop,hq];rfl) l5 e5 w5
      simpa using this
   exact steps (SS[s]).length 0 (by omega) rfl l3 (Ext.refl o3.ext.ok) o3.wm
 exact loop R.length R rfl (fun p h=>h) rfl _ none (o1.new _) ((zK (by omega)).trans tf) ((zK (by omega)).trans tm) (zI _ _) (by simp)
def zbJ (q:Int×Int):Rel->Rel
 | []=>[q]
 | p::R=>if klt (.agg ⟨zG q⟩) (.agg ⟨zG p⟩) then q::p::R else p::zbJ q R
theorem zNo (q:Int×Int):∀ R:Rel,zBA (.agg ⟨zG q⟩) (.bool true) (ent R)=ent (zbJ q R)
 | []=>rfl
 | p::R=>by
  have:=zNo q R
  simp only [ent,List.map_cons,zBA,zbJ] at this ⊢
  split
  ·rfl
  ·rw [this];rfl
theorem zJK (q:Int×Int):∀ (R:Rel) (x:Int×Int),x∈zbJ q R ↔ x=q\/x∈R
 | [],x=>by simp [zbJ]
 | p::R,x=>by
  simp only [zbJ]
  split
  ·simp
  ·simp only [List.mem_cons,zJK q R]
   constructor
   ·rintro (h|h|h) <;> simp [h]
   ·rintro (h|h|h) <;> simp [h]
theorem zII {q:Int×Int}:∀ {R:Rel},R.Nodup->q ∉ R->(zbJ q R).Nodup
 | [],_,_=>by simp [zbJ]
 | p::R,h,hq=>by
  obtain ⟨h1,h2⟩:=List.nodup_cons.1 h
  simp only [List.mem_cons,not_or] at hq
  simp only [zbJ]
  split
  ·exact List.nodup_cons.2 ⟨by simp [hq.1,hq.2],h⟩
  ·exact List.nodup_cons.2 ⟨by rw [zJK];simp [h1];exact fun e=>hq.1 e.symm,zII h2 hq.2⟩
theorem veq_pr (q:Int×Int):veq 3 (.agg ⟨zG q⟩) (.agg ⟨zG q⟩)=true:=by
 show zIz 2 [.int .i64 q.1,.int .i64 q.2] [.int .i64 q.1,.int .i64 q.2]=true
 simp only [zIz,zC1,Bool.and_self]
theorem setE (q:Int×Int):∀ {R:Rel},R.Nodup->zB2 E 54 (.agg ⟨zG q⟩) (.bool true) (ent R)=some (ent R)
 | [],_=>rfl
 | p::R,h=>by
  obtain ⟨h1,h2⟩:=List.nodup_cons.1 h
  have ih:=setE q h2
  simp only [ent,List.map_cons,zB2] at ih ⊢
  rw [zSc,ih]
  by_cases e:q=p
  ·subst e
   simp [veq_pr]
  ·simp [e]
theorem upd174 {h:AH} {m ver:Nat} {R:Rel} (hm:h.get m=some (.map (ent R) ver)) (hR:R.Nodup) (q:Int×Int) :
  ∃ R',zAU E 174 (some (.map (some m))) (some (.agg ⟨zG q⟩)) (some (.bool true)) h=one (undef,h.upd m (some (.map (ent R') (ver+1))))/\R'.Nodup/\∀ x,x∈R' ↔ x=q\/x∈R:=by
 have hfl:zh (.agg ⟨zG q⟩)=true:=rfl
 by_cases e:q∈R
 ·refine ⟨R,?_,hR,fun x=>⟨.inr,fun h=>h.elim (fun h=>h ▸ e) id⟩⟩
  simp only [zAU,zBa,mk174,hm,zMU,hfl,Bool.and_self,cond_true,zDC,zNw hR,e,if_true,setE q hR,u1]
 ·refine ⟨zbJ q R,?_,zII hR e,fun x=>zJK q R x⟩
  simp only [zAU,zBa,mk174,hm,zMU,hfl,Bool.and_self,cond_true,zDC,zNw hR,e,if_false,zNo,u1]
theorem pb176 {a b:Option Addr} {m:Nat}:zAi E 176 (some [(0,.pointer a),(1,.pointer b),(2,.map (some m))])=some (.agg ⟨zAm (.pointer a) (.pointer b) m⟩):=by kernel_rfl
theorem box176 {k:AH} {a b:Option Addr} {m:Nat} :
  ze E 176 (k.new (.row [.pointer none,.pointer none,.map none] 176 0 false)) (some (ptr k.next)) (some (.agg ⟨zAm (.pointer a) (.pointer b) m⟩))=one (undef,(k.new (.row [.pointer none,.pointer none,.map none] 176 0 false)).upd k.next (some (.row (zAm (.pointer a) (.pointer b) m) 176 0 false))):=by
 rw [zw (P:=E) zNL (x:=.agg ⟨zAm (.pointer a) (.pointer b) m⟩) (cs:=zAm (.pointer a) (.pointer b) m) (zI k _) rfl rfl (by simp) (by simp [zAm,zr])]
 rfl
def zEf (p:Int×Int):Int×Int:=(p.2,p.1)
theorem zRw {h:AH} {lo b1 b2 m ver:Nat} {es:List (Value×Value)} (hb1:b1<lo) (hb2:b2<lo) (hm:lo<=m) (hg:h.get m=some (.map es ver)) (hes:es.flatMap (fun e=>zCO 4 e.2)=[]) :
  zCp h lo 1000 (zCO 4 (.agg ⟨zAm (ptr b1) (ptr b2) m⟩)) []=[m]:=by
 have e0:zCO 4 (.agg ⟨zAm (ptr b1) (ptr b2) m⟩)=[b1,b2,m]:=rfl
 rw [e0]
 have s1:zCp h lo 1000 [b1,b2,m] []=zCp h lo 999 [b2,m] []:=by
  show (if Nat.ble (b1+1) lo||[].any (Nat.beq b1) then _ else _)=_
  rw [ble_true.2 (by omega)];rfl
 have s2:zCp h lo 999 [b2,m] []=zCp h lo 998 [m] []:=by
  show (if Nat.ble (b2+1) lo||[].any (Nat.beq b2) then _ else _)=_
  rw [ble_true.2 (by omega)];rfl
 have s3:zCp h lo 998 [m] []=zCp h lo 997 (zMZ (.map es ver)++[]) [m]:=by
  show (if Nat.ble (m+1) lo||[].any (Nat.beq m) then _ else (match h.get m with|some o=>zCp h lo 997 (zMZ o++[]) [m]|none=>_))=_
  rw [ble_false.2 (by omega),hg];rfl
 rw [s1,s2,s3]
 simp only [zMZ,hes,List.append_nil]
 rfl
theorem zIx {k l:AH} (o:Own k l):Fx NoB k (l.wmTo k.wm):=by
 refine ⟨?_,o.ext.next,fun c hc _=>o.ext.get c hc,fun m h1 _ h3=>?_⟩
 ·show cond (Nat.ble k.wm l.wm) k.wm l.wm<=l.next+UNK
  have:=o.ext.ok
  unfold AH.ok at this
  cases hcc:Nat.ble k.wm l.wm with
  | true=>rw [ble_true] at hcc;simp only [cond_true];omega
  | false=>exact this
 ·show m<=cond (Nat.ble k.wm l.wm) k.wm l.wm
  have:=o.wm
  cases hcc:Nat.ble k.wm l.wm with
  | true=>exact h1
  | false=>simp only [cond_false];omega
theorem call125 {k:AH} {b1 b2 m ver:Nat} {R:Rel} (hok:k.ok) (hb1:b1<k.next) (hb2:b2<k.next) (hm:k.get m=some (.map (ent R) ver)) (hml:m<k.next) :
  Ev false ((zW E).call 125 [.agg ⟨zAm (ptr b1) (ptr b2) m⟩] k) fun x=>∃ m' ver' R',x.1=.agg ⟨zAm (ptr b2) (ptr b1) m'⟩/\x.2.get m'=some (.map (ent R') ver')/\k.next<=m'/\m'<x.2.next/\R'.Nodup/\(∀ p,p∈R' ↔ zEf p∈R)/\Fx NoB k x.2:=by
 refine zKr (s:=false) (Rp:=fun v k'=>∃ m' ver' R',v=.agg ⟨zAm (ptr b2) (ptr b1) m'⟩/\k'.get m'=some (.map (ent R') ver')/\k.next<=m'/\m'<k'.next/\R'.Nodup/\(∀ p,p∈R' ↔ zEf p∈R)/\Fx NoB k k') zfj za6 (zfi _ _) (by kernel_rfl) ?_
 have key:Ev false (AM.R.andThen (evC E (zW E) none (zc Tryz.f125) ⟨⟨Tryz.f125.ntmps,zCI [.agg ⟨zAm (ptr b1) (ptr b2) m⟩] 0 .e⟩,k.fresh,[]⟩) (zAX E Tryz.f125)) fun x=>
   ∃ m' ver' R',x.1=.agg ⟨zAm (ptr b2) (ptr b1) m'⟩/\x.2.get m'=some (.map (ent R') ver')/\k.next<=m'/\m'<x.2.next/\R'.Nodup/\(∀ p,p∈R' ↔ zEf p∈R)/\Own k x.2:=by
  refine F125_ev (Rp:=fun v k'=>∃ m' ver' R',v=.agg ⟨zAm (ptr b2) (ptr b1) m'⟩/\k'.get m'=some (.map (ent R') ver')/\k.next<=m'/\m'<k'.next/\R'.Nodup/\(∀ p,p∈R' ↔ zEf p∈R)/\Own k k') (zZs ?_)
  simp only [Q125_0,zd,zL,zV,z_176]
  refine zZr ?_
  have o1:=((Own.fresh k).new (.row (zAm (ptr b1) (ptr b2) m) 176 0 false)).new (.row [.pointer none,.pointer none,.map none] 176 0 false)
  have t1:((k.fresh.new (.row (zAm (ptr b1) (ptr b2) m) 176 0 false)).new (.row [.pointer none,.pointer none,.map none] 176 0 false)).get k.next=some (.row (zAm (ptr b1) (ptr b2) m) 176 0 false):=by
   rw [zK (by simp)];exact zI k.fresh _
  have r1:((k.fresh.new (.row (zAm (ptr b1) (ptr b2) m) 176 0 false)).new (.row [.pointer none,.pointer none,.map none] 176 0 false)).get (k.next+1)=some (.row [.pointer none,.pointer none,.map none] 176 0 false):=zI (k.fresh.new _) _
  have n1:((k.fresh.new (.row (zAm (ptr b1) (ptr b2) m) 176 0 false)).new (.row [.pointer none,.pointer none,.map none] 176 0 false)).next=k.next+2:=rfl
  simp only [zZ,AH.next_new]
  generalize ((k.fresh.new (.row (zAm (ptr b1) (ptr b2) m) 176 0 false)).new (.row [.pointer none,.pointer none,.map none] 176 0 false))=k1 at o1 t1 r1 n1
  have l0:=zF (P:=E) zDD (o:=0) t1
  have l1:=zF (P:=E) zDD (o:=1) t1
  simp only [lnth,zAm] at l0 l1
  simp only [Q125_1,zNy,zJW,Nat.add_zero,Nat.zero_add,l0,l1,zA,zL,pb176,z_176,zd,zV,box176]
  refine zZq ?_
  have o2:=((o1.new (.map [] 0)).new (.row [.pointer none,.pointer none,.map none] 176 0 false)).upd (b:=(k1.new (.map [] 0)).next) (by simp;omega) (some (.row (zAm (ptr b2) (ptr b1) k1.next) 176 0 false))
  have q1:(((k1.new (.map [] 0)).new (.row [.pointer none,.pointer none,.map none] 176 0 false)).upd (k1.new (.map [] 0)).next (some (.row (zAm (ptr b2) (ptr b1) k1.next) 176 0 false))).get k1.next=some (.map [] 0):=by
   rw [zU (by simp),zK (by simp)];exact zI _ _
  have q2:(((k1.new (.map [] 0)).new (.row [.pointer none,.pointer none,.map none] 176 0 false)).upd (k1.new (.map [] 0)).next (some (.row (zAm (ptr b2) (ptr b1) k1.next) 176 0 false))).get (k1.next+1)=some (.row (zAm (ptr b2) (ptr b1) k1.next) 176 0 false):=zR _ _ _
  have q3:(((k1.new (.map [] 0)).new (.row [.pointer none,.pointer none,.map none] 176 0 false)).upd (k1.new (.map [] 0)).next (some (.row (zAm (ptr b2) (ptr b1) k1.next) 176 0 false))).get k.next=some (.row (zAm (ptr b1) (ptr b2) m) 176 0 false):=by
   rw [zU (by simp;omega),zK (by simp;omega),zK (by omega)];exact t1
  have q4:(((k1.new (.map [] 0)).new (.row [.pointer none,.pointer none,.map none] 176 0 false)).upd (k1.new (.map [] 0)).next (some (.row (zAm (ptr b2) (ptr b1) k1.next) 176 0 false))).get (k.next+1)=some (.row [.pointer none,.pointer none,.map none] 176 0 false):=by
   rw [zU (by simp;omega),zK (by simp;omega),zK (by omega)];exact r1
  have q5:(((k1.new (.map [] 0)).new (.row [.pointer none,.pointer none,.map none] 176 0 false)).upd (k1.new (.map [] 0)).next (some (.row (zAm (ptr b2) (ptr b1) k1.next) 176 0 false))).next=k1.next+2:=rfl
  simp only [zAm] at q1 q2 q3 q4 q5 o2 ⊢
  simp only [AH.next_new] at q1 q2 q3 q4 q5 o2 ⊢
  generalize (((k1.new (.map [] 0)).new (.row [.pointer none,.pointer none,.map none] 176 0 false)).upd (k1.next+1) (some (.row [ptr b2,ptr b1,.map (some k1.next)] 176 0 false)))=k2 at o2 q1 q2 q3 q4 q5
  have l2:=zF (P:=E) zJ1 (o:=2) q3
  simp only [lnth] at l2
  have hm2:=(o2.ext.get m hml).trans hm
  simp only [Q125_2,zFL,Nat.zero_add,l2,zA,zKE hm2,zL]
  have loop:∀ (n:Nat) (Lf Rn:Rel) (vr:Nat),Lf.length=n->Rn.Nodup->(∀ p,p∈Rn\/zEf p∈Lf ↔ zEf p∈R)->∀ l cur,Own k l->k2.next<l.next->l.get k1.next=some (.map (ent Rn) vr)->l.get (k1.next+1)=some (.row [ptr b2,ptr b1,.map (some k1.next)] 176 0 false)->l.get (k.next+1)=some (.row [.pointer none,.pointer none,.map none] 176 0 false)->
    l.get k2.next=some (.iter (some m) ver (ent Lf) cur)->
    P125_3 false (KR E [.cell 2 176] (fun v k'=>∃ m' ver' R',v=.agg ⟨[ptr b2,ptr b1,.map (some m')]⟩/\k'.get m'=some (.map (ent R') ver')/\k.next<=m'/\m'<k'.next/\R'.Nodup/\(∀ p,p∈R' ↔ zEf p∈R)/\Own k k')) (ptr (k.next+1)) (ptr (k1.next+1)) (ptr k2.next) l:=by
   intro n
   induction n with
   | zero=>
    intro Lf Rn vr hLf hnd hmem l cur ho hlt hmp hcp hrs hit
    have:Lf=[]:=List.length_eq_zero_iff.1 hLf
    subst this
    refine zLh ?_
    have hml':=(ho.ext.get m hml).trans hm
    simp only [zTw,zNc hit hml',zL,z6,lnth,zA,zk]
    refine zZn ?_
    have la:=za (P:=E) zJ0 (o:=0) hcp (by simp)
    simp only [List.drop_zero,List.take] at la
    have hst:=zw (P:=E) zNL (o:=0) (x:=.agg ⟨[ptr b2,ptr b1,.map (some k1.next)]⟩) (cs:=[ptr b2,ptr b1,.map (some k1.next)]) hrs rfl rfl (by simp) (by simp [zr])
    simp only [Q125_6,la,zA,hst,zL,kR_c,zT,true_and]
    have g1:(l.upd (k.next+1) (some (.row (lput [.pointer none,.pointer none,.map none] 0 [ptr b2,ptr b1,.map (some k1.next)]) 176 0 false))).get (k.next+1)=some (.row [ptr b2,ptr b1,.map (some k1.next)] 176 0 false):=zR _ _ _
    have lb:=za (P:=E) zJ0 (o:=0) g1 (by simp)
    simp only [List.drop_zero,List.take] at lb
    have:zEi E 176 (ptr (k.next+1)) (l.upd (k.next+1) (some (.row (lput [.pointer none,.pointer none,.map none] 0 [ptr b2,ptr b1,.map (some k1.next)]) 176 0 false)))=some (.agg ⟨[ptr b2,ptr b1,.map (some k1.next)]⟩):=lb
    rw [this,zA]
    refine ⟨k1.next,vr,Rn,rfl,(zU (by omega)).trans hmp,by omega,by show k1.next<l.next;omega,hnd,fun p=>by have:=hmem p;simpa using this,ho.upd (by omega) _⟩
   | succ n ih=>
    intro Lf Rn vr hLf hnd hmem l cur ho hlt hmp hcp hrs hit
    refine zLh ?_
    have hml':=(ho.ext.get m hml).trans hm
    simp only [zTw]
    refine zKK hit hml' (by cases Lf with|nil=>simp at hLf|cons a l=>simp [ent]) fun e l1 l2 hsp=>?_
    obtain ⟨R1,p,R2,hR,hl1,hep,hl2⟩:=zKm hsp
    subst hep
    rw [hl1,hl2,zIT]
    simp only [z6,lnth,zA,zu]
    refine zZp ?_
    have hkl:=ho.ext.next
    have o3:=ho.upd (b:=k2.next) (by omega) (some (.iter (some m) ver (ent (R1++R2)) (some (.agg ⟨zG p⟩,.bool true))))
    have i3:(l.upd k2.next (some (.iter (some m) ver (ent (R1++R2)) (some (.agg ⟨zG p⟩,.bool true))))).get k2.next=_:=zR _ _ _
    have a3:(l.upd k2.next (some (.iter (some m) ver (ent (R1++R2)) (some (.agg ⟨zG p⟩,.bool true))))).get k1.next=_:=(zU (by omega)).trans hmp
    have c3:(l.upd k2.next (some (.iter (some m) ver (ent (R1++R2)) (some (.agg ⟨zG p⟩,.bool true))))).get (k1.next+1)=_:=(zU (by omega)).trans hcp
    have d3:(l.upd k2.next (some (.iter (some m) ver (ent (R1++R2)) (some (.agg ⟨zG p⟩,.bool true))))).get (k.next+1)=_:=(zU (by omega)).trans hrs
    have n3:(l.upd k2.next (some (.iter (some m) ver (ent (R1++R2)) (some (.agg ⟨zG p⟩,.bool true))))).next=l.next:=rfl
    generalize (l.upd k2.next (some (.iter (some m) ver (ent (R1++R2)) (some (.agg ⟨zG p⟩,.bool true)))))=l3 at o3 i3 a3 c3 d3 n3
    have hml3:=(o3.ext.get m hml).trans hm
    simp only [Q125_4,zNz i3 hml3,zA,z6,lnth,z_54,zd,zL,zV,zb0]
    refine zZo ?_
    have o4:=(o3.new (.row [.int .i64 0,.int .i64 0] 54 0 false)).upd (b:=l3.next) (by omega) (some (.row (zG p) 54 0 false))
    have p4:((l3.new (.row [.int .i64 0,.int .i64 0] 54 0 false)).upd l3.next (some (.row (zG p) 54 0 false))).get l3.next=some (.row (zG p) 54 0 false):=zR _ _ _
    have i4:((l3.new (.row [.int .i64 0,.int .i64 0] 54 0 false)).upd l3.next (some (.row (zG p) 54 0 false))).get k2.next=_:=((zU (by omega)).trans (zK (by omega))).trans i3
    have a4:((l3.new (.row [.int .i64 0,.int .i64 0] 54 0 false)).upd l3.next (some (.row (zG p) 54 0 false))).get k1.next=_:=((zU (by omega)).trans (zK (by omega))).trans a3
    have c4:((l3.new (.row [.int .i64 0,.int .i64 0] 54 0 false)).upd l3.next (some (.row (zG p) 54 0 false))).get (k1.next+1)=_:=((zU (by omega)).trans (zK (by omega))).trans c3
    have d4:((l3.new (.row [.int .i64 0,.int .i64 0] 54 0 false)).upd l3.next (some (.row (zG p) 54 0 false))).get (k.next+1)=_:=((zU (by omega)).trans (zK (by omega))).trans d3
    have n4:((l3.new (.row [.int .i64 0,.int .i64 0] 54 0 false)).upd l3.next (some (.row (zG p) 54 0 false))).next=l3.next+1:=rfl
    generalize ((l3.new (.row [.int .i64 0,.int .i64 0] 54 0 false)).upd l3.next (some (.row (zG p) 54 0 false)))=l4 at o4 p4 i4 a4 c4 d4 n4
    have g0:=zF (P:=E) zJ1 (o:=2) c4
    have g1:=zF (P:=E) zAS (o:=0) p4
    have g2:=zF (P:=E) zAS (o:=1) p4
    simp only [lnth,zG] at g0 g1 g2
    obtain ⟨R',u1,u2,u3⟩:=upd174 a4 hnd (p.2,p.1)
    simp only [Q125_5,zFL,Nat.zero_add,Nat.add_zero,g0,g1,g2,zA,zIL,zKb,pb54,u1,zL]
    refine ih (R1++R2) R' (vr+1) (by rw [hR] at hLf;simp at hLf ⊢;omega) u2 (fun x=>?_) _ _ (o4.upd (by omega) _) (by show k2.next<l4.next;omega) (zR _ _ _) ((zU (by omega)).trans c4) ((zU (by omega)).trans d4) ((zU (by omega)).trans i4)
    rw [← hmem x,u3 x,hR]
    have hsw:x=(p.2,p.1) ↔ zEf x=p:=by
     constructor
     ·rintro rfl;rfl
     ·intro h;rw [← h];rfl
    rw [hsw]
    simp only [List.mem_append,List.mem_cons]
    constructor
    ·rintro ((h|h)|h|h) <;> simp [h]
    ·rintro (h|h|h|h) <;> simp [h]
  refine loop R.length R [] 0 rfl (by simp) (fun p=>by simp) _ none (o2.new _) (by simp) ((zK (by omega)).trans q1) ((zK (by omega)).trans q2) ((zK (by omega)).trans q4) (zI _ _)
 refine key.mono fun x hx=>?_
 obtain ⟨m',ver',R',h1,h2,h3,h4,h5,h6,h7⟩:=hx
 have hids:zCp x.2 k.fresh.next 1000 (zCO 4 x.1) []=[m']:=by
  rw [h1]
  exact zRw hb2 hb1 h3 h2 (by simp [ent,List.flatMap_map,zCO])
 refine ⟨by rw [h1];rfl,⟨m',ver',R',h1,h2,h3,h4,h5,h6,zIx h7⟩,m',ver',R',h1,?_,h3,h4,h5,h6,zIx ?_⟩
 ·show (AH.kept k.fresh x.1 x.2).get m'=_
  unfold AH.kept
  rw [hids,zA9,if_pos (by simp)]
  exact h2
 ·refine ⟨⟨?_,h7.ext.next,fun c hc=>?_⟩,?_⟩
  ·exact h7.ext.ok
  ·unfold AH.kept
   rw [hids,zA9]
   split
   ·exact h7.ext.get c hc
   ·rfl
  ·exact h7.wm
end Go.Proofs
namespace Go.Proofs
open Go Go.AM
set_option maxRecDepth 100000
variable {s:Bool} {K:KF} {h:AH} {a:Option Addr} {n c:Nat} {v v0 v1 v2 v3 v4 v5 v6 v7 v8 v9 v15 v36 v37 v38:Value} {h1:AH} {Rp:Value->AH->Prop}
noncomputable def B222:Code:=zc Tryz.f222
noncomputable def zEN (s:Bool):Cx:=⟨E,s,none,B222,[([0],[0,1,2]),([1,0],[0,1,2,4]),([1,1,0],[0,2,4,5]),([1,1,1,0,0,0,0],[0,2,4,5,6]),([1,1,1,0,0,1,0,0,0,0],[0,2,4,5,6]),([1,1,1,0,0,1,0,0,1,0],[0,2,4,5,6]),([1,1,1,0,0,1,0,0,1,1,0,0,0],[0,2,4,5,6,36,37,38]),([1,1,1,0,0,1,0,0,1,1,0,0,1,1,0,0,0],[0,2,4,5,6,36,37,38]),([1,1,1,0,0,1,0,0,1,1,0,0,1,1,0,0,1,0],[0,2,4,5,6,8,36,37,38]),([1,1,1,0,0,1,0,0,1,1,0,0,1,1,0,0,1,1,0,0],[0,2,4,5,6,8,36,37,38]),([1,1,1,0,0,1,0,0,1,1,0,0,1,1,0,0,1,1,0,1],[0,2,4,5,6,8,36,37,38]),([1,1,1,0,0,1,0,0,1,1,0,0,1,1,1],[0,2,4,5,6,36,37,38]),([1,1,1,0,0,1,1],[0,2,4,5,6])],[],[]⟩
abbrev P222_3 (s:Bool) (K:KF) (v0 v2 v4 v5 v6:Value) (h:AH):Prop:=PI (zEN s) K 3 [v0,v2,v4,v5,v6] h
abbrev P222_4 (s:Bool) (K:KF) (v0 v2 v4 v5 v6:Value) (h:AH):Prop:=PI (zEN s) K 4 [v0,v2,v4,v5,v6] h
abbrev P222_6 (s:Bool) (K:KF) (v0 v2 v4 v5 v6 v36 v37 v38:Value) (h:AH):Prop:=PI (zEN s) K 6 [v0,v2,v4,v5,v6,v36,v37,v38] h
abbrev P222_11 (s:Bool) (K:KF) (v0 v2 v4 v5 v6 v36 v37 v38:Value) (h:AH):Prop:=PI (zEN s) K 11 [v0,v2,v4,v5,v6,v36,v37,v38] h
theorem zWW (H :
 Ev s (one ((.map (some (h).next):Value),(h).new (.map [] 0))) fun x0=>
 EvO (zH E 3 x0.2 v1) fun x1=>
 Ev s (zAU E 273 x0.1 x1 (some (.bool true)) x0.2) fun x2=>
 PI (zEN s) K 1 [v0,v1,v2,x0.1] x2.2):PI (zEN s) K 0 [v0,v1,v2] h:=zB H
theorem zWV (H :
 EvO (zH E 3 h v1) fun x0=>
 Ev s (zf E 47 1 (some [(0,x0)]) h) fun x1=>
 PI (zEN s) K 2 [v0,v2,v4,x1.1] x1.2):PI (zEN s) K 1 [v0,v1,v2,v4] h:=zB H
theorem zWU (H :
 PI (zEN s) K 3 [v0,v2,v4,v5,(.int .i64 0)] h):PI (zEN s) K 2 [v0,v2,v4,v5] h:=zB H
theorem zLD (H :
 EvO (zO E (zl [(15,v5)]) (zn B222 [1,1,1,0,0,0,0] 2) h) fun x2=>
 EvO (zC E .lss 3 v6 x2) fun x3=>
 BrK x3 (PI (zEN s) K 4 [v0,v2,v4,v5,v6] h) (K .normal [] h)):PI (zEN s) K 3 [v0,v2,v4,v5,v6] h:=zB H
theorem zFi:zO E (zl [(15,.slice a n c)]) (zn B222 [1,1,1,0,0,0,0] 2) h=some (.int .i64 (n:Int)):=by cases a <;> kernel_rfl
theorem zWT (H :
 EvO (zE E 47 v5 v6) fun x3=>
 EvO (zH E 3 h x3) fun x4=>
 Ev s (zQ (zW E) v0 [x4] h) fun x5=>
 EvO (zAQ .not x5.1) fun x6=>
 BrK x6 (K .ret [] x5.2) (PI (zEN s) K 5 [v0,v2,v4,v5,v6] x5.2)):PI (zEN s) K 4 [v0,v2,v4,v5,v6] h:=zB H
theorem zWS (H :
 EvO (zH E 128 h v2) fun x0=>
 EvO (zq x0) fun x1=>
 EvO (zD E 131 0 x1) fun x2=>
 EvO (zH E 129 h x2) fun x3=>
 EvO (zE E 47 v5 v6) fun x6=>
 EvO (zH E 3 h x6) fun x7=>
 EvO (zE E 129 x3 x7) fun x8=>
 EvO (zH E 132 h x8) fun x9=>
 EvO (zO E (zl [(36,x9)]) (zn B222 [1,1,1,0,0,1,0,0,1,0] 10) h) fun x10=>
 PI (zEN s) K 6 [v0,v2,v4,v5,v6,x9,x10,(.int .i64 0)] h):PI (zEN s) K 5 [v0,v2,v4,v5,v6] h:=zB H
theorem zML:zO E (zl [(36,.slice a n c)]) (zn B222 [1,1,1,0,0,1,0,0,1,0] 10) h=some (.int .i64 (n:Int)):=by cases a <;> kernel_rfl
theorem zLC (H :
 EvO (zC E .lss 3 v38 v37) fun x0=>
 BrK x0 (PI (zEN s) K 7 [v0,v2,v4,v5,v6,v36,v37,v38] h) (PI (zEN s) K 12 [v0,v2,v4,v5,v6] h)):PI (zEN s) K 6 [v0,v2,v4,v5,v6,v36,v37,v38] h:=zB H
theorem zWR (H :
 EvO (zE E 132 v36 v38) fun x0=>
 EvO (zH E 134 h x0) fun x1=>
 Ev s (zX 134 h (zAG E 134)) fun x2=>
 Ev s (ze E 134 x2.2 x2.1 x1) fun x3=>
 PI (zEN s) K 8 [v0,v2,v4,v5,v6,x2.1,v36,v37,v38] x3.2):PI (zEN s) K 7 [v0,v2,v4,v5,v6,v36,v37,v38] h:=zB H
theorem zWQ (H :
 EvO (zD E 134 0 v8) fun x0=>
 EvO (zH E 3 h x0) fun x1=>
 EvO (zC E .eql 3 x1 (.int .i64 0)) fun x2=>
 EvO (gdB x2 true v4) fun x4=>
 EvO (gdB x2 true (zD E 134 1 v8)) fun x5=>
 EvO (gdB x2 true (zH E 3 h x5)) fun x6=>
 EvO (gdB x2 true (zDT E 273 false x4 x6 h)) fun x7=>
 EvO (gdB x2 true (zAQ .not x7)) fun x8=>
 EvO (z7 x2 x8 (some (.bool false))) fun x9=>
 BrK x9 (PI (zEN s) K 9 [v0,v2,v4,v5,v6,v8,v36,v37,v38] h) (PI (zEN s) K 11 [v0,v2,v4,v5,v6,v36,v37,v38] h)):PI (zEN s) K 8 [v0,v2,v4,v5,v6,v8,v36,v37,v38] h:=zB H
theorem zWP (H :
 EvO (zD E 134 1 v8) fun x1=>
 EvO (zH E 3 h x1) fun x2=>
 Ev s (zAU E 273 v4 x2 (some (.bool true)) h) fun x3=>
 PI (zEN s) K 10 [v0,v2,v4,v5,v6,v8,v36,v37,v38] x3.2):PI (zEN s) K 9 [v0,v2,v4,v5,v6,v8,v36,v37,v38] h:=zB H
theorem zP5 (H :
 EvO (zD E 134 1 v8) fun x1=>
 EvO (zH E 3 h x1) fun x2=>
 Ev s (zf E 47 1 (some [(0,x2)]) h) fun x3=>
 Ev s (zAD E .append [47,47] [v5,x3.1] x3.2) fun x4=>
 PI (zEN s) K 11 [v0,v2,v4,x4.1,v6,v36,v37,v38] x4.2):PI (zEN s) K 10 [v0,v2,v4,v5,v6,v8,v36,v37,v38] h:=zB H
theorem zP4 (H :
 EvO (zC E .add 3 v38 (.int .i64 1)) fun x0=>
 PI (zEN s) K 6 [v0,v2,v4,v5,v6,v36,v37,x0] h):PI (zEN s) K 11 [v0,v2,v4,v5,v6,v36,v37,v38] h:=zB H
theorem zP3 (H :
 EvO (zC E .add 3 v6 (.int .i64 1)) fun x1=>
 PI (zEN s) K 3 [v0,v2,v4,v5,x1] h):PI (zEN s) K 12 [v0,v2,v4,v5,v6] h:=zB H
theorem zaW (H:PI (zEN true) (KR E [] fun x k=>(zh x=false\/k.wm<h.next)/\Rp x ⟨k.t,k.next,cond (Nat.ble h.wm k.wm) h.wm k.wm⟩) 0 [v0,v1,v2] h.fresh):Ev true ((zW E).call 222 [v0,v1,v2] h) fun x=>Rp x.1 x.2:=zFb Tryz.f222 (zz (zEN true) H)
noncomputable def zbG:Code:=sub B130 [0]
noncomputable def zRD (s:Bool):Cx:=⟨E,s,none,zbG,[([],[0,1,2,3])],[2,4,5,7,8],[]⟩
theorem zQl (H :
 Ev s (zX 178 h v0) fun x0=>
 Ev s (zX 3 x0.2 v1) fun x1=>
 Ev s (zX 134 x1.2 v3) fun x2=>
 Ev s (zX 4 x2.2 (zAG E 4)) fun x3=>
 K .normal [v2,x0.1,x1.1,x2.1,x3.1] x3.2):PI (zRD s) K 0 [v0,v1,v2,v3] h:=zB H
theorem zff {s:Bool} {v0 v1 v2 v3:Value} {T:Tm} {h:AH} {K:KF} (hT:∀ x∈[(0,v0),(1,v1),(2,v2),(3,v3)],T.get x.1=x.2) (H:PI (zRD s) K 0 [v0,v1,v2,v3] h) :
 Ev s (evC E (zW E) none zbG ⟨T,h,[]⟩) (zRH (zRD s ) K):=
 zEK (C:=zRD s ) (by kernel_rfl) (by kernel_rfl) hT ((by kernel_rfl:zEo (zRD s ) K 30 (rs zbG 60 (.at [])) (zl [(0,v0),(1,v1),(2,v2),(3,v3)]) h=(PI (zRD s) K 0 [v0,v1,v2,v3] h)).mpr H)
noncomputable def zRE:Code:=sub B130 [1,0,0]
noncomputable def zRC (s:Bool):Cx:=⟨E,s,none,zRE,[([],[2,4,5,7,8])],[4,5,7,8,14],[]⟩
theorem zQk (H :
 EvO (zD E 178 0 v4) fun x0=>
 EvO (zD E 176 1 x0) fun x1=>
 EvO (zH E 128 h x1) fun x2=>
 Ev s (zQ (zW E) (some (.func (.func 178) #[] #[])) [x2,v2] h) fun x4=>
 K .normal [v4,v5,v7,v8,x4.1] x4.2):PI (zRC s) K 0 [v2,v4,v5,v7,v8] h:=zB H
theorem zfe {s:Bool} {v2 v4 v5 v7 v8:Value} {T:Tm} {h:AH} {K:KF} (hT:∀ x∈[(2,v2),(4,v4),(5,v5),(7,v7),(8,v8)],T.get x.1=x.2) (H:PI (zRC s) K 0 [v2,v4,v5,v7,v8] h) :
 Ev s (evC E (zW E) none zRE ⟨T,h,[]⟩) (zRH (zRC s ) K):=
 zEK (C:=zRC s ) (by kernel_rfl) (by kernel_rfl) hT ((by kernel_rfl:zEo (zRC s ) K 30 (rs zRE 60 (.at [])) (zl [(2,v2),(4,v4),(5,v5),(7,v7),(8,v8)]) h=(PI (zRC s) K 0 [v2,v4,v5,v7,v8] h)).mpr H)
noncomputable def zGQ:Code:=rfBody (sub B130 [1,0,1,0])
noncomputable def zHo (s:Bool) (ll:Nat):Cx:=⟨E,s,some ll,zGQ,[([0,0],[4,5,7,8,9]),([0,1,0,0],[8])],[],[]⟩
abbrev P130c_1 (s:Bool) (ll:Nat) (K:KF) (v8:Value) (h:AH):Prop:=PI (zHo s ll) K 1 [v8] h
theorem zQj {ll:Nat} (H :
 EvO (zD E 178 0 v4) fun x0=>
 EvO (zH E 176 h x0) fun x1=>
 EvO (zH E 3 h v5) fun x2=>
 Ev s (zQ (zW E) (some (.func (.func 123) #[] #[])) [x1,x2,v9] h) fun x4=>
 EvO (gdB x4.1 true (zD E 134 0 v7)) fun x6=>
 EvO (gdB x4.1 true (zH E 3 x4.2 x6)) fun x7=>
 EvO (gdB x4.1 true (zC E .eql 3 x7 (.int .i64 0))) fun x8=>
 EvO (gdB x4.1 true x8) fun x9=>
 EvO (gdB x9 true (zD E 178 0 v4)) fun x10=>
 EvO (gdB x9 true (zH E 176 x4.2 x10)) fun x11=>
 EvO (gdB x9 true (zD E 134 1 v7)) fun x12=>
 EvO (gdB x9 true (zH E 3 x4.2 x12)) fun x13=>
 EvO (gdB x9 true v9) fun x14=>
 Ev s (gdW x9 true (zQ (zW E) (some (.func (.func 123) #[] #[])) [x11,x13,x14] x4.2) x4.2) fun x15=>
 EvO (gdB x4.1 true (z7 x9 x15.1 (some (.bool false)))) fun x16=>
 EvO (gdB x4.1 true x16) fun x17=>
 EvO (gdB x17 false (zH E 178 x15.2 v4)) fun x18=>
 EvO (gdB x17 false (zH E 3 x15.2 v5)) fun x19=>
 EvO (gdB x17 false v9) fun x20=>
 EvO (gdB x17 false (zH E 134 x15.2 v7)) fun x21=>
 Ev s (gdW x17 false (zQ (zW E) (some (.func (.func 128) #[] #[])) [x18,x19,x20,x21] x15.2) x15.2) fun x22=>
 EvO (gdB x4.1 true (z7 x17 (some (.bool true)) x22.1)) fun x23=>
 EvO (z7 x4.1 x23 (some (.bool false))) fun x24=>
 BrK x24 (PI (zHo s ll) K 1 [v8] x22.2) (K .normal [] x22.2)):PI (zHo s ll) K 0 [v4,v5,v7,v8,v9] h:=zB H
theorem zQi {ll:Nat} (H :
 Ev s (ze E 4 h v8 (some (.bool true))) fun x0=>
 K .ret [] x0.2):PI (zHo s ll) K 1 [v8] h:=zB H
theorem zfd {s:Bool} {ll:Nat} {v4 v5 v7 v8 v9:Value} {T:Tm} {h:AH} {K:KF} (hT:∀ x∈[(4,v4),(5,v5),(7,v7),(8,v8),(9,v9)],T.get x.1=x.2) (H:PI (zHo s ll) K 0 [v4,v5,v7,v8,v9] h) :
 Ev s (evC E (zW E) (some ll) zGQ ⟨T,h,[]⟩) (zRH (zHo s ll ) K):=
 zEK (C:=zHo s ll ) (by kernel_rfl) (by kernel_rfl) hT ((by kernel_rfl:zEo (zHo s ll ) K 30 (rs zGQ 60 (.at [])) (zl [(4,v4),(5,v5),(7,v7),(8,v8),(9,v9)]) h=(PI (zHo s ll) K 0 [v4,v5,v7,v8,v9] h)).mpr H)
noncomputable def zHZ:Code:=rfAs (sub B130 [1,0,1,0])
noncomputable def zRB (s:Bool) (ll:Nat):Cx:=⟨E,s,some ll,zHZ,[([],[4,5,7,8,15])],[4,5,7,8,9],[]⟩
theorem zQh {ll:Nat} (H :
 K .normal [v4,v5,v7,v8,v15] h):PI (zRB s ll) K 0 [v4,v5,v7,v8,v15] h:=zB H
theorem zfc {s:Bool} {ll:Nat} {v4 v5 v7 v8 v15:Value} {T:Tm} {h:AH} {K:KF} (hT:∀ x∈[(4,v4),(5,v5),(7,v7),(8,v8),(15,v15)],T.get x.1=x.2) (H:PI (zRB s ll) K 0 [v4,v5,v7,v8,v15] h) :
 Ev s (evC E (zW E) (some ll) zHZ ⟨T,h,[]⟩) (zRH (zRB s ll ) K):=
 zEK (C:=zRB s ll ) (by kernel_rfl) (by kernel_rfl) hT ((by kernel_rfl:zEo (zRB s ll ) K 30 (rs zHZ 60 (.at [])) (zl [(4,v4),(5,v5),(7,v7),(8,v8),(15,v15)]) h=(PI (zRB s ll) K 0 [v4,v5,v7,v8,v15] h)).mpr H)
noncomputable def zNH:Code:=sub B130 [1,1,0]
def zNE (s:Bool) (K:KF) (v8:Value) (h:AH):Prop:=
 Ev s (ze E 4 h v8 (some (.bool false))) fun x0=>
 K .normal [v8] x0.2
end Go.Proofs
namespace Go.Proofs
open Go Go.AM
set_option maxRecDepth 100000
set_option maxHeartbeats 1000000
def zHN (R:List Int):List (Value×Value):=R.map fun p=>(.int .i64 p,.bool true)
theorem mk273:zPF E 273=some (3,4):=by kernel_rfl
theorem keyEq3 (p q:Int):zBm E 3 (.int .i64 p) (.int .i64 q)=some (decide (p=q)):=by
 simp only [zBm,u3]
 have hk:keq .i64 .i64=true:=rfl
 simp only [hk,cond_true,zC5]
 by_cases h:p=q <;> simp [h]
theorem keyOk3 (p:Int):zDw E 3 (.int .i64 p)=true:=by
 simp only [zDw,u3]
theorem find3:∀ {R:List Int},R.Nodup->∀ q:Int,zAf E 3 (.int .i64 q) (zHN R)=some (if q∈R then some (.bool true) else none)
 | [],_,q=>by simp [zHN,zAf]
 | p::R,h,q=>by
  obtain ⟨h1,h2⟩:=List.nodup_cons.1 h
  have ih:=find3 h2 q
  simp only [zHN,List.map_cons,zAf] at ih ⊢
  rw [keyEq3,ih]
  by_cases e:q=p
  ·subst e
   simp [h1]
  ·simp [e]
theorem zME {h:AH} {m ver:Nat} {R:List Int} (hm:h.get m=some (.map (zHN R) ver)) (hR:R.Nodup) (q:Int) :
  zDT E 273 false (some (.map (some m))) (some (.int .i64 q)) h=some (.bool (decide (q∈R))):=by
 simp only [zDT,zG8,mk273,zFP,hm,keyOk3,cond_true,find3 hR]
 by_cases e:q∈R
 ·simp [e,zHF,okV]
 ·simp [e,zHF,z4,okV]
def zGX (q:Int):List Int->List Int
 | []=>[q]
 | p::R=>if klt (.int .i64 q) (.int .i64 p) then q::p::R else p::zGX q R
theorem zNp (q:Int):∀ R:List Int,zBA (.int .i64 q) (.bool true) (zHN R)=zHN (zGX q R)
 | []=>rfl
 | p::R=>by
  have:=zNp q R
  simp only [zHN,List.map_cons,zBA,zGX] at this ⊢
  split
  ·rfl
  ·rw [this];rfl
theorem zJL (q:Int):∀ (R:List Int) (x:Int),x∈zGX q R ↔ x=q\/x∈R
 | [],x=>by simp [zGX]
 | p::R,x=>by
  simp only [zGX]
  split
  ·simp
  ·simp only [List.mem_cons,zJL q R]
   constructor
   ·rintro (h|h|h) <;> simp [h]
   ·rintro (h|h|h) <;> simp [h]
theorem zIJ {q:Int}:∀ {R:List Int},R.Nodup->q ∉ R->(zGX q R).Nodup
 | [],_,_=>by simp [zGX]
 | p::R,h,hq=>by
  obtain ⟨h1,h2⟩:=List.nodup_cons.1 h
  simp only [List.mem_cons,not_or] at hq
  simp only [zGX]
  split
  ·exact List.nodup_cons.2 ⟨by simp [hq.1,hq.2],h⟩
  ·exact List.nodup_cons.2 ⟨by rw [zJL];simp [h1];exact fun e=>hq.1 e.symm,zIJ h2 hq.2⟩
theorem upd273 {h:AH} {m ver:Nat} {R:List Int} (hm:h.get m=some (.map (zHN R) ver)) (hR:R.Nodup) {q:Int} (e:q ∉ R) :
  zAU E 273 (some (.map (some m))) (some (.int .i64 q)) (some (.bool true)) h=one (undef,h.upd m (some (.map (zHN (zGX q R)) (ver+1)))):=by
 have hfl:zh (.int .i64 q)=true:=rfl
 simp only [zAU,zBa,mk273,hm,keyOk3,hfl,Bool.and_self,cond_true,zDC,find3 hR,e,if_false,zNp,u1]
theorem bs47 {u:Int} {h:AH}:zf E 47 1 (some [(0,.int .i64 u)]) h=one (.slice (some ⟨h.next,0,none⟩) 1 1,h.new (.row [.int .i64 u] 3 0 false)):=by kernel_rfl
theorem elt47:Elt 47 3 1:=zIU elt_47 und_47 zAS (by kernel_rfl)
theorem zM9 {t e z:Nat} (H:Elt t e z) {h:AH} {b c:Nat} {vs us:List Value} {ty es:Nat} {ro:Bool} {ty' es':Nat} {ro':Bool} (hb:h.get b=some (.row vs ty' es' ro')) (hvs:vs.length=z)
  (hc:h.get c=some (.row us ty es ro)) (hl:us.length=z) :
  zAD E .append [t,t] (some [.slice (some ⟨b,0,none⟩) 1 1,.slice (some ⟨c,0,none⟩) 1 1]) h=one (.slice (some ⟨h.next,0,none⟩) 2 (UNK+z),h.new (.row (vs++us) e z false)):=by
 obtain ⟨ti,e1,e2,e3⟩:=H.ti
 show v2 (zAy E [t,t] (.slice (some ⟨b,0,none⟩) 1 1) (.slice (some ⟨c,0,none⟩) 1 1) h)=_
 simp only [zAy,H.el,H.un,zFF,cond_false,e1,zCE,zBC,hc,e2,Nat.one_mul,zAq,zAr,zAN,List.drop_zero]
 rw [List.take_of_length_le (by omega),hl,Nat.beq_refl]
 simp only [if_true,e3,cond_true,zB7,show Nat.beq 1 0=false from rfl,cond_false,hb]
 simp only [zCo,show Nat.ble UNK 1=false from rfl,show Nat.ble (1+1) 1=false from rfl,cond_false,Nat.one_mul,zAq,zAr,zAN,List.drop_zero]
 rw [List.take_of_length_le (by omega),hvs,Nat.beq_refl]
 simp only [cond_true,zAw,show Nat.ble (1+1) 1000000=true from rfl,v2]
structure LS (lo:Nat) (k:AH) (v:Value) (L:List Int):Prop where
 ex:∃ b c,v=.slice (some ⟨b,0,none⟩) L.length c/\lo<=b/\b<k.next/\((c=1/\L.length=1/\k.get b=some (.row (ints L) 3 0 false))\/(c=UNK+1/\k.get b=some (.row (ints L) 3 1 false)))
theorem LS.mono {lo:Nat} {k k':AH} {v:Value} {L:List Int} (h:LS lo k v L) (hn:k.next<=k'.next) (hg:∀ b,lo<=b->b<k.next->zy v b->k'.get b=k.get b):LS lo k' v L:=by
 obtain ⟨b,c,e,h1,h2,h3⟩:=h
 have:=hg b h1 h2 ⟨_,_,e⟩
 exact ⟨b,c,e,h1,Nat.lt_of_lt_of_le h2 hn,by rw [this];exact h3⟩
theorem LS.at {lo:Nat} {k:AH} {v:Value} {L:List Int} (h:LS lo k v L) {i:Nat} (hi:i<L.length):∃ x3,zE E 47 (some v) (some (.int .i64 (i:Int)))=some x3/\∃ x4,zH E 3 k (some x3)=some x4/\x4=.int .i64 L[i]:=by
 obtain ⟨b,c,rfl,h1,h2,h3⟩:=h
 refine ⟨_,zPf hi,?_⟩
 have hrow:∃ es,k.get b=some (.row (ints L) 3 es false):=by
  rcases h3 with ⟨_,_,h⟩|⟨_,h⟩ <;> exact ⟨_,h⟩
 obtain ⟨es,hrow⟩:=hrow
 rw [zF (P:=E) zAS hrow,zAk,show 0+i*1=i by omega]
 have:(ints L)[i]?=some (.int .i64 L[i]):=by simp [ints,hi]
 exact ⟨_,this,rfl⟩
theorem LS.app {lo:Nat} {k:AH} {v:Value} {L:List Int} (h:LS lo k v L) (hL:L.length<=999999) {u:Int} {c0:Nat} {ty es:Nat} {ro:Bool} (hc:k.get c0=some (.row [.int .i64 u] ty es ro)) :
  ∃ v' k1,zAD E .append [47,47] (some [v,.slice (some ⟨c0,0,none⟩) 1 1]) k=one (v',k1)/\v'=.slice (some ⟨k.next,0,none⟩) (L.length+1) (UNK+1)/\k1.next=k.next+1/\k1.get k.next=some (.row (ints (L++[u])) 3 1 false) ∧
   (∀ b,b<k.next->¬ zy v b->k1.get b=k.get b)/\(k.ok->k1.ok)/\k1.wm<=k.wm/\∀ w,w<=k.wm->w<=lo->w<=k1.wm:=by
 obtain ⟨b,c,rfl,h1,h2,h3⟩:=h
 have hap:ints L++[.int .i64 u]=ints (L++[u]):=by simp [ints]
 rcases h3 with ⟨rfl,hl1,hb⟩|⟨rfl,hb⟩
 ·refine ⟨_,k.new (.row (ints L++[.int .i64 u]) 3 1 false),by rw [hl1];exact zM9 elt47 hb (by simpa [ints] using hl1) hc rfl,by rw [hl1],rfl,?_,?_,?_,Nat.le_refl _,?_⟩
  ·rw [← hap];exact zI _ _
  ·intro b' hb' _
   exact zK (by omega)
  ·intro hok;exact zCK hok _
  ·intro w hw _
   exact hw
 ·refine ⟨_,_,zBz elt47 (by omega) hb (by simp [ints]) (by omega) hc rfl rfl,rfl,rfl,?_,?_,?_,(zDB k b none).1,?_⟩
  ·rw [← hap];exact zI (k.upd b none) _
  ·intro b' hb' hne
   have hbb:b'≠b:=fun e=>hne ⟨_,_,by rw [e]⟩
   have:k.next≠b':=by omega
   rw [zK (by show b'≠k.next;omega),zU hbb]
  ·intro hok;exact zCK (zDo hok _ _) _
  ·intro w hw hlo
   show w<=(k.upd b none).wm
   exact z9 hw (by omega)
def zJk (L:List Int) (x:Int×Int):List Int:=if x.1=0/\x.2 ∉ L then L++[x.2] else L
def zSF (SS:List zAF) (L:List Int) (u:Int):List Int:=match SS[u.toNat]? with
 | some S=>S.foldl zJk L
 | none=>L
def bfs (SS:List zAF) (body:Int->Bool):Nat->Nat->List Int->Bool
 | 0,_,_=>false
 | f+1,i,L=>match L[i]? with
  | none=>false
  | some u=>body u||bfs SS body f (i+1) (zSF SS L u)
theorem zBv:∀ (N:Nat) (L:List Int),L.Nodup->(∀ x∈L,0<=x/\x<(N:Int))->L.length<=N
 | 0,L,_,h=>by
  cases L with
  | nil=>simp
  | cons a l=>have:=h a (by simp);omega
 | N+1,L,hn,h=>by
  by_cases hm:(N:Int)∈L
  ·have h1:=zBv N (L.erase (N:Int)) (hn.erase _) fun x hx=>by
    have:=hn.mem_erase_iff.1 hx
    have h2:=h x this.2
    have:=this.1
    omega
   rw [List.length_erase_of_mem hm] at h1
   omega
  ·have h1:=zBv N L hn fun x hx=>by
    have h2:=h x hx
    have:x≠(N:Int):=fun e=>hm (e ▸ hx)
    omega
   omega
theorem zPu {L:List Int} (h:L.Nodup) (x:Int×Int):(zJk L x).Nodup:=by
 unfold zJk
 split
 ·rename_i hx
  rw [List.nodup_append]
  refine ⟨h,by simp,fun a ha b hb=>?_⟩
  simp only [List.mem_singleton] at hb
  subst hb
  exact fun e=>hx.2 (e ▸ ha)
 ·exact h
def Yd (k:AH) (l w0 N:Nat) (body:Int->Bool) (Rt:AH->Prop):Prop:=∀ h,Ext k h->w0<=h.wm->∀ u:Int,0<=u->u<(N:Int)->
 ∃ h',(zW E).round l [.int .i64 u] h=some [(.bool (!body u),h')]/\h'.ok/\h'.wm<=l/\w0<=h'.wm/\(body u=false->h'.next=h.next/\∀ c,h'.get c=h.get c)/\(body u=true->Rt h')
structure St22 (k:AH) (w0 m1 N:Nat) (v5:Value) (L:List Int) (h:AH):Prop where
 ext:Ext k h
 w:w0<=h.wm
 map:∃ R ver,h.get m1=some (.map (zHN R) ver)/\R.Nodup/\∀ x,x∈R ↔ x∈L
 mlt:m1<h.next
 nd:L.Nodup
 bd:∀ x∈L,0<=x/\x<(N:Int)
 ls:LS (m1+1) h v5 L
theorem St22.keep {k:AH} {w0 m1 N:Nat} {v5:Value} {L:List Int} {h h':AH} (s:St22 k w0 m1 N v5 L h) (e:Ext k h') (w:w0<=h'.wm) (hn:h.next<=h'.next) (hg:∀ c,m1<=c->c<h.next->h'.get c=h.get c):St22 k w0 m1 N v5 L h':=by
 obtain ⟨R,ver,a,b⟩:=s.map
 exact ⟨e,w,⟨R,ver,(hg m1 (Nat.le_refl _) s.mlt).trans a,b⟩,Nat.lt_of_lt_of_le s.mlt hn,s.nd,s.bd,s.ls.mono hn fun b h1 h2 _=>hg b (by omega) h2⟩
structure zTu (SS:List zAF):Prop where
 len:SS.length<=900000
 stp:∀ (i:Nat) (S:zAF),SS[i]?=some S->S.length<=900000/\∀ x∈S,0<=x.2/\x.2<(SS.length:Int)
theorem zSn {n:Int} (h1:0<=n) (h2:n<=1000000):zCx n:=⟨by omega,by omega⟩
theorem zSs {S:zAF} {L:List Int} {j:Nat} (hj:j<S.length):(S.drop j).foldl zJk L=(S.drop (j+1)).foldl zJk (zJk L S[j]):=by
 rw [List.drop_eq_getElem_cons hj]
 rfl
def zQt (k:AH) (w0:Nat) (Rt:AH->Prop) (b:Bool) (h:AH):Prop:=h.ok/\w0<=h.wm/\(b=false->k.next<=h.next/\∀ c,c<k.next->h.get c=k.get c)/\(b=true->Rt h)
theorem call222 {k:AH} {l bs0 bgp bg w0:Nat} {SS:List zAF} {body:Int->Bool} {Rt:AH->Prop} {t:Int} {ty1 es1 ty2 es2:Nat} {ro1 ro2:Bool} (hok:k.ok)
  (hs:k.get bs0=some (.row [.int .i64 t] ty1 es1 ro1)) (hsl:bs0<k.next) (hgp:k.get bgp=some (.row [ptr bg] ty2 es2 ro2)) (hgl:bgp<k.next)
  (hg:GV k bg SS) (hSS:zTu SS) (ht0:0<=t) (htN:t<(SS.length:Int)) (hw:w0<=k.wm) (hw':w0<=k.next) (hl:l<k.next) (hRt:∀ h h':AH,(∀ c,h'.get c=h.get c)->h'.next=h.next->Rt h->Rt h')
  (hY:Yd k l w0 SS.length body Rt) :
  Ev true ((zW E).call 222 [.func (.yield l) #[] #[],ptr bs0,ptr bgp] k) fun x=>x.1=.tuple #[]/\zQt k w0 Rt (bfs SS body SS.length 0 [t]) x.2:=by
 refine zaW (Rp:=fun x k'=>x=.tuple #[]/\zQt k w0 Rt (bfs SS body SS.length 0 [t]) k') (zWW ?_)
 obtain ⟨loc,bs,cells,G⟩:=hg.ex
 have hs0:k.fresh.get bs0=_:=hs
 have e0:=(Ext.refl hok).fresh
 simp only [zL]
 have e1:=e0.new (.map [] 0)
 have m1g:=zI k.fresh (.map [] 0)
 have hs1:(k.fresh.new (.map [] 0)).get bs0=_:=(e1.get bs0 hsl).trans hs
 have ls1:=zF (P:=E) zAS (o:=0) hs1
 simp only [lnth] at ls1
 have hu:=upd273 (h:=k.fresh.new (.map [] 0)) (R:=[]) (q:=t) m1g List.nodup_nil (by simp)
 simp only [ls1,zA,zZ] at hu ⊢
 rw [hu,zL]
 refine zWV ?_
 have e2:=e1.upd (b:=k.next) (Nat.le_refl _) (some (.map (zHN (zGX t [])) (0+1)))
 have m2:((k.fresh.new (.map [] 0)).upd k.next (some (.map (zHN (zGX t [])) (0+1)))).get k.next=_:=zR _ _ _
 have w2:w0<=((k.fresh.new (.map [] 0)).upd k.next (some (.map (zHN (zGX t [])) (0+1)))).wm:=z9 (by rw [zC9,zA4];omega) hw'
 have n2:((k.fresh.new (.map [] 0)).upd k.next (some (.map (zHN (zGX t [])) (0+1)))).next=k.next+1:=rfl
 generalize ((k.fresh.new (.map [] 0)).upd k.next (some (.map (zHN (zGX t [])) (0+1))))=k2 at e2 m2 w2 n2
 have ls2:=zF (P:=E) zAS (o:=0) ((e2.get bs0 hsl).trans hs)
 simp only [lnth] at ls2
 simp only [ls2,zA,bs47,zL]
 refine zWU ?_
 have st0:St22 k w0 k.next SS.length (.slice (some ⟨k2.next,0,none⟩) 1 1) [t] (k2.new (.row [.int .i64 t] 3 0 false)):=by
  refine ⟨e2.new _,w2,⟨[t],0+1,(zK (by omega)).trans m2,by simp,by simp⟩,by simp;omega,by simp,by simpa using ⟨ht0,htN⟩,⟨k2.next,1,rfl,by omega,by simp,.inl ⟨rfl,rfl,zI _ _⟩⟩⟩
 generalize (k2.new (.row [.int .i64 t] 3 0 false))=k3 at st0
 have loop:∀ (f i:Nat) (L:List Int) (v5:Value) (h:AH),f+i=SS.length->St22 k w0 k.next SS.length v5 L h->0<L.length->i<=L.length->(i=0\/h.wm<=l)->bfs SS body SS.length 0 [t]=bfs SS body f i L->
   P222_3 true (KR E [] (fun x k'=>(zh x=false\/k'.wm<k.next)/\(x=.tuple #[]/\zQt k w0 Rt (bfs SS body SS.length 0 [t]) ⟨k'.t,k'.next,cond (Nat.ble k.wm k'.wm) k.wm k'.wm⟩))) (.func (.yield l) #[] #[]) (ptr bgp) (.map (some k.next)) v5 (.int .i64 (i:Int)) h:=by
  intro f
  induction f with
  | zero=>
   intro i L v5 h hf st h0 hi hwl hb
   have hlen:=zBv _ _ st.nd st.bd
   refine zLD ?_
   obtain ⟨b,c,hv,h1,h2,h3⟩:=st.ls
   subst hv
   have:¬ ((i:Int)<(L.length:Int)):=by omega
   simp only [zA,zFi,zY,this,decide_false,zk,zMW,zCC,true_and]
   have hwl':h.wm<=l:=hwl.resolve_left (by omega)
   refine ⟨.inr (by omega),?_⟩
   rw [hb]
   refine ⟨?_,?_,fun _=>⟨st.ext.next,fun c hc=>st.ext.get c hc⟩,fun h=>by cases h⟩
   ·have:=st.ext.ok
    show cond (Nat.ble k.wm h.wm) k.wm h.wm<=h.next+UNK
    unfold AH.ok at this
    cases hc:Nat.ble k.wm h.wm with
    | true=>have:=ble_true.1 hc;simp only [cond_true];omega
    | false=>simpa using this
   ·show w0<=cond (Nat.ble k.wm h.wm) k.wm h.wm
    cases Nat.ble k.wm h.wm
    ·exact st.w
    ·exact hw
  | succ f ih=>
   intro i L v5 h hf st h0 hi hwl hb
   have hlen:=zBv _ _ st.nd st.bd
   refine zLD ?_
   obtain ⟨b,c,hv,h1,h2,h3⟩:=id st.ls
   have hat:=fun (h':AH) (s':LS (k.next+1) h' v5 L) (hi:i<L.length)=>s'.at hi
   by_cases hiL:i<L.length
   ·have hlt:((i:Int)<(L.length:Int)):=by omega
    have hq:P222_4 true (KR E [] (fun x k'=>(zh x=false\/k'.wm<k.next)/\(x=.tuple #[]/\zQt k w0 Rt (bfs SS body SS.length 0 [t]) ⟨k'.t,k'.next,cond (Nat.ble k.wm k'.wm) k.wm k'.wm⟩))) (.func (.yield l) #[] #[]) (ptr bgp) (.map (some k.next)) v5 (.int .i64 (i:Int)) h:=by
     refine zWT ?_
     obtain ⟨x3,e3,x4,e4,rfl⟩:=hat h st.ls hiL
     obtain ⟨u0,u1⟩:=st.bd L[i] (List.getElem_mem hiL)
     obtain ⟨h',y1,y2,y3,y4,y5,y6⟩:=hY h st.ext st.w L[i] u0 u1
     simp only [zA,e3,e4,zLq,List.nil_append,y1,zN,zv,Bool.not_not,zBS]
     have hbf:bfs SS body (f+1) i L=(body L[i]||bfs SS body f (i+1) (zSF SS L L[i])):=by
      simp only [bfs,List.getElem?_eq_getElem hiL]
     refine ⟨fun hbt=>?_,fun hbf'=>?_⟩
     ·simp only [zMW,zT,true_and]
      refine ⟨.inr (by omega),?_⟩
      rw [hb,hbf,hbt]
      refine ⟨?_,?_,(fun h=>by cases h),fun _=>hRt h' _ (fun _=>rfl) rfl (y6 hbt)⟩
      ·unfold AH.ok at y2
       show cond (Nat.ble k.wm h'.wm) k.wm h'.wm<=h'.next+UNK
       cases hc:Nat.ble k.wm h'.wm with
       | true=>have:=ble_true.1 hc;simp only [cond_true];omega
       | false=>simpa using y2
      ·show w0<=cond (Nat.ble k.wm h'.wm) k.wm h'.wm
       cases Nat.ble k.wm h'.wm
       ·exact y4
       ·exact hw
     ·obtain ⟨z1,z2⟩:=y5 hbf'
      have st1:St22 k w0 k.next SS.length v5 L h':=st.keep ⟨y2,by rw [z1];exact st.ext.next,fun c hc=>(z2 c).trans (st.ext.get c hc)⟩ y4 (by omega) (fun c _ _=>z2 c)
      refine zWS ?_
      have hgp':=(st1.ext.get bgp hgl).trans hgp
      obtain ⟨x3,e3,x4,e4,rfl⟩:=hat h' st1.ls hiL
      obtain ⟨s,hs'⟩:=Int.eq_ofNat_of_zero_le u0
      have hsN:s<SS.length:=by omega
      have hsc:s<cells.length:=by rw [G.len];exact hsN
      have hcs:cells[s]?=some cells[s]:=List.getElem?_eq_getElem hsc
      have hSs:SS[s]?=some SS[s]:=List.getElem?_eq_getElem hsN
      have q0:=zF (P:=E) zDD (o:=0) hgp'
      have q1:=zF (P:=E) zHw (o:=0) ((st1.ext.get bg G.ltg).trans G.g)
      have q3:=zF (P:=E) zHv (o:=0+s*1) ((st1.ext.get bs G.lts).trans G.s)
      simp only [lnth] at q0 q1
      rw [zAk,show 0+s*1=s by omega,hcs] at q3
      have ia:=zNq (b:=bs) (o:=0) (c:=cells.length) hsc
      rw [show 0+s*1=s by omega] at ia
      have hcell:=G.cell s _ _ hcs hSs
      obtain ⟨ca,cc,hcc⟩:=(zFS hcell).slice
      rw [List.length_map] at hcc
      have harr:=zFS hcell
      rw [hcc] at q3 harr
      rw [hs'] at e4
      obtain ⟨hS1,hS2⟩:=hSS.stp s _ hSs
      simp only [q0,zA,zAu,zGe,q1,e3,e4,Nat.add_zero,ia,q3,zML]
      have hnx:zSF SS L L[i]=(SS[s]).foldl zJk L:=by
       unfold zSF
       rw [hs']
       simp [hSs]
      have steps:∀ (r j:Nat) (L':List Int) (v5':Value) (g:AH),r+j=(SS[s]).length->St22 k w0 k.next SS.length v5' L' g->L.length<=L'.length->g.wm<=l->((SS[s]).drop j).foldl zJk L'=(SS[s]).foldl zJk L->
        P222_6 true (KR E [] (fun x k'=>(zh x=false\/k'.wm<k.next)/\(x=.tuple #[]/\zQt k w0 Rt (bfs SS body SS.length 0 [t]) ⟨k'.t,k'.next,cond (Nat.ble k.wm k'.wm) k.wm k'.wm⟩))) (.func (.yield l) #[] #[]) (ptr bgp) (.map (some k.next)) v5' (.int .i64 (i:Int)) (.slice ca (SS[s]).length cc) (.int .i64 ((SS[s]).length:Int)) (.int .i64 (j:Int)) g:=by
       intro r
       induction r with
       | zero=>
        intro j L' v5' g hr sg hLL hgw hfold
        refine zLC ?_
        have:¬ ((j:Int)<((SS[s]).length:Int)):=by omega
        simp only [zY,zA,this,decide_false,zk]
        refine zP3 ?_
        have hi64:zCx ((i:Int)+1):=zSn (by omega) (by have:=hSS.len;omega)
        simp only [zA,zAM _ hi64]
        have:=ih (i+1) L' v5' g (by omega) sg (by omega) (by omega) (.inr hgw) (by
         rw [hb,hbf,hbf',hnx,← hfold,List.drop_eq_nil_of_le (by omega)]
         rfl)
        simpa using this
       | succ r ihr=>
        intro j L' v5' g hr sg hLL hgw hfold
        have hjS:j<(SS[s]).length:=by omega
        refine zLC ?_
        have:((j:Int)<((SS[s]).length:Int)):=by omega
        simp only [zY,zA,this,decide_true,zu]
        refine zWR ?_
        have hat':((SS[s]).map zG)[j]?=some (zG (SS[s])[j]):=by simp [hjS]
        obtain ⟨b',o',c',vs',ty',es',ro',hv',hb',hlt',hle',hz',hzl'⟩:=harr.load hat'
        simp only [Value.slice.injEq] at hv'
        obtain ⟨hv1,_,_⟩:=hv'
        subst hv1
        have gb':=(sg.ext.get b' hlt').trans hb'
        obtain ⟨xt0,xtN⟩:=hS2 (SS[s])[j] (List.getElem_mem hjS)
        have hdr:=zSs (L:=L') hjS
        rw [hdr] at hfold
        generalize (SS[s])[j]=x at hz' xt0 xtN hfold
        simp only [zSq hjS,zA,za zHu gb' hle',hz',z_134,zd,zL,zV,box134]
        refine zWQ ?_
        have e5:=(sg.ext.new (.row [.int .i64 0,.int .i64 0] 134 0 false)).upd (b:=g.next) sg.ext.next (some (.row (zG x) 134 0 false))
        have x5:((g.new (.row [.int .i64 0,.int .i64 0] 134 0 false)).upd g.next (some (.row (zG x) 134 0 false))).get g.next=some (.row (zG x) 134 0 false):=zR _ _ _
        have w5:w0<=((g.new (.row [.int .i64 0,.int .i64 0] 134 0 false)).upd g.next (some (.row (zG x) 134 0 false))).wm:=z9 sg.w (by have:=sg.ext.next;omega)
        have v5w:((g.new (.row [.int .i64 0,.int .i64 0] 134 0 false)).upd g.next (some (.row (zG x) 134 0 false))).wm<=l:=Nat.le_trans (zDB _ _ _).1 hgw
        have n5:((g.new (.row [.int .i64 0,.int .i64 0] 134 0 false)).upd g.next (some (.row (zG x) 134 0 false))).next=g.next+1:=rfl
        have s5:St22 k w0 k.next SS.length v5' L' ((g.new (.row [.int .i64 0,.int .i64 0] 134 0 false)).upd g.next (some (.row (zG x) 134 0 false))):=sg.keep e5 w5 (by omega) (fun c _ hc=>(zU (by omega)).trans (zK (by omega)))
        generalize ((g.new (.row [.int .i64 0,.int .i64 0] 134 0 false)).upd g.next (some (.row (zG x) 134 0 false)))=g5 at e5 x5 w5 v5w n5 s5
        have y0:=zF (P:=E) zAS (o:=0) x5
        have y1:=zF (P:=E) zAS (o:=1) x5
        simp only [lnth,zG] at y0 y1
        obtain ⟨R,ver,mg,mnd,mmem⟩:=s5.map
        have hdec:decide (x.2∈R)=decide (x.2∈L'):=decide_eq_decide.2 (mmem x.2)
        simp only [zGd,zCQ,Nat.add_zero,Nat.zero_add,y0,y1,zA,zAZ,zM,zME mg mnd,hdec]
        have hj64:zCx ((j:Int)+1):=zSn (by omega) (by omega)
        have skip:∀ g' v6 L'',St22 k w0 k.next SS.length v6 L'' g'->L.length<=L''.length->g'.wm<=l->((SS[s]).drop (j+1)).foldl zJk L''=(SS[s]).foldl zJk L->
          P222_11 true (KR E [] (fun x k'=>(zh x=false\/k'.wm<k.next)/\(x=.tuple #[]/\zQt k w0 Rt (bfs SS body SS.length 0 [t]) ⟨k'.t,k'.next,cond (Nat.ble k.wm k'.wm) k.wm k'.wm⟩))) (.func (.yield l) #[] #[]) (ptr bgp) (.map (some k.next)) v6 (.int .i64 (i:Int)) (.slice (some ⟨b',o',none⟩) (SS[s]).length cc) (.int .i64 ((SS[s]).length:Int)) (.int .i64 (j:Int)) g':=by
         intro g' v6 L'' s6 hl6 hw6 hf6
         refine zP4 ?_
         simp only [zAM _ hj64,zA]
         have:=ihr (j+1) L'' v6 g' (by omega) s6 hl6 hw6 hf6
         simpa using this
        by_cases hx0:x.1=0
        ·by_cases hxm:x.2∈L'
         ·have:zJk L' x=L':=by unfold zJk;simp [hxm]
          rw [this] at hfold
          simp only [hx0,hxm,decide_true,beq_self_eq_true,cond_true,zA,zCQ,Nat.zero_add,y1,zME mg mnd,hdec,zv,zJ,Bool.not_true,zk]
          exact skip g5 v5' L' s5 hLL v5w hfold
         ·have hadd:zJk L' x=L'++[x.2]:=by unfold zJk;simp [hxm,hx0]
          rw [hadd] at hfold
          simp only [hx0,hxm,decide_true,decide_false,beq_self_eq_true,cond_true,zA,zCQ,Nat.zero_add,y1,zME mg mnd,hdec,zv,zJ,Bool.not_false,zu]
          refine zWP ?_
          have hxR:x.2 ∉ R:=fun h=>hxm ((mmem _).1 h)
          simp only [zCQ,Nat.zero_add,y1,zA,upd273 mg mnd hxR,zL]
          refine zP5 ?_
          have e6:=s5.ext.upd (b:=k.next) (Nat.le_refl _) (some (.map (zHN (zGX x.2 R)) (ver+1)))
          have m6:(g5.upd k.next (some (.map (zHN (zGX x.2 R)) (ver+1)))).get k.next=_:=zR _ _ _
          have x6:(g5.upd k.next (some (.map (zHN (zGX x.2 R)) (ver+1)))).get g.next=_:=(zU (by have:=sg.mlt;omega)).trans x5
          have w6:w0<=(g5.upd k.next (some (.map (zHN (zGX x.2 R)) (ver+1)))).wm:=z9 s5.w hw'
          have v6w:(g5.upd k.next (some (.map (zHN (zGX x.2 R)) (ver+1)))).wm<=l:=Nat.le_trans (zDB _ _ _).1 v5w
          have n6:(g5.upd k.next (some (.map (zHN (zGX x.2 R)) (ver+1)))).next=g5.next:=rfl
          have l6:LS (k.next+1) (g5.upd k.next (some (.map (zHN (zGX x.2 R)) (ver+1)))) v5' L':=s5.ls.mono (Nat.le_of_eq n6.symm) (fun b h1 h2 _=>zU (by omega))
          generalize (g5.upd k.next (some (.map (zHN (zGX x.2 R)) (ver+1))))=g6 at e6 m6 x6 w6 v6w n6 l6
          have y6:=zF (P:=E) zAS (o:=1) x6
          simp only [lnth,zG] at y6
          have l7:LS (k.next+1) (g6.new (.row [.int .i64 x.2] 3 0 false)) v5' L':=l6.mono (by simp) (fun b h1 h2 _=>zK (by omega))
          have e7:=e6.new (.row [.int .i64 x.2] 3 0 false)
          have r7:=zI g6 (.row [.int .i64 x.2] 3 0 false)
          have m7:(g6.new (.row [.int .i64 x.2] 3 0 false)).get k.next=_:=(zK (by have:=sg.mlt;omega)).trans m6
          have hL9:L'.length<=999999:=by have:=zBv _ _ s5.nd s5.bd;have:=hSS.len;omega
          obtain ⟨v8,g8,a1,a2,a3,a4,a5,a6,a7,a8⟩:=l7.app hL9 r7
          simp only [zCQ,Nat.zero_add,y6,zA,bs47,zL,a1]
          have n7:(g6.new (.row [.int .i64 x.2] 3 0 false)).next=g6.next+1:=rfl
          obtain ⟨bl,cl,hvl,hl1,hl2,_⟩:=l7.ex
          have hkn:k.next<g.next:=sg.mlt
          have hnb:∀ c,c<=k.next->¬ zy v5' c:=by
           rintro c hc ⟨n',c',he⟩
           rw [hvl] at he
           simp only [Value.slice.injEq,Option.some.injEq,Addr.mk.injEq] at he
           omega
          have hge:∀ c,c<=k.next->g8.get c=(g6.new (.row [.int .i64 x.2] 3 0 false)).get c:=fun c hc=>a5 c (by omega) (hnb c hc)
          have s8:St22 k w0 k.next SS.length v8 (L'++[x.2]) g8:=by
           refine ⟨⟨a6 e7.ok,by omega,fun c hc=>(hge c (by omega)).trans (e7.get c hc)⟩,a8 w0 (by rw [zC9];exact w6) (by omega),⟨zGX x.2 R,ver+1,(hge _ (Nat.le_refl _)).trans m7,zIJ mnd hxR,fun y=>?_⟩,by omega,?_,?_,?_⟩
           ·rw [zJL,mmem]
            simp only [List.mem_append,List.mem_singleton]
            exact Or.comm
           ·rw [← hadd];exact zPu s5.nd x
           ·intro y hy
            rcases List.mem_append.1 hy with hy|hy
            ·exact s5.bd y hy
            ·rw [List.mem_singleton.1 hy];exact ⟨xt0,xtN⟩
           ·refine ⟨_,UNK+1,?_,?_,?_,.inr ⟨rfl,a4⟩⟩
            ·rw [a2];simp
            ·omega
            ·omega
          exact skip g8 v8 _ s8 (by simp;omega) (Nat.le_trans a7 (by rw [zC9];exact v6w)) hfold
        ·have:zJk L' x=L':=by unfold zJk;simp [hx0]
         rw [this] at hfold
         simp only [hx0,decide_false,show (false==true)=false from rfl,cond_false,zA,zJ,zk]
         exact skip g5 v5' L' s5 hLL v5w hfold
      exact steps (SS[s]).length 0 L v5 h' (by omega) st1 (Nat.le_refl _) y3 (by simp)
    subst hv
    simp only [zA,zFi,zY,hlt,decide_true,zu]
    exact hq
   ·subst hv
    have:¬ ((i:Int)<(L.length:Int)):=by omega
    simp only [zA,zFi,zY,this,decide_false,zk,zMW,zCC,true_and]
    have hwl':h.wm<=l:=hwl.resolve_left (by omega)
    refine ⟨.inr (by omega),?_⟩
    rw [hb]
    have:bfs SS body (f+1) i L=false:=by
     simp only [bfs,List.getElem?_eq_none (by omega:L.length<=i)]
    rw [this]
    refine ⟨?_,?_,fun _=>⟨st.ext.next,fun c hc=>st.ext.get c hc⟩,fun h=>by cases h⟩
    ·have:=st.ext.ok
     show cond (Nat.ble k.wm h.wm) k.wm h.wm<=h.next+UNK
     unfold AH.ok at this
     cases hc:Nat.ble k.wm h.wm with
     | true=>have:=ble_true.1 hc;simp only [cond_true];omega
     | false=>simpa using this
    ·show w0<=cond (Nat.ble k.wm h.wm) k.wm h.wm
     cases Nat.ble k.wm h.wm
     ·exact st.w
     ·exact hw
 exact loop SS.length 0 [t] _ _ (by omega) st0 (by simp) (by simp) (.inl rfl) rfl
noncomputable def zbF (s:Bool) (d:Nat):Cx:=⟨E,s,none,zNH,[([],[8])],[8],[d]⟩
theorem zfb {s:Bool} {d:Nat} {v8:Value} {T:Tm} {h:AH} {K:KF} (hT:∀ x∈[(8,v8)],T.get x.1=x.2) (H:zNE s K v8 h) :
  Ev s (evC E (zW E) none zNH ⟨T,h,[d]⟩) (zRH (zbF s d) K):=
 zEK (C:=zbF s d) (by kernel_rfl) (by kernel_rfl) hT ((by kernel_rfl:zEo (zbF s d) K 30 (rs zNH 60 (.at [])) (zl [(8,v8)]) h=(SP (zbF s d) K [] [(8,v8)] h)).mpr
  (zRa (p:=[]) (by kernel_rfl) rfl ((by kernel_rfl:zbT (zbF s d) K [] (zl [(8,v8)]) h=zNE s K v8 h).mpr H)))
theorem B130_eq:B130=.seq zbG (.seq (.seq zRE (.block 0 (.rangeFunc (.tmp 14) #[15] zHZ zGQ))) (.seq zNH .ret)):=by kernel_rfl
def zB1 (R:Rel) (SS:List zAF) (u:Int) (x:Int×Int):Bool:=match SS[u.toNat]? with
 | some S=>zDt R S x
 | none=>false
def zDj (R:Rel) (SS:List zAF) (s:Int) (x:Int×Int) (u:Int):Bool:=
 decide ((s,u)∈R)&&((decide (x.1=0)&&decide ((x.2,u)∈R))||zB1 R SS u x)
def zD1 (R:Rel) (SS:List zAF) (s t:Int) (x:Int×Int):Bool:=bfs SS (zDj R SS s x) SS.length 0 [t]
theorem call178 {k:AH} {bg:Nat} {t:Int} :
  Ev true ((zW E).call 178 [ptr bg,.int .i64 t] k) fun x=>x.1=.func (.func 222) #[] #[ptr (k.next+1),ptr k.next]/\x.2.next=k.next+2/\x.2.ok/\(∀ w,w<=k.wm->w<=k.next->w<=x.2.wm) ∧
   x.2.get k.next=some (.row [ptr bg] 128 0 false)/\x.2.get (k.next+1)=some (.row [.int .i64 t] 3 0 false)/\∀ c,c<k.next->x.2.get c=k.get c:=by
 refine zai (Rp:=fun v k'=>v=.func (.func 222) #[] #[ptr (k.next+1),ptr k.next]/\k'.next=k.next+2/\k'.ok/\(∀ w,w<=k.wm->w<=k.next->w<=k'.wm) ∧
   k'.get k.next=some (.row [ptr bg] 128 0 false)/\k'.get (k.next+1)=some (.row [.int .i64 t] 3 0 false)/\∀ c,c<k.next->k'.get c=k.get c) (zXe ?_)
 simp only [zd,zL,zA,zj]
 refine zXd ?_
 have g0:((k.fresh.new (.row [ptr bg] 128 0 false)).new (.row [.int .i64 t] 3 0 false)).get k.next=some (.row [ptr bg] 128 0 false):=(zK (by simp)).trans (zI k.fresh _)
 have g1:((k.fresh.new (.row [ptr bg] 128 0 false)).new (.row [.int .i64 t] 3 0 false)).get (k.next+1)=some (.row [.int .i64 t] 3 0 false):=zI (k.fresh.new _) _
 have g2:∀ c,c<k.next->((k.fresh.new (.row [ptr bg] 128 0 false)).new (.row [.int .i64 t] 3 0 false)).get c=k.get c:=fun c hc=>(zK (by simp;omega)).trans ((zK (by simp;omega)).trans rfl)
 have n1:((k.fresh.new (.row [ptr bg] 128 0 false)).new (.row [.int .i64 t] 3 0 false)).next=k.next+2:=rfl
 have w1:((k.fresh.new (.row [ptr bg] 128 0 false)).new (.row [.int .i64 t] 3 0 false)).wm=k.next+UNK:=rfl
 simp only [zZ,AH.next_new]
 generalize ((k.fresh.new (.row [ptr bg] 128 0 false)).new (.row [.int .i64 t] 3 0 false))=k1 at g0 g1 g2 n1 w1
 simp only [zAt,zA,zAJ,zT,true_and]
 refine ⟨.inl rfl,n1,?_,fun w h1 h2=>?_,g0,g1,g2⟩
 ·show cond (Nat.ble k.wm k1.wm) k.wm k1.wm<=k1.next+UNK
  cases hc:Nat.ble k.wm k1.wm with
  | true=>have:=ble_true.1 hc;simp only [cond_true];omega
  | false=>simp only [cond_false];omega
 ·show w<=cond (Nat.ble k.wm k1.wm) k.wm k1.wm
  cases Nat.ble k.wm k1.wm
  ·simp only [cond_false];omega
  ·exact h1
theorem ev_inv {α:Type} {x:R α} {Q:α->Prop} (h:Ev true x Q):∃ a,x=some [a]/\Q a:=by
 obtain ⟨l,e,_,h1,h2⟩:=h
 match l,h1 rfl with
 | [a],_=>exact ⟨a,e,h2 a (by simp)⟩
def KB130 (R:Rel) (SS:List zAF) (s:Int) (x:Int×Int) (un:Int) (h:AH) (b8:Nat):KF:=fun ex _ g=>(zDj R SS s x un=false/\ex=.normal/\g=h)\/(zDj R SS s x un=true/\ex=.ret/\g=h.upd b8 (some (.row [.bool true] 4 0 false)))
theorem body130 {h:AH} {l b4 b5 b7 b8 m ver bg un:Nat} {gx:Value} {R:Rel} {SS:List zAF} {S:zAF} {s:Int} {x:Int×Int} {v:Value} {T:Tm} (hok:h.ok)
  (h4:h.get b4=some (.row (zAm gx (ptr bg) m) 178 0 false)) (h5:h.get b5=some (.row [.int .i64 s] 3 0 false)) (h7:h.get b7=some (.row (zG x) 134 0 false)) (h8:h.get b8=some (.row [v] 4 0 false))
  (hm:h.get m=some (.map (ent R) ver)) (hml:m<h.next) (hR:R.Nodup) (hg:GV h bg SS) (hS:SS[un]?=some S) (hSl:S.length<=1000000)
  (hT:∀ y∈[(4,ptr b4),(5,ptr b5),(7,ptr b7),(8,ptr b8),(9,Value.int .i64 (un:Int))],T.get y.1=y.2) :
  Ev true (evC E (zW E) (some l) zGQ ⟨T,h,[]⟩) (zRH (zHo true l) (KB130 R SS s x un h b8)):=by
 refine zfd hT (zQj ?_)
 have la:=za (P:=E) zJ0 (o:=0) h4 (by simp [zAm])
 rw [List.drop_zero,List.take_of_length_le (by simp [zAm])] at la
 have lf:=za (P:=E) ta_178 (o:=0) h4 (by simp [zAm])
 rw [List.drop_zero,List.take_of_length_le (by simp [zAm])] at lf
 have l5:=zF (P:=E) zAS (o:=0) h5
 have x0:=zF (P:=E) zAS (o:=0) h7
 have x1:=zF (P:=E) zAS (o:=1) h7
 have lx:=za (P:=E) zHu (o:=0) h7 (by simp [zG])
 rw [List.drop_zero,List.take_of_length_le (by simp [zG])] at lx
 simp only [lnth,zG] at l5 x0 x1
 have hstrong:zB1 R SS (un:Int) x=zDt R S x:=by
  unfold zB1
  simp [hS]
 have fin:∀ b:Bool,zDj R SS s x un=b->BrK (some (.bool b)) (P130c_1 true l (KB130 R SS s x un h b8) (ptr b8) h) (KB130 R SS s x un h b8 .normal [] h):=by
  intro b hb
  rw [zBS]
  refine ⟨fun e=>?_,fun e=>.inl ⟨by rw [hb,e],rfl,rfl⟩⟩
  refine zQi ?_
  have hst:=zw (P:=E) ts_4 (o:=0) (x:=.bool true) (cs:=[.bool true]) h8 rfl rfl (by simp) (by simp [zr])
  simp only [hst,zL]
  exact .inr ⟨by rw [hb,e],rfl,rfl⟩
 simp only [zDZ,Nat.add_zero,la,l5,zA,zS,zJd hok hm hml hR,zN]
 by_cases e1:(s,(un:Int))∈R
 ·simp only [e1,decide_true,zM,beq_self_eq_true,cond_true,zGd,zCQ,Nat.add_zero,Nat.zero_add,x0,x1,zA,zAZ]
  by_cases e2:x.1=0
  ·simp only [e2,decide_true,zM,zP,beq_self_eq_true,cond_true,zDZ,zGd,zCQ,Nat.add_zero,Nat.zero_add,la,x1,zA,zS,zJd hok hm hml hR,zN,zJ]
   by_cases e3:(x.2,(un:Int))∈R
   ·simp only [e3,decide_true,zM,zP,show (true==false)=false from rfl,cond_false,zA,zL,zJ,cond_true]
    exact fin true (by simp [zDj,e1,e2,e3])
   ·simp only [e3,decide_false,zM,zP,beq_self_eq_true,cond_true,lf,l5,lx,zA,zS,zM2 hok hm hml hR hg hS hSl,zN,zJ,cond_false]
    exact fin _ (by simp [zDj,e1,e2,e3,hstrong])
  ·simp only [e2,decide_false,zM,zP,show (false==true)=false from rfl,beq_self_eq_true,cond_false,cond_true,zA,zL,zJ,lf,l5,lx,zS,zM2 hok hm hml hR hg hS hSl,zN]
   exact fin _ (by simp [zDj,e1,e2,hstrong])
 ·simp only [e1,decide_false,zM,zP,zt,zx,show (false==true)=false from rfl,cond_false,zA,zL,zJ]
  exact fin false (by simp [zDj,e1])
noncomputable def zBH (st:LoopState) (pend:Option Code) (T:Tm) (d:Nat):AObj:=.loop st pend T [15] zHZ zGQ d
theorem zBU {h:AH} {a l:Nat} {vs:List Value} {ty es:Nat} {ro:Bool} {st:LoopState} {pend:Option Code} {T:Tm} {d:Nat} (h1:h.get a=some (.row vs ty es ro)) (h2:h.get l=some (zBH st pend T d)):a≠l:=by
 rintro rfl
 rw [h1] at h2
 simp [zBH] at h2
theorem zL9 {h:AH} {a l:Nat} {es:List (Value×Value)} {ver:Nat} {st:LoopState} {pend:Option Code} {T:Tm} {d:Nat} (h1:h.get a=some (.map es ver)) (h2:h.get l=some (zBH st pend T d)):a≠l:=by
 rintro rfl
 rw [h1] at h2
 simp [zBH] at h2
theorem GV.upd_loop {h:AH} {bg l:Nat} {SS:List zAF} {st:LoopState} {pend:Option Code} {T:Tm} {d:Nat} (g:GV h bg SS) (hl:h.get l=some (zBH st pend T d)) (o:Option AObj):GV (h.upd l o) bg SS:=by
 obtain ⟨loc,bs,cells,G⟩:=g.ex
 refine ⟨loc,bs,cells,(zU (zBU G.g hl)).trans G.g,(zU (zBU G.s hl)).trans G.s,G.len,G.ne,G.ltg,G.lts,G.locg,G.locs,fun i c S hc hS=>?_,G.blk,G.dis⟩
 rcases G.cell i c S hc hS with a|⟨b,a1,a2,a3⟩
 ·exact .inl a
 ·exact .inr ⟨b,a1,(zU (zBU a2 hl)).trans a2,a3⟩
theorem zbW {h:AH} {l d b4 b5 b7 b8 m ver bg un:Nat} {gx:Value} {R:Rel} {SS:List zAF} {S:zAF} {s:Int} {x:Int×Int} {v:Value} {T:Tm} (hok:h.ok)
  (hl:h.get l=some (zBH .ready none T d))
  (h4:h.get b4=some (.row (zAm gx (ptr bg) m) 178 0 false)) (h5:h.get b5=some (.row [.int .i64 s] 3 0 false)) (h7:h.get b7=some (.row (zG x) 134 0 false)) (h8:h.get b8=some (.row [v] 4 0 false))
  (hm:h.get m=some (.map (ent R) ver)) (hml:m<h.next) (hR:R.Nodup) (hg:GV h bg SS) (hS:SS[un]?=some S) (hSl:S.length<=1000000)
  (hT:∀ y∈[(4,ptr b4),(5,ptr b5),(7,ptr b7),(8,ptr b8)],T.get y.1=y.2) :
  ∃ h',(zW E).round l [.int .i64 (un:Int)] h=some [(.bool (!zDj R SS s x un),h')]/\h'.ok/\h'.wm<=l/\(∀ w,w<=h.wm->w<=l->w<=b8->w<=h'.wm)/\h'.next=h.next/\(zDj R SS s x un=false->∀ c,h'.get c=h.get c) ∧
   (zDj R SS s x un=true->h'.get l=some (zBH .done (some .ret) T d)/\h'.get b8=some (.row [.bool true] 4 0 false)/\∀ c,c≠l->c≠b8->h'.get c=h.get c):=by
 have n4:=zBU h4 hl
 have n5:=zBU h5 hl
 have n7:=zBU h7 hl
 have n8:=zBU h8 hl
 have nm:=zL9 hm hl
 let hb:=h.upd l (some (zBH .busy none T d))
 have hbok:hb.ok:=zDo hok _ _
 have q:∀ {c:Nat},c≠l->hb.get c=h.get c:=fun hc=>zU hc
 have ql:hb.get l=some (zBH .busy none T d):=zR _ _ _
 have key:Ev true ((zW E).round l [.int .i64 (un:Int)] h) fun y=>(zDj R SS s x un=false/\y=(.bool true,hb.upd l (some (zBH .ready none T d))))\/(zDj R SS s x un=true/\y=(.bool false,(hb.upd b8 (some (.row [.bool true] 4 0 false))).upd l (some (zBH .done (some .ret) T d)))):=by
  rw [round_eq]
  unfold roundCall
  rw [hl]
  show Ev true (zDE E (zW E) l zHZ zGQ h (zBj T [15] [.int .i64 (un:Int)])) _
  show Ev true (AM.R.andThen (evC E (zW E) (some l) zHZ ⟨T.put 15 (.int .i64 (un:Int)),h,[]⟩) (zEJ E (zW E) l zGQ)) _
  have hT':∀ y∈[(4,ptr b4),(5,ptr b5),(7,ptr b7),(8,ptr b8),(15,Value.int .i64 (un:Int))],(T.put 15 (.int .i64 (un:Int))).get y.1=y.2:=by
   intro y hy
   rw [Tm.get_put]
   simp only [List.mem_cons,List.not_mem_nil,or_false] at hy
   rcases hy with rfl|rfl|rfl|rfl|rfl
   ·exact hT _ (by simp)
   ·exact hT _ (by simp)
   ·exact hT _ (by simp)
   ·exact hT _ (by simp)
   ·rfl
  have ha:=zfc (s:=true) (ll:=l) (h:=h) (K:=fun ex vs g=>ex=.normal/\vs=[ptr b4,ptr b5,ptr b7,ptr b8,.int .i64 (un:Int)]/\g=h) hT' (zQh (by exact ⟨by trivial,by trivial,by trivial⟩))
  refine Ev.andThen (ha.mono fun o ho=>?_)
  obtain ⟨o1,o2,o3,o4⟩:=ho
  have ho1:o.st.defs=[]:=o1
  have ho3:[o.st.T.get 4,o.st.T.get 5,o.st.T.get 7,o.st.T.get 8,o.st.T.get 9]=[ptr b4,ptr b5,ptr b7,ptr b8,.int .i64 (un:Int)]:=o3
  simp only [List.cons.injEq,and_true] at ho3
  unfold zEJ
  rw [o2,o4,ho1]
  simp only [zMX,hl,zBH,cond_true,zCb,beginRound]
  have hT2:∀ y∈[(4,ptr b4),(5,ptr b5),(7,ptr b7),(8,ptr b8),(9,Value.int .i64 (un:Int))],o.st.T.get y.1=y.2:=by
   intro y hy
   simp only [List.mem_cons,List.not_mem_nil,or_false] at hy
   rcases hy with rfl|rfl|rfl|rfl|rfl
   ·exact ho3.1
   ·exact ho3.2.1
   ·exact ho3.2.2.1
   ·exact ho3.2.2.2.1
   ·exact ho3.2.2.2.2
  have hb0:=body130 (h:=hb) (l:=l) (s:=s) (T:=o.st.T) hbok ((q n4).trans h4) ((q n5).trans h5) ((q n7).trans h7) ((q n8).trans h8) ((q nm).trans hm) hml hR (hg.upd_loop hl _) hS hSl hT2
  refine Ev.andThen (hb0.mono fun p hp=>?_)
  obtain ⟨_,p2⟩:=hp
  rcases p2 with ⟨p3,p4,p5⟩|⟨p3,p4,p5⟩
  ·unfold endRound
   rw [p4,p5]
   simp only [zEY,zCb,ql,zBH,zDL,Option.isNone,cond_true]
   exact Ev.one (.inl ⟨p3,rfl⟩)
  ·unfold endRound
   rw [p4,p5]
   have:(hb.upd b8 (some (.row [.bool true] 4 0 false))).get l=some (zBH .busy none T d):=(zU (Ne.symm n8)).trans ql
   simp only [zEY,zCb,this,zBH,zDL,Option.isNone,cond_false]
   exact Ev.one (.inr ⟨p3,rfl⟩)
 obtain ⟨y,e,hy⟩:=ev_inv key
 rcases hy with ⟨hy,rfl⟩|⟨hy,rfl⟩
 ·refine ⟨_,by rw [e,hy];rfl,zDo hbok _ _,(zDB _ _ _).2,fun w h1 h2 h3=>z9 (z9 h1 h2) h2,rfl,fun _ c=>?_,(fun h=>by rw [hy] at h;cases h)⟩
  by_cases hc:c=l
  ·subst hc;rw [zR,hl]
  ·rw [zU hc,q hc]
 ·refine ⟨_,by rw [e,hy];rfl,zDo (zDo hbok _ _) _ _,(zDB _ _ _).2,fun w h1 h2 h3=>z9 (z9 (z9 h1 h2) h3) h2,rfl,(fun h=>by rw [hy] at h;cases h),fun _=>⟨zR _ _ _,(zU n8).trans (zR _ _ _),fun c h1 h2=>?_⟩⟩
  rw [zU h1,zU h2,q h1]
theorem end130 {T:Tm} {h:AH} {d b8:Nat} {b:Bool} {ex:Ex} (hex:ex=.ret\/ex=.normal) (hT:T.get 8=ptr b8) (hd:h.get d=some .defd) (h8:h.get b8=some (.row [.bool b] 4 0 false)) :
  zAX E Tryz.f130 ⟨ex,⟨T,h,[d]⟩⟩=one (.bool b,h.upd d none):=by
 have hne:b8≠d:=by rintro rfl;rw [hd] at h8;cases h8
 have h8':(h.upd d none).get b8=some (.row [.bool b] 4 0 false):=(zU hne).trans h8
 have hres:Tryz.f130.results.toList=[.cell 8 4]:=by kernel_rfl
 have hld:=zF (P:=E) ta_4 (o:=0) h8'
 simp only [lnth] at hld
 have hld':zEi E 4 (ptr b8) (h.upd d none)=some (.bool b):=hld
 have:zAX E Tryz.f130 ⟨ex,⟨T,h,[d]⟩⟩=zCi E Tryz.f130 T (zCH [d] h):=by
  rcases hex with rfl|rfl <;> rfl
 rw [this]
 simp only [zCH,hd,zCi,zE7,hres,zCd,hT,hld',v1]
theorem call130 {k:AH} {m ver bg:Nat} {gx:Value} {R:Rel} {SS:List zAF} {s t:Int} {x:Int×Int} (hok:k.ok)
  (hm:k.get m=some (.map (ent R) ver)) (hml:m<k.next) (hR:R.Nodup) (hg:GV k bg SS) (hSS:zTu SS) (ht0:0<=t) (htN:t<(SS.length:Int)) :
  (zW E).call 130 [.agg ⟨zAm gx (ptr bg) m⟩,.int .i64 s,.int .i64 t,.agg ⟨zG x⟩] k=some [(.bool (zD1 R SS s t x),k)]:=by
 refine zKs (s:=true) hok zfh za3 (zfg _ _) (by kernel_rfl) rfl ?_
 show Ev true (AM.R.andThen (evC E (zW E) none B130 ⟨⟨Tryz.f130.ntmps,zCI [.agg ⟨zAm gx (ptr bg) m⟩,.int .i64 s,.int .i64 t,.agg ⟨zG x⟩] 0 .e⟩,k.fresh,[]⟩) (zAX E Tryz.f130)) _
 have hT0:∀ y∈[(0,Value.agg ⟨zAm gx (ptr bg) m⟩),(1,.int .i64 s),(2,.int .i64 t),(3,.agg ⟨zG x⟩)],(⟨Tryz.f130.ntmps,zCI [.agg ⟨zAm gx (ptr bg) m⟩,.int .i64 s,.int .i64 t,.agg ⟨zG x⟩] 0 .e⟩:Tm).get y.1=y.2:=by
  intro y hy
  simp only [List.mem_cons,List.not_mem_nil,or_false] at hy
  rcases hy with rfl|rfl|rfl|rfl <;> kernel_rfl
 generalize (⟨Tryz.f130.ntmps,zCI [.agg ⟨zAm gx (ptr bg) m⟩,.int .i64 s,.int .i64 t,.agg ⟨zG x⟩] 0 .e⟩:Tm)=T0 at hT0
 rw [B130_eq]
 refine Ev.andThen ?_
 show Ev true (AM.R.andThen (evC E (zW E) none zbG ⟨T0,k.fresh,[]⟩) (thenC (evC E (zW E) none (.seq (.seq zRE (.block 0 (.rangeFunc (.tmp 14) #[15] zHZ zGQ))) (.seq zNH .ret))))) _
 obtain ⟨kA,hkA,oA,a4,a5,a7,a8,nA⟩:∃ kA,kA=(((k.fresh.new (.row (zAm gx (ptr bg) m) 178 0 false)).new (.row [.int .i64 s] 3 0 false)).new (.row (zG x) 134 0 false)).new (.row [.bool false] 4 0 false)/\Own k kA/\kA.get k.next=some (.row (zAm gx (ptr bg) m) 178 0 false) ∧
   kA.get (k.next+1)=some (.row [.int .i64 s] 3 0 false)/\kA.get (k.next+2)=some (.row (zG x) 134 0 false)/\kA.get (k.next+3)=some (.row [.bool false] 4 0 false)/\kA.next=k.next+4:=by
  refine ⟨_,rfl,((((Own.fresh k).new _).new _).new _).new _,?_,?_,?_,?_,rfl⟩
  ·exact (zK (by simp;omega)).trans ((zK (by simp;omega)).trans ((zK (by simp)).trans (zI k.fresh _)))
  ·exact (zK (by simp)).trans ((zK (by simp)).trans (zI (k.fresh.new _) _))
  ·exact (zK (by simp)).trans (zI ((k.fresh.new _).new _) _)
  ·exact zI (((k.fresh.new _).new _).new _) _
 have ha:=zff (s:=true) (h:=k.fresh) (K:=fun ex vs g=>ex=.normal/\vs=[.int .i64 t,ptr k.next,ptr (k.next+1),ptr (k.next+2),ptr (k.next+3)]/\g=kA) hT0 (zQl (by
  simp only [zd,zL,zA,zV,zj,z4]
  exact ⟨trivial,rfl,hkA.symm⟩))
 refine Ev.andThen (ha.mono fun o ho=>?_)
 obtain ⟨ex,T,g,ds⟩:=o
 obtain ⟨o1,o2,o3,o4⟩:=ho
 have o1':ds=[]:=o1
 have o2':ex=.normal:=o2
 have o4':g=kA:=o4
 subst o1' o2' o4'
 clear o1 o2 o4
 have o3':[T.get 2,T.get 4,T.get 5,T.get 7,T.get 8]=[.int .i64 t,ptr k.next,ptr (k.next+1),ptr (k.next+2),ptr (k.next+3)]:=o3
 simp only [List.cons.injEq,and_true] at o3'
 show Ev true (AM.R.andThen (AM.R.andThen (evC E (zW E) none zRE ⟨T,g,[]⟩) (thenC (evC E (zW E) none (.block 0 (.rangeFunc (.tmp 14) #[15] zHZ zGQ))))) (thenC (evC E (zW E) none (.seq zNH .ret)))) _
 refine Ev.andThen (Ev.andThen ?_)
 have hTb:∀ y∈[(2,Value.int .i64 t),(4,ptr k.next),(5,ptr (k.next+1)),(7,ptr (k.next+2)),(8,ptr (k.next+3))],T.get y.1=y.2:=by
  intro y hy
  simp only [List.mem_cons,List.not_mem_nil,or_false] at hy
  rcases hy with rfl|rfl|rfl|rfl|rfl
  ·exact o3'.1
  ·exact o3'.2.1
  ·exact o3'.2.2.1
  ·exact o3'.2.2.2.1
  ·exact o3'.2.2.2.2
 have lg:=zF (P:=E) zDD (o:=1) a4
 simp only [lnth,zAm] at lg
 have hb:=zfe (s:=true) (h:=g) (K:=fun ex vs kB=>ex=.normal/\vs=[ptr k.next,ptr (k.next+1),ptr (k.next+2),ptr (k.next+3),.func (.func 222) #[] #[ptr (g.next+1),ptr g.next]] ∧
   kB.next=g.next+2/\kB.ok/\(∀ w,w<=g.wm->w<=g.next->w<=kB.wm)/\kB.get g.next=some (.row [ptr bg] 128 0 false)/\kB.get (g.next+1)=some (.row [.int .i64 t] 3 0 false)/\∀ c,c<g.next->kB.get c=g.get c) hTb (zQk (by
  simp only [zDZ,zJW,Nat.add_zero,Nat.zero_add,lg,zA,zS]
  refine call178.mono fun y hy=>?_
  obtain ⟨y1,y2⟩:=hy
  rw [y1]
  exact ⟨trivial,rfl,y2⟩))
 refine hb.mono fun o ho=>?_
 obtain ⟨ex,T',kB,ds⟩:=o
 obtain ⟨p1,p2,p3,nB,okB,wB,b4,b5,bo⟩:=ho
 have p1':ds=[]:=p1
 have p2':ex=.normal:=p2
 subst p1' p2'
 clear p1 p2
 have p3':[T'.get 4,T'.get 5,T'.get 7,T'.get 8,T'.get 14]=[ptr k.next,ptr (k.next+1),ptr (k.next+2),ptr (k.next+3),.func (.func 222) #[] #[ptr (g.next+1),ptr g.next]]:=p3
 simp only [List.cons.injEq,and_true] at p3'
 obtain ⟨t4,t5,t7,t8,t14⟩:=p3'
 clear p3
 simp only at nB okB wB b4 b5 bo
 show Ev true (AM.R.andThen (evRange E (zW E) none (some (T'.get 14)) [15] zHZ zGQ ⟨T',kB,[]⟩) (zDk 0)) _
 rw [t14]
 have hhb:zC6 E 222=true:=by kernel_rfl
 have hst:evRange E (zW E) none (some (.func (.func 222) #[] #[ptr (g.next+1),ptr g.next])) [15] zHZ zGQ ⟨T',kB,[]⟩ =
   AM.R.andThen ((zW E).call 222 [.func (.yield (kB.next+1)) #[] #[],ptr (g.next+1),ptr g.next] ((kB.new .defd).new (zBH .ready none T' kB.next))) fun x=>zB6 (kB.next+1) T' [kB.next] x.2:=by
  unfold evRange
  simp only [hhb,cond_true]
  rfl
 rw [hst]
 refine Ev.andThen (Ev.andThen ?_)
 have okC:((kB.new .defd).new (zBH .ready none T' kB.next)).ok:=zCK (zCK okB _) _
 have cl:((kB.new .defd).new (zBH .ready none T' kB.next)).get (kB.next+1)=some (zBH .ready none T' kB.next):=zI (kB.new .defd) _
 have cd:((kB.new .defd).new (zBH .ready none T' kB.next)).get kB.next=some .defd:=(zK (by simp)).trans (zI kB _)
 have co:∀ c,c<kB.next->((kB.new .defd).new (zBH .ready none T' kB.next)).get c=kB.get c:=fun c hc=>(zK (by simp;omega)).trans (zK (by omega))
 have nC:((kB.new .defd).new (zBH .ready none T' kB.next)).next=kB.next+2:=rfl
 have wC:((kB.new .defd).new (zBH .ready none T' kB.next)).wm=kB.wm:=rfl
 generalize ((kB.new .defd).new (zBH .ready none T' kB.next))=kC at okC cl cd co nC wC
 have cg:∀ c,c<g.next->kC.get c=g.get c:=fun c hc=>(co c (by omega)).trans (bo c hc)
 have eC:Ext k kC:=⟨okC,by omega,fun c hc=>(cg c (by omega)).trans (oA.ext.get c hc)⟩
 have hw0:k.next<=kC.wm:=by rw [wC];exact wB _ oA.wm (by omega)
 have hY:Yd kC (kB.next+1) k.next SS.length (zDj R SS s x) (fun h'=>h'.get (kB.next+1)=some (zBH .done (some .ret) T' kB.next)/\h'.get (k.next+3)=some (.row [.bool true] 4 0 false)/\h'.get kB.next=some .defd):=by
  intro h he hw u hu0 huN
  obtain ⟨un,rfl⟩:=Int.eq_ofNat_of_zero_le hu0
  have hun:un<SS.length:=by omega
  have hSu:SS[un]?=some SS[un]:=List.getElem?_eq_getElem hun
  have hek:=eC.trans he
  obtain ⟨h',r1,r2,r3,r4,r5,r6,r7⟩:=zbW (h:=h) (un:=un) (s:=s) (x:=x) he.ok ((he.get _ (by omega)).trans cl) ((he.get _ (by omega)).trans ((cg _ (by omega)).trans a4)) ((he.get _ (by omega)).trans ((cg _ (by omega)).trans a5)) ((he.get _ (by omega)).trans ((cg _ (by omega)).trans a7)) ((he.get _ (by omega)).trans ((cg _ (by omega)).trans a8))
   ((hek.get m hml).trans hm) (Nat.lt_of_lt_of_le hml hek.next) hR (hg.ext hek) hSu (by have:=(hSS.stp un _ hSu).1;omega) (by
    intro y hy
    simp only [List.mem_cons,List.not_mem_nil,or_false] at hy
    rcases hy with rfl|rfl|rfl|rfl
    ·exact t4
    ·exact t5
    ·exact t7
    ·exact t8)
  refine ⟨h',r1,r2,r3,r4 _ hw (by omega) (by omega),fun e=>⟨r5,r6 e⟩,fun e=>?_⟩
  obtain ⟨z1,z2,z3⟩:=r7 e
  exact ⟨z1,z2,(z3 _ (by omega) (by omega)).trans ((he.get _ (by omega)).trans cd)⟩
 have hc:=call222 (k:=kC) (l:=kB.next+1) (bs0:=g.next+1) (bgp:=g.next) (bg:=bg) (w0:=k.next) (SS:=SS) (t:=t) okC ((co _ (by omega)).trans b5) (by omega) ((co _ (by omega)).trans b4) (by omega) (hg.ext eC) hSS ht0 htN hw0 (by omega) (by omega) (fun h h' hge hn hr=>by
  rw [hge,hge,hge];exact hr) hY
 refine hc.mono fun y hy=>?_
 obtain ⟨v,h⟩:=y
 obtain ⟨_,f1,f2,f3,f4⟩:=hy
 simp only at f1 f2 f3 f4 ⊢
 have hfold:bfs SS (zDj R SS s x) SS.length 0 [t]=zD1 R SS s t x:=rfl
 rw [hfold] at f3 f4
 cases hb:zD1 R SS s t x with
 | true=>
  obtain ⟨r1,r2,r3⟩:=f4 hb
  have her:zB6 (kB.next+1) T' [kB.next] h=one ⟨.ret,⟨T',h.upd (kB.next+1) (some (zBH .exhausted (some .ret) T' kB.next)),[kB.next]⟩⟩:=by
   unfold zB6
   rw [r1]
   rfl
  rw [her,zL]
  show Ev true (one _) _
  rw [zL]
  show Ev true (one _) _
  rw [zL]
  show Ev true (zAX E Tryz.f130 ⟨.ret,⟨T',h.upd (kB.next+1) (some (zBH .exhausted (some .ret) T' kB.next)),[kB.next]⟩⟩) _
  rw [end130 (.inl rfl) t8 ((zU (by omega)).trans r3) ((zU (by omega)).trans r2),zL]
  exact ⟨rfl,z9 (z9 f2 (by omega)) (by omega)⟩
 | false=>
  obtain ⟨r1,r2⟩:=f3 hb
  have hgl:h.get (kB.next+1)=some (zBH .ready none T' kB.next):=(r2 _ (by omega)).trans cl
  have her:zB6 (kB.next+1) T' [kB.next] h=one ⟨.normal,⟨T',h.upd (kB.next+1) (some (zBH .exhausted none T' kB.next)),[kB.next]⟩⟩:=by
   unfold zB6
   rw [hgl]
   rfl
  rw [her,zL]
  show Ev true (one _) _
  rw [zL]
  have q8:(h.upd (kB.next+1) (some (zBH .exhausted none T' kB.next))).get (k.next+3)=some (.row [.bool false] 4 0 false):=(zU (by omega)).trans ((r2 _ (by omega)).trans ((cg _ (by omega)).trans a8))
  have qd:(h.upd (kB.next+1) (some (zBH .exhausted none T' kB.next))).get kB.next=some .defd:=(zU (by omega)).trans ((r2 _ (by omega)).trans cd)
  have qw:k.next<=(h.upd (kB.next+1) (some (zBH .exhausted none T' kB.next))).wm:=z9 f2 (by omega)
  generalize (h.upd (kB.next+1) (some (zBH .exhausted none T' kB.next)))=h1 at q8 qd qw
  show Ev true (AM.R.andThen (evC E (zW E) none zNH ⟨T',h1,[kB.next]⟩) (thenC (evC E (zW E) none .ret))) _
  have hst:=zw (P:=E) ts_4 (o:=0) (x:=.bool false) (cs:=[.bool false]) q8 rfl rfl (by simp) (by simp [zr])
  have he:=zfb (s:=true) (d:=kB.next) (v8:=ptr (k.next+3)) (T:=T') (h:=h1) (K:=fun ex vs g=>ex=.normal/\vs=[ptr (k.next+3)]/\g=h1.upd (k.next+3) (some (.row [.bool false] 4 0 false))) (by
   intro y hy
   simp only [List.mem_cons,List.not_mem_nil,or_false] at hy
   subst hy
   exact t8) (by
   simp only [zNE,hst,zL]
   exact ⟨trivial,trivial,rfl⟩)
  refine Ev.andThen (he.mono fun o ho=>?_)
  obtain ⟨ex,T2,g2,ds⟩:=o
  obtain ⟨o1,o2,o3,o4⟩:=ho
  have o1':ds=[kB.next]:=o1
  have o2':ex=.normal:=o2
  have o4':g2=h1.upd (k.next+3) (some (.row [.bool false] 4 0 false)):=o4
  have o3':[T2.get 8]=[ptr (k.next+3)]:=o3
  subst o1' o2' o4'
  show Ev true (one _) _
  rw [zL]
  show Ev true (zAX E Tryz.f130 ⟨.ret,⟨T2,h1.upd (k.next+3) (some (.row [.bool false] 4 0 false)),[kB.next]⟩⟩) _
  rw [end130 (.inl rfl) (List.cons.inj o3').1 ((zU (by omega)).trans qd) (zR _ _ _),zL]
  exact ⟨rfl,z9 (z9 qw (by omega)) (by omega)⟩
def SameR (R R':Rel):Prop:=∀ p,p∈R ↔ p∈R'
theorem SameR.dec {R R':Rel} (h:SameR R R') (p:Int×Int):decide (p∈R)=decide (p∈R'):=decide_eq_decide.2 (h p)
theorem zJ2 {R R':Rel} (h:SameR R R') (S:zAF) (x:Int×Int):zDt R S x=zDt R' S x:=by
 have:zEz R x=zEz R' x:=by funext y;unfold zEz;rw [h.dec]
 unfold zDt
 simp only [this]
theorem zEy {R R':Rel} (h:SameR R R') (SS:List zAF) (u:Int) (x:Int×Int):zB1 R SS u x=zB1 R' SS u x:=by
 unfold zB1
 split
 ·exact zJ2 h _ _
 ·rfl
theorem zPp {R R':Rel} (h:SameR R R') (SS:List zAF) (s:Int) (x:Int×Int):zDj R SS s x=zDj R' SS s x:=by
 funext u
 unfold zDj
 rw [h.dec,h.dec,zEy h]
theorem zKt {R R':Rel} (h:SameR R R') (SS:List zAF) (s t:Int) (x:Int×Int):zD1 R SS s t x=zD1 R' SS s t x:=by
 unfold zD1
 rw [zPp h]
def zCg (kind:Int) (R:Rel) (TT:List zAF) (p x:Int×Int):Bool:=if kind=1 then zB1 R TT p.2 x else zD1 R TT p.1 p.2 x
theorem zKe {R R':Rel} (h:SameR R R') (kind:Int) (TT:List zAF):zCg kind R TT=zCg kind R' TT:=by
 funext p x
 unfold zCg
 rw [zEy h,zKt h]
theorem all_same {α:Type} {l l':List α} (h:∀ a,a∈l ↔ a∈l') (f:α->Bool):l.all f=l'.all f:=by
 rw [Bool.eq_iff_iff,List.all_eq_true,List.all_eq_true]
 exact ⟨fun H a ha=>H a ((h a).2 ha),fun H a ha=>H a ((h a).1 ha)⟩
def zOE (kind:Int) (R:Rel) (SS TT:List zAF):Bool:=zTm R SS (zCg kind R TT)
theorem zHU {R R':Rel} (h:SameR R R') (kind:Int) (SS TT:List zAF):zOE kind R SS TT=zOE kind R' SS TT:=by
 unfold zOE zTm
 rw [zKe h]
 exact all_same h _
def inB (n m:Int) (p:Int×Int):Bool:=decide (p.1<n)&&decide (p.2<m)
def relB (kind:Int) (prs:Rel) (SS TT:List zAF) (n m:Int):Bool:=
 prs.all (inB n m)&&(decide ((0,0)∈prs)&&zOE kind prs SS TT&&zOE kind (prs.map zEf) TT SS)
def zAB (kind:Int):List Value:=
 if kind=1 then [.func (.func 128) #[] #[],.func (.func 129) #[] #[],.string ⟨#[115,116,114,111,110,103]⟩]
 else [.func (.func 130) #[] #[],.func (.func 131) #[] #[],.string ⟨#[98,114,97,110,99,104,105,110,103]⟩]
def zMA:Value:=.agg ⟨[.nilFunc,.nilFunc,.string ⟨#[]⟩]++zAB 1++zAB 2⟩
theorem pbm1:zAi E 112 (some [(0,(.func (.func 128) #[] #[])),(1,(.func (.func 129) #[] #[])),(2,(.string ⟨#[115,116,114,111,110,103]⟩))])=some (.agg ⟨zAB 1⟩):=by kernel_rfl
theorem pbm2:zAi E 112 (some [(0,(.func (.func 130) #[] #[])),(1,(.func (.func 131) #[] #[])),(2,(.string ⟨#[98,114,97,110,99,104,105,110,103]⟩))])=some (.agg ⟨zAB 2⟩):=by kernel_rfl
theorem pbm:zAi E 113 (some [(1,.agg ⟨zAB 1⟩),(2,.agg ⟨zAB 2⟩)])=some zMA:=by kernel_rfl
theorem pim1:zCv E 113 (some zMA) (some (.int .i64 1))=some (.agg ⟨zAB 1⟩):=by kernel_rfl
theorem pim2:zCv E 113 (some zMA) (some (.int .i64 2))=some (.agg ⟨zAB 2⟩):=by kernel_rfl
theorem pim {kind:Int} (h:zDI kind=true):zCv E 113 (some zMA) (some (.int .i64 kind))=some (.agg ⟨zAB kind⟩):=by
 simp only [zDI,Bool.or_eq_true,decide_eq_true_eq] at h
 rcases h with rfl|rfl
 ·exact pim1
 ·exact pim2
theorem call79 {k:AH} (hok:k.ok):(zW E).call 79 [] k=some [(zMA,k)]:=by
 refine zaK hok (by kernel_rfl) (zc3 ?_)
 simp only [z_113,zd,zL,zV]
 refine zc2 ?_
 have o1:=(Own.fresh k).new (.row [.nilFunc,.nilFunc,.string ⟨#[]⟩,.nilFunc,.nilFunc,.string ⟨#[]⟩,.nilFunc,.nilFunc,.string ⟨#[]⟩] 113 0 false)
 have t1:=zI k.fresh (.row [.nilFunc,.nilFunc,.string ⟨#[]⟩,.nilFunc,.nilFunc,.string ⟨#[]⟩,.nilFunc,.nilFunc,.string ⟨#[]⟩] 113 0 false)
 generalize k.fresh.new (.row [.nilFunc,.nilFunc,.string ⟨#[]⟩,.nilFunc,.nilFunc,.string ⟨#[]⟩,.nilFunc,.nilFunc,.string ⟨#[]⟩] 113 0 false)=k1 at o1 t1
 simp only [zZ] at t1 ⊢
 have hst:=zw (P:=E) ts_113 (o:=0) (x:=zMA) (cs:=[.nilFunc,.nilFunc,.string ⟨#[]⟩]++zAB 1++zAB 2) t1 rfl rfl (by simp) (by rfl)
 simp only [pbm1,pbm2,pbm,zA,hst,zL,kR_c,zT,true_and]
 have g1:(k1.upd k.next (some (.row (lput [.nilFunc,.nilFunc,.string ⟨#[]⟩,.nilFunc,.nilFunc,.string ⟨#[]⟩,.nilFunc,.nilFunc,.string ⟨#[]⟩] 0 ([.nilFunc,.nilFunc,.string ⟨#[]⟩]++zAB 1++zAB 2)) 113 0 false))).get k.next=some (.row ([.nilFunc,.nilFunc,.string ⟨#[]⟩]++zAB 1++zAB 2) 113 0 false):=zR _ _ _
 have la:=za (P:=E) ta_113 (o:=0) g1 (by decide)
 have:zEi E 113 (ptr k.next) (k1.upd k.next (some (.row (lput [.nilFunc,.nilFunc,.string ⟨#[]⟩,.nilFunc,.nilFunc,.string ⟨#[]⟩,.nilFunc,.nilFunc,.string ⟨#[]⟩] 0 ([.nilFunc,.nilFunc,.string ⟨#[]⟩]++zAB 1++zAB 2)) 113 0 false)))=some zMA:=la
 rw [this,zA]
 exact ⟨rfl,z9 o1.wm (Nat.le_refl _)⟩
theorem GV.fx {k l:AH} {bg:Nat} {SS:List zAF} (g:GV k bg SS) (f:Fx NoB k l):GV l bg SS:=g.ext ⟨f.ok,f.next,fun c hc=>f.get c hc (fun h=>h)⟩
theorem Fx.ext0 {k l:AH} (f:Fx NoB k l):Ext k l:=⟨f.ok,f.next,fun c hc=>f.get c hc (fun h=>h)⟩
theorem pb178 {a b:Option Addr} {m:Nat}:zAi E 178 (some [(0,.agg ⟨zAm (.pointer a) (.pointer b) m⟩)])=some (.agg ⟨zAm (.pointer a) (.pointer b) m⟩):=by kernel_rfl
def folOf (kind:Int):FuncId:=if kind=1 then 128 else 130
def canOf (kind:Int):FuncId:=if kind=1 then 129 else 131
def nmOf (kind:Int):ByteArray:=if kind=1 then ⟨#[115,116,114,111,110,103]⟩ else ⟨#[98,114,97,110,99,104,105,110,103]⟩
theorem zFD (kind:Int):zAB kind=[.func (.func (folOf kind)) #[] #[],.func (.func (canOf kind)) #[] #[],.string (nmOf kind)]:=by
 unfold zAB folOf canOf nmOf
 by_cases h:kind=1 <;> simp [h]
theorem veq_man {kind:Int} (h:zDI kind=true):veq 100 (.agg ⟨zAB kind⟩) (.agg ⟨zAB kind⟩)=true:=by
 simp only [zDI,Bool.or_eq_true,decide_eq_true_eq] at h
 rcases h with rfl|rfl <;> kernel_rfl
theorem fol_ok {h0 k':AH} {kind:Int} {gx:Value} {bg m ver:Nat} {R:Rel} {SS:List zAF} (hkind:zDI kind=true) (e:Ext h0 k') (hm:h0.get m=some (.map (ent R) ver)) (hml:m<h0.next) (hR:R.Nodup) (hg:GV h0 bg SS) (hSS:zTu SS)
  {p x:Int×Int} (h0':0<=p.2) (hN:p.2<(SS.length:Int)):(zW E).call (folOf kind) [.agg ⟨zAm gx (ptr bg) m⟩,.int .i64 p.1,.int .i64 p.2,.agg ⟨zG x⟩] k'=some [(.bool (zCg kind R SS p x),k')]:=by
 have hm':=(e.get m hml).trans hm
 have hml':=Nat.lt_of_lt_of_le hml e.next
 simp only [zDI,Bool.or_eq_true,decide_eq_true_eq] at hkind
 rcases hkind with rfl|rfl
 ·obtain ⟨t,ht⟩:=Int.eq_ofNat_of_zero_le h0'
  have htN:t<SS.length:=by omega
  have hS:SS[t]?=some SS[t]:=List.getElem?_eq_getElem htN
  have hf:zCg 1 R SS p x=zDt R SS[t] x:=by
   unfold zCg zB1
   rw [ht]
   simp [hS]
  rw [hf,ht]
  exact zM2 e.ok hm' hml' hR (hg.ext e) hS (by have:=(hSS.stp t _ hS).1;omega)
 ·have hf:zCg 2 R SS p x=zD1 R SS p.1 p.2 x:=by
   unfold zCg
   simp
  rw [hf]
  exact call130 e.ok hm' hml' hR (hg.ext e) hSS h0' hN
theorem rel11 {k h:AH} {kind:Int} {b1 b2 m ver b8 b11:Nat} {R:Rel} {SS TT:List zAF} (ho:Own k h) (hkind:zDI kind=true)
  (h8:h.get b8=some (.row (zAm (ptr b1) (ptr b2) m) 176 0 false)) (h8l:b8<h.next) (h11:h.get b11=some (.row (zAB kind) 112 0 false)) (h11l:b11<h.next) (hm:h.get m=some (.map (ent R) ver)) (hml:m<h.next) (hR:R.Nodup)
  (hg1:GV h b1 SS) (hg2:GV h b2 TT) (hb1:b1<h.next) (hb2:b2<h.next) (hSS:zTu SS) (hTT:zTu TT) (hin:∀ p∈R,(0<=p.1/\p.1<(SS.length:Int))/\(0<=p.2/\p.2<(TT.length:Int))) {V:Bool}
  (hV:V=(decide ((0,0)∈R)&&zOE kind R SS TT&&zOE kind (R.map zEf) TT SS)) :
  P72_11 false (KR E [.tmp 6] (fun x l=>x=.bool V/\k.next<=l.wm)) (ptr b8) (ptr b11) h:=by
 refine zUm ?_
 have la:=za (P:=E) zJ0 (o:=0) h8 (by simp [zAm])
 rw [List.drop_zero,List.take_of_length_le (by simp [zAm])] at la
 have lm:=za (P:=E) ta_112 (o:=0) h11 (by rw [zFD];simp)
 rw [List.drop_zero,List.take_of_length_le (by rw [zFD];simp)] at lm
 have hsz:∀ (SS:List zAF),zTu SS->∀ (i:Nat) (S:zAF),SS[i]?=some S->S.length<=1000000:=fun SS hS i S h=>by have:=(hS.stp i S h).1;omega
 have c1:(zW E).call 124 [.agg ⟨zAm (ptr b1) (ptr b2) m⟩,.agg ⟨zAB kind⟩] h=some [(.bool (zOE kind R SS TT),h)]:=by
  rw [zFD]
  exact zTS (h0:=h) (Ext.refl ho.ext.ok) hm hml hg1 (fun p hp=>(hin p hp).1) (hsz SS hSS) (fun k' hk' p hp x S hS hx=>fol_ok hkind hk' hm hml hR hg2 hTT (hin p hp).2.1 (hin p hp).2.2)
 simp only [la,lm,zA,zS,zJd ho.ext.ok hm hml hR,zN]
 by_cases e0:((0:Int),(0:Int))∈R
 ·simp only [e0,decide_true,zM,zP,beq_self_eq_true,cond_true,la,lm,zA,pb178,zS,c1,zN,zJ]
  cases e1:zOE kind R SS TT with
  | true=>
   simp only [zM,zP,beq_self_eq_true,cond_true,la,lm,zA,zS]
   refine (call125 ho.ext.ok hb1 hb2 hm hml).mono fun y hy=>?_
   obtain ⟨v,h2⟩:=y
   obtain ⟨m',ver',R',rfl,g1,g2,g3,g4,g5,g6⟩:=hy
   simp only at g1 g2 g3 g4 g5 g6
   have o2:=g6.own ho (fun _ h=>h.elim)
   have lm2:=za (P:=E) ta_112 (o:=0) ((g6.get b11 h11l (fun h=>h)).trans h11) (by rw [zFD];simp)
   rw [List.drop_zero,List.take_of_length_le (by rw [zFD];simp)] at lm2
   have hin':∀ p∈R',(0<=p.1/\p.1<(TT.length:Int))/\(0<=p.2/\p.2<(SS.length:Int)):=fun p hp=>by
    have:=hin _ ((g5 p).1 hp)
    exact ⟨this.2,this.1⟩
   have c2:(zW E).call 124 [.agg ⟨zAm (ptr b2) (ptr b1) m'⟩,.agg ⟨zAB kind⟩] h2=some [(.bool (zOE kind R' TT SS),h2)]:=by
    rw [zFD]
    exact zTS (h0:=h2) (Ext.refl o2.ext.ok) g1 g3 (hg2.fx g6) (fun p hp=>(hin' p hp).1) (hsz TT hTT) (fun k' hk' p hp x S hS hx=>fol_ok hkind hk' g1 g3 g4 (hg1.fx g6) hSS (hin' p hp).2.1 (hin' p hp).2.2)
   have hsame:SameR R' (R.map zEf):=fun p=>by
    rw [g5,List.mem_map]
    constructor
    ·intro h;exact ⟨_,h,rfl⟩
    ·rintro ⟨q,hq,rfl⟩;exact hq
   simp only [zM,zP,beq_self_eq_true,cond_true,lm2,zA,veq_man hkind,pb178,zS,c2,zN,zJ,zAJ,zT,true_and]
   refine ⟨?_,o2.wm⟩
   rw [hV,e1,zHU hsame]
   simp [e0]
  | false=>
   simp only [zM,zP,zt,zx,show (false==true)=false from rfl,cond_false,zA,zL,zJ,show veq 100 undef undef=true from by kernel_rfl,zAJ,zT,true_and]
   exact ⟨by rw [hV,e1];simp,ho.wm⟩
 ·simp only [e0,decide_false,zM,zP,zt,zx,show (false==true)=false from rfl,cond_false,zA,zL,zJ,show veq 100 undef undef=true from by kernel_rfl,zAJ,zT,true_and]
  exact ⟨by rw [hV];simp [e0],ho.wm⟩
theorem box112 {h:AH} {kind:Int}:ze E 112 (h.new (.row [.nilFunc,.nilFunc,.string ⟨#[]⟩] 112 0 false)) (some (ptr h.next)) (some (.agg ⟨zAB kind⟩))=one (undef,(h.new (.row [.nilFunc,.nilFunc,.string ⟨#[]⟩] 112 0 false)).upd h.next (some (.row (zAB kind) 112 0 false))):=by
 rw [zw (P:=E) ts_112 (x:=.agg ⟨zAB kind⟩) (cs:=zAB kind) (zI h _) rfl (by rw [zFD];rfl) (by simp) (by rw [zFD];rfl)]
 rw [zFD];rfl
theorem rel10 {k h:AH} {kind:Int} {vp:Value} {b1 b2 m ver b5 b8:Nat} {R:Rel} {SS TT:List zAF} (ho:Own k h) (hkind:zDI kind=true)
  (h5:h.get b5=some (.row [.int .i64 kind,vp] 32 0 false)) (h5l:b5<h.next)
  (h8:h.get b8=some (.row (zAm (ptr b1) (ptr b2) m) 176 0 false)) (h8l:b8<h.next) (hm:h.get m=some (.map (ent R) ver)) (hml:m<h.next) (hR:R.Nodup)
  (hg1:GV h b1 SS) (hg2:GV h b2 TT) (hb1:b1<h.next) (hb2:b2<h.next) (hSS:zTu SS) (hTT:zTu TT) (hin:∀ p∈R,(0<=p.1/\p.1<(SS.length:Int))/\(0<=p.2/\p.2<(TT.length:Int))) {V:Bool}
  (hV:V=(decide ((0,0)∈R)&&zOE kind R SS TT&&zOE kind (R.map zEf) TT SS)) :
  P72_10 false (KR E [.tmp 6] (fun x l=>x=.bool V/\k.next<=l.wm)) (ptr b5) (ptr b8) h:=by
 refine zUn ?_
 have l5:=zF (P:=E) zAS (o:=0) h5
 simp only [lnth] at l5
 have l5n:zH E 3 (h.new (.row [.nilFunc,.nilFunc,.string ⟨#[]⟩] 112 0 false)) (some (ptr b5))=some (.int .i64 kind):=by
  have:=zF (P:=E) zAS (o:=0) ((zK (o:=.row [.nilFunc,.nilFunc,.string ⟨#[]⟩] 112 0 false) (by omega)).trans h5)
  simpa only [lnth] using this
 have fxf:Fx NoB h ((h.new (.row [.nilFunc,.nilFunc,.string ⟨#[]⟩] 112 0 false)).upd h.next (some (.row (zAB kind) 112 0 false))):=((Fx.refl ho.ext.ok).new _).upd (.inr (Nat.le_refl _)) _
 have hget:∀ c,c<h.next->((h.new (.row [.nilFunc,.nilFunc,.string ⟨#[]⟩] 112 0 false)).upd h.next (some (.row (zAB kind) 112 0 false))).get c=h.get c:=fun c hc=>fxf.get c hc (fun h=>h)
 have hnx:((h.new (.row [.nilFunc,.nilFunc,.string ⟨#[]⟩] 112 0 false)).upd h.next (some (.row (zAB kind) 112 0 false))).next=h.next+1:=rfl
 have fin:P72_11 false (KR E [.tmp 6] (fun x l=>x=.bool V/\k.next<=l.wm)) (ptr b8) (ptr h.next) ((h.new (.row [.nilFunc,.nilFunc,.string ⟨#[]⟩] 112 0 false)).upd h.next (some (.row (zAB kind) 112 0 false))):=
  rel11 (fxf.own ho (fun _ h=>h.elim)) hkind ((hget _ h8l).trans h8) (by omega) (zR _ _ _) (by omega) ((hget _ hml).trans hm) (by omega) hR (hg1.fx fxf) (hg2.fx fxf) (by omega) (by omega) hSS hTT hin hV
 have hok1:(h.new (.row [.nilFunc,.nilFunc,.string ⟨#[]⟩] 112 0 false)).ok:=zCK ho.ext.ok _
 simp only [zJV,Nat.add_zero,l5,zA,zS,call79 ho.ext.ok,call79 hok1,zN,zC1,true_and,pim hkind,z_112,zd,zL,zV,l5n,box112]
 exact ⟨fin,fin⟩
theorem GV.fxm {k l:AH} {bg m ver:Nat} {SS:List zAF} {es:List (Value×Value)} (g:GV k bg SS) (f:Fx (fun c=>c=m) k l) (hm:k.get m=some (.map es ver)):GV l bg SS:=by
 obtain ⟨loc,bs,cells,G⟩:=g.ex
 have hne:∀ {a:Nat} {vs:List Value} {ty es:Nat} {ro:Bool},k.get a=some (.row vs ty es ro)->a≠m:=by
  rintro a vs ty es ro h rfl
  rw [hm] at h;cases h
 refine ⟨loc,bs,cells,(f.get bg G.ltg (hne G.g)).trans G.g,(f.get bs G.lts (hne G.s)).trans G.s,G.len,G.ne,Nat.lt_of_lt_of_le G.ltg f.next,Nat.lt_of_lt_of_le G.lts f.next,G.locg,G.locs,fun i c S hc hS=>?_,G.blk,G.dis⟩
 rcases G.cell i c S hc hS with a|⟨b,a1,a2,a3⟩
 ·exact .inl a
 ·exact .inr ⟨b,a1,(f.get b a3 (hne a2)).trans a2,Nat.lt_of_lt_of_le a3 f.next⟩
theorem zKL {k:AH} {a m ver:Nat} {vs:List Value} {ty es:Nat} {ro:Bool} {en:List (Value×Value)} (h:k.get a=some (.row vs ty es ro)) (hm:k.get m=some (.map en ver)):a≠m:=by
 rintro rfl
 rw [hm] at h;cases h
theorem rel4 {k h1:AH} {kind n1 n2:Int} {vp vl ve wl we:Value} {prs:Rel} {b1 b2 m b3 b4 b5 b8 ver0:Nat} {es0:List (Value×Value)} {SS TT:List zAF} (hkind:zDI kind=true)
  (hm0:h1.get m=some (.map es0 ver0)) (hml:m<h1.next) (hkm:k.next<=m)
  (h3:h1.get b3=some (.row [.int .i64 n1,vl,ve] 25 0 false)) (h3l:b3<h1.next) (h4:h1.get b4=some (.row [.int .i64 n2,wl,we] 25 0 false)) (h4l:b4<h1.next)
  (h5:h1.get b5=some (.row [.int .i64 kind,vp] 32 0 false)) (h5l:b5<h1.next)
  (h8:h1.get b8=some (.row (zAm (ptr b1) (ptr b2) m) 176 0 false)) (h8l:b8<h1.next)
  (hg1:GV h1 b1 SS) (hg2:GV h1 b2 TT) (hb1:b1<h1.next) (hb2:b2<h1.next) (hSS:zTu SS) (hTT:zTu TT) (hn1:n1=(SS.length:Int)) (hn2:n2=(TT.length:Int))
  {ap:Option Addr} {cp:Nat} (hvp:vp=.slice ap prs.length cp) (ha:Arr k 2 vp (prs.map zG)) (hpl:prs.length<=200000) (hpos:∀ p∈prs,0<=p.1/\0<=p.2) {V:Bool} (hV:V=relB kind prs SS TT n1 n2) :
  ∀ (r i:Nat),i+r=prs.length->∀ h Rn ver,Own k h->Fx (fun c=>c=m) h1 h->h.get m=some (.map (ent Rn) ver)->Rn.Nodup->(∀ p,p∈Rn ↔ p∈prs.take i)->(prs.take i).all (inB n1 n2)=true->
   P72_4 false (KR E [.tmp 6] (fun x l=>x=.bool V/\k.next<=l.wm)) (ptr b3) (ptr b4) (ptr b5) (ptr b8) vp (.int .i64 (prs.length:Int)) (.int .i64 (i:Int)) h:=by
 intro r
 induction r with
 | zero=>
  intro i hi h Rn ver ho f hm hnd hmem hall
  refine zOS ?_
  have:¬ ((i:Int)<(prs.length:Int)):=by omega
  simp only [zY,zA,this,decide_false,zk]
  rw [List.take_of_length_le (by omega)] at hmem hall
  have hin:∀ p∈Rn,(0<=p.1/\p.1<(SS.length:Int))/\(0<=p.2/\p.2<(TT.length:Int)):=fun p hp=>by
   have hp':=(hmem p).1 hp
   have h1':=List.all_eq_true.1 hall p hp'
   simp only [inB,Bool.and_eq_true,decide_eq_true_eq] at h1'
   have h2':=hpos p hp'
   omega
  have hnx:=f.next
  refine rel10 ho hkind ((f.get b5 h5l (zKL h5 hm0)).trans h5) (by omega) ((f.get b8 h8l (zKL h8 hm0)).trans h8) (by omega) hm (by omega) hnd (hg1.fxm f hm0) (hg2.fxm f hm0) (by omega) (by omega) hSS hTT hin ?_
  rw [hV]
  unfold relB
  rw [hall,SameR.dec hmem,zHU hmem,zHU (R:=Rn.map zEf) (R':=prs.map zEf) (fun p=>by
   simp only [List.mem_map]
   exact ⟨fun ⟨q,a,b⟩=>⟨q,(hmem q).1 a,b⟩,fun ⟨q,a,b⟩=>⟨q,(hmem q).2 a,b⟩⟩)]
  rfl
 | succ r ih=>
  intro i hi h Rn ver ho f hm hnd hmem hall
  have hin:i<prs.length:=by omega
  refine zOS ?_
  have hlt:((i:Int)<(prs.length:Int)):=by omega
  simp only [zY,zA,hlt,decide_true,zu]
  refine zdC ?_
  have hat:(prs.map zG)[i]?=some (zG prs[i]):=by simp [hin]
  obtain ⟨b,o,c,vs,ty,es,ro,hv,hb,hlt',hle,hz,hzl⟩:=ha.load hat
  have hp:=hpos prs[i] (List.getElem_mem hin)
  have hpt:prs.take (i+1)=prs.take i++[prs[i]]:=by rw [List.take_add_one];simp [hin]
  have hpm:prs[i]∈prs:=List.getElem_mem hin
  generalize prs[i]=p at hz hp hpt hpm
  rw [hvp] at hv
  simp only [Value.slice.injEq] at hv
  obtain ⟨hv1,_,_⟩:=hv
  subst hv1
  have gb:=(ho.ext.get b hlt').trans hb
  simp only [hvp,zAK hin,zA,za zFZ gb hle,hz,z_54,zd,zL,zV,zb0]
  refine zdB ?_
  have fb:Fx NoB h ((h.new (.row [.int .i64 0,.int .i64 0] 54 0 false)).upd h.next (some (.row (zG p) 54 0 false))):=((Fx.refl ho.ext.ok).new _).upd (.inr (Nat.le_refl _)) _
  have tb:((h.new (.row [.int .i64 0,.int .i64 0] 54 0 false)).upd h.next (some (.row (zG p) 54 0 false))).get h.next=some (.row (zG p) 54 0 false):=zR _ _ _
  have nb:((h.new (.row [.int .i64 0,.int .i64 0] 54 0 false)).upd h.next (some (.row (zG p) 54 0 false))).next=h.next+1:=rfl
  generalize ((h.new (.row [.int .i64 0,.int .i64 0] 54 0 false)).upd h.next (some (.row (zG p) 54 0 false)))=k1 at fb tb nb
  have o1:=fb.own ho (fun _ h=>h.elim)
  have f1:Fx (fun c=>c=m) h1 k1:=f.trans fb (fun _ h=>h.elim)
  have hm1:k1.get m=_:=(fb.get m (by have:=f.next;omega) (fun h=>h)).trans hm
  have c0:=zF (P:=E) zAS (o:=0) tb
  have c1:=zF (P:=E) zAS (o:=1) tb
  have x0:=zF (P:=E) zAS (o:=0) ((f1.get b3 h3l (zKL h3 hm0)).trans h3)
  have y0:=zF (P:=E) zAS (o:=0) ((f1.get b4 h4l (zKL h4 hm0)).trans h4)
  simp only [lnth,zG] at c0 c1 x0 y0
  simp only [zIL,zKb,c0,zA2,Nat.add_zero,x0,zA,zAP]
  have bad:inB n1 n2 p=false->P72_7 false (KR E [.tmp 6] (fun x l=>x=.bool V/\k.next<=l.wm)) k1:=by
   intro hb
   refine zdA ?_
   simp only [zA,zAJ,zT,true_and]
   refine ⟨?_,o1.wm⟩
   rw [hV]
   have:prs.all (inB n1 n2)=false:=by
    rw [List.all_eq_false]
    exact ⟨p,hpm,by rw [hb];simp⟩
   unfold relB
   rw [this];rfl
  by_cases e1:n1<=p.1
  ·simp only [e1,decide_true,zM,show (true==false)=false from rfl,cond_false,zA,zJ,cond_true,zu]
   exact bad (by simp [inB];omega)
  ·simp only [e1,decide_false,zM,beq_self_eq_true,cond_true,c1,zA2,Nat.add_zero,y0,zA,zAP,zJ,cond_false]
   by_cases e2:n2<=p.2
   ·simp only [e2,decide_true,zu]
    exact bad (by simp [inB];omega)
   ·simp only [e2,decide_false,zk]
    refine zc9 ?_
    have l8:=zF (P:=E) zJ1 (o:=2) ((f1.get b8 h8l (zKL h8 hm0)).trans h8)
    simp only [lnth,zAm] at l8
    have lp:=za (P:=E) zFZ (o:=0) tb (by simp [zG])
    rw [List.drop_zero,List.take_of_length_le (by simp [zG])] at lp
    obtain ⟨R',u1,u2,u3⟩:=upd174 hm1 hnd p
    simp only [zFL,Nat.zero_add,l8,lp,zA,u1,zL]
    refine zc8 ?_
    simp only [zAM _ (zD7 hin (by omega)),zA]
    have f2:Fx (fun c=>c=m) h1 (k1.upd m (some (.map (ent R') (ver+1)))):=f1.upd (.inl rfl) _
    have f3:Fx (fun c=>c=m) k1 (k1.upd m (some (.map (ent R') (ver+1)))):=Fx.upd (P:=fun c=>c=m) (Fx.refl o1.ext.ok) (.inl rfl) _
    have:=ih (i+1) (by omega) _ R' (ver+1) (f3.own o1 (fun c h=>by rw [h];exact hkm)) f2 (zR _ _ _) u2 (fun q=>by
     rw [u3,hmem,hpt,List.mem_append,List.mem_singleton]
     exact Or.comm) (by
     rw [hpt,List.all_append,hall]
     simp [inB];omega)
    rw [hvp] at this
    simpa using this
end Go.Proofs
