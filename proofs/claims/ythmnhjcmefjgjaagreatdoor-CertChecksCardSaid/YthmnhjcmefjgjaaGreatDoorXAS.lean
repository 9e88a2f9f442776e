import Derived.WalkKit
import Derived.WalkSpells
import Derived.Shelf.RegionOpenPlain
import Derived.Lib.Walk
import Derived.Lib.SliceRun
import Derived.Lib.JoinLaws
import Derived.Lib.AppendZerosOnto
import Derived.Lib.Overlaps
import Derived.Laws.Externs
import Derived.Laws.IdiomCopy
import Derived.Shelf.SlGeneric
import Derived.Shelf.SlSortCmp.NoneTotal
import Derived.Shelf.SlicesG.Cmp
import Derived.Ground.SlsfProg
import Derived.Ground.SlgcProg
import Derived.Test.YthmnhjcmefjgjaaGreatDoorProg
import Derived.Deep.RegionHeld3
import Derived.Deep.DrawnRows
import Derived.Sort.Grow
import Derived.Lib.AppendIntMem
import Derived.Test.YthmnhjcmefjgjaaGreatDoorRows
import Derived.Test.YthmnhjcmefjgjaaGreatDoorCards
import Derived.Test.YthmnhjcmefjgjaaGreatDoorTie
import Derived.ProofKit
import Derived.OpenShut
import Derived.LaidMore
import Derived.Lay
import Derived.SevenTiedAt
import Derived.Stop.Joined
import Derived.Test.YthmnhjcmefjgjaaGreatDoorXAO
import Derived.Test.YthmnhjcmefjgjaaGreatDoorXAD
import Derived.Test.YthmnhjcmefjgjaaGreatDoorXAR
import Derived.Test.YthmnhjcmefjgjaaGreatDoorXAM
import Derived.Test.YthmnhjcmefjgjaaGreatDoorXAF
import Derived.Test.YthmnhjcmefjgjaaGreatDoorXAG
import Derived.Test.YthmnhjcmefjgjaaGreatDoorXAN
import Derived.Test.YthmnhjcmefjgjaaGreatDoorXAH
import Derived.Test.YthmnhjcmefjgjaaGreatDoorXAL
set_option linter.all false
set_option linter.unusedSectionVars false
set_option autoImplicit true
set_option relaxedAutoImplicit true
set_option maxRecDepth 100000
set_option maxHeartbeats 1000000
namespace Go.Proofs
open Go Go.AM Go.RowKit
def HR.empty(w:World):HR w.heap.size (λ _=>none) ⟨.e,0,UNK⟩ w:=
 ⟨λ _ _ h=>by (cases h),λ _ _=>rfl,λ b o h=>by (cases h),λ b _ o _ _ _ h=>by (cases h),xAF _⟩
def HR.keep{lo:Nat}{σ:Sg}{h:AH}{w w':World}(H:HR lo σ h w)(hb:Below w.heap.size w w'):HR lo σ h w':=by
 refine⟨H.dom,H.qb,λ b o e=>?_,H.inj,xCx H.lo hb.size⟩;obtain⟨l,a,c,d⟩:=H.live b o e;refine⟨l,a,c.mono (Sg.le_refl σ) (hb.block _ c.blk_lt) (λ m es v lm hm hs=>⟨hm,?_⟩),d⟩;obtain⟨lm',a',c',_⟩:=H.live m _ hm;rw[hs] at a';cases a';exact hb.block _ c'.blk_lt
def ext0:zOp E0:=Tryz.extOK (sum:=λ _ _ _=>none) λ f args h outs e=>by cases e
def env0:zCt E0:=Tryz.envOK
def zSx(w:World):Calls Tryz.prog 13 #[] w (Ret (zFw w.heap.size (λ _=>none) w [(.bool true,⟨.e,0,UNK⟩)])):=
 zFf env0 ext0 (by kernel_rfl) (HR.empty w) (args':=[]) .nil zoW
def zoc{args:List Value}{h:AH}{outs:List (Value×AH)}(e:zWR args h=some outs):(∀ lo σ w args',HR lo σ h w->VRs σ args args'->CallsIn Fence.wide 0 Tryz.prog 13 args'.toArray w (Ret (zFw lo σ w outs)))/\zCT h outs:=by
 unfold zWR at e;split at e
 ·cases e;refine⟨λ lo σ w args' H ha=>?_,zDw (Fr.refl h)⟩;cases ha;refine callsIn_wide.2 ((zSx w).mono λ en w' hr=>?_);cases en with
  | returned v=>
   obtain⟨x,hx,τ,_,_,hv,hb⟩:=hr;simp only[xAE] at hx;subst hx;cases hv;exact⟨(.bool true,h),by simp,σ,Sg.le_refl σ,HR.keep H hb,.bool true,hb.mono H.lo⟩
  | _=>exact hr
 ·cases e
end Go.Proofs
namespace Go.Proofs
open Go Go.RowKit Go.Lib
def zCE{P:Program}(w:World)(dT sT ty elem:TypeId)(z:Nat)(b o dLen dCap:Nat)(a:Addr)(sLen sCap:Nat)(cs:List Value)
  (hu:P.underlying dT=some (.slice elem)) (hs:(P.info? elem).map (·.size)=some z) (hn:cs.length=Nat.min sLen dLen*z)
  (cH:∀ j v,cs[j]?=some v->w.cell? (a.add j)=some v) (hc:∀ j,j<cs.length->(w.cell? ⟨b,o+j,none⟩).isSome=true) (hf:∀ j,j<cs.length->w.frozen? ⟨b,o+j,none⟩=false) (h1:∀ v∈cs,v.oneCell'=true) :
  (Builtin.copy_ #[dT,sT] ty #[.slice (some ⟨b,o,none⟩) dLen dCap,.slice (some a) sLen sCap]).run P w=.ok (goInt (Nat.min sLen dLen)) (w.setCells b o cs):=by
 have hl:=run_loadCells_list (P:=P) w a cs cH;have af:=run_storeCells_cells (P:=P) b o cs 0 w (by simpa using hc) (by simpa using hf) h1;cases hq:P.info? elem with
 | none=>simp[hq] at hs
 | some i=>
  have hi:i.size=z:=by simpa[hq] using hs
  simp[Builtin.copy_,run_underlying hu,Builtin.lenOf,Builtin.firstCells,sizeOf,typeInfo,hq,hi,← hn,hl,af]
def zMG(w:World){P:Program}{o:Oper}{a:Act}{K:Act->World->Prop}{Q:Exit->Act->World->Prop}(d s:Operand)(t t':TypeId)
  (ho:o.op=.call { callee:=.builtin .copy,args:=#[d,s],argTypes:=#[t,t'] }) (v u:Value) (hd:a.eval d=v) (hs:a.eval s=u) {v':Value} {w':World}
  (hr:(Builtin.copy_ #[t,t'] o.type #[v,u]).run P w=.ok v' w') (h:K (a.put o.dst v') w'):o.wp P a w K Q:=by
 unfold Oper.wp execOp;simp only[ho,resolve,invoke,builtin,xCs,xCt,xBj,List.map_toArray,xCi,xCy,hd,hs,hr];exact h
def zCw(w:World){P:Program}{ops:Array Oper}{rest:List Oper}{o:Oper}{a:Act}{Q:Exit->Act->World->Prop}(hgd:o.guard=none)(d s:Operand)(t t':TypeId)
  (ho:o.op=.call { callee:=.builtin .copy,args:=#[d,s],argTypes:=#[t,t'] }) (v u:Value) (hd:a.eval d=v) (hs:a.eval s=u) {v':Value} {w':World}
  (hr:(Builtin.copy_ #[t,t'] o.type #[v,u]).run P w=.ok v' w') (h:wpList P ops Q rest (a.put o.dst v') w'):wpList P ops Q (o::rest) a w:=
 wpList_plain hgd λ _ hK=>zMG w d s t t' ho v u hd hs hr (hK _ _ h)
def zFX{P:Program}{ops:Array Oper}{o:Oper}{a:Act}{w:World}{K:Act->World->Prop}{Q:Exit->Act->World->Prop}{E:Prop}
  (hg:o.guard=none) (d x:Operand) (dT sT:TypeId) (hop:o.op=Op.call { callee:=Callee.builtin Builtin.copy,args:=#[d,x],argTypes:=#[dT,sT] })
  (v u:Value) (hd:a.eval d=v) (hx:a.eval x=u) {v':Value} {w':World} (hr:(Builtin.copy_ #[dT,sT] o.type #[v,u]).run P w=.ok v' w') (hK:K (a.put o.dst v') w') :
  if Region.wanted o (yielded ops a.tmps)=true then Oper.wp P o a w K Q else E:=by
 have hw:Region.wanted o (yielded ops a.tmps)=true:=by simp[Region.wanted,hg]
 rw[xDO hw];unfold Oper.wp;simp[execOp,hop,resolve,invoke,builtin,hd,hx,hr,Result.andThen];exact hK
def zEr(b:Nat)(vs:List Value)(o:Nat)(w:World)(h:∀ j,j<vs.length->(w.cell? ⟨b,o+j,none⟩).isSome=true)(k:Nat)(hk:(w.cell? ⟨b,k,none⟩).isSome=true):((w.setCells b o vs).cell? ⟨b,k,none⟩).isSome=true:=by
 by_cases ai:o<=k/\k<o+vs.length
 ·have:=World.cell?_setCells_in b vs o w h (k-o) (by omega);rw[show o+(k-o)=k by omega] at this;rw[this];rfl
 ·rw[World.cell?_setCells_out b vs o w ⟨b,k,none⟩ (λ _ _=>by show k<o\/o+vs.length<=k;omega)];exact hk
def zrI:Tryz.prog.underlying 22=some (.slice 36):=by kernel_rfl
def i36a:(Tryz.prog.info? 36).map (λ i=>(i.zero,i.size,i.bytes))=some (some (.agg #[.int .i64 0,.slice none 0 0]),2,32):=by kernel_rfl
def t3u:Tryz.prog.underlying 3=some (.int .i64):=by kernel_rfl
def zvQ:(Tryz.prog.info? 36).map (·.size)=some 2:=by kernel_rfl
def z36s:∀ w,(Go.sizeOf 36).run Tryz.prog w=.ok 2 w:=λ w=>by kernel_rfl
set_option maxHeartbeats 4000000 in
set_option maxRecDepth 100000 in
def zXY(b off n c i vb voff vc:Nat)(cs vs:List Value)(w:World)(hi:i<n)(aG:n+1<=c)(hn5:n<=100000)(kH:vb≠b)
  (an:cs.length=n*2) (aP:vs.length=2)
  (aT:∀ j v,cs[j]?=some v->w.cell? ⟨b,off+j,none⟩=some v) (eG:∀ j,j<(n+1)*2->(w.cell? ⟨b,off+j,none⟩).isSome=true) (hfz:∀ j,j<(n+1)*2->w.frozen? ⟨b,off+j,none⟩=false)
  (cO:∀ j v,vs[j]?=some v->w.cell? ⟨vb,voff+j,none⟩=some v) (h1c:∀ v∈cs,v.oneCell'=true) (jb:∀ v∈vs,v.oneCell'=true)
  (tA tB:TypeId) (kA kB:Nat) (hsa:w.shape? vb=some (tA,kA)) (hsb:w.shape? b=some (tB,kB)) (hkB:kB≠0) (hfa:w.frozen? ⟨vb,voff,none⟩=false) (hfe:w.frozen? ⟨vb,kA,none⟩=false) :
  Calls Tryz.prog 191 #[.slice (some ⟨b,off,none⟩) n c,.int .i64 i,.slice (some ⟨vb,voff,none⟩) 1 vc] w λ e w'=>
   e=.returned (.slice (some ⟨b,off,none⟩) (n+1) c)/\w'=(w.drew.setCells b (off+(i+1)*2) (cs.drop (i*2))).setCells b (off+i*2) vs:=by
 have mixed:=Tryz.mixed;have kb:¬ ((i:Int)=(n:Int)):=by omega
 have gX:∀ lb cb,(callFunc 233 #[.slice (some ⟨vb,voff,none⟩) 1 vc,.slice (some ⟨b,off+(i+1)*2,none⟩) lb cb]).run Tryz.prog w=.ok (.value (.bool false)) w:=λ lb cb=>by
  rw[run_callFunc_extern Tryz.func233 (by kernel_rfl) (by kernel_rfl) (by kernel_rfl) (e:=Extern.SlicesOverlaps.overlaps #[22,22] #[4]) (by kernel_rfl),
   Lib.run_overlaps_apart w 22 4 36 zrI 2 z36s ⟨vb,voff,none⟩ ⟨b,off+(i+1)*2,none⟩ 1 vc lb cb kH tA tB kA kB hsa hsb hkB hfa hfe]
  rfl
 have hdl:(cs.drop (i*2)).length=(n-i)*2:=by rw[xCE,an];omega
 have fP:IntKind.i64.wrap ((i:Int)+1)=(i:Int)+1:=by rw[IntKind.wrap_i64];omega
 have cj:(0:Int)<=(i:Int)+1:=by omega
 have ai:i<=n:=by omega
 have htn:((i:Int)+1).toNat=i+1:=by omega
 have aN:¬ (c=i+1):=by omega
 have hb3:(i:Int)<=(n:Int)+1:=by omega
 have hb4:¬ (c=i):=by omega
 have lS:∀ ty dc sc,(Builtin.copy_ #[22,22] ty #[.slice (some ⟨b,off+(i+1)*2,none⟩) (n-i) dc,.slice (some ⟨b,off+i*2,none⟩) (n+1-i) sc]).run Tryz.prog w.drew=.ok (goInt (Nat.min (n+1-i) (n-i))) (w.drew.setCells b (off+(i+1)*2) (cs.drop (i*2))):=λ ty dc sc=>
  zCE w.drew _ _ ty 36 2 b (off+(i+1)*2) (n-i) dc ⟨b,off+i*2,none⟩ (n+1-i) sc (cs.drop (i*2)) zrI zvQ (by rw[hdl];simp only[Nat.min_def];split <;> omega)
   (λ j v hj=>by rw[Addr.add_lit,xCh];exact aT (i*2+j) v (by rwa[xBW] at hj))
   (λ j hj=>by rw[xCh];exact eG _ (by omega)) (λ j hj=>by rw[xCh];exact hfz _ (by omega)) (λ v hv=>h1c v (xBL hv))
 obtain⟨W1,fX⟩:∃ W1,W1=w.drew.setCells b (off+(i+1)*2) (cs.drop (i*2)):=⟨_,rfl⟩;have hsp1:∀ k,k<(n+1)*2->(W1.cell? ⟨b,off+k,none⟩).isSome=true:=λ k hk=>by
  rw[fX];exact zEr b _ _ _ (λ j hj=>by rw[xCh];exact eG _ (by omega)) _ (eG k hk)
 have hcp2:∀(W:World),(∀ x,W.cell? x=W1.cell? x)->(∀ x,W.frozen? x=W1.frozen? x)->∀ ty dc,(Builtin.copy_ #[22,22] ty #[.slice (some ⟨b,off+i*2,none⟩) (n+1-i) dc,.slice (some ⟨vb,voff,none⟩) 1 vc]).run Tryz.prog W=.ok (goInt (Nat.min 1 (n+1-i))) (W.setCells b (off+i*2) vs):=λ W hWc hWf ty dc=>
  zCE W _ _ ty 36 2 b (off+i*2) (n+1-i) dc ⟨vb,voff,none⟩ 1 vc vs zrI zvQ (by rw[aP];simp only[Nat.min_def];split <;> omega)
   (λ j v hj=>by
    rw[Addr.add_lit,hWc,fX,World.cell?_setCells_out b _ _ _ _ (λ h _=>absurd h kH)];exact cO j v hj)
   (λ j hj=>by rw[hWc,xCh];exact hsp1 _ (by omega)) (λ j hj=>by rw[hWf,fX,World.frozen?_setCells,xCh];exact hfz _ (by omega)) jb
 rw[← fX] at lS
 go_enter Tryz.func191,Tryz.ntmps191
 go_wp2_with (simp only[gX])
 go_region_law_o (refine zFX rfl _ _ 22 22 rfl _ _ (by simp[Act.eval,Act.put]) (by simp[Act.eval,Act.put]) (lS _ _ _) ?_)
 go_wp2_with (at_builtin;refine zCw _ rfl _ _ 22 22 rfl _ _ rfl rfl (hcp2 _ (λ _=>rfl) (λ _=>rfl) _ _) ?_)
 go_ret
 first|exact⟨rfl,rfl⟩|exact⟨rfl,by rw[fX]⟩
set_option maxHeartbeats 4000000 in
set_option maxRecDepth 100000 in
def zo4(b off n c vb voff vc:Nat)(w:World){v':Value}{w':World}(kW:n<=c)(hn5:n<=100000)
  (hr:(Builtin.append_ #[22,22] 22 #[.slice (some ⟨b,off,none⟩) n c,.slice (some ⟨vb,voff,none⟩) 1 vc]).run Tryz.prog w=.ok v' w') :
  Calls Tryz.prog 191 #[.slice (some ⟨b,off,none⟩) n c,.int .i64 n,.slice (some ⟨vb,voff,none⟩) 1 vc] w λ e w''=>e=.returned v'/\w''=w':=by
 have mixed:=Tryz.mixed
 go_enter Tryz.func191,Tryz.ntmps191
 go_wp2_with (at_builtin;refine Lib.wpList_append_run _ rfl _ _ _ _ rfl _ _ rfl rfl _ _ hr ?_)
 all_goals (go_ret;exact⟨rfl,rfl⟩)
set_option maxHeartbeats 4000000 in
set_option maxRecDepth 100000 in
def zhv(b off n c i vb voff vc:Nat)(cs vs:List Value)(w:World)(hi:i<n)(kW:n<=c)(aG:c<n+1)(jT:(n+1)*64<=140737488355328)
  (an:cs.length=n*2) (aP:vs.length=2)
  (aT:∀ j v,cs[j]?=some v->w.cell? ⟨b,off+j,none⟩=some v)
  (cO:∀ j v,vs[j]?=some v->w.cell? ⟨vb,voff+j,none⟩=some v) (h1c:∀ v∈cs,v.oneCell'=true) (jb:∀ v∈vs,v.oneCell'=true) :
  ∃(G:Nat) (zs:List Value),n+1<=G/\zs.length=(G-i)*2 ∧
  Calls Tryz.prog 191 #[.slice (some ⟨b,off,none⟩) n c,.int .i64 i,.slice (some ⟨vb,voff,none⟩) 1 vc] w λ e w'=>
   e=.returned (.slice (some ⟨w.heap.size,0,none⟩) (n+1) G) ∧
   w'=(((w.alloc (.cells (cs.take (i*2)++zs).toArray 36)).drew.setCells w.heap.size (i*2) vs).drew).setCells w.heap.size ((i+1)*2) (cs.drop (i*2)):=by
 have mixed:=Tryz.mixed;obtain⟨i0,iv,hz0,ka,hzb⟩:=info_parts i36a;have kb:¬ ((i:Int)=(n:Int)):=by omega
 have hz3:(c:Int)<(n:Int)+1:=by omega
 have i8:b<w.heap.size:=block_lt_of_cell (aT 0 _ (xAA (by omega)));have hvw:vb<w.heap.size:=block_lt_of_cell (cO 0 _ (xAA (by omega)));have jz:(n:Int)+1-(i:Int)=((n+1-i:Nat):Int):=by omega
 have hik:i+(n+1-i)=n+1:=by omega
 have hold:(Builtin.firstCells i0.size i (.slice (some ⟨b,off,none⟩) i c)).run Tryz.prog w.drew=.ok (cs.take (i*2)).toArray w.drew:=by
  rw[ka];exact run_firstCells_some w.drew 2 i ⟨b,off,none⟩ i c (cs.take (i*2)) (by rw[xCD];omega) (λ j v hj=>by
   rw[Addr.add_lit];rw[List.getElem?_take] at hj;split at hj
   ·exact aT j v hj
   ·cases hj)
 obtain⟨G,hG⟩:∃ G,G=grownCap w (n+1) c 36:=⟨_,rfl⟩;obtain⟨zs,jc⟩:∃ zs:List Value,zs.toArray=Builtin.zeroCells (Value.agg #[.int .i64 0,.slice none 0 0]).cells (n+1-i)++Builtin.zeroCells (Value.agg #[.int .i64 0,.slice none 0 0]).cells (G-(n+1)):=⟨(Builtin.zeroCells (Value.agg #[.int .i64 0,.slice none 0 0]).cells (n+1-i)++Builtin.zeroCells (Value.agg #[.int .i64 0,.slice none 0 0]).cells (G-(n+1))).toList,by simp⟩;have hGn:n+1<=G:=by rw[hG];exact grownCap_ge w _ _ _
 have bN:zs.length=(G-i)*2:=by
  have:=congrArg Array.size jc;simp[Builtin.zeroCells,Value.cells] at this;omega
 have hrz:∀ ty,(Builtin.append_ #[22,3] ty #[.slice (some ⟨b,off,none⟩) i c,.int .i64 ((n:Int)+1-(i:Int))]).run Tryz.prog w =
   .ok (.slice (some ⟨w.heap.size,0,none⟩) (n+1) G) (w.drew.alloc (.cells (cs.take (i*2)++zs).toArray 36)):=λ ty=>by
  have h:=Lib.run_append_grow_zeros w 22 3 ty 36 i0 _ .i64 .i64 zrI t3u iv hz0 (some ⟨b,off,none⟩) i c (cs.take (i*2)) hold (n+1-i) (by omega) (by omega) (by omega) (by omega) (by rw[hzb];omega) (by rw[hzb,hik];exact growslice_fits aG (by omega));rw[hik,← hG] at h;rw[jz,h,Array.append_assoc,← jc];simp
 obtain⟨ROW,jY⟩:∃ ROW:Array Value,ROW=(cs.take (i*2)++zs).toArray:=⟨_,rfl⟩;refine⟨G,zs,hGn,bN,?_⟩;rw[← jY] at hrz ⊢;have jX:(n+1)*2<=ROW.size:=by
  rw[jY];simp;omega
 obtain⟨W1,fX⟩:∃ W1,W1=w.drew.alloc (.cells ROW 36):=⟨_,rfl⟩;rw[← fX] at hrz;have hN:∀ j,j<(n+1)*2->(W1.cell? ⟨w.heap.size,j,none⟩).isSome=true:=λ j hj=>by
  rw[fX,World.cell?_alloc_at (w:=w.drew) ROW _ w.heap.size j rfl,xAa (by omega)];rfl
 have hNf:∀ j,W1.frozen? ⟨w.heap.size,j,none⟩=false:=λ j=>by rw[fX];exact World.frozen?_alloc_at (w:=w.drew) ROW _ w.heap.size j rfl
 have hOb:∀ j v,w.cell? ⟨b,j,none⟩=some v->W1.cell? ⟨b,j,none⟩=some v:=λ j v h=>by rw[fX,World.cell?_alloc_past (w:=w.drew) _ b j i8];exact h
 have hOv:∀ j v,w.cell? ⟨vb,j,none⟩=some v->W1.cell? ⟨vb,j,none⟩=some v:=λ j v h=>by rw[fX,World.cell?_alloc_past (w:=w.drew) _ vb j hvw];exact h
 have hcpA:∀(W:World),(∀ x,W.cell? x=W1.cell? x)->(∀ x,W.frozen? x=W1.frozen? x)->∀ ty dc,(Builtin.copy_ #[22,22] ty #[.slice (some ⟨w.heap.size,i*2,none⟩) (n+1-i) dc,.slice (some ⟨vb,voff,none⟩) 1 vc]).run Tryz.prog W=.ok (goInt (Nat.min 1 (n+1-i))) (W.setCells w.heap.size (i*2) vs):=λ W hWc hWf ty dc=>
  zCE W _ _ ty 36 2 w.heap.size (i*2) (n+1-i) dc ⟨vb,voff,none⟩ 1 vc vs zrI zvQ (by rw[aP];simp only[Nat.min_def];split <;> omega)
   (λ j v hj=>by rw[Addr.add_lit,hWc];exact hOv _ v (cO j v hj))
   (λ j hj=>by rw[hWc];exact hN _ (by omega)) (λ j hj=>by rw[hWf];exact hNf _) jb
 have hGi:¬ (G=i):=by omega
 have hGim:¬ (G=i+1):=by omega
 have gI:¬ (c=i):=by omega
 have hbN:b≠w.heap.size:=by omega
 have hdl:(cs.drop (i*2)).length=(n-i)*2:=by rw[xCE,an];omega
 have lR:∀(W:World),(∀ x,W.cell? x=(W1.setCells w.heap.size (i*2) vs).cell? x)->(∀ x,W.frozen? x=(W1.setCells w.heap.size (i*2) vs).frozen? x)->∀ ty dc sc,(Builtin.copy_ #[22,22] ty #[.slice (some ⟨w.heap.size,(i+1)*2,none⟩) (n-i) dc,.slice (some ⟨b,off+i*2,none⟩) (n-i) sc]).run Tryz.prog W=.ok (goInt (Nat.min (n-i) (n-i))) (W.setCells w.heap.size ((i+1)*2) (cs.drop (i*2))):=λ W hWc hWf ty dc sc=>
  zCE W _ _ ty 36 2 w.heap.size ((i+1)*2) (n-i) dc ⟨b,off+i*2,none⟩ (n-i) sc (cs.drop (i*2)) zrI zvQ (by rw[hdl];simp only[Nat.min_def];split <;> omega)
   (λ j v hj=>by
    rw[Addr.add_lit,hWc,World.cell?_setCells_out _ _ _ _ _ (λ h _=>absurd h hbN),xCh];exact hOb _ v (aT (i*2+j) v (by rwa[xBW] at hj)))
   (λ j hj=>by rw[hWc];exact zEr _ _ _ _ (λ t ht=>hN _ (by omega)) _ (hN _ (by omega)))
   (λ j hj=>by rw[hWf,World.frozen?_setCells];exact hNf _) (λ v hv=>h1c v (xBL hv))
 subst fX;have hE1:∀ x,((w.alloc (.cells ROW 36)).drew).cell? x=(w.drew.alloc (.cells ROW 36)).cell? x:=λ x=>rfl;have hE2:∀ x,((w.alloc (.cells ROW 36)).drew).frozen? x=(w.drew.alloc (.cells ROW 36)).frozen? x:=λ x=>rfl;have hF1:∀ x,(((w.alloc (.cells ROW 36)).drew.setCells w.heap.size (i*2) vs).drew).cell? x=((w.drew.alloc (.cells ROW 36)).setCells w.heap.size (i*2) vs).cell? x:=λ x=>rfl;have hF2:∀ x,(((w.alloc (.cells ROW 36)).drew.setCells w.heap.size (i*2) vs).drew).frozen? x=((w.drew.alloc (.cells ROW 36)).setCells w.heap.size (i*2) vs).frozen? x:=λ x=>rfl;have fP:IntKind.i64.wrap ((i:Int)+1)=(i:Int)+1:=by rw[IntKind.wrap_i64];omega
 have cj:(0:Int)<=(i:Int)+1:=by omega
 have ai:i<=n:=by omega
 have htn:((i:Int)+1).toNat=i+1:=by omega
 have hb3:(i:Int)<=(n:Int):=by omega
 clear jz hik hold jY hG jX jc bN
 go_enter Tryz.func191,Tryz.ntmps191
 go_wp2_with (first
  | (at_builtin;refine Lib.wpList_append_run _ rfl _ _ _ _ rfl _ _ rfl rfl _ _ (hrz _) ?_)
  | (at_builtin;refine zCw _ rfl _ _ 22 22 rfl _ _ rfl rfl (hcpA _ hE1 hE2 _ _) ?_)
  | (at_builtin;refine zCw _ rfl _ _ 22 22 rfl _ _ rfl rfl (lR _ (λ _=>rfl) (λ _=>rfl) _ _ _) ?_))
 go_region_law_o (refine zFX rfl _ _ 22 22 rfl (.slice (some ⟨w.heap.size,(i+1)*2,none⟩) (n-i) (G-(i+1))) (.slice (some ⟨b,off+i*2,none⟩) (n-i) (c-i)) (by simp[Act.eval,Act.put]) (by simp[Act.eval,Act.put]) (lR _ hF1 hF2 3 (G-(i+1)) (c-i)) ?_)
 go_wp2
 go_ret
 exact⟨rfl,rfl⟩
end Go.Proofs
namespace Go.Proofs
open Go Go.AM Go.RowKit
def zEx{w:World}{b:Nat}{cc:Array Value}{t:TypeId}{fr:Nat×Nat}(h:w.heap[b]?=some (.cells cc t fr))(k:Nat):w.cell? ⟨b,k,none⟩=cc[k]?:=by
 unfold World.cell?;simp only[h];rfl
def zDS{w:World}{b:Nat}{cc:Array Value}{t:TypeId}(h:w.heap[b]?=some (.cells cc t (0,0)))(k:Nat):w.frozen? ⟨b,k,none⟩=false:=by
 unfold World.frozen?;simp only[h];simp
def zJ1{w:World}{b:Nat}{cc:Array Value}{t:TypeId}{fr:Nat×Nat}(h:w.heap[b]?=some (.cells cc t fr)):w.shape? b=some (t,cc.size):=by
 unfold World.shape?;simp only[h]
def zDi{w:World}{b o:Nat}{cc:Array Value}{t:TypeId}{us:List Value}(h:w.heap[b]?=some (.cells cc t (0,0)))(hl:o+us.length<=cc.size)(h1:∀ v∈us,v.oneCell'=true) :
  w.setCells b o us=World.put w b (.cells (cc.toList.take o++us++cc.toList.drop (o+us.length)).toArray t (0,0)):=by
 have e1:=run_storeCells_cells (P:=Tryz.prog) b o us 0 w (λ j hj=>by
  rw[zEx h,xAa (by omega)];rfl) (λ j hj=>zDS h _) h1
 have e2:=run_storeCells_at (P:=Tryz.prog) b o t us 0 cc w h (by omega) h1;rw[e1] at e2;simp only[xCu] at e2;have e3:=(Result.ok.inj e2).2;rw[e3,zGt h]
def zMc{σ:Sg}{vs:List Value}{ty es:Nat}{ro:Bool}{l:AM.Loc}{cs:Array Value}{el:TypeId}{frz:Nat×Nat}(r:RowR σ vs ty es ro l cs el frz) :
  ∃ A rvs J:List Value,cs=(A++rvs++J).toArray/\A.length=l.base/\VRs σ vs rvs/\rvs.length=vs.length:=by
 refine⟨cs.toList.take l.base,(cs.toList.drop l.base).take vs.length,(cs.toList.drop l.base).drop vs.length,?_,?_,?_,?_⟩
 ·rw[xBs,xBD,xBD]
 ·have:=r.size;simp;omega
 ·refine VRs.of_get (by have:=r.size;simp;omega) λ k a b ha hb=>?_;obtain⟨v',h1,h2⟩:=r.cell k a ha;have ab:=(xAc.1 ha).1;rw[xAg ab,xBW,xAz,h1] at hb;cases hb;exact h2
 ·have:=r.size;simp;omega
def zRF{σ:Sg}{vs rvs:List Value}(h:VRs σ vs rvs)(hl:vs.all zl=true):∀ v∈rvs,v.oneCell'=true:=by
 intro v hv;obtain⟨k,hk⟩:=xAy.1 hv;have ab:k<vs.length:=by
  have:=h.length;have:=(xAc.1 hk).1;omega
 obtain⟨b,cj,aN⟩:=h.get (xAA ab);rw[hk] at cj;cases cj;apply zLc;rw[aN.leaf];exact xCB.1 hl _ (xCF ab)
def VRs.take{σ:Sg}:∀ {v v':List Value} (n:Nat),VRs σ v v'->VRs σ (v.take n) (v'.take n)
 | _,_,0,_=>by simp;exact .nil
 | _,_,n+1,.nil=>by simp;exact .nil
 | _,_,n+1,.cons h hs=>by simp only[xBP];exact .cons h (VRs.take n hs)
def VRs.drop{σ:Sg}:∀ {v v':List Value} (n:Nat),VRs σ v v'->VRs σ (v.drop n) (v'.drop n)
 | _,_,0,h=>by simpa using h
 | _,_,n+1,.nil=>by simp;exact .nil
 | _,_,n+1,.cons h hs=>by simp only[List.drop_succ_cons];exact VRs.drop n hs
def zhu{α:Type}(A R1 R2 J U:List α)(h2:2<=R2.length)(hu:U.length=2) :
  ((((A++(R1++R2)++J).take (A.length+R1.length+2)++R2++(A++(R1++R2)++J).drop (A.length+R1.length+2+R2.length)).take (A.length+R1.length))++U ++
   (((A++(R1++R2)++J).take (A.length+R1.length+2)++R2++(A++(R1++R2)++J).drop (A.length+R1.length+2+R2.length)).drop (A.length+R1.length+U.length)))
  = A++(R1++U++R2)++J.drop 2:=by
 have e1:(A++(R1++R2)++J).take (A.length+R1.length+2)=(A++R1)++R2.take 2:=by
  rw[show A++(R1++R2)++J=(A++R1)++(R2++J) by simp,show A.length+R1.length+2=(A++R1).length+2 by simp,List.take_length_add_append,xAR h2]
 have e2:(A++(R1++R2)++J).drop (A.length+R1.length+2+R2.length)=J.drop 2:=by
  rw[show A.length+R1.length+2+R2.length=(A++(R1++R2)).length+2 by simp;omega,xAU]
 rw[e1,e2];have e3:((A++R1)++R2.take 2++R2++J.drop 2).take (A.length+R1.length)=A++R1:=by
  rw[show (A++R1)++R2.take 2++R2++J.drop 2=(A++R1)++(R2.take 2++R2++J.drop 2) by simp,show A.length+R1.length=(A++R1).length by simp,List.take_left]
 have e4:((A++R1)++R2.take 2++R2++J.drop 2).drop (A.length+R1.length+U.length)=R2++J.drop 2:=by
  rw[show (A++R1)++R2.take 2++R2++J.drop 2=((A++R1)++R2.take 2)++(R2++J.drop 2) by simp,show A.length+R1.length+U.length=((A++R1)++R2.take 2).length by simp;omega,List.drop_left]
 rw[e3,e4];simp
def zXZ{α:Type}(R1 R2 Z U:List α)(hu:U.length=2) :
  (R1++Z).take R1.length++U++(R1++Z).drop (R1.length+U.length)=R1++U++Z.drop 2 ∧
  ((R1++Z).take R1.length++U++(R1++Z).drop (R1.length+U.length)).take (R1.length+2)++R2++((R1++Z).take R1.length++U++(R1++Z).drop (R1.length+U.length)).drop (R1.length+2+R2.length)=R1++U++R2++(Z.drop 2).drop R2.length:=by
 have e1:(R1++Z).take R1.length++U++(R1++Z).drop (R1.length+U.length)=R1++U++Z.drop 2:=by
  rw[List.take_left,hu,xAU]
 refine⟨e1,?_⟩;rw[e1];rw[show R1.length+2=(R1++U).length by simp;omega,List.take_left,xAU]
def zWc(w:World)(k:Nat)(o o':Obj):AM.World.put (AM.World.put w k o) k o'=AM.World.put w k o':=by
 unfold AM.World.put;simp
def zWe(w:World)(o o':Obj):AM.World.put (w.alloc o) w.heap.size o'=w.alloc o':=by
 have e:(w.heap.push o).setIfInBounds w.heap.size o'=w.heap.push o':=by
  apply xDH;simp[List.set_append]
 show ({ w with heap:=(w.heap.push o).setIfInBounds w.heap.size o' }:World)=_;rw[e];rfl
def zxI:Elt 22 36 2:=zGd znR zML zC7 (by kernel_rfl)
def zhW{σ:Sg}{c o n cap:Nat}{v:Value}(h:VR σ (.slice (some ⟨c,o,none⟩) n cap) v)(aB:cap<UNK):∃ m:AM.Loc,σ c=some m/\v=.slice (some ⟨m.blk,m.base+o,none⟩) n cap:=by
 cases h with
 | slice _ _ _ h1 h2=>exact⟨_,h1,rfl⟩
 | sliceU _ _ _ h1 h2 h3=>exact absurd aB (by show ¬ UNK+_<UNK;omega)
def zmx{σ:Sg}{c o n cap:Nat}{v:Value}(h:VR σ (.slice (some ⟨c,o,none⟩) n cap) v)(aB:cap=UNK+2):∃(l:AM.Loc) (cr:Nat),σ c=some l/\v=.slice (some ⟨l.blk,l.base+o,none⟩) n cr/\o+cr*2=l.tot/\n<=cr:=by
 cases h with
 | slice _ _ _ h1 h2=>omega
 | sliceU _ _ cr h1 h2 h3=>
  rename_i l;have:l.es=2:=by have:UNK+l.es=UNK+2:=aB;omega
  exact⟨l,cr,h1,rfl,by rw[this] at h2;exact h2,h3⟩
def zse{lo:Nat}{σ:Sg}{h:AH}{w:World}{b c i n:Nat}{vs us:List Value}{args':List Value}(H:HR lo σ h w)
  (ha:VRs σ [.slice (some ⟨b,0,none⟩) n (UNK+2),.int .i64 (i:Int),.slice (some ⟨c,0,none⟩) 1 1] args')
  (hb:h.get b=some (.row vs 36 2 false)) (hc:h.get c=some (.row us 36 0 false)) (ai:i<=n) (aP:vs.length=n*2) (hul:us.length=2) (gO:b≠c) (hvf:vs.all zl=true) (huf:us.all zl=true) (hn:n<=100000) :
  CallsIn Fence.wide 0 Tryz.prog 191 args'.toArray w (Ret (zFw lo σ w [(.slice (some ⟨h.qa,0,none⟩) (n+1) (UNK+2),(h.upd b none).new (.row (vs.take (i*2)++us++vs.drop (i*2)) 36 2 false))])):=by
 obtain⟨l,lb,⟨cc,el,frz,r1,r2⟩,lro⟩:=H.live b _ hb;obtain⟨m,mb,⟨mc,mel,mfrz,q1,q2⟩,mro⟩:=H.live c _ hc;have hf:=r2.free rfl;have lJ:=q2.free rfl;subst hf lJ;have he:=r2.elt;have iW:=q2.elt;subst he iW;obtain⟨g1,g2⟩:=r2.grown (by decide);have bU:m.blk≠l.blk:=λ e=>by
  have:=H.inj b c _ _ l m hb hc lb mb e.symm gO;exact absurd this.1 (by simp[znG])
 obtain⟨a1',as1,rfl,a1,ha⟩:∃ x xs,args'=x::xs/\VR σ (.slice (some ⟨b,0,none⟩) n (UNK+2)) x/\VRs σ [.int .i64 (i:Int),.slice (some ⟨c,0,none⟩) 1 1] xs:=by cases ha with|cons x xs=>exact⟨_,_,rfl,x,xs⟩
 obtain⟨a2',as2,rfl,a2,ha⟩:∃ x xs,as1=x::xs/\VR σ (.int .i64 (i:Int)) x/\VRs σ [.slice (some ⟨c,0,none⟩) 1 1] xs:=by cases ha with|cons x xs=>exact⟨_,_,rfl,x,xs⟩
 obtain⟨a3',as3,rfl,a3,ha⟩:∃ x xs,as2=x::xs/\VR σ (.slice (some ⟨c,0,none⟩) 1 1) x/\VRs σ [] xs:=by cases ha with|cons x xs=>exact⟨_,_,rfl,x,xs⟩
 cases ha;have ra1:=a1;have ra3:=a3;cases a2;obtain⟨m',h1,rfl⟩:=zhW a3 (by decide);rw[mb] at h1;cases h1;obtain⟨l',cr,h1,rfl,iZ,hncr⟩:=zmx a1 rfl;rw[lb] at h1;cases h1;obtain⟨A,rvs,J,bv,hA,kG,kf⟩:=zMc r2;obtain⟨A2,rus,J2,hmc,hA2,de,hrul⟩:=zMc q2;have jb:=zRF kG hvf;have h1u:=zRF de huf;have hJ:cc.size=l.base+rvs.length+J.length:=by rw[bv];simp;omega
 have aT:∀ j v,rvs[j]?=some v->w.cell? ⟨l.blk,l.base+0+j,none⟩=some v:=λ j v hj=>by
  rw[zEx r1,bv];have:=(xAc.1 hj).1;rw[xBA,xBs,xAX (by omega),xAb (by omega),show l.base+0+j-A.length=j by omega];exact hj
 have kF:∀ j v,rus[j]?=some v->w.cell? ⟨m.blk,m.base+0+j,none⟩=some v:=λ j v hj=>by
  rw[zEx q1,hmc];have:=(xAc.1 hj).1;rw[xBA,xBs,xAX (by omega),xAb (by omega),show m.base+0+j-A2.length=j by omega];exact hj
 have cP:l.base+rvs.length<=cc.size:=by omega
 have eF:VRs σ (vs.take (i*2)++us++vs.drop (i*2)) (rvs.take (i*2)++rus++rvs.drop (i*2)):=((VRs.take _ kG).append de).append (VRs.drop _ kG);by_cases hi:i=n
 ·subst hi;have iA:=zB8 (t:=22) (e:=36) (z:=2) zxI (by decide) hb aP (by omega) hc hul huf;have hv:zBD E [22,22] (.slice (some ⟨b,0,none⟩) i (UNK+2)) (.slice (some ⟨c,0,none⟩) 1 1) h=some (.slice (some ⟨h.qa,0,none⟩) (i+1) (UNK+2),(h.upd b none).new (.row (vs++us) 36 2 false)):=by
   have iz:v2 (zBD E [22,22] (.slice (some ⟨b,0,none⟩) i (UNK+2)) (.slice (some ⟨c,0,none⟩) 1 1) h)=AM.one (.slice (some ⟨h.qa,0,none⟩) (i+1) (UNK+2),(h.upd b none).new (.row (vs++us) 36 2 false)):=iA;cases hx:zBD E [22,22] (.slice (some ⟨b,0,none⟩) i (UNK+2)) (.slice (some ⟨c,0,none⟩) 1 1) h with
   | none=>rw[hx] at iz;cases iz
   | some x=>rw[hx] at iz;cases iz;rfl
  obtain⟨v',w',τ,y1,y2,y3,y4,y5⟩:=zKu (E:=E) Tryz.envOK H (ts:=#[22,22]) (ty:=22) ra1 ra3 hv;have bQ:=zo4 l.blk (l.base+0) i cr m.blk (m.base+0) 1 w hncr hn y1;refine callsIn_wide.2 (bQ.mono λ en w'' hr=>?_);obtain⟨rfl,rfl⟩:=hr;refine⟨_,xBV.2 rfl,τ,y2,?_,y4,y5⟩;rw[xAD (by omega),xAs (by omega),xCb];exact y3
 ·by_cases aG:n+1<=cr
  ·have bQ:=zXY l.blk (l.base+0) n cr i m.blk (m.base+0) 1 rvs rus w (by omega) aG hn bU (by omega) (by omega) aT (λ j hj=>by
    rw[zEx r1,xAa (by omega)];rfl) (λ j hj=>zDS r1 _) kF jb h1u 36 36 mc.size cc.size (zJ1 q1) (zJ1 r1) (by omega) (zDS q1 _) (zDS q1 _)
   refine callsIn_wide.2 (bQ.mono λ en w' hr=>?_);obtain⟨rfl,rfl⟩:=hr;have hD:(rvs.drop (i*2)).length=(n-i)*2:=by rw[xCE];omega
   have hR1:(rvs.take (i*2)).length=i*2:=by rw[xCD];omega
   have eZ:w.drew.heap[l.blk]?=some (.cells cc 36 (0,0)):=r1;have e1:=zDi (o:=l.base+0+(i+1)*2) (us:=rvs.drop (i*2)) eZ (by omega) (λ v hv=>jb v (xBL hv));have ab:l.blk<w.drew.heap.size:=zAd eZ;have dN:(World.put w.drew l.blk (.cells (cc.toList.take (l.base+0+(i+1)*2)++rvs.drop (i*2)++cc.toList.drop (l.base+0+(i+1)*2+(rvs.drop (i*2)).length)).toArray 36 (0,0))).heap[l.blk]?=some (.cells (cc.toList.take (l.base+0+(i+1)*2)++rvs.drop (i*2)++cc.toList.drop (l.base+0+(i+1)*2+(rvs.drop (i*2)).length)).toArray 36 (0,0)):=by
    rw[World.put_get ab,xDO rfl]
   have e2:=zDi (o:=l.base+0+i*2) (us:=rus) dN (by simp;omega) h1u;have fg:=zhu A (rvs.take (i*2)) (rvs.drop (i*2)) J rus (by omega) (by omega);rw[xBD] at fg;have hccl:cc.toList=A++rvs++J:=by rw[bv]
   rw[e1,e2,zWc];simp only[List.toList_toArray,hccl];rw[show l.base+0+(i+1)*2=A.length+(rvs.take (i*2)).length+2 by omega,show l.base+0+i*2=A.length+(rvs.take (i*2)).length by omega,fg];have kO:(A++(rvs.take (i*2)++rus++rvs.drop (i*2))++J.drop 2).toArray.size=cc.size:=by simp;omega
   have aw:RowR σ (vs.take (i*2)++us++vs.drop (i*2)) 36 2 false l (A++(rvs.take (i*2)++rus++rvs.drop (i*2))++J.drop 2).toArray 36 (0,0):=by
    refine⟨by rw[kO];simp;omega,λ k v hk=>?_,λ _=>rfl,rfl,λ e=>absurd e (by decide),λ _=>⟨g1,by rw[kO];exact g2⟩⟩;obtain⟨u,u1,u2⟩:=eF.get hk;refine⟨u,?_,u2⟩;have:=(xAc.1 u1).1;rw[xBA,xBs,xAX (by omega),xAb (by omega),show l.base+k-A.length=k by omega];exact u1
   obtain⟨k1,k2⟩:=(H.heap (w':=w.drew) rfl).updRow hb lb aw;obtain⟨k3,k4⟩:=HR.rename k1 (b:=b) (vs:=vs.take (i*2)++us++vs.drop (i*2)) (vs':=vs.take (i*2)++us++vs.drop (i*2)) (ty:=36) (es:=2) (o:=0) (l:=l) (by rw[AH.get_upd,xDO rfl]) lb (by decide) (xDF _) (λ k u hk=>by rw[xAK];exact hk) (by omega);refine⟨_,xBV.2 rfl,_,k4,k3.same rfl (λ k=>zHa ..),?_,?_⟩
   ·have:=VR.sliceU (σ:=σ.ext h.qa ⟨l.blk,l.base+0,l.tot-0,2⟩) (b:=h.qa) (l:=⟨l.blk,l.base+0,l.tot-0,2⟩) 0 (n+1) cr (Sg.ext_self ..) (by simp only;omega) aG;exact this
   ·exact (Below.drew (Below.refl lo w)).trans k2
  ·have hce:cr=n:=by omega
   subst hce;obtain⟨G,zs,be,bN,bQ⟩:=zhv l.blk (l.base+0) cr cr i m.blk (m.base+0) 1 rvs rus w (by omega) (xAF _) (by omega) (by omega) (by omega) (by omega) aT kF jb h1u;refine callsIn_wide.2 (bQ.mono λ en w' hr=>?_);obtain⟨rfl,rfl⟩:=hr;have hD:(rvs.drop (i*2)).length=(cr-i)*2:=by rw[xCE];omega
   have hR1:(rvs.take (i*2)).length=i*2:=by rw[xCD];omega
   generalize hR1e:rvs.take (i*2)=R1 at hR1 eF;generalize hR2e:rvs.drop (i*2)=R2 at hD eF;have h1R2:∀ v∈R2,v.oneCell'=true:=λ v hv=>jb v (by rw[← hR2e] at hv;exact xBL hv);have hra:((w.alloc (.cells (R1++zs).toArray 36)).drew).heap[w.heap.size]?=some (.cells (R1++zs).toArray 36 (0,0)):=by
    show (w.alloc _).heap[w.heap.size]?=_;rw[zBI,xDO rfl]
   have e1:=zDi (o:=i*2) (us:=rus) hra (by simp;omega) h1u;have dN:((World.put ((w.alloc (.cells (R1++zs).toArray 36)).drew) w.heap.size (.cells ((R1++zs).toArray.toList.take (i*2)++rus++(R1++zs).toArray.toList.drop (i*2+rus.length)).toArray 36 (0,0))).drew).heap[w.heap.size]?=some (.cells ((R1++zs).toArray.toList.take (i*2)++rus++(R1++zs).toArray.toList.drop (i*2+rus.length)).toArray 36 (0,0)):=by
    show (World.put _ w.heap.size _).heap[w.heap.size]?=_;rw[World.put_get (zAd hra),xDO rfl]
   have e2:=zDi (o:=(i+1)*2) (us:=R2) dN (by simp;omega) h1R2;have fg:=(zXZ R1 R2 zs rus (by omega)).2;have cZ:(((w.alloc (.cells (R1++zs).toArray 36)).drew.setCells w.heap.size (i*2) rus).drew).setCells w.heap.size ((i+1)*2) R2=w.drew.drew.alloc (.cells (R1++rus++R2++(zs.drop 2).drop R2.length).toArray 36):=by
    rw[e1,e2];simp only[List.toList_toArray];rw[show (i+1)*2=R1.length+2 by omega,show i*2=R1.length by omega,fg];show World.put (World.put (w.drew.drew.alloc _) w.heap.size _) w.heap.size _=_;rw[zWc];exact zWe w.drew.drew _ _
   rw[cZ];obtain⟨k1,k2,k3⟩:=zRR (w:=w.drew.drew) ((H.kill b).heap rfl) (ty:=36) (es:=2) (tot:=G*2) (vs:=vs.take (i*2)++us++vs.drop (i*2)) (cs:=(R1++rus++R2++(zs.drop 2).drop R2.length).toArray) (by
    intro k v hk;obtain⟨u,u1,u2⟩:=eF.get hk;refine⟨u,?_,u2⟩;have:=(xAc.1 u1).1;rw[xBA,xAb (by omega)];exact u1) (by simp;omega) (by decide) (by
    have:=eF.length;simp at this ⊢;omega)
   refine⟨_,xBV.2 rfl,_,k2,k1,?_,(Below.drew (Below.drew (Below.refl lo w))).trans k3⟩;have:=VR.sliceU (σ:=σ.ext h.qa ⟨w.heap.size,0,G*2,2⟩) (b:=h.qa) (l:=⟨w.heap.size,0,G*2,2⟩) 0 (cr+1) G (Sg.ext_self ..) (by simp) be;exact this
end Go.Proofs
namespace Go.Proofs
open Go.Shelf
def Tryz.sortStep_ren:Go.Shelf.Ren:=⟨fun|6=>175|15=>93|14=>221|28=>152|29=>153|20=>248|21=>249|22=>250|23=>251|24=>252|25=>253|26=>254|27=>255|46=>270|47=>193|48=>194|49=>271|50=>272|57=>283|n=>n,fun|22=>132|24=>134|25=>232|3=>3|39=>140|0=>0|53=>207|55=>209|4=>4|46=>201|45=>200|50=>169|5=>5|9=>9|66=>253|70=>94|76=>282|77=>283|n=>n,fun|n=>n⟩
def Tryz.sortStep:Go.Proofs.SlLaysF0.n6 Tryz.prog Tryz.sortStep_ren:={
 mixed:=by kernel_rfl
 f6:=⟨Tryz.f175.name,by decide,Tryz.func175.trans (congrArg some (by kernel_rfl))⟩
 f14:=⟨Tryz.f221.name,by decide,Tryz.func221.trans (congrArg some (by kernel_rfl))⟩
 f15:=Tryz.func93.trans (congrArg some (by kernel_rfl))
 f20:=⟨Tryz.f248.name,by decide,Tryz.func248.trans (congrArg some (by kernel_rfl))⟩
 f21:=⟨Tryz.f249.name,by decide,Tryz.func249.trans (congrArg some (by kernel_rfl))⟩
 f22:=⟨Tryz.f250.name,by decide,Tryz.func250.trans (congrArg some (by kernel_rfl))⟩
 f23:=⟨Tryz.f251.name,by decide,Tryz.func251.trans (congrArg some (by kernel_rfl))⟩
 f24:=⟨Tryz.f252.name,by decide,Tryz.func252.trans (congrArg some (by kernel_rfl))⟩
 f25:=⟨Tryz.f253.name,by decide,Tryz.func253.trans (congrArg some (by kernel_rfl))⟩
 f26:=⟨Tryz.f254.name,by decide,Tryz.func254.trans (congrArg some (by kernel_rfl))⟩
 f27:=⟨Tryz.f255.name,by decide,Tryz.func255.trans (congrArg some (by kernel_rfl))⟩
 f28:=Tryz.func152.trans (congrArg some (by kernel_rfl))
 f29:=Tryz.func153.trans (congrArg some (by kernel_rfl))
 f46:=⟨Tryz.f270.name,by decide,Tryz.func270.trans (congrArg some (by kernel_rfl))⟩
 f47:=Tryz.func193.trans (congrArg some (by kernel_rfl))
 f48:=Tryz.func194.trans (congrArg some (by kernel_rfl))
 f49:=⟨Tryz.f271.name,by decide,Tryz.func271.trans (congrArg some (by kernel_rfl))⟩
 f50:=⟨Tryz.f272.name,by decide,Tryz.func272.trans (congrArg some (by kernel_rfl))⟩
 f57:=⟨Tryz.f283.name,by decide,Tryz.func283.trans (congrArg some (by kernel_rfl))⟩
 t0:=Tryz.underlying0
 a0:=Tryz.isAgg0
 z0:=Tryz.sizeOf0
 v0:=Tryz.zeroValue0
 t3:=Tryz.underlying3
 a3:=Tryz.isAgg3
 z3:=Tryz.sizeOf3
 v3:=Tryz.zeroValue3
 t4:=Tryz.underlying4
 a4:=Tryz.isAgg4
 z4:=Tryz.sizeOf4
 v4:=Tryz.zeroValue4
 t5:=Tryz.underlying5
 a5:=Tryz.isAgg5
 z5:=Tryz.sizeOf5
 v5:=Tryz.zeroValue5
 t9:=Tryz.underlying9
 a9:=Tryz.isAgg9
 z9:=Tryz.sizeOf9
 v9:=Tryz.zeroValue9
 t22:=Tryz.underlying132
 a22:=Tryz.isAgg132
 z22:=Tryz.sizeOf132
 v22:=Tryz.zeroValue132
 t25:=Tryz.underlying232
 a25:=Tryz.isAgg232
 z25:=Tryz.sizeOf232
 v25:=Tryz.zeroValue232
 t39:=Tryz.underlying140
 a39:=Tryz.isAgg140
 z39:=Tryz.sizeOf140
 v39:=Tryz.zeroValue140
 t45:=Tryz.underlying200
 a45:=Tryz.isAgg200
 z45:=Tryz.sizeOf200
 v45:=Tryz.zeroValue200
 t46:=Tryz.underlying201
 a46:=Tryz.isAgg201
 z46:=Tryz.sizeOf201
 v46:=Tryz.zeroValue201
 t50:=Tryz.underlying169
 a50:=Tryz.isAgg169
 z50:=Tryz.sizeOf169
 v50:=Tryz.zeroValue169
 t53:=Tryz.underlying207
 a53:=Tryz.isAgg207
 z53:=Tryz.sizeOf207
 v53:=Tryz.zeroValue207
 t55:=Tryz.underlying209
 a55:=Tryz.isAgg209
 z55:=Tryz.sizeOf209
 v55:=Tryz.zeroValue209
 t66:=Tryz.underlying253
 a66:=Tryz.isAgg253
 z66:=Tryz.sizeOf253
 v66:=Tryz.zeroValue253
 t70:=Tryz.underlying94
 a70:=Tryz.isAgg94
 z70:=Tryz.sizeOf94
 v70:=Tryz.zeroValue94
 t76:=Tryz.underlying282
 a76:=Tryz.isAgg282
 z76:=Tryz.sizeOf282
 v76:=Tryz.zeroValue282
 t77:=Tryz.underlying283
 a77:=Tryz.isAgg283
 z77:=Tryz.sizeOf283
 v77:=Tryz.zeroValue283 }
def Tryz.cmpInt_ren:Go.Shelf.Ren:=⟨fun|5=>94|7=>154|n=>n,fun|22=>3|3=>3|4=>4|n=>n,fun|n=>n⟩
def Tryz.cmpInt:Go.Proofs.SlLaysC2.n5 Tryz.prog Tryz.cmpInt_ren:={
 mixed:=by kernel_rfl
 f5:=⟨Tryz.f94.name,by decide,Tryz.func94.trans (congrArg some (by kernel_rfl))⟩
 f7:=⟨Tryz.f154.name,by decide,Tryz.func154.trans (congrArg some (by kernel_rfl))⟩
 t3:=Tryz.underlying3
 a3:=Tryz.isAgg3
 z3:=Tryz.sizeOf3
 v3:=Tryz.zeroValue3
 t4:=Tryz.underlying4
 a4:=Tryz.isAgg4
 z4:=Tryz.sizeOf4
 v4:=Tryz.zeroValue4
 t22:=Tryz.underlying3
 a22:=Tryz.isAgg3
 z22:=Tryz.sizeOf3
 v22:=Tryz.zeroValue3 }
end Go.Proofs
namespace Go.Proofs
open Go Go.Shelf Go.RowKit Go.Lib Go.Sort
attribute [local go_sem ↓] Go.wp_at_zero Go.wp_at_succ
def w94(a b:Int)(W:World):Calls Tryz.prog 94 #[.int .i64 a,.int .i64 b] W λ e w'=>e=.returned (.int .i64 (Lib.compareInt a b))/\w'=W:=AnyG.cmp_Compare_int Tryz.cmpInt a b W
def w171(a b:Int)(blk:Nat)(W:World)(h0:W.cell? ⟨blk,0,none⟩=some (.int .i64 a))(h1:W.cell? ⟨blk,1,none⟩=some (.int .i64 b)):Calls Tryz.prog 171 #[.slice (some ⟨blk,0,none⟩) 2 2] W λ e w'=>e=.returned (.int .i64 (if a≠0 then a else b))/\w'=W:=by
 by_cases ha:a=0
 ·subst ha;by_cases hb:b=0
  ·subst hb
   go_enter Tryz.func171,Tryz.ntmps171
   go_wp2
   refine wp_loop_rounds 3 ?_;rw[rounds_succ]
   go_wp2
   rw[rounds_succ]
   go_wp2
   rw[rounds_succ]
   go_wp2
   go_ret
   exact⟨rfl,rfl⟩
  ·have ar:(b != 0)=true:=by simpa using hb
   go_enter Tryz.func171,Tryz.ntmps171
   go_wp2
   refine wp_loop_rounds 3 ?_;rw[rounds_succ]
   go_wp2
   rw[rounds_succ]
   go_wp2
   go_ret
   exact⟨rfl,rfl⟩
 ·have cR:(a != 0)=true:=by simpa using ha
  rw[xDO ha]
  go_enter Tryz.func171,Tryz.ntmps171
  go_wp2
  refine wp_loop_rounds 3 ?_;rw[rounds_succ]
  go_wp2
  go_ret
  exact⟨rfl,rfl⟩
def zs9{W:World}{o1 o2:Obj}{c:Array Value}{t:TypeId}{i:Nat}:((((W.alloc o1).alloc o2).alloc (.cells c t)).drew).cell? ⟨W.heap.size+2,i,none⟩=c[i]?:=by
 have h:((((W.alloc o1).alloc o2).alloc (.cells c t)).drew).heap[W.heap.size+2]?=some (.cells c t):=by
  show (((W.heap.push o1).push o2).push (.cells c t))[W.heap.size+2]?=_;rw[show W.heap.size+2=((W.heap.push o1).push o2).size by simp];exact Array.getElem?_push_size
 simp only[World.cell?,h];rfl
def w176(x y:Int×Int)(W:World):Calls Tryz.prog 176 #[.agg #[.int .i64 x.1,.int .i64 x.2],.agg #[.int .i64 y.1,.int .i64 y.2]] W λ e w'=>e=.returned (.int .i64 (if Lib.compareInt x.1 y.1≠0 then Lib.compareInt x.1 y.1 else Lib.compareInt x.2 y.2))/\∃ q os',w'=grow (W.drewN q) os':=by
 have h94:=λ a b W'=>w94 a b W';have j9:=λ a b blk W' h0 h1=>w171 a b blk W' h0 h1;obtain⟨g,hg⟩:∃ g:Int->Int->Int,∀ a b,(if a≠0 then a else b)=g a b:=⟨_,λ _ _=>rfl⟩;simp only[hg] at j9;rw[hg];generalize Lib.compareInt=cf at h94 ⊢
 go_enter Tryz.func176,Tryz.ntmps176
 go_wp2_with (first|(go_at_call 94;refine (h94 _ _ _).mono ?_;rintro e w' ⟨rfl,rfl⟩)|(go_at_call 171;refine (j9 _ _ _ _ ?_ ?_).mono ?_;(simp[*]);(simp[*]);rintro e w' ⟨rfl,rfl⟩))
 go_region_held3 (λ w'=>w'.cell? ⟨W.heap.size,0,none⟩=some (.int .i64 x.1)/\w'.cell? ⟨W.heap.size,1,none⟩=some (.int .i64 x.2)/\w'.cell? ⟨W.heap.size+1,0,none⟩=some (.int .i64 y.1)/\w'.cell? ⟨W.heap.size+1,1,none⟩=some (.int .i64 y.2)) (go_keep)
  (first|(go_at_call 94;refine (h94 _ _ _).mono ?_;rintro e w' ⟨rfl,rfl⟩)|(go_at_call 171;refine Calls.mono (j9 (cf x.1 y.1) (cf x.2 y.2) (W.heap.size+2) _ ?_ ?_) ?_;exact zs9;exact zs9;rintro e w' ⟨rfl,rfl⟩))
 go_wp2
 go_ret
 exact⟨rfl,1,#[_,_,_],by rw[alloc_eq_grow,alloc_eq_grow,alloc_eq_grow,grow_grow,grow_grow];rfl⟩
end Go.Proofs
namespace Go.Proofs
open Go Go.AM Go.RowKit Go.Shelf Go.Sort
def cmpI(x y:Int×Int):(if Lib.compareInt x.1 y.1≠0 then Lib.compareInt x.1 y.1 else Lib.compareInt x.2 y.2)=zDH x y:=by
 have h:∀ a b:Int,Lib.compareInt a b=c3 a b:=λ a b=>by
  unfold Lib.compareInt c3;by_cases h1:a<b
  ·simp[h1]
  ·by_cases h2:b<a <;> simp[h1,h2] <;> omega
 rw[h,h];simp only[zDH,orI];by_cases h1:c3 x.1 y.1=0 <;> by_cases h2:c3 x.2 y.2=0 <;> simp[h1,h2]
def ziF(blk off size:Nat)(w:World):CmpLays Tryz.prog 176 #[] zC 2 zDH blk off size w:=λ m os dk _ x y=>by
 have:=w176 x y (sortWorldK zC 2 w blk off m dk os);rw[cmpI] at this;exact this
def zxK:∀ x y:Int×Int,ltQ zDH x y=false->ltQ zDH y x=false->x=y:=λ x y h1 h2=>by
 simp only[xAk,zAp] at h1 h2;exact Prod.ext (by omega) (by omega)
def zRV(d:List (Int×Int)){i:Nat}(hi:i<d.length*2):(d.flatMap zC)[i]?=some ((flatK zC 2 d.toArray)[i]!):=by
 rw[get_flatK _ _ _ _ (by simpa using hi)];have hq:i / 2<d.length:=by omega
 have hg:d[i / 2]?=some d[i / 2]:=xAA hq;have h:=zHw d (i / 2) _ hg;have e:((d.flatMap zC).drop (i / 2*2)).take 2=zC d[i / 2]:=h;have hr:i % 2<2:=Nat.mod_lt _ (by omega);have:(((d.flatMap zC).drop (i / 2*2)).take 2)[i % 2]?=(d.flatMap zC)[i]?:=by
  rw[xAg hr,xBW]
  congr 1;omega
 rw[← this,e];have ha:d.toArray[i / 2]! = d[i / 2]:=by rw[xCw d.toArray _ (by simpa using hq)];simp
 rw[ha];have:i % 2=0\/i % 2=1:=by omega
 rcases this with h|h <;> rw[h] <;> rfl
def zWf{w:World}{b off:Nat}{cc:Array Value}{t:TypeId}{fr:Nat×Nat}{d:Array Value}(h:w.heap[b]?=some (.cells cc t fr)):putRow id w b off d=AM.World.put w b (.cells (putCells id off d cc) t fr):=by
 unfold putRow mapBlock AM.World.put
 congr 1
 apply Array.ext_getElem?;intro k;simp only[Array.getElem?_modify,xAS];by_cases hk:b=k
 ·subst hk;have ab:=zAd h;rw[xDO rfl,xDO rfl,xDO ab,h];rfl
 ·simp[hk]
def zND(d:List (Int×Int))(i:Nat)(v:Value)(h:(d.flatMap zC)[i]?=some v):∃ n,v=.int .i64 n:=by
 have:=xBI h;obtain⟨x,_,hx⟩:=xCM.1 this;simp only[zC,xAQ,xCN,xDK] at hx;rcases hx with rfl|rfl
 ·exact⟨_,rfl⟩
 ·exact⟨_,rfl⟩
def zWJ{lo:Nat}{σ:Sg}{h:AH}{w:World}{b:Nat}{d:List (Int×Int)}{rs:List Value}{args':List Value}(H:HR lo σ h w)(ha:VRs σ [.slice (some ⟨b,0,none⟩) d.length (UNK+2),.func (.func 176) #[] #[]] args')(hb:h.get b=some (.row (d.flatMap zC++rs) 134 2 false))(hl:d.length<=1000000) :
  CallsIn Fence.wide 0 Tryz.prog 175 args'.toArray w (Ret (zFw lo σ w [(.tuple #[],h.upd b (some (.row ((d.mergeSort λ x y=>!(ltOf zDH) y x).flatMap zC++rs) 134 2 false)))])):=by
 obtain⟨l,lb,⟨cc,el,frz,r1,r2⟩,lro⟩:=H.live b _ hb;have hf:=r2.free rfl;subst hf;have hg:=r2.grown (by decide);have hs:=r2.size;have fl:(d.flatMap zC).length=d.length*2:=zBW d;rw[xBY,fl] at hs;obtain⟨cr,rfl⟩:∃ cr,args'=[.slice (some ⟨l.blk,l.base+0,none⟩) d.length cr,.func (.func 176) #[] #[]]:=by
  cases ha with
  | cons hv hr=>
   obtain⟨l',cr,z1,rfl,_⟩:=zmx hv rfl;rw[lb] at z1;cases z1;cases hr with
   | cons hf hr=>
    cases hr;cases hf with
    | func f ha hb=>
     rename_i a' b';have e1:a'=#[]:=by
      obtain⟨l⟩:=a';have:VRs σ [] l:=ha;cases this;rfl
     have e2:b'=#[]:=by
      obtain⟨l⟩:=b';have:VRs σ [] l:=hb;cases this;rfl
     rw[e1,e2];exact⟨cr,rfl⟩
 have ab:l.blk<w.heap.size:=zAd r1;have hH:HoldsK zC 2 w l.blk (l.base+0) d.toArray:=by
  intro j hj;have dC:j<d.length*2:=by simpa using hj
  have aU:=zRV d dC;obtain⟨v',h1,h2⟩:=r2.cell j _ (by rw[xAb (by omega)];exact aU);obtain⟨n,hn⟩:=zND d j _ aU;rw[hn] at h2;cases h2;refine⟨?_,zDS r1 _⟩;rw[zEx r1,xCu,h1,hn];rfl
 have hsz:d.toArray.size<4611686018427387904:=by simp;omega
 have bT:=AnyQ.slices_SortFunc_total Tryz.sortStep 2 Tryz.isAgg134 Tryz.sizeOf134 zC (λ _=>rfl) (λ x v hv=>by simp only[zC,xAQ,xCN,xDK] at hv;rcases hv with rfl|rfl <;> rfl) zDH zrs 176 #[] l.blk (l.base+0) cr d.toArray w (enters_of Tryz.func176 (by kernel_rfl) rfl) (ziF _ _ _ _) hH ab hsz zxK;refine callsIn_wide.2 (bT.mono λ en w' hr=>?_);obtain⟨rfl,m,os,rfl⟩:=hr;generalize hd:(d.mergeSort λ x y=>!(ltOf zDH) y x)=d' at *;have hlen:d'.length=d.length:=by rw[← hd];simp
 have fl':(d'.flatMap zC).length=d.length*2:=by rw[zBW,hlen]
 have r1':(Sort.ahead w m).heap[l.blk]?=some (.cells cc el (0,0)):=r1;have dg:sortWorldK zC 2 w l.blk (l.base+0) m d'.toArray os=Sort.grow (AM.World.put (Sort.ahead w m) l.blk (.cells (putCells id (l.base+0) (flatK zC 2 d'.toArray) cc) el (0,0))) os:=by
  show Sort.grow (putRow id (Sort.ahead w m) l.blk (l.base+0) (flatK zC 2 d'.toArray)) os=_;rw[zWf r1']
 rw[dg];have Ha:HR lo σ h (Sort.ahead w m):=H.heap rfl;have HU:=Ha.upd (o':=.row (d'.flatMap zC++rs) 134 2 false) (.cells (putCells id (l.base+0) (flatK zC 2 d'.toArray) cc) el (0,0)) hb lb rfl (λ es v e=>by cases e) (by
  refine⟨putCells id (l.base+0) (flatK zC 2 d'.toArray) cc,el,(0,0),?_,?_⟩
  ·rw[World.put_get (w:=Sort.ahead w m) ab,xDO rfl]
  ·refine⟨by unfold putCells;rw[xBY,fl'];simp;omega,λ i v hv=>?_,λ _=>rfl,r2.elt,λ e=>absurd e (by decide),λ e=>⟨hg.1,by unfold putCells;simpa using hg.2⟩⟩;unfold putCells;rw[Array.getElem?_mapIdx];rcases xCq i (d.length*2) with hi|hi
   ·rw[xAb (by omega)] at hv;have aU:=zRV d' (i:=i) (by omega);rw[hv] at aU;obtain⟨n,rfl⟩:=zND d' i v hv;refine⟨.int .i64 n,?_,.int _ _⟩;have hc:l.base+i<cc.size:=by omega
    rw[xAa hc];simp only[xCS,xCu,size_flatK,xBt,hlen];rw[xDO ⟨by omega,by omega⟩,show l.base+i-l.base=i by omega];rw[← Option.some.inj aU];rfl
   ·rw[xAX (by omega),fl',← fl,← List.getElem?_append_right (by omega)] at hv;obtain⟨v',h1,h2⟩:=r2.cell i v hv;refine⟨v',?_,h2⟩;rw[h1];simp only[xCS,xCu,size_flatK,xBt,hlen];rw[xDN (by omega)])
 have fA:=lro rfl;have ba:Below lo w (AM.World.put (Sort.ahead w m) l.blk (.cells (putCells id (l.base+0) (flatK zC 2 d'.toArray) cc) el (0,0))):=⟨rfl,rfl,rfl,by rw[zHv];exact xAF _,λ k hk=>by rw[World.put_get (w:=Sort.ahead w m) ab,xDN (by omega)];rfl⟩;have fV:=Lib.below_grow (AM.World.put (Sort.ahead w m) l.blk (.cells (putCells id (l.base+0) (flatK zC 2 d'.toArray) cc) el (0,0))).heap.size _ (xAF _) 0 os;rw[World.drewN_zero] at fV;exact⟨_,xBV.2 rfl,σ,Sg.le_refl σ,HR.keep HU fV,.tuple .nil,ba.trans (fV.mono (by rw[zHv];exact H.lo))⟩
def zXa{args:List Value}{h:AH}{outs:List (Value×AH)}(e:zXc args h=some outs):(∀ lo σ w args',HR lo σ h w->VRs σ args args'->CallsIn Fence.wide 0 Tryz.prog 191 args'.toArray w (Ret (zFw lo σ w outs)))/\zCT h outs:=by
 unfold zXc at e;split at e
 ·split at e
  ·rename_i b n cap i c _ _ vs us hb hc;cases bu:(Nat.beq cap (UNK+2)&&Nat.ble i n&&Nat.beq (zBU vs) (n*2)&&Nat.beq (zBU us) 2&&!Nat.beq b c&&vs.all zl&&us.all zl&&Nat.ble n 100000) with
   | false=>rw[bu] at e;cases e
   | true=>
    rw[bu] at e;simp only[xAG,xAN] at e;subst e;simp only[xAP,AM.beq_true,ble_true,zAL,xBq] at bu;obtain⟨⟨⟨⟨⟨⟨⟨h1,h2⟩,h3⟩,h4⟩,h5⟩,h6⟩,h7⟩,h8⟩:=bu;subst h1;have gO:b≠c:=by
     rintro rfl;rw[xCp] at h5;cases h5
    refine⟨λ lo σ w args' H ha=>?_,zDw ?_⟩
    ·have:=zse H ha hb hc h2 h3 h4 gO h6 h7 h8;rw[zAl,zAo];exact this
    ·exact (Fr.upd h b none).trans (Fr.new _ _)
  ·cases e
 ·cases e
def zWD:∀(n:Nat) (vs:List Value) (d:List (Int×Int)),zmv n vs=some d->d.length=n/\vs=d.flatMap zC++vs.drop (n*2)
 | 0,vs,d,h=>by cases h;simp
 | n+1,vs,d,h=>by
  match vs,h with
  | .int .i64 a::.int .i64 b::vs,h=>
   simp only[zmv] at h;cases hs:zmv n vs with
   | none=>rw[hs] at h;cases h
   | some l=>
    rw[hs] at h;cases h;obtain⟨h1,h2⟩:=zWD n vs l hs;refine⟨by simp[h1],?_⟩;rw[show (n+1)*2=n*2+1+1 by omega];simp only[xBv,zC,xCL,xCa,List.drop_succ_cons];rw[← h2]
def zhV(d:List (Int×Int)):zPC d=d.mergeSort λ x y=>!(ltOf zDH) y x:=by
 have:ltS=ltOf zDH:=by
  funext x y
  show (decide (x.1<y.1)||(decide (x.1=y.1)&&decide (x.2<y.2)))=decide (zDH x y<0);rw[xCT];simp[zAp]
 unfold zPC;rw[this]
def zWK{args:List Value}{h:AH}{outs:List (Value×AH)}(e:zF8 args h=some outs):(∀ lo σ w args',HR lo σ h w->VRs σ args args'->CallsIn Fence.wide 0 Tryz.prog 175 args'.toArray w (Ret (zFw lo σ w outs)))/\zCT h outs:=by
 unfold zF8 at e;split at e
 ·split at e
  ·rename_i b n cap _ vs hb;split at e
   ·rename_i d hd;cases bu:(Nat.beq cap (UNK+2)&&Nat.ble n 1000000) with
    | false=>rw[bu] at e;cases e
    | true=>
     rw[bu] at e;simp only[xAG,xAN] at e;subst e;simp only[xAP,AM.beq_true,ble_true] at bu;obtain⟨h1,h2⟩:=bu;obtain⟨rfl,h4⟩:=zWD n vs d hd;subst h1;refine⟨λ lo σ w args' H ha=>?_,zDw (Fr.upd h b _)⟩;rw[h4] at hb;have:=zWJ H ha hb h2;rw[zhV];exact this
   ·cases e
  ·cases e
 ·cases e
def zwD(f:FuncId)(args:List Value)(h:AH)(outs:List (Value×AH))(e:zXb f args h=some outs):(∀ lo σ w args',HR lo σ h w->VRs σ args args'->CallsIn Fence.wide 0 Tryz.prog f args'.toArray w (Ret (zFw lo σ w outs)))/\zCT h outs:=by
 unfold zXb at e;cases hf:Nat.beq f 191 with
 | true=>
  rw[hf] at e;have:=xAw hf;subst this;exact zXa e
 | false=>
  rw[hf] at e;simp only at e;cases hg:Nat.beq f 13 with
  | true=>
   rw[hg] at e;have:=xAw hg;subst this;exact zoc e
  | false=>
   rw[hg] at e;simp only at e;cases hw:Nat.beq f 175 with
   | true=>
    rw[hw] at e;have:=xAw hw;subst this;exact zWK e
   | false=>rw[hw] at e;cases e
def extE:zOp E:=Tryz.extOK zwD
def envE:zCt E:=Tryz.envOK
end Go.Proofs
namespace Go.Proofs.YthmnhjcmefjgjaaGreatDoor
open Go Go.AM Go.ChangeShapes Go.WideShapes Go.ChangeAt Go.RowKit
def zhj:ownKnob Tryz.prog.godebug=none:=by kernel_rfl
def zH5:laidOutB Tryz.prog=true:=by kernel_rfl
def zYp{w:World}{base:Nat}{t:TypeId}{v:Value}{l:List (TypeId×Nat)}(hf:fieldsOf Tryz.prog t=some l)(h:Value.okWide Tryz.prog w .any base t v):∃ cs,v=.agg cs:=by
 unfold fieldsOf at hf;unfold Value.okWide at h;split at hf
 ·rename_i fs hu;rw[hu] at h;obtain⟨cs,e,_⟩:=h;exact⟨cs,e⟩
 ·cases hf
def znk:Tryz.prog.underlying 47=some (.slice 3):=zBN Tryz.envOK zMK
section
variable {H:Type} {enc:TypeId×Value->H} {w:World} {base:Nat} {held:Bool}
def ziP{n:Nat}{cs:List Value}{x:DataW H×List MemPlace}{σ:Sg}{h:AH}(aa:h.ok)(hH:HR w.heap.size σ h w)(cG:DataW.trod enc Tryz.prog w base (λ _=>true) held n 32 cs=some x) :
  ∃(σ':Sg) (h':AH) (vs:List Value) (B:GB),More w σ h σ' h'/\VRs σ' vs cs/\RB h' vs B:=by
 obtain⟨m',eO,hl,hf⟩:=zDM znl cG;rw[ztn] at hl;obtain⟨c0,c1,rfl⟩:=zvP hl;obtain⟨y0,g0⟩:=hf 0 3 0 rfl;obtain⟨y1,g1⟩:=hf 1 26 1 rfl;rw[zJH] at g0;rw[zto] at g1;obtain⟨k0,rfl⟩:=zCh g0;obtain⟨σ1,h1,v1,v1',ps,e1,m1,r1,a1,n1⟩:=zYQ aa hH g1;cases e1;exact⟨σ1,h1,[.int .i64 k0,v1],⟨k0,ps⟩,m1,.cons (.int _ _) (.cons r1 .nil),⟨v1,rfl,a1⟩⟩
end
def RI(h:AH)(v:Value)(l:List Int):Prop:=Arr h 1 v (l.map i1)/\∃ ad n c,v=.slice ad n c/\n<=c/\c<UNK
def ziO{H:Type}{enc:TypeId×Value->H}{w:World}{base:Nat}{held:Bool}{n:Nat}{cs:List Value}{x:DataW H×List MemPlace}{σ:Sg}{h:AH}(aa:h.ok)(hH:HR w.heap.size σ h w)(cG:DataW.trod enc Tryz.prog w base (λ _=>true) held n 47 cs=some x) :
  ∃(σ':Sg) (h':AH) (v v':Value) (ps:List Int),cs=[v']/\More w σ h σ' h'/\VR σ' v v'/\RI h' v ps:=by
 obtain⟨σ1,h1,v,v',els,aas,e1,m1,r1,a1,q1,q2,q3⟩:=zHh (α:=Int) (R:=λ _ u a=>u=i1 a)
  (λ h k u a ex e=>e) znk (by decide) zJH (n:=n) (λ m hm=>by
   intro cs x σ h aa hH cG;obtain⟨k,hk,_⟩:=DataW.trod_int zth cG;subst hk;exact⟨σ,h,i1 k,k,.refl hH aa,.cons (.int _ _) .nil,rfl⟩) cs x σ h aa hH cG
 have:=zP3 q1;subst this;exact⟨σ1,h1,v,v',aas,e1,m1,r1,a1,q3⟩
def fin9{lo:Nat}{σ:Sg}{h:AH}{w:World}{x0:Value}{L0:GL}{x1:Value}{L1:GL}{x2:List Value}{L2:GB}{x3:Value}{L3:List Int}{args':List Value}(H:HR lo σ h w)(aa:h.ok)(r0:RL h x0 L0)(r1:RL h x1 L1)(r2:RB h x2 L2)(r3:RI h x3 L3)
  (ha:VRs σ [x0,x1,.agg ⟨x2⟩,x3] args'):Calls Tryz.prog 9 args'.toArray w (Ret (zFw lo σ w [(.bool true,h)])):=
 zFf envE extE (by kernel_rfl) H ha (ztB aa r0 r1 r2 r3 H ha)
def zHs{H:Type}{enc:TypeId×Value->H}{W:World}{base:Nat}{v0 v1 v2 v3:Value}{d0 d1 d2 d3:DataW H}{p0 p1 p2 p3:List MemPlace}
  (k0:Value.okWide Tryz.prog W .any base 25 v0) (k1:Value.okWide Tryz.prog W .any base 25 v1) (k2:Value.okWide Tryz.prog W .any base 32 v2) (k3:Value.okWide Tryz.prog W .any base 47 v3)
  (h0:DataW.Trod enc Tryz.prog W 0 (λ _=>true) true 25 v0 d0 p0) (h1:DataW.Trod enc Tryz.prog W 0 (λ _=>true) true 25 v1 d1 p1) (h2:DataW.Trod enc Tryz.prog W 0 (λ _=>true) true 32 v2 d2 p2) (h3:DataW.Trod enc Tryz.prog W 0 (λ _=>true) true 47 v3 d3 p3) :
  Calls Tryz.prog 9 #[v0,v1,v2,v3] W λ e W'=>e=.returned (.bool true)/\Below W.heap.size W W':=by
 obtain⟨c0,rfl⟩:=zYp zYg k0;obtain⟨c1,rfl⟩:=zYp zYg k1;obtain⟨c2,rfl⟩:=zYp znl k2;obtain⟨a3,b3,q3,rfl⟩:=okWide_slice znk k3;obtain⟨u0,t0⟩:=h0;obtain⟨u1,t1⟩:=h1;obtain⟨u2,t2⟩:=h2;obtain⟨u3,t3⟩:=h3;have ok0:AH.ok ⟨.e,0,UNK⟩:=by unfold AH.ok;simp
 obtain⟨s0,g0,x0,L0,m0,w0,r0,_⟩:=zRt ok0 (HR.empty W) t0;obtain⟨s1,g1,x1,L1,m1,w1,r1,_⟩:=zRt m0.ok m0.hr t1;obtain⟨s2,g2,x2,L2,m2,w2,r2⟩:=ziP m1.ok m1.hr t2;obtain⟨s3,g3,x3,y3,L3,e3,m3,w3,r3⟩:=ziO m2.ok m2.hr t3;obtain rfl:y3=.slice a3 b3 q3:=by
  have:([Value.slice a3 b3 q3]:List Value)=[y3]:=e3;cases this;rfl
 have ao:VRs s3 [.agg ⟨x0⟩,.agg ⟨x1⟩,.agg ⟨x2⟩,x3] [.agg c0,.agg c1,.agg c2,.slice a3 b3 q3]:=.cons (.agg (w0.mono (Sg.le_trans m1.le (Sg.le_trans m2.le (m3.le))))) (.cons (.agg (w1.mono (Sg.le_trans m2.le (m3.le)))) (.cons (.agg (w2.mono (m3.le))) (.cons w3 .nil)));refine (fin9 m3.hr m3.ok (r0.ext (m1.ext.trans (m2.ext.trans (m3.ext)))) (r1.ext (m2.ext.trans (m3.ext))) (r2.ext (m3.ext)) r3 ao).mono λ e W' he=>?_;cases e with
 | returned r=>
  obtain⟨o,ho,τ,_,_,hv,hb⟩:=he;simp only[xAE] at ho;subst ho;cases hv;exact⟨rfl,hb⟩
 | _=>exact he.elim
end Go.Proofs.YthmnhjcmefjgjaaGreatDoor
