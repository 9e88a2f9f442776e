import Derived.WalkKit
import Derived.WalkSpells
import Derived.Shelf.RegionOpenPlain
import Derived.Lib.Walk
import Derived.Lib.SliceRun
import Derived.Lib.JoinLaws
import Derived.Lib.AppendZerosOnto
import Derived.Lib.Overlaps
import Derived.Laws.Externs
import Derived.Laws.IdiomCopy
import Derived.Test.YthmnhjcmefjgjaaGreatDoorRows
import Derived.Test.YthmnhjcmefjgjaaGreatDoorCards
import Derived.Test.YthmnhjcmefjgjaaGreatDoorTie
import Derived.ProofKit
import Derived.OpenShut
import Derived.LaidMore
import Derived.Lay
import Derived.SevenTiedAt
import Derived.Stop.Joined
import Derived.Test.YthmnhjcmefjgjaaGreatDoorXAP
import Derived.Test.YthmnhjcmefjgjaaGreatDoorXAD
import Derived.Test.YthmnhjcmefjgjaaGreatDoorXAS
import Derived.Test.YthmnhjcmefjgjaaGreatDoorXAN
import Derived.Test.YthmnhjcmefjgjaaGreatDoorXAH
import Derived.Test.YthmnhjcmefjgjaaGreatDoorXAO
import Derived.Test.YthmnhjcmefjgjaaGreatDoorXAJ
import Derived.Test.YthmnhjcmefjgjaaGreatDoorXAL
import Derived.Test.YthmnhjcmefjgjaaGreatDoorXAM
set_option linter.all false
set_option linter.unusedSectionVars false
set_option autoImplicit true
set_option relaxedAutoImplicit true
set_option maxRecDepth 100000
set_option maxHeartbeats 1000000
namespace Go.Proofs
open Go Go.AM Go.RowKit
def HR.empty(w:World):HR w.heap.size (fun _=>none) ⟨.e,0,UNK⟩ w:=
 ⟨fun _ _ h=>by (cases h),fun _ _=>rfl,fun b o h=>by (cases h),fun b _ o _ _ _ h=>by (cases h),xAF _⟩
def HR.keep{lo:Nat}{σ:Sg}{h:AH}{w w':World}(H:HR lo σ h w)(hb:Below w.heap.size w w'):HR lo σ h w':=by
 refine⟨H.dom,H.qb,fun b o e=>?_,H.inj,Nat.le_trans H.lo hb.size⟩;obtain⟨l,a,c,d⟩:=H.live b o e;refine⟨l,a,c.mono (Sg.le_refl σ) (hb.block _ c.blk_lt) (fun m es v lm hm hs=>⟨hm,?_⟩),d⟩;obtain⟨lm',a',c',_⟩:=H.live m _ hm;rw[hs] at a';cases a';exact hb.block _ c'.blk_lt
def ext0:zNd E0:=Tryz.extOK (sum:=fun _ _ _=>none) fun f args h outs e=>by cases e
def env0:zCg E0:=Tryz.envOK
def zQs(w:World):Calls Tryz.prog 13 #[] w (Ret (zFb w.heap.size (fun _=>none) w [(.bool true,⟨.e,0,UNK⟩)])):=
 zFG env0 ext0 (by kernel_rfl) (HR.empty w) (args':=[]) .nil zjr
def zjx{args:List Value}{h:AH}{outs:List (Value×AH)}(e:zUS args h=some outs):(∀ lo σ w args',HR lo σ h w->VRs σ args args'->CallsIn Fence.wide 0 Tryz.prog 13 args'.toArray w (Ret (zFb lo σ w outs)))/\zCI h outs:=by
 unfold zUS at e;split at e
 ·cases e;refine⟨fun lo σ w args' H ha=>?_,zDO (Fr.refl h)⟩;cases ha;refine callsIn_wide.2 ((zQs w).mono fun en w' hr=>?_);cases en with
  | returned v=>
   obtain⟨x,hx,τ,_,_,hv,hb⟩:=hr;simp only[xAE] at hx;subst hx;cases hv;exact⟨(.bool true,h),by simp,σ,Sg.le_refl σ,HR.keep H hb,.bool true,hb.mono H.lo⟩
  | _=>exact hr
 ·cases e
end Go.Proofs
namespace Go.Proofs
open Go Go.RowKit Go.Lib
def zB5{P:Program}(w:World)(dT sT ty elem:TypeId)(z:Nat)(b o dLen dCap:Nat)(a:Addr)(sLen sCap:Nat)(cs:List Value)
  (hu:P.underlying dT=some (.slice elem)) (hs:(P.info? elem).map (·.size)=some z) (hn:cs.length=Nat.min sLen dLen*z)
  (bF:∀ j v,cs[j]?=some v->w.cell? (a.add j)=some v) (hc:∀ j,j<cs.length->(w.cell? ⟨b,o+j,none⟩).isSome=true) (hf:∀ j,j<cs.length->w.frozen? ⟨b,o+j,none⟩=false) (h1:∀ v∈cs,v.oneCell'=true) :
  (Builtin.copy_ #[dT,sT] ty #[.slice (some ⟨b,o,none⟩) dLen dCap,.slice (some a) sLen sCap]).run P w=.ok (goInt (Nat.min sLen dLen)) (w.setCells b o cs):=by
 have hl:=run_loadCells_list (P:=P) w a cs bF;have af:=run_storeCells_cells (P:=P) b o cs 0 w (by simpa using hc) (by simpa using hf) h1;cases hq:P.info? elem with
 | none=>simp[hq] at hs
 | some i=>
  have hi:i.size=z:=by simpa[hq] using hs
  simp[Builtin.copy_,run_underlying hu,Builtin.lenOf,Builtin.firstCells,sizeOf,typeInfo,hq,hi,← hn,hl,af]
def zLG(w:World){P:Program}{o:Oper}{a:Act}{K:Act->World->Prop}{Q:Exit->Act->World->Prop}(d s:Operand)(t t':TypeId)
  (ho:o.op=.call { callee:=.builtin .copy,args:=#[d,s],argTypes:=#[t,t'] }) (v u:Value) (hd:a.eval d=v) (hs:a.eval s=u) {v':Value} {w':World}
  (hr:(Builtin.copy_ #[t,t'] o.type #[v,u]).run P w=.ok v' w') (h:K (a.put o.dst v') w'):o.wp P a w K Q:=by
 unfold Oper.wp execOp;simp only[ho,resolve,invoke,builtin,Sem.run_bind,Sem.run_pure,Result.andThen_ok,List.map_toArray,List.map_cons,List.map_nil,hd,hs,hr];exact h
def zCh(w:World){P:Program}{ops:Array Oper}{rest:List Oper}{o:Oper}{a:Act}{Q:Exit->Act->World->Prop}(hgd:o.guard=none)(d s:Operand)(t t':TypeId)
  (ho:o.op=.call { callee:=.builtin .copy,args:=#[d,s],argTypes:=#[t,t'] }) (v u:Value) (hd:a.eval d=v) (hs:a.eval s=u) {v':Value} {w':World}
  (hr:(Builtin.copy_ #[t,t'] o.type #[v,u]).run P w=.ok v' w') (h:wpList P ops Q rest (a.put o.dst v') w'):wpList P ops Q (o::rest) a w:=
 wpList_plain hgd fun _ hK=>zLG w d s t t' ho v u hd hs hr (hK _ _ h)
def zE7{P:Program}{ops:Array Oper}{o:Oper}{a:Act}{w:World}{K:Act->World->Prop}{Q:Exit->Act->World->Prop}{E:Prop}
  (hg:o.guard=none) (d x:Operand) (dT sT:TypeId) (hop:o.op=Op.call { callee:=Callee.builtin Builtin.copy,args:=#[d,x],argTypes:=#[dT,sT] })
  (v u:Value) (hd:a.eval d=v) (hx:a.eval x=u) {v':Value} {w':World} (hr:(Builtin.copy_ #[dT,sT] o.type #[v,u]).run P w=.ok v' w') (hK:K (a.put o.dst v') w') :
  if Region.wanted o (yielded ops a.tmps)=true then Oper.wp P o a w K Q else E:=by
 have hw:Region.wanted o (yielded ops a.tmps)=true:=by simp[Region.wanted,hg]
 rw[if_pos hw];unfold Oper.wp;simp[execOp,hop,resolve,invoke,builtin,hd,hx,hr,Result.andThen];exact hK
def zEV(b:Nat)(vs:List Value)(o:Nat)(w:World)(h:∀ j,j<vs.length->(w.cell? ⟨b,o+j,none⟩).isSome=true)(k:Nat)(hk:(w.cell? ⟨b,k,none⟩).isSome=true):((w.setCells b o vs).cell? ⟨b,k,none⟩).isSome=true:=by
 by_cases ai:o<=k/\k<o+vs.length
 ·have:=World.cell?_setCells_in b vs o w h (k-o) (by omega);rw[show o+(k-o)=k by omega] at this;rw[this];rfl
 ·rw[World.cell?_setCells_out b vs o w ⟨b,k,none⟩ (fun _ _=>by show k<o\/o+vs.length<=k;omega)];exact hk
def zmq:Tryz.prog.underlying 22=some (.slice 36):=by kernel_rfl
def i36a:(Tryz.prog.info? 36).map (fun i=>(i.zero,i.size,i.bytes))=some (some (.agg #[.int .i64 0,.slice none 0 0]),2,32):=by kernel_rfl
def t3u:Tryz.prog.underlying 3=some (.int .i64):=by kernel_rfl
def zqp:(Tryz.prog.info? 36).map (·.size)=some 2:=by kernel_rfl
def z36s:∀ w,(Go.sizeOf 36).run Tryz.prog w=.ok 2 w:=fun w=>by kernel_rfl
set_option maxHeartbeats 4000000 in
set_option maxRecDepth 100000 in
def zVK(b off n c i vb voff vc:Nat)(cs vs:List Value)(w:World)(hi:i<n)(aC:n+1<=c)(hn5:n<=100000)(hvb:vb≠b)
  (aG:cs.length=n*2) (aT:vs.length=2)
  (aM:∀ j v,cs[j]?=some v->w.cell? ⟨b,off+j,none⟩=some v) (dr:∀ j,j<(n+1)*2->(w.cell? ⟨b,off+j,none⟩).isSome=true) (hfz:∀ j,j<(n+1)*2->w.frozen? ⟨b,off+j,none⟩=false)
  (bV:∀ j v,vs[j]?=some v->w.cell? ⟨vb,voff+j,none⟩=some v) (h1c:∀ v∈cs,v.oneCell'=true) (gL:∀ v∈vs,v.oneCell'=true)
  (tA tB:TypeId) (kA kB:Nat) (hsa:w.shape? vb=some (tA,kA)) (hsb:w.shape? b=some (tB,kB)) (hkB:kB≠0) (hfa:w.frozen? ⟨vb,voff,none⟩=false) (hfe:w.frozen? ⟨vb,kA,none⟩=false) :
  Calls Tryz.prog 191 #[.slice (some ⟨b,off,none⟩) n c,.int .i64 i,.slice (some ⟨vb,voff,none⟩) 1 vc] w fun e w'=>
   e=.returned (.slice (some ⟨b,off,none⟩) (n+1) c)/\w'=(w.drew.setCells b (off+(i+1)*2) (cs.drop (i*2))).setCells b (off+i*2) vs:=by
 have mixed:=Tryz.mixed;have ef:¬ ((i:Int)=(n:Int)):=by omega
 have fe:∀ lb cb,(callFunc 233 #[.slice (some ⟨vb,voff,none⟩) 1 vc,.slice (some ⟨b,off+(i+1)*2,none⟩) lb cb]).run Tryz.prog w=.ok (.value (.bool false)) w:=fun lb cb=>by
  rw[run_callFunc_extern Tryz.func233 (by kernel_rfl) (by kernel_rfl) (by kernel_rfl) (e:=Extern.SlicesOverlaps.overlaps #[22,22] #[4]) (by kernel_rfl),
   Lib.run_overlaps_apart w 22 4 36 zmq 2 z36s ⟨vb,voff,none⟩ ⟨b,off+(i+1)*2,none⟩ 1 vc lb cb hvb tA tB kA kB hsa hsb hkB hfa hfe]
  rfl
 have hdl:(cs.drop (i*2)).length=(n-i)*2:=by rw[List.length_drop,aG];omega
 have iC:IntKind.i64.wrap ((i:Int)+1)=(i:Int)+1:=by rw[IntKind.wrap_i64];omega
 have bN:(0:Int)<=(i:Int)+1:=by omega
 have ai:i<=n:=by omega
 have htn:((i:Int)+1).toNat=i+1:=by omega
 have bz:¬ (c=i+1):=by omega
 have hb3:(i:Int)<=(n:Int)+1:=by omega
 have hb4:¬ (c=i):=by omega
 have jD:∀ ty dc sc,(Builtin.copy_ #[22,22] ty #[.slice (some ⟨b,off+(i+1)*2,none⟩) (n-i) dc,.slice (some ⟨b,off+i*2,none⟩) (n+1-i) sc]).run Tryz.prog w.drew=.ok (goInt (Nat.min (n+1-i) (n-i))) (w.drew.setCells b (off+(i+1)*2) (cs.drop (i*2))):=fun ty dc sc=>
  zB5 w.drew _ _ ty 36 2 b (off+(i+1)*2) (n-i) dc ⟨b,off+i*2,none⟩ (n+1-i) sc (cs.drop (i*2)) zmq zqp (by rw[hdl];simp only[Nat.min_def];split <;> omega)
   (fun j v hj=>by rw[Addr.add_lit,Nat.add_assoc];exact aM (i*2+j) v (by rwa[List.getElem?_drop] at hj))
   (fun j hj=>by rw[Nat.add_assoc];exact dr _ (by omega)) (fun j hj=>by rw[Nat.add_assoc];exact hfz _ (by omega)) (fun v hv=>h1c v (List.mem_of_mem_drop hv))
 obtain⟨W1,ec⟩:∃ W1,W1=w.drew.setCells b (off+(i+1)*2) (cs.drop (i*2)):=⟨_,rfl⟩;have hsp1:∀ k,k<(n+1)*2->(W1.cell? ⟨b,off+k,none⟩).isSome=true:=fun k hk=>by
  rw[ec];exact zEV b _ _ _ (fun j hj=>by rw[Nat.add_assoc];exact dr _ (by omega)) _ (dr k hk)
 have hcp2:∀(W:World),(∀ x,W.cell? x=W1.cell? x)->(∀ x,W.frozen? x=W1.frozen? x)->∀ ty dc,(Builtin.copy_ #[22,22] ty #[.slice (some ⟨b,off+i*2,none⟩) (n+1-i) dc,.slice (some ⟨vb,voff,none⟩) 1 vc]).run Tryz.prog W=.ok (goInt (Nat.min 1 (n+1-i))) (W.setCells b (off+i*2) vs):=fun W hWc hWf ty dc=>
  zB5 W _ _ ty 36 2 b (off+i*2) (n+1-i) dc ⟨vb,voff,none⟩ 1 vc vs zmq zqp (by rw[aT];simp only[Nat.min_def];split <;> omega)
   (fun j v hj=>by
    rw[Addr.add_lit,hWc,ec,World.cell?_setCells_out b _ _ _ _ (fun h _=>absurd h hvb)];exact bV j v hj)
   (fun j hj=>by rw[hWc,Nat.add_assoc];exact hsp1 _ (by omega)) (fun j hj=>by rw[hWf,ec,World.frozen?_setCells,Nat.add_assoc];exact hfz _ (by omega)) gL
 rw[← ec] at jD
 go_enter Tryz.func191,Tryz.ntmps191
 go_wp2_with (simp only[fe])
 go_region_law_o (refine zE7 rfl _ _ 22 22 rfl _ _ (by simp[Act.eval,Act.put]) (by simp[Act.eval,Act.put]) (jD _ _ _) ?_)
 go_wp2_with (at_builtin;refine zCh _ rfl _ _ 22 22 rfl _ _ rfl rfl (hcp2 _ (fun _=>rfl) (fun _=>rfl) _ _) ?_)
 go_ret
 first|exact⟨rfl,rfl⟩|exact⟨rfl,by rw[ec]⟩
set_option maxHeartbeats 4000000 in
set_option maxRecDepth 100000 in
def zkR(b off n c vb voff vc:Nat)(w:World){v':Value}{w':World}(g9:n<=c)(hn5:n<=100000)
  (hr:(Builtin.append_ #[22,22] 22 #[.slice (some ⟨b,off,none⟩) n c,.slice (some ⟨vb,voff,none⟩) 1 vc]).run Tryz.prog w=.ok v' w') :
  Calls Tryz.prog 191 #[.slice (some ⟨b,off,none⟩) n c,.int .i64 n,.slice (some ⟨vb,voff,none⟩) 1 vc] w fun e w''=>e=.returned v'/\w''=w':=by
 have mixed:=Tryz.mixed
 go_enter Tryz.func191,Tryz.ntmps191
 go_wp2_with (at_builtin;refine Lib.wpList_append_run _ rfl _ _ _ _ rfl _ _ rfl rfl _ _ hr ?_)
 all_goals (go_ret;exact⟨rfl,rfl⟩)
set_option maxHeartbeats 4000000 in
set_option maxRecDepth 100000 in
def zeq(b off n c i vb voff vc:Nat)(cs vs:List Value)(w:World)(hi:i<n)(g9:n<=c)(aC:c<n+1)(iv:(n+1)*64<=140737488355328)
  (aG:cs.length=n*2) (aT:vs.length=2)
  (aM:∀ j v,cs[j]?=some v->w.cell? ⟨b,off+j,none⟩=some v)
  (bV:∀ j v,vs[j]?=some v->w.cell? ⟨vb,voff+j,none⟩=some v) (h1c:∀ v∈cs,v.oneCell'=true) (gL:∀ v∈vs,v.oneCell'=true) :
  ∃(G:Nat) (zs:List Value),n+1<=G/\zs.length=(G-i)*2 ∧
  Calls Tryz.prog 191 #[.slice (some ⟨b,off,none⟩) n c,.int .i64 i,.slice (some ⟨vb,voff,none⟩) 1 vc] w fun e w'=>
   e=.returned (.slice (some ⟨w.heap.size,0,none⟩) (n+1) G) ∧
   w'=(((w.alloc (.cells (cs.take (i*2)++zs).toArray 36)).drew.setCells w.heap.size (i*2) vs).drew).setCells w.heap.size ((i+1)*2) (cs.drop (i*2)):=by
 have mixed:=Tryz.mixed;obtain⟨i0,eQ,gO,gM,iN⟩:=info_parts i36a;have ef:¬ ((i:Int)=(n:Int)):=by omega
 have iO:(c:Int)<(n:Int)+1:=by omega
 have gG:b<w.heap.size:=block_lt_of_cell (aM 0 _ (xAA (by omega)));have hvw:vb<w.heap.size:=block_lt_of_cell (bV 0 _ (xAA (by omega)));have ge:(n:Int)+1-(i:Int)=((n+1-i:Nat):Int):=by omega
 have hik:i+(n+1-i)=n+1:=by omega
 have hold:(Builtin.firstCells i0.size i (.slice (some ⟨b,off,none⟩) i c)).run Tryz.prog w.drew=.ok (cs.take (i*2)).toArray w.drew:=by
  rw[gM];exact run_firstCells_some w.drew 2 i ⟨b,off,none⟩ i c (cs.take (i*2)) (by rw[List.length_take];omega) (fun j v hj=>by
   rw[Addr.add_lit];rw[List.getElem?_take] at hj;split at hj
   ·exact aM j v hj
   ·cases hj)
 obtain⟨G,hG⟩:∃ G,G=grownCap w (n+1) c 36:=⟨_,rfl⟩;obtain⟨zs,dt⟩:∃ zs:List Value,zs.toArray=Builtin.zeroCells (Value.agg #[.int .i64 0,.slice none 0 0]).cells (n+1-i)++Builtin.zeroCells (Value.agg #[.int .i64 0,.slice none 0 0]).cells (G-(n+1)):=⟨(Builtin.zeroCells (Value.agg #[.int .i64 0,.slice none 0 0]).cells (n+1-i)++Builtin.zeroCells (Value.agg #[.int .i64 0,.slice none 0 0]).cells (G-(n+1))).toList,by simp⟩;have hGn:n+1<=G:=by rw[hG];exact grownCap_ge w _ _ _
 have aZ:zs.length=(G-i)*2:=by
  have:=congrArg Array.size dt;simp[Builtin.zeroCells,Value.cells] at this;omega
 have jc:∀ ty,(Builtin.append_ #[22,3] ty #[.slice (some ⟨b,off,none⟩) i c,.int .i64 ((n:Int)+1-(i:Int))]).run Tryz.prog w =
   .ok (.slice (some ⟨w.heap.size,0,none⟩) (n+1) G) (w.drew.alloc (.cells (cs.take (i*2)++zs).toArray 36)):=fun ty=>by
  have h:=Lib.run_append_grow_zeros w 22 3 ty 36 i0 _ .i64 .i64 zmq t3u eQ gO (some ⟨b,off,none⟩) i c (cs.take (i*2)) hold (n+1-i) (by omega) (by omega) (by omega) (by omega) (by rw[iN];omega) (by rw[iN,hik];exact growslice_fits aC (by omega));rw[hik,← hG] at h;rw[ge,h,Array.append_assoc,← dt];simp
 obtain⟨ROW,iy⟩:∃ ROW:Array Value,ROW=(cs.take (i*2)++zs).toArray:=⟨_,rfl⟩;refine⟨G,zs,hGn,aZ,?_⟩;rw[← iy] at jc ⊢;have hRl:(n+1)*2<=ROW.size:=by
  rw[iy];simp;omega
 obtain⟨W1,ec⟩:∃ W1,W1=w.drew.alloc (.cells ROW 36):=⟨_,rfl⟩;rw[← ec] at jc;have hN:∀ j,j<(n+1)*2->(W1.cell? ⟨w.heap.size,j,none⟩).isSome=true:=fun j hj=>by
  rw[ec,World.cell?_alloc_at (w:=w.drew) ROW _ w.heap.size j rfl,Array.getElem?_eq_getElem (by omega)];rfl
 have hNf:∀ j,W1.frozen? ⟨w.heap.size,j,none⟩=false:=fun j=>by rw[ec];exact World.frozen?_alloc_at (w:=w.drew) ROW _ w.heap.size j rfl
 have hOb:∀ j v,w.cell? ⟨b,j,none⟩=some v->W1.cell? ⟨b,j,none⟩=some v:=fun j v h=>by rw[ec,World.cell?_alloc_past (w:=w.drew) _ b j gG];exact h
 have hOv:∀ j v,w.cell? ⟨vb,j,none⟩=some v->W1.cell? ⟨vb,j,none⟩=some v:=fun j v h=>by rw[ec,World.cell?_alloc_past (w:=w.drew) _ vb j hvw];exact h
 have hcpA:∀(W:World),(∀ x,W.cell? x=W1.cell? x)->(∀ x,W.frozen? x=W1.frozen? x)->∀ ty dc,(Builtin.copy_ #[22,22] ty #[.slice (some ⟨w.heap.size,i*2,none⟩) (n+1-i) dc,.slice (some ⟨vb,voff,none⟩) 1 vc]).run Tryz.prog W=.ok (goInt (Nat.min 1 (n+1-i))) (W.setCells w.heap.size (i*2) vs):=fun W hWc hWf ty dc=>
  zB5 W _ _ ty 36 2 w.heap.size (i*2) (n+1-i) dc ⟨vb,voff,none⟩ 1 vc vs zmq zqp (by rw[aT];simp only[Nat.min_def];split <;> omega)
   (fun j v hj=>by rw[Addr.add_lit,hWc];exact hOv _ v (bV j v hj))
   (fun j hj=>by rw[hWc];exact hN _ (by omega)) (fun j hj=>by rw[hWf];exact hNf _) gL
 have hGi:¬ (G=i):=by omega
 have hGim:¬ (G=i+1):=by omega
 have hci:¬ (c=i):=by omega
 have hbN:b≠w.heap.size:=by omega
 have hdl:(cs.drop (i*2)).length=(n-i)*2:=by rw[List.length_drop,aG];omega
 have jC:∀(W:World),(∀ x,W.cell? x=(W1.setCells w.heap.size (i*2) vs).cell? x)->(∀ x,W.frozen? x=(W1.setCells w.heap.size (i*2) vs).frozen? x)->∀ ty dc sc,(Builtin.copy_ #[22,22] ty #[.slice (some ⟨w.heap.size,(i+1)*2,none⟩) (n-i) dc,.slice (some ⟨b,off+i*2,none⟩) (n-i) sc]).run Tryz.prog W=.ok (goInt (Nat.min (n-i) (n-i))) (W.setCells w.heap.size ((i+1)*2) (cs.drop (i*2))):=fun W hWc hWf ty dc sc=>
  zB5 W _ _ ty 36 2 w.heap.size ((i+1)*2) (n-i) dc ⟨b,off+i*2,none⟩ (n-i) sc (cs.drop (i*2)) zmq zqp (by rw[hdl];simp only[Nat.min_def];split <;> omega)
   (fun j v hj=>by
    rw[Addr.add_lit,hWc,World.cell?_setCells_out _ _ _ _ _ (fun h _=>absurd h hbN),Nat.add_assoc];exact hOb _ v (aM (i*2+j) v (by rwa[List.getElem?_drop] at hj)))
   (fun j hj=>by rw[hWc];exact zEV _ _ _ _ (fun t ht=>hN _ (by omega)) _ (hN _ (by omega)))
   (fun j hj=>by rw[hWf,World.frozen?_setCells];exact hNf _) (fun v hv=>h1c v (List.mem_of_mem_drop hv))
 subst ec;have hE1:∀ x,((w.alloc (.cells ROW 36)).drew).cell? x=(w.drew.alloc (.cells ROW 36)).cell? x:=fun x=>rfl;have hE2:∀ x,((w.alloc (.cells ROW 36)).drew).frozen? x=(w.drew.alloc (.cells ROW 36)).frozen? x:=fun x=>rfl;have hF1:∀ x,(((w.alloc (.cells ROW 36)).drew.setCells w.heap.size (i*2) vs).drew).cell? x=((w.drew.alloc (.cells ROW 36)).setCells w.heap.size (i*2) vs).cell? x:=fun x=>rfl;have hF2:∀ x,(((w.alloc (.cells ROW 36)).drew.setCells w.heap.size (i*2) vs).drew).frozen? x=((w.drew.alloc (.cells ROW 36)).setCells w.heap.size (i*2) vs).frozen? x:=fun x=>rfl;have iC:IntKind.i64.wrap ((i:Int)+1)=(i:Int)+1:=by rw[IntKind.wrap_i64];omega
 have bN:(0:Int)<=(i:Int)+1:=by omega
 have ai:i<=n:=by omega
 have htn:((i:Int)+1).toNat=i+1:=by omega
 have hb3:(i:Int)<=(n:Int):=by omega
 clear ge hik hold iy hG hRl dt aZ
 go_enter Tryz.func191,Tryz.ntmps191
 go_wp2_with (first
  | (at_builtin;refine Lib.wpList_append_run _ rfl _ _ _ _ rfl _ _ rfl rfl _ _ (jc _) ?_)
  | (at_builtin;refine zCh _ rfl _ _ 22 22 rfl _ _ rfl rfl (hcpA _ hE1 hE2 _ _) ?_)
  | (at_builtin;refine zCh _ rfl _ _ 22 22 rfl _ _ rfl rfl (jC _ (fun _=>rfl) (fun _=>rfl) _ _ _) ?_))
 go_region_law_o (refine zE7 rfl _ _ 22 22 rfl (.slice (some ⟨w.heap.size,(i+1)*2,none⟩) (n-i) (G-(i+1))) (.slice (some ⟨b,off+i*2,none⟩) (n-i) (c-i)) (by simp[Act.eval,Act.put]) (by simp[Act.eval,Act.put]) (jC _ hF1 hF2 3 (G-(i+1)) (c-i)) ?_)
 go_wp2
 go_ret
 exact⟨rfl,rfl⟩
end Go.Proofs
namespace Go.Proofs
open Go Go.AM Go.RowKit
def zGC{w:World}{b:Nat}{cc:Array Value}{t:TypeId}{fr:Nat×Nat}(h:w.heap[b]?=some (.cells cc t fr))(k:Nat):w.cell? ⟨b,k,none⟩=cc[k]?:=by
 unfold World.cell?;simp only[h];rfl
def zD3{w:World}{b:Nat}{cc:Array Value}{t:TypeId}(h:w.heap[b]?=some (.cells cc t (0,0)))(k:Nat):w.frozen? ⟨b,k,none⟩=false:=by
 unfold World.frozen?;simp only[h];simp
def zJH{w:World}{b:Nat}{cc:Array Value}{t:TypeId}{fr:Nat×Nat}(h:w.heap[b]?=some (.cells cc t fr)):w.shape? b=some (t,cc.size):=by
 unfold World.shape?;simp only[h]
def zDS{w:World}{b o:Nat}{cc:Array Value}{t:TypeId}{us:List Value}(h:w.heap[b]?=some (.cells cc t (0,0)))(hl:o+us.length<=cc.size)(h1:∀ v∈us,v.oneCell'=true) :
  w.setCells b o us=World.put w b (.cells (cc.toList.take o++us++cc.toList.drop (o+us.length)).toArray t (0,0)):=by
 have e1:=run_storeCells_cells (P:=Tryz.prog) b o us 0 w (fun j hj=>by
  rw[zGC h,Array.getElem?_eq_getElem (by omega)];rfl) (fun j hj=>zD3 h _) h1
 have e2:=run_storeCells_at (P:=Tryz.prog) b o t us 0 cc w h (by omega) h1;rw[e1] at e2;simp only[Nat.add_zero] at e2;have e3:=(Result.ok.inj e2).2;rw[e3,zGN h]
def zLa{σ:Sg}{vs:List Value}{ty es:Nat}{ro:Bool}{l:AM.Loc}{cs:Array Value}{el:TypeId}{frz:Nat×Nat}(r:RowR σ vs ty es ro l cs el frz) :
  ∃ A rvs J:List Value,cs=(A++rvs++J).toArray/\A.length=l.base/\VRs σ vs rvs/\rvs.length=vs.length:=by
 refine⟨cs.toList.take l.base,(cs.toList.drop l.base).take vs.length,(cs.toList.drop l.base).drop vs.length,?_,?_,?_,?_⟩
 ·rw[List.append_assoc,List.take_append_drop,List.take_append_drop]
 ·have:=r.size;simp;omega
 ·refine VRs.of_get (by have:=r.size;simp;omega) fun k a b ha hb=>?_;obtain⟨v',h1,h2⟩:=r.cell k a ha;have ab:=(List.getElem?_eq_some_iff.1 ha).1;rw[List.getElem?_take_of_lt ab,List.getElem?_drop,Array.getElem?_toList,h1] at hb;cases hb;exact h2
 ·have:=r.size;simp;omega
def zPe{σ:Sg}{vs rvs:List Value}(h:VRs σ vs rvs)(hl:vs.all zq=true):∀ v∈rvs,v.oneCell'=true:=by
 intro v hv;obtain⟨k,hk⟩:=List.mem_iff_getElem?.1 hv;have ab:k<vs.length:=by
  have:=h.length;have:=(List.getElem?_eq_some_iff.1 hk).1;omega
 obtain⟨b,bN,bz⟩:=h.get (xAA ab);rw[hk] at bN;cases bN;apply zKh;rw[bz.leaf];exact List.all_eq_true.1 hl _ (List.getElem_mem ab)
def VRs.take{σ:Sg}:∀ {v v':List Value} (n:Nat),VRs σ v v'->VRs σ (v.take n) (v'.take n)
 | _,_,0,_=>by simp;exact .nil
 | _,_,n+1,.nil=>by simp;exact .nil
 | _,_,n+1,.cons h hs=>by simp only[List.take_succ_cons];exact .cons h (VRs.take n hs)
def VRs.drop{σ:Sg}:∀ {v v':List Value} (n:Nat),VRs σ v v'->VRs σ (v.drop n) (v'.drop n)
 | _,_,0,h=>by simpa using h
 | _,_,n+1,.nil=>by simp;exact .nil
 | _,_,n+1,.cons h hs=>by simp only[List.drop_succ_cons];exact VRs.drop n hs
def zep{α:Type}(A R1 R2 J U:List α)(h2:2<=R2.length)(hu:U.length=2) :
  ((((A++(R1++R2)++J).take (A.length+R1.length+2)++R2++(A++(R1++R2)++J).drop (A.length+R1.length+2+R2.length)).take (A.length+R1.length))++U ++
   (((A++(R1++R2)++J).take (A.length+R1.length+2)++R2++(A++(R1++R2)++J).drop (A.length+R1.length+2+R2.length)).drop (A.length+R1.length+U.length)))
  = A++(R1++U++R2)++J.drop 2:=by
 have e1:(A++(R1++R2)++J).take (A.length+R1.length+2)=(A++R1)++R2.take 2:=by
  rw[show A++(R1++R2)++J=(A++R1)++(R2++J) by simp,show A.length+R1.length+2=(A++R1).length+2 by simp,List.take_length_add_append,List.take_append_of_le_length h2]
 have e2:(A++(R1++R2)++J).drop (A.length+R1.length+2+R2.length)=J.drop 2:=by
  rw[show A.length+R1.length+2+R2.length=(A++(R1++R2)).length+2 by simp;omega,List.drop_length_add_append]
 rw[e1,e2];have e3:((A++R1)++R2.take 2++R2++J.drop 2).take (A.length+R1.length)=A++R1:=by
  rw[show (A++R1)++R2.take 2++R2++J.drop 2=(A++R1)++(R2.take 2++R2++J.drop 2) by simp,show A.length+R1.length=(A++R1).length by simp,List.take_left]
 have e4:((A++R1)++R2.take 2++R2++J.drop 2).drop (A.length+R1.length+U.length)=R2++J.drop 2:=by
  rw[show (A++R1)++R2.take 2++R2++J.drop 2=((A++R1)++R2.take 2)++(R2++J.drop 2) by simp,show A.length+R1.length+U.length=((A++R1)++R2.take 2).length by simp;omega,List.drop_left]
 rw[e3,e4];simp
def zVL{α:Type}(R1 R2 Z U:List α)(hu:U.length=2) :
  (R1++Z).take R1.length++U++(R1++Z).drop (R1.length+U.length)=R1++U++Z.drop 2 ∧
  ((R1++Z).take R1.length++U++(R1++Z).drop (R1.length+U.length)).take (R1.length+2)++R2++((R1++Z).take R1.length++U++(R1++Z).drop (R1.length+U.length)).drop (R1.length+2+R2.length)=R1++U++R2++(Z.drop 2).drop R2.length:=by
 have e1:(R1++Z).take R1.length++U++(R1++Z).drop (R1.length+U.length)=R1++U++Z.drop 2:=by
  rw[List.take_left,hu,List.drop_length_add_append]
 refine⟨e1,?_⟩;rw[e1];rw[show R1.length+2=(R1++U).length by simp;omega,List.take_left,List.drop_length_add_append]
def zUc(w:World)(k:Nat)(o o':Obj):AM.World.put (AM.World.put w k o) k o'=AM.World.put w k o':=by
 unfold AM.World.put;simp
def zUd(w:World)(o o':Obj):AM.World.put (w.alloc o) w.heap.size o'=w.alloc o':=by
 have e:(w.heap.push o).setIfInBounds w.heap.size o'=w.heap.push o':=by
  apply Array.ext';simp[List.set_append]
 show ({ w with heap:=(w.heap.push o).setIfInBounds w.heap.size o' }:World)=_;rw[e];rfl
def zry:Elt 22 36 2:=zJq ziw zLL zE0 (by kernel_rfl)
def zeS{σ:Sg}{c o n cap:Nat}{v:Value}(h:VR σ (.slice (some ⟨c,o,none⟩) n cap) v)(aA:cap<UNK):∃ m:AM.Loc,σ c=some m/\v=.slice (some ⟨m.blk,m.base+o,none⟩) n cap:=by
 cases h with
 | slice _ _ _ h1 h2=>exact⟨_,h1,rfl⟩
 | sliceU _ _ _ h1 h2 h3=>exact absurd aA (by show ¬ UNK+_<UNK;omega)
def znQ{σ:Sg}{c o n cap:Nat}{v:Value}(h:VR σ (.slice (some ⟨c,o,none⟩) n cap) v)(aA:cap=UNK+2):∃(l:AM.Loc) (cr:Nat),σ c=some l/\v=.slice (some ⟨l.blk,l.base+o,none⟩) n cr/\o+cr*2=l.tot/\n<=cr:=by
 cases h with
 | slice _ _ _ h1 h2=>omega
 | sliceU _ _ cr h1 h2 h3=>
  rename_i l;have:l.es=2:=by have:UNK+l.es=UNK+2:=aA;omega
  exact⟨l,cr,h1,rfl,by rw[this] at h2;exact h2,h3⟩
def zn2{lo:Nat}{σ:Sg}{h:AH}{w:World}{b c i n:Nat}{vs us:List Value}{args':List Value}(H:HR lo σ h w)
  (ha:VRs σ [.slice (some ⟨b,0,none⟩) n (UNK+2),.int .i64 (i:Int),.slice (some ⟨c,0,none⟩) 1 1] args')
  (hb:h.get b=some (.row vs 36 2 false)) (hc:h.get c=some (.row us 36 0 false)) (ai:i<=n) (aT:vs.length=n*2) (hul:us.length=2) (hbc:b≠c) (hvf:vs.all zq=true) (huf:us.all zq=true) (hn:n<=100000) :
  CallsIn Fence.wide 0 Tryz.prog 191 args'.toArray w (Ret (zFb lo σ w [(.slice (some ⟨h.qa,0,none⟩) (n+1) (UNK+2),(h.upd b none).new (.row (vs.take (i*2)++us++vs.drop (i*2)) 36 2 false))])):=by
 obtain⟨l,lb,⟨cc,el,frz,r1,r2⟩,lro⟩:=H.live b _ hb;obtain⟨m,mb,⟨mc,mel,mfrz,q1,q2⟩,mro⟩:=H.live c _ hc;have hf:=r2.free rfl;have hf2:=q2.free rfl;subst hf hf2;have he:=r2.elt;have gA:=q2.elt;subst he gA;obtain⟨g1,g2⟩:=r2.grown (by decide);have be:m.blk≠l.blk:=fun e=>by
  have:=H.inj b c _ _ l m hb hc lb mb e.symm hbc;exact absurd this.1 (by simp[zin])
 obtain⟨a1',as1,rfl,a1,ha⟩:∃ x xs,args'=x::xs/\VR σ (.slice (some ⟨b,0,none⟩) n (UNK+2)) x/\VRs σ [.int .i64 (i:Int),.slice (some ⟨c,0,none⟩) 1 1] xs:=by cases ha with|cons x xs=>exact⟨_,_,rfl,x,xs⟩
 obtain⟨a2',as2,rfl,a2,ha⟩:∃ x xs,as1=x::xs/\VR σ (.int .i64 (i:Int)) x/\VRs σ [.slice (some ⟨c,0,none⟩) 1 1] xs:=by cases ha with|cons x xs=>exact⟨_,_,rfl,x,xs⟩
 obtain⟨a3',as3,rfl,a3,ha⟩:∃ x xs,as2=x::xs/\VR σ (.slice (some ⟨c,0,none⟩) 1 1) x/\VRs σ [] xs:=by cases ha with|cons x xs=>exact⟨_,_,rfl,x,xs⟩
 cases ha;have ra1:=a1;have ra3:=a3;cases a2;obtain⟨m',h1,rfl⟩:=zeS a3 (by decide);rw[mb] at h1;cases h1;obtain⟨l',cr,h1,rfl,gE,hncr⟩:=znQ a1 rfl;rw[lb] at h1;cases h1;obtain⟨A,rvs,J,aY,hA,iT,hrl⟩:=zLa r2;obtain⟨A2,rus,J2,hmc,hA2,dG,hrul⟩:=zLa q2;have gL:=zPe iT hvf;have h1u:=zPe dG huf;have hJ:cc.size=l.base+rvs.length+J.length:=by rw[aY];simp;omega
 have aM:∀ j v,rvs[j]?=some v->w.cell? ⟨l.blk,l.base+0+j,none⟩=some v:=fun j v hj=>by
  rw[zGC r1,aY];have:=(List.getElem?_eq_some_iff.1 hj).1;rw[List.getElem?_toArray,List.append_assoc,List.getElem?_append_right (by omega),List.getElem?_append_left (by omega),show l.base+0+j-A.length=j by omega];exact hj
 have iS:∀ j v,rus[j]?=some v->w.cell? ⟨m.blk,m.base+0+j,none⟩=some v:=fun j v hj=>by
  rw[zGC q1,hmc];have:=(List.getElem?_eq_some_iff.1 hj).1;rw[List.getElem?_toArray,List.append_assoc,List.getElem?_append_right (by omega),List.getElem?_append_left (by omega),show m.base+0+j-A2.length=j by omega];exact hj
 have eE:l.base+rvs.length<=cc.size:=by omega
 have dm:VRs σ (vs.take (i*2)++us++vs.drop (i*2)) (rvs.take (i*2)++rus++rvs.drop (i*2)):=((VRs.take _ iT).append dG).append (VRs.drop _ iT);by_cases hi:i=n
 ·subst hi;have fP:=zC4 (t:=22) (e:=36) (z:=2) zry (by decide) hb aT (by omega) hc hul huf;have hv:zA8 E [22,22] (.slice (some ⟨b,0,none⟩) i (UNK+2)) (.slice (some ⟨c,0,none⟩) 1 1) h=some (.slice (some ⟨h.qa,0,none⟩) (i+1) (UNK+2),(h.upd b none).new (.row (vs++us) 36 2 false)):=by
   have fO:v2 (zA8 E [22,22] (.slice (some ⟨b,0,none⟩) i (UNK+2)) (.slice (some ⟨c,0,none⟩) 1 1) h)=one (.slice (some ⟨h.qa,0,none⟩) (i+1) (UNK+2),(h.upd b none).new (.row (vs++us) 36 2 false)):=fP;cases hx:zA8 E [22,22] (.slice (some ⟨b,0,none⟩) i (UNK+2)) (.slice (some ⟨c,0,none⟩) 1 1) h with
   | none=>rw[hx] at fO;cases fO
   | some x=>rw[hx] at fO;cases fO;rfl
  obtain⟨v',w',τ,y1,y2,y3,y4,y5⟩:=zJz (E:=E) Tryz.envOK H (ts:=#[22,22]) (ty:=22) ra1 ra3 hv;have aU:=zkR l.blk (l.base+0) i cr m.blk (m.base+0) 1 w hncr hn y1;refine callsIn_wide.2 (aU.mono fun en w'' hr=>?_);obtain⟨rfl,rfl⟩:=hr;refine⟨_,List.mem_singleton.2 rfl,τ,y2,?_,y4,y5⟩;rw[xAD (by omega),List.drop_eq_nil_of_le (by omega),List.append_nil];exact y3
 ·by_cases aC:n+1<=cr
  ·have aU:=zVK l.blk (l.base+0) n cr i m.blk (m.base+0) 1 rvs rus w (by omega) aC hn be (by omega) (by omega) aM (fun j hj=>by
    rw[zGC r1,Array.getElem?_eq_getElem (by omega)];rfl) (fun j hj=>zD3 r1 _) iS gL h1u 36 36 mc.size cc.size (zJH q1) (zJH r1) (by omega) (zD3 q1 _) (zD3 q1 _)
   refine callsIn_wide.2 (aU.mono fun en w' hr=>?_);obtain⟨rfl,rfl⟩:=hr;have hD:(rvs.drop (i*2)).length=(n-i)*2:=by rw[List.length_drop];omega
   have hR1:(rvs.take (i*2)).length=i*2:=by rw[List.length_take];omega
   have dK:w.drew.heap[l.blk]?=some (.cells cc 36 (0,0)):=r1;have e1:=zDS (o:=l.base+0+(i+1)*2) (us:=rvs.drop (i*2)) dK (by omega) (fun v hv=>gL v (List.mem_of_mem_drop hv));have ab:l.blk<w.drew.heap.size:=zAr dK;have cN:(World.put w.drew l.blk (.cells (cc.toList.take (l.base+0+(i+1)*2)++rvs.drop (i*2)++cc.toList.drop (l.base+0+(i+1)*2+(rvs.drop (i*2)).length)).toArray 36 (0,0))).heap[l.blk]?=some (.cells (cc.toList.take (l.base+0+(i+1)*2)++rvs.drop (i*2)++cc.toList.drop (l.base+0+(i+1)*2+(rvs.drop (i*2)).length)).toArray 36 (0,0)):=by
    rw[World.put_get ab,if_pos rfl]
   have e2:=zDS (o:=l.base+0+i*2) (us:=rus) cN (by simp;omega) h1u;have dP:=zep A (rvs.take (i*2)) (rvs.drop (i*2)) J rus (by omega) (by omega);rw[List.take_append_drop] at dP;have hccl:cc.toList=A++rvs++J:=by rw[aY]
   rw[e1,e2,zUc];simp only[List.toList_toArray,hccl];rw[show l.base+0+(i+1)*2=A.length+(rvs.take (i*2)).length+2 by omega,show l.base+0+i*2=A.length+(rvs.take (i*2)).length by omega,dP];have fA:(A++(rvs.take (i*2)++rus++rvs.drop (i*2))++J.drop 2).toArray.size=cc.size:=by simp;omega
   have az:RowR σ (vs.take (i*2)++us++vs.drop (i*2)) 36 2 false l (A++(rvs.take (i*2)++rus++rvs.drop (i*2))++J.drop 2).toArray 36 (0,0):=by
    refine⟨by rw[fA];simp;omega,fun k v hk=>?_,fun _=>rfl,rfl,fun e=>absurd e (by decide),fun _=>⟨g1,by rw[fA];exact g2⟩⟩;obtain⟨u,u1,u2⟩:=dm.get hk;refine⟨u,?_,u2⟩;have:=(List.getElem?_eq_some_iff.1 u1).1;rw[List.getElem?_toArray,List.append_assoc,List.getElem?_append_right (by omega),List.getElem?_append_left (by omega),show l.base+k-A.length=k by omega];exact u1
   obtain⟨k1,k2⟩:=(H.heap (w':=w.drew) rfl).updRow hb lb az;obtain⟨k3,k4⟩:=HR.rename k1 (b:=b) (vs:=vs.take (i*2)++us++vs.drop (i*2)) (vs':=vs.take (i*2)++us++vs.drop (i*2)) (ty:=36) (es:=2) (o:=0) (l:=l) (by rw[AH.get_upd,if_pos rfl]) lb (by decide) (Nat.zero_le _) (fun k u hk=>by rw[xAK];exact hk) (by omega);refine⟨_,List.mem_singleton.2 rfl,_,k4,k3.same rfl (fun k=>zG5 ..),?_,?_⟩
   ·have:=VR.sliceU (σ:=σ.ext h.qa ⟨l.blk,l.base+0,l.tot-0,2⟩) (b:=h.qa) (l:=⟨l.blk,l.base+0,l.tot-0,2⟩) 0 (n+1) cr (Sg.ext_self ..) (by simp only;omega) aC;exact this
   ·exact (Below.drew (Below.refl lo w)).trans k2
  ·have hce:cr=n:=by omega
   subst hce;obtain⟨G,zs,cy,aZ,aU⟩:=zeq l.blk (l.base+0) cr cr i m.blk (m.base+0) 1 rvs rus w (by omega) (xAF _) (by omega) (by omega) (by omega) (by omega) aM iS gL h1u;refine callsIn_wide.2 (aU.mono fun en w' hr=>?_);obtain⟨rfl,rfl⟩:=hr;have hD:(rvs.drop (i*2)).length=(cr-i)*2:=by rw[List.length_drop];omega
   have hR1:(rvs.take (i*2)).length=i*2:=by rw[List.length_take];omega
   generalize hR1e:rvs.take (i*2)=R1 at hR1 dm;generalize hR2e:rvs.drop (i*2)=R2 at hD dm;have h1R2:∀ v∈R2,v.oneCell'=true:=fun v hv=>gL v (by rw[← hR2e] at hv;exact List.mem_of_mem_drop hv);have hra:((w.alloc (.cells (R1++zs).toArray 36)).drew).heap[w.heap.size]?=some (.cells (R1++zs).toArray 36 (0,0)):=by
    show (w.alloc _).heap[w.heap.size]?=_;rw[zBC,if_pos rfl]
   have e1:=zDS (o:=i*2) (us:=rus) hra (by simp;omega) h1u;have cN:((World.put ((w.alloc (.cells (R1++zs).toArray 36)).drew) w.heap.size (.cells ((R1++zs).toArray.toList.take (i*2)++rus++(R1++zs).toArray.toList.drop (i*2+rus.length)).toArray 36 (0,0))).drew).heap[w.heap.size]?=some (.cells ((R1++zs).toArray.toList.take (i*2)++rus++(R1++zs).toArray.toList.drop (i*2+rus.length)).toArray 36 (0,0)):=by
    show (World.put _ w.heap.size _).heap[w.heap.size]?=_;rw[World.put_get (zAr hra),if_pos rfl]
   have e2:=zDS (o:=(i+1)*2) (us:=R2) cN (by simp;omega) h1R2;have dP:=(zVL R1 R2 zs rus (by omega)).2;have bU:(((w.alloc (.cells (R1++zs).toArray 36)).drew.setCells w.heap.size (i*2) rus).drew).setCells w.heap.size ((i+1)*2) R2=w.drew.drew.alloc (.cells (R1++rus++R2++(zs.drop 2).drop R2.length).toArray 36):=by
    rw[e1,e2];simp only[List.toList_toArray];rw[show (i+1)*2=R1.length+2 by omega,show i*2=R1.length by omega,dP];show World.put (World.put (w.drew.drew.alloc _) w.heap.size _) w.heap.size _=_;rw[zUc];exact zUd w.drew.drew _ _
   rw[bU];obtain⟨k1,k2,k3⟩:=zKp (w:=w.drew.drew) ((H.kill b).heap rfl) (ty:=36) (es:=2) (tot:=G*2) (vs:=vs.take (i*2)++us++vs.drop (i*2)) (cs:=(R1++rus++R2++(zs.drop 2).drop R2.length).toArray) (by
    intro k v hk;obtain⟨u,u1,u2⟩:=dm.get hk;refine⟨u,?_,u2⟩;have:=(List.getElem?_eq_some_iff.1 u1).1;rw[List.getElem?_toArray,List.getElem?_append_left (by omega)];exact u1) (by simp;omega) (by decide) (by
    have:=dm.length;simp at this ⊢;omega)
   refine⟨_,List.mem_singleton.2 rfl,_,k2,k1,?_,(Below.drew (Below.drew (Below.refl lo w))).trans k3⟩;have:=VR.sliceU (σ:=σ.ext h.qa ⟨w.heap.size,0,G*2,2⟩) (b:=h.qa) (l:=⟨w.heap.size,0,G*2,2⟩) 0 (cr+1) G (Sg.ext_self ..) (by simp) cy;exact this
end Go.Proofs
namespace Go.Proofs
open Go Go.RowKit Go.Lib
def t26u:Tryz.prog.underlying 26=some (.slice 54):=by kernel_rfl
def i54a:(Tryz.prog.info? 54).map (fun i=>(i.zero,i.size,i.bytes))=some (some (.agg #[.int .i64 0,.int .i64 0]),2,16):=by kernel_rfl
set_option maxHeartbeats 4000000 in
set_option maxRecDepth 100000 in
def zVS(w:World):Calls Tryz.prog 160 #[.slice none 0 0,.int .i64 0] w fun e w'=>e=.returned (.slice none 0 0)/\w'=w:=by
 have mixed:=Tryz.mixed
 go_enter Tryz.func160,Tryz.ntmps160
 go_wp2
 go_ret
 exact⟨rfl,rfl⟩
set_option maxHeartbeats 4000000 in
set_option maxRecDepth 100000 in
def zet(n:Nat)(w:World)(hn:0<n)(fG:n<=1000000) :
  ∃(G:Nat) (zs:List Value),n<=G/\zs.length=G*2 ∧
  Calls Tryz.prog 160 #[.slice none 0 0,.int .i64 n] w fun e w'=>e=.returned (.slice (some ⟨w.heap.size,0,none⟩) 0 G)/\w'=w.drew.alloc (.cells zs.toArray 54):=by
 have mixed:=Tryz.mixed;obtain⟨i0,eQ,gO,gM,iN⟩:=info_parts i54a;have hold:(Builtin.firstCells i0.size 0 (.slice none 0 0)).run Tryz.prog w.drew=.ok ([]:List Value).toArray w.drew:=rfl;obtain⟨G,hG⟩:∃ G,G=grownCap w (0+n) 0 54:=⟨_,rfl⟩;have hGn:n<=G:=by rw[hG];have:=grownCap_ge w (0+n) 0 54;omega
 obtain⟨zs,dt⟩:∃ zs:List Value,zs.toArray=Builtin.zeroCells (Value.agg #[.int .i64 0,.int .i64 0]).cells n++Builtin.zeroCells (Value.agg #[.int .i64 0,.int .i64 0]).cells (G-(0+n)):=⟨(Builtin.zeroCells (Value.agg #[.int .i64 0,.int .i64 0]).cells n++Builtin.zeroCells (Value.agg #[.int .i64 0,.int .i64 0]).cells (G-(0+n))).toList,by simp⟩;have aZ:zs.length=G*2:=by
  have:=congrArg Array.size dt;simp[Builtin.zeroCells,Value.cells] at this;omega
 have jc:∀ ty,(Builtin.append_ #[26,3] ty #[.slice none 0 0,.int .i64 (n:Int)]).run Tryz.prog w =
   .ok (.slice (some ⟨w.heap.size,0,none⟩) n G) (w.drew.alloc (.cells zs.toArray 54)):=fun ty=>by
  have h:=Lib.run_append_grow_zeros w 26 3 ty 54 i0 _ .i64 .i64 t26u t3u eQ gO none 0 0 [] hold n (by omega) (by omega) (by omega) (by omega) (by rw[iN];omega) (by rw[iN];exact growslice_fits (by omega) (by omega));rw[← hG] at h;rw[h,Array.append_assoc,← dt];simp
 refine⟨G,zs,hGn,aZ,?_⟩;have h0:(0:Int)<(n:Int):=by omega
 have h1:¬ ((n:Int)<0):=by omega
 have hw:IntKind.i64.wrap (n:Int)=(n:Int):=by rw[IntKind.wrap_i64];omega
 have hw0:IntKind.i64.wrap ((n:Int)-0)=(n:Int):=by rw[Int.sub_zero];exact hw
 clear hG hold dt aZ
 go_enter Tryz.func160,Tryz.ntmps160
 go_wp2_with (at_builtin;refine Lib.wpList_append_run _ rfl _ _ _ _ rfl _ _ rfl rfl _ _ (jc _) ?_)
 go_ret
 exact⟨rfl,rfl⟩
end Go.Proofs
namespace Go.Proofs
open Go Go.AM Go.RowKit
def zVM{args:List Value}{h:AH}{outs:List (Value×AH)}(e:zVO args h=some outs):(∀ lo σ w args',HR lo σ h w->VRs σ args args'->CallsIn Fence.wide 0 Tryz.prog 191 args'.toArray w (Ret (zFb lo σ w outs)))/\zCI h outs:=by
 unfold zVO at e;split at e
 ·split at e
  ·rename_i b n cap i c _ _ vs us hb hc;cases bT:(Nat.beq cap (UNK+2)&&Nat.ble i n&&Nat.beq (zBH vs) (n*2)&&Nat.beq (zBH us) 2&&!Nat.beq b c&&vs.all zq&&us.all zq&&Nat.ble n 100000) with
   | false=>rw[bT] at e;cases e
   | true=>
    rw[bT] at e;simp only[xAG,xAN] at e;subst e;simp only[xAP,AM.beq_true,ble_true,zAR,Bool.not_eq_true'] at bT;obtain⟨⟨⟨⟨⟨⟨⟨h1,h2⟩,h3⟩,h4⟩,h5⟩,h6⟩,h7⟩,h8⟩:=bT;subst h1;have hbc:b≠c:=by
     rintro rfl;rw[Nat.beq_refl] at h5;cases h5
    refine⟨fun lo σ w args' H ha=>?_,zDO ?_⟩
    ·have:=zn2 H ha hb hc h2 h3 h4 hbc h6 h7 h8;rw[zAo,zAt];exact this
    ·exact (Fr.upd h b none).trans (Fr.new _ _)
  ·cases e
 ·cases e
def zkX{args:List Value}{h:AH}{outs:List (Value×AH)}(e:zVT args h=some outs):(∀ lo σ w args',HR lo σ h w->VRs σ args args'->CallsIn Fence.wide 0 Tryz.prog 160 args'.toArray w (Ret (zFb lo σ w outs)))/\zCI h outs:=by
 unfold zVT at e;split at e
 ·rename_i n;have inv:∀ {σ:Sg} {args':List Value},VRs σ [.slice none 0 0,.int .i64 (.ofNat n)] args'->args'=[.slice none 0 0,.int .i64 (n:Int)]:=by
   intro σ args' ha;cases ha with
   | cons x xs=>
    cases x;cases xs with
    | cons y ys=>
     cases y;cases ys;rfl
  cases h0:Nat.beq n 0 with
  | true=>
   rw[h0] at e;cases e;have:=Nat.eq_of_beq_eq_true h0;subst this;refine⟨fun lo σ w args' H ha=>?_,zDO (Fr.refl h)⟩;rw[inv ha];refine callsIn_wide.2 ((zVS w).mono fun en w' hr=>?_);obtain⟨rfl,rfl⟩:=hr;exact⟨_,List.mem_singleton.2 rfl,σ,Sg.le_refl σ,H,.sliceN 0 0,Below.refl _ _⟩
  | false=>
   rw[h0] at e;cases h1:Nat.ble n 1000000 with
   | false=>rw[h1] at e;cases e
   | true=>
    rw[h1] at e;cases e;have h1:=ble_true.1 h1;have hn:0<n:=by
     rcases Nat.eq_zero_or_pos n with h|h
     ·subst h;cases h0
     ·exact h
    refine⟨fun lo σ w args' H ha=>?_,zDO (Fr.new _ _)⟩;rw[inv ha];obtain⟨G,zs,g1,g2,aU⟩:=zet n w hn h1;refine callsIn_wide.2 (aU.mono fun en w' hr=>?_);obtain⟨rfl,rfl⟩:=hr;obtain⟨k1,k2,k3⟩:=zKp (w:=w.drew) (H.heap rfl) (ty:=54) (es:=2) (tot:=G*2) (vs:=[]) (cs:=zs.toArray) (fun i v hv=>by simp at hv) (by simp;omega) (by decide) (by simp);refine⟨_,List.mem_singleton.2 rfl,_,k2,k1,?_,(Below.drew (Below.refl lo w)).trans k3⟩;exact VR.sliceU (σ:=σ.ext h.qa ⟨w.heap.size,0,G*2,2⟩) (b:=h.qa) (l:=⟨w.heap.size,0,G*2,2⟩) 0 0 G (Sg.ext_self ..) (by simp) (Nat.zero_le _)
 ·cases e
def zrB(f:FuncId)(args:List Value)(h:AH)(outs:List (Value×AH))(e:zVN f args h=some outs):(∀ lo σ w args',HR lo σ h w->VRs σ args args'->CallsIn Fence.wide 0 Tryz.prog f args'.toArray w (Ret (zFb lo σ w outs)))/\zCI h outs:=by
 unfold zVN at e;cases hf:Nat.beq f 191 with
 | true=>
  rw[hf] at e;have:=Nat.eq_of_beq_eq_true hf;subst this;exact zVM e
 | false=>
  rw[hf] at e;simp only at e;cases hg:Nat.beq f 13 with
  | true=>
   rw[hg] at e;have:=Nat.eq_of_beq_eq_true hg;subst this;exact zjx e
  | false=>
   rw[hg] at e;simp only at e;cases hw:Nat.beq f 160 with
   | true=>
    rw[hw] at e;have:=Nat.eq_of_beq_eq_true hw;subst this;exact zkX e
   | false=>rw[hw] at e;cases e
def extE:zNd E:=Tryz.extOK zrB
def envE:zCg E:=Tryz.envOK
end Go.Proofs
namespace Go.Proofs.YthmnhjcmefjgjaaGreatDoor
open Go Go.AM Go.ChangeShapes Go.WideShapes Go.ChangeAt Go.RowKit
def zee:ownKnob Tryz.prog.godebug=none:=by kernel_rfl
def zHP:laidOutB Tryz.prog=true:=by kernel_rfl
def zjG{w:World}{base:Nat}{t:TypeId}{v:Value}{l:List (TypeId×Nat)}(hf:fieldsOf Tryz.prog t=some l)(h:Value.okWide Tryz.prog w .any base t v):∃ cs,v=.agg cs:=by
 unfold fieldsOf at hf;unfold Value.okWide at h;split at hf
 ·rename_i fs hu;rw[hu] at h;obtain⟨cs,e,_⟩:=h;exact⟨cs,e⟩
 ·cases hf
def zjC:Tryz.prog.underlying 47=some (.slice 3):=zBW Tryz.envOK zLK
section
variable {H:Type} {enc:TypeId×Value->H} {w:World} {base:Nat} {held:Bool}
end
def RI(h:AH)(v:Value)(l:List Int):Prop:=Arr h 1 v (l.map i1)/\∃ ad n c,v=.slice ad n c/\n<=c/\c<UNK
def zfD{H:Type}{enc:TypeId×Value->H}{w:World}{base:Nat}{held:Bool}{n:Nat}{cs:List Value}{x:DataW H×List MemPlace}{σ:Sg}{h:AH}(aa:h.ok)(hH:HR w.heap.size σ h w)(bW:DataW.trod enc Tryz.prog w base (fun _=>true) held n 47 cs=some x) :
  ∃(σ':Sg) (h':AH) (v v':Value) (ps:List Int),cs=[v']/\More w σ h σ' h'/\VR σ' v v'/\RI h' v ps:=by
 obtain⟨σ1,h1,v,v',els,aas,e1,m1,r1,a1,q1,q2,q3⟩:=zG8 (α:=Int) (R:=fun _ u a=>u=i1 a)
  (fun h k u a ex e=>e) zjC (by decide) zML (n:=n) (fun m hm=>by
   intro cs x σ h aa hH bW;obtain⟨k,hk,_⟩:=DataW.trod_int zlx bW;subst hk;exact⟨σ,h,i1 k,k,.refl hH aa,.cons (.int _ _) .nil,rfl⟩) cs x σ h aa hH bW
 have:=zVg q1;subst this;exact⟨σ1,h1,v,v',aas,e1,m1,r1,a1,q3⟩
end Go.Proofs.YthmnhjcmefjgjaaGreatDoor
namespace Go.Proofs.YthmnhjcmefjgjaaGreatDoor
open Go Go.AM
def zoR{k:AH}{x y v:Value}{L M:GL}{kind:Int}{cl:List Int}(aa:k.ok)(hx:RL k x L)(hy:RL k y M)(hc:RI k v cl):(zV E).call 6 [iI kind,x,y,v] k=some [(.bool true,k)]:=zr2 aa hx hy hc.1 hc.2
end Go.Proofs.YthmnhjcmefjgjaaGreatDoor
namespace Go.Proofs.YthmnhjcmefjgjaaGreatDoor
open Go Go.AM Go.ChangeShapes Go.WideShapes Go.ChangeAt Go.RowKit
def fin6{lo:Nat}{σ:Sg}{h:AH}{w:World}{i0:Int}{x1:Value}{L1:GL}{x2:Value}{L2:GL}{x3:Value}{L3:List Int}{args':List Value}(H:HR lo σ h w)(aa:h.ok)(r1:RL h x1 L1)(r2:RL h x2 L2)(r3:RI h x3 L3)
  (ha:VRs σ [.int .i64 i0,x1,x2,x3] args'):Calls Tryz.prog 6 args'.toArray w (Ret (zFb lo σ w [(.bool true,h)])):=
 zFG envE extE (by kernel_rfl) H ha (zoR aa r1 r2 r3)
def zGo{H:Type}{enc:TypeId×Value->H}{W:World}{base:Nat}{v0 v1 v2 v3:Value}{d0 d1 d2 d3:DataW H}{p0 p1 p2 p3:List MemPlace}
  (k0:Value.okWide Tryz.prog W .any base 3 v0) (k1:Value.okWide Tryz.prog W .any base 25 v1) (k2:Value.okWide Tryz.prog W .any base 25 v2) (k3:Value.okWide Tryz.prog W .any base 47 v3)
  (h0:DataW.Trod enc Tryz.prog W 0 (fun _=>true) true 3 v0 d0 p0) (h1:DataW.Trod enc Tryz.prog W 0 (fun _=>true) true 25 v1 d1 p1) (h2:DataW.Trod enc Tryz.prog W 0 (fun _=>true) true 25 v2 d2 p2) (h3:DataW.Trod enc Tryz.prog W 0 (fun _=>true) true 47 v3 d3 p3) :
  Calls Tryz.prog 6 #[v0,v1,v2,v3] W fun e W'=>e=.returned (.bool true)/\Below W.heap.size W W':=by
 obtain⟨i0,rfl⟩:∃ i,v0=.int .i64 i:=okWide_int zlx k0;obtain⟨c1,rfl⟩:=zjG zWW k1;obtain⟨c2,rfl⟩:=zjG zWW k2;obtain⟨a3,b3,q3,rfl⟩:=okWide_slice zjC k3;obtain⟨u1,t1⟩:=h1;obtain⟨u2,t2⟩:=h2;obtain⟨u3,t3⟩:=h3;have ok0:AH.ok ⟨.e,0,UNK⟩:=by unfold AH.ok;simp
 obtain⟨s1,g1,x1,L1,m1,w1,r1,_⟩:=zQF ok0 (HR.empty W) t1;obtain⟨s2,g2,x2,L2,m2,w2,r2,_⟩:=zQF m1.ok m1.hr t2;obtain⟨s3,g3,x3,y3,L3,e3,m3,w3,r3⟩:=zfD m2.ok m2.hr t3;obtain rfl:y3=.slice a3 b3 q3:=by
  have:([Value.slice a3 b3 q3]:List Value)=[y3]:=e3;cases this;rfl
 have am:VRs s3 [.int .i64 i0,.agg ⟨x1⟩,.agg ⟨x2⟩,x3] [.int .i64 i0,.agg c1,.agg c2,.slice a3 b3 q3]:=.cons (.int _ _) (.cons (.agg (w1.mono (Sg.le_trans m2.le (m3.le)))) (.cons (.agg (w2.mono (m3.le))) (.cons w3 .nil)));refine (fin6 m3.hr m3.ok (r1.ext (m2.ext.trans (m3.ext))) (r2.ext (m3.ext)) r3 am).mono fun e W' he=>?_;cases e with
 | returned r=>
  obtain⟨o,ho,τ,_,_,hv,hb⟩:=he;simp only[xAE] at ho;subst ho;cases hv;exact⟨rfl,hb⟩
 | _=>exact he.elim
end Go.Proofs.YthmnhjcmefjgjaaGreatDoor
