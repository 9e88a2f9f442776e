import Derived.WalkKit
import Derived.WalkSpells
import Derived.Shelf.RegionOpenPlain
import Derived.Lib.Walk
import Derived.Lib.SliceRun
import Derived.Lib.JoinLaws
import Derived.Lib.AppendZerosOnto
import Derived.Lib.Overlaps
import Derived.Laws.Externs
import Derived.Laws.IdiomCopy
import Derived.Shelf.LaysM
import Derived.Shelf.Strconv.Itoa3
import Derived.Test.YthmnhjcmefjgjaaGreatDoorProg
import Derived.Lib.AppendIntMem
import Derived.OpenShut
import Derived.Test.YthmnhjcmefjgjaaGreatDoorRows
import Derived.Test.YthmnhjcmefjgjaaGreatDoorCards
import Derived.Test.YthmnhjcmefjgjaaGreatDoorTie
import Derived.ProofKit
import Derived.LaidMore
import Derived.Lay
import Derived.SevenTiedAt
import Derived.Stop.Joined
import Derived.Lib.LaidU8
import Derived.Test.YthmnhjcmefjgjaaGreatDoorXAH
import Derived.Test.YthmnhjcmefjgjaaGreatDoorXAD
import Derived.Test.YthmnhjcmefjgjaaGreatDoorXAK
import Derived.Test.YthmnhjcmefjgjaaGreatDoorXAG
import Derived.Test.YthmnhjcmefjgjaaGreatDoorXAE
import Derived.Test.YthmnhjcmefjgjaaGreatDoorXAF
set_option linter.all false
set_option linter.unusedSectionVars false
set_option autoImplicit true
set_option relaxedAutoImplicit true
namespace Go.Proofs
open Go Go.AM Go.RowKit
set_option maxRecDepth 100000
theorem HR.empty {w:World} (k:Tens w.heap.size w):HR w.heap.size (fun _=>none) ⟨.e,0,UNK⟩ w:=
 ⟨fun _ _ h=>by (cases h),fun _ _=>rfl,fun b o h=>by (cases h),fun b _ o _ _ _ h=>by (cases h),Nat.le_refl _,k⟩
theorem HR.keep {lo:Nat} {σ:Sg} {h:AH} {w w':World} (H:HR lo σ h w) (hb:Below w.heap.size w w'):HR lo σ h w':=by
 refine ⟨H.dom,H.fresh,fun b o e=>?_,H.inj,Nat.le_trans H.lo hb.size,H.kept.same (Nat.le_refl _) fun hk=>hb.block _ (Nat.lt_of_lt_of_le hk H.lo)⟩
 obtain ⟨l,a,c,d⟩:=H.live b o e
 refine ⟨l,a,c.mono (Sg.le_refl σ) (hb.block _ c.blk_lt) (fun m es v lm hm hs=>⟨hm,?_⟩),d⟩
 obtain ⟨lm',a',c',_⟩:=H.live m _ hm
 rw [hs] at a'
 cases a'
 exact hb.block _ c'.blk_lt
theorem ext0:ExtOK E0:=Tryz.extOK (sum:=fun _ _ _=>none) fun f args h outs e=>by cases e
theorem env0:EnvOK E0:=Tryz.envOK
theorem sane_calls (w:World) (k:Tens w.heap.size w):Calls Tryz.prog 13 #[] w (Ret (Goes w.heap.size (fun _=>none) w [(.bool true,⟨.e,0,UNK⟩)])):=
 calls_of_evalI env0 ext0 (by kernel_rfl) (HR.empty k) (args':=[]) .nil sane_ok
theorem saneSum {args:List Value} {h:AH} {outs:List (Value×AH)} (e:saneAt args h=some outs):(∀ lo σ w args',HR lo σ h w->VRs σ args args'->CallsIn Fence.wide 0 Tryz.prog 13 args'.toArray w (Ret (Goes lo σ w outs)))/\FrAll h outs:=by
 unfold saneAt at e
 split at e
 ·cases e
  refine ⟨fun lo σ w args' H ha=>?_,frOne (Fr.refl h)⟩
  cases ha
  refine callsIn_wide.2 ((sane_calls w (H.kept.same H.lo fun _=>rfl)).mono fun en w' hr=>?_)
  cases en with
  | returned v=>
   obtain ⟨x,hx,τ,_,_,hv,hb⟩:=hr
   simp only [List.mem_singleton] at hx
   subst hx
   cases hv
   exact ⟨(.bool true,h),by simp,σ,Sg.le_refl σ,HR.keep H hb,.bool true,hb.mono H.lo⟩
  | _=>exact hr
 ·cases e
end Go.Proofs
namespace Go.Proofs
open Go Go.RowKit Go.Lib
theorem run_copy_cells2 {P:Program} (w:World) (dT sT ty elem:TypeId) (z:Nat) (b o dLen dCap:Nat) (a:Addr) (sLen sCap:Nat) (cs:List Value)
  (hu:P.underlying dT=some (.slice elem)) (hs:(P.info? elem).map (·.size)=some z) (hn:cs.length=Nat.min sLen dLen*z)
  (hsrc:∀ j v,cs[j]?=some v->w.cell? (a.add j)=some v) (hc:∀ j,j<cs.length->(w.cell? ⟨b,o+j,none⟩).isSome=true) (hf:∀ j,j<cs.length->w.frozen? ⟨b,o+j,none⟩=false) (h1:∀ v∈cs,v.oneCell'=true) :
  (Builtin.copy_ #[dT,sT] ty #[.slice (some ⟨b,o,none⟩) dLen dCap,.slice (some a) sLen sCap]).run P w=.ok (goInt (Nat.min sLen dLen)) (w.setCells b o cs):=by
 have hl:=run_loadCells_list (P:=P) w a cs hsrc
 have hst:=run_storeCells_cells (P:=P) b o cs 0 w (by simpa using hc) (by simpa using hf) h1
 cases hq:P.info? elem with
 | none=>simp [hq] at hs
 | some i=>
  have hi:i.size=z:=by simpa [hq] using hs
  simp [Builtin.copy_,run_underlying hu,Builtin.lenOf,Builtin.firstCells,sizeOf,typeInfo,hq,hi,← hn,hl,hst]
theorem wp_copy_runI (w:World) {P:Program} {o:Oper} {a:Act} {K:Act->World->Prop} {Q:Exit->Act->World->Prop} (d s:Operand) (t t':TypeId)
  (ho:o.op=.call { callee:=.builtin .copy,args:=#[d,s],argTypes:=#[t,t'] }) (v u:Value) (hd:a.eval d=v) (hs:a.eval s=u) {v':Value} {w':World}
  (hr:(Builtin.copy_ #[t,t'] o.type #[v,u]).run P w=.ok v' w') (h:K (a.put o.dst v') w'):o.wp P a w K Q:=by
 unfold Oper.wp execOp
 simp only [ho,resolve,invoke,builtin,Sem.run_bind,Sem.run_pure,Result.andThen_ok,List.map_toArray,List.map_cons,List.map_nil,hd,hs,hr]
 exact h
theorem wpList_copy_runI (w:World) {P:Program} {ops:Array Oper} {rest:List Oper} {o:Oper} {a:Act} {Q:Exit->Act->World->Prop} (hgd:o.guard=none) (d s:Operand) (t t':TypeId)
  (ho:o.op=.call { callee:=.builtin .copy,args:=#[d,s],argTypes:=#[t,t'] }) (v u:Value) (hd:a.eval d=v) (hs:a.eval s=u) {v':Value} {w':World}
  (hr:(Builtin.copy_ #[t,t'] o.type #[v,u]).run P w=.ok v' w') (h:wpList P ops Q rest (a.put o.dst v') w'):wpList P ops Q (o::rest) a w:=
 wpList_plain hgd fun _ hK=>wp_copy_runI w d s t t' ho v u hd hs hr (hK _ _ h)
theorem step_copy_runI {P:Program} {ops:Array Oper} {o:Oper} {a:Act} {w:World} {K:Act->World->Prop} {Q:Exit->Act->World->Prop} {E:Prop}
  (hg:o.guard=none) (d x:Operand) (dT sT:TypeId) (hop:o.op=Op.call { callee:=Callee.builtin Builtin.copy,args:=#[d,x],argTypes:=#[dT,sT] })
  (v u:Value) (hd:a.eval d=v) (hx:a.eval x=u) {v':Value} {w':World} (hr:(Builtin.copy_ #[dT,sT] o.type #[v,u]).run P w=.ok v' w') (hK:K (a.put o.dst v') w') :
  if Region.wanted o (yielded ops a.tmps)=true then Oper.wp P o a w K Q else E:=by
 have hw:Region.wanted o (yielded ops a.tmps)=true:=by simp [Region.wanted,hg]
 rw [if_pos hw]
 unfold Oper.wp
 simp [execOp,hop,resolve,invoke,builtin,hd,hx,hr,Result.andThen]
 exact hK
theorem isSome_setCells (b:Nat) (vs:List Value) (o:Nat) (w:World) (h:∀ j,j<vs.length->(w.cell? ⟨b,o+j,none⟩).isSome=true) (k:Nat) (hk:(w.cell? ⟨b,k,none⟩).isSome=true):((w.setCells b o vs).cell? ⟨b,k,none⟩).isSome=true:=by
 by_cases hin:o<=k/\k<o+vs.length
 ·have:=World.cell?_setCells_in b vs o w h (k-o) (by omega)
  rw [show o+(k-o)=k by omega] at this
  rw [this];rfl
 ·rw [World.cell?_setCells_out b vs o w ⟨b,k,none⟩ (fun _ _=>by show k<o\/o+vs.length<=k;omega)]
  exact hk
theorem t22u:Tryz.prog.underlying 22=some (.slice 36):=by kernel_rfl
theorem i36a:(Tryz.prog.info? 36).map (fun i=>(i.zero,i.size,i.bytes))=some (some (.agg #[.int .i64 0,.slice none 0 0]),2,32):=by kernel_rfl
theorem t3u:Tryz.prog.underlying 3=some (.int .i64):=by kernel_rfl
theorem i36s:(Tryz.prog.info? 36).map (·.size)=some 2:=by kernel_rfl
theorem z36s:∀ w,(Go.sizeOf 36).run Tryz.prog w=.ok 2 w:=fun w=>by kernel_rfl
set_option maxHeartbeats 4000000 in
set_option maxRecDepth 100000 in
theorem ins_shift (b off n c i vb voff vc:Nat) (cs vs:List Value) (w:World) (hi:i<n) (hroom:n+1<=c) (hn5:n<=100000) (hvb:vb≠b)
  (hcl:cs.length=n*2) (hvl:vs.length=2)
  (hcs:∀ j v,cs[j]?=some v->w.cell? ⟨b,off+j,none⟩=some v) (hsp:∀ j,j<(n+1)*2->(w.cell? ⟨b,off+j,none⟩).isSome=true) (hfz:∀ j,j<(n+1)*2->w.frozen? ⟨b,off+j,none⟩=false)
  (hvs:∀ j v,vs[j]?=some v->w.cell? ⟨vb,voff+j,none⟩=some v) (h1c:∀ v∈cs,v.oneCell'=true) (h1v:∀ v∈vs,v.oneCell'=true)
  (tA tB:TypeId) (kA kB:Nat) (hsa:w.shape? vb=some (tA,kA)) (hsb:w.shape? b=some (tB,kB)) (hkB:kB≠0) (hfa:w.frozen? ⟨vb,voff,none⟩=false) (hfe:w.frozen? ⟨vb,kA,none⟩=false) :
  Calls Tryz.prog 191 #[.slice (some ⟨b,off,none⟩) n c,.int .i64 i,.slice (some ⟨vb,voff,none⟩) 1 vc] w fun e w'=>
   e=.returned (.slice (some ⟨b,off,none⟩) (n+1) c)/\w'=(w.drew.setCells b (off+(i+1)*2) (cs.drop (i*2))).setCells b (off+i*2) vs:=by
 have mixed:=Tryz.mixed
 have hz2:¬ ((i:Int)=(n:Int)):=by omega
 have hov:∀ lb cb,(callFunc 233 #[.slice (some ⟨vb,voff,none⟩) 1 vc,.slice (some ⟨b,off+(i+1)*2,none⟩) lb cb]).run Tryz.prog w=.ok (.value (.bool false)) w:=fun lb cb=>by
  rw [run_callFunc_extern Tryz.func233 (by kernel_rfl) (by kernel_rfl) (by kernel_rfl) (e:=Extern.SlicesOverlaps.overlaps #[22,22] #[4]) (by kernel_rfl),
   Lib.run_overlaps_apart w 22 4 36 t22u 2 z36s ⟨vb,voff,none⟩ ⟨b,off+(i+1)*2,none⟩ 1 vc lb cb hvb tA tB kA kB hsa hsb hkB hfa hfe]
  rfl
 have hdl:(cs.drop (i*2)).length=(n-i)*2:=by rw [List.length_drop,hcl];omega
 have hw1:IntKind.i64.wrap ((i:Int)+1)=(i:Int)+1:=by rw [IntKind.wrap_i64];omega
 have hb1:(0:Int)<=(i:Int)+1:=by omega
 have hin:i<=n:=by omega
 have htn:((i:Int)+1).toNat=i+1:=by omega
 have hb2:¬ (c=i+1):=by omega
 have hb3:(i:Int)<=(n:Int)+1:=by omega
 have hb4:¬ (c=i):=by omega
 have hcp1:∀ ty dc sc,(Builtin.copy_ #[22,22] ty #[.slice (some ⟨b,off+(i+1)*2,none⟩) (n-i) dc,.slice (some ⟨b,off+i*2,none⟩) (n+1-i) sc]).run Tryz.prog w.drew=.ok (goInt (Nat.min (n+1-i) (n-i))) (w.drew.setCells b (off+(i+1)*2) (cs.drop (i*2))):=fun ty dc sc=>
  run_copy_cells2 w.drew _ _ ty 36 2 b (off+(i+1)*2) (n-i) dc ⟨b,off+i*2,none⟩ (n+1-i) sc (cs.drop (i*2)) t22u i36s (by rw [hdl];simp only [Nat.min_def];split <;> omega)
   (fun j v hj=>by rw [Addr.add_lit,Nat.add_assoc];exact hcs (i*2+j) v (by rwa [List.getElem?_drop] at hj))
   (fun j hj=>by rw [Nat.add_assoc];exact hsp _ (by omega)) (fun j hj=>by rw [Nat.add_assoc];exact hfz _ (by omega)) (fun v hv=>h1c v (List.mem_of_mem_drop hv))
 obtain ⟨W1,hW1⟩:∃ W1,W1=w.drew.setCells b (off+(i+1)*2) (cs.drop (i*2)):=⟨_,rfl⟩
 have hsp1:∀ k,k<(n+1)*2->(W1.cell? ⟨b,off+k,none⟩).isSome=true:=fun k hk=>by
  rw [hW1]
  exact isSome_setCells b _ _ _ (fun j hj=>by rw [Nat.add_assoc];exact hsp _ (by omega)) _ (hsp k hk)
 have hcp2:∀ (W:World),(∀ x,W.cell? x=W1.cell? x)->(∀ x,W.frozen? x=W1.frozen? x)->∀ ty dc,(Builtin.copy_ #[22,22] ty #[.slice (some ⟨b,off+i*2,none⟩) (n+1-i) dc,.slice (some ⟨vb,voff,none⟩) 1 vc]).run Tryz.prog W=.ok (goInt (Nat.min 1 (n+1-i))) (W.setCells b (off+i*2) vs):=fun W hWc hWf ty dc=>
  run_copy_cells2 W _ _ ty 36 2 b (off+i*2) (n+1-i) dc ⟨vb,voff,none⟩ 1 vc vs t22u i36s (by rw [hvl];simp only [Nat.min_def];split <;> omega)
   (fun j v hj=>by
    rw [Addr.add_lit,hWc,hW1,World.cell?_setCells_out b _ _ _ _ (fun h _=>absurd h hvb)]
    exact hvs j v hj)
   (fun j hj=>by rw [hWc,Nat.add_assoc];exact hsp1 _ (by omega)) (fun j hj=>by rw [hWf,hW1,World.frozen?_setCells,Nat.add_assoc];exact hfz _ (by omega)) h1v
 rw [← hW1] at hcp1
 go_enter Tryz.func191,Tryz.ntmps191
 go_wp2_with (simp only [hov])
 go_region_law_o (refine step_copy_runI rfl _ _ 22 22 rfl _ _ (by simp [Act.eval,Act.put]) (by simp [Act.eval,Act.put]) (hcp1 _ _ _) ?_)
 go_wp2_with (at_builtin;refine wpList_copy_runI _ rfl _ _ 22 22 rfl _ _ rfl rfl (hcp2 _ (fun _=>rfl) (fun _=>rfl) _ _) ?_)
 go_ret
 first|exact ⟨rfl,rfl⟩|exact ⟨rfl,by rw [hW1]⟩
set_option maxHeartbeats 4000000 in
set_option maxRecDepth 100000 in
theorem ins_end (b off n c vb voff vc:Nat) (w:World) {v':Value} {w':World} (hnc:n<=c) (hn5:n<=100000)
  (hr:(Builtin.append_ #[22,22] 22 #[.slice (some ⟨b,off,none⟩) n c,.slice (some ⟨vb,voff,none⟩) 1 vc]).run Tryz.prog w=.ok v' w') :
  Calls Tryz.prog 191 #[.slice (some ⟨b,off,none⟩) n c,.int .i64 n,.slice (some ⟨vb,voff,none⟩) 1 vc] w fun e w''=>e=.returned v'/\w''=w':=by
 have mixed:=Tryz.mixed
 go_enter Tryz.func191,Tryz.ntmps191
 go_wp2_with (at_builtin;refine Lib.wpList_append_run _ rfl _ _ _ _ rfl _ _ rfl rfl _ _ hr ?_)
 all_goals (go_ret;exact ⟨rfl,rfl⟩)
set_option maxHeartbeats 4000000 in
set_option maxRecDepth 100000 in
theorem ins_grow (b off n c i vb voff vc:Nat) (cs vs:List Value) (w:World) (hi:i<n) (hnc:n<=c) (hroom:c<n+1) (hbig:(n+1)*64<=140737488355328)
  (hcl:cs.length=n*2) (hvl:vs.length=2)
  (hcs:∀ j v,cs[j]?=some v->w.cell? ⟨b,off+j,none⟩=some v)
  (hvs:∀ j v,vs[j]?=some v->w.cell? ⟨vb,voff+j,none⟩=some v) (h1c:∀ v∈cs,v.oneCell'=true) (h1v:∀ v∈vs,v.oneCell'=true) :
  ∃ (G:Nat) (zs:List Value),n+1<=G/\zs.length=(G-i)*2 ∧
  Calls Tryz.prog 191 #[.slice (some ⟨b,off,none⟩) n c,.int .i64 i,.slice (some ⟨vb,voff,none⟩) 1 vc] w fun e w'=>
   e=.returned (.slice (some ⟨w.heap.size,0,none⟩) (n+1) G) ∧
   w'=(((w.alloc (.cells (cs.take (i*2)++zs).toArray 36)).drew.setCells w.heap.size (i*2) vs).drew).setCells w.heap.size ((i+1)*2) (cs.drop (i*2)):=by
 have mixed:=Tryz.mixed
 obtain ⟨i0,hi0,hz0,hzs,hzb⟩:=info_parts i36a
 have hz2:¬ ((i:Int)=(n:Int)):=by omega
 have hz3:(c:Int)<(n:Int)+1:=by omega
 have hbw:b<w.heap.size:=block_lt_of_cell (hcs 0 _ (List.getElem?_eq_getElem (by omega)))
 have hvw:vb<w.heap.size:=block_lt_of_cell (hvs 0 _ (List.getElem?_eq_getElem (by omega)))
 have hkk:(n:Int)+1-(i:Int)=((n+1-i:Nat):Int):=by omega
 have hik:i+(n+1-i)=n+1:=by omega
 have hold:(Builtin.firstCells i0.size i (.slice (some ⟨b,off,none⟩) i c)).run Tryz.prog w.drew=.ok (cs.take (i*2)).toArray w.drew:=by
  rw [hzs]
  exact run_firstCells_some w.drew 2 i ⟨b,off,none⟩ i c (cs.take (i*2)) (by rw [List.length_take];omega) (fun j v hj=>by
   rw [Addr.add_lit]
   rw [List.getElem?_take] at hj
   split at hj
   ·exact hcs j v hj
   ·cases hj)
 obtain ⟨G,hG⟩:∃ G,G=grownCap w (n+1) c 36:=⟨_,rfl⟩
 obtain ⟨zs,hzs'⟩:∃ zs:List Value,zs.toArray=Builtin.zeroCells (Value.agg #[.int .i64 0,.slice none 0 0]).cells (n+1-i)++Builtin.zeroCells (Value.agg #[.int .i64 0,.slice none 0 0]).cells (G-(n+1)):=⟨(Builtin.zeroCells (Value.agg #[.int .i64 0,.slice none 0 0]).cells (n+1-i)++Builtin.zeroCells (Value.agg #[.int .i64 0,.slice none 0 0]).cells (G-(n+1))).toList,by simp⟩
 have hGn:n+1<=G:=by rw [hG];exact grownCap_ge w _ _ _
 have hzl:zs.length=(G-i)*2:=by
  have:=congrArg Array.size hzs'
  simp [Builtin.zeroCells,Value.cells] at this
  omega
 have hrz:∀ ty,(Builtin.append_ #[22,3] ty #[.slice (some ⟨b,off,none⟩) i c,.int .i64 ((n:Int)+1-(i:Int))]).run Tryz.prog w =
   .ok (.slice (some ⟨w.heap.size,0,none⟩) (n+1) G) (w.drew.alloc (.cells (cs.take (i*2)++zs).toArray 36)):=fun ty=>by
  have h:=Lib.run_append_grow_zeros w 22 3 ty 36 i0 _ .i64 .i64 t22u t3u hi0 hz0 (some ⟨b,off,none⟩) i c (cs.take (i*2)) hold (n+1-i) (by omega) (by omega) (by omega) (by omega) (by rw [hzb];omega) (by rw [hzb,hik];exact growslice_fits hroom (by omega))
  rw [hik,← hG] at h
  rw [hkk,h,Array.append_assoc,← hzs']
  simp
 obtain ⟨ROW,hROW⟩:∃ ROW:Array Value,ROW=(cs.take (i*2)++zs).toArray:=⟨_,rfl⟩
 refine ⟨G,zs,hGn,hzl,?_⟩
 rw [← hROW] at hrz ⊢
 have hRl:(n+1)*2<=ROW.size:=by
  rw [hROW]
  simp
  omega
 obtain ⟨W1,hW1⟩:∃ W1,W1=w.drew.alloc (.cells ROW 36):=⟨_,rfl⟩
 rw [← hW1] at hrz
 have hN:∀ j,j<(n+1)*2->(W1.cell? ⟨w.heap.size,j,none⟩).isSome=true:=fun j hj=>by
  rw [hW1,World.cell?_alloc_at (w:=w.drew) ROW _ w.heap.size j rfl,Array.getElem?_eq_getElem (by omega)];rfl
 have hNf:∀ j,W1.frozen? ⟨w.heap.size,j,none⟩=false:=fun j=>by rw [hW1];exact World.frozen?_alloc_at (w:=w.drew) ROW _ w.heap.size j rfl
 have hOb:∀ j v,w.cell? ⟨b,j,none⟩=some v->W1.cell? ⟨b,j,none⟩=some v:=fun j v h=>by rw [hW1,World.cell?_alloc_past (w:=w.drew) _ b j hbw];exact h
 have hOv:∀ j v,w.cell? ⟨vb,j,none⟩=some v->W1.cell? ⟨vb,j,none⟩=some v:=fun j v h=>by rw [hW1,World.cell?_alloc_past (w:=w.drew) _ vb j hvw];exact h
 have hcpA:∀ (W:World),(∀ x,W.cell? x=W1.cell? x)->(∀ x,W.frozen? x=W1.frozen? x)->∀ ty dc,(Builtin.copy_ #[22,22] ty #[.slice (some ⟨w.heap.size,i*2,none⟩) (n+1-i) dc,.slice (some ⟨vb,voff,none⟩) 1 vc]).run Tryz.prog W=.ok (goInt (Nat.min 1 (n+1-i))) (W.setCells w.heap.size (i*2) vs):=fun W hWc hWf ty dc=>
  run_copy_cells2 W _ _ ty 36 2 w.heap.size (i*2) (n+1-i) dc ⟨vb,voff,none⟩ 1 vc vs t22u i36s (by rw [hvl];simp only [Nat.min_def];split <;> omega)
   (fun j v hj=>by rw [Addr.add_lit,hWc];exact hOv _ v (hvs j v hj))
   (fun j hj=>by rw [hWc];exact hN _ (by omega)) (fun j hj=>by rw [hWf];exact hNf _) h1v
 have hGi:¬ (G=i):=by omega
 have hGim:¬ (G=i+1):=by omega
 have hci:¬ (c=i):=by omega
 have hbN:b≠w.heap.size:=by omega
 have hdl:(cs.drop (i*2)).length=(n-i)*2:=by rw [List.length_drop,hcl];omega
 have hcpB:∀ (W:World),(∀ x,W.cell? x=(W1.setCells w.heap.size (i*2) vs).cell? x)->(∀ x,W.frozen? x=(W1.setCells w.heap.size (i*2) vs).frozen? x)->∀ ty dc sc,(Builtin.copy_ #[22,22] ty #[.slice (some ⟨w.heap.size,(i+1)*2,none⟩) (n-i) dc,.slice (some ⟨b,off+i*2,none⟩) (n-i) sc]).run Tryz.prog W=.ok (goInt (Nat.min (n-i) (n-i))) (W.setCells w.heap.size ((i+1)*2) (cs.drop (i*2))):=fun W hWc hWf ty dc sc=>
  run_copy_cells2 W _ _ ty 36 2 w.heap.size ((i+1)*2) (n-i) dc ⟨b,off+i*2,none⟩ (n-i) sc (cs.drop (i*2)) t22u i36s (by rw [hdl];simp only [Nat.min_def];split <;> omega)
   (fun j v hj=>by
    rw [Addr.add_lit,hWc,World.cell?_setCells_out _ _ _ _ _ (fun h _=>absurd h hbN),Nat.add_assoc]
    exact hOb _ v (hcs (i*2+j) v (by rwa [List.getElem?_drop] at hj)))
   (fun j hj=>by rw [hWc];exact isSome_setCells _ _ _ _ (fun t ht=>hN _ (by omega)) _ (hN _ (by omega)))
   (fun j hj=>by rw [hWf,World.frozen?_setCells];exact hNf _) (fun v hv=>h1c v (List.mem_of_mem_drop hv))
 subst hW1
 have hE1:∀ x,((w.alloc (.cells ROW 36)).drew).cell? x=(w.drew.alloc (.cells ROW 36)).cell? x:=fun x=>rfl
 have hE2:∀ x,((w.alloc (.cells ROW 36)).drew).frozen? x=(w.drew.alloc (.cells ROW 36)).frozen? x:=fun x=>rfl
 have hF1:∀ x,(((w.alloc (.cells ROW 36)).drew.setCells w.heap.size (i*2) vs).drew).cell? x=((w.drew.alloc (.cells ROW 36)).setCells w.heap.size (i*2) vs).cell? x:=fun x=>rfl
 have hF2:∀ x,(((w.alloc (.cells ROW 36)).drew.setCells w.heap.size (i*2) vs).drew).frozen? x=((w.drew.alloc (.cells ROW 36)).setCells w.heap.size (i*2) vs).frozen? x:=fun x=>rfl
 have hw1:IntKind.i64.wrap ((i:Int)+1)=(i:Int)+1:=by rw [IntKind.wrap_i64];omega
 have hb1:(0:Int)<=(i:Int)+1:=by omega
 have hin:i<=n:=by omega
 have htn:((i:Int)+1).toNat=i+1:=by omega
 have hb3:(i:Int)<=(n:Int):=by omega
 clear hkk hik hold hROW hG hRl hzs' hzl
 go_enter Tryz.func191,Tryz.ntmps191
 go_wp2_with (first
  | (at_builtin;refine Lib.wpList_append_run _ rfl _ _ _ _ rfl _ _ rfl rfl _ _ (hrz _) ?_)
  | (at_builtin;refine wpList_copy_runI _ rfl _ _ 22 22 rfl _ _ rfl rfl (hcpA _ hE1 hE2 _ _) ?_)
  | (at_builtin;refine wpList_copy_runI _ rfl _ _ 22 22 rfl _ _ rfl rfl (hcpB _ (fun _=>rfl) (fun _=>rfl) _ _ _) ?_))
 go_region_law_o (refine step_copy_runI rfl _ _ 22 22 rfl (.slice (some ⟨w.heap.size,(i+1)*2,none⟩) (n-i) (G-(i+1))) (.slice (some ⟨b,off+i*2,none⟩) (n-i) (c-i)) (by simp [Act.eval,Act.put]) (by simp [Act.eval,Act.put]) (hcpB _ hF1 hF2 3 (G-(i+1)) (c-i)) ?_)
 go_wp2
 go_ret
 exact ⟨rfl,rfl⟩
end Go.Proofs
namespace Go.Proofs
open Go Go.AM Go.RowKit
set_option maxRecDepth 100000
set_option maxHeartbeats 1000000
theorem cell_heap {w:World} {b:Nat} {cc:Array Value} {t:TypeId} {fr:Nat×Nat} (h:w.heap[b]?=some (.cells cc t fr)) (k:Nat):w.cell? ⟨b,k,none⟩=cc[k]?:=by
 unfold World.cell?
 simp only [h]
 rfl
theorem frozen_heap {w:World} {b:Nat} {cc:Array Value} {t:TypeId} (h:w.heap[b]?=some (.cells cc t (0,0))) (k:Nat):w.frozen? ⟨b,k,none⟩=false:=by
 unfold World.frozen?
 simp only [h]
 simp
theorem shape_heap {w:World} {b:Nat} {cc:Array Value} {t:TypeId} {fr:Nat×Nat} (h:w.heap[b]?=some (.cells cc t fr)):w.shape? b=some (t,cc.size):=by
 unfold World.shape?
 simp only [h]
theorem setCells_put {w:World} {b o:Nat} {cc:Array Value} {t:TypeId} {us:List Value} (h:w.heap[b]?=some (.cells cc t (0,0))) (hl:o+us.length<=cc.size) (h1:∀ v∈us,v.oneCell'=true) :
  w.setCells b o us=World.put w b (.cells (cc.toList.take o++us++cc.toList.drop (o+us.length)).toArray t (0,0)):=by
 have e1:=run_storeCells_cells (P:=Tryz.prog) b o us 0 w (fun j hj=>by
  rw [cell_heap h,Array.getElem?_eq_getElem (by omega)];rfl) (fun j hj=>frozen_heap h _) h1
 have e2:=run_storeCells_at (P:=Tryz.prog) b o t us 0 cc w h (by omega) h1
 rw [e1] at e2
 simp only [Nat.add_zero] at e2
 have e3:=(Result.ok.inj e2).2
 rw [e3,setRow_put h]
theorem row_split {σ:Sg} {vs:List Value} {ty es:Nat} {ro:Bool} {l:AM.Loc} {cs:Array Value} {el:TypeId} {frz:Nat×Nat} (r:RowR σ vs ty es ro l cs el frz) :
  ∃ A rvs J:List Value,cs=(A++rvs++J).toArray/\A.length=l.base/\VRs σ vs rvs/\rvs.length=vs.length:=by
 refine ⟨cs.toList.take l.base,(cs.toList.drop l.base).take vs.length,(cs.toList.drop l.base).drop vs.length,?_,?_,?_,?_⟩
 ·rw [List.append_assoc,List.take_append_drop,List.take_append_drop]
 ·have:=r.size;simp;omega
 ·refine VRs.of_get (by have:=r.size;simp;omega) fun k a b ha hb=>?_
  obtain ⟨v',h1,h2⟩:=r.cell k a ha
  have hlt:=(List.getElem?_eq_some_iff.1 ha).1
  rw [List.getElem?_take_of_lt hlt,List.getElem?_drop,Array.getElem?_toList,h1] at hb
  cases hb
  exact h2
 ·have:=r.size;simp;omega
theorem leaf_all {σ:Sg} {vs rvs:List Value} (h:VRs σ vs rvs) (hl:vs.all isLeaf=true):∀ v∈rvs,v.oneCell'=true:=by
 intro v hv
 obtain ⟨k,hk⟩:=List.mem_iff_getElem?.1 hv
 have hlt:k<vs.length:=by
  have:=h.length
  have:=(List.getElem?_eq_some_iff.1 hk).1
  omega
 obtain ⟨b,hb1,hb2⟩:=h.get (List.getElem?_eq_getElem hlt)
 rw [hk] at hb1;cases hb1
 apply leaf_one
 rw [hb2.leaf]
 exact List.all_eq_true.1 hl _ (List.getElem_mem hlt)
theorem VRs.take {σ:Sg}:∀ {v v':List Value} (n:Nat),VRs σ v v'->VRs σ (v.take n) (v'.take n)
 | _,_,0,_=>by simp;exact .nil
 | _,_,n+1,.nil=>by simp;exact .nil
 | _,_,n+1,.cons h hs=>by simp only [List.take_succ_cons];exact .cons h (VRs.take n hs)
theorem VRs.drop {σ:Sg}:∀ {v v':List Value} (n:Nat),VRs σ v v'->VRs σ (v.drop n) (v'.drop n)
 | _,_,0,h=>by simpa using h
 | _,_,n+1,.nil=>by simp;exact .nil
 | _,_,n+1,.cons h hs=>by simp only [List.drop_succ_cons];exact VRs.drop n hs
theorem ins_list {α:Type} (A R1 R2 J U:List α) (h2:2<=R2.length) (hu:U.length=2) :
  ((((A++(R1++R2)++J).take (A.length+R1.length+2)++R2++(A++(R1++R2)++J).drop (A.length+R1.length+2+R2.length)).take (A.length+R1.length))++U ++
   (((A++(R1++R2)++J).take (A.length+R1.length+2)++R2++(A++(R1++R2)++J).drop (A.length+R1.length+2+R2.length)).drop (A.length+R1.length+U.length)))
  = A++(R1++U++R2)++J.drop 2:=by
 have e1:(A++(R1++R2)++J).take (A.length+R1.length+2)=(A++R1)++R2.take 2:=by
  rw [show A++(R1++R2)++J=(A++R1)++(R2++J) by simp,show A.length+R1.length+2=(A++R1).length+2 by simp,List.take_length_add_append,List.take_append_of_le_length h2]
 have e2:(A++(R1++R2)++J).drop (A.length+R1.length+2+R2.length)=J.drop 2:=by
  rw [show A.length+R1.length+2+R2.length=(A++(R1++R2)).length+2 by simp;omega,List.drop_length_add_append]
 rw [e1,e2]
 have e3:((A++R1)++R2.take 2++R2++J.drop 2).take (A.length+R1.length)=A++R1:=by
  rw [show (A++R1)++R2.take 2++R2++J.drop 2=(A++R1)++(R2.take 2++R2++J.drop 2) by simp,show A.length+R1.length=(A++R1).length by simp,List.take_left]
 have e4:((A++R1)++R2.take 2++R2++J.drop 2).drop (A.length+R1.length+U.length)=R2++J.drop 2:=by
  rw [show (A++R1)++R2.take 2++R2++J.drop 2=((A++R1)++R2.take 2)++(R2++J.drop 2) by simp,show A.length+R1.length+U.length=((A++R1)++R2.take 2).length by simp;omega,List.drop_left]
 rw [e3,e4]
 simp
theorem ins_list2 {α:Type} (R1 R2 Z U:List α) (hu:U.length=2) :
  (R1++Z).take R1.length++U++(R1++Z).drop (R1.length+U.length)=R1++U++Z.drop 2 ∧
  ((R1++Z).take R1.length++U++(R1++Z).drop (R1.length+U.length)).take (R1.length+2)++R2++((R1++Z).take R1.length++U++(R1++Z).drop (R1.length+U.length)).drop (R1.length+2+R2.length)=R1++U++R2++(Z.drop 2).drop R2.length:=by
 have e1:(R1++Z).take R1.length++U++(R1++Z).drop (R1.length+U.length)=R1++U++Z.drop 2:=by
  rw [List.take_left,hu,List.drop_length_add_append]
 refine ⟨e1,?_⟩
 rw [e1]
 rw [show R1.length+2=(R1++U).length by simp;omega,List.take_left,List.drop_length_add_append]
theorem put_put (w:World) (k:Nat) (o o':Obj):AM.World.put (AM.World.put w k o) k o'=AM.World.put w k o':=by
 unfold AM.World.put
 simp
theorem put_alloc (w:World) (o o':Obj):AM.World.put (w.alloc o) w.heap.size o'=w.alloc o':=by
 have e:(w.heap.push o).setIfInBounds w.heap.size o'=w.heap.push o':=by
  apply Array.ext'
  simp [List.set_append]
 show ({ w with heap:=(w.heap.push o).setIfInBounds w.heap.size o' }:World)=_
 rw [e]
 rfl
theorem elt22:Elt 22 36 2:=elt_of elt_22 und_22 ta_36 (by kernel_rfl)
theorem sl_known {σ:Sg} {c o n cap:Nat} {v:Value} (h:VR σ (.slice (some ⟨c,o,none⟩) n cap) v) (hcap:cap<UNK):∃ m:AM.Loc,σ c=some m/\v=.slice (some ⟨m.blk,m.base+o,none⟩) n cap:=by
 cases h with
 | slice _ _ _ h1 h2=>exact ⟨_,h1,rfl⟩
 | sliceU _ _ _ h1 h2 h3=>exact absurd hcap (by show ¬ UNK+_<UNK;omega)
theorem sl_unk {σ:Sg} {c o n cap:Nat} {v:Value} (h:VR σ (.slice (some ⟨c,o,none⟩) n cap) v) (hcap:cap=UNK+2):∃ (l:AM.Loc) (cr:Nat),σ c=some l/\v=.slice (some ⟨l.blk,l.base+o,none⟩) n cr/\o+cr*2=l.tot/\n<=cr:=by
 cases h with
 | slice _ _ _ h1 h2=>omega
 | sliceU _ _ cr h1 h2 h3=>
  rename_i l
  have:l.es=2:=by have:UNK+l.es=UNK+2:=hcap;omega
  exact ⟨l,cr,h1,rfl,by rw [this] at h2;exact h2,h3⟩
theorem ins_ok {lo:Nat} {σ:Sg} {h:AH} {w:World} {b c i n:Nat} {vs us:List Value} {args':List Value} (H:HR lo σ h w)
  (ha:VRs σ [.slice (some ⟨b,0,none⟩) n (UNK+2),.int .i64 (i:Int),.slice (some ⟨c,0,none⟩) 1 1] args')
  (hb:h.get b=some (.row vs 36 2 false)) (hc:h.get c=some (.row us 36 0 false)) (hin:i<=n) (hvl:vs.length=n*2) (hul:us.length=2) (hbc:b≠c) (hvf:vs.all isLeaf=true) (huf:us.all isLeaf=true) (hn:n<=100000) :
  CallsIn Fence.wide 0 Tryz.prog 191 args'.toArray w (Ret (Goes lo σ w [(.slice (some ⟨h.next,0,none⟩) (n+1) (UNK+2),(h.upd b none).new (.row (vs.take (i*2)++us++vs.drop (i*2)) 36 2 false))])):=by
 obtain ⟨l,lb,⟨cc,el,frz,r1,r2⟩,lro⟩:=H.live b _ hb
 obtain ⟨m,mb,⟨mc,mel,mfrz,q1,q2⟩,mro⟩:=H.live c _ hc
 have hf:=r2.free rfl
 have hf2:=q2.free rfl
 subst hf hf2
 have he:=r2.elt
 have he2:=q2.elt
 subst he he2
 obtain ⟨g1,g2⟩:=r2.grown (by decide)
 have hblk:m.blk≠l.blk:=fun e=>by
  have:=H.inj b c _ _ l m hb hc lb mb e.symm hbc
  exact absurd this.1 (by simp [isRO])
 obtain ⟨a1',as1,rfl,a1,ha⟩:∃ x xs,args'=x::xs/\VR σ (.slice (some ⟨b,0,none⟩) n (UNK+2)) x/\VRs σ [.int .i64 (i:Int),.slice (some ⟨c,0,none⟩) 1 1] xs:=by cases ha with|cons x xs=>exact ⟨_,_,rfl,x,xs⟩
 obtain ⟨a2',as2,rfl,a2,ha⟩:∃ x xs,as1=x::xs/\VR σ (.int .i64 (i:Int)) x/\VRs σ [.slice (some ⟨c,0,none⟩) 1 1] xs:=by cases ha with|cons x xs=>exact ⟨_,_,rfl,x,xs⟩
 obtain ⟨a3',as3,rfl,a3,ha⟩:∃ x xs,as2=x::xs/\VR σ (.slice (some ⟨c,0,none⟩) 1 1) x/\VRs σ [] xs:=by cases ha with|cons x xs=>exact ⟨_,_,rfl,x,xs⟩
 cases ha
 have ra1:=a1
 have ra3:=a3
 cases a2
 obtain ⟨m',h1,rfl⟩:=sl_known a3 (by decide)
 rw [mb] at h1
 cases h1
 obtain ⟨l',cr,h1,rfl,hcr,hncr⟩:=sl_unk a1 rfl
 rw [lb] at h1
 cases h1
 obtain ⟨A,rvs,J,hcc,hA,hvr,hrl⟩:=row_split r2
 obtain ⟨A2,rus,J2,hmc,hA2,hur,hrul⟩:=row_split q2
 have h1v:=leaf_all hvr hvf
 have h1u:=leaf_all hur huf
 have hJ:cc.size=l.base+rvs.length+J.length:=by rw [hcc];simp;omega
 have hcs:∀ j v,rvs[j]?=some v->w.cell? ⟨l.blk,l.base+0+j,none⟩=some v:=fun j v hj=>by
  rw [cell_heap r1,hcc]
  have:=(List.getElem?_eq_some_iff.1 hj).1
  rw [List.getElem?_toArray,List.append_assoc,List.getElem?_append_right (by omega),List.getElem?_append_left (by omega),show l.base+0+j-A.length=j by omega]
  exact hj
 have hvs':∀ j v,rus[j]?=some v->w.cell? ⟨m.blk,m.base+0+j,none⟩=some v:=fun j v hj=>by
  rw [cell_heap q1,hmc]
  have:=(List.getElem?_eq_some_iff.1 hj).1
  rw [List.getElem?_toArray,List.append_assoc,List.getElem?_append_right (by omega),List.getElem?_append_left (by omega),show m.base+0+j-A2.length=j by omega]
  exact hj
 have hpos:l.base+rvs.length<=cc.size:=by omega
 have hv2:VRs σ (vs.take (i*2)++us++vs.drop (i*2)) (rvs.take (i*2)++rus++rvs.drop (i*2)):=((VRs.take _ hvr).append hur).append (VRs.drop _ hvr)
 by_cases hi:i=n
 ·subst hi
  have hap:=append_unk (t:=22) (e:=36) (z:=2) elt22 (by decide) hb hvl (by omega) hc hul huf
  have hv:appendV E [22,22] (.slice (some ⟨b,0,none⟩) i (UNK+2)) (.slice (some ⟨c,0,none⟩) 1 1) h=some (.slice (some ⟨h.next,0,none⟩) (i+1) (UNK+2),(h.upd b none).new (.row (vs++us) 36 2 false)):=by
   have hap':v2 (appendV E [22,22] (.slice (some ⟨b,0,none⟩) i (UNK+2)) (.slice (some ⟨c,0,none⟩) 1 1) h)=one (.slice (some ⟨h.next,0,none⟩) (i+1) (UNK+2),(h.upd b none).new (.row (vs++us) 36 2 false)):=hap
   cases hx:appendV E [22,22] (.slice (some ⟨b,0,none⟩) i (UNK+2)) (.slice (some ⟨c,0,none⟩) 1 1) h with
   | none=>rw [hx] at hap';cases hap'
   | some x=>rw [hx] at hap';cases hap';rfl
  obtain ⟨v',w',τ,y1,y2,y3,y4,y5⟩:=appendV_ok (E:=E) Tryz.envOK H (ts:=#[22,22]) (ty:=22) ra1 ra3 hv
  have hrun:=ins_end l.blk (l.base+0) i cr m.blk (m.base+0) 1 w hncr hn y1
  refine callsIn_wide.2 (hrun.mono fun en w'' hr=>?_)
  obtain ⟨rfl,rfl⟩:=hr
  refine ⟨_,List.mem_singleton.2 rfl,τ,y2,?_,y4,y5⟩
  rw [List.take_of_length_le (by omega),List.drop_eq_nil_of_le (by omega),List.append_nil]
  exact y3
 ·by_cases hroom:n+1<=cr
  ·have hrun:=ins_shift l.blk (l.base+0) n cr i m.blk (m.base+0) 1 rvs rus w (by omega) hroom hn hblk (by omega) (by omega) hcs (fun j hj=>by
    rw [cell_heap r1,Array.getElem?_eq_getElem (by omega)];rfl) (fun j hj=>frozen_heap r1 _) hvs' h1v h1u 36 36 mc.size cc.size (shape_heap q1) (shape_heap r1) (by omega) (frozen_heap q1 _) (frozen_heap q1 _)
   refine callsIn_wide.2 (hrun.mono fun en w' hr=>?_)
   obtain ⟨rfl,rfl⟩:=hr
   have hD:(rvs.drop (i*2)).length=(n-i)*2:=by rw [List.length_drop];omega
   have hR1:(rvs.take (i*2)).length=i*2:=by rw [List.length_take];omega
   have hrd:w.drew.heap[l.blk]?=some (.cells cc 36 (0,0)):=r1
   have e1:=setCells_put (o:=l.base+0+(i+1)*2) (us:=rvs.drop (i*2)) hrd (by omega) (fun v hv=>h1v v (List.mem_of_mem_drop hv))
   have hlt:l.blk<w.drew.heap.size:=lt_of_get hrd
   have hput:(World.put w.drew l.blk (.cells (cc.toList.take (l.base+0+(i+1)*2)++rvs.drop (i*2)++cc.toList.drop (l.base+0+(i+1)*2+(rvs.drop (i*2)).length)).toArray 36 (0,0))).heap[l.blk]?=some (.cells (cc.toList.take (l.base+0+(i+1)*2)++rvs.drop (i*2)++cc.toList.drop (l.base+0+(i+1)*2+(rvs.drop (i*2)).length)).toArray 36 (0,0)):=by
    rw [World.put_get hlt,if_pos rfl]
   have e2:=setCells_put (o:=l.base+0+i*2) (us:=rus) hput (by simp;omega) h1u
   have hlist:=ins_list A (rvs.take (i*2)) (rvs.drop (i*2)) J rus (by omega) (by omega)
   rw [List.take_append_drop] at hlist
   have hccl:cc.toList=A++rvs++J:=by rw [hcc]
   rw [e1,e2,put_put]
   simp only [List.toList_toArray,hccl]
   rw [show l.base+0+(i+1)*2=A.length+(rvs.take (i*2)).length+2 by omega,show l.base+0+i*2=A.length+(rvs.take (i*2)).length by omega,hlist]
   have hsz2:(A++(rvs.take (i*2)++rus++rvs.drop (i*2))++J.drop 2).toArray.size=cc.size:=by simp;omega
   have hrow:RowR σ (vs.take (i*2)++us++vs.drop (i*2)) 36 2 false l (A++(rvs.take (i*2)++rus++rvs.drop (i*2))++J.drop 2).toArray 36 (0,0):=by
    refine ⟨by rw [hsz2];simp;omega,fun k v hk=>?_,fun _=>rfl,rfl,fun e=>absurd e (by decide),fun _=>⟨g1,by rw [hsz2];exact g2⟩⟩
    obtain ⟨u,u1,u2⟩:=hv2.get hk
    refine ⟨u,?_,u2⟩
    have:=(List.getElem?_eq_some_iff.1 u1).1
    rw [List.getElem?_toArray,List.append_assoc,List.getElem?_append_right (by omega),List.getElem?_append_left (by omega),show l.base+k-A.length=k by omega]
    exact u1
   obtain ⟨k1,k2⟩:=(H.heap (w':=w.drew) rfl).updRow hb lb hrow
   obtain ⟨k3,k4⟩:=HR.rename k1 (b:=b) (vs:=vs.take (i*2)++us++vs.drop (i*2)) (vs':=vs.take (i*2)++us++vs.drop (i*2)) (ty:=36) (es:=2) (o:=0) (l:=l) (by rw [AH.get_upd,if_pos rfl]) lb (by decide) (Nat.zero_le _) (fun k u hk=>by rw [Nat.zero_add];exact hk) (by omega)
   refine ⟨_,List.mem_singleton.2 rfl,_,k4,k3.same rfl (fun k=>get_new_kill ..),?_,?_⟩
   ·have:=VR.sliceU (σ:=σ.ext h.next ⟨l.blk,l.base+0,l.tot-0,2⟩) (b:=h.next) (l:=⟨l.blk,l.base+0,l.tot-0,2⟩) 0 (n+1) cr (Sg.ext_self ..) (by simp only;omega) hroom
    exact this
   ·exact (Below.drew (Below.refl lo w)).trans k2
  ·have hce:cr=n:=by omega
   subst hce
   obtain ⟨G,zs,hG1,hzl,hrun⟩:=ins_grow l.blk (l.base+0) cr cr i m.blk (m.base+0) 1 rvs rus w (by omega) (Nat.le_refl _) (by omega) (by omega) (by omega) (by omega) hcs hvs' h1v h1u
   refine callsIn_wide.2 (hrun.mono fun en w' hr=>?_)
   obtain ⟨rfl,rfl⟩:=hr
   have hD:(rvs.drop (i*2)).length=(cr-i)*2:=by rw [List.length_drop];omega
   have hR1:(rvs.take (i*2)).length=i*2:=by rw [List.length_take];omega
   generalize hR1e:rvs.take (i*2)=R1 at hR1 hv2
   generalize hR2e:rvs.drop (i*2)=R2 at hD hv2
   have h1R2:∀ v∈R2,v.oneCell'=true:=fun v hv=>h1v v (by rw [← hR2e] at hv;exact List.mem_of_mem_drop hv)
   have hra:((w.alloc (.cells (R1++zs).toArray 36)).drew).heap[w.heap.size]?=some (.cells (R1++zs).toArray 36 (0,0)):=by
    show (w.alloc _).heap[w.heap.size]?=_
    rw [heap_alloc,if_pos rfl]
   have e1:=setCells_put (o:=i*2) (us:=rus) hra (by simp;omega) h1u
   have hput:((World.put ((w.alloc (.cells (R1++zs).toArray 36)).drew) w.heap.size (.cells ((R1++zs).toArray.toList.take (i*2)++rus++(R1++zs).toArray.toList.drop (i*2+rus.length)).toArray 36 (0,0))).drew).heap[w.heap.size]?=some (.cells ((R1++zs).toArray.toList.take (i*2)++rus++(R1++zs).toArray.toList.drop (i*2+rus.length)).toArray 36 (0,0)):=by
    show (World.put _ w.heap.size _).heap[w.heap.size]?=_
    rw [World.put_get (lt_of_get hra),if_pos rfl]
   have e2:=setCells_put (o:=(i+1)*2) (us:=R2) hput (by simp;omega) h1R2
   have hlist:=(ins_list2 R1 R2 zs rus (by omega)).2
   have hfin:(((w.alloc (.cells (R1++zs).toArray 36)).drew.setCells w.heap.size (i*2) rus).drew).setCells w.heap.size ((i+1)*2) R2=w.drew.drew.alloc (.cells (R1++rus++R2++(zs.drop 2).drop R2.length).toArray 36):=by
    rw [e1,e2]
    simp only [List.toList_toArray]
    rw [show (i+1)*2=R1.length+2 by omega,show i*2=R1.length by omega,hlist]
    show World.put (World.put (w.drew.drew.alloc _) w.heap.size _) w.heap.size _=_
    rw [put_put]
    exact put_alloc w.drew.drew _ _
   rw [hfin]
   obtain ⟨k1,k2,k3⟩:=grown_ok (w:=w.drew.drew) ((H.kill b).heap rfl) (ty:=36) (es:=2) (tot:=G*2) (vs:=vs.take (i*2)++us++vs.drop (i*2)) (cs:=(R1++rus++R2++(zs.drop 2).drop R2.length).toArray) (by
    intro k v hk
    obtain ⟨u,u1,u2⟩:=hv2.get hk
    refine ⟨u,?_,u2⟩
    have:=(List.getElem?_eq_some_iff.1 u1).1
    rw [List.getElem?_toArray,List.getElem?_append_left (by omega)]
    exact u1) (by simp;omega) (by decide) (by
    have:=hv2.length
    simp at this ⊢
    omega)
   refine ⟨_,List.mem_singleton.2 rfl,_,k2,k1,?_,(Below.drew (Below.drew (Below.refl lo w))).trans k3⟩
   have:=VR.sliceU (σ:=σ.ext h.next ⟨w.heap.size,0,G*2,2⟩) (b:=h.next) (l:=⟨w.heap.size,0,G*2,2⟩) 0 (cr+1) G (Sg.ext_self ..) (by simp) hG1
   exact this
end Go.Proofs
namespace Go.Proofs
open Go Go.RowKit Go.Lib
theorem t26u:Tryz.prog.underlying 26=some (.slice 54):=by kernel_rfl
theorem i54a:(Tryz.prog.info? 54).map (fun i=>(i.zero,i.size,i.bytes))=some (some (.agg #[.int .i64 0,.int .i64 0]),2,16):=by kernel_rfl
set_option maxHeartbeats 4000000 in
set_option maxRecDepth 100000 in
theorem grow_none (w:World):Calls Tryz.prog 160 #[.slice none 0 0,.int .i64 0] w fun e w'=>e=.returned (.slice none 0 0)/\w'=w:=by
 have mixed:=Tryz.mixed
 go_enter Tryz.func160,Tryz.ntmps160
 go_wp2
 go_ret
 exact ⟨rfl,rfl⟩
set_option maxHeartbeats 4000000 in
set_option maxRecDepth 100000 in
theorem grow_nil (n:Nat) (w:World) (hn:0<n) (hn2:n<=1000000) :
  ∃ (G:Nat) (zs:List Value),n<=G/\zs.length=G*2 ∧
  Calls Tryz.prog 160 #[.slice none 0 0,.int .i64 n] w fun e w'=>e=.returned (.slice (some ⟨w.heap.size,0,none⟩) 0 G)/\w'=w.drew.alloc (.cells zs.toArray 54):=by
 have mixed:=Tryz.mixed
 obtain ⟨i0,hi0,hz0,hzs,hzb⟩:=info_parts i54a
 have hold:(Builtin.firstCells i0.size 0 (.slice none 0 0)).run Tryz.prog w.drew=.ok ([]:List Value).toArray w.drew:=rfl
 obtain ⟨G,hG⟩:∃ G,G=grownCap w (0+n) 0 54:=⟨_,rfl⟩
 have hGn:n<=G:=by rw [hG];have:=grownCap_ge w (0+n) 0 54;omega
 obtain ⟨zs,hzs'⟩:∃ zs:List Value,zs.toArray=Builtin.zeroCells (Value.agg #[.int .i64 0,.int .i64 0]).cells n++Builtin.zeroCells (Value.agg #[.int .i64 0,.int .i64 0]).cells (G-(0+n)):=⟨(Builtin.zeroCells (Value.agg #[.int .i64 0,.int .i64 0]).cells n++Builtin.zeroCells (Value.agg #[.int .i64 0,.int .i64 0]).cells (G-(0+n))).toList,by simp⟩
 have hzl:zs.length=G*2:=by
  have:=congrArg Array.size hzs'
  simp [Builtin.zeroCells,Value.cells] at this
  omega
 have hrz:∀ ty,(Builtin.append_ #[26,3] ty #[.slice none 0 0,.int .i64 (n:Int)]).run Tryz.prog w =
   .ok (.slice (some ⟨w.heap.size,0,none⟩) n G) (w.drew.alloc (.cells zs.toArray 54)):=fun ty=>by
  have h:=Lib.run_append_grow_zeros w 26 3 ty 54 i0 _ .i64 .i64 t26u t3u hi0 hz0 none 0 0 [] hold n (by omega) (by omega) (by omega) (by omega) (by rw [hzb];omega) (by rw [hzb];exact growslice_fits (by omega) (by omega))
  rw [← hG] at h
  rw [h,Array.append_assoc,← hzs']
  simp
 refine ⟨G,zs,hGn,hzl,?_⟩
 have h0:(0:Int)<(n:Int):=by omega
 have h1:¬ ((n:Int)<0):=by omega
 have hw:IntKind.i64.wrap (n:Int)=(n:Int):=by rw [IntKind.wrap_i64];omega
 have hw0:IntKind.i64.wrap ((n:Int)-0)=(n:Int):=by rw [Int.sub_zero];exact hw
 clear hG hold hzs' hzl
 go_enter Tryz.func160,Tryz.ntmps160
 go_wp2_with (at_builtin;refine Lib.wpList_append_run _ rfl _ _ _ _ rfl _ _ rfl rfl _ _ (hrz _) ?_)
 go_ret
 exact ⟨rfl,rfl⟩
end Go.Proofs
namespace Go.Proofs
open Go.Shelf Go.RowKit Go.Sort Go.Lib
def Tryz.laysM171_ren:Go.Shelf.Ren:=⟨fun|171=>80|243=>132|246=>181|283=>223|284=>224|285=>225|286=>226|129=>153|317=>256|318=>257|319=>258|320=>259|337=>273|338=>274|n=>n,fun|3=>3|9=>9|2=>2|4=>4|171=>274|0=>0|53=>209|37=>102|5=>5|173=>276|212=>298|51=>207|20=>20|213=>299|46=>140|232=>315|233=>316|n=>n,fun|17=>0|18=>2|19=>3|n=>n⟩
theorem Tryz.laysM171:Go.Proofs.LaysM.n171 Tryz.prog Tryz.laysM171_ren:={
 mixed:=by kernel_rfl
 f129:=Tryz.func153.trans (congrArg some (by kernel_rfl))
 f171:=Tryz.func80.trans (congrArg some (by kernel_rfl))
 f243:=Tryz.func132.trans (congrArg some (by kernel_rfl))
 f246:=Tryz.func181.trans (congrArg some (by kernel_rfl))
 f283:=Tryz.func223.trans (congrArg some (by kernel_rfl))
 f284:=Tryz.func224.trans (congrArg some (by kernel_rfl))
 f285:=Tryz.func225.trans (congrArg some (by kernel_rfl))
 f286:=Tryz.func226.trans (congrArg some (by kernel_rfl))
 f317:=Tryz.func256.trans (congrArg some (by kernel_rfl))
 f318:=Tryz.func257.trans (congrArg some (by kernel_rfl))
 f319:=Tryz.func258.trans (congrArg some (by kernel_rfl))
 f320:=Tryz.func259.trans (congrArg some (by kernel_rfl))
 f337:=Tryz.func273.trans (congrArg some (by kernel_rfl))
 f338:=Tryz.func274.trans (congrArg some (by kernel_rfl))
 t0:=Tryz.underlying0
 a0:=Tryz.isAgg0
 z0:=Tryz.sizeOf0
 v0:=Tryz.zeroValue0
 t2:=Tryz.underlying2
 a2:=Tryz.isAgg2
 z2:=Tryz.sizeOf2
 v2:=Tryz.zeroValue2
 t3:=Tryz.underlying3
 a3:=Tryz.isAgg3
 z3:=Tryz.sizeOf3
 v3:=Tryz.zeroValue3
 t4:=Tryz.underlying4
 a4:=Tryz.isAgg4
 z4:=Tryz.sizeOf4
 v4:=Tryz.zeroValue4
 t5:=Tryz.underlying5
 a5:=Tryz.isAgg5
 z5:=Tryz.sizeOf5
 v5:=Tryz.zeroValue5
 t9:=Tryz.underlying9
 a9:=Tryz.isAgg9
 z9:=Tryz.sizeOf9
 v9:=Tryz.zeroValue9
 t20:=Tryz.underlying20
 a20:=Tryz.isAgg20
 z20:=Tryz.sizeOf20
 v20:=Tryz.zeroValue20
 t37:=Tryz.underlying102
 a37:=Tryz.isAgg102
 z37:=Tryz.sizeOf102
 v37:=Tryz.zeroValue102
 t46:=Tryz.underlying140
 a46:=Tryz.isAgg140
 z46:=Tryz.sizeOf140
 v46:=Tryz.zeroValue140
 t51:=Tryz.underlying207
 a51:=Tryz.isAgg207
 z51:=Tryz.sizeOf207
 v51:=Tryz.zeroValue207
 t53:=Tryz.underlying209
 a53:=Tryz.isAgg209
 z53:=Tryz.sizeOf209
 v53:=Tryz.zeroValue209
 t171:=Tryz.underlying274
 a171:=Tryz.isAgg274
 z171:=Tryz.sizeOf274
 v171:=Tryz.zeroValue274
 t173:=Tryz.underlying276
 a173:=Tryz.isAgg276
 z173:=Tryz.sizeOf276
 v173:=Tryz.zeroValue276
 t212:=Tryz.underlying298
 a212:=Tryz.isAgg298
 z212:=Tryz.sizeOf298
 v212:=Tryz.zeroValue298
 t213:=Tryz.underlying299
 a213:=Tryz.isAgg299
 z213:=Tryz.sizeOf299
 t232:=Tryz.underlying315
 a232:=Tryz.isAgg315
 z232:=Tryz.sizeOf315
 v232:=Tryz.zeroValue315
 t233:=Tryz.underlying316
 a233:=Tryz.isAgg316
 z233:=Tryz.sizeOf316
 v233:=Tryz.zeroValue316
 g17:=by kernel_rfl
 g18:=by kernel_rfl
 g19:=by kernel_rfl
 i0:=by kernel_rfl
 i2:=by kernel_rfl
 i3:=by kernel_rfl
 i4:=by kernel_rfl
 i5:=by kernel_rfl
 i9:=by kernel_rfl
 i20:=by kernel_rfl
 i37:=by kernel_rfl
 i46:=by kernel_rfl
 i51:=by kernel_rfl
 i53:=by kernel_rfl
 i171:=by kernel_rfl
 i173:=by kernel_rfl
 i212:=by kernel_rfl
 i232:=by kernel_rfl
 i233:=by kernel_rfl
 m17:=by kernel_rfl
 m18:=by kernel_rfl
 m19:=by kernel_rfl }
theorem Tryz.strconv_Itoa (n:Int) (h0:-9223372036854775808<=n) (h1:n<=9223372036854775807) (w:World) (htab:Lib.TabIs Tryz.prog w "internal/strconv.uint64pow10" .u64 Lib.pow10Tab) :
  Calls Tryz.prog 80 #[.int .i64 n] w fun e w'=>e=.returned (.string ⟨(Lib.itoa n).toArray⟩)/\∃ k os,w'=grow (w.drewN k) os:=Any.strconv_Itoa Tryz.laysM171 n h0 h1 w htab
end Go.Proofs
namespace Go.Proofs
open Go Go.AM Go.RowKit
set_option maxRecDepth 100000
set_option maxHeartbeats 1000000
theorem insSum191 {args:List Value} {h:AH} {outs:List (Value×AH)} (e:insAt args h=some outs):(∀ lo σ w args',HR lo σ h w->VRs σ args args'->CallsIn Fence.wide 0 Tryz.prog 191 args'.toArray w (Ret (Goes lo σ w outs)))/\FrAll h outs:=by
 unfold insAt at e
 split at e
 ·split at e
  ·rename_i b n cap i c _ _ vs us hb hc
   cases hcond:(Nat.beq cap (UNK+2)&&Nat.ble i n&&Nat.beq (llen vs) (n*2)&&Nat.beq (llen us) 2&&!Nat.beq b c&&vs.all isLeaf&&us.all isLeaf&&Nat.ble n 100000) with
   | false=>rw [hcond] at e;cases e
   | true=>
    rw [hcond] at e
    simp only [cond_true,Option.some.injEq] at e
    subst e
    simp only [Bool.and_eq_true,AM.beq_true,ble_true,llen_eq,Bool.not_eq_true'] at hcond
    obtain ⟨⟨⟨⟨⟨⟨⟨h1,h2⟩,h3⟩,h4⟩,h5⟩,h6⟩,h7⟩,h8⟩:=hcond
    subst h1
    have hbc:b≠c:=by
     rintro rfl
     rw [Nat.beq_refl] at h5;cases h5
    refine ⟨fun lo σ w args' H ha=>?_,frOne ?_⟩
    ·have:=ins_ok H ha hb hc h2 h3 h4 hbc h6 h7 h8
     rw [ltake_eq,ldrop_eq]
     exact this
    ·exact (Fr.upd h b none).trans (Fr.new _ _)
  ·cases e
 ·cases e
theorem growSum {args:List Value} {h:AH} {outs:List (Value×AH)} (e:growAt args h=some outs):(∀ lo σ w args',HR lo σ h w->VRs σ args args'->CallsIn Fence.wide 0 Tryz.prog 160 args'.toArray w (Ret (Goes lo σ w outs)))/\FrAll h outs:=by
 unfold growAt at e
 split at e
 ·rename_i n
  have inv:∀ {σ:Sg} {args':List Value},VRs σ [.slice none 0 0,.int .i64 (.ofNat n)] args'->args'=[.slice none 0 0,.int .i64 (n:Int)]:=by
   intro σ args' ha
   cases ha with
   | cons x xs=>
    cases x
    cases xs with
    | cons y ys=>
     cases y
     cases ys
     rfl
  cases h0:Nat.beq n 0 with
  | true=>
   rw [h0] at e
   cases e
   have:=Nat.eq_of_beq_eq_true h0
   subst this
   refine ⟨fun lo σ w args' H ha=>?_,frOne (Fr.refl h)⟩
   rw [inv ha]
   refine callsIn_wide.2 ((grow_none w).mono fun en w' hr=>?_)
   obtain ⟨rfl,rfl⟩:=hr
   exact ⟨_,List.mem_singleton.2 rfl,σ,Sg.le_refl σ,H,.sliceN 0 0,Below.refl _ _⟩
  | false=>
   rw [h0] at e
   cases h1:Nat.ble n 1000000 with
   | false=>rw [h1] at e;cases e
   | true=>
    rw [h1] at e
    cases e
    have h1:=ble_true.1 h1
    have hn:0<n:=by
     rcases Nat.eq_zero_or_pos n with h|h
     ·subst h;cases h0
     ·exact h
    refine ⟨fun lo σ w args' H ha=>?_,frOne (Fr.new _ _)⟩
    rw [inv ha]
    obtain ⟨G,zs,g1,g2,hrun⟩:=grow_nil n w hn h1
    refine callsIn_wide.2 (hrun.mono fun en w' hr=>?_)
    obtain ⟨rfl,rfl⟩:=hr
    obtain ⟨k1,k2,k3⟩:=grown_ok (w:=w.drew) (H.heap rfl) (ty:=54) (es:=2) (tot:=G*2) (vs:=[]) (cs:=zs.toArray) (fun i v hv=>by simp at hv) (by simp;omega) (by decide) (by simp)
    refine ⟨_,List.mem_singleton.2 rfl,_,k2,k1,?_,(Below.drew (Below.refl lo w)).trans k3⟩
    exact VR.sliceU (σ:=σ.ext h.next ⟨w.heap.size,0,G*2,2⟩) (b:=h.next) (l:=⟨w.heap.size,0,G*2,2⟩) 0 0 G (Sg.ext_self ..) (by simp) (Nat.zero_le _)
 ·cases e
theorem tens_tab {lo:Nat} {w:World} (k:Tens lo w):Lib.TabIs Tryz.prog w "internal/strconv.uint64pow10" .u64 Lib.pow10Tab:=by
 obtain ⟨_,t,f,h⟩:=k
 have hg:Tryz.prog.globalNamed "internal/strconv.uint64pow10"=some keptBlk:=by kernel_rfl
 unfold Lib.TabIs World.var?
 rw [hg]
 simp only [Option.bind_some,h]
 exact congrArg some (by simp [keptCells,Lib.pow10Tab,Function.comp_def])
theorem itoaSum {args:List Value} {h:AH} {outs:List (Value×AH)} (e:itoaAt args h=some outs):(∀ lo σ w args',HR lo σ h w->VRs σ args args'->CallsIn Fence.wide 0 Tryz.prog 80 args'.toArray w (Ret (Goes lo σ w outs)))/\FrAll h outs:=by
 unfold itoaAt at e
 split at e
 ·rename_i n
  cases hc:(decide (-9223372036854775808<=n)&&decide (n<=9223372036854775807)) with
  | false=>rw [hc] at e;cases e
  | true=>
   rw [hc] at e
   cases e
   simp only [Bool.and_eq_true,decide_eq_true_eq] at hc
   refine ⟨fun lo σ w args' H ha=>?_,frOne (Fr.refl h)⟩
   cases ha with
   | cons hv hs=>
    cases hs
    cases hv
    refine callsIn_wide.2 ((Tryz.strconv_Itoa n hc.1 hc.2 w (tens_tab H.kept)).mono fun en w' hr=>?_)
    obtain ⟨rfl,k,os,rfl⟩:=hr
    have hb:=Lib.below_grow w.heap.size w (Nat.le_refl _) k os
    exact ⟨_,List.mem_singleton.2 rfl,σ,Sg.le_refl σ,HR.keep H hb,.string _,hb.mono H.lo⟩
 ·cases e
theorem sumOK (f:FuncId) (args:List Value) (h:AH) (outs:List (Value×AH)) (e:insSum f args h=some outs):(∀ lo σ w args',HR lo σ h w->VRs σ args args'->CallsIn Fence.wide 0 Tryz.prog f args'.toArray w (Ret (Goes lo σ w outs)))/\FrAll h outs:=by
 unfold insSum at e
 cases hf:Nat.beq f 191 with
 | true=>
  rw [hf] at e
  have:=Nat.eq_of_beq_eq_true hf
  subst this
  exact insSum191 e
 | false=>
  rw [hf] at e
  simp only at e
  cases hg:Nat.beq f 13 with
  | true=>
   rw [hg] at e
   have:=Nat.eq_of_beq_eq_true hg
   subst this
   exact saneSum e
  | false=>
   rw [hg] at e
   simp only at e
   cases hw:Nat.beq f 160 with
   | true=>
    rw [hw] at e
    have:=Nat.eq_of_beq_eq_true hw
    subst this
    exact growSum e
   | false=>
    rw [hw] at e
    simp only at e
    cases hz:Nat.beq f 80 with
    | true=>
     rw [hz] at e
     have:=Nat.eq_of_beq_eq_true hz
     subst this
     exact itoaSum e
    | false=>rw [hz] at e;cases e
theorem extE:ExtOK E:=Tryz.extOK sumOK
theorem envE:EnvOK E:=Tryz.envOK
end Go.Proofs
namespace Go.Proofs
open Go Go.AM Go.Sort
set_option maxRecDepth 100000
set_option maxHeartbeats 1000000
theorem call80 {n:Int} {k:AH} (h0:0<=n) (h1:n<=1000000):(recI E).call 80 [.int .i64 n] k=some [(sV (dig n.toNat),k)]:=by
 refine call_sum (P:=E) (fn:=Tryz.f80) (c:=bodyOf Tryz.f80) (by kernel_rfl) (by kernel_rfl) ?_
 show itoaAt [.int .i64 n] k=_
 have c:(decide (-9223372036854775808<=n)&&decide (n<=9223372036854775807))=true:=by simp;omega
 unfold itoaAt
 simp only [c,cond_true]
 have:Lib.itoa n=dig n.toNat:=by unfold Lib.itoa dig;rw [if_neg (by omega)]
 rw [this]
abbrev Pa:List Nat:=[1,1,1,1,1,1,0,1,0,0,1,1,0,0,1,0,1,0,1]
abbrev Pb:List Nat:=[1,1,1,1,1,1,0,1,0,0,1,1,0,0,1,1]
theorem ad1 {l:Bs} (h:l.length<=1000):evPure E (tmOf [(38,sV l)]) (opAt B20 Pa 2)=some (sV (10::l)):=by
 rw [show sV (10::l)=sV ([10]++l) from rfl,← sl_add (l:=[10]) (m:=l) (by simp;omega)];kernel_rfl
theorem ad2 {l:Bs} (h:l.length<=1000):evPure E (tmOf [(39,sV l)]) (opAt B20 Pa 3)=some (sV (l++[58])):=by
 rw [← sl_add (l:=l) (m:=[58]) (by simp;omega)];kernel_rfl
theorem ad3 {l:Bs} (h:l.length<=1000):evPure E (tmOf [(44,sV l)]) (opAt B20 Pb 3)=some (sV (32::l)):=by
 rw [show sV (32::l)=sV ([32]++l) from rfl,← sl_add (l:=[32]) (m:=l) (by simp;omega)];kernel_rfl
theorem dig7 {n:Int} (h1:n<=1000000):(dig n.toNat).length<=7:=dig_len 6 _ (by omega)
def hd20 (last:Int) (p:Int×Int):Bs:=if p.1≠last then 10::(dig p.1.toNat++[58]) else []
theorem rowsF_cons (last:Int) (p:Int×Int) (ps:List (Int×Int)):rowsF last (p::ps)=(hd20 last p++32::dig p.2.toNat)++rowsF p.1 ps:=by
 simp only [rowsF,hd20,List.append_assoc]
theorem hd20_len {last:Int} {p:Int×Int} (h:p.1<=1000000):(hd20 last p).length<=9:=by
 unfold hd20
 split
 ·have:=dig7 h;simp;omega
 ·simp
def Res20 (B:GB) (v:Value):Prop:=match writeF B with
 | some t=>v=.tuple #[sV t,.int .i64 0]
 | none=>∃ e,e≠0/\v=.tuple #[sV [],.int .i64 e]
theorem err1 (B:GB):errFrom [B] 1 0=lnkErr B:=by
 have e:errAt [B] 0=lnkErr B:=rfl
 simp only [errFrom,e]
 by_cases h:lnkErr B=0
 ·rw [if_neg (by rw [h];simp),h]
 ·rw [if_pos h]
theorem Bld.lo {lo:Nat} {h:AH} {b:Nat} {bs:Bs} (B:Bld lo h b bs):∀ x,bufOf h b x->lo<=x:=by
 rintro x ⟨p,c,h1,h2⟩
 obtain ⟨p',c',g1,g2,g3,g4⟩:=B.ex
 obtain ⟨_,rfl⟩:=row_inj g1 h1
 exact g4 x h2
theorem Wr.own {lo:Nat} {k g m:AH} {b:Nat} {bs bs':Bs} (W:Wr lo g b bs' m) (B:Bld lo g b bs) (o:Own k g) (h1:k.next<=lo) (h2:lo<=b):Own k m:=
 W.2.own o fun c hc=>hc.elim (fun e=>by omega) fun e=>Nat.le_trans h1 (B.lo c e)
theorem pf2 {kind:Int} (h:isMan kind=true):pField E 112 2 (some (.agg ⟨manCells kind⟩))=some (sV (nameF kind)):=by
 simp only [isMan,Bool.or_eq_true,decide_eq_true_eq] at h
 rcases h with rfl|rfl <;> show _=_ <;> kernel_rfl
theorem z104:zeroV E 104=some (.agg ⟨[.pointer none,.slice none 0 0]⟩):=by kernel_rfl
theorem nameF_len (k:Int):(nameF k).length<=9:=by unfold nameF;split <;> decide
theorem box54b {h:AH} {p:Int×Int} {a b:Int} (hb:h.get n=some (.row [.int .i64 a,.int .i64 b] 54 0 false)):wStore E 54 h (some (ptr n)) (some (.agg ⟨prCells p⟩))=one (undef,h.upd n (some (.row (prCells p) 54 0 false))):=
 store_of (P:=E) ts_54 (o:=0) (x:=.agg ⟨prCells p⟩) (cs:=prCells p) hb rfl rfl (by simp) (by rfl)
abbrev K20 (k:AH) (B:GB):KF:=KR E [.tmp 2,.tmp 3] fun x h=>(isFlat x=true/\Res20 B x)/\k.next<=h.wm
theorem loop20 {h0 k:AH} {B:GB} {vp:Value} {T:Bs} {b:Nat} (hv:Arr h0 2 vp (B.prs.map prCells)) (he:Ext h0 k) (hn:B.prs.length<=5000) (hb:k.next<=b) (hbig:∀ p∈B.prs,(0<=p.1/\p.1<=1000000)/\(0<=p.2/\p.2<=1000000)) (hW:writeF B=some (T++[10])) :
  ∀ (m i:Nat) (bs:Bs) (last:Int) (g:AH),i+m=B.prs.length->Own k g->Bld b g b bs->bs++rowsF last (B.prs.drop i)=T->bs.length<=9+18*i->
   PI (C20 true) (K20 k B) 10 [ptr b,.int .i64 last,vp,.int .i64 (B.prs.length:Int),.int .i64 (i:Int)] g:=by
 intro m
 induction m with
 | zero=>
  intro i bs last g hi o Bl hT hlen
  refine P20_10_of ?_
  rw [bf_lss,evO_some,decide_eq_false (by omega),brK_f]
  refine P20_17_of ?_
  have hlo:b<=g.next:=Nat.le_of_lt Bl.lt
  rw [List.drop_of_length_le (by omega)] at hT
  simp only [rowsF,List.append_nil] at hT
  rw [wCall_0,show (Value.int .u8 10)=byC 10 from rfl]
  refine (call81 o.ext.ok Bl hlo (by omega)).mono ?_
  rintro ⟨_,g1⟩ W
  simp only at W ⊢
  have o1:=W.own Bl o hb (Nat.le_refl _)
  refine P20_18_of ?_
  rw [wCall_0]
  refine (call82 o1.ext.ok W.1 (by simp) (by simp;omega)).mono ?_
  rintro ⟨v,g2⟩ ⟨rfl,f⟩
  simp only at f ⊢
  unfold K20
  rw [kR_2]
  have o2:Own k g2:=f.own o1 fun c hc=>Nat.le_trans hb (W.1.lo c hc)
  refine ⟨ne_ret ▸ trivial,⟨rfl,?_⟩,o2.wm⟩
  unfold Res20
  rw [hW,hT]
 | succ m ih=>
  intro i bs last g hi o Bl hT hlen
  have hil:i<B.prs.length:=by omega
  obtain ⟨⟨p0,p1⟩,p2,p3⟩:=hbig B.prs[i] (List.getElem_mem hil)
  refine P20_10_of ?_
  rw [bf_lss,evO_some,decide_eq_true (by omega),brK_t]
  refine P20_11_of ?_
  obtain ⟨q,q1,q2⟩:=idx_agg und_26 ts_54 ta_54 hv (he.trans o.ext) (prs_get hil)
  rw [List.drop_eq_getElem_cons hil,rowsF_cons] at hT
  generalize B.prs[i]=p at p0 p1 p2 p3 q2 hT
  obtain ⟨m1,e1,n1,t1,o1,f1⟩:=nw o (.row [.int .i64 0,.int .i64 0] 54 0 false)
  obtain ⟨m2,e2,n2,t2,o2,f2⟩:=up o1 (b:=g.next) o.ext.next (.row (prCells p) 54 0 false)
  simp only [q1,q2,evO_some,z_54,new_row,ev_one,cells_agg,e1]
  rw [box54b t1,ev_one,e2]
  have Bl2:Bld b m2 b bs:=by
   have f:Fx (fun x=>x=g.next) g m2:=by rw [← e2,← e1];exact ((Fx.refl (P:=fun x=>x=g.next) o.ext.ok).new _).upd (.inl rfl) _
   exact Bl.fx f (fun e=>by have:=Bl.lt;omega) fun x hx e=>by
    obtain ⟨p',c',g1,g2,g3,g4⟩:=Bl.ex
    obtain ⟨p'',c'',z1,z2⟩:=hx
    obtain ⟨_,rfl⟩:=row_inj g1 z1
    rcases g3 with ⟨rfl,_⟩|⟨bl,rfl,_,hlt⟩
    ·obtain ⟨_,_,e'⟩:=z2;cases e'
    ·obtain ⟨_,_,e'⟩:=z2
     simp only [Value.slice.injEq,Option.some.injEq,Addr.mk.injEq] at e'
     omega
  refine P20_12_of ?_
  have l0:∀ x,x.get g.next=some (.row (prCells p) 54 0 false)->rLoad E 3 x (some (.pointer (some ⟨g.next,0+0,none⟩)))=some (.int .i64 p.1)/\rLoad E 3 x (some (.pointer (some ⟨g.next,0+1,none⟩)))=some (.int .i64 p.2):=fun x hx=>⟨load_leaf (P:=E) ta_3 (o:=0+0) hx,load_leaf (P:=E) ta_3 (o:=0+1) hx⟩
  rw [ia54_0,evO_some,(l0 m2 t2).1,evO_some,bf_neq,evO_some]
  have rest:∀ (x:AH) (bs1:Bs),Own k x->Bld b x b bs1->x.get g.next=some (.row (prCells p) 54 0 false)->bs1=bs++hd20 last p->PI (C20 true) (K20 k B) 15 [ptr b,.int .i64 p.1,ptr g.next,vp,.int .i64 (B.prs.length:Int),.int .i64 (i:Int)] x:=by
   intro x bs1 ox Bx hx hbs1
   have hl1:bs1.length<=bs.length+9:=by rw [hbs1,List.length_append];have:=hd20_len (last:=last) p1;omega
   have hd2:=dig7 p3
   refine P20_15_of ?_
   rw [ia54_1,evO_some,(l0 x hx).2,evO_some,wCall_0,call80 p2 p3,ev_some,ad3 (by omega),evO_some,wCall_0]
   refine (call78 ox.ext.ok Bx (Nat.le_of_lt Bx.lt) (by simp;omega)).mono ?_
   rintro ⟨_,y⟩ W
   simp only at W ⊢
   refine P20_16_of ?_
   rw [bf_add _ ⟨by omega,by omega⟩,evO_some]
   have:=ih (i+1) (bs1++32::dig p.2.toNat) p.1 y (by omega) (W.own Bx ox hb (Nat.le_refl _)) W.1 (by rw [← hT,hbs1];simp only [List.append_assoc]) (by simp;omega)
   simpa using this
  by_cases c:p.1=last
  ·rw [decide_eq_true c,Bool.not_true,brK_f]
   have:=rest m2 bs o2 Bl2 t2 (by unfold hd20;rw [if_neg (by simpa using c),List.append_nil])
   rw [← c]
   exact this
  ·rw [decide_eq_false c,Bool.not_false,brK_t]
   refine P20_13_of ?_
   rw [ia54_0,evO_some,(l0 m2 t2).1,evO_some]
   refine P20_14_of ?_
   have hd1:=dig7 p1
   rw [wCall_0,call80 p0 p1,ev_some,ad1 (by omega),evO_some,ad2 (by simp;omega),evO_some,wCall_0]
   refine (call78 o2.ext.ok Bl2 (Nat.le_of_lt Bl2.lt) (by simp;omega)).mono ?_
   rintro ⟨_,y⟩ W
   simp only at W ⊢
   refine rest y _ (W.own Bl2 o2 hb (Nat.le_refl _)) W.1 ((W.2.get _ (by omega) ?_).trans t2) (by unfold hd20;rw [if_pos c];rfl)
   rintro (e|e)
   ·have:=Bl.lt;omega
   ·exact Bl2.ne (fun vs es ro h=>by rw [t2] at h;simp at h) e
theorem call20 {h0 k:AH} {B:GB} {vp:Value} (hv:Arr h0 2 vp (B.prs.map prCells)) (he:Ext h0 k) (hn:B.prs.length<=5000) :
  ∃ v,Res20 B v/\(recI E).call 20 [.agg ⟨[.int .i64 B.kind,vp]⟩] k=some [(v,k)]:=by
 obtain ⟨ad,cp,hvs⟩:=hv.slice
 rw [List.length_map] at hvs
 have hvl:isLeaf vp=true/\cellsOfV vp=[vp]:=by rw [hvs];exact ⟨rfl,rfl⟩
 refine F20_flatE he.ok (P20_0_of ?_)
 obtain ⟨k1,e1,n1,t1,o1,f1⟩:=nwF k (.row [.int .i64 B.kind,vp] 32 0 false)
 simp only [new_row,ev_one,cells_agg,e1,next_fresh]
 refine P20_1_of ?_
 have l32:rLoad E 32 k1 (some (ptr k.next))=some (.agg ⟨[.int .i64 B.kind,vp]⟩):=load_agg (P:=E) ta_32 (o:=0) t1 (by simp)
 obtain ⟨k2,e2,n2,t2,o2,f2⟩:=nw o1 (.row [.int .i64 B.kind,vp] 32 0 false)
 rw [l32,evO_some,bs83,ev_one,e2]
 have hrb:RB h0 [.int .i64 B.kind,vp] B:=⟨⟨vp,rfl,hv⟩⟩
 have c71:=call71 (h0:=k2) (k:=k2) (v:=.slice (some ⟨k1.next,0,none⟩) 1 1) (els:=[[.int .i64 B.kind,vp]]) (Bs:=[B]) (Arr.row (els:=[[.int .i64 B.kind,vp]]) t2 (by omega) (by simp) (fun i ee hee=>by
   match i with
   | 0=>simp at hee;subst hee;exact ⟨rfl,rfl⟩
   | i+1=>simp at hee)) rfl (by simp) (fun i ee BB x1 x2=>by
   match i with
   | 0=>simp at x1 x2;subst x1 x2;exact hrb.ext (he.trans o2.ext)
   | i+1=>simp at x1) (Ext.refl o2.ext.ok)
 rw [wCall_0]
 show Ev true ((recI E).call 71 [.slice (some ⟨k1.next,0,none⟩) 1 1] k2) _
 rw [show ([[Value.int .i64 B.kind,vp]]:List (List Value)).length=1 from rfl,err1] at *
 rw [c71,ev_some]
 refine P20_2_of ?_
 rw [bf_neq,evO_some]
 by_cases hl:lnkErr B=0
 case neg=>
  rw [decide_eq_false hl,Bool.not_false,brK_t]
  refine P20_3_of ?_
  rw [kR_2]
  refine ⟨ne_ret ▸ trivial,⟨rfl,?_⟩,o2.wm⟩
  have:writeF B=none:=by unfold writeF;rw [if_neg fun h=>hl h.1]
  unfold Res20
  rw [this]
  exact ⟨_,hl,rfl⟩
 rw [decide_eq_true hl,Bool.not_true,brK_f]
 refine P20_4_of ?_
 have t1':=(f2 _ (by omega)).trans t1
 have lp:∀ x,x.get k.next=some (.row [.int .i64 B.kind,vp] 32 0 false)->rLoad E 26 x (some (.pointer (some ⟨k.next,0+1,none⟩)))=some vp/\rLoad E 3 x (some (.pointer (some ⟨k.next,0+0,none⟩)))=some (.int .i64 B.kind):=fun x hx=>⟨load_leaf (P:=E) ta_26 (o:=0+1) hx,load_leaf (P:=E) ta_3 (o:=0+0) hx⟩
 rw [fa_32_1,evO_some,(lp k2 t1').1,evO_some,wCall_0,call76 hv (he.trans o2.ext) (by omega) test77,ev_some]
 have hbp:bigP B=B.prs.any bigOne:=rfl
 cases hbg:B.prs.any bigOne with
 | true=>
  rw [brK_t]
  refine P20_5_of ?_
  rw [kR_2]
  refine ⟨ne_ret ▸ trivial,⟨rfl,?_⟩,o2.wm⟩
  have:writeF B=none:=by unfold writeF;rw [if_neg fun h=>by rw [hbp,hbg] at h;exact absurd h.2 (by simp)]
  unfold Res20
  rw [this]
  exact ⟨360,by omega,rfl⟩
 | false=>
 rw [brK_f]
 refine P20_6_of ?_
 obtain ⟨k3,e3,n3,t3,o3,f3⟩:=nw o2 (.row [.pointer none,.slice none 0 0] 104 0 false)
 simp only [z104,new_row,ev_one,cells_agg,e3]
 refine P20_7_of ?_
 have t13:=(f3 _ (by omega)).trans t1'
 obtain ⟨hman,_,hpos⟩:=lnk_ok hl
 have hW:writeF B=some (nameF B.kind++rowsF (-1) B.prs++[10]):=by unfold writeF;rw [if_pos ⟨hl,by rw [hbp,hbg]⟩]
 have Bl:Bld k2.next k3 k2.next []:=⟨⟨_,_,t3,.inl rfl,.inl ⟨rfl,rfl⟩,fun x hx=>by obtain ⟨_,_,e⟩:=hx;cases e⟩,by omega⟩
 rw [fa_32_0,evO_some,(lp k3 t13).2,evO_some,wCall_0,call79 o3.ext.ok,ev_some,(lp k3 t13).2,evO_some]
 refine ⟨veq_int _ _ _,?_⟩
 rw [pim hman,evO_some,pf2 hman,evO_some,wCall_0]
 have hnl:=nameF_len B.kind
 refine (call78 o3.ext.ok Bl (by omega) (by simp;omega)).mono ?_
 rintro ⟨_,g⟩ W
 simp only at W ⊢
 rw [List.nil_append] at W
 have og:=W.own Bl o3 (by have:=o2.ext.next;omega) (Nat.le_refl _)
 have tg:=(W.2.get k.next (by omega) (by
  rintro (e|e)
  ·have:=o1.ext.next;omega
  ·exact Bl.ne (fun vs es ro h=>by rw [t13] at h;simp at h) e)).trans t13
 have hlen:evRead E (tmOf [(25,vp)]) (opAt B20 [1,1,1,1,1,1,0,0] 2) g=some (.int .i64 (B.prs.length:Int)):=by rw [hvs];exact len20_9_2
 refine P20_8_of (P20_9_of ?_)
 rw [fa_32_1,evO_some,(lp g tg).1,evO_some,hlen,evO_some]
 have hbg2:=big_iff (B:=B) (by rw [hbp,hbg])
 exact loop20 hv he hn (by have:=o1.ext.next;omega) (fun p hp=>⟨⟨(hpos p hp).1,(hbg2 p hp).1⟩,(hpos p hp).2,(hbg2 p hp).2⟩) hW B.prs.length 0 _ (-1) g (by omega) og W.1 (by rw [List.drop_zero]) (by omega)
abbrev TxS:=Bool×Int×Int×List (Int×Int)
def gP (g:Nat×List Nat):List (Int×Int):=g.2.map fun t:Nat=>((g.1:Int),(t:Int))
def stepL (st:TxS) (q:Bs×Bool):Option TxS:=
 if q.2=false then none else if st.1=true then (if isMan (rd.kindOf q.1)=true then some (false,st.2.1,rd.kindOf q.1,st.2.2.2) else none)
 else match rowF q.1 with
  | none=>none
  | some g=>if (g.1:Int)<=st.2.1 then none else some (false,(g.1:Int),st.2.2.1,st.2.2.2++gP g)
theorem rd_rdS:∀ (f:Nat) (first:Bool) (last k:Int) (p:List (Int×Int)) (s:Bs),rd f first last k p s=(rdS stepL f (first,last,k,p) s).map fun st=>(st.1,st.2.2.1,st.2.2.2)
 | 0,_,_,_,_,_=>rfl
 | f+1,first,last,k,p,s=>by
  simp only [rd,rdS]
  by_cases hs:s=[]
  ·simp [hs]
  ·rw [if_neg hs,if_neg hs]
   unfold stepL
   simp only
   by_cases hc:(cutF 10 s).2.2=false
   ·simp [hc]
   ·rw [if_neg hc,if_neg hc]
    by_cases hf:first=true
    ·rw [if_pos hf,if_pos hf]
     by_cases hm:isMan (rd.kindOf (cutF 10 s).1)=true
     ·rw [if_pos hm,if_pos hm]
      exact rd_rdS f _ _ _ _ _
     ·rw [if_neg hm,if_neg hm];rfl
    ·rw [if_neg hf,if_neg hf]
     cases hr:rowF (cutF 10 s).1 with
     | none=>rfl
     | some g=>
      simp only
      by_cases hl:(g.1:Int)<=last
      ·rw [if_pos hl,if_pos hl];rfl
      ·rw [if_neg hl,if_neg hl]
       exact rd_rdS f _ _ _ _ _
theorem numR_ok {w:Bs} (h:(numR w).2=true):numF w=some (numR w).1.toNat/\(((numR w).1.toNat:Nat):Int)=(numR w).1:=by
 refine ⟨by rw [numR_eq,if_pos h],?_⟩
 unfold numR at h ⊢
 split at h
 ·cases h
 ·rename_i h1
  rw [if_neg h1]
  split at h
  ·rename_i h2
   rw [if_pos h2]
   simp
  ·cases h
theorem run_all (src:Int):∀ (ws:List Bs) (acc:List (Int×Int)),runS (stepW src) acc ws=(allN ws).map fun ts=>acc++ts.map fun t:Nat=>(src,(t:Int))
 | [],acc=>by simp [runS,allN]
 | w::ws,acc=>by
  simp only [runS,stepW,allN]
  cases hn:(numR w).2 with
  | false=>rw [numR_eq,hn];simp
  | true=>
   obtain ⟨h1,h2⟩:=numR_ok hn
   rw [if_pos rfl,h1]
   simp only
   rw [run_all src ws,h2.symm]
   cases allN ws with
   | none=>rfl
   | some ns=>simp
theorem rowR_rowF (l:Bs):rowR l=(rowF l).map gP:=by
 unfold rowR rowF
 obtain ⟨head,r0,found⟩:=cutF 58 l
 simp only
 cases found with
 | false=>
  rw [if_neg (by simp)]
  split
  ·rename_i h;simp at h
  ·rfl
 | true=>
  cases r0 with
  | nil=>rw [if_neg (by simp [hasP])];rfl
  | cons x r=>
   by_cases hx:x=32
   ·subst hx
    show _=Option.map gP (match numF head,allN (splF 32 r) with|some s,some ts=>some (s,ts)|_,_=>none)
    cases hn:(numR head).2 with
    | false=>rw [if_neg (by simp),numR_eq,hn];simp
    | true=>
     obtain ⟨h1,h2⟩:=numR_ok hn
     rw [if_pos ⟨rfl,rfl,by simp [hasP]⟩,h1,run_all]
     simp only [List.drop_succ_cons,List.drop_zero]
     cases allN (splF 32 r) with
     | none=>rfl
     | some ts=>simp only [Option.map_some,List.nil_append,gP];rw [h2]
   ·rw [if_neg (fun h=>hx (by have:=h.2.2;simpa [hasP] using this))]
    split
    ·rename_i a b c h;simp only [Prod.mk.injEq,List.cons.injEq] at h;exact absurd h.2.1.1 hx
    ·rfl
theorem rowF_len {l:Bs} {g:Nat×List Nat} (h:rowF l=some g):g.2≠[]/\g.2.length<=l.length:=by
 obtain ⟨h1,h2,_⟩:=rowF_iff.1 h
 refine ⟨h2,?_⟩
 rw [h1]
 unfold rowT
 have:∀ ts:List Nat,ts.length<=(ts.flatMap fun t=>(32:UInt8)::dig t).length:=by
  intro ts
  induction ts with
  | nil=>simp
  | cons t ts ih=>simp only [List.flatMap_cons,List.length_append,List.length_cons];omega
 have:=this g.2
 simp only [List.length_append,List.length_cons]
 omega
theorem append_nilN {t e z:Nat} (H:Elt t e z) {h:AH} {c m o cp:Nat} {us ws:List Value} {ty es:Nat} {ro:Bool} (hm:0<m) (hn:m<=1000000) (hc:h.get c=some (.row ws ty es ro)) (hl:o+m*z<=ws.length) (hu:(ws.drop o).take (m*z)=us) :
  wBuiltinO E .append [t,t] (some [.slice none 0 0,.slice (some ⟨c,o,none⟩) m cp]) h=one (.slice (some ⟨h.next,0,none⟩) m (UNK+z),h.new (.row us e z false)):=by
 obtain ⟨ti,e1,e2,e3⟩:=H.ti
 show v2 (appendV E [t,t] (.slice none 0 0) (.slice (some ⟨c,o,none⟩) m cp) h)=_
 have hlen:us.length=m*z:=by rw [← hu,List.length_take,List.length_drop];omega
 have hn1:Nat.beq m 0=false:=by cases m with|zero=>omega|succ n=>rfl
 simp only [appendV,H.el,H.un,isIntD,cond_false,e1,appendSrc,sliceCells,hc,e2,ltake_eq,ldrop_eq,llen_eq,hu,hlen,Nat.beq_refl,if_true,e3,cond_true,appendTo,hn1,appendNew,ble_true.2 hn,v2]
theorem Ac.appN {lo:Nat} {m:AH} {v v2:Value} {l l2:List (Int×Int)} (hok:m.ok) (A:Ac lo m v l) (hlo:lo<=m.next) (A2:Arr m 2 v2 (l2.map prCells)) (hne:l2≠[]) (hn:l.length+l2.length<=1000000) :
  ∃ m' v',wBuiltinO E .append [26,26] (some [v,v2]) m=one (v',m')/\Ac lo m' v' (l++l2)/\Fx (blkOf v) m m'/\∀ c,blkOf v' c->m.next<=c/\c<m'.next:=by
 have blk:∀ {b n cp c:Nat},blkOf (.slice (some ⟨b,0,none⟩) n cp) c->c=b:=fun h=>by
  obtain ⟨n,cap,e⟩:=h
  simp only [Value.slice.injEq,Option.some.injEq,Addr.mk.injEq] at e
  exact e.1.1.symm
 rcases A with ⟨rfl,rfl⟩|⟨b,rfl,h1,h2,h3⟩
 ·generalize hels:l2.map prCells=els at A2
  have hlen:els.length=l2.length:=by rw [← hels,List.length_map]
  cases A2 with
  | nil a c=>rw [List.length_nil] at hlen;exact absurd (List.length_eq_zero_iff.1 hlen.symm) hne
  | @row b2 o c vs ty es ro _ hb2 hlt hle hz=>
   have hfl:=arr_flat els o hle hz
   have hl0:0<l2.length:=List.length_pos_iff.2 hne
   have hu:(vs.drop o).take (l2.length*2)=l2.flatMap prCells:=by rw [← flat_prs,hels,← hfl,hlen]
   refine ⟨m.new (.row (l2.flatMap prCells) 54 2 false),.slice (some ⟨m.next,0,none⟩) l2.length (UNK+2),by rw [hlen,append_nilN elt26 hl0 (by simp at hn;omega) hb2 (by rw [← hlen];exact hle) hu],.inr ⟨m.next,rfl,hlo,Nat.lt_succ_self _,get_new_self m _⟩,(Fx.refl hok).new _,fun c hc=>?_⟩
   have:=blk hc
   show m.next<=c/\c<m.next+1
   omega
 ·obtain ⟨m',e1,e2,e3,e4⟩:=Gat.app (lo:=lo) (b:=b) hok h1 h2 h3 A2 hne hn
  refine ⟨m',_,e1,.inr ⟨m.next,rfl,hlo,by omega,e3⟩,e4.mono fun c hc=>.inl (by rw [hc];exact ⟨_,_,rfl⟩),fun c hc=>?_⟩
  have:=blk hc
  omega
theorem ld32 {h:AH} {b:Nat} {x y:Value} (hb:h.get b=some (.row [x,y] 32 0 false)):rLoad E 32 h (some (ptr b))=some (.agg ⟨[x,y]⟩)/\rLoad E 3 h (some (.pointer (some ⟨b,0+0,none⟩)))=some x/\rLoad E 26 h (some (.pointer (some ⟨b,0+1,none⟩)))=some y:=
 ⟨load_agg (P:=E) ta_32 (o:=0) hb (by simp),load_leaf (P:=E) ta_3 (o:=0+0) hb,load_leaf (P:=E) ta_26 (o:=0+1) hb⟩
theorem st32 {h:AH} {b:Nat} {x y a v:Value} (hb:h.get b=some (.row [x,y] 32 0 false)) (ha:isLeaf a=true) (hv:isLeaf v=true):wStore E 32 h (some (ptr b)) (some (.agg ⟨[a,v]⟩))=one (undef,h.upd b (some (.row [a,v] 32 0 false))):=
 store_of (P:=E) ts_32 (o:=0) (x:=.agg ⟨[a,v]⟩) (cs:=[a,v]) hb rfl rfl (by simp) (by rw [List.all_cons,ha,List.all_cons,hv];rfl)
theorem st32k {h:AH} {b:Nat} {x y:Value} {z:Int} (hb:h.get b=some (.row [x,y] 32 0 false)):wStore E 3 h (some (.pointer (some ⟨b,0+0,none⟩))) (some (.int .i64 z))=one (undef,h.upd b (some (.row [.int .i64 z,y] 32 0 false))):=
 store_of (P:=E) ts_3 (o:=0+0) (x:=.int .i64 z) (cs:=[.int .i64 z]) hb rfl rfl (by simp) (by rfl)
theorem st32p {h:AH} {b:Nat} {x y v:Value} (hb:h.get b=some (.row [x,y] 32 0 false)) (hv:isLeaf v=true/\cellsOfV v=[v]):wStore E 26 h (some (.pointer (some ⟨b,0+1,none⟩))) (some v)=one (undef,h.upd b (some (.row [x,v] 32 0 false))):=
 store_of (P:=E) ts_26 (o:=0+1) (x:=v) (cs:=[v]) hb hv.2 rfl (by simp) (by simp [hv.1])
theorem ld4 {h:AH} {b:Nat} {x:Bool} (hb:h.get b=some (.row [.bool x] 4 0 false)):rLoad E 4 h (some (ptr b))=some (.bool x):=load_leaf (P:=E) ta_4 (o:=0) hb
def P83 (n:Nat) (v:Value) (x:Nat):Prop:=(n<=x/\x<n+5)\/blkOf v x
def Bx83 (n lo:Nat) (st:TxS) (g:AH):Prop:=∃ v,g.get (n+2)=some (.row [.int .i64 st.2.2.1,v] 32 0 false)/\Ac lo g v st.2.2.2/\g.get (n+3)=some (.row [.bool st.1] 4 0 false)/\g.get (n+4)=some (.row [.int .i64 st.2.1] 3 0 false)
def Dx83 (n:Nat) (g:AH):Prop:=(∃ kd v2,g.get n=some (.row [.int .i64 kd,v2] 32 0 false)/\isLeaf v2=true/\cellsOfV v2=[v2])/\g.get (n+1)=some (.row [.bool false] 4 0 false)
def Q83 (n:Nat) (v:Value) (x:Nat):Prop:=(n+2<=x/\x<n+5)\/blkOf v x
def K83 (n lo:Nat) (v:Value) (st:TxS) (q:Bs×Bool) (h:AH):KF:=fun ex _ g=>match stepL st q with
 | some st'=>ex=.normal/\Fx (Q83 n v) h g/\Bx83 n lo st' g
 | none=>ex=.ret/\Fx (P83 n v) h g/\Dx83 n g
theorem body83 {h:AH} {l n b7 lo:Nat} {v x2 y2 x3:Value} {st:TxS} {q:Bs×Bool} {T:Tm} (hok:h.ok)
  (h2:h.get n=some (.row [x2,y2] 32 0 false)) (h3:h.get (n+1)=some (.row [x3] 4 0 false))
  (h4:h.get (n+2)=some (.row [.int .i64 st.2.2.1,v] 32 0 false)) (A:Ac lo h v st.2.2.2) (h5:h.get (n+3)=some (.row [.bool st.1] 4 0 false)) (h6:h.get (n+4)=some (.row [.int .i64 st.2.1] 3 0 false))
  (h7:h.get b7=some (.row [sV q.1] 9 0 false)) (l7:b7<h.next) (ln:n+5<=lo) (hlo:lo<=h.next) (n7:n+5<=b7) (hq:q.1.length<=100000) (hc:st.2.2.2.length+q.1.length<=100000)
  (hT:∀ y∈[(2,ptr n),(3,ptr (n+1)),(4,ptr (n+2)),(5,ptr (n+3)),(6,ptr (n+4)),(7,ptr b7),(8,.bool q.2)],T.get y.1=y.2) :
  Ev true (evC E (recI E) (some l) B83h ⟨T,h,[]⟩) (finQ (C83h true l) (K83 n lo v st q h)):=by
 have nbv:∀ x,blkOf v x->lo<=x:=by
  rintro x ⟨m,q,e⟩
  rcases A with ⟨_,rfl⟩|⟨b,rfl,e2,_,_⟩
  ·cases e
  ·simp only [sl,Value.slice.injEq,Option.some.injEq,Addr.mk.injEq] at e
   omega
 refine F83h_ev hT (P83h_0_of ?_)
 have give:∀ (g:AH) (kd:Int) (w:Value),stepL st q=none->Fx (Q83 n v) h g->g.get n=some (.row [x2,y2] 32 0 false)->g.get (n+1)=some (.row [x3] 4 0 false)->g.get (n+2)=some (.row [.int .i64 kd,w] 32 0 false)->isLeaf w=true/\cellsOfV w=[w]->
   EvO (rLoad E 32 g (some (ptr (n+2)))) fun x0=>Ev true (wStore E 32 g (some (ptr n)) (some x0)) fun x1=>Ev true (wStore E 4 x1.2 (some (ptr (n+1))) (some (.bool false))) fun x2=>K83 n lo v st q h .ret [] x2.2:=by
  intro g kd w hs f g2 g3 g4 hw
  rw [(ld32 g4).1,evO_some,st32 g2 rfl hw.1,ev_one,st4 ((get_upd_ne (by omega)).trans g3),ev_one]
  have fP:Fx (P83 n v) h g:=f.mono fun c hc=>.inl (hc.imp (fun e=>⟨by omega,e.2⟩) id)
  unfold K83
  rw [hs]
  exact ⟨rfl,(fP.upd (.inl (.inl ⟨Nat.le_refl _,by omega⟩)) _).upd (.inl (.inl ⟨by omega,by omega⟩)) _,⟨kd,w,(get_upd_ne (by omega)).trans (get_upd_self _ _ _),hw⟩,get_upd_self _ _ _⟩
 have hvl:isLeaf v=true/\cellsOfV v=[v]:=⟨A.leaf.1,A.leaf.2.1⟩
 obtain ⟨line,fin⟩:=q
 obtain ⟨first,last,kind,prs⟩:=st
 simp only at *
 rw [uf_not,evO_some]
 cases fin with
 | false=>
  rw [Bool.not_false,brK_t]
  exact P83h_1_of (give h kind v (by simp [stepL]) (Fx.refl hok) h2 h3 h4 hvl)
 | true=>
 rw [Bool.not_true,brK_f]
 refine P83h_2_of ?_
 rw [ld4 h5,evO_some]
 cases first with
 | true=>
  rw [brK_t]
  refine P83h_3_of ?_
  rw [wCall_0]
  refine (call135 hok).mono ?_
  rintro ⟨x,g⟩ ⟨bn,rfl,y1,y2',y3,f⟩
  simp only at y2' y3 f ⊢
  have hn1:∀ c,c<h.next->g.get c=h.get c:=fun c hc=>f.get c hc fun h=>h
  have r7:=(hn1 b7 l7).trans h7
  have r4:=(hn1 (n+2) (by omega)).trans h4
  rw [mkF,evO_some,wCall_0,call134 f.ok y3 r7,ev_some,idxN_kind,fa_32_0,evO_some,st32k r4,ev_one]
  have f0:Fx (Q83 n v) h g:=f.mono fun c hc=>hc.elim
  have f1:Fx (Q83 n v) h (g.upd (n+2) (some (.row [.int .i64 (rd.kindOf line),v] 32 0 false))):=f0.upd (.inl (.inl ⟨by omega,by omega⟩)) _
  refine P83h_4_of ?_
  have r5:(g.upd (n+2) (some (.row [.int .i64 (rd.kindOf line),v] 32 0 false))).get (n+3)=some (.row [.bool true] 4 0 false):=(get_upd_ne (by omega)).trans ((hn1 _ (by omega)).trans h5)
  rw [st4 r5,ev_one]
  refine P83h_5_of ?_
  have f2:=f1.upd (b:=n+3) (.inl (.inl ⟨by omega,by omega⟩)) (some (.row [.bool false] 4 0 false))
  have s4:((g.upd (n+2) (some (.row [.int .i64 (rd.kindOf line),v] 32 0 false))).upd (n+3) (some (.row [.bool false] 4 0 false))).get (n+2)=some (.row [.int .i64 (rd.kindOf line),v] 32 0 false):=(get_upd_ne (by omega)).trans (get_upd_self _ _ _)
  have s5:((g.upd (n+2) (some (.row [.int .i64 (rd.kindOf line),v] 32 0 false))).upd (n+3) (some (.row [.bool false] 4 0 false))).get (n+3)=some (.row [.bool false] 4 0 false):=get_upd_self _ _ _
  have so:∀ c,c≠n+2->c≠n+3->((g.upd (n+2) (some (.row [.int .i64 (rd.kindOf line),v] 32 0 false))).upd (n+3) (some (.row [.bool false] 4 0 false))).get c=g.get c:=fun c c1 c2=>(get_upd_ne c2).trans (get_upd_ne c1)
  have sn:((g.upd (n+2) (some (.row [.int .i64 (rd.kindOf line),v] 32 0 false))).upd (n+3) (some (.row [.bool false] 4 0 false))).next=g.next:=rfl
  generalize ((g.upd (n+2) (some (.row [.int .i64 (rd.kindOf line),v] 32 0 false))).upd (n+3) (some (.row [.bool false] 4 0 false)))=g2 at f2 s4 s5 so sn
  rw [fa_32_0,evO_some,(ld32 s4).2.1,evO_some,wCall_0,call105 f2.ok,ev_some,uf_not,evO_some]
  cases hm:isMan (rd.kindOf line) with
  | false=>
   rw [Bool.not_false,brK_t]
   exact P83h_6_of (give g2 _ v (by simp [stepL,hm]) f2 ((so _ (by omega) (by omega)).trans ((hn1 _ (by omega)).trans h2)) ((so _ (by omega) (by omega)).trans ((hn1 _ (by omega)).trans h3)) s4 hvl)
  | true=>
   rw [Bool.not_true,brK_f]
   have:stepL (true,last,kind,prs) (line,true)=some (false,last,rd.kindOf line,prs):=by simp [stepL,hm]
   unfold K83
   rw [this]
   refine ⟨rfl,f2,v,s4,?_,s5,(so _ (by omega) (by omega)).trans ((hn1 _ (by omega)).trans h6)⟩
   rcases A with e|⟨b,e1,e2,e3,e4⟩
   ·exact .inl e
   ·exact .inr ⟨b,e1,e2,by have:h.next<=g.next:=f.next;show b<g2.next;omega,(so b (by omega) (by omega)).trans ((hn1 b e3).trans e4)⟩
 | false=>
  rw [brK_f]
  refine P83h_7_of ?_
  rw [ld9 h7,evO_some,wCall_0]
  refine (call137 hok hq).mono ?_
  rintro ⟨x,g⟩ ⟨hR,f⟩
  simp only at hR f ⊢
  have hn1:∀ c,c<h.next->g.get c=h.get c:=fun c hc=>f.get c hc fun h=>h
  have f0:Fx (Q83 n v) h g:=f.mono fun c hc=>hc.elim
  have r2:=(hn1 n (by omega)).trans h2
  have r3:=(hn1 (n+1) (by omega)).trans h3
  have r4:=(hn1 (n+2) (by omega)).trans h4
  have r5:=(hn1 (n+3) (by omega)).trans h5
  have r6:=(hn1 (n+4) (by omega)).trans h6
  rw [rowR_rowF] at hR
  have tf:(true==false)=false:=rfl
  cases hro:rowF line with
  | none=>
   rw [hro] at hR
   have hx:x=.tuple #[.slice none 0 0,.bool false]:=hR
   rw [hx,ext2.1,evO_some,ext2.2,evO_some]
   refine P83h_8_of ?_
   simp only [uf_not,evO_some,Bool.not_false,gdB_bool,tf,cond_false,pick_bool,cond_true,brK_t]
   exact P83h_9_of (give g kind v (by simp [stepL,hro]) f0 r2 r3 r4 hvl)
  | some gr=>
   rw [hro] at hR
   obtain ⟨w,hx,Aw⟩:=hR
   obtain ⟨hne,hgl⟩:=rowF_len hro
   obtain ⟨t0,ts,hts⟩:∃ t0 ts,gr.2=t0::ts:=by
    cases hg:gr.2 with
    | nil=>exact absurd hg hne
    | cons a b=>exact ⟨a,b,rfl⟩
   have hgp:gP gr=((gr.1:Int),(t0:Int))::(ts.map fun t:Nat=>((gr.1:Int),(t:Int))):=by unfold gP;rw [hts];rfl
   have hgne:gP gr≠[]:=by rw [hgp];simp
   have hgpl:(gP gr).length<=line.length:=by unfold gP;rw [List.length_map];exact hgl
   rw [hx,ext2.1,evO_some,ext2.2,evO_some]
   refine P83h_8_of ?_
   have hw0:=Aw
   rcases Aw with ⟨e,_⟩|⟨bw,hw,w1,w2,w3⟩
   ·exact absurd e hgne
   have i0:pIndexAddr E 26 (some w) (some (.int .i64 0))=some (.pointer (some ⟨bw,0+0*2,none⟩)):=by
    rw [hw]
    exact ia_26 (k:=0) (List.length_pos_iff.2 hgne)
   have l0:rLoad E 3 g (some (.pointer (some ⟨bw,0+0*2+0,none⟩)))=some (.int .i64 (gr.1:Int)):=by
    rw [load_leaf (P:=E) ta_3 (o:=0+0*2+0) w3,hgp];rfl
   simp only [uf_not,evO_some,Bool.not_true,gdB_bool,beq_self_eq_true,cond_true,i0,ia54_0,l0,ld3 r6,bf_leq,pick_bool,cond_false]
   by_cases hle:(gr.1:Int)<=last
   ·rw [decide_eq_true hle,brK_t]
    exact P83h_9_of (give g kind v (by simp [stepL,hro,hle]) f0 r2 r3 r4 hvl)
   ·rw [decide_eq_false hle,brK_f]
    refine P83h_10_of ?_
    simp only [i0,ia54_0,l0,evO_some]
    rw [st3 r6,ev_one]
    refine P83h_11_of ?_
    have f1:=f0.upd (b:=n+4) (.inl (.inl ⟨by omega,by omega⟩)) (some (.row [.int .i64 (gr.1:Int)] 3 0 false))
    have fu:Fx (fun x=>x=n+4) g (g.upd (n+4) (some (.row [.int .i64 (gr.1:Int)] 3 0 false))):=(Fx.refl (P:=fun x=>x=n+4) f.ok).upd (.inl rfl) _
    have nbw:∀ x,blkOf w x->h.next<=x:=by
     rintro x ⟨m,q,e⟩
     rw [hw] at e
     simp only [sl,Value.slice.injEq,Option.some.injEq,Addr.mk.injEq] at e
     omega
    have A1:Ac lo (g.upd (n+4) (some (.row [.int .i64 (gr.1:Int)] 3 0 false))) v prs:=(A.fx f fun c _ h=>h).fx fu fun c hc e=>by have:=nbv c hc;omega
    have A2:=(hw0.fx fu fun c hc e=>by have:=nbw c hc;omega).arr
    have q4:=(fu.get (n+2) (by have:=f.next;omega) (by omega)).trans r4
    have q5:=(fu.get (n+3) (by have:=f.next;omega) (by omega)).trans r5
    have q6:(g.upd (n+4) (some (.row [.int .i64 (gr.1:Int)] 3 0 false))).get (n+4)=some (.row [.int .i64 (gr.1:Int)] 3 0 false):=get_upd_self _ _ _
    have gn:(g.upd (n+4) (some (.row [.int .i64 (gr.1:Int)] 3 0 false))).next=g.next:=rfl
    generalize (g.upd (n+4) (some (.row [.int .i64 (gr.1:Int)] 3 0 false)))=g1 at f1 fu A1 A2 q4 q5 q6 gn
    have hgn:=f.next
    obtain ⟨m',v',a1,a2,a3,a4⟩:=A1.appN f1.ok (by omega) A2 hgne (by omega)
    have nbq:∀ x,x<lo->¬ blkOf v x:=fun x hx h=>by have:=nbv x h;omega
    rw [fa_32_1,evO_some,(ld32 q4).2.2,evO_some,a1,ev_one,evO_some,st32p ((a3.get _ (by omega) (nbq _ (by omega))).trans q4) ⟨a2.leaf.1,a2.leaf.2.1⟩,ev_one]
    have f3:=(f1.trans a3 fun c hc=>.inl (.inr hc)).upd (b:=n+2) (.inl (.inl ⟨by omega,by omega⟩)) (some (.row [.int .i64 kind,v'] 32 0 false))
    have:stepL (false,last,kind,prs) (line,true)=some (false,(gr.1:Int),kind,prs++gP gr):=by simp [stepL,hro,hle]
    unfold K83
    rw [this]
    refine ⟨rfl,f3,v',get_upd_self _ _ _,?_,(get_upd_ne (by omega)).trans ((a3.get _ (by omega) (nbq _ (by omega))).trans q5),(get_upd_ne (by omega)).trans ((a3.get _ (by omega) (nbq _ (by omega))).trans q6)⟩
    exact a2.fx ((Fx.refl (P:=fun x=>x=n+2) a3.ok).upd (.inl rfl) _) fun c hc e=>by have:=(a4 c hc).1;omega
noncomputable def loopS (st:LoopState) (pend:Option Code) (T:Tm) (d:Nat):AObj:=.loop st pend T [13,14] B83i B83h d
def O83 (n lo l d:Nat) (v:Value) (h:AH) (T:Tm) (o:Option TxS) (b:Bool) (h':AH):Prop:=match o with
 | some st'=>b=true/\h'.get l=some (loopS .ready none T d)/\Bx83 n lo st' h'/\Fx (fun x=>x=l\/Q83 n v x) h h'
 | none=>b=false/\h'.get l=some (loopS .done (some .ret) T d)/\Dx83 n h'
theorem Q83.toP {n x:Nat} {v:Value} (h:Q83 n v x):P83 n v x:=h.imp (fun e=>⟨by omega,e.2⟩) id
theorem kfx {n lo:Nat} {v:Value} {st:TxS} {q:Bs×Bool} {h g:AH} {ex:Ex} {vs:List Value} (K:K83 n lo v st q h ex vs g):Fx (P83 n v) h g:=by
 unfold K83 at K
 split at K
 ·exact K.2.1.mono fun c hc=>.inl hc.toP
 ·exact K.2.1
theorem round83 {h:AH} {l d n lo:Nat} {v x2 y2 x3:Value} {st:TxS} {q:Bs×Bool} {T:Tm} (hok:h.ok)
  (hl:h.get l=some (loopS .ready none T d)) (hll:l<lo) (hln:n+5<=l)
  (h2:h.get n=some (.row [x2,y2] 32 0 false)) (h3:h.get (n+1)=some (.row [x3] 4 0 false))
  (h4:h.get (n+2)=some (.row [.int .i64 st.2.2.1,v] 32 0 false)) (A:Ac lo h v st.2.2.2) (h5:h.get (n+3)=some (.row [.bool st.1] 4 0 false)) (h6:h.get (n+4)=some (.row [.int .i64 st.2.1] 3 0 false))
  (ln:n+5<=lo) (hlo:lo<=h.next) (hq:q.1.length<=100000) (hc:st.2.2.2.length+q.1.length<=100000)
  (hT:∀ y∈[(2,ptr n),(3,ptr (n+1)),(4,ptr (n+2)),(5,ptr (n+3)),(6,ptr (n+4))],T.get y.1=y.2) :
  ∃ b h',(recI E).round l [sV q.1,.bool q.2] h=some [(.bool b,h')]/\h'.ok/\h'.wm<=l/\Fx (fun x=>x=l\/P83 n v x) h h'/\O83 n lo l d v h T (stepL st q) b h':=by
 have nbv:∀ x,blkOf v x->lo<=x:=by
  rintro x ⟨m,q,e⟩
  rcases A with ⟨_,rfl⟩|⟨b,rfl,e2,_,_⟩
  ·cases e
  ·simp only [sl,Value.slice.injEq,Option.some.injEq,Addr.mk.injEq] at e
   omega
 obtain ⟨h8,hh8⟩:∃ h8,(h.new (.row [sV []] 9 0 false)).upd h.next (some (.row [sV q.1] 9 0 false))=h8:=⟨_,rfl⟩
 have f8:Fx NoB h h8:=by rw [← hh8];exact ((Fx.refl hok).new _).upd (.inr (Nat.le_refl _)) _
 have n8:h8.next=h.next+1:=by rw [← hh8];rfl
 have g8:h8.get h.next=some (.row [sV q.1] 9 0 false):=by rw [← hh8];exact get_upd_self _ _ _
 have o8:∀ c,c<h.next->h8.get c=h.get c:=fun c hc=>f8.get c hc fun h=>h
 have hl8:h8.get l=some (loopS .ready none T d):=(o8 l (by omega)).trans hl
 obtain ⟨hb,hhb⟩:∃ hb,h8.upd l (some (loopS .busy none T d))=hb:=⟨_,rfl⟩
 have fb:Fx (fun x=>x=l) h8 hb:=by rw [← hhb];exact (Fx.refl (P:=fun x=>x=l) f8.ok).upd (.inl rfl) _
 have nb:hb.next=h.next+1:=by rw [← hhb];exact n8
 have ql:hb.get l=some (loopS .busy none T d):=by rw [← hhb];exact get_upd_self _ _ _
 have ob:∀ c,c<h.next->c≠l->hb.get c=h.get c:=fun c hc hcl=>(fb.get c (by omega) hcl).trans (o8 c hc)
 have fhb:Fx (fun x=>x=l) h hb:=(f8.mono (P':=fun x=>x=l) fun c hc=>hc.elim).trans fb fun c hc=>.inl hc
 have key:Ev true ((recI E).round l [sV q.1,.bool q.2] h) fun y=>∃ ex g,K83 n lo v st q hb ex [] g/\y=(.bool (stepL st q).isSome,g.upd l (some (if (stepL st q).isSome=true then loopS .ready none T d else loopS .done (some .ret) T d))):=by
  rw [round_eq]
  unfold roundCall
  rw [hl]
  show Ev true (startRound E (recI E) l B83i B83h h (setParams T [13,14] [sV q.1,.bool q.2])) _
  show Ev true (AM.R.andThen (evC E (recI E) (some l) B83i ⟨(T.put 13 (sV q.1)).put 14 (.bool q.2),h,[]⟩) (midRound E (recI E) l B83h)) _
  have hT':∀ y∈[(2,ptr n),(3,ptr (n+1)),(4,ptr (n+2)),(5,ptr (n+3)),(6,ptr (n+4)),(13,sV q.1),(14,.bool q.2)],((T.put 13 (sV q.1)).put 14 (.bool q.2)).get y.1=y.2:=by
   intro y hy
   rw [Tm.get_put,Tm.get_put]
   simp only [List.mem_cons,List.not_mem_nil,or_false] at hy
   rcases hy with rfl|rfl|rfl|rfl|rfl|rfl|rfl
   ·exact hT _ (by simp)
   ·exact hT _ (by simp)
   ·exact hT _ (by simp)
   ·exact hT _ (by simp)
   ·exact hT _ (by simp)
   ·rfl
   ·rfl
  have ha0:=F83i_ev (s:=true) (ll:=l) (h:=h) (K:=fun ex vs g=>ex=.normal/\vs=[ptr n,ptr (n+1),ptr (n+2),ptr (n+3),ptr (n+4),ptr h.next,.bool q.2]/\g=h8) hT' (P83i_0_of (by
   simp only [z_9,new_row,ev_one,cellsOfV]
   rw [show (Value.string ⟨#[]⟩)=sV [] from rfl,st9 (get_new_self h _),ev_one,hh8]
   exact P83i_1_of ⟨by trivial,by trivial,by trivial⟩))
  refine Ev.andThen (ha0.mono fun o ho=>?_)
  obtain ⟨o1,o2,o3,o4⟩:=ho
  have ho1:o.st.defs=[]:=o1
  have ho3:[o.st.T.get 2,o.st.T.get 3,o.st.T.get 4,o.st.T.get 5,o.st.T.get 6,o.st.T.get 7,o.st.T.get 8]=[ptr n,ptr (n+1),ptr (n+2),ptr (n+3),ptr (n+4),ptr h.next,.bool q.2]:=o3
  simp only [List.cons.injEq,and_true] at ho3
  unfold midRound
  rw [o2,o4,ho1]
  have hl8':=hl8
  simp only [loopS] at hl8'
  simp only [isReady,hl8',cond_true,setLoop,beginRound]
  have hhb':=hhb
  simp only [loopS] at hhb'
  rw [hhb']
  have hT2:∀ y∈[(2,ptr n),(3,ptr (n+1)),(4,ptr (n+2)),(5,ptr (n+3)),(6,ptr (n+4)),(7,ptr h.next),(8,.bool q.2)],o.st.T.get y.1=y.2:=by
   intro y hy
   simp only [List.mem_cons,List.not_mem_nil,or_false] at hy
   rcases hy with rfl|rfl|rfl|rfl|rfl|rfl|rfl
   ·exact ho3.1
   ·exact ho3.2.1
   ·exact ho3.2.2.1
   ·exact ho3.2.2.2.1
   ·exact ho3.2.2.2.2.1
   ·exact ho3.2.2.2.2.2.1
   ·exact ho3.2.2.2.2.2.2
  have hb0:=body83 (h:=hb) (l:=l) (n:=n) (b7:=h.next) (lo:=lo) (v:=v) (st:=st) (q:=q) (T:=o.st.T) fb.ok ((ob n (by omega) (by omega)).trans h2) ((ob _ (by omega) (by omega)).trans h3) ((ob _ (by omega) (by omega)).trans h4)
   ((A.fx f8 fun c _ h=>h).fx fb fun c hc e=>by have:=nbv c hc;omega) ((ob _ (by omega) (by omega)).trans h5) ((ob _ (by omega) (by omega)).trans h6) ((fb.get _ (by omega) (by omega)).trans g8) (by omega) ln (by omega) (by omega) hq hc hT2
  refine Ev.andThen (hb0.mono fun p hp=>?_)
  obtain ⟨_,p2⟩:=hp
  have p3:K83 n lo v st q hb p.ex [] p.st.h:=p2
  have p4:=id p3
  have f:=kfx p3
  have gl:p.st.h.get l=some (loopS .busy none T d):=(f.get l (by omega) (by
   rintro (⟨_,e⟩|e)
   ·omega
   ·have:=nbv l e;omega)).trans ql
  simp only [loopS] at gl
  unfold endRound
  unfold K83 at p4
  cases hs:stepL st q with
  | some st'=>
   rw [hs] at p4
   rw [p4.1]
   simp only [jumpOf,setLoop,gl,endRoundAt,Option.isNone,cond_true]
   exact Ev.one ⟨_,_,p3,by simp [loopS]⟩
  | none=>
   rw [hs] at p4
   rw [p4.1]
   simp only [jumpOf,setLoop,gl,endRoundAt,Option.isNone,cond_false]
   exact Ev.one ⟨_,_,p3,by simp [loopS]⟩
 obtain ⟨y,e,ex,g,hy,rfl⟩:=ev_inv key
 have f:=kfx hy
 have p4:=hy
 unfold K83 at p4
 refine ⟨_,_,e,ok_upd f.ok _ _,(upd_wm _ _ _).2,((fhb.mono (P':=fun x=>x=l\/P83 n v x) fun c hc=>.inl (.inl hc)).trans f fun c hc=>.inl (.inr hc)).upd (.inl (.inl rfl)) _,?_⟩
 have fl:∀ x,Fx (fun x=>x=l) g (g.upd l x):=fun x=>(Fx.refl (P:=fun x=>x=l) f.ok).upd (.inl rfl) _
 unfold O83
 cases hs:stepL st q with
 | some st'=>
  rw [hs] at p4
  obtain ⟨_,fq,w,b1,b2,b3,b4⟩:=p4
  refine ⟨rfl,by rw [get_upd_self];rfl,⟨w,(get_upd_ne (by omega)).trans b1,b2.fx (fl _) fun c hc e=>?_,(get_upd_ne (by omega)).trans b3,(get_upd_ne (by omega)).trans b4⟩,((fhb.mono (P':=fun x=>x=l\/Q83 n v x) fun c hc=>.inl (.inl hc)).trans fq fun c hc=>.inl (.inr hc)).upd (.inl (.inl rfl)) _⟩
  have hlx:lo<=c:=by
   obtain ⟨m,q',e'⟩:=hc
   rcases b2 with ⟨_,rfl⟩|⟨b,rfl,e2,_,_⟩
   ·cases e'
   ·simp only [sl,Value.slice.injEq,Option.some.injEq,Addr.mk.injEq] at e'
    omega
  omega
 | none=>
  rw [hs] at p4
  obtain ⟨_,_,⟨kd,w,b1,b2⟩,b3⟩:=p4
  exact ⟨rfl,by rw [get_upd_self];rfl,⟨kd,w,(get_upd_ne (by omega)).trans b1,b2⟩,(get_upd_ne (by omega)).trans b3⟩
theorem stepL_len {st st':TxS} {q:Bs×Bool} (h:stepL st q=some st'):st'.2.2.2.length<=st.2.2.2.length+q.1.length+1:=by
 unfold stepL at h
 split at h
 ·cases h
 ·split at h
  ·split at h
   ·cases h;simp only;omega
   ·cases h
  ·split at h
   ·cases h
   ·rename_i g hg
    split at h
    ·cases h
    ·cases h
     have:=(rowF_len hg).2
     simp only [List.length_append,gP,List.length_map]
     omega
def J83 (kC:AH) (n:Nat) (st:TxS) (h:AH):Prop:=kC.next<=h.next/\(∀ c,c<kC.next->¬ (n+2<=c/\c<=n+5)->h.get c=kC.get c)/\Bx83 n kC.next st h
def D83 (kC:AH) (n d:Nat) (T:Tm) (h:AH):Prop:=kC.next<=h.next/\(∀ c,c<kC.next->¬ (n<=c/\c<=n+5)->c≠n+7->h.get c=kC.get c)/\h.get (n+7)=some (loopS .done (some .ret) T d)/\Dx83 n h
theorem itr83 {kC:AH} {n d:Nat} {x2 y2 x3:Value} {T:Tm} (hn:kC.next=n+8) (hl:kC.get (n+7)=some (loopS .ready none T d)) (h2:kC.get n=some (.row [x2,y2] 32 0 false)) (h3:kC.get (n+1)=some (.row [x3] 4 0 false))
  (hT:∀ y∈[(2,ptr n),(3,ptr (n+1)),(4,ptr (n+2)),(5,ptr (n+3)),(6,ptr (n+4))],T.get y.1=y.2) :
  Itr n (n+7) (n+5) 100000 (fun st:TxS=>st.2.2.2.length) (fun q:Bs×Bool=>q.1.length) (J83 kC n) (D83 kC n d T) stepL (fun q=>[sV q.1,.bool q.2]):=by
 refine ⟨fun st q st' e=>stepL_len e,?_,?_,?_,⟨by omega,by omega⟩,?_⟩
 ·rintro st h h' ⟨j1,j2,v,j3,j4,j5,j6⟩ hn' hg
  refine ⟨by omega,fun x h1 h2=>(hg x (fun e=>h2 (by omega))).trans (j2 x h1 h2),v,(hg _ (by omega)).trans j3,?_,(hg _ (by omega)).trans j5,(hg _ (by omega)).trans j6⟩
  rcases j4 with e|⟨b,e1,e2,e3,e4⟩
  ·exact .inl e
  ·exact .inr ⟨b,e1,e2,by omega,(hg b (by omega)).trans e4⟩
 ·rintro h h' ⟨j1,j2,j3,⟨kd,v2,j4,j5⟩,j6⟩ hn' hg
  exact ⟨by omega,fun x h1 h2 h3=>(hg x (fun e=>h2 (by omega))).trans (j2 x h1 h2 h3),(hg _ (by omega)).trans j3,⟨kd,v2,(hg _ (by omega)).trans j4,j5⟩,(hg _ (by omega)).trans j6⟩
 ·rintro st h ⟨j1,_⟩
  omega
 ·rintro st q h hc ⟨j1,j2,v,j3,j4,j5,j6⟩ hok hw
  have hc:st.2.2.2.length+q.1.length<=100000:=hc
  obtain ⟨b,h',r1,r2,r3,f,r4⟩:=round83 (h:=h) (l:=n+7) (d:=d) (n:=n) (lo:=kC.next) (v:=v) (st:=st) (q:=q) (T:=T) hok ((j2 _ (by omega) (by omega)).trans hl) (by omega) (by omega)
   ((j2 _ (by omega) (by omega)).trans h2) ((j2 _ (by omega) (by omega)).trans h3) j3 j4 j5 j6 (by omega) j1 (by omega) (by omega) hT
  have nbv:∀ x,blkOf v x->kC.next<=x:=by
   rintro x ⟨m,q,e⟩
   rcases j4 with ⟨_,rfl⟩|⟨b,rfl,e2,_,_⟩
   ·cases e
   ·simp only [sl,Value.slice.injEq,Option.some.injEq,Addr.mk.injEq] at e
    omega
  have hnx:=f.next
  have hP:∀ c,c<kC.next->¬ (n<=c/\c<=n+5)->c≠n+7->h'.get c=h.get c:=fun c c1 c2 c3=>f.get c (by omega) (by
   rintro (e|⟨_,_⟩|e)
   ·omega
   ·omega
   ·have:=nbv c e;omega)
  have hbs:h'.get (n+5)=h.get (n+5):=f.get _ (by omega) (by
   rintro (e|⟨_,_⟩|e)
   ·omega
   ·omega
   ·have:=nbv _ e;omega)
  refine ⟨b,h',r1,r2,r3,f.ofEq hw (by omega) (by
   rintro c (e|⟨_,_⟩|e)
   ·omega
   ·omega
   ·have:=nbv _ e;omega),hbs,hnx,?_⟩
  unfold O83 at r4
  cases hs:stepL st q with
  | some st'=>
   rw [hs] at r4
   obtain ⟨rfl,s1,s2,fq⟩:=r4
   refine .inl ⟨rfl,st',rfl,by omega,fun c c1 c2=>?_,s2⟩
   by_cases hx:c=n+7
   ·rw [hx,s1,hl]
   ·exact (fq.get c (by omega) (by
     rintro (e|⟨_,_⟩|e)
     ·omega
     ·omega
     ·have:=nbv c e;omega)).trans (j2 c c1 c2)
  | none=>
   rw [hs] at r4
   obtain ⟨rfl,s1,s2⟩:=r4
   exact .inr ⟨rfl,rfl,by omega,fun c c1 c2 c3=>(hP c c1 c2 c3).trans (j2 c c1 (by omega)),s1,s2⟩
theorem B83_eq:B83=.seq B83a (.seq B83b (.seq B83c (.seq (.seq B83f (.block 0 (.rangeFunc (.tmp 12) #[13,14] B83i B83h))) B83g))):=by kernel_rfl
theorem end83 {T:Tm} {h h':AH} {ds:List Nat} {b2 b3:Nat} {v w:Value} {b:Bool} (hk:killAll ds h=some h') (t2:T.get 2=ptr b2) (t3:T.get 3=ptr b3) (h2:h'.get b2=some (.row [v,w] 32 0 false)) (h3:h'.get b3=some (.row [.bool b] 4 0 false)) :
  endCall E Tryz.f83 ⟨.ret,⟨T,h,ds⟩⟩=one (.tuple #[.agg ⟨[v,w]⟩,.bool b],h'):=by
 have hres:Tryz.f83.results.toList=[.cell 2 32,.cell 3 4]:=by kernel_rfl
 have l2:loadV E 32 (ptr b2) h'=some (.agg ⟨[v,w]⟩):=load_agg (P:=E) ta_32 (o:=0) h2 (by simp)
 have l3:loadV E 4 (ptr b3) h'=some (.bool b):=load_leaf (P:=E) ta_4 (o:=0) h3
 have:endCall E Tryz.f83 ⟨.ret,⟨T,h,ds⟩⟩=endCallAt E Tryz.f83 T (killAll ds h):=rfl
 rw [this,hk]
 simp only [endCallAt,resultsV,hres,resVars,t2,t3,l2,l3,v1]
def Q83r (lo:Nat) (l:Bs) (x:Value) (g:AH):Prop:=∃ kd w ok,x=.tuple #[.agg ⟨[.int .i64 kd,w]⟩,.bool ok]/\(isLeaf w=true/\cellsOfV w=[w])/\match readF l with
 | some B=>ok=true/\kd=B.kind/\Ac lo g w B.prs
 | none=>ok=false
theorem readF_eq (l:Bs):readF l=match rdS stepL l.length (true,-1,0,[]) l with
  | some st=>if st.1=false/\lnkErr ⟨st.2.2.1,st.2.2.2⟩=0 then some ⟨st.2.2.1,st.2.2.2⟩ else none
  | none=>none:=by
 unfold readF
 rw [rd_rdS]
 cases rdS stepL l.length (true,-1,0,[]) l <;> rfl
theorem z32:zeroV E 32=some (.agg ⟨[.int .i64 0,.slice none 0 0]⟩):=by kernel_rfl
theorem bs83' {a b:Value} {h:AH}:wBuildSlice E 83 1 (some [(0,.agg ⟨[a,b]⟩)]) h=one (.slice (some ⟨h.next,0,none⟩) 1 1,h.new (.row [a,b] 32 0 false)):=by kernel_rfl
theorem veqB {a:Int} {w:Value} (hw:∃ x n c,w=.slice x n c):veq 100 (.agg ⟨[.int .i64 a,w]⟩) (.agg ⟨[.int .i64 a,w]⟩)=true:=by
 obtain ⟨x,n,c,rfl⟩:=hw
 show veqs 99 [.int .i64 a,.slice x n c] [.int .i64 a,.slice x n c]=true
 simp only [veqs,veq_int,veq_slice,Bool.and_self]
def KG83 (k:AH) (n d:Nat) (w:Value) (st:TxS):KF:=fun ex vs g'=>ex=Ex.ret/\vs=[ptr n,ptr (n+1)]/\∃ ok,(ok=true ↔ st.1=false/\lnkErr ⟨st.2.2.1,st.2.2.2⟩=0)/\Own k g'/\g'.get d=some .defd/\g'.get n=some (.row [.int .i64 st.2.2.1,w] 32 0 false)/\g'.get (n+1)=some (.row [.bool ok] 4 0 false)/\Ac (n+8) g' w st.2.2.2
theorem tail83 {k h:AH} {d n:Nat} {st:TxS} {T:Tm} {w x2 y2 x3:Value} (o:Own k h) (hn:n=k.next) (hd:d=n+6) (hh:n+8<=h.next) (gd:h.get d=some .defd)
  (h2:h.get n=some (.row [x2,y2] 32 0 false)) (h3:h.get (n+1)=some (.row [x3] 4 0 false)) (h4:h.get (n+2)=some (.row [.int .i64 st.2.2.1,w] 32 0 false)) (A:Ac (n+8) h w st.2.2.2) (h5:h.get (n+3)=some (.row [.bool st.1] 4 0 false))
  (hl:st.2.2.2.length<=100001) (t2:T.get 2=ptr n) (t3:T.get 3=ptr (n+1)) (t4:T.get 4=ptr (n+2)) (t5:T.get 5=ptr (n+3)) :
  Ev true (evC E (recI E) none B83g ⟨T,h,[d]⟩) fun o=>Ev true (endCall E Tryz.f83 o) fun x=>(∃ ok,x.1=.tuple #[.agg ⟨[.int .i64 st.2.2.1,w]⟩,.bool ok]/\(ok=true ↔ st.1=false/\lnkErr ⟨st.2.2.1,st.2.2.2⟩=0)/\Ac k.next x.2 w st.2.2.2)/\Own k x.2:=by
 have hws:∃ x n c,w=.slice x n c:=by obtain ⟨_,_,a,c,e⟩:=A.leaf;exact ⟨_,_,_,e⟩
 have hwl:=A.leaf.1
 have nbw:∀ x,blkOf w x->n+8<=x:=by
  rintro x ⟨m,q,e⟩
  rcases A with ⟨_,rfl⟩|⟨b,rfl,e2,_,_⟩
  ·cases e
  ·simp only [sl,Value.slice.injEq,Option.some.injEq,Addr.mk.injEq] at e
   omega
 have fin:∀ (g:AH) (ok:Bool),Own k g->g.next ≥ n+8->(∀ c,c<h.next->g.get c=h.get c)->h.next<=g.next->(ok=true ↔ st.1=false/\lnkErr ⟨st.2.2.1,st.2.2.2⟩=0)->
   Ev true (wStore E 32 g (some (ptr n)) (some (.agg ⟨[.int .i64 st.2.2.1,w]⟩))) fun x9=>Ev true (wStore E 4 x9.2 (some (ptr (n+1))) (some (.bool ok))) fun x10=>
    KG83 k n d w st .ret [ptr n,ptr (n+1)] x10.2:=by
  intro g ok og hgn hgo hgn2 hiff
  rw [st32 ((hgo _ (by omega)).trans h2) rfl hwl,ev_one,st4 ((get_upd_ne (by omega)).trans ((hgo _ (by omega)).trans h3)),ev_one]
  refine ⟨rfl,rfl,ok,hiff,(og.upd (by omega) _).upd (by omega) _,(get_upd_ne (by omega)).trans ((get_upd_ne (by omega)).trans ((hgo _ (by omega)).trans gd)),(get_upd_ne (by omega)).trans (get_upd_self _ _ _),get_upd_self _ _ _,?_⟩
  rcases A with e|⟨b,e1,e2,e3,e4⟩
  ·exact .inl e
  ·exact .inr ⟨b,e1,e2,by show b<g.next;omega,(get_upd_ne (by omega)).trans ((get_upd_ne (by omega)).trans ((hgo _ e3).trans e4))⟩
 have hg:=F83g_ev (s:=true) (d:=d) (v2:=ptr n) (v3:=ptr (n+1)) (v4:=ptr (n+2)) (v5:=ptr (n+3)) (T:=T) (h:=h) (K:=KG83 k n d w st) (by
  intro y hy
  simp only [List.mem_cons,List.not_mem_nil,or_false] at hy
  rcases hy with rfl|rfl|rfl|rfl
  ·exact t2
  ·exact t3
  ·exact t4
  ·exact t5) (P83g_0_of (by
  have ff:(false==true)=false:=rfl
  rw [(ld32 h4).1,evO_some,ld4 h5,evO_some,uf_not,evO_some]
  cases hf:st.1 with
  | true=>
   simp only [Bool.not_true,gdB_bool,gdW_bool,ff,cond_false,evO_some,ev_one,(ld32 h4).1,pick_bool]
   refine ⟨veqB hws,veqB hws,?_⟩
   exact fin h false o hh (fun _ _=>rfl) (Nat.le_refl _) (by rw [hf];simp)
  | false=>
   obtain ⟨m,e,nm,tm,om,fm⟩:=nw o (.row [.int .i64 st.2.2.1,w] 32 0 false)
   have h4m:=(fm (n+2) (by omega)).trans h4
   have c71:=call71 (h0:=m) (k:=m) (v:=.slice (some ⟨h.next,0,none⟩) 1 1) (els:=[[.int .i64 st.2.2.1,w]]) (Bs:=[⟨st.2.2.1,st.2.2.2⟩]) (Arr.row (els:=[[.int .i64 st.2.2.1,w]]) tm (by omega) (by simp) (fun i ee hee=>by
     match i with
     | 0=>simp at hee;subst hee;exact ⟨rfl,rfl⟩
     | i+1=>simp at hee)) rfl (by simp) (fun i ee BB x1 x2=>by
     match i with
     | 0=>
      simp at x1 x2;subst x1 x2
      refine ⟨⟨w,rfl,?_⟩⟩
      have A':Ac (n+8) m w st.2.2.2:=by
       rcases A with e|⟨b,e1,e2,e3,e4⟩
       ·exact .inl e
       ·exact .inr ⟨b,e1,e2,by omega,(fm b e3).trans e4⟩
      exact A'.arr
     | i+1=>simp at x1) (Ext.refl om.ext.ok)
   rw [show ([[Value.int IntKind.i64 st.2.2.1,w]]:List (List Value)).length=1 from rfl,err1] at c71
   simp only [Bool.not_false,gdB_bool,gdW_bool,beq_self_eq_true,cond_true,evO_some,(ld32 h4).1,bs83',ev_one,e,(ld32 h4m).1,wCall_0,c71,ev_some,bf_eql,pick_bool]
   refine ⟨veqB hws,veqB hws,?_⟩
   refine fin m _ om (by omega) fm (by omega) ?_
   rw [hf]
   simp))
 refine hg.mono fun o ho=>?_
 obtain ⟨ex,T2',g2,ds⟩:=o
 obtain ⟨o1',o2',o3',ok,q1,q2,q3,q4,q5,q6⟩:=ho
 have o1'':ds=[d]:=o1'
 have o2'':ex=.ret:=o2'
 have o3'':[T2'.get 2,T2'.get 3]=[ptr n,ptr (n+1)]:=o3'
 subst o1'' o2''
 simp only [List.cons.injEq,and_true] at o3''
 simp only at q2 q3 q4 q5 q6
 rw [end83 (b:=ok) (v:=.int .i64 st.2.2.1) (w:=w) (h':=g2.upd d none) (by simp only [killAll,q3]) o3''.1 o3''.2 ((get_upd_ne (by omega)).trans q4) ((get_upd_ne (by omega)).trans q5),ev_one]
 refine ⟨⟨ok,rfl,q1,?_⟩,q2.upd (by omega) _⟩
 rcases q6 with e|⟨b,e1,e2,e3,e4⟩
 ·exact .inl e
 ·exact .inr ⟨b,e1,by omega,e3,(get_upd_ne (by omega)).trans e4⟩
theorem rdS_len:∀ (f:Nat) (st st':TxS) (l:Bs),l.length<=f->rdS stepL f st l=some st'->st'.2.2.2.length<=st.2.2.2.length+l.length+1
 | 0,st,st',l,_,h=>by cases h;omega
 | f+1,st,st',l,hf,h=>by
  simp only [rdS] at h
  by_cases hl:l=[]
  ·rw [if_pos hl] at h;cases h;omega
  ·rw [if_neg hl] at h
   cases hs:stepL st ((cutF 10 l).1,(cutF 10 l).2.2) with
   | none=>rw [hs] at h;cases h
   | some st1=>
    rw [hs] at h
    have h1:=stepL_len hs
    have hpos:0<l.length:=List.length_pos_iff.2 hl
    simp only at h1
    cases hc:(cutF 10 l).2.2 with
    | true=>
     obtain ⟨x1,x2,x3⟩:=cutF_len 10 l hc
     have:(cutF 10 l).2.1.length+(cutF 10 l).1.length+1=l.length:=by rw [← x2,List.length_drop];omega
     have:=rdS_len f st1 st' _ (by omega) h
     omega
    | false=>
     rw [hc] at hs
     simp [stepL] at hs
theorem call83 {k:AH} {l:Bs} (hok:k.ok) (hl:l.length<=100000):Ev true ((recI E).call 83 [sV l] k) fun x=>Q83r k.next l x.1 x.2/\Fx NoB k x.2:=by
 have main:Ev true (AM.R.andThen (evC E (recI E) none (bodyOf Tryz.f83) ⟨⟨Tryz.f83.ntmps,initT [sV l] 0 .e⟩,k.fresh,[]⟩) (endCall E Tryz.f83)) fun x=>Q83r k.next l x.1 x.2/\Fx NoB k.fresh x.2:=by
  show Ev true (AM.R.andThen (evC E (recI E) none B83 _) (endCall E Tryz.f83)) _
  have hT0:∀ y∈[(0,sV l)],(⟨Tryz.f83.ntmps,initT [sV l] 0 .e⟩:Tm).get y.1=y.2:=by
   intro y hy
   simp only [List.mem_cons,List.not_mem_nil,or_false] at hy
   subst hy;kernel_rfl
  generalize (⟨Tryz.f83.ntmps,initT [sV l] 0 .e⟩:Tm)=T0 at hT0
  rw [B83_eq]
  refine Ev.andThen ?_
  obtain ⟨k1,e1,n1,t1,o1,f1⟩:=nwF k (.row [.int .i64 0,.slice none 0 0] 32 0 false)
  obtain ⟨k2,e2,n2,t2,o2,f2⟩:=nw o1 (.row [.bool false] 4 0 false)
  rw [n1] at t2
  have g2:=(f2 k.next (by omega)).trans t1
  refine seg_ok (F83a_ev (s:=true) (h:=k.fresh) (K:=fun ex vs g=>ex=.normal/\vs=[sV l,ptr k.next,ptr (k.next+1)]/\g=k2) hT0 (P83a_0_of (by
   simp only [z32,z_4,new_row,ev_one,evO_some,cells_agg,cells_bool,e1,next_fresh,e2,n1]
   exact ⟨by trivial,by trivial,by trivial⟩))) rfl ?_
  rintro ex T g ⟨rfl,hv,rfl⟩
  refine .inl ⟨rfl,?_⟩
  have hv':[T.get 0,T.get 2,T.get 3]=[sV l,ptr k.next,ptr (k.next+1)]:=hv
  simp only [List.cons.injEq,and_true] at hv'
  obtain ⟨k3,e3,n3,t3,o3,f3⟩:=nw o2 (.row [.int .i64 0,.slice none 0 0] 32 0 false)
  rw [n2,n1] at t3
  refine seg_ok (F83b_ev (s:=true) (v0:=sV l) (v2:=ptr k.next) (v3:=ptr (k.next+1)) (T:=T) (h:=g) (K:=fun ex vs g'=>ex=.normal/\vs=[sV l,ptr k.next,ptr (k.next+1),ptr (k.next+2)]/\g'=k3) (by
   intro y hy
   simp only [List.mem_cons,List.not_mem_nil,or_false] at hy
   rcases hy with rfl|rfl|rfl
   ·exact hv'.1
   ·exact hv'.2.1
   ·exact hv'.2.2) (P83b_0_of (by
   simp only [z32,new_row,ev_one,cells_agg,e3,n2,n1,show k.next+1+1=k.next+2 from rfl]
   exact ⟨by trivial,by trivial,by trivial⟩))) rfl ?_
  rintro ex T1 g3 ⟨rfl,hv,rfl⟩
  refine .inl ⟨rfl,?_⟩
  have hv1:[T1.get 0,T1.get 2,T1.get 3,T1.get 4]=[sV l,ptr k.next,ptr (k.next+1),ptr (k.next+2)]:=hv
  simp only [List.cons.injEq,and_true] at hv1
  have m3:g3.next=k.next+3:=by omega
  obtain ⟨k4,e4,n4,t4,o4,f4⟩:=nw o3 (.row [.bool false] 4 0 false)
  obtain ⟨k5,e5,n5,t5,o5,f5⟩:=nw o4 (.row [.int .i64 0] 3 0 false)
  rw [m3] at t4 n4
  rw [n4] at t5 n5
  obtain ⟨k6,e6,n6,t6,o6,f6⟩:=up o5 (b:=k.next+3) (by omega) (.row [.bool true] 4 0 false)
  obtain ⟨k7,e7,n7,t7,o7,f7⟩:=up o6 (b:=k.next+4) (by omega) (.row [.int .i64 (-1)] 3 0 false)
  have t4':=(f5 _ (by omega)).trans t4
  have t5':k6.get (k.next+3+1)=some (.row [.int .i64 0] 3 0 false):=(f6 _ (by omega)).trans t5
  refine seg_ok (F83c_ev (s:=true) (v0:=sV l) (v2:=ptr k.next) (v3:=ptr (k.next+1)) (v4:=ptr (k.next+2)) (T:=T1) (h:=g3) (K:=fun ex vs g'=>ex=.normal/\vs=[sV l,ptr k.next,ptr (k.next+1),ptr (k.next+2),ptr (k.next+3),ptr (k.next+4)]/\g'=k7) (by
   intro y hy
   simp only [List.mem_cons,List.not_mem_nil,or_false] at hy
   rcases hy with rfl|rfl|rfl|rfl
   ·exact hv1.1
   ·exact hv1.2.1
   ·exact hv1.2.2.1
   ·exact hv1.2.2.2) (P83c_0_of (by
   simp only [z_4,z_3,new_row,ev_one,cells_bool,cells_int,e4,e5,m3,n4]
   rw [st4 t4',ev_one,e6,st3 t5',ev_one,show k.next+3+1=k.next+4 from rfl,e7]
   exact ⟨by trivial,by trivial,by trivial⟩))) rfl ?_
  rintro ex T2 g7 ⟨rfl,hv,rfl⟩
  refine .inl ⟨rfl,?_⟩
  have hv2:[T2.get 0,T2.get 2,T2.get 3,T2.get 4,T2.get 5,T2.get 6]=[sV l,ptr k.next,ptr (k.next+1),ptr (k.next+2),ptr (k.next+3),ptr (k.next+4)]:=hv
  simp only [List.cons.injEq,and_true] at hv2
  have m7:g7.next=k.next+5:=by omega
  have old:∀ c,c<k.next+3->g7.get c=g3.get c:=fun c hc=>(f7 _ (by omega)).trans ((f6 _ (by omega)).trans ((f5 _ (by omega)).trans (f4 _ (by omega))))
  have c2:=(old _ (by omega)).trans ((f3 _ (by omega)).trans g2)
  have c3:=(old _ (by omega)).trans ((f3 _ (by omega)).trans t2)
  have c4:=(old _ (by omega)).trans t3
  have c5:=(f7 (k.next+3) (by omega)).trans t6
  show Ev true (AM.R.andThen (AM.R.andThen (evC E (recI E) none B83f ⟨T2,g7,[]⟩) (thenC (evC E (recI E) none (.block 0 (.rangeFunc (.tmp 12) #[13,14] B83i B83h))))) (thenC (evC E (recI E) none B83g))) _
  refine Ev.andThen (Ev.andThen ?_)
  have hfe:=F83f_ev (s:=true) (v0:=sV l) (v2:=ptr k.next) (v3:=ptr (k.next+1)) (v4:=ptr (k.next+2)) (v5:=ptr (k.next+3)) (v6:=ptr (k.next+4)) (T:=T2) (h:=g7) (K:=fun ex vs g=>∃ v,ex=.normal/\vs=[ptr k.next,ptr (k.next+1),ptr (k.next+2),ptr (k.next+3),ptr (k.next+4),v] ∧
    v=.func (.func 182) #[] #[ptr g7.next]/\g.next=g7.next+1/\g.ok/\(∀ w,w<=g7.wm->w<=g7.next->w<=g.wm)/\g.get g7.next=some (.row [sV l] 9 0 false)/\∀ c,c<g7.next->g.get c=g7.get c) (by
   intro y hy
   simp only [List.mem_cons,List.not_mem_nil,or_false] at hy
   rcases hy with rfl|rfl|rfl|rfl|rfl|rfl
   ·exact hv2.1
   ·exact hv2.2.1
   ·exact hv2.2.2.1
   ·exact hv2.2.2.2.1
   ·exact hv2.2.2.2.2.1
   ·exact hv2.2.2.2.2.2) (P83f_0_of (by
   rw [wCall_0]
   exact call133.mono fun y hy=>⟨y.1,rfl,rfl,hy⟩))
  refine hfe.mono fun o ho=>?_
  obtain ⟨ex,T',kB,ds⟩:=o
  obtain ⟨p1,v,p2,p3,y1,nB,okB,wB,s1,bo⟩:=ho
  have p1':ds=[]:=p1
  have p2':ex=.normal:=p2
  subst p1' p2'
  clear p1 p2
  have p3':[T'.get 2,T'.get 3,T'.get 4,T'.get 5,T'.get 6,T'.get 12]=[ptr k.next,ptr (k.next+1),ptr (k.next+2),ptr (k.next+3),ptr (k.next+4),v]:=p3
  rw [y1] at p3'
  simp only [List.cons.injEq,and_true] at p3'
  obtain ⟨u2,u3,u4,u5,u6,u12⟩:=p3'
  clear p3
  simp only at nB okB wB s1 bo
  rw [m7] at nB s1 bo u12
  show Ev true (AM.R.andThen (evRange E (recI E) none (some (T'.get 12)) [13,14] B83i B83h ⟨T',kB,[]⟩) (blockOut 0)) _
  rw [u12]
  have hhb:hasBody E 182=true:=by kernel_rfl
  have hst:evRange E (recI E) none (some (.func (.func 182) #[] #[ptr (k.next+5)])) [13,14] B83i B83h ⟨T',kB,[]⟩ =
    AM.R.andThen ((recI E).call 182 [.func (.yield (kB.next+1)) #[] #[],ptr (k.next+5)] ((kB.new .defd).new (loopS .ready none T' kB.next))) fun x=>endRange (kB.next+1) T' [kB.next] x.2:=by
   unfold evRange
   simp only [hhb,cond_true]
   rfl
  rw [hst]
  refine Ev.andThen (Ev.andThen ?_)
  have okC:((kB.new .defd).new (loopS .ready none T' kB.next)).ok:=ok_new (ok_new okB _) _
  have cl':((kB.new .defd).new (loopS .ready none T' kB.next)).get (kB.next+1)=some (loopS .ready none T' kB.next):=get_new_self (kB.new .defd) _
  have cd:((kB.new .defd).new (loopS .ready none T' kB.next)).get kB.next=some .defd:=(get_new_ne (by simp)).trans (get_new_self kB _)
  have co:∀ c,c<kB.next->((kB.new .defd).new (loopS .ready none T' kB.next)).get c=kB.get c:=fun c hc=>(get_new_ne (by simp;omega)).trans (get_new_ne (by omega))
  have nC:((kB.new .defd).new (loopS .ready none T' kB.next)).next=kB.next+2:=rfl
  have wC:((kB.new .defd).new (loopS .ready none T' kB.next)).wm=kB.wm:=rfl
  rw [nB] at okC wC cl' cd co nC ⊢
  rw [show k.next+5+1=k.next+6 from rfl] at okC wC cl' cd co nC ⊢
  rw [show k.next+6+1=k.next+7 from rfl] at cl' ⊢
  generalize ((kB.new .defd).new (loopS .ready none T' (k.next+6)))=kC at okC cl' cd co nC wC
  have cg:∀ c,c<k.next+5->kC.get c=g7.get c:=fun c hc=>(co c (by omega)).trans (bo c hc)
  have eC:Ext k kC:=⟨okC,by omega,fun c hc=>(cg c (by omega)).trans (o7.ext.get c hc)⟩
  have hw0:k.next<=kC.wm:=by rw [wC];exact wB _ o7.wm (by omega)
  have hI:=itr83 (kC:=kC) (n:=k.next) (d:=k.next+6) (T:=T') (by omega) cl' ((cg _ (by omega)).trans c2) ((cg _ (by omega)).trans c3) (by
   intro y hy
   simp only [List.mem_cons,List.not_mem_nil,or_false] at hy
   rcases hy with rfl|rfl|rfl|rfl|rfl
   ·exact u2
   ·exact u3
   ·exact u4
   ·exact u5
   ·exact u6)
  have hJ0:J83 kC k.next (true,-1,0,[]) kC:=⟨Nat.le_refl _,fun _ _ _=>rfl,.slice none 0 0,(cg _ (by omega)).trans c4,.inl ⟨rfl,rfl⟩,(cg _ (by omega)).trans c5,(cg _ (by omega)).trans t7⟩
  have after:∀ (st:TxS) (h:AH),rdS stepL l.length (true,-1,0,[]) l=some st->h.ok->k.next<=h.wm->J83 kC k.next st h->Ev true (endRange (k.next+7) T' [k.next+6] h) fun y=>Ev true (blockOut 0 y) fun y=>Ev true (thenC (evC E (recI E) none B83g) y) fun y=>Ev true (endCall E Tryz.f83 y) fun x=>Q83r k.next l x.1 x.2/\Fx NoB k.fresh x.2:=by
   rintro st h hrd okh w0h ⟨j1,j2,w,j3,j4,j5,j6⟩
   have hgl:h.get (k.next+7)=some (loopS .ready none T' (k.next+6)):=(j2 _ (by omega) (by omega)).trans cl'
   have her:endRange (k.next+7) T' [k.next+6] h=one ⟨.normal,⟨T',h.upd (k.next+7) (some (loopS .exhausted none T' (k.next+6))),[k.next+6]⟩⟩:=by
    unfold endRange
    rw [hgl]
    rfl
   rw [her,ev_one]
   show Ev true (one _) _
   rw [ev_one]
   have hO:Own k h:=⟨⟨okh,by omega,fun c hc=>(j2 c (by omega) (by omega)).trans (eC.get c hc)⟩,w0h⟩
   show Ev true (evC E (recI E) none B83g ⟨T',h.upd (k.next+7) (some (loopS .exhausted none T' (k.next+6))),[k.next+6]⟩) _
   refine (tail83 (k:=k) (h:=h.upd (k.next+7) (some (loopS .exhausted none T' (k.next+6)))) (d:=k.next+6) (n:=k.next) (st:=st) (T:=T') (w:=w) (hO.upd (by omega) _) rfl rfl (by show _<=h.next;omega) ((get_upd_ne (by omega)).trans ((j2 _ (by omega) (by omega)).trans cd))
    ((get_upd_ne (by omega)).trans ((j2 _ (by omega) (by omega)).trans ((cg _ (by omega)).trans c2))) ((get_upd_ne (by omega)).trans ((j2 _ (by omega) (by omega)).trans ((cg _ (by omega)).trans c3))) ((get_upd_ne (by omega)).trans j3) ?_ ((get_upd_ne (by omega)).trans j5)
    (by have:=rdS_len _ _ _ _ (Nat.le_refl _) hrd;simp at this;omega) u2 u3 u4 u5).mono fun o ho=>ho.mono ?_
   ·rcases j4 with e|⟨b,e1,e2,e3,e4⟩
    ·exact .inl e
    ·exact .inr ⟨b,e1,by omega,e3,(get_upd_ne (by omega)).trans e4⟩
   ·rintro ⟨x,g⟩ ⟨⟨ok,x1,x2,x3⟩,x4⟩
    simp only at x1 x3 x4 ⊢
    refine ⟨⟨_,w,ok,x1,⟨x3.leaf.1,x3.leaf.2.1⟩,?_⟩,fx_own x4⟩
    rw [readF_eq,hrd]
    simp only
    by_cases hc:st.1=false/\lnkErr ⟨st.2.2.1,st.2.2.2⟩=0
    ·rw [if_pos hc]
     exact ⟨x2.2 hc,rfl,x3⟩
    ·rw [if_neg hc]
     cases ok with
     | true=>exact absurd (x2.1 rfl) hc
     | false=>rfl
  by_cases hl0:l=[]
  ·subst hl0
   rw [call182nil okC ((co _ (by omega)).trans s1),ev_some]
   exact after _ kC rdS_nil okC hw0 hJ0
  ·have hit:=iter182 hI (by omega) (st:=(true,-1,0,[])) (h:=kC) (l:=l) (by simpa using hl) hl0 hJ0 okC hw0 ((co _ (by omega)).trans s1)
   refine hit.mono fun y hy=>?_
   obtain ⟨vv,h⟩:=y
   obtain ⟨okh,wmh,w0h,hres⟩:=hy
   simp only at okh wmh w0h hres ⊢
   cases hro:rdS stepL l.length (true,-1,0,[]) l with
   | some st=>
    rw [hro] at hres
    exact after st h hro okh w0h hres
   | none=>
    rw [hro] at hres
    obtain ⟨j1,j2,j3,⟨kd,w,j4,j5⟩,j6⟩:=hres
    have her:endRange (k.next+7) T' [k.next+6] h=one ⟨.ret,⟨T',h.upd (k.next+7) (some (loopS .exhausted (some .ret) T' (k.next+6))),[k.next+6]⟩⟩:=by
     unfold endRange
     rw [j3]
     rfl
    rw [her,ev_one]
    show Ev true (one _) _
    rw [ev_one]
    show Ev true (one _) _
    rw [ev_one]
    have hO:Own k h:=⟨⟨okh,by omega,fun c hc=>(j2 c (by omega) (by omega) (by omega)).trans (eC.get c hc)⟩,w0h⟩
    have gd:(h.upd (k.next+7) (some (loopS .exhausted (some .ret) T' (k.next+6)))).get (k.next+6)=some .defd:=(get_upd_ne (by omega)).trans ((j2 _ (by omega) (by omega) (by omega)).trans cd)
    show Ev true (endCall E Tryz.f83 ⟨.ret,⟨T',h.upd (k.next+7) (some (loopS .exhausted (some .ret) T' (k.next+6))),[k.next+6]⟩⟩) _
    rw [end83 (b:=false) (v:=.int .i64 kd) (w:=w) (h':=(h.upd (k.next+7) (some (loopS .exhausted (some .ret) T' (k.next+6)))).upd (k.next+6) none) (by simp only [killAll,gd]) u2 u3 ((get_upd_ne (by omega)).trans ((get_upd_ne (by omega)).trans j4)) ((get_upd_ne (by omega)).trans ((get_upd_ne (by omega)).trans j6)),ev_one]
    refine ⟨⟨kd,w,false,rfl,j5,?_⟩,fx_own ((hO.upd (by omega) _).upd (by omega) _)⟩
    rw [readF_eq,hro]
 refine (call_anyF (Q:=fun v m=>Q83r k.next l v m/\Fx NoB k.fresh m) hok F83_get F83_body (F83_sum _ _) (by kernel_rfl) main).mono ?_
 rintro ⟨x,m⟩ ⟨k',⟨⟨kd,w,ok,hx,hw,hr⟩,hf⟩,⟨_,hfl,h2⟩|h2⟩
 ·simp only at h2 hfl hx hr ⊢
  subst h2
  refine ⟨⟨kd,w,ok,hx,hw,?_⟩,Fx.refl hok⟩
  cases hro:readF l with
  | none=>rw [hro] at hr;exact hr
  | some B=>
   rw [hro] at hr
   obtain ⟨r1,r2,A⟩:=hr
   refine ⟨r1,r2,?_⟩
   rcases A with e|⟨b,hw',_⟩
   ·exact .inl e
   ·rw [hx,hw'] at hfl;cases hfl
 ·simp only at h2 hx hr hf ⊢
  subst h2
  refine ⟨⟨kd,w,ok,hx,hw,?_⟩,hf.back⟩
  cases hro:readF l with
  | none=>rw [hro] at hr;exact hr
  | some B=>
   rw [hro] at hr
   exact ⟨hr.1,hr.2.1,hr.2.2.wm _⟩
def Q21r (lo:Nat) (l:Bs) (x:Value) (g:AH):Prop:=∃ kd w e,x=.tuple #[.agg ⟨[.int .i64 kd,w]⟩,.int .i64 e]/\(isLeaf w=true/\cellsOfV w=[w])/\match readF l with
 | some B=>e=0/\kd=B.kind/\Ac lo g w B.prs
 | none=>e=363
theorem pb32z:pBuild E 32 (some [])=some (.agg ⟨[.int .i64 0,.slice none 0 0]⟩):=by kernel_rfl
theorem call21 {k:AH} {l:Bs} (hok:k.ok) (hl:l.length<=100000):Ev true ((recI E).call 21 [sV l] k) fun x=>Q21r k.next l x.1 x.2/\Fx NoB k x.2:=by
 have main:PI (C21 true) (KR E [.cell 2 32,.tmp 3] fun x g=>Q21r k.next l x g/\Fx NoB k.fresh g) 0 [sV l] k.fresh:=by
  refine P21_0_of ?_
  obtain ⟨k1,e1,n1,t1,o1,f1⟩:=nwF k (.row [.int .i64 0,.slice none 0 0] 32 0 false)
  simp only [z32,new_row,ev_one,cells_agg,e1,next_fresh]
  refine P21_1_of ?_
  rw [wCall_0]
  refine (call83 o1.ext.ok hl).mono ?_
  rintro ⟨x,g⟩ ⟨⟨kd,w,ok,hx,hw,hr⟩,f⟩
  simp only at hx hr f ⊢
  rw [hx,ext2.1,evO_some,ext2.2,evO_some]
  have og:Own k g:=f.own o1 fun c hc=>hc.elim
  obtain ⟨m1,e2,n2,t2,o2,f2⟩:=nw og (.row [.int .i64 0,.slice none 0 0] 32 0 false)
  have hgn:=f.next
  simp only [z32,new_row,ev_one,cells_agg,e2]
  rw [st32 t2 rfl hw.1,ev_one]
  obtain ⟨m2,e3,n3,t3,o3,f3⟩:=up o2 (b:=g.next) og.ext.next (.row [.int .i64 kd,w] 32 0 false)
  rw [e3]
  have t1g:m2.get k.next=some (.row [.int .i64 0,.slice none 0 0] 32 0 false):=(f3 _ (by omega)).trans ((f2 _ (by omega)).trans ((f.get _ (by omega) (fun h=>h)).trans t1))
  refine P21_2_of ?_
  rw [uf_not,evO_some]
  cases hok':ok with
  | false=>
   rw [Bool.not_false,brK_t]
   refine P21_3_of ?_
   rw [pb32z,evO_some,st32 t1g rfl rfl,ev_one,kR_ct]
   refine ⟨ne_ret ▸ trivial,?_⟩
   have l2:loadV E 32 (ptr k.next) (m2.upd k.next (some (.row [.int .i64 0,.slice none 0 0] 32 0 false)))=some (.agg ⟨[.int .i64 0,.slice none 0 0]⟩):=load_agg (P:=E) ta_32 (o:=0) (get_upd_self _ _ _) (by simp)
   rw [l2,evO_some]
   refine ⟨⟨0,.slice none 0 0,363,rfl,⟨rfl,rfl⟩,?_⟩,fx_own (o3.upd (Nat.le_refl _) _)⟩
   cases hro:readF l with
   | none=>rfl
   | some B=>rw [hro,hok'] at hr;cases hr.1
  | true=>
   rw [Bool.not_true,brK_f]
   refine P21_4_of ?_
   rw [(ld32 t3).1,evO_some,st32 t1g rfl hw.1,ev_one,kR_ct]
   refine ⟨ne_ret ▸ trivial,?_⟩
   have l2:loadV E 32 (ptr k.next) (m2.upd k.next (some (.row [.int .i64 kd,w] 32 0 false)))=some (.agg ⟨[.int .i64 kd,w]⟩):=load_agg (P:=E) ta_32 (o:=0) (get_upd_self _ _ _) (by simp)
   rw [l2,evO_some]
   refine ⟨⟨kd,w,0,rfl,hw,?_⟩,fx_own (o3.upd (Nat.le_refl _) _)⟩
   cases hro:readF l with
   | none=>rw [hro,hok'] at hr;cases hr
   | some B=>
    rw [hro] at hr
    obtain ⟨_,r2,A⟩:=hr
    refine ⟨rfl,r2,?_⟩
    rcases A with e|⟨b,y1,y2,y3,y4⟩
    ·exact .inl e
    ·exact .inr ⟨b,y1,by omega,by show b<m2.next;omega,(get_upd_ne (by omega)).trans ((f3 _ (by omega)).trans ((f2 _ y3).trans y4))⟩
 refine (call_anyF (Q:=fun v m=>Q21r k.next l v m/\Fx NoB k.fresh m) hok F21_get F21_body (F21_sum _ _) (by kernel_rfl) (F21_ev main)).mono ?_
 rintro ⟨x,m⟩ ⟨k',⟨⟨kd,w,e,hx,hw,hr⟩,hf⟩,⟨_,hfl,h2⟩|h2⟩
 ·simp only at h2 hfl hx hr ⊢
  subst h2
  refine ⟨⟨kd,w,e,hx,hw,?_⟩,Fx.refl hok⟩
  cases hro:readF l with
  | none=>rw [hro] at hr;exact hr
  | some B=>
   rw [hro] at hr
   obtain ⟨r1,r2,A⟩:=hr
   refine ⟨r1,r2,?_⟩
   rcases A with e|⟨b,hw',_⟩
   ·exact .inl e
   ·rw [hx,hw'] at hfl;cases hfl
 ·simp only at h2 hx hr hf ⊢
  subst h2
  refine ⟨⟨kd,w,e,hx,hw,?_⟩,hf.back⟩
  cases hro:readF l with
  | none=>rw [hro] at hr;exact hr
  | some B=>
   rw [hro] at hr
   exact ⟨hr.1,hr.2.1,hr.2.2.wm _⟩
theorem call84 {h0 k:AH} {v w:Value} {p1 p2:List (Int×Int)} (hv:Arr h0 2 v (p1.map prCells)) (hw:Arr h0 2 w (p2.map prCells)) (he:Ext h0 k) (hn:p1.length<=1000000) :
  (recI E).call 84 [v,w] k=some [(.bool (decide (p1=p2)),k)]:=by
 obtain ⟨a1,c1,hvs⟩:=hv.slice
 obtain ⟨a2,c2,hws⟩:=hw.slice
 rw [List.length_map] at hvs hws
 refine F84_flat (s:=true) he.ok rfl (P84_0_of (P84_1_of ?_))
 have el:Ext h0 k.fresh:=he.fresh
 have hwm:k.next<=k.fresh.wm:=by rw [wm_fresh];omega
 have x1:evRead E (tmOf [(6,v)]) (opAt B84 [1,0,0] 1) k.fresh=some (.int .i64 (p1.length:Int)):=by rw [hvs];exact len84_1_1
 have x2:evRead E (tmOf [(8,w)]) (opAt B84 [1,0,0] 3) k.fresh=some (.int .i64 (p2.length:Int)):=by rw [hws];exact len84_1_3
 have x3:evRead E (tmOf [(11,v)]) (opAt B84 [1,1,0,0] 1) k.fresh=some (.int .i64 (p1.length:Int)):=by rw [hvs];exact len84_3_1
 rw [x1,evO_some,x2,evO_some,bf_neq,evO_some]
 by_cases hlen:p1.length=p2.length
 case neg=>
  rw [decide_eq_false (by omega),Bool.not_false,brK_t]
  refine P84_2_of ?_
  rw [kR_1]
  exact ⟨ne_ret ▸ trivial,by rw [decide_eq_false fun e=>hlen (by rw [e])],hwm⟩
 rw [decide_eq_true (by omega),Bool.not_true,brK_f]
 refine P84_3_of ?_
 rw [x3,evO_some]
 generalize k.fresh=g at el hwm
 have loop:∀ (m i:Nat),i+m=p1.length->p1.take i=p2.take i->PI (C84 true) (KR E [.tmp 4] fun x h=>x=.bool (decide (p1=p2))/\k.next<=h.wm) 4 [v,w,.int .i64 (p1.length:Int),.int .i64 (i:Int)] g:=by
  intro m
  induction m with
  | zero=>
   intro i hi ht
   refine P84_4_of ?_
   rw [bf_lss,evO_some,decide_eq_false (by omega),brK_f]
   refine P84_9_of ?_
   rw [kR_1]
   rw [List.take_of_length_le (by omega),List.take_of_length_le (by omega)] at ht
   exact ⟨ne_ret ▸ trivial,by rw [decide_eq_true ht],hwm⟩
  | succ m ih=>
   intro i hi ht
   have h1:i<p1.length:=by omega
   have h2:i<p2.length:=by omega
   refine P84_4_of ?_
   rw [bf_lss,evO_some,decide_eq_true (by omega),brK_t]
   refine P84_5_of (P84_6_of ?_)
   obtain ⟨q,q1,q2⟩:=idx_agg und_26 ts_54 ta_54 hv el (prs_get h1)
   obtain ⟨r,r1,r2⟩:=idx_agg und_26 ts_54 ta_54 hw el (prs_get h2)
   rw [q1,evO_some,q2,evO_some,r1,evO_some,r2,evO_some,bf_neqp,evO_some]
   by_cases hc:p1[i]=p2[i]
   ·rw [decide_eq_true hc,Bool.not_true,brK_f]
    refine P84_8_of ?_
    rw [bf_add _ ⟨by omega,by omega⟩,evO_some]
    have:=ih (i+1) (by omega) (by rw [List.take_succ_eq_append_getElem h1,List.take_succ_eq_append_getElem h2,ht,hc])
    simpa using this
   ·rw [decide_eq_false hc,Bool.not_false,brK_t]
    refine P84_7_of ?_
    rw [kR_1]
    exact ⟨ne_ret ▸ trivial,by rw [decide_eq_false fun e=>hc (by subst e;rfl)],hwm⟩
 exact loop p1.length 0 (by omega) rfl
theorem call22 {h0 k:AH} {v w:Value} {B C:GB} (hv:Arr h0 2 v (B.prs.map prCells)) (hw:Arr h0 2 w (C.prs.map prCells)) (he:Ext h0 k) (hn:B.prs.length<=1000000) :
  (recI E).call 22 [.agg ⟨[.int .i64 B.kind,v]⟩,.agg ⟨[.int .i64 C.kind,w]⟩] k=some [(.bool (decide (B.kind=C.kind)&&decide (B.prs=C.prs)),k)]:=by
 refine F22_flat (s:=true) he.ok rfl (P22_0_of ?_)
 obtain ⟨k1,e1,n1,t1,o1,f1⟩:=nwF k (.row [.int .i64 B.kind,v] 32 0 false)
 obtain ⟨k2,e2,n2,t2,o2,f2⟩:=nw o1 (.row [.int .i64 C.kind,w] 32 0 false)
 rw [n1] at t2
 simp only [new_row,ev_one,evO_some,cells_agg,e1,next_fresh,e2,n1]
 refine P22_1_of ?_
 have t1':=(f2 _ (by omega)).trans t1
 have ff:(false==true)=false:=rfl
 simp only [fa_32_0,fa_32_1,evO_some,(ld32 t1').2.1,(ld32 t2).2.1,bf_eql]
 by_cases hk:B.kind=C.kind
 ·simp only [decide_eq_true hk,gdB_bool,gdW_bool,beq_self_eq_true,cond_true,evO_some,(ld32 t1').2.2,(ld32 t2).2.2,wCall_0,call84 hv hw (he.trans o2.ext) hn,ev_some,pick_bool]
  rw [kR_1]
  exact ⟨ne_ret ▸ trivial,by rw [Bool.true_and],o2.wm⟩
 ·simp only [decide_eq_false hk,gdB_bool,gdW_bool,ff,cond_false,evO_some,ev_one,pick_bool]
  rw [kR_1]
  exact ⟨ne_ret ▸ trivial,by rw [Bool.false_and],o2.wm⟩
theorem rowsF_len:∀ (ps:List (Int×Int)) (last:Int),(∀ p∈ps,p.1<=1000000/\p.2<=1000000)->(rowsF last ps).length<=18*ps.length
 | [],_,_=>by simp [rowsF]
 | p::ps,last,h=>by
  have ih:=rowsF_len ps p.1 fun q hq=>h q (by simp [hq])
  have h1:=hd20_len (last:=last) (h p (by simp)).1
  have h2:=dig7 (h p (by simp)).2
  rw [rowsF_cons]
  simp only [List.length_append,List.length_cons]
  omega
theorem writeF_len {B:GB} {t:Bs} (h:writeF B=some t):t.length<=10+18*B.prs.length:=by
 unfold writeF at h
 split at h
 ·rename_i hc
  cases h
  have h1:=rowsF_len B.prs (-1) (big_iff hc.2)
  have h2:=nameF_len B.kind
  simp only [List.length_append,List.length_cons,List.length_nil]
  omega
 ·cases h
theorem readF_len {l:Bs} {B:GB} (h:readF l=some B):B.prs.length<=l.length+1:=by
 rw [readF_eq] at h
 split at h
 ·rename_i st hst
  split at h
  ·cases h
   have:=rdS_len _ _ _ _ (Nat.le_refl _) hst
   simpa using this
  ·cases h
 ·cases h
theorem short1 (B:GB):(!decide (0<=idxFrom (longAt [B]) 1 0))=decide (B.prs.length<=4000):=by
 have e:longAt [B] 0=decide ((4000:Int)<(B.prs.length:Int)):=rfl
 simp only [idxFrom,e]
 by_cases h:B.prs.length<=4000
 ·rw [decide_eq_false (by omega:¬ (4000:Int)<(B.prs.length:Int)),decide_eq_true h];rfl
 ·rw [decide_eq_true (by omega:(4000:Int)<(B.prs.length:Int)),decide_eq_false h];rfl
theorem len4 {l:Bs} {h:AH}:evRead E (tmOf [(20,sV l)]) (opAt B4 [1,1,0,0] 6) h=some (.int .i64 (l.length:Int)):=by
 rw [← sz];kernel_rfl
theorem eq4 {a b:Bs}:evPure E (tmOf [(61,sV a),(62,sV b)]) (opAt B4 [1,1,1,1,1,1,1,0] 5)=some (.bool (decide (a=b))):=by
 rw [← eqd];kernel_rfl
abbrev K4 (k:AH):KF:=KR E [.tmp 4] fun x h=>x=.bool true/\k.next<=h.wm
theorem back4 {k g:AH} {l:Bs} (o:Own k g) (hl:l.length<=4000):PI (C4 true) (K4 k) 10 [sV l] g:=by
 refine P4_10_of ?_
 rw [wCall_0]
 refine (call21 o.ext.ok (by omega)).mono ?_
 rintro ⟨x,g1⟩ ⟨⟨kd,w,e,hx,hw,hr⟩,f⟩
 simp only at hx hr f ⊢
 rw [hx,ext2.1,evO_some,ext2.2,evO_some]
 have og:Own k g1:=f.own o fun c hc=>hc.elim
 obtain ⟨m1,e2,n2,t2,o2,f2⟩:=nw og (.row [.int .i64 0,.slice none 0 0] 32 0 false)
 simp only [z32,new_row,ev_one,cells_agg,e2]
 rw [st32 t2 rfl hw.1,ev_one]
 obtain ⟨m2,e3,n3,t3,o3,f3⟩:=up o2 (b:=g1.next) og.ext.next (.row [.int .i64 kd,w] 32 0 false)
 rw [e3]
 refine P4_11_of ?_
 rw [bf_neq,evO_some]
 cases hro:readF l with
 | none=>
  rw [hro] at hr
  subst hr
  rw [show (!decide ((363:Int)=0))=true from rfl,brK_t]
  refine P4_12_of ?_
  rw [bf_eql,evO_some]
  unfold K4
  rw [kR_1]
  exact ⟨ne_ret ▸ trivial,rfl,o3.wm⟩
 | some B=>
  rw [hro] at hr
  obtain ⟨rfl,rfl,A⟩:=hr
  rw [show (!decide ((0:Int)=0))=false from rfl,brK_f]
  refine P4_13_of ?_
  have A':Ac g.next m2 w B.prs:=by
   rcases A with e|⟨b,y1,y2,y3,y4⟩
   ·exact .inl e
   ·exact .inr ⟨b,y1,y2,by omega,(f3 _ (by omega)).trans ((f2 _ y3).trans y4)⟩
  have hlen:=readF_len hro
  obtain ⟨v,hv,c20⟩:=call20 (h0:=m2) (k:=m2) (B:=B) A'.arr (Ext.refl o3.ext.ok) (by omega)
  unfold Res20 at hv
  rw [law2 hro] at hv
  have hv':v=.tuple #[sV l,.int .i64 0]:=hv
  rw [(ld32 t3).1,evO_some,wCall_0,c20,ev_some,hv',ext2.1,evO_some,ext2.2,evO_some]
  refine P4_14_of ?_
  simp only [bf_eql,evO_some,decide_true,gdB_bool,beq_self_eq_true,cond_true,eq4,pick_bool]
  unfold K4
  rw [kR_1]
  exact ⟨ne_ret ▸ trivial,rfl,o3.wm⟩
theorem call4 {k:AH} {B:GB} {vp:Value} {l:Bs} (hok:k.ok) (hv:Arr k 2 vp (B.prs.map prCells)):(recI E).call 4 [.agg ⟨[.int .i64 B.kind,vp]⟩,sV l] k=some [(.bool true,k)]:=by
 refine F4_flat1 hok rfl (P4_0_of ?_)
 obtain ⟨ad,cp,hvs⟩:=hv.slice
 have hvl:isLeaf vp=true:=by rw [hvs];rfl
 obtain ⟨k1,e1,n1,t1,o1,f1⟩:=nwF k (.row [.int .i64 B.kind,vp] 32 0 false)
 simp only [new_row,ev_one,cells_agg,e1,next_fresh]
 refine P4_1_of ?_
 rw [wCall_0,call13,ev_some,uf_not,evO_some,Bool.not_true,brK_f]
 refine P4_3_of ?_
 obtain ⟨k2,e2,n2,t2,o2,f2⟩:=nw o1 (.row [.int .i64 B.kind,vp] 32 0 false)
 rw [(ld32 t1).1,evO_some,bs83',ev_one,e2]
 have hrb:RB k [.int .i64 B.kind,vp] B:=⟨⟨vp,rfl,hv⟩⟩
 have c19:=call19 (h0:=k2) (k:=k2) (v:=.slice (some ⟨k1.next,0,none⟩) 1 1) (els:=[[.int .i64 B.kind,vp]]) (Bs:=[B]) (Arr.row (els:=[[.int .i64 B.kind,vp]]) t2 (by omega) (by simp) (fun i ee hee=>by
   match i with
   | 0=>simp at hee;subst hee;exact ⟨rfl,rfl⟩
   | i+1=>simp at hee)) rfl (by simp) (fun i ee BB x1 x2=>by
   match i with
   | 0=>simp at x1 x2;subst x1 x2;exact hrb.ext o2.ext
   | i+1=>simp at x1) (Ext.refl o2.ext.ok)
 rw [show ([[Value.int IntKind.i64 B.kind,vp]]:List (List Value)).length=1 from rfl,short1] at c19
 rw [wCall_0,c19,ev_some,uf_not,evO_some]
 have tf:(true==false)=false:=rfl
 have ret4:∀ g,Own k g->PI (C4 true) (K4 k) 4 [] g:=fun g o=>P4_4_of (by unfold K4;rw [kR_1];exact ⟨ne_ret ▸ trivial,rfl,o.wm⟩)
 by_cases hs:B.prs.length<=4000
 case neg=>
  simp only [decide_eq_false hs,Bool.not_false,gdB_bool,tf,cond_false,evO_some,pick_bool,cond_true,brK_t]
  exact ret4 k2 o2
 simp only [decide_eq_true hs,Bool.not_true,gdB_bool,beq_self_eq_true,cond_true,evO_some,len4,bf_gtr,pick_bool,cond_false]
 by_cases hl:l.length<=4000
 case neg=>
  rw [decide_eq_true (by omega:(4000:Int)<(l.length:Int)),brK_t]
  exact ret4 k2 o2
 rw [decide_eq_false (by omega:¬ (4000:Int)<(l.length:Int)),brK_f]
 refine P4_5_of ?_
 have t1':=(f2 _ (by omega)).trans t1
 obtain ⟨v,hres,c20⟩:=call20 (h0:=k2) (k:=k2) (B:=B) (hv.ext o2.ext) (Ext.refl o2.ext.ok) (by omega)
 rw [(ld32 t1').1,evO_some,wCall_0,c20,ev_some]
 unfold Res20 at hres
 cases hw:writeF B with
 | none=>
  rw [hw] at hres
  obtain ⟨e,he,rfl⟩:=hres
  rw [ext2.1,evO_some,ext2.2,evO_some]
  refine P4_6_of ?_
  rw [bf_eql,evO_some,decide_eq_false he,brK_f]
  exact back4 o2 hl
 | some t=>
  rw [hw] at hres
  have hres':v=.tuple #[sV t,.int .i64 0]:=hres
  subst hres'
  rw [ext2.1,evO_some,ext2.2,evO_some]
  refine P4_6_of ?_
  rw [bf_eql,evO_some,decide_eq_true rfl,brK_t]
  refine P4_7_of ?_
  have hlen:=writeF_len hw
  rw [wCall_0]
  refine (call21 o2.ext.ok (by omega)).mono ?_
  rintro ⟨x,g1⟩ ⟨⟨kd,w,e,hx,hwl,hr⟩,f⟩
  simp only at hx hr f ⊢
  rw [hx,ext2.1,evO_some,ext2.2,evO_some]
  rw [law1 lnk_strict hw] at hr
  obtain ⟨rfl,rfl,A⟩:=hr
  have og:Own k g1:=f.own o2 fun c hc=>hc.elim
  have hgn:=f.next
  obtain ⟨m1,e2,n2',t2',o2',f2'⟩:=nw og (.row [.int .i64 0,.slice none 0 0] 32 0 false)
  simp only [z32,new_row,ev_one,cells_agg,e2]
  rw [st32 t2' rfl hwl.1,ev_one]
  obtain ⟨m2,e3,n3,t3,o3,f3⟩:=up o2' (b:=g1.next) og.ext.next (.row [.int .i64 B.kind,w] 32 0 false)
  rw [e3]
  refine P4_8_of ?_
  have A':Ac k2.next m2 w B.prs:=by
   rcases A with e|⟨b,y1,y2,y3,y4⟩
   ·exact .inl e
   ·exact .inr ⟨b,y1,y2,by omega,(f3 _ (by omega)).trans ((f2' _ y3).trans y4)⟩
  have tb:m2.get k.next=some (.row [.int .i64 B.kind,vp] 32 0 false):=(f3 _ (by omega)).trans ((f2' _ (by omega)).trans ((f.get _ (by omega) fun h=>h).trans t1'))
  have c22:=call22 (h0:=m2) (k:=m2) (B:=B) (C:=B) (hv.ext o3.ext) A'.arr (Ext.refl o3.ext.ok) (by omega)
  simp only [bf_neq,evO_some,decide_true,Bool.not_true,gdB_bool,gdW_bool,beq_self_eq_true,cond_true,(ld32 tb).1,(ld32 t3).1,wCall_0,c22,ev_some,Bool.and_self,uf_not,pick_bool,cond_false,brK_f]
  exact back4 o3 hl
end Go.Proofs
namespace Go.Proofs
open Go Go.AM
set_option maxRecDepth 100000
def fieldsOf (P:Program) (t:TypeId):Option (List (TypeId×Nat)):=match P.underlying t with
 | some (.struct fs)=>some (fs.toList.map fun f=>(f.type,f.offset))
 | _=>none
theorem struct_open {H:Type} {enc:TypeId×Value->H} {P:Program} {w:World} {base:Nat} {spare:Nat->Bool} {held:Bool} {fuel:Nat} {t:TypeId} {cs:List Value} {x:DataW H×List MemPlace} {l:List (TypeId×Nat)}
  (hf:fieldsOf P t=some l) (h:DataW.trod enc P w base spare held fuel t cs=some x) :
  ∃ n,fuel=n+1/\cs.length=P.cellsOf t/\∀ (i:Nat) (ty:TypeId) (off:Nat),l[i]?=some (ty,off)->∃ y,DataW.trod enc P w base spare held n ty ((cs.drop off).take (P.cellsOf ty))=some y:=by
 unfold fieldsOf at hf
 split at hf
 ·rename_i fs hu
  cases hf
  obtain ⟨xs,n,hn,_,hl,hlen,H⟩:=DataW.trod_struct hu h
  refine ⟨n,hn,hl,fun i ty off hi=>?_⟩
  rw [List.getElem?_map] at hi
  obtain ⟨f,hf,he⟩:=Option.map_eq_some_iff.1 hi
  cases he
  have hf':fs[i]?=some f:=by simpa using hf
  have hlt:i<xs.length:=by rw [hlen];exact (Array.getElem?_eq_some_iff.1 hf').1
  exact ⟨xs[i],by rw [H i f hf',List.getElem?_eq_getElem hlt]⟩
 ·cases hf
theorem len2 {cs:List Value} (h:cs.length=2):∃ a b,cs=[a,b]:=by
 match cs,h with
 | [a,b],_=>exact ⟨a,b,rfl⟩
theorem ar_u3:Tryz.prog.underlying 3=some (.int .i64):=by kernel_rfl
theorem ar_u26:Tryz.prog.underlying 26=some (.slice 54):=und_spec Tryz.envOK und_26
theorem ar_u54:Tryz.prog.underlying 54=some (.array 2 3):=und_spec Tryz.envOK und_54
theorem ar_f32:fieldsOf Tryz.prog 32=some [(3,0),(26,1)]:=by kernel_rfl
theorem ar_c3_:Tryz.prog.cellsOf 3=1:=by kernel_rfl
theorem ar_c26:Tryz.prog.cellsOf 26=1:=by kernel_rfl
theorem ar_c54:Tryz.prog.cellsOf 54=2:=by kernel_rfl
theorem ar_c32:Tryz.prog.cellsOf 32=2:=by kernel_rfl
section
variable {H:Type} {enc:TypeId×Value->H} {w:World} {base:Nat} {held:Bool}
theorem int_cell {n:Nat} {c:Value} {x:DataW H×List MemPlace} (h:DataW.trod enc Tryz.prog w base (fun _=>true) held n 3 [c]=some x):∃ k,c=.int .i64 k:=by
 obtain ⟨k,hk,_⟩:=DataW.trod_int ar_u3 h
 cases hk;exact ⟨k,rfl⟩
theorem els_map {α:Type} {f:α->List Value} {els:List (List Value)} {aas:List α} (h:Els (fun u a=>u=f a) els aas):els=aas.map f:=by
 induction h with
 | nil=>rfl
 | cons h _ ih=>rw [h,ih];rfl
theorem build_prs {n:Nat} {cs:List Value} {x:DataW H×List MemPlace} {σ:Sg} {h:AH} (hok:h.ok) (hH:HR w.heap.size σ h w) (htr:DataW.trod enc Tryz.prog w base (fun _=>true) held n 26 cs=some x) :
  ∃ (σ':Sg) (h':AH) (v v':Value) (ps:List (Int×Int)),cs=[v']/\More w σ h σ' h'/\VR σ' v v'/\Arr h' 2 v (ps.map prCells)/\ps.length<=9223372036854775807:=by
 obtain ⟨σ1,h1,v,v',els,aas,e1,m1,r1,a1,q1,q2⟩:=build_slice (α:=Int×Int) (R:=fun _ u a=>u=prCells a)
  (fun h k u a ex e=>e) ar_u26 (by decide) ar_c54 (n:=n) (fun m hm=>by
   intro cs x σ h hok hH htr
   obtain ⟨xs,m',hm',_,hl,hlen,hf⟩:=DataW.trod_array ar_u54 htr
   rw [ar_c54] at hl
   obtain ⟨c0,c1,rfl⟩:=len2 hl
   have g0:=hf 0 (by omega)
   have g1:=hf 1 (by omega)
   rw [ar_c3_,List.getElem?_eq_getElem (by omega)] at g0 g1
   obtain ⟨k0,rfl⟩:=int_cell g0
   obtain ⟨k1,rfl⟩:=int_cell g1
   exact ⟨σ,h,_,(k0,k1),.refl hH hok,.cons (.int _ _) (.cons (.int _ _) .nil),rfl⟩) cs x σ h hok hH htr
 have:=els_map q1
 subst this
 exact ⟨σ1,h1,v,v',aas,e1,m1,r1,a1,by simpa using q2⟩
end
end Go.Proofs
namespace Go.Proofs.YthmnhjcmefjgjaaGreatDoor
open Go Go.AM Go.ChangeShapes Go.WideShapes Go.ChangeAt Go.RowKit
set_option maxRecDepth 100000
theorem ownKnobT:ownKnob Tryz.prog.godebug=none:=by kernel_rfl
theorem laidOutT:laidOutB Tryz.prog=true:=by kernel_rfl
theorem agg_of {w:World} {base:Nat} {t:TypeId} {v:Value} {l:List (TypeId×Nat)} (hf:fieldsOf Tryz.prog t=some l) (h:Value.okWide Tryz.prog w .any base t v):∃ cs,v=.agg cs:=by
 unfold fieldsOf at hf
 unfold Value.okWide at h
 split at hf
 ·rename_i fs hu
  rw [hu] at h
  obtain ⟨cs,e,_⟩:=h
  exact ⟨cs,e⟩
 ·cases hf
section
variable {H:Type} {enc:TypeId×Value->H} {w:World} {base:Nat} {held:Bool}
theorem build_RB {n:Nat} {cs:List Value} {x:DataW H×List MemPlace} {σ:Sg} {h:AH} (hok:h.ok) (hH:HR w.heap.size σ h w) (htr:DataW.trod enc Tryz.prog w base (fun _=>true) held n 32 cs=some x) :
  ∃ (σ':Sg) (h':AH) (vs:List Value) (B:GB),More w σ h σ' h'/\VRs σ' vs cs/\RB h' vs B:=by
 obtain ⟨m',hm',hl,hf⟩:=struct_open ar_f32 htr
 rw [ar_c32] at hl
 obtain ⟨c0,c1,rfl⟩:=len2 hl
 obtain ⟨y0,g0⟩:=hf 0 3 0 rfl
 obtain ⟨y1,g1⟩:=hf 1 26 1 rfl
 rw [ar_c3_] at g0
 rw [ar_c26] at g1
 obtain ⟨k0,rfl⟩:=int_cell g0
 obtain ⟨σ1,h1,v1,v1',ps,e1,m1,r1,a1,n1⟩:=build_prs hok hH g1
 cases e1
 exact ⟨σ1,h1,[.int .i64 k0,v1],⟨k0,ps⟩,m1,.cons (.int _ _) (.cons r1 .nil),⟨v1,rfl,a1⟩⟩
end
theorem call4r {k:AH} {e:List Value} {B:GB} {l:Bs} (hok:k.ok) (r:RB k e B):(recI E).call 4 [.agg ⟨e⟩,sV l] k=some [(.bool true,k)]:=by
 obtain ⟨v,rfl,a⟩:=r.ex
 exact call4 hok a
theorem ga10:Tryz.prog.globalNamed "internal/strconv.uint64pow10"=some 0:=by kernel_rfl
theorem ga11:(Tryz.prog.globals[0]?).map (·.type)=some 298:=by kernel_rfl
theorem ga12:Tryz.prog.underlying 298=some (.array 20 209):=by kernel_rfl
theorem ga13:Tryz.prog.underlying 209=some (.int .u64):=by kernel_rfl
theorem ga14:Tryz.prog.cellsOf 209=1:=by kernel_rfl
theorem ga15:Tryz.prog.cellsOf 298=20:=by kernel_rfl
theorem ga16:(Rows.laid_internal_strconv_uint64pow10:DataW Unit)=Lib.tabData .u64 Lib.pow10Tab:=by kernel_rfl
theorem tens_of {W:World} (hL:laidMetH Tryz.prog Rows.certTextsRow.laid W):Tens W.heap.size W:=by
 rw [MakeChecks.laidMetH_plain _ _ _ (by kernel_rfl)] at hL
 obtain ⟨g,t,cs,fuel,p,hg,ht,hv,hd⟩:=Lib.laidMet.reads hL (n:= "internal/strconv.uint64pow10") (d:=Rows.laid_internal_strconv_uint64pow10) (List.mem_cons_of_mem _ (List.mem_cons_of_mem _ List.mem_cons_self))
 obtain rfl:=Option.some.inj (ga10.symm.trans hg)
 obtain rfl:=Option.some.inj (ga11.symm.trans ht)
 rw [ga16] at hd
 have hcs:=Lib.cells_of_tab ga12 ga13 ga14 ga15 hd
 unfold World.var? at hv
 rw [ga10] at hv
 simp only [Option.bind_some] at hv
 split at hv
 ·rename_i c1 t1 f1 hh
  have hcc:c1=cs:=Option.some.inj hv
  have e:c1=keptCells:=by
   rw [hcc]
   apply Array.ext'
   rw [hcs]
   simp [keptCells,Lib.pow10Tab,Function.comp_def]
  refine ⟨?_,t1,f1,by rw [← e];exact hh⟩
  show 0<W.heap.size
  rcases Nat.eq_zero_or_pos W.heap.size with h|h
  ·rw [Array.getElem?_eq_none (by omega)] at hh;cases hh
  ·exact h
 ·cases hv
theorem fin4 {lo:Nat} {σ:Sg} {h:AH} {w:World} {x0:List Value} {L0:GB} {l1:Bs} {args':List Value} (H:HR lo σ h w) (hok:h.ok) (r0:RB h x0 L0)
  (ha:VRs σ [.agg ⟨x0⟩,sV l1] args'):Calls Tryz.prog 4 args'.toArray w (Ret (Goes lo σ w [(.bool true,h)])):=
 calls_of_evalI envE extE (by kernel_rfl) H ha (call4r hok r0)
theorem certTexts_calls {H:Type} {enc:TypeId×Value->H} {W:World} {base:Nat} {v0 v1:Value} {d0 d1:DataW H} {p0 p1:List MemPlace}
  (hL:laidMetH Tryz.prog Rows.certTextsRow.laid W) (k0:Value.okWide Tryz.prog W .any base 32 v0) (k1:Value.okWide Tryz.prog W .any base 9 v1)
  (h0:DataW.Trod enc Tryz.prog W 0 (fun _=>true) true 32 v0 d0 p0) (h1:DataW.Trod enc Tryz.prog W 0 (fun _=>true) true 9 v1 d1 p1) :
  Calls Tryz.prog 4 #[v0,v1] W fun e W'=>e=.returned (.bool true)/\Below W.heap.size W W':=by
 obtain ⟨c0,rfl⟩:=agg_of ar_f32 k0
 obtain ⟨b1,rfl⟩:=okWide_string Tryz.underlying9 k1
 obtain ⟨l1,rfl⟩:∃ l:Bs,b1=⟨l.toArray⟩:=⟨b1.data.toList,by cases b1;simp⟩
 obtain ⟨u0,t0⟩:=h0
 have ok0:AH.ok ⟨.e,0,UNK⟩:=by unfold AH.ok;simp
 obtain ⟨s0,g0,x0,L0,m0,w0,r0⟩:=build_RB ok0 (HR.empty (tens_of hL)) t0
 have hargs:VRs s0 [.agg ⟨x0⟩,sV l1] [.agg c0,.string ⟨l1.toArray⟩]:=.cons (.agg w0) (.cons (.string _) .nil)
 refine (fin4 m0.hr m0.ok r0 hargs).mono fun e W' he=>?_
 cases e with
 | returned r=>
  obtain ⟨o,ho,τ,_,_,hv,hb⟩:=he
  simp only [List.mem_singleton] at ho
  subst ho
  cases hv
  exact ⟨rfl,hb⟩
 | _=>exact he.elim
end Go.Proofs.YthmnhjcmefjgjaaGreatDoor
