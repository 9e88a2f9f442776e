import Derived.WalkKit
import Derived.WalkSpells
import Derived.Shelf.RegionOpenPlain
import Derived.Lib.Walk
import Derived.Lib.SliceRun
import Derived.Lib.JoinLaws
import Derived.Lib.AppendZerosOnto
import Derived.Lib.Overlaps
import Derived.Laws.Externs
import Derived.Laws.IdiomCopy
import Derived.Shelf.LaysM
import Derived.Shelf.Strconv.Itoa3
import Derived.Test.YthmnhjcmefjgjaaGreatDoorProg
import Derived.Shelf.Sort.Plain
import Derived.Shelf.Slices.In.SortNone
import Derived.Lib.AppendIntMem
import Derived.Test.YthmnhjcmefjgjaaGreatDoorRows
import Derived.Test.YthmnhjcmefjgjaaGreatDoorCards
import Derived.Test.YthmnhjcmefjgjaaGreatDoorTie
import Derived.ProofKit
import Derived.OpenShut
import Derived.LaidMore
import Derived.Lay
import Derived.SevenTiedAt
import Derived.Stop.Joined
import Derived.Lib.LaidU8
import Derived.Test.YthmnhjcmefjgjaaGreatDoorXAM
import Derived.Test.YthmnhjcmefjgjaaGreatDoorXAD
import Derived.Test.YthmnhjcmefjgjaaGreatDoorXAP
import Derived.Test.YthmnhjcmefjgjaaGreatDoorXAK
import Derived.Test.YthmnhjcmefjgjaaGreatDoorXAG
import Derived.Test.YthmnhjcmefjgjaaGreatDoorXAL
import Derived.Test.YthmnhjcmefjgjaaGreatDoorXAI
import Derived.Test.YthmnhjcmefjgjaaGreatDoorXAJ
set_option linter.all false
set_option linter.unusedSectionVars false
set_option autoImplicit true
set_option relaxedAutoImplicit true
namespace Go.Proofs
open Go Go.AM Go.RowKit
set_option maxRecDepth 100000
theorem HR.empty {w:World} (k:Tens w.heap.size w):HR w.heap.size (fun _=>none) ⟨.e,0,UNK⟩ w:=
 ⟨fun _ _ h=>by (cases h),fun _ _=>rfl,fun b o h=>by (cases h),fun b _ o _ _ _ h=>by (cases h),Nat.le_refl _,k⟩
theorem HR.keep {lo:Nat} {σ:Sg} {h:AH} {w w':World} (H:HR lo σ h w) (hb:Below w.heap.size w w'):HR lo σ h w':=by
 refine ⟨H.dom,H.fresh,fun b o e=>?_,H.inj,Nat.le_trans H.lo hb.size,H.kept.same (Nat.le_refl _) fun hk=>hb.block _ (Nat.lt_of_lt_of_le hk H.lo)⟩
 obtain ⟨l,a,c,d⟩:=H.live b o e
 refine ⟨l,a,c.mono (Sg.le_refl σ) (hb.block _ c.blk_lt) (fun m es v lm hm hs=>⟨hm,?_⟩),d⟩
 obtain ⟨lm',a',c',_⟩:=H.live m _ hm
 rw [hs] at a'
 cases a'
 exact hb.block _ c'.blk_lt
theorem ext0:ExtOK E0:=Tryz.extOK (sum:=fun _ _ _=>none) fun f args h outs e=>by cases e
theorem env0:EnvOK E0:=Tryz.envOK
theorem sane_calls (w:World) (k:Tens w.heap.size w):Calls Tryz.prog 13 #[] w (Ret (Goes w.heap.size (fun _=>none) w [(.bool true,⟨.e,0,UNK⟩)])):=
 calls_of_evalI env0 ext0 (by kernel_rfl) (HR.empty k) (args':=[]) .nil sane_ok
theorem saneSum {args:List Value} {h:AH} {outs:List (Value×AH)} (e:saneAt args h=some outs):(∀ lo σ w args',HR lo σ h w->VRs σ args args'->CallsIn Fence.wide 0 Tryz.prog 13 args'.toArray w (Ret (Goes lo σ w outs)))/\FrAll h outs:=by
 unfold saneAt at e
 split at e
 ·cases e
  refine ⟨fun lo σ w args' H ha=>?_,frOne (Fr.refl h)⟩
  cases ha
  refine callsIn_wide.2 ((sane_calls w (H.kept.same H.lo fun _=>rfl)).mono fun en w' hr=>?_)
  cases en with
  | returned v=>
   obtain ⟨x,hx,τ,_,_,hv,hb⟩:=hr
   simp only [List.mem_singleton] at hx
   subst hx
   cases hv
   exact ⟨(.bool true,h),by simp,σ,Sg.le_refl σ,HR.keep H hb,.bool true,hb.mono H.lo⟩
  | _=>exact hr
 ·cases e
end Go.Proofs
namespace Go.Proofs
open Go Go.RowKit Go.Lib
theorem run_copy_cells2 {P:Program} (w:World) (dT sT ty elem:TypeId) (z:Nat) (b o dLen dCap:Nat) (a:Addr) (sLen sCap:Nat) (cs:List Value)
  (hu:P.underlying dT=some (.slice elem)) (hs:(P.info? elem).map (·.size)=some z) (hn:cs.length=Nat.min sLen dLen*z)
  (hsrc:∀ j v,cs[j]?=some v->w.cell? (a.add j)=some v) (hc:∀ j,j<cs.length->(w.cell? ⟨b,o+j,none⟩).isSome=true) (hf:∀ j,j<cs.length->w.frozen? ⟨b,o+j,none⟩=false) (h1:∀ v∈cs,v.oneCell'=true) :
  (Builtin.copy_ #[dT,sT] ty #[.slice (some ⟨b,o,none⟩) dLen dCap,.slice (some a) sLen sCap]).run P w=.ok (goInt (Nat.min sLen dLen)) (w.setCells b o cs):=by
 have hl:=run_loadCells_list (P:=P) w a cs hsrc
 have hst:=run_storeCells_cells (P:=P) b o cs 0 w (by simpa using hc) (by simpa using hf) h1
 cases hq:P.info? elem with
 | none=>simp [hq] at hs
 | some i=>
  have hi:i.size=z:=by simpa [hq] using hs
  simp [Builtin.copy_,run_underlying hu,Builtin.lenOf,Builtin.firstCells,sizeOf,typeInfo,hq,hi,← hn,hl,hst]
theorem wp_copy_runI (w:World) {P:Program} {o:Oper} {a:Act} {K:Act->World->Prop} {Q:Exit->Act->World->Prop} (d s:Operand) (t t':TypeId)
  (ho:o.op=.call { callee:=.builtin .copy,args:=#[d,s],argTypes:=#[t,t'] }) (v u:Value) (hd:a.eval d=v) (hs:a.eval s=u) {v':Value} {w':World}
  (hr:(Builtin.copy_ #[t,t'] o.type #[v,u]).run P w=.ok v' w') (h:K (a.put o.dst v') w'):o.wp P a w K Q:=by
 unfold Oper.wp execOp
 simp only [ho,resolve,invoke,builtin,Sem.run_bind,Sem.run_pure,Result.andThen_ok,List.map_toArray,List.map_cons,List.map_nil,hd,hs,hr]
 exact h
theorem wpList_copy_runI (w:World) {P:Program} {ops:Array Oper} {rest:List Oper} {o:Oper} {a:Act} {Q:Exit->Act->World->Prop} (hgd:o.guard=none) (d s:Operand) (t t':TypeId)
  (ho:o.op=.call { callee:=.builtin .copy,args:=#[d,s],argTypes:=#[t,t'] }) (v u:Value) (hd:a.eval d=v) (hs:a.eval s=u) {v':Value} {w':World}
  (hr:(Builtin.copy_ #[t,t'] o.type #[v,u]).run P w=.ok v' w') (h:wpList P ops Q rest (a.put o.dst v') w'):wpList P ops Q (o::rest) a w:=
 wpList_plain hgd fun _ hK=>wp_copy_runI w d s t t' ho v u hd hs hr (hK _ _ h)
theorem step_copy_runI {P:Program} {ops:Array Oper} {o:Oper} {a:Act} {w:World} {K:Act->World->Prop} {Q:Exit->Act->World->Prop} {E:Prop}
  (hg:o.guard=none) (d x:Operand) (dT sT:TypeId) (hop:o.op=Op.call { callee:=Callee.builtin Builtin.copy,args:=#[d,x],argTypes:=#[dT,sT] })
  (v u:Value) (hd:a.eval d=v) (hx:a.eval x=u) {v':Value} {w':World} (hr:(Builtin.copy_ #[dT,sT] o.type #[v,u]).run P w=.ok v' w') (hK:K (a.put o.dst v') w') :
  if Region.wanted o (yielded ops a.tmps)=true then Oper.wp P o a w K Q else E:=by
 have hw:Region.wanted o (yielded ops a.tmps)=true:=by simp [Region.wanted,hg]
 rw [if_pos hw]
 unfold Oper.wp
 simp [execOp,hop,resolve,invoke,builtin,hd,hx,hr,Result.andThen]
 exact hK
theorem isSome_setCells (b:Nat) (vs:List Value) (o:Nat) (w:World) (h:∀ j,j<vs.length->(w.cell? ⟨b,o+j,none⟩).isSome=true) (k:Nat) (hk:(w.cell? ⟨b,k,none⟩).isSome=true):((w.setCells b o vs).cell? ⟨b,k,none⟩).isSome=true:=by
 by_cases hin:o<=k/\k<o+vs.length
 ·have:=World.cell?_setCells_in b vs o w h (k-o) (by omega)
  rw [show o+(k-o)=k by omega] at this
  rw [this];rfl
 ·rw [World.cell?_setCells_out b vs o w ⟨b,k,none⟩ (fun _ _=>by show k<o\/o+vs.length<=k;omega)]
  exact hk
theorem t22u:Tryz.prog.underlying 22=some (.slice 36):=by kernel_rfl
theorem i36a:(Tryz.prog.info? 36).map (fun i=>(i.zero,i.size,i.bytes))=some (some (.agg #[.int .i64 0,.slice none 0 0]),2,32):=by kernel_rfl
theorem t3u:Tryz.prog.underlying 3=some (.int .i64):=by kernel_rfl
theorem i36s:(Tryz.prog.info? 36).map (·.size)=some 2:=by kernel_rfl
theorem z36s:∀ w,(Go.sizeOf 36).run Tryz.prog w=.ok 2 w:=fun w=>by kernel_rfl
set_option maxHeartbeats 4000000 in
set_option maxRecDepth 100000 in
theorem ins_shift (b off n c i vb voff vc:Nat) (cs vs:List Value) (w:World) (hi:i<n) (hroom:n+1<=c) (hn5:n<=100000) (hvb:vb≠b)
  (hcl:cs.length=n*2) (hvl:vs.length=2)
  (hcs:∀ j v,cs[j]?=some v->w.cell? ⟨b,off+j,none⟩=some v) (hsp:∀ j,j<(n+1)*2->(w.cell? ⟨b,off+j,none⟩).isSome=true) (hfz:∀ j,j<(n+1)*2->w.frozen? ⟨b,off+j,none⟩=false)
  (hvs:∀ j v,vs[j]?=some v->w.cell? ⟨vb,voff+j,none⟩=some v) (h1c:∀ v∈cs,v.oneCell'=true) (h1v:∀ v∈vs,v.oneCell'=true)
  (tA tB:TypeId) (kA kB:Nat) (hsa:w.shape? vb=some (tA,kA)) (hsb:w.shape? b=some (tB,kB)) (hkB:kB≠0) (hfa:w.frozen? ⟨vb,voff,none⟩=false) (hfe:w.frozen? ⟨vb,kA,none⟩=false) :
  Calls Tryz.prog 191 #[.slice (some ⟨b,off,none⟩) n c,.int .i64 i,.slice (some ⟨vb,voff,none⟩) 1 vc] w fun e w'=>
   e=.returned (.slice (some ⟨b,off,none⟩) (n+1) c)/\w'=(w.drew.setCells b (off+(i+1)*2) (cs.drop (i*2))).setCells b (off+i*2) vs:=by
 have mixed:=Tryz.mixed
 have hz2:¬ ((i:Int)=(n:Int)):=by omega
 have hov:∀ lb cb,(callFunc 233 #[.slice (some ⟨vb,voff,none⟩) 1 vc,.slice (some ⟨b,off+(i+1)*2,none⟩) lb cb]).run Tryz.prog w=.ok (.value (.bool false)) w:=fun lb cb=>by
  rw [run_callFunc_extern Tryz.func233 (by kernel_rfl) (by kernel_rfl) (by kernel_rfl) (e:=Extern.SlicesOverlaps.overlaps #[22,22] #[4]) (by kernel_rfl),
   Lib.run_overlaps_apart w 22 4 36 t22u 2 z36s ⟨vb,voff,none⟩ ⟨b,off+(i+1)*2,none⟩ 1 vc lb cb hvb tA tB kA kB hsa hsb hkB hfa hfe]
  rfl
 have hdl:(cs.drop (i*2)).length=(n-i)*2:=by rw [List.length_drop,hcl];omega
 have hw1:IntKind.i64.wrap ((i:Int)+1)=(i:Int)+1:=by rw [IntKind.wrap_i64];omega
 have hb1:(0:Int)<=(i:Int)+1:=by omega
 have hin:i<=n:=by omega
 have htn:((i:Int)+1).toNat=i+1:=by omega
 have hb2:¬ (c=i+1):=by omega
 have hb3:(i:Int)<=(n:Int)+1:=by omega
 have hb4:¬ (c=i):=by omega
 have hcp1:∀ ty dc sc,(Builtin.copy_ #[22,22] ty #[.slice (some ⟨b,off+(i+1)*2,none⟩) (n-i) dc,.slice (some ⟨b,off+i*2,none⟩) (n+1-i) sc]).run Tryz.prog w.drew=.ok (goInt (Nat.min (n+1-i) (n-i))) (w.drew.setCells b (off+(i+1)*2) (cs.drop (i*2))):=fun ty dc sc=>
  run_copy_cells2 w.drew _ _ ty 36 2 b (off+(i+1)*2) (n-i) dc ⟨b,off+i*2,none⟩ (n+1-i) sc (cs.drop (i*2)) t22u i36s (by rw [hdl];simp only [Nat.min_def];split <;> omega)
   (fun j v hj=>by rw [Addr.add_lit,Nat.add_assoc];exact hcs (i*2+j) v (by rwa [List.getElem?_drop] at hj))
   (fun j hj=>by rw [Nat.add_assoc];exact hsp _ (by omega)) (fun j hj=>by rw [Nat.add_assoc];exact hfz _ (by omega)) (fun v hv=>h1c v (List.mem_of_mem_drop hv))
 obtain ⟨W1,hW1⟩:∃ W1,W1=w.drew.setCells b (off+(i+1)*2) (cs.drop (i*2)):=⟨_,rfl⟩
 have hsp1:∀ k,k<(n+1)*2->(W1.cell? ⟨b,off+k,none⟩).isSome=true:=fun k hk=>by
  rw [hW1]
  exact isSome_setCells b _ _ _ (fun j hj=>by rw [Nat.add_assoc];exact hsp _ (by omega)) _ (hsp k hk)
 have hcp2:∀ (W:World),(∀ x,W.cell? x=W1.cell? x)->(∀ x,W.frozen? x=W1.frozen? x)->∀ ty dc,(Builtin.copy_ #[22,22] ty #[.slice (some ⟨b,off+i*2,none⟩) (n+1-i) dc,.slice (some ⟨vb,voff,none⟩) 1 vc]).run Tryz.prog W=.ok (goInt (Nat.min 1 (n+1-i))) (W.setCells b (off+i*2) vs):=fun W hWc hWf ty dc=>
  run_copy_cells2 W _ _ ty 36 2 b (off+i*2) (n+1-i) dc ⟨vb,voff,none⟩ 1 vc vs t22u i36s (by rw [hvl];simp only [Nat.min_def];split <;> omega)
   (fun j v hj=>by
    rw [Addr.add_lit,hWc,hW1,World.cell?_setCells_out b _ _ _ _ (fun h _=>absurd h hvb)]
    exact hvs j v hj)
   (fun j hj=>by rw [hWc,Nat.add_assoc];exact hsp1 _ (by omega)) (fun j hj=>by rw [hWf,hW1,World.frozen?_setCells,Nat.add_assoc];exact hfz _ (by omega)) h1v
 rw [← hW1] at hcp1
 go_enter Tryz.func191,Tryz.ntmps191
 go_wp2_with (simp only [hov])
 go_region_law_o (refine step_copy_runI rfl _ _ 22 22 rfl _ _ (by simp [Act.eval,Act.put]) (by simp [Act.eval,Act.put]) (hcp1 _ _ _) ?_)
 go_wp2_with (at_builtin;refine wpList_copy_runI _ rfl _ _ 22 22 rfl _ _ rfl rfl (hcp2 _ (fun _=>rfl) (fun _=>rfl) _ _) ?_)
 go_ret
 first|exact ⟨rfl,rfl⟩|exact ⟨rfl,by rw [hW1]⟩
set_option maxHeartbeats 4000000 in
set_option maxRecDepth 100000 in
theorem ins_end (b off n c vb voff vc:Nat) (w:World) {v':Value} {w':World} (hnc:n<=c) (hn5:n<=100000)
  (hr:(Builtin.append_ #[22,22] 22 #[.slice (some ⟨b,off,none⟩) n c,.slice (some ⟨vb,voff,none⟩) 1 vc]).run Tryz.prog w=.ok v' w') :
  Calls Tryz.prog 191 #[.slice (some ⟨b,off,none⟩) n c,.int .i64 n,.slice (some ⟨vb,voff,none⟩) 1 vc] w fun e w''=>e=.returned v'/\w''=w':=by
 have mixed:=Tryz.mixed
 go_enter Tryz.func191,Tryz.ntmps191
 go_wp2_with (at_builtin;refine Lib.wpList_append_run _ rfl _ _ _ _ rfl _ _ rfl rfl _ _ hr ?_)
 all_goals (go_ret;exact ⟨rfl,rfl⟩)
set_option maxHeartbeats 4000000 in
set_option maxRecDepth 100000 in
theorem ins_grow (b off n c i vb voff vc:Nat) (cs vs:List Value) (w:World) (hi:i<n) (hnc:n<=c) (hroom:c<n+1) (hbig:(n+1)*64<=140737488355328)
  (hcl:cs.length=n*2) (hvl:vs.length=2)
  (hcs:∀ j v,cs[j]?=some v->w.cell? ⟨b,off+j,none⟩=some v)
  (hvs:∀ j v,vs[j]?=some v->w.cell? ⟨vb,voff+j,none⟩=some v) (h1c:∀ v∈cs,v.oneCell'=true) (h1v:∀ v∈vs,v.oneCell'=true) :
  ∃ (G:Nat) (zs:List Value),n+1<=G/\zs.length=(G-i)*2 ∧
  Calls Tryz.prog 191 #[.slice (some ⟨b,off,none⟩) n c,.int .i64 i,.slice (some ⟨vb,voff,none⟩) 1 vc] w fun e w'=>
   e=.returned (.slice (some ⟨w.heap.size,0,none⟩) (n+1) G) ∧
   w'=(((w.alloc (.cells (cs.take (i*2)++zs).toArray 36)).drew.setCells w.heap.size (i*2) vs).drew).setCells w.heap.size ((i+1)*2) (cs.drop (i*2)):=by
 have mixed:=Tryz.mixed
 obtain ⟨i0,hi0,hz0,hzs,hzb⟩:=info_parts i36a
 have hz2:¬ ((i:Int)=(n:Int)):=by omega
 have hz3:(c:Int)<(n:Int)+1:=by omega
 have hbw:b<w.heap.size:=block_lt_of_cell (hcs 0 _ (List.getElem?_eq_getElem (by omega)))
 have hvw:vb<w.heap.size:=block_lt_of_cell (hvs 0 _ (List.getElem?_eq_getElem (by omega)))
 have hkk:(n:Int)+1-(i:Int)=((n+1-i:Nat):Int):=by omega
 have hik:i+(n+1-i)=n+1:=by omega
 have hold:(Builtin.firstCells i0.size i (.slice (some ⟨b,off,none⟩) i c)).run Tryz.prog w.drew=.ok (cs.take (i*2)).toArray w.drew:=by
  rw [hzs]
  exact run_firstCells_some w.drew 2 i ⟨b,off,none⟩ i c (cs.take (i*2)) (by rw [List.length_take];omega) (fun j v hj=>by
   rw [Addr.add_lit]
   rw [List.getElem?_take] at hj
   split at hj
   ·exact hcs j v hj
   ·cases hj)
 obtain ⟨G,hG⟩:∃ G,G=grownCap w (n+1) c 36:=⟨_,rfl⟩
 obtain ⟨zs,hzs'⟩:∃ zs:List Value,zs.toArray=Builtin.zeroCells (Value.agg #[.int .i64 0,.slice none 0 0]).cells (n+1-i)++Builtin.zeroCells (Value.agg #[.int .i64 0,.slice none 0 0]).cells (G-(n+1)):=⟨(Builtin.zeroCells (Value.agg #[.int .i64 0,.slice none 0 0]).cells (n+1-i)++Builtin.zeroCells (Value.agg #[.int .i64 0,.slice none 0 0]).cells (G-(n+1))).toList,by simp⟩
 have hGn:n+1<=G:=by rw [hG];exact grownCap_ge w _ _ _
 have hzl:zs.length=(G-i)*2:=by
  have:=congrArg Array.size hzs'
  simp [Builtin.zeroCells,Value.cells] at this
  omega
 have hrz:∀ ty,(Builtin.append_ #[22,3] ty #[.slice (some ⟨b,off,none⟩) i c,.int .i64 ((n:Int)+1-(i:Int))]).run Tryz.prog w =
   .ok (.slice (some ⟨w.heap.size,0,none⟩) (n+1) G) (w.drew.alloc (.cells (cs.take (i*2)++zs).toArray 36)):=fun ty=>by
  have h:=Lib.run_append_grow_zeros w 22 3 ty 36 i0 _ .i64 .i64 t22u t3u hi0 hz0 (some ⟨b,off,none⟩) i c (cs.take (i*2)) hold (n+1-i) (by omega) (by omega) (by omega) (by omega) (by rw [hzb];omega) (by rw [hzb,hik];exact growslice_fits hroom (by omega))
  rw [hik,← hG] at h
  rw [hkk,h,Array.append_assoc,← hzs']
  simp
 obtain ⟨ROW,hROW⟩:∃ ROW:Array Value,ROW=(cs.take (i*2)++zs).toArray:=⟨_,rfl⟩
 refine ⟨G,zs,hGn,hzl,?_⟩
 rw [← hROW] at hrz ⊢
 have hRl:(n+1)*2<=ROW.size:=by
  rw [hROW]
  simp
  omega
 obtain ⟨W1,hW1⟩:∃ W1,W1=w.drew.alloc (.cells ROW 36):=⟨_,rfl⟩
 rw [← hW1] at hrz
 have hN:∀ j,j<(n+1)*2->(W1.cell? ⟨w.heap.size,j,none⟩).isSome=true:=fun j hj=>by
  rw [hW1,World.cell?_alloc_at (w:=w.drew) ROW _ w.heap.size j rfl,Array.getElem?_eq_getElem (by omega)];rfl
 have hNf:∀ j,W1.frozen? ⟨w.heap.size,j,none⟩=false:=fun j=>by rw [hW1];exact World.frozen?_alloc_at (w:=w.drew) ROW _ w.heap.size j rfl
 have hOb:∀ j v,w.cell? ⟨b,j,none⟩=some v->W1.cell? ⟨b,j,none⟩=some v:=fun j v h=>by rw [hW1,World.cell?_alloc_past (w:=w.drew) _ b j hbw];exact h
 have hOv:∀ j v,w.cell? ⟨vb,j,none⟩=some v->W1.cell? ⟨vb,j,none⟩=some v:=fun j v h=>by rw [hW1,World.cell?_alloc_past (w:=w.drew) _ vb j hvw];exact h
 have hcpA:∀ (W:World),(∀ x,W.cell? x=W1.cell? x)->(∀ x,W.frozen? x=W1.frozen? x)->∀ ty dc,(Builtin.copy_ #[22,22] ty #[.slice (some ⟨w.heap.size,i*2,none⟩) (n+1-i) dc,.slice (some ⟨vb,voff,none⟩) 1 vc]).run Tryz.prog W=.ok (goInt (Nat.min 1 (n+1-i))) (W.setCells w.heap.size (i*2) vs):=fun W hWc hWf ty dc=>
  run_copy_cells2 W _ _ ty 36 2 w.heap.size (i*2) (n+1-i) dc ⟨vb,voff,none⟩ 1 vc vs t22u i36s (by rw [hvl];simp only [Nat.min_def];split <;> omega)
   (fun j v hj=>by rw [Addr.add_lit,hWc];exact hOv _ v (hvs j v hj))
   (fun j hj=>by rw [hWc];exact hN _ (by omega)) (fun j hj=>by rw [hWf];exact hNf _) h1v
 have hGi:¬ (G=i):=by omega
 have hGim:¬ (G=i+1):=by omega
 have hci:¬ (c=i):=by omega
 have hbN:b≠w.heap.size:=by omega
 have hdl:(cs.drop (i*2)).length=(n-i)*2:=by rw [List.length_drop,hcl];omega
 have hcpB:∀ (W:World),(∀ x,W.cell? x=(W1.setCells w.heap.size (i*2) vs).cell? x)->(∀ x,W.frozen? x=(W1.setCells w.heap.size (i*2) vs).frozen? x)->∀ ty dc sc,(Builtin.copy_ #[22,22] ty #[.slice (some ⟨w.heap.size,(i+1)*2,none⟩) (n-i) dc,.slice (some ⟨b,off+i*2,none⟩) (n-i) sc]).run Tryz.prog W=.ok (goInt (Nat.min (n-i) (n-i))) (W.setCells w.heap.size ((i+1)*2) (cs.drop (i*2))):=fun W hWc hWf ty dc sc=>
  run_copy_cells2 W _ _ ty 36 2 w.heap.size ((i+1)*2) (n-i) dc ⟨b,off+i*2,none⟩ (n-i) sc (cs.drop (i*2)) t22u i36s (by rw [hdl];simp only [Nat.min_def];split <;> omega)
   (fun j v hj=>by
    rw [Addr.add_lit,hWc,World.cell?_setCells_out _ _ _ _ _ (fun h _=>absurd h hbN),Nat.add_assoc]
    exact hOb _ v (hcs (i*2+j) v (by rwa [List.getElem?_drop] at hj)))
   (fun j hj=>by rw [hWc];exact isSome_setCells _ _ _ _ (fun t ht=>hN _ (by omega)) _ (hN _ (by omega)))
   (fun j hj=>by rw [hWf,World.frozen?_setCells];exact hNf _) (fun v hv=>h1c v (List.mem_of_mem_drop hv))
 subst hW1
 have hE1:∀ x,((w.alloc (.cells ROW 36)).drew).cell? x=(w.drew.alloc (.cells ROW 36)).cell? x:=fun x=>rfl
 have hE2:∀ x,((w.alloc (.cells ROW 36)).drew).frozen? x=(w.drew.alloc (.cells ROW 36)).frozen? x:=fun x=>rfl
 have hF1:∀ x,(((w.alloc (.cells ROW 36)).drew.setCells w.heap.size (i*2) vs).drew).cell? x=((w.drew.alloc (.cells ROW 36)).setCells w.heap.size (i*2) vs).cell? x:=fun x=>rfl
 have hF2:∀ x,(((w.alloc (.cells ROW 36)).drew.setCells w.heap.size (i*2) vs).drew).frozen? x=((w.drew.alloc (.cells ROW 36)).setCells w.heap.size (i*2) vs).frozen? x:=fun x=>rfl
 have hw1:IntKind.i64.wrap ((i:Int)+1)=(i:Int)+1:=by rw [IntKind.wrap_i64];omega
 have hb1:(0:Int)<=(i:Int)+1:=by omega
 have hin:i<=n:=by omega
 have htn:((i:Int)+1).toNat=i+1:=by omega
 have hb3:(i:Int)<=(n:Int):=by omega
 clear hkk hik hold hROW hG hRl hzs' hzl
 go_enter Tryz.func191,Tryz.ntmps191
 go_wp2_with (first
  | (at_builtin;refine Lib.wpList_append_run _ rfl _ _ _ _ rfl _ _ rfl rfl _ _ (hrz _) ?_)
  | (at_builtin;refine wpList_copy_runI _ rfl _ _ 22 22 rfl _ _ rfl rfl (hcpA _ hE1 hE2 _ _) ?_)
  | (at_builtin;refine wpList_copy_runI _ rfl _ _ 22 22 rfl _ _ rfl rfl (hcpB _ (fun _=>rfl) (fun _=>rfl) _ _ _) ?_))
 go_region_law_o (refine step_copy_runI rfl _ _ 22 22 rfl (.slice (some ⟨w.heap.size,(i+1)*2,none⟩) (n-i) (G-(i+1))) (.slice (some ⟨b,off+i*2,none⟩) (n-i) (c-i)) (by simp [Act.eval,Act.put]) (by simp [Act.eval,Act.put]) (hcpB _ hF1 hF2 3 (G-(i+1)) (c-i)) ?_)
 go_wp2
 go_ret
 exact ⟨rfl,rfl⟩
end Go.Proofs
namespace Go.Proofs
open Go Go.AM Go.RowKit
set_option maxRecDepth 100000
set_option maxHeartbeats 1000000
theorem cell_heap {w:World} {b:Nat} {cc:Array Value} {t:TypeId} {fr:Nat×Nat} (h:w.heap[b]?=some (.cells cc t fr)) (k:Nat):w.cell? ⟨b,k,none⟩=cc[k]?:=by
 unfold World.cell?
 simp only [h]
 rfl
theorem frozen_heap {w:World} {b:Nat} {cc:Array Value} {t:TypeId} (h:w.heap[b]?=some (.cells cc t (0,0))) (k:Nat):w.frozen? ⟨b,k,none⟩=false:=by
 unfold World.frozen?
 simp only [h]
 simp
theorem shape_heap {w:World} {b:Nat} {cc:Array Value} {t:TypeId} {fr:Nat×Nat} (h:w.heap[b]?=some (.cells cc t fr)):w.shape? b=some (t,cc.size):=by
 unfold World.shape?
 simp only [h]
theorem setCells_put {w:World} {b o:Nat} {cc:Array Value} {t:TypeId} {us:List Value} (h:w.heap[b]?=some (.cells cc t (0,0))) (hl:o+us.length<=cc.size) (h1:∀ v∈us,v.oneCell'=true) :
  w.setCells b o us=World.put w b (.cells (cc.toList.take o++us++cc.toList.drop (o+us.length)).toArray t (0,0)):=by
 have e1:=run_storeCells_cells (P:=Tryz.prog) b o us 0 w (fun j hj=>by
  rw [cell_heap h,Array.getElem?_eq_getElem (by omega)];rfl) (fun j hj=>frozen_heap h _) h1
 have e2:=run_storeCells_at (P:=Tryz.prog) b o t us 0 cc w h (by omega) h1
 rw [e1] at e2
 simp only [Nat.add_zero] at e2
 have e3:=(Result.ok.inj e2).2
 rw [e3,setRow_put h]
theorem row_split {σ:Sg} {vs:List Value} {ty es:Nat} {ro:Bool} {l:AM.Loc} {cs:Array Value} {el:TypeId} {frz:Nat×Nat} (r:RowR σ vs ty es ro l cs el frz) :
  ∃ A rvs J:List Value,cs=(A++rvs++J).toArray/\A.length=l.base/\VRs σ vs rvs/\rvs.length=vs.length:=by
 refine ⟨cs.toList.take l.base,(cs.toList.drop l.base).take vs.length,(cs.toList.drop l.base).drop vs.length,?_,?_,?_,?_⟩
 ·rw [List.append_assoc,List.take_append_drop,List.take_append_drop]
 ·have:=r.size;simp;omega
 ·refine VRs.of_get (by have:=r.size;simp;omega) fun k a b ha hb=>?_
  obtain ⟨v',h1,h2⟩:=r.cell k a ha
  have hlt:=(List.getElem?_eq_some_iff.1 ha).1
  rw [List.getElem?_take_of_lt hlt,List.getElem?_drop,Array.getElem?_toList,h1] at hb
  cases hb
  exact h2
 ·have:=r.size;simp;omega
theorem leaf_all {σ:Sg} {vs rvs:List Value} (h:VRs σ vs rvs) (hl:vs.all isLeaf=true):∀ v∈rvs,v.oneCell'=true:=by
 intro v hv
 obtain ⟨k,hk⟩:=List.mem_iff_getElem?.1 hv
 have hlt:k<vs.length:=by
  have:=h.length
  have:=(List.getElem?_eq_some_iff.1 hk).1
  omega
 obtain ⟨b,hb1,hb2⟩:=h.get (List.getElem?_eq_getElem hlt)
 rw [hk] at hb1;cases hb1
 apply leaf_one
 rw [hb2.leaf]
 exact List.all_eq_true.1 hl _ (List.getElem_mem hlt)
theorem VRs.take {σ:Sg}:∀ {v v':List Value} (n:Nat),VRs σ v v'->VRs σ (v.take n) (v'.take n)
 | _,_,0,_=>by simp;exact .nil
 | _,_,n+1,.nil=>by simp;exact .nil
 | _,_,n+1,.cons h hs=>by simp only [List.take_succ_cons];exact .cons h (VRs.take n hs)
theorem VRs.drop {σ:Sg}:∀ {v v':List Value} (n:Nat),VRs σ v v'->VRs σ (v.drop n) (v'.drop n)
 | _,_,0,h=>by simpa using h
 | _,_,n+1,.nil=>by simp;exact .nil
 | _,_,n+1,.cons h hs=>by simp only [List.drop_succ_cons];exact VRs.drop n hs
theorem ins_list {α:Type} (A R1 R2 J U:List α) (h2:2<=R2.length) (hu:U.length=2) :
  ((((A++(R1++R2)++J).take (A.length+R1.length+2)++R2++(A++(R1++R2)++J).drop (A.length+R1.length+2+R2.length)).take (A.length+R1.length))++U ++
   (((A++(R1++R2)++J).take (A.length+R1.length+2)++R2++(A++(R1++R2)++J).drop (A.length+R1.length+2+R2.length)).drop (A.length+R1.length+U.length)))
  = A++(R1++U++R2)++J.drop 2:=by
 have e1:(A++(R1++R2)++J).take (A.length+R1.length+2)=(A++R1)++R2.take 2:=by
  rw [show A++(R1++R2)++J=(A++R1)++(R2++J) by simp,show A.length+R1.length+2=(A++R1).length+2 by simp,List.take_length_add_append,List.take_append_of_le_length h2]
 have e2:(A++(R1++R2)++J).drop (A.length+R1.length+2+R2.length)=J.drop 2:=by
  rw [show A.length+R1.length+2+R2.length=(A++(R1++R2)).length+2 by simp;omega,List.drop_length_add_append]
 rw [e1,e2]
 have e3:((A++R1)++R2.take 2++R2++J.drop 2).take (A.length+R1.length)=A++R1:=by
  rw [show (A++R1)++R2.take 2++R2++J.drop 2=(A++R1)++(R2.take 2++R2++J.drop 2) by simp,show A.length+R1.length=(A++R1).length by simp,List.take_left]
 have e4:((A++R1)++R2.take 2++R2++J.drop 2).drop (A.length+R1.length+U.length)=R2++J.drop 2:=by
  rw [show (A++R1)++R2.take 2++R2++J.drop 2=((A++R1)++R2.take 2)++(R2++J.drop 2) by simp,show A.length+R1.length+U.length=((A++R1)++R2.take 2).length by simp;omega,List.drop_left]
 rw [e3,e4]
 simp
theorem ins_list2 {α:Type} (R1 R2 Z U:List α) (hu:U.length=2) :
  (R1++Z).take R1.length++U++(R1++Z).drop (R1.length+U.length)=R1++U++Z.drop 2 ∧
  ((R1++Z).take R1.length++U++(R1++Z).drop (R1.length+U.length)).take (R1.length+2)++R2++((R1++Z).take R1.length++U++(R1++Z).drop (R1.length+U.length)).drop (R1.length+2+R2.length)=R1++U++R2++(Z.drop 2).drop R2.length:=by
 have e1:(R1++Z).take R1.length++U++(R1++Z).drop (R1.length+U.length)=R1++U++Z.drop 2:=by
  rw [List.take_left,hu,List.drop_length_add_append]
 refine ⟨e1,?_⟩
 rw [e1]
 rw [show R1.length+2=(R1++U).length by simp;omega,List.take_left,List.drop_length_add_append]
theorem put_put (w:World) (k:Nat) (o o':Obj):AM.World.put (AM.World.put w k o) k o'=AM.World.put w k o':=by
 unfold AM.World.put
 simp
theorem put_alloc (w:World) (o o':Obj):AM.World.put (w.alloc o) w.heap.size o'=w.alloc o':=by
 have e:(w.heap.push o).setIfInBounds w.heap.size o'=w.heap.push o':=by
  apply Array.ext'
  simp [List.set_append]
 show ({ w with heap:=(w.heap.push o).setIfInBounds w.heap.size o' }:World)=_
 rw [e]
 rfl
theorem elt22:Elt 22 36 2:=elt_of elt_22 und_22 ta_36 (by kernel_rfl)
theorem sl_known {σ:Sg} {c o n cap:Nat} {v:Value} (h:VR σ (.slice (some ⟨c,o,none⟩) n cap) v) (hcap:cap<UNK):∃ m:AM.Loc,σ c=some m/\v=.slice (some ⟨m.blk,m.base+o,none⟩) n cap:=by
 cases h with
 | slice _ _ _ h1 h2=>exact ⟨_,h1,rfl⟩
 | sliceU _ _ _ h1 h2 h3=>exact absurd hcap (by show ¬ UNK+_<UNK;omega)
theorem sl_unk {σ:Sg} {c o n cap:Nat} {v:Value} (h:VR σ (.slice (some ⟨c,o,none⟩) n cap) v) (hcap:cap=UNK+2):∃ (l:AM.Loc) (cr:Nat),σ c=some l/\v=.slice (some ⟨l.blk,l.base+o,none⟩) n cr/\o+cr*2=l.tot/\n<=cr:=by
 cases h with
 | slice _ _ _ h1 h2=>omega
 | sliceU _ _ cr h1 h2 h3=>
  rename_i l
  have:l.es=2:=by have:UNK+l.es=UNK+2:=hcap;omega
  exact ⟨l,cr,h1,rfl,by rw [this] at h2;exact h2,h3⟩
theorem ins_ok {lo:Nat} {σ:Sg} {h:AH} {w:World} {b c i n:Nat} {vs us:List Value} {args':List Value} (H:HR lo σ h w)
  (ha:VRs σ [.slice (some ⟨b,0,none⟩) n (UNK+2),.int .i64 (i:Int),.slice (some ⟨c,0,none⟩) 1 1] args')
  (hb:h.get b=some (.row vs 36 2 false)) (hc:h.get c=some (.row us 36 0 false)) (hin:i<=n) (hvl:vs.length=n*2) (hul:us.length=2) (hbc:b≠c) (hvf:vs.all isLeaf=true) (huf:us.all isLeaf=true) (hn:n<=100000) :
  CallsIn Fence.wide 0 Tryz.prog 191 args'.toArray w (Ret (Goes lo σ w [(.slice (some ⟨h.next,0,none⟩) (n+1) (UNK+2),(h.upd b none).new (.row (vs.take (i*2)++us++vs.drop (i*2)) 36 2 false))])):=by
 obtain ⟨l,lb,⟨cc,el,frz,r1,r2⟩,lro⟩:=H.live b _ hb
 obtain ⟨m,mb,⟨mc,mel,mfrz,q1,q2⟩,mro⟩:=H.live c _ hc
 have hf:=r2.free rfl
 have hf2:=q2.free rfl
 subst hf hf2
 have he:=r2.elt
 have he2:=q2.elt
 subst he he2
 obtain ⟨g1,g2⟩:=r2.grown (by decide)
 have hblk:m.blk≠l.blk:=fun e=>by
  have:=H.inj b c _ _ l m hb hc lb mb e.symm hbc
  exact absurd this.1 (by simp [isRO])
 obtain ⟨a1',as1,rfl,a1,ha⟩:∃ x xs,args'=x::xs/\VR σ (.slice (some ⟨b,0,none⟩) n (UNK+2)) x/\VRs σ [.int .i64 (i:Int),.slice (some ⟨c,0,none⟩) 1 1] xs:=by cases ha with|cons x xs=>exact ⟨_,_,rfl,x,xs⟩
 obtain ⟨a2',as2,rfl,a2,ha⟩:∃ x xs,as1=x::xs/\VR σ (.int .i64 (i:Int)) x/\VRs σ [.slice (some ⟨c,0,none⟩) 1 1] xs:=by cases ha with|cons x xs=>exact ⟨_,_,rfl,x,xs⟩
 obtain ⟨a3',as3,rfl,a3,ha⟩:∃ x xs,as2=x::xs/\VR σ (.slice (some ⟨c,0,none⟩) 1 1) x/\VRs σ [] xs:=by cases ha with|cons x xs=>exact ⟨_,_,rfl,x,xs⟩
 cases ha
 have ra1:=a1
 have ra3:=a3
 cases a2
 obtain ⟨m',h1,rfl⟩:=sl_known a3 (by decide)
 rw [mb] at h1
 cases h1
 obtain ⟨l',cr,h1,rfl,hcr,hncr⟩:=sl_unk a1 rfl
 rw [lb] at h1
 cases h1
 obtain ⟨A,rvs,J,hcc,hA,hvr,hrl⟩:=row_split r2
 obtain ⟨A2,rus,J2,hmc,hA2,hur,hrul⟩:=row_split q2
 have h1v:=leaf_all hvr hvf
 have h1u:=leaf_all hur huf
 have hJ:cc.size=l.base+rvs.length+J.length:=by rw [hcc];simp;omega
 have hcs:∀ j v,rvs[j]?=some v->w.cell? ⟨l.blk,l.base+0+j,none⟩=some v:=fun j v hj=>by
  rw [cell_heap r1,hcc]
  have:=(List.getElem?_eq_some_iff.1 hj).1
  rw [List.getElem?_toArray,List.append_assoc,List.getElem?_append_right (by omega),List.getElem?_append_left (by omega),show l.base+0+j-A.length=j by omega]
  exact hj
 have hvs':∀ j v,rus[j]?=some v->w.cell? ⟨m.blk,m.base+0+j,none⟩=some v:=fun j v hj=>by
  rw [cell_heap q1,hmc]
  have:=(List.getElem?_eq_some_iff.1 hj).1
  rw [List.getElem?_toArray,List.append_assoc,List.getElem?_append_right (by omega),List.getElem?_append_left (by omega),show m.base+0+j-A2.length=j by omega]
  exact hj
 have hpos:l.base+rvs.length<=cc.size:=by omega
 have hv2:VRs σ (vs.take (i*2)++us++vs.drop (i*2)) (rvs.take (i*2)++rus++rvs.drop (i*2)):=((VRs.take _ hvr).append hur).append (VRs.drop _ hvr)
 by_cases hi:i=n
 ·subst hi
  have hap:=append_unk (t:=22) (e:=36) (z:=2) elt22 (by decide) hb hvl (by omega) hc hul huf
  have hv:appendV E [22,22] (.slice (some ⟨b,0,none⟩) i (UNK+2)) (.slice (some ⟨c,0,none⟩) 1 1) h=some (.slice (some ⟨h.next,0,none⟩) (i+1) (UNK+2),(h.upd b none).new (.row (vs++us) 36 2 false)):=by
   have hap':v2 (appendV E [22,22] (.slice (some ⟨b,0,none⟩) i (UNK+2)) (.slice (some ⟨c,0,none⟩) 1 1) h)=AM.one (.slice (some ⟨h.next,0,none⟩) (i+1) (UNK+2),(h.upd b none).new (.row (vs++us) 36 2 false)):=hap
   cases hx:appendV E [22,22] (.slice (some ⟨b,0,none⟩) i (UNK+2)) (.slice (some ⟨c,0,none⟩) 1 1) h with
   | none=>rw [hx] at hap';cases hap'
   | some x=>rw [hx] at hap';cases hap';rfl
  obtain ⟨v',w',τ,y1,y2,y3,y4,y5⟩:=appendV_ok (E:=E) Tryz.envOK H (ts:=#[22,22]) (ty:=22) ra1 ra3 hv
  have hrun:=ins_end l.blk (l.base+0) i cr m.blk (m.base+0) 1 w hncr hn y1
  refine callsIn_wide.2 (hrun.mono fun en w'' hr=>?_)
  obtain ⟨rfl,rfl⟩:=hr
  refine ⟨_,List.mem_singleton.2 rfl,τ,y2,?_,y4,y5⟩
  rw [List.take_of_length_le (by omega),List.drop_eq_nil_of_le (by omega),List.append_nil]
  exact y3
 ·by_cases hroom:n+1<=cr
  ·have hrun:=ins_shift l.blk (l.base+0) n cr i m.blk (m.base+0) 1 rvs rus w (by omega) hroom hn hblk (by omega) (by omega) hcs (fun j hj=>by
    rw [cell_heap r1,Array.getElem?_eq_getElem (by omega)];rfl) (fun j hj=>frozen_heap r1 _) hvs' h1v h1u 36 36 mc.size cc.size (shape_heap q1) (shape_heap r1) (by omega) (frozen_heap q1 _) (frozen_heap q1 _)
   refine callsIn_wide.2 (hrun.mono fun en w' hr=>?_)
   obtain ⟨rfl,rfl⟩:=hr
   have hD:(rvs.drop (i*2)).length=(n-i)*2:=by rw [List.length_drop];omega
   have hR1:(rvs.take (i*2)).length=i*2:=by rw [List.length_take];omega
   have hrd:w.drew.heap[l.blk]?=some (.cells cc 36 (0,0)):=r1
   have e1:=setCells_put (o:=l.base+0+(i+1)*2) (us:=rvs.drop (i*2)) hrd (by omega) (fun v hv=>h1v v (List.mem_of_mem_drop hv))
   have hlt:l.blk<w.drew.heap.size:=lt_of_get hrd
   have hput:(World.put w.drew l.blk (.cells (cc.toList.take (l.base+0+(i+1)*2)++rvs.drop (i*2)++cc.toList.drop (l.base+0+(i+1)*2+(rvs.drop (i*2)).length)).toArray 36 (0,0))).heap[l.blk]?=some (.cells (cc.toList.take (l.base+0+(i+1)*2)++rvs.drop (i*2)++cc.toList.drop (l.base+0+(i+1)*2+(rvs.drop (i*2)).length)).toArray 36 (0,0)):=by
    rw [World.put_get hlt,if_pos rfl]
   have e2:=setCells_put (o:=l.base+0+i*2) (us:=rus) hput (by simp;omega) h1u
   have hlist:=ins_list A (rvs.take (i*2)) (rvs.drop (i*2)) J rus (by omega) (by omega)
   rw [List.take_append_drop] at hlist
   have hccl:cc.toList=A++rvs++J:=by rw [hcc]
   rw [e1,e2,put_put]
   simp only [List.toList_toArray,hccl]
   rw [show l.base+0+(i+1)*2=A.length+(rvs.take (i*2)).length+2 by omega,show l.base+0+i*2=A.length+(rvs.take (i*2)).length by omega,hlist]
   have hsz2:(A++(rvs.take (i*2)++rus++rvs.drop (i*2))++J.drop 2).toArray.size=cc.size:=by simp;omega
   have hrow:RowR σ (vs.take (i*2)++us++vs.drop (i*2)) 36 2 false l (A++(rvs.take (i*2)++rus++rvs.drop (i*2))++J.drop 2).toArray 36 (0,0):=by
    refine ⟨by rw [hsz2];simp;omega,fun k v hk=>?_,fun _=>rfl,rfl,fun e=>absurd e (by decide),fun _=>⟨g1,by rw [hsz2];exact g2⟩⟩
    obtain ⟨u,u1,u2⟩:=hv2.get hk
    refine ⟨u,?_,u2⟩
    have:=(List.getElem?_eq_some_iff.1 u1).1
    rw [List.getElem?_toArray,List.append_assoc,List.getElem?_append_right (by omega),List.getElem?_append_left (by omega),show l.base+k-A.length=k by omega]
    exact u1
   obtain ⟨k1,k2⟩:=(H.heap (w':=w.drew) rfl).updRow hb lb hrow
   obtain ⟨k3,k4⟩:=HR.rename k1 (b:=b) (vs:=vs.take (i*2)++us++vs.drop (i*2)) (vs':=vs.take (i*2)++us++vs.drop (i*2)) (ty:=36) (es:=2) (o:=0) (l:=l) (by rw [AH.get_upd,if_pos rfl]) lb (by decide) (Nat.zero_le _) (fun k u hk=>by rw [Nat.zero_add];exact hk) (by omega)
   refine ⟨_,List.mem_singleton.2 rfl,_,k4,k3.same rfl (fun k=>get_new_kill ..),?_,?_⟩
   ·have:=VR.sliceU (σ:=σ.ext h.next ⟨l.blk,l.base+0,l.tot-0,2⟩) (b:=h.next) (l:=⟨l.blk,l.base+0,l.tot-0,2⟩) 0 (n+1) cr (Sg.ext_self ..) (by simp only;omega) hroom
    exact this
   ·exact (Below.drew (Below.refl lo w)).trans k2
  ·have hce:cr=n:=by omega
   subst hce
   obtain ⟨G,zs,hG1,hzl,hrun⟩:=ins_grow l.blk (l.base+0) cr cr i m.blk (m.base+0) 1 rvs rus w (by omega) (Nat.le_refl _) (by omega) (by omega) (by omega) (by omega) hcs hvs' h1v h1u
   refine callsIn_wide.2 (hrun.mono fun en w' hr=>?_)
   obtain ⟨rfl,rfl⟩:=hr
   have hD:(rvs.drop (i*2)).length=(cr-i)*2:=by rw [List.length_drop];omega
   have hR1:(rvs.take (i*2)).length=i*2:=by rw [List.length_take];omega
   generalize hR1e:rvs.take (i*2)=R1 at hR1 hv2
   generalize hR2e:rvs.drop (i*2)=R2 at hD hv2
   have h1R2:∀ v∈R2,v.oneCell'=true:=fun v hv=>h1v v (by rw [← hR2e] at hv;exact List.mem_of_mem_drop hv)
   have hra:((w.alloc (.cells (R1++zs).toArray 36)).drew).heap[w.heap.size]?=some (.cells (R1++zs).toArray 36 (0,0)):=by
    show (w.alloc _).heap[w.heap.size]?=_
    rw [heap_alloc,if_pos rfl]
   have e1:=setCells_put (o:=i*2) (us:=rus) hra (by simp;omega) h1u
   have hput:((World.put ((w.alloc (.cells (R1++zs).toArray 36)).drew) w.heap.size (.cells ((R1++zs).toArray.toList.take (i*2)++rus++(R1++zs).toArray.toList.drop (i*2+rus.length)).toArray 36 (0,0))).drew).heap[w.heap.size]?=some (.cells ((R1++zs).toArray.toList.take (i*2)++rus++(R1++zs).toArray.toList.drop (i*2+rus.length)).toArray 36 (0,0)):=by
    show (World.put _ w.heap.size _).heap[w.heap.size]?=_
    rw [World.put_get (lt_of_get hra),if_pos rfl]
   have e2:=setCells_put (o:=(i+1)*2) (us:=R2) hput (by simp;omega) h1R2
   have hlist:=(ins_list2 R1 R2 zs rus (by omega)).2
   have hfin:(((w.alloc (.cells (R1++zs).toArray 36)).drew.setCells w.heap.size (i*2) rus).drew).setCells w.heap.size ((i+1)*2) R2=w.drew.drew.alloc (.cells (R1++rus++R2++(zs.drop 2).drop R2.length).toArray 36):=by
    rw [e1,e2]
    simp only [List.toList_toArray]
    rw [show (i+1)*2=R1.length+2 by omega,show i*2=R1.length by omega,hlist]
    show World.put (World.put (w.drew.drew.alloc _) w.heap.size _) w.heap.size _=_
    rw [put_put]
    exact put_alloc w.drew.drew _ _
   rw [hfin]
   obtain ⟨k1,k2,k3⟩:=grown_ok (w:=w.drew.drew) ((H.kill b).heap rfl) (ty:=36) (es:=2) (tot:=G*2) (vs:=vs.take (i*2)++us++vs.drop (i*2)) (cs:=(R1++rus++R2++(zs.drop 2).drop R2.length).toArray) (by
    intro k v hk
    obtain ⟨u,u1,u2⟩:=hv2.get hk
    refine ⟨u,?_,u2⟩
    have:=(List.getElem?_eq_some_iff.1 u1).1
    rw [List.getElem?_toArray,List.getElem?_append_left (by omega)]
    exact u1) (by simp;omega) (by decide) (by
    have:=hv2.length
    simp at this ⊢
    omega)
   refine ⟨_,List.mem_singleton.2 rfl,_,k2,k1,?_,(Below.drew (Below.drew (Below.refl lo w))).trans k3⟩
   have:=VR.sliceU (σ:=σ.ext h.next ⟨w.heap.size,0,G*2,2⟩) (b:=h.next) (l:=⟨w.heap.size,0,G*2,2⟩) 0 (cr+1) G (Sg.ext_self ..) (by simp) hG1
   exact this
end Go.Proofs
namespace Go.Proofs
open Go Go.RowKit Go.Lib
theorem t26u:Tryz.prog.underlying 26=some (.slice 54):=by kernel_rfl
theorem i54a:(Tryz.prog.info? 54).map (fun i=>(i.zero,i.size,i.bytes))=some (some (.agg #[.int .i64 0,.int .i64 0]),2,16):=by kernel_rfl
set_option maxHeartbeats 4000000 in
set_option maxRecDepth 100000 in
theorem grow_none (w:World):Calls Tryz.prog 160 #[.slice none 0 0,.int .i64 0] w fun e w'=>e=.returned (.slice none 0 0)/\w'=w:=by
 have mixed:=Tryz.mixed
 go_enter Tryz.func160,Tryz.ntmps160
 go_wp2
 go_ret
 exact ⟨rfl,rfl⟩
set_option maxHeartbeats 4000000 in
set_option maxRecDepth 100000 in
theorem grow_nil (n:Nat) (w:World) (hn:0<n) (hn2:n<=1000000) :
  ∃ (G:Nat) (zs:List Value),n<=G/\zs.length=G*2 ∧
  Calls Tryz.prog 160 #[.slice none 0 0,.int .i64 n] w fun e w'=>e=.returned (.slice (some ⟨w.heap.size,0,none⟩) 0 G)/\w'=w.drew.alloc (.cells zs.toArray 54):=by
 have mixed:=Tryz.mixed
 obtain ⟨i0,hi0,hz0,hzs,hzb⟩:=info_parts i54a
 have hold:(Builtin.firstCells i0.size 0 (.slice none 0 0)).run Tryz.prog w.drew=.ok ([]:List Value).toArray w.drew:=rfl
 obtain ⟨G,hG⟩:∃ G,G=grownCap w (0+n) 0 54:=⟨_,rfl⟩
 have hGn:n<=G:=by rw [hG];have:=grownCap_ge w (0+n) 0 54;omega
 obtain ⟨zs,hzs'⟩:∃ zs:List Value,zs.toArray=Builtin.zeroCells (Value.agg #[.int .i64 0,.int .i64 0]).cells n++Builtin.zeroCells (Value.agg #[.int .i64 0,.int .i64 0]).cells (G-(0+n)):=⟨(Builtin.zeroCells (Value.agg #[.int .i64 0,.int .i64 0]).cells n++Builtin.zeroCells (Value.agg #[.int .i64 0,.int .i64 0]).cells (G-(0+n))).toList,by simp⟩
 have hzl:zs.length=G*2:=by
  have:=congrArg Array.size hzs'
  simp [Builtin.zeroCells,Value.cells] at this
  omega
 have hrz:∀ ty,(Builtin.append_ #[26,3] ty #[.slice none 0 0,.int .i64 (n:Int)]).run Tryz.prog w =
   .ok (.slice (some ⟨w.heap.size,0,none⟩) n G) (w.drew.alloc (.cells zs.toArray 54)):=fun ty=>by
  have h:=Lib.run_append_grow_zeros w 26 3 ty 54 i0 _ .i64 .i64 t26u t3u hi0 hz0 none 0 0 [] hold n (by omega) (by omega) (by omega) (by omega) (by rw [hzb];omega) (by rw [hzb];exact growslice_fits (by omega) (by omega))
  rw [← hG] at h
  rw [h,Array.append_assoc,← hzs']
  simp
 refine ⟨G,zs,hGn,hzl,?_⟩
 have h0:(0:Int)<(n:Int):=by omega
 have h1:¬ ((n:Int)<0):=by omega
 have hw:IntKind.i64.wrap (n:Int)=(n:Int):=by rw [IntKind.wrap_i64];omega
 have hw0:IntKind.i64.wrap ((n:Int)-0)=(n:Int):=by rw [Int.sub_zero];exact hw
 clear hG hold hzs' hzl
 go_enter Tryz.func160,Tryz.ntmps160
 go_wp2_with (at_builtin;refine Lib.wpList_append_run _ rfl _ _ _ _ rfl _ _ rfl rfl _ _ (hrz _) ?_)
 go_ret
 exact ⟨rfl,rfl⟩
end Go.Proofs
namespace Go.Proofs
open Go.Shelf Go.RowKit Go.Sort Go.Lib
def Tryz.laysM171_ren:Go.Shelf.Ren:=⟨fun|171=>80|243=>132|246=>181|283=>223|284=>224|285=>225|286=>226|129=>153|317=>256|318=>257|319=>258|320=>259|337=>273|338=>274|n=>n,fun|3=>3|9=>9|2=>2|4=>4|171=>274|0=>0|53=>209|37=>102|5=>5|173=>276|212=>298|51=>207|20=>20|213=>299|46=>140|232=>315|233=>316|n=>n,fun|17=>0|18=>2|19=>3|n=>n⟩
theorem Tryz.laysM171:Go.Proofs.LaysM.n171 Tryz.prog Tryz.laysM171_ren:={
 mixed:=by kernel_rfl
 f129:=Tryz.func153.trans (congrArg some (by kernel_rfl))
 f171:=Tryz.func80.trans (congrArg some (by kernel_rfl))
 f243:=Tryz.func132.trans (congrArg some (by kernel_rfl))
 f246:=Tryz.func181.trans (congrArg some (by kernel_rfl))
 f283:=Tryz.func223.trans (congrArg some (by kernel_rfl))
 f284:=Tryz.func224.trans (congrArg some (by kernel_rfl))
 f285:=Tryz.func225.trans (congrArg some (by kernel_rfl))
 f286:=Tryz.func226.trans (congrArg some (by kernel_rfl))
 f317:=Tryz.func256.trans (congrArg some (by kernel_rfl))
 f318:=Tryz.func257.trans (congrArg some (by kernel_rfl))
 f319:=Tryz.func258.trans (congrArg some (by kernel_rfl))
 f320:=Tryz.func259.trans (congrArg some (by kernel_rfl))
 f337:=Tryz.func273.trans (congrArg some (by kernel_rfl))
 f338:=Tryz.func274.trans (congrArg some (by kernel_rfl))
 t0:=Tryz.underlying0
 a0:=Tryz.isAgg0
 z0:=Tryz.sizeOf0
 v0:=Tryz.zeroValue0
 t2:=Tryz.underlying2
 a2:=Tryz.isAgg2
 z2:=Tryz.sizeOf2
 v2:=Tryz.zeroValue2
 t3:=Tryz.underlying3
 a3:=Tryz.isAgg3
 z3:=Tryz.sizeOf3
 v3:=Tryz.zeroValue3
 t4:=Tryz.underlying4
 a4:=Tryz.isAgg4
 z4:=Tryz.sizeOf4
 v4:=Tryz.zeroValue4
 t5:=Tryz.underlying5
 a5:=Tryz.isAgg5
 z5:=Tryz.sizeOf5
 v5:=Tryz.zeroValue5
 t9:=Tryz.underlying9
 a9:=Tryz.isAgg9
 z9:=Tryz.sizeOf9
 v9:=Tryz.zeroValue9
 t20:=Tryz.underlying20
 a20:=Tryz.isAgg20
 z20:=Tryz.sizeOf20
 v20:=Tryz.zeroValue20
 t37:=Tryz.underlying102
 a37:=Tryz.isAgg102
 z37:=Tryz.sizeOf102
 v37:=Tryz.zeroValue102
 t46:=Tryz.underlying140
 a46:=Tryz.isAgg140
 z46:=Tryz.sizeOf140
 v46:=Tryz.zeroValue140
 t51:=Tryz.underlying207
 a51:=Tryz.isAgg207
 z51:=Tryz.sizeOf207
 v51:=Tryz.zeroValue207
 t53:=Tryz.underlying209
 a53:=Tryz.isAgg209
 z53:=Tryz.sizeOf209
 v53:=Tryz.zeroValue209
 t171:=Tryz.underlying274
 a171:=Tryz.isAgg274
 z171:=Tryz.sizeOf274
 v171:=Tryz.zeroValue274
 t173:=Tryz.underlying276
 a173:=Tryz.isAgg276
 z173:=Tryz.sizeOf276
 v173:=Tryz.zeroValue276
 t212:=Tryz.underlying298
 a212:=Tryz.isAgg298
 z212:=Tryz.sizeOf298
 v212:=Tryz.zeroValue298
 t213:=Tryz.underlying299
 a213:=Tryz.isAgg299
 z213:=Tryz.sizeOf299
 t232:=Tryz.underlying315
 a232:=Tryz.isAgg315
 z232:=Tryz.sizeOf315
 v232:=Tryz.zeroValue315
 t233:=Tryz.underlying316
 a233:=Tryz.isAgg316
 z233:=Tryz.sizeOf316
 v233:=Tryz.zeroValue316
 g17:=by kernel_rfl
 g18:=by kernel_rfl
 g19:=by kernel_rfl
 i0:=by kernel_rfl
 i2:=by kernel_rfl
 i3:=by kernel_rfl
 i4:=by kernel_rfl
 i5:=by kernel_rfl
 i9:=by kernel_rfl
 i20:=by kernel_rfl
 i37:=by kernel_rfl
 i46:=by kernel_rfl
 i51:=by kernel_rfl
 i53:=by kernel_rfl
 i171:=by kernel_rfl
 i173:=by kernel_rfl
 i212:=by kernel_rfl
 i232:=by kernel_rfl
 i233:=by kernel_rfl
 m17:=by kernel_rfl
 m18:=by kernel_rfl
 m19:=by kernel_rfl }
theorem Tryz.strconv_Itoa (n:Int) (h0:-9223372036854775808<=n) (h1:n<=9223372036854775807) (w:World) (htab:Lib.TabIs Tryz.prog w "internal/strconv.uint64pow10" .u64 Lib.pow10Tab) :
  Calls Tryz.prog 80 #[.int .i64 n] w fun e w'=>e=.returned (.string ⟨(Lib.itoa n).toArray⟩)/\∃ k os,w'=grow (w.drewN k) os:=Any.strconv_Itoa Tryz.laysM171 n h0 h1 w htab
end Go.Proofs
namespace Go.Proofs
open Go.Shelf Go.RowKit Go.Sort
def Tryz.lays190_ren:Go.Shelf.Ren:=⟨fun|190=>115|125=>93|258=>162|128=>152|129=>153|302=>197|303=>198|304=>199|305=>200|306=>201|307=>202|308=>203|309=>204|310=>205|333=>236|329=>193|330=>194|334=>237|335=>238|336=>239|344=>266|n=>n,fun|31=>85|9=>9|3=>3|46=>140|0=>0|51=>207|53=>209|4=>4|183=>201|182=>200|131=>169|5=>5|218=>253|222=>94|228=>282|229=>283|n=>n,fun|n=>n⟩
theorem Tryz.lays190:Go.Proofs.Lays.n190 Tryz.prog Tryz.lays190_ren:={
 mixed:=by kernel_rfl
 f125:=Tryz.func93.trans (congrArg some (by kernel_rfl))
 f128:=Tryz.func152.trans (congrArg some (by kernel_rfl))
 f129:=Tryz.func153.trans (congrArg some (by kernel_rfl))
 f190:=Tryz.func115.trans (congrArg some (by kernel_rfl))
 f258:=Tryz.func162.trans (congrArg some (by kernel_rfl))
 f302:=Tryz.func197.trans (congrArg some (by kernel_rfl))
 f303:=Tryz.func198.trans (congrArg some (by kernel_rfl))
 f304:=Tryz.func199.trans (congrArg some (by kernel_rfl))
 f305:=Tryz.func200.trans (congrArg some (by kernel_rfl))
 f306:=Tryz.func201.trans (congrArg some (by kernel_rfl))
 f307:=Tryz.func202.trans (congrArg some (by kernel_rfl))
 f308:=Tryz.func203.trans (congrArg some (by kernel_rfl))
 f309:=Tryz.func204.trans (congrArg some (by kernel_rfl))
 f310:=Tryz.func205.trans (congrArg some (by kernel_rfl))
 f329:=Tryz.func193.trans (congrArg some (by kernel_rfl))
 f330:=Tryz.func194.trans (congrArg some (by kernel_rfl))
 f333:=Tryz.func236.trans (congrArg some (by kernel_rfl))
 f334:=Tryz.func237.trans (congrArg some (by kernel_rfl))
 f335:=Tryz.func238.trans (congrArg some (by kernel_rfl))
 f336:=Tryz.func239.trans (congrArg some (by kernel_rfl))
 f344:=Tryz.func266.trans (congrArg some (by kernel_rfl))
 t0:=Tryz.underlying0
 a0:=Tryz.isAgg0
 z0:=Tryz.sizeOf0
 v0:=Tryz.zeroValue0
 t3:=Tryz.underlying3
 a3:=Tryz.isAgg3
 z3:=Tryz.sizeOf3
 v3:=Tryz.zeroValue3
 t4:=Tryz.underlying4
 a4:=Tryz.isAgg4
 z4:=Tryz.sizeOf4
 v4:=Tryz.zeroValue4
 t5:=Tryz.underlying5
 a5:=Tryz.isAgg5
 z5:=Tryz.sizeOf5
 v5:=Tryz.zeroValue5
 t9:=Tryz.underlying9
 a9:=Tryz.isAgg9
 z9:=Tryz.sizeOf9
 v9:=Tryz.zeroValue9
 t31:=Tryz.underlying85
 a31:=Tryz.isAgg85
 z31:=Tryz.sizeOf85
 v31:=Tryz.zeroValue85
 t46:=Tryz.underlying140
 a46:=Tryz.isAgg140
 z46:=Tryz.sizeOf140
 v46:=Tryz.zeroValue140
 t51:=Tryz.underlying207
 a51:=Tryz.isAgg207
 z51:=Tryz.sizeOf207
 v51:=Tryz.zeroValue207
 t53:=Tryz.underlying209
 a53:=Tryz.isAgg209
 z53:=Tryz.sizeOf209
 v53:=Tryz.zeroValue209
 t131:=Tryz.underlying169
 a131:=Tryz.isAgg169
 z131:=Tryz.sizeOf169
 v131:=Tryz.zeroValue169
 t182:=Tryz.underlying200
 a182:=Tryz.isAgg200
 z182:=Tryz.sizeOf200
 v182:=Tryz.zeroValue200
 t183:=Tryz.underlying201
 a183:=Tryz.isAgg201
 z183:=Tryz.sizeOf201
 v183:=Tryz.zeroValue201
 t218:=Tryz.underlying253
 a218:=Tryz.isAgg253
 z218:=Tryz.sizeOf253
 v218:=Tryz.zeroValue253
 t222:=Tryz.underlying94
 a222:=Tryz.isAgg94
 z222:=Tryz.sizeOf94
 v222:=Tryz.zeroValue94
 t228:=Tryz.underlying282
 a228:=Tryz.isAgg282
 z228:=Tryz.sizeOf282
 v228:=Tryz.zeroValue282
 t229:=Tryz.underlying283
 a229:=Tryz.isAgg283
 z229:=Tryz.sizeOf283
 v229:=Tryz.zeroValue283 }
theorem Tryz.slices_Sort_string (blk off cap:Nat) (ss:List (List UInt8)) (w:World) (hH:Holds encStr w blk off ss.toArray) (hblk:blk<w.heap.size) (hsz:ss.length<4611686018427387904) :
  Calls Tryz.prog 115 #[.slice (some ⟨blk,off,none⟩) ss.length cap] w fun e w'=>
   e=.returned (.tuple #[])/\∃ n os,w'=grow (putRow encStr (Sort.ahead w n) blk off (ss.mergeSort fun x y=>decide (x<=y)).toArray) os:=Any.slices_Sort_string Tryz.lays190 blk off cap ss w hH hblk hsz
end Go.Proofs
namespace Go.Proofs
open Go Go.AM Go.RowKit Go.Sort
set_option maxRecDepth 100000
set_option maxHeartbeats 1000000
theorem putRow_put {w:World} {b off:Nat} {cc:Array Value} {t:TypeId} {fr:Nat×Nat} {d:Array (List UInt8)} (h:w.heap[b]?=some (.cells cc t fr)):putRow encStr w b off d=AM.World.put w b (.cells (putCells encStr off d cc) t fr):=by
 unfold putRow mapBlock AM.World.put
 congr 1
 apply Array.ext_getElem?
 intro k
 simp only [Array.getElem?_modify,Array.getElem?_setIfInBounds]
 by_cases hk:b=k
 ·subst hk
  have hlt:=lt_of_get h
  rw [if_pos rfl,if_pos rfl,if_pos hlt,h]
  rfl
 ·simp [hk]
theorem sl_unk1 {σ:Sg} {c o n cap:Nat} {v:Value} (h:VR σ (.slice (some ⟨c,o,none⟩) n cap) v) (hcap:cap=UNK+1):∃ (l:AM.Loc) (cr:Nat),σ c=some l/\v=.slice (some ⟨l.blk,l.base+o,none⟩) n cr:=by
 cases h with
 | slice _ _ _ h1 h2=>omega
 | sliceU _ _ cr h1 h2 h3=>exact ⟨_,cr,h1,rfl⟩
theorem sort_ok {lo:Nat} {σ:Sg} {h:AH} {w:World} {b n:Nat} {ss:List (List UInt8)} {args':List Value} (H:HR lo σ h w) (ha:VRs σ [.slice (some ⟨b,0,none⟩) n (UNK+1)] args') (hb:h.get b=some (.row (ss.map stV) 9 1 false)) (hn:n=ss.length) (hl:ss.length<=1000000) :
  CallsIn Fence.wide 0 Tryz.prog 115 args'.toArray w (Ret (Goes lo σ w [(.tuple #[],h.upd b (some (.row ((sorS ss).map stV) 9 1 false)))])):=by
 subst hn
 obtain ⟨l,lb,⟨cc,el,frz,r1,r2⟩,lro⟩:=H.live b _ hb
 have hf:=r2.free rfl
 subst hf
 have hg:=r2.grown (by decide)
 have hs:=r2.size
 rw [List.length_map] at hs
 obtain ⟨cr,rfl⟩:∃ cr,args'=[.slice (some ⟨l.blk,l.base+0,none⟩) ss.length cr]:=by
  cases ha with
  | cons hv hr=>
   cases hr
   obtain ⟨l',cr,z1,rfl⟩:=sl_unk1 hv rfl
   rw [lb] at z1
   cases z1
   exact ⟨cr,rfl⟩
 have hlt:l.blk<w.heap.size:=lt_of_get r1
 have hlen:(sorS ss).length=ss.length:=by unfold sorS;simp
 have hH:Holds encStr w l.blk (l.base+0) ss.toArray:=by
  intro j hj
  have hj':j<ss.length:=by simpa using hj
  obtain ⟨v',h1,h2⟩:=r2.cell j (stV ss[j]) (by rw [List.getElem?_map,List.getElem?_eq_getElem hj'];rfl)
  cases h2
  refine ⟨?_,frozen_heap r1 _⟩
  rw [cell_heap r1,Nat.add_zero,h1]
  congr 1
  have:ss.toArray[j]! = ss[j]:=by rw [getElem!_pos ss.toArray j hj];simp
  rw [this]
 refine callsIn_wide.2 ((Tryz.slices_Sort_string l.blk (l.base+0) cr ss w hH hlt (by omega)).mono fun en w' hr=>?_)
 obtain ⟨rfl,m,os,rfl⟩:=hr
 have r1':(Sort.ahead w m).heap[l.blk]?=some (.cells cc el (0,0)):=r1
 rw [putRow_put r1']
 have Ha:HR lo σ h (Sort.ahead w m):=H.heap rfl
 have HU:=Ha.upd (o':=.row ((sorS ss).map stV) 9 1 false) (.cells (putCells encStr (l.base+0) (sorS ss).toArray cc) el (0,0)) hb lb rfl (fun es v e=>by cases e) (by
  refine ⟨putCells encStr (l.base+0) (sorS ss).toArray cc,el,(0,0),?_,?_⟩
  ·rw [World.put_get (w:=Sort.ahead w m) hlt,if_pos rfl]
  ·refine ⟨by unfold putCells;simp;omega,fun i v hv=>?_,fun _=>rfl,r2.elt,fun e=>absurd e (by decide),fun e=>⟨hg.1,by unfold putCells;simpa using hg.2⟩⟩
   have hi:i<(sorS ss).length:=by have:=(List.getElem?_eq_some_iff.1 hv).1;simpa using this
   rw [List.getElem?_map,List.getElem?_eq_getElem hi] at hv
   cases hv
   refine ⟨stV (sorS ss)[i],?_,.string _⟩
   unfold putCells
   rw [Array.getElem?_mapIdx]
   have hc:l.base+i<cc.size:=by omega
   rw [Array.getElem?_eq_getElem hc]
   simp only [Option.map_some,Nat.add_zero,List.size_toArray]
   rw [if_pos ⟨by omega,by omega⟩,show l.base+i-l.base=i by omega]
   have:(sorS ss).toArray[i]! = (sorS ss)[i]:=by rw [getElem!_pos (sorS ss).toArray i (by simpa using hi)];simp
   rw [this])
 have hlo:=lro rfl
 have hbl:Below lo w (AM.World.put (Sort.ahead w m) l.blk (.cells (putCells encStr (l.base+0) (sorS ss).toArray cc) el (0,0))):=⟨rfl,rfl,rfl,by rw [size_put];exact Nat.le_refl _,fun k hk=>by rw [World.put_get (w:=Sort.ahead w m) hlt,if_neg (by omega)];rfl⟩
 have hg2:=Lib.below_grow (AM.World.put (Sort.ahead w m) l.blk (.cells (putCells encStr (l.base+0) (sorS ss).toArray cc) el (0,0))).heap.size _ (Nat.le_refl _) 0 os
 rw [World.drewN_zero] at hg2
 exact ⟨_,List.mem_singleton.2 rfl,σ,Sg.le_refl σ,HR.keep HU hg2,.tuple .nil,hbl.trans (hg2.mono (by rw [size_put];exact H.lo))⟩
theorem strs_of:∀ {vs:List Value} {ss:List (List UInt8)},strsOf vs=some ss->vs=ss.map stV
 | [],ss,h=>by cases h;rfl
 | v::vs,ss,h=>by
  cases v with
  | string s=>
   simp only [strsOf] at h
   cases hs:strsOf vs with
   | none=>rw [hs] at h;cases h
   | some l=>
    rw [hs] at h
    cases h
    rw [strs_of hs,List.map_cons]
  | _=>simp [strsOf] at h
theorem sortSum {args:List Value} {h:AH} {outs:List (Value×AH)} (e:sortAt args h=some outs):(∀ lo σ w args',HR lo σ h w->VRs σ args args'->CallsIn Fence.wide 0 Tryz.prog 115 args'.toArray w (Ret (Goes lo σ w outs)))/\FrAll h outs:=by
 unfold sortAt at e
 split at e
 ·split at e
  ·rename_i b n cap _ vs hb
   split at e
   ·rename_i ss hss
    cases hcond:(Nat.beq cap (UNK+1)&&Nat.beq n (llen ss)&&Nat.ble n 1000000) with
    | false=>rw [hcond] at e;cases e
    | true=>
     rw [hcond] at e
     simp only [cond_true,Option.some.injEq] at e
     subst e
     simp only [Bool.and_eq_true,AM.beq_true,ble_true,llen_eq] at hcond
     obtain ⟨⟨h1,h2⟩,h3⟩:=hcond
     subst h1
     rw [strs_of hss] at hb
     exact ⟨fun lo σ w args' H ha=>sort_ok H ha hb h2 (by omega),frOne (Fr.upd h b _)⟩
   ·cases e
  ·cases e
 ·cases e
end Go.Proofs
namespace Go.Proofs
open Go Go.AM Go.RowKit
set_option maxRecDepth 100000
set_option maxHeartbeats 1000000
theorem insSum191 {args:List Value} {h:AH} {outs:List (Value×AH)} (e:insAt args h=some outs):(∀ lo σ w args',HR lo σ h w->VRs σ args args'->CallsIn Fence.wide 0 Tryz.prog 191 args'.toArray w (Ret (Goes lo σ w outs)))/\FrAll h outs:=by
 unfold insAt at e
 split at e
 ·split at e
  ·rename_i b n cap i c _ _ vs us hb hc
   cases hcond:(Nat.beq cap (UNK+2)&&Nat.ble i n&&Nat.beq (llen vs) (n*2)&&Nat.beq (llen us) 2&&!Nat.beq b c&&vs.all isLeaf&&us.all isLeaf&&Nat.ble n 100000) with
   | false=>rw [hcond] at e;cases e
   | true=>
    rw [hcond] at e
    simp only [cond_true,Option.some.injEq] at e
    subst e
    simp only [Bool.and_eq_true,AM.beq_true,ble_true,llen_eq,Bool.not_eq_true'] at hcond
    obtain ⟨⟨⟨⟨⟨⟨⟨h1,h2⟩,h3⟩,h4⟩,h5⟩,h6⟩,h7⟩,h8⟩:=hcond
    subst h1
    have hbc:b≠c:=by
     rintro rfl
     rw [Nat.beq_refl] at h5;cases h5
    refine ⟨fun lo σ w args' H ha=>?_,frOne ?_⟩
    ·have:=ins_ok H ha hb hc h2 h3 h4 hbc h6 h7 h8
     rw [ltake_eq,ldrop_eq]
     exact this
    ·exact (Fr.upd h b none).trans (Fr.new _ _)
  ·cases e
 ·cases e
theorem growSum {args:List Value} {h:AH} {outs:List (Value×AH)} (e:growAt args h=some outs):(∀ lo σ w args',HR lo σ h w->VRs σ args args'->CallsIn Fence.wide 0 Tryz.prog 160 args'.toArray w (Ret (Goes lo σ w outs)))/\FrAll h outs:=by
 unfold growAt at e
 split at e
 ·rename_i n
  have inv:∀ {σ:Sg} {args':List Value},VRs σ [.slice none 0 0,.int .i64 (.ofNat n)] args'->args'=[.slice none 0 0,.int .i64 (n:Int)]:=by
   intro σ args' ha
   cases ha with
   | cons x xs=>
    cases x
    cases xs with
    | cons y ys=>
     cases y
     cases ys
     rfl
  cases h0:Nat.beq n 0 with
  | true=>
   rw [h0] at e
   cases e
   have:=Nat.eq_of_beq_eq_true h0
   subst this
   refine ⟨fun lo σ w args' H ha=>?_,frOne (Fr.refl h)⟩
   rw [inv ha]
   refine callsIn_wide.2 ((grow_none w).mono fun en w' hr=>?_)
   obtain ⟨rfl,rfl⟩:=hr
   exact ⟨_,List.mem_singleton.2 rfl,σ,Sg.le_refl σ,H,.sliceN 0 0,Below.refl _ _⟩
  | false=>
   rw [h0] at e
   cases h1:Nat.ble n 1000000 with
   | false=>rw [h1] at e;cases e
   | true=>
    rw [h1] at e
    cases e
    have h1:=ble_true.1 h1
    have hn:0<n:=by
     rcases Nat.eq_zero_or_pos n with h|h
     ·subst h;cases h0
     ·exact h
    refine ⟨fun lo σ w args' H ha=>?_,frOne (Fr.new _ _)⟩
    rw [inv ha]
    obtain ⟨G,zs,g1,g2,hrun⟩:=grow_nil n w hn h1
    refine callsIn_wide.2 (hrun.mono fun en w' hr=>?_)
    obtain ⟨rfl,rfl⟩:=hr
    obtain ⟨k1,k2,k3⟩:=grown_ok (w:=w.drew) (H.heap rfl) (ty:=54) (es:=2) (tot:=G*2) (vs:=[]) (cs:=zs.toArray) (fun i v hv=>by simp at hv) (by simp;omega) (by decide) (by simp)
    refine ⟨_,List.mem_singleton.2 rfl,_,k2,k1,?_,(Below.drew (Below.refl lo w)).trans k3⟩
    exact VR.sliceU (σ:=σ.ext h.next ⟨w.heap.size,0,G*2,2⟩) (b:=h.next) (l:=⟨w.heap.size,0,G*2,2⟩) 0 0 G (Sg.ext_self ..) (by simp) (Nat.zero_le _)
 ·cases e
theorem tens_tab {lo:Nat} {w:World} (k:Tens lo w):Lib.TabIs Tryz.prog w "internal/strconv.uint64pow10" .u64 Lib.pow10Tab:=by
 obtain ⟨_,t,f,h⟩:=k
 have hg:Tryz.prog.globalNamed "internal/strconv.uint64pow10"=some keptBlk:=by kernel_rfl
 unfold Lib.TabIs World.var?
 rw [hg]
 simp only [Option.bind_some,h]
 exact congrArg some (by simp [keptCells,Lib.pow10Tab,Function.comp_def])
theorem itoaSum {args:List Value} {h:AH} {outs:List (Value×AH)} (e:itoaAt args h=some outs):(∀ lo σ w args',HR lo σ h w->VRs σ args args'->CallsIn Fence.wide 0 Tryz.prog 80 args'.toArray w (Ret (Goes lo σ w outs)))/\FrAll h outs:=by
 unfold itoaAt at e
 split at e
 ·rename_i n
  cases hc:(decide (-9223372036854775808<=n)&&decide (n<=9223372036854775807)) with
  | false=>rw [hc] at e;cases e
  | true=>
   rw [hc] at e
   cases e
   simp only [Bool.and_eq_true,decide_eq_true_eq] at hc
   refine ⟨fun lo σ w args' H ha=>?_,frOne (Fr.refl h)⟩
   cases ha with
   | cons hv hs=>
    cases hs
    cases hv
    refine callsIn_wide.2 ((Tryz.strconv_Itoa n hc.1 hc.2 w (tens_tab H.kept)).mono fun en w' hr=>?_)
    obtain ⟨rfl,k,os,rfl⟩:=hr
    have hb:=Lib.below_grow w.heap.size w (Nat.le_refl _) k os
    exact ⟨_,List.mem_singleton.2 rfl,σ,Sg.le_refl σ,HR.keep H hb,.string _,hb.mono H.lo⟩
 ·cases e
theorem sumOK (f:FuncId) (args:List Value) (h:AH) (outs:List (Value×AH)) (e:insSum f args h=some outs):(∀ lo σ w args',HR lo σ h w->VRs σ args args'->CallsIn Fence.wide 0 Tryz.prog f args'.toArray w (Ret (Goes lo σ w outs)))/\FrAll h outs:=by
 unfold insSum at e
 cases hf:Nat.beq f 191 with
 | true=>
  rw [hf] at e
  have:=Nat.eq_of_beq_eq_true hf
  subst this
  exact insSum191 e
 | false=>
  rw [hf] at e
  simp only at e
  cases hg:Nat.beq f 13 with
  | true=>
   rw [hg] at e
   have:=Nat.eq_of_beq_eq_true hg
   subst this
   exact saneSum e
  | false=>
   rw [hg] at e
   simp only at e
   cases hw:Nat.beq f 160 with
   | true=>
    rw [hw] at e
    have:=Nat.eq_of_beq_eq_true hw
    subst this
    exact growSum e
   | false=>
    rw [hw] at e
    simp only at e
    cases hz:Nat.beq f 80 with
    | true=>
     rw [hz] at e
     have:=Nat.eq_of_beq_eq_true hz
     subst this
     exact itoaSum e
    | false=>
     rw [hz] at e
     simp only at e
     cases hy:Nat.beq f 115 with
     | true=>
      rw [hy] at e
      have:=Nat.eq_of_beq_eq_true hy
      subst this
      exact sortSum e
     | false=>rw [hy] at e;cases e
theorem extE:ExtOK E:=Tryz.extOK sumOK
theorem envE:EnvOK E:=Tryz.envOK
end Go.Proofs
namespace Go.Proofs.YthmnhjcmefjgjaaGreatDoor
open Go Go.AM Go.ChangeShapes Go.WideShapes Go.ChangeAt Go.RowKit
set_option maxRecDepth 100000
theorem ownKnobT:ownKnob Tryz.prog.godebug=none:=by kernel_rfl
theorem laidOutT:laidOutB Tryz.prog=true:=by kernel_rfl
theorem agg_of {w:World} {base:Nat} {t:TypeId} {v:Value} {l:List (TypeId×Nat)} (hf:fieldsOf Tryz.prog t=some l) (h:Value.okWide Tryz.prog w .any base t v):∃ cs,v=.agg cs:=by
 unfold fieldsOf at hf
 unfold Value.okWide at h
 split at hf
 ·rename_i fs hu
  rw [hu] at h
  obtain ⟨cs,e,_⟩:=h
  exact ⟨cs,e⟩
 ·cases hf
section
variable {H:Type} {enc:TypeId×Value->H} {w:World} {base:Nat} {held:Bool}
theorem build_RB {n:Nat} {cs:List Value} {x:DataW H×List MemPlace} {σ:Sg} {h:AH} (hok:h.ok) (hH:HR w.heap.size σ h w) (htr:DataW.trod enc Tryz.prog w base (fun _=>true) held n 32 cs=some x) :
  ∃ (σ':Sg) (h':AH) (vs:List Value) (B:GB),More w σ h σ' h'/\VRs σ' vs cs/\RB h' vs B:=by
 obtain ⟨m',hm',hl,hf⟩:=struct_open ar_f32 htr
 rw [ar_c32] at hl
 obtain ⟨c0,c1,rfl⟩:=len2 hl
 obtain ⟨y0,g0⟩:=hf 0 3 0 rfl
 obtain ⟨y1,g1⟩:=hf 1 26 1 rfl
 rw [ar_c3_] at g0
 rw [ar_c26] at g1
 obtain ⟨k0,rfl⟩:=int_cell g0
 obtain ⟨σ1,h1,v1,v1',ps,e1,m1,r1,a1,n1⟩:=build_prs hok hH g1
 cases e1
 exact ⟨σ1,h1,[.int .i64 k0,v1],⟨k0,ps⟩,m1,.cons (.int _ _) (.cons r1 .nil),⟨v1,rfl,a1⟩⟩
end
theorem ga10:Tryz.prog.globalNamed "internal/strconv.uint64pow10"=some 0:=by kernel_rfl
theorem ga11:(Tryz.prog.globals[0]?).map (·.type)=some 298:=by kernel_rfl
theorem ga12:Tryz.prog.underlying 298=some (.array 20 209):=by kernel_rfl
theorem ga13:Tryz.prog.underlying 209=some (.int .u64):=by kernel_rfl
theorem ga14:Tryz.prog.cellsOf 209=1:=by kernel_rfl
theorem ga15:Tryz.prog.cellsOf 298=20:=by kernel_rfl
theorem ga16:(Rows.laid_internal_strconv_uint64pow10:DataW Unit)=Lib.tabData .u64 Lib.pow10Tab:=by kernel_rfl
theorem tens_of {W:World} (hL:laidMetH Tryz.prog Rows.certTracesRow.laid W):Tens W.heap.size W:=by
 rw [MakeChecks.laidMetH_plain _ _ _ (by kernel_rfl)] at hL
 obtain ⟨g,t,cs,fuel,p,hg,ht,hv,hd⟩:=Lib.laidMet.reads hL (n:= "internal/strconv.uint64pow10") (d:=Rows.laid_internal_strconv_uint64pow10) (List.mem_cons_of_mem _ (List.mem_cons_of_mem _ List.mem_cons_self))
 obtain rfl:=Option.some.inj (ga10.symm.trans hg)
 obtain rfl:=Option.some.inj (ga11.symm.trans ht)
 rw [ga16] at hd
 have hcs:=Lib.cells_of_tab ga12 ga13 ga14 ga15 hd
 unfold World.var? at hv
 rw [ga10] at hv
 simp only [Option.bind_some] at hv
 split at hv
 ·rename_i c1 t1 f1 hh
  have hcc:c1=cs:=Option.some.inj hv
  have e:c1=keptCells:=by
   rw [hcc]
   apply Array.ext'
   rw [hcs]
   simp [keptCells,Lib.pow10Tab,Function.comp_def]
  refine ⟨?_,t1,f1,by rw [← e];exact hh⟩
  show 0<W.heap.size
  rcases Nat.eq_zero_or_pos W.heap.size with h|h
  ·rw [Array.getElem?_eq_none (by omega)] at hh;cases hh
  ·exact h
 ·cases hv
theorem fin11 {lo:Nat} {σ:Sg} {h:AH} {w:World} {x0:Value} {L0:GL} {x1:Value} {L1:GL} {x2:List Value} {L2:GB} {args':List Value} (H:HR lo σ h w) (hok:h.ok) (r0:RL h x0 L0) (r1:RL h x1 L1) (r2:RB h x2 L2)
  (ha:VRs σ [x0,x1,.agg ⟨x2⟩] args'):Calls Tryz.prog 11 args'.toArray w (Ret (Goes lo σ w [(.bool true,h)])):=
 calls_of_evalI envE extE (by kernel_rfl) H ha (call11 hok r0 r1 r2)
theorem certTraces_calls {H:Type} {enc:TypeId×Value->H} {W:World} {base:Nat} {v0 v1 v2:Value} {d0 d1 d2:DataW H} {p0 p1 p2:List MemPlace}
  (hL:laidMetH Tryz.prog Rows.certTracesRow.laid W) (k0:Value.okWide Tryz.prog W .any base 25 v0) (k1:Value.okWide Tryz.prog W .any base 25 v1) (k2:Value.okWide Tryz.prog W .any base 32 v2)
  (h0:DataW.Trod enc Tryz.prog W 0 (fun _=>true) true 25 v0 d0 p0) (h1:DataW.Trod enc Tryz.prog W 0 (fun _=>true) true 25 v1 d1 p1) (h2:DataW.Trod enc Tryz.prog W 0 (fun _=>true) true 32 v2 d2 p2) :
  Calls Tryz.prog 11 #[v0,v1,v2] W fun e W'=>e=.returned (.bool true)/\Below W.heap.size W W':=by
 obtain ⟨c0,rfl⟩:=agg_of ar_f25 k0
 obtain ⟨c1,rfl⟩:=agg_of ar_f25 k1
 obtain ⟨c2,rfl⟩:=agg_of ar_f32 k2
 obtain ⟨u0,t0⟩:=h0
 obtain ⟨u1,t1⟩:=h1
 obtain ⟨u2,t2⟩:=h2
 have ok0:AH.ok ⟨.e,0,UNK⟩:=by unfold AH.ok;simp
 obtain ⟨s0,g0,x0,L0,m0,w0,r0,_⟩:=build_RL ok0 (HR.empty (tens_of hL)) t0
 obtain ⟨s1,g1,x1,L1,m1,w1,r1,_⟩:=build_RL m0.ok m0.hr t1
 obtain ⟨s2,g2,x2,L2,m2,w2,r2⟩:=build_RB m1.ok m1.hr t2
 have hargs:VRs s2 [.agg ⟨x0⟩,.agg ⟨x1⟩,.agg ⟨x2⟩] [.agg c0,.agg c1,.agg c2]:=.cons (.agg (w0.mono (Sg.le_trans m1.le (m2.le)))) (.cons (.agg (w1.mono (m2.le))) (.cons (.agg w2) .nil))
 refine (fin11 m2.hr m2.ok (r0.ext (m1.ext.trans (m2.ext))) (r1.ext (m2.ext)) r2 hargs).mono fun e W' he=>?_
 cases e with
 | returned r=>
  obtain ⟨o,ho,τ,_,_,hv,hb⟩:=he
  simp only [List.mem_singleton] at ho
  subst ho
  cases hv
  exact ⟨rfl,hb⟩
 | _=>exact he.elim
end Go.Proofs.YthmnhjcmefjgjaaGreatDoor
