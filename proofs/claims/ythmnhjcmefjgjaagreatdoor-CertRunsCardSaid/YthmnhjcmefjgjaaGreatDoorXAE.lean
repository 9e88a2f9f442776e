import Derived.Test.YthmnhjcmefjgjaaGreatDoorXAD
set_option linter.all false
set_option linter.unusedSectionVars false
set_option autoImplicit true
set_option relaxedAutoImplicit true
namespace Go.Proofs
open Go Go.AM
set_option maxRecDepth 100000
variable {s:Bool} {K:KF} {h:AH} {a:Option Addr} {n c:Nat} {v0 v1 v2 v3 v4 v5 v6 v7 v8 v9 v10 v11 v12 v13 v14 v16 v17 v18 v19 v22 v23 v24 v25 v26 v27 v29 v30 v31 v32 v34 v35 v36 v50 v51 v52 v56 v57 v58 v64 v65 v66:Value}
noncomputable def B14:Code:=zT Tryz.f14
noncomputable def C14 (s:Bool):Cx:=⟨E,s,none,B14,[([0],[0]),([1,0],[0]),([1,1,0,0],[0,3]),([1,1,0,1,0,0,0],[3,8,9,10]),([1,1,0,1,0,0,1,1,0,0,0],[3,8,9,10]),([1,1,0,1,0,0,1,1,0,0,1,0,0],[3,5,8,9,10]),([1,1,0,1,0,0,1,1,0,0,1,0,1,0,0],[]),([1,1,0,1,0,0,1,1,0,0,1,1,0],[3,5,8,9,10]),([1,1,0,1,0,0,1,1,0,0,1,1,1,0,0,0],[3,8,9,10,30,31,32]),([1,1,0,1,0,0,1,1,0,0,1,1,1,0,0,1,1,0,0,0],[3,8,9,10,30,31,32]),([1,1,0,1,0,0,1,1,0,0,1,1,1,0,0,1,1,0,0,1,0],[3,7,8,9,10,30,31,32]),([1,1,0,1,0,0,1,1,0,0,1,1,1,0,0,1,1,0,0,1,1,0,0],[]),([1,1,0,1,0,0,1,1,0,0,1,1,1,0,0,1,1,1],[3,8,9,10,30,31,32]),([1,1,0,1,0,0,1,1,1],[3,8,9,10]),([1,1,1,0],[])],[2],[]⟩
def P14_0 (s:Bool) (K:KF) (v0:Value) (h:AH):Prop:=PI (C14 s) K 0 [v0] h
def P14_1 (s:Bool) (K:KF) (v0:Value) (h:AH):Prop:=PI (C14 s) K 1 [v0] h
def P14_2 (s:Bool) (K:KF) (v0 v3:Value) (h:AH):Prop:=PI (C14 s) K 2 [v0,v3] h
def P14_3 (s:Bool) (K:KF) (v3 v8 v9 v10:Value) (h:AH):Prop:=PI (C14 s) K 3 [v3,v8,v9,v10] h
def P14_4 (s:Bool) (K:KF) (v3 v8 v9 v10:Value) (h:AH):Prop:=PI (C14 s) K 4 [v3,v8,v9,v10] h
def P14_5 (s:Bool) (K:KF) (v3 v5 v8 v9 v10:Value) (h:AH):Prop:=PI (C14 s) K 5 [v3,v5,v8,v9,v10] h
def P14_6 (s:Bool) (K:KF) (h:AH):Prop:=PI (C14 s) K 6 [] h
def P14_7 (s:Bool) (K:KF) (v3 v5 v8 v9 v10:Value) (h:AH):Prop:=PI (C14 s) K 7 [v3,v5,v8,v9,v10] h
def P14_8 (s:Bool) (K:KF) (v3 v8 v9 v10 v30 v31 v32:Value) (h:AH):Prop:=PI (C14 s) K 8 [v3,v8,v9,v10,v30,v31,v32] h
def P14_9 (s:Bool) (K:KF) (v3 v8 v9 v10 v30 v31 v32:Value) (h:AH):Prop:=PI (C14 s) K 9 [v3,v8,v9,v10,v30,v31,v32] h
def P14_10 (s:Bool) (K:KF) (v3 v7 v8 v9 v10 v30 v31 v32:Value) (h:AH):Prop:=PI (C14 s) K 10 [v3,v7,v8,v9,v10,v30,v31,v32] h
def P14_11 (s:Bool) (K:KF) (h:AH):Prop:=PI (C14 s) K 11 [] h
def P14_12 (s:Bool) (K:KF) (v3 v8 v9 v10 v30 v31 v32:Value) (h:AH):Prop:=PI (C14 s) K 12 [v3,v8,v9,v10,v30,v31,v32] h
def P14_13 (s:Bool) (K:KF) (v3 v8 v9 v10:Value) (h:AH):Prop:=PI (C14 s) K 13 [v3,v8,v9,v10] h
def P14_14 (s:Bool) (K:KF) (h:AH):Prop:=PI (C14 s) K 14 [] h
theorem P14_0_of (H :
 EvO (α:=Value) (some (.bool false)) fun x0=>
 P14_1 s K v0 h):P14_0 s K v0 h:=zB H
theorem P14_1_of (H :
 Ev s (zU 3 h (zAC E 3)) fun x0=>
 Ev s (zu E 3 x0.2 (some x0.1) (some (.int .i64 2000))) fun x1=>
 P14_2 s K v0 x0.1 x1.2):P14_1 s K v0 h:=zB H
theorem P14_2_of (H :
 EvO (some v0) fun x0=>
 EvO (zN E (zj [(8,x0)]) (zy B14 [1,1,0,0] 1) h) fun x1=>
 EvO (α:=Value) (some (.int .i64 0)) fun x2=>
 P14_3 s K v3 x0 x1 x2 h):P14_2 s K v0 v3 h:=zB H
theorem len14_2_1:zN E (zj [(8,.slice a n c)]) (zy B14 [1,1,0,0] 1) h=some (.int .i64 (n:Int)):=by cases a <;> kernel_rfl
theorem P14_3_of (H :
 EvO (zE E .lss 3 v10 v9) fun x0=>
 BrK (some x0) (P14_4 s K v3 v8 v9 v10 h) (P14_14 s K  h)):P14_3 s K v3 v8 v9 v10 h:=zB H
theorem P14_4_of (H :
 EvO (zH E 82 (some v8) (some v10)) fun x0=>
 EvO (zG E 25 h (some x0)) fun x1=>
 Ev s (zU 25 h (zAC E 25)) fun x2=>
 Ev s (zu E 25 x2.2 (some x2.1) (some x1)) fun x3=>
 P14_5 s K v3 x2.1 v8 v9 v10 x3.2):P14_4 s K v3 v8 v9 v10 h:=zB H
theorem P14_5_of (H :
 EvO (zC E 25 0 (some v5)) fun x0=>
 EvO (zG E 3 h (some x0)) fun x1=>
 EvO (zE E .gtr 3 x1 (.int .i64 60)) fun x2=>
 EvO (some x2) fun x3=>
 EvO (gdB x3 false (zC E 25 2 (some v5))) fun x4=>
 EvO (gdB x3 false (zG E 23 h (some x4))) fun x5=>
 EvO (gdB x3 false (zN E (zj [(19,x5)]) (zy B14 [1,1,0,1,0,0,1,1,0,0,1,0,0] 6) h)) fun x6=>
 EvO (gdB x3 false (zE E .gtr 3 x6 (.int .i64 300))) fun x7=>
 EvO (z9 (some x3) (some (.bool true)) (some x7)) fun x8=>
 EvO (some x8) fun x9=>
 EvO (gdB x9 false (zC E 25 1 (some v5))) fun x10=>
 EvO (gdB x9 false (zG E 22 h (some x10))) fun x11=>
 EvO (gdB x9 false (zN E (zj [(25,x11)]) (zy B14 [1,1,0,1,0,0,1,1,0,0,1,0,0] 12) h)) fun x12=>
 EvO (gdB x9 false (zE E .gtr 3 x12 (.int .i64 60))) fun x13=>
 EvO (z9 (some x9) (some (.bool true)) (some x13)) fun x14=>
 BrK (some x14) (P14_6 s K  h) (P14_7 s K v3 v5 v8 v9 v10 h)):P14_5 s K v3 v5 v8 v9 v10 h:=zB H
theorem len14_5_6:zN E (zj [(19,.slice a n c)]) (zy B14 [1,1,0,1,0,0,1,1,0,0,1,0,0] 6) h=some (.int .i64 (n:Int)):=by cases a <;> kernel_rfl
theorem len14_5_12:zN E (zj [(25,.slice a n c)]) (zy B14 [1,1,0,1,0,0,1,1,0,0,1,0,0] 12) h=some (.int .i64 (n:Int)):=by cases a <;> kernel_rfl
theorem P14_6_of (H :
 EvO (α:=Value) (some (.bool false)) fun x0=>
 K .ret [x0] h):P14_6 s K h:=zB H
theorem P14_7_of (H :
 EvO (zC E 25 1 (some v5)) fun x0=>
 EvO (zG E 22 h (some x0)) fun x1=>
 EvO (zN E (zj [(30,x1)]) (zy B14 [1,1,0,1,0,0,1,1,0,0,1,1,0] 2) h) fun x2=>
 EvO (α:=Value) (some (.int .i64 0)) fun x3=>
 P14_8 s K v3 v8 v9 v10 x1 x2 x3 h):P14_7 s K v3 v5 v8 v9 v10 h:=zB H
theorem len14_7_2:zN E (zj [(30,.slice a n c)]) (zy B14 [1,1,0,1,0,0,1,1,0,0,1,1,0] 2) h=some (.int .i64 (n:Int)):=by cases a <;> kernel_rfl
theorem P14_8_of (H :
 EvO (zE E .lss 3 v32 v31) fun x0=>
 BrK (some x0) (P14_9 s K v3 v8 v9 v10 v30 v31 v32 h) (P14_13 s K v3 v8 v9 v10 h)):P14_8 s K v3 v8 v9 v10 v30 v31 v32 h:=zB H
theorem P14_9_of (H :
 EvO (zH E 22 (some v30) (some v32)) fun x0=>
 EvO (zG E 36 h (some x0)) fun x1=>
 Ev s (zU 36 h (zAC E 36)) fun x2=>
 Ev s (zu E 36 x2.2 (some x2.1) (some x1)) fun x3=>
 P14_10 s K v3 x2.1 v8 v9 v10 v30 v31 v32 x3.2):P14_9 s K v3 v8 v9 v10 v30 v31 v32 h:=zB H
theorem P14_10_of (H :
 EvO (zC E 36 1 (some v7)) fun x0=>
 EvO (zG E 34 h (some x0)) fun x1=>
 Ev s (za (zV E) (some (.func (.func 69) #[] #[])) (some [x1,v3,(.int .i64 1)]) h) fun x2=>
 EvO (zAf .not x2.1) fun x3=>
 BrK (some x3) (P14_11 s K  x2.2) (P14_12 s K v3 v8 v9 v10 v30 v31 v32 x2.2)):P14_10 s K v3 v7 v8 v9 v10 v30 v31 v32 h:=zB H
theorem P14_11_of (H :
 EvO (α:=Value) (some (.bool false)) fun x0=>
 K .ret [x0] h):P14_11 s K h:=zB H
theorem P14_12_of (H :
 EvO (zE E .add 3 v32 (.int .i64 1)) fun x0=>
 EvO (some x0) fun x1=>
 P14_8 s K v3 v8 v9 v10 v30 v31 x1 h):P14_12 s K v3 v8 v9 v10 v30 v31 v32 h:=zB H
theorem P14_13_of (H :
 EvO (zE E .add 3 v10 (.int .i64 1)) fun x0=>
 EvO (some x0) fun x1=>
 P14_3 s K v3 v8 v9 x1 h):P14_13 s K v3 v8 v9 v10 h:=zB H
theorem P14_14_of (H :
 EvO (α:=Value) (some (.bool true)) fun x0=>
 K .ret [x0] h):P14_14 s K h:=zB H
theorem F14_ev {s:Bool} {v0:Value} {h:AH} {Rp:Value->AH->Prop} (H:P14_0 s (KR E [.tmp 2] Rp) v0 h) :
 Ev s (R.andThen (evC E (zV E) none (zT Tryz.f14) ⟨⟨Tryz.f14.ntmps,zw [v0] 0 .e⟩,h,[]⟩) (zc E Tryz.f14)) fun x=>Rp x.1 x.2:=
 zf (C:=C14 s) rfl rfl ⟨rfl,rfl,by kernel_rfl,rfl⟩ (by kernel_rfl) (by kernel_rfl) ((by kernel_rfl:z5 (C14 s) (KR E Tryz.f14.results.toList Rp) 30 (rs B14 60 (.at [])) (zj (zAw 0 [v0])) h=(P14_0 s (KR E [.tmp 2] Rp) v0 h)).mpr H)
theorem F14_get:E.tab.fn.get 14=some Tryz.f14:=by kernel_rfl
theorem F14_body:Tryz.f14.body=some B14:=by kernel_rfl
theorem F14_sum (l:List Value) (h:AH):E.sum 14 l h=none:=by kernel_rfl
theorem F14_flatE {v0:Value} {h:AH} {Rp:Value->Prop} (hok:h.ok) (H:P14_0 true (KR E [.tmp 2] (fun x k=>(zg x=true/\Rp x)/\h.next<=k.wm)) v0 h.fresh):∃ v,Rp v/\(zV E).call 14 [v0] h=some [(v,h)]:=
 zAT hok F14_get F14_body (F14_sum _ _) (by kernel_rfl) (F14_ev (Rp:=fun x k=>(zg x=true/\Rp x)/\h.next<=k.wm) H)
noncomputable def B15:Code:=zT Tryz.f15
noncomputable def C15 (s:Bool):Cx:=⟨E,s,none,B15,[([0],[0,1,2]),([1,0,0],[3,4,5]),([1,0,1,0],[3,4,5,7]),([1,0,1,1,0,0],[7]),([1,1,0,0],[3,4,5]),([1,1,0,1,0],[3,4,5,8]),([1,1,0,1,1,0,0],[8]),([1,1,1,0,0],[3,4,5]),([1,1,1,0,1,0,0],[]),([1,1,1,1,0],[])],[6],[]⟩
def P15_0 (s:Bool) (K:KF) (v0 v1 v2:Value) (h:AH):Prop:=PI (C15 s) K 0 [v0,v1,v2] h
def P15_1 (s:Bool) (K:KF) (v3 v4 v5:Value) (h:AH):Prop:=PI (C15 s) K 1 [v3,v4,v5] h
def P15_2 (s:Bool) (K:KF) (v3 v4 v5 v7:Value) (h:AH):Prop:=PI (C15 s) K 2 [v3,v4,v5,v7] h
def P15_3 (s:Bool) (K:KF) (v7:Value) (h:AH):Prop:=PI (C15 s) K 3 [v7] h
def P15_4 (s:Bool) (K:KF) (v3 v4 v5:Value) (h:AH):Prop:=PI (C15 s) K 4 [v3,v4,v5] h
def P15_5 (s:Bool) (K:KF) (v3 v4 v5 v8:Value) (h:AH):Prop:=PI (C15 s) K 5 [v3,v4,v5,v8] h
def P15_6 (s:Bool) (K:KF) (v8:Value) (h:AH):Prop:=PI (C15 s) K 6 [v8] h
def P15_7 (s:Bool) (K:KF) (v3 v4 v5:Value) (h:AH):Prop:=PI (C15 s) K 7 [v3,v4,v5] h
def P15_8 (s:Bool) (K:KF) (h:AH):Prop:=PI (C15 s) K 8 [] h
def P15_9 (s:Bool) (K:KF) (h:AH):Prop:=PI (C15 s) K 9 [] h
theorem P15_0_of (H :
 Ev s (zU 25 h (some v0)) fun x0=>
 Ev s (zU 25 x0.2 (some v1)) fun x1=>
 Ev s (zU 32 x1.2 (some v2)) fun x2=>
 EvO (α:=Value) (some (.int .i64 0)) fun x3=>
 P15_1 s K x0.1 x1.1 x2.1 x2.2):P15_0 s K v0 v1 v2 h:=zB H
theorem P15_1_of (H :
 EvO (zG E 25 h (some v3)) fun x0=>
 EvO (zG E 25 h (some v4)) fun x1=>
 Ev s (zh E 82 2 (some [(0,x0),(1,x1)]) h) fun x2=>
 Ev s (za (zV E) (some (.func (.func 70) #[] #[])) (some [x2.1]) x2.2) fun x3=>
 EvO (some x3.1) fun x4=>
 P15_2 s K v3 v4 v5 x4 x3.2):P15_1 s K v3 v4 v5 h:=zB H
theorem P15_2_of (H :
 EvO (some v7) fun x0=>
 EvO (zE E .neq 29 x0 (.int .i64 0)) fun x1=>
 BrK (some x1) (P15_3 s K v7 h) (P15_4 s K v3 v4 v5 h)):P15_2 s K v3 v4 v5 v7 h:=zB H
theorem P15_3_of (H :
 EvO (some v7) fun x0=>
 EvO (some x0) fun x1=>
 K .ret [x1] h):P15_3 s K v7 h:=zB H
theorem P15_4_of (H :
 EvO (zG E 32 h (some v5)) fun x0=>
 Ev s (zh E 83 1 (some [(0,x0)]) h) fun x1=>
 Ev s (za (zV E) (some (.func (.func 71) #[] #[])) (some [x1.1]) x1.2) fun x2=>
 EvO (some x2.1) fun x3=>
 P15_5 s K v3 v4 v5 x3 x2.2):P15_4 s K v3 v4 v5 h:=zB H
theorem P15_5_of (H :
 EvO (some v8) fun x0=>
 EvO (zE E .neq 29 x0 (.int .i64 0)) fun x1=>
 BrK (some x1) (P15_6 s K v8 h) (P15_7 s K v3 v4 v5 h)):P15_5 s K v3 v4 v5 v8 h:=zB H
theorem P15_6_of (H :
 EvO (some v8) fun x0=>
 EvO (some x0) fun x1=>
 K .ret [x1] h):P15_6 s K v8 h:=zB H
theorem P15_7_of (H :
 EvO (zG E 25 h (some v3)) fun x0=>
 EvO (zG E 25 h (some v4)) fun x1=>
 EvO (zG E 32 h (some v5)) fun x2=>
 Ev s (za (zV E) (some (.func (.func 72) #[] #[])) (some [x0,x1,x2]) h) fun x3=>
 EvO (zAf .not x3.1) fun x4=>
 BrK (some x4) (P15_8 s K  x3.2) (P15_9 s K  x3.2)):P15_7 s K v3 v4 v5 h:=zB H
theorem P15_8_of (H :
 EvO (α:=Value) (some (.int .i64 360)) fun x0=>
 K .ret [x0] h):P15_8 s K h:=zB H
theorem P15_9_of (H :
 EvO (α:=Value) (some (.int .i64 0)) fun x0=>
 K .ret [x0] h):P15_9 s K h:=zB H
theorem F15_ev {s:Bool} {v0 v1 v2:Value} {h:AH} {Rp:Value->AH->Prop} (H:P15_0 s (KR E [.tmp 6] Rp) v0 v1 v2 h) :
 Ev s (R.andThen (evC E (zV E) none (zT Tryz.f15) ⟨⟨Tryz.f15.ntmps,zw [v0,v1,v2] 0 .e⟩,h,[]⟩) (zc E Tryz.f15)) fun x=>Rp x.1 x.2:=
 zf (C:=C15 s) rfl rfl ⟨rfl,rfl,by kernel_rfl,rfl⟩ (by kernel_rfl) (by kernel_rfl) ((by kernel_rfl:z5 (C15 s) (KR E Tryz.f15.results.toList Rp) 30 (rs B15 60 (.at [])) (zj (zAw 0 [v0,v1,v2])) h=(P15_0 s (KR E [.tmp 6] Rp) v0 v1 v2 h)).mpr H)
theorem F15_get:E.tab.fn.get 15=some Tryz.f15:=by kernel_rfl
theorem F15_body:Tryz.f15.body=some B15:=by kernel_rfl
theorem F15_sum (l:List Value) (h:AH):E.sum 15 l h=none:=by kernel_rfl
theorem F15_flat {s:Bool} {v0 v1 v2:Value} {h:AH} {v:Value} (hok:h.ok) (hv:zm v=true) (H:P15_0 s (KR E [.tmp 6] (fun x k=>x=v/\h.next<=k.wm)) v0 v1 v2 h.fresh):(zV E).call 15 [v0,v1,v2] h=some [(v,h)]:=
 zk (s:=s) hok F15_get F15_body (F15_sum _ _) (by kernel_rfl) hv (F15_ev (Rp:=fun x k=>x=v/\h.next<=k.wm) H)
noncomputable def B69:Code:=zT Tryz.f69
noncomputable def C69 (s:Bool):Cx:=⟨E,s,none,B69,[([0],[0,1,2]),([1,0,0],[0,1,2]),([1,0,1,0,0,0],[1,2,9,10,11]),([1,0,1,0,0,1,1,0,0,0],[1,2,9,10,11]),([1,0,1,0,0,1,1,0,0,1,0],[1,2,8,9,10,11]),([1,0,1,0,0,1,1,0,0,1,1,0],[1,2,8,9,10,11]),([1,0,1,0,0,1,1,0,0,1,1,1,0,0],[]),([1,0,1,0,0,1,1,1],[1,2,9,10,11]),([1,1,0],[])],[6],[]⟩
def P69_0 (s:Bool) (K:KF) (v0 v1 v2:Value) (h:AH):Prop:=PI (C69 s) K 0 [v0,v1,v2] h
def P69_1 (s:Bool) (K:KF) (v0 v1 v2:Value) (h:AH):Prop:=PI (C69 s) K 1 [v0,v1,v2] h
def P69_2 (s:Bool) (K:KF) (v1 v2 v9 v10 v11:Value) (h:AH):Prop:=PI (C69 s) K 2 [v1,v2,v9,v10,v11] h
def P69_3 (s:Bool) (K:KF) (v1 v2 v9 v10 v11:Value) (h:AH):Prop:=PI (C69 s) K 3 [v1,v2,v9,v10,v11] h
def P69_4 (s:Bool) (K:KF) (v1 v2 v8 v9 v10 v11:Value) (h:AH):Prop:=PI (C69 s) K 4 [v1,v2,v8,v9,v10,v11] h
def P69_5 (s:Bool) (K:KF) (v1 v2 v8 v9 v10 v11:Value) (h:AH):Prop:=PI (C69 s) K 5 [v1,v2,v8,v9,v10,v11] h
def P69_6 (s:Bool) (K:KF) (h:AH):Prop:=PI (C69 s) K 6 [] h
def P69_7 (s:Bool) (K:KF) (v1 v2 v9 v10 v11:Value) (h:AH):Prop:=PI (C69 s) K 7 [v1,v2,v9,v10,v11] h
def P69_8 (s:Bool) (K:KF) (h:AH):Prop:=PI (C69 s) K 8 [] h
theorem P69_0_of (H :
 EvO (α:=Value) (some (.bool false)) fun x0=>
 P69_1 s K v0 v1 v2 h):P69_0 s K v0 v1 v2 h:=zB H
theorem P69_1_of (H :
 EvO (some v0) fun x0=>
 EvO (zN E (zj [(9,x0)]) (zy B69 [1,0,0] 1) h) fun x1=>
 EvO (α:=Value) (some (.int .i64 0)) fun x2=>
 P69_2 s K v1 v2 x0 x1 x2 h):P69_1 s K v0 v1 v2 h:=zB H
theorem len69_1_1:zN E (zj [(9,.slice a n c)]) (zy B69 [1,0,0] 1) h=some (.int .i64 (n:Int)):=by cases a <;> kernel_rfl
theorem P69_2_of (H :
 EvO (zE E .lss 3 v11 v10) fun x0=>
 BrK (some x0) (P69_3 s K v1 v2 v9 v10 v11 h) (P69_8 s K  h)):P69_2 s K v1 v2 v9 v10 v11 h:=zB H
theorem P69_3_of (H :
 EvO (zH E 34 (some v9) (some v11)) fun x0=>
 EvO (zG E 173 h (some x0)) fun x1=>
 Ev s (zU 173 h (zAC E 173)) fun x2=>
 Ev s (zu E 173 x2.2 (some x2.1) (some x1)) fun x3=>
 P69_4 s K v1 v2 x2.1 v9 v10 v11 x3.2):P69_3 s K v1 v2 v9 v10 v11 h:=zB H
theorem P69_4_of (H :
 EvO (some v1) fun x0=>
 EvO (zAB (some x0)) fun x1=>
 EvO (zG E 3 h (some x1)) fun x2=>
 EvO (zE E .sub 3 x2 (.int .i64 1)) fun x3=>
 EvO (zAB (some x0)) fun x4=>
 Ev s (zu E 3 h (some x4) (some x3)) fun x5=>
 P69_5 s K v1 v2 v8 v9 v10 v11 x5.2):P69_4 s K v1 v2 v8 v9 v10 v11 h:=zB H
theorem P69_5_of (H :
 EvO (some v1) fun x0=>
 EvO (zAB (some x0)) fun x1=>
 EvO (zG E 3 h (some x1)) fun x2=>
 EvO (zE E .lss 3 x2 (.int .i64 0)) fun x3=>
 EvO (some x3) fun x4=>
 EvO (gdB x4 false (some v2)) fun x5=>
 EvO (gdB x4 false (zE E .gtr 3 x5 (.int .i64 100))) fun x6=>
 EvO (z9 (some x4) (some (.bool true)) (some x6)) fun x7=>
 EvO (some x7) fun x8=>
 EvO (gdB x8 false (zC E 173 2 (some v8))) fun x9=>
 EvO (gdB x8 false (zG E 34 h (some x9))) fun x10=>
 EvO (gdB x8 false (some v1)) fun x11=>
 EvO (gdB x8 false (some v2)) fun x12=>
 EvO (gdB x8 false (zE E .add 3 x12 (.int .i64 1))) fun x13=>
 Ev s (gdW x8 false (za (zV E) (some (.func (.func 69) #[] #[])) (some [x10,x11,x13]) h) h) fun x14=>
 EvO (gdB x8 false (zAf .not x14.1)) fun x15=>
 EvO (z9 (some x8) (some (.bool true)) (some x15)) fun x16=>
 BrK (some x16) (P69_6 s K  x14.2) (P69_7 s K v1 v2 v9 v10 v11 x14.2)):P69_5 s K v1 v2 v8 v9 v10 v11 h:=zB H
theorem P69_6_of (H :
 EvO (α:=Value) (some (.bool false)) fun x0=>
 K .ret [x0] h):P69_6 s K h:=zB H
theorem P69_7_of (H :
 EvO (zE E .add 3 v11 (.int .i64 1)) fun x0=>
 EvO (some x0) fun x1=>
 P69_2 s K v1 v2 v9 v10 x1 h):P69_7 s K v1 v2 v9 v10 v11 h:=zB H
theorem P69_8_of (H :
 EvO (α:=Value) (some (.bool true)) fun x0=>
 K .ret [x0] h):P69_8 s K h:=zB H
theorem F69_ev {s:Bool} {v0 v1 v2:Value} {h:AH} {Rp:Value->AH->Prop} (H:P69_0 s (KR E [.tmp 6] Rp) v0 v1 v2 h) :
 Ev s (R.andThen (evC E (zV E) none (zT Tryz.f69) ⟨⟨Tryz.f69.ntmps,zw [v0,v1,v2] 0 .e⟩,h,[]⟩) (zc E Tryz.f69)) fun x=>Rp x.1 x.2:=
 zf (C:=C69 s) rfl rfl ⟨rfl,rfl,by kernel_rfl,rfl⟩ (by kernel_rfl) (by kernel_rfl) ((by kernel_rfl:z5 (C69 s) (KR E Tryz.f69.results.toList Rp) 30 (rs B69 60 (.at [])) (zj (zAw 0 [v0,v1,v2])) h=(P69_0 s (KR E [.tmp 6] Rp) v0 v1 v2 h)).mpr H)
theorem F69_get:E.tab.fn.get 69=some Tryz.f69:=by kernel_rfl
theorem F69_body:Tryz.f69.body=some B69:=by kernel_rfl
theorem F69_sum (l:List Value) (h:AH):E.sum 69 l h=none:=by kernel_rfl
theorem F69_flat {s:Bool} {v0 v1 v2:Value} {h:AH} {v:Value} (hok:h.ok) (hv:zm v=true) (H:P69_0 s (KR E [.tmp 6] (fun x k=>x=v/\h.next<=k.wm)) v0 v1 v2 h.fresh):(zV E).call 69 [v0,v1,v2] h=some [(v,h)]:=
 zk (s:=s) hok F69_get F69_body (F69_sum _ _) (by kernel_rfl) hv (F69_ev (Rp:=fun x k=>x=v/\h.next<=k.wm) H)
theorem F69_some {v0 v1 v2:Value} {h:AH} {Rp:Value->AH->Prop} (H:P69_0 true (KR E [.tmp 6] (fun x k=>(zg x=false\/k.wm<h.next)/\Rp x ⟨k.t,k.next,cond (Nat.ble h.wm k.wm) h.wm k.wm⟩)) v0 v1 v2 h.fresh):Ev true ((zV E).call 69 [v0,v1,v2] h) fun x=>Rp x.1 x.2:=
 zBw F69_get F69_body (F69_sum _ _) (by kernel_rfl) (F69_ev (Rp:=fun x k=>(zg x=false\/k.wm<h.next)/\Rp x ⟨k.t,k.next,cond (Nat.ble h.wm k.wm) h.wm k.wm⟩) H)
noncomputable def B70:Code:=zT Tryz.f70
noncomputable def C70 (s:Bool):Cx:=⟨E,s,none,B70,[([0],[0]),([1,0,0],[0]),([1,0,1,0,0,0],[5,6,7]),([1,0,1,0,0,1,1,0,0,0],[5,6,7]),([1,0,1,0,0,1,1,0,0,1,0],[4,5,6,7]),([1,0,1,0,0,1,1,0,0,1,1,0,0],[]),([1,0,1,0,0,1,1,1],[5,6,7]),([1,1,0],[])],[2],[]⟩
def P70_0 (s:Bool) (K:KF) (v0:Value) (h:AH):Prop:=PI (C70 s) K 0 [v0] h
def P70_1 (s:Bool) (K:KF) (v0:Value) (h:AH):Prop:=PI (C70 s) K 1 [v0] h
def P70_2 (s:Bool) (K:KF) (v5 v6 v7:Value) (h:AH):Prop:=PI (C70 s) K 2 [v5,v6,v7] h
def P70_3 (s:Bool) (K:KF) (v5 v6 v7:Value) (h:AH):Prop:=PI (C70 s) K 3 [v5,v6,v7] h
def P70_4 (s:Bool) (K:KF) (v4 v5 v6 v7:Value) (h:AH):Prop:=PI (C70 s) K 4 [v4,v5,v6,v7] h
def P70_5 (s:Bool) (K:KF) (h:AH):Prop:=PI (C70 s) K 5 [] h
def P70_6 (s:Bool) (K:KF) (v5 v6 v7:Value) (h:AH):Prop:=PI (C70 s) K 6 [v5,v6,v7] h
def P70_7 (s:Bool) (K:KF) (h:AH):Prop:=PI (C70 s) K 7 [] h
theorem P70_0_of (H :
 EvO (α:=Value) (some (.int .i64 0)) fun x0=>
 P70_1 s K v0 h):P70_0 s K v0 h:=zB H
theorem P70_1_of (H :
 EvO (some v0) fun x0=>
 EvO (zN E (zj [(5,x0)]) (zy B70 [1,0,0] 1) h) fun x1=>
 EvO (α:=Value) (some (.int .i64 0)) fun x2=>
 P70_2 s K x0 x1 x2 h):P70_1 s K v0 h:=zB H
theorem len70_1_1:zN E (zj [(5,.slice a n c)]) (zy B70 [1,0,0] 1) h=some (.int .i64 (n:Int)):=by cases a <;> kernel_rfl
theorem P70_2_of (H :
 EvO (zE E .lss 3 v7 v6) fun x0=>
 BrK (some x0) (P70_3 s K v5 v6 v7 h) (P70_7 s K  h)):P70_2 s K v5 v6 v7 h:=zB H
theorem P70_3_of (H :
 EvO (zH E 82 (some v5) (some v7)) fun x0=>
 EvO (zG E 25 h (some x0)) fun x1=>
 Ev s (zU 25 h (zAC E 25)) fun x2=>
 Ev s (zu E 25 x2.2 (some x2.1) (some x1)) fun x3=>
 P70_4 s K x2.1 v5 v6 v7 x3.2):P70_3 s K v5 v6 v7 h:=zB H
theorem P70_4_of (H :
 EvO (zG E 25 h (some v4)) fun x0=>
 Ev s (za (zV E) (some (.func (.func 121) #[] #[])) (some [x0]) h) fun x1=>
 EvO (zE E .neq 29 x1.1 (.int .i64 0)) fun x2=>
 BrK (some x2) (P70_5 s K  x1.2) (P70_6 s K v5 v6 v7 x1.2)):P70_4 s K v4 v5 v6 v7 h:=zB H
theorem P70_5_of (H :
 EvO (α:=Value) (some (.int .i64 8)) fun x0=>
 K .ret [x0] h):P70_5 s K h:=zB H
theorem P70_6_of (H :
 EvO (zE E .add 3 v7 (.int .i64 1)) fun x0=>
 EvO (some x0) fun x1=>
 P70_2 s K v5 v6 x1 h):P70_6 s K v5 v6 v7 h:=zB H
theorem P70_7_of (H :
 EvO (α:=Value) (some (.int .i64 0)) fun x0=>
 K .ret [x0] h):P70_7 s K h:=zB H
theorem F70_ev {s:Bool} {v0:Value} {h:AH} {Rp:Value->AH->Prop} (H:P70_0 s (KR E [.tmp 2] Rp) v0 h) :
 Ev s (R.andThen (evC E (zV E) none (zT Tryz.f70) ⟨⟨Tryz.f70.ntmps,zw [v0] 0 .e⟩,h,[]⟩) (zc E Tryz.f70)) fun x=>Rp x.1 x.2:=
 zf (C:=C70 s) rfl rfl ⟨rfl,rfl,by kernel_rfl,rfl⟩ (by kernel_rfl) (by kernel_rfl) ((by kernel_rfl:z5 (C70 s) (KR E Tryz.f70.results.toList Rp) 30 (rs B70 60 (.at [])) (zj (zAw 0 [v0])) h=(P70_0 s (KR E [.tmp 2] Rp) v0 h)).mpr H)
theorem F70_get:E.tab.fn.get 70=some Tryz.f70:=by kernel_rfl
theorem F70_body:Tryz.f70.body=some B70:=by kernel_rfl
theorem F70_sum (l:List Value) (h:AH):E.sum 70 l h=none:=by kernel_rfl
theorem F70_flat {s:Bool} {v0:Value} {h:AH} {v:Value} (hok:h.ok) (hv:zm v=true) (H:P70_0 s (KR E [.tmp 2] (fun x k=>x=v/\h.next<=k.wm)) v0 h.fresh):(zV E).call 70 [v0] h=some [(v,h)]:=
 zk (s:=s) hok F70_get F70_body (F70_sum _ _) (by kernel_rfl) hv (F70_ev (Rp:=fun x k=>x=v/\h.next<=k.wm) H)
noncomputable def B71:Code:=zT Tryz.f71
noncomputable def C71 (s:Bool):Cx:=⟨E,s,none,B71,[([0],[0]),([1,0,0],[0]),([1,0,1,0,0,0],[7,8,9]),([1,0,1,0,0,1,1,0,0,0],[7,8,9]),([1,0,1,0,0,1,1,0,0,1,0,0],[4,7,8,9]),([1,0,1,0,0,1,1,0,0,1,0,1,0,0],[]),([1,0,1,0,0,1,1,0,0,1,1,0,0],[4,7,8,9]),([1,0,1,0,0,1,1,0,0,1,1,0,1,0,0],[]),([1,0,1,0,0,1,1,0,0,1,1,1,0],[4,7,8,9]),([1,0,1,0,0,1,1,0,0,1,1,1,1,0,0,0],[4,7,8,9,22,23,24]),([1,0,1,0,0,1,1,0,0,1,1,1,1,0,0,1,1,0,0,0],[4,7,8,9,22,23,24]),([1,0,1,0,0,1,1,0,0,1,1,1,1,0,0,1,1,0,0,1,0],[4,5,6,7,8,9,22,23,24]),([1,0,1,0,0,1,1,0,0,1,1,1,1,0,0,1,1,0,0,1,1,0,0],[]),([1,0,1,0,0,1,1,0,0,1,1,1,1,0,0,1,1,1],[4,7,8,9,22,23,24]),([1,0,1,0,0,1,1,1],[7,8,9]),([1,1,0],[])],[2],[]⟩
def P71_0 (s:Bool) (K:KF) (v0:Value) (h:AH):Prop:=PI (C71 s) K 0 [v0] h
def P71_1 (s:Bool) (K:KF) (v0:Value) (h:AH):Prop:=PI (C71 s) K 1 [v0] h
def P71_2 (s:Bool) (K:KF) (v7 v8 v9:Value) (h:AH):Prop:=PI (C71 s) K 2 [v7,v8,v9] h
def P71_3 (s:Bool) (K:KF) (v7 v8 v9:Value) (h:AH):Prop:=PI (C71 s) K 3 [v7,v8,v9] h
def P71_4 (s:Bool) (K:KF) (v4 v7 v8 v9:Value) (h:AH):Prop:=PI (C71 s) K 4 [v4,v7,v8,v9] h
def P71_5 (s:Bool) (K:KF) (h:AH):Prop:=PI (C71 s) K 5 [] h
def P71_6 (s:Bool) (K:KF) (v4 v7 v8 v9:Value) (h:AH):Prop:=PI (C71 s) K 6 [v4,v7,v8,v9] h
def P71_7 (s:Bool) (K:KF) (h:AH):Prop:=PI (C71 s) K 7 [] h
def P71_8 (s:Bool) (K:KF) (v4 v7 v8 v9:Value) (h:AH):Prop:=PI (C71 s) K 8 [v4,v7,v8,v9] h
def P71_9 (s:Bool) (K:KF) (v4 v7 v8 v9 v22 v23 v24:Value) (h:AH):Prop:=PI (C71 s) K 9 [v4,v7,v8,v9,v22,v23,v24] h
def P71_10 (s:Bool) (K:KF) (v4 v7 v8 v9 v22 v23 v24:Value) (h:AH):Prop:=PI (C71 s) K 10 [v4,v7,v8,v9,v22,v23,v24] h
def P71_11 (s:Bool) (K:KF) (v4 v5 v6 v7 v8 v9 v22 v23 v24:Value) (h:AH):Prop:=PI (C71 s) K 11 [v4,v5,v6,v7,v8,v9,v22,v23,v24] h
def P71_12 (s:Bool) (K:KF) (h:AH):Prop:=PI (C71 s) K 12 [] h
def P71_13 (s:Bool) (K:KF) (v4 v7 v8 v9 v22 v23 v24:Value) (h:AH):Prop:=PI (C71 s) K 13 [v4,v7,v8,v9,v22,v23,v24] h
def P71_14 (s:Bool) (K:KF) (v7 v8 v9:Value) (h:AH):Prop:=PI (C71 s) K 14 [v7,v8,v9] h
def P71_15 (s:Bool) (K:KF) (h:AH):Prop:=PI (C71 s) K 15 [] h
theorem P71_0_of (H :
 EvO (α:=Value) (some (.int .i64 0)) fun x0=>
 P71_1 s K v0 h):P71_0 s K v0 h:=zB H
theorem P71_1_of (H :
 EvO (some v0) fun x0=>
 EvO (zN E (zj [(7,x0)]) (zy B71 [1,0,0] 1) h) fun x1=>
 EvO (α:=Value) (some (.int .i64 0)) fun x2=>
 P71_2 s K x0 x1 x2 h):P71_1 s K v0 h:=zB H
theorem len71_1_1:zN E (zj [(7,.slice a n c)]) (zy B71 [1,0,0] 1) h=some (.int .i64 (n:Int)):=by cases a <;> kernel_rfl
theorem P71_2_of (H :
 EvO (zE E .lss 3 v9 v8) fun x0=>
 BrK (some x0) (P71_3 s K v7 v8 v9 h) (P71_15 s K  h)):P71_2 s K v7 v8 v9 h:=zB H
theorem P71_3_of (H :
 EvO (zH E 83 (some v7) (some v9)) fun x0=>
 EvO (zG E 32 h (some x0)) fun x1=>
 Ev s (zU 32 h (zAC E 32)) fun x2=>
 Ev s (zu E 32 x2.2 (some x2.1) (some x1)) fun x3=>
 P71_4 s K x2.1 v7 v8 v9 x3.2):P71_3 s K v7 v8 v9 h:=zB H
theorem P71_4_of (H :
 EvO (zC E 32 0 (some v4)) fun x0=>
 EvO (zG E 3 h (some x0)) fun x1=>
 Ev s (za (zV E) (some (.func (.func 105) #[] #[])) (some [x1]) h) fun x2=>
 EvO (zAf .not x2.1) fun x3=>
 BrK (some x3) (P71_5 s K  x2.2) (P71_6 s K v4 v7 v8 v9 x2.2)):P71_4 s K v4 v7 v8 v9 h:=zB H
theorem P71_5_of (H :
 EvO (α:=Value) (some (.int .i64 361)) fun x0=>
 K .ret [x0] h):P71_5 s K h:=zB H
theorem P71_6_of (H :
 EvO (zC E 32 1 (some v4)) fun x0=>
 EvO (zG E 26 h (some x0)) fun x1=>
 EvO (zN E (zj [(18,x1)]) (zy B71 [1,0,1,0,0,1,1,0,0,1,1,0,0] 2) h) fun x2=>
 EvO (zE E .gtr 3 x2 (.int .i64 200000)) fun x3=>
 BrK (some x3) (P71_7 s K  h) (P71_8 s K v4 v7 v8 v9 h)):P71_6 s K v4 v7 v8 v9 h:=zB H
theorem len71_6_2:zN E (zj [(18,.slice a n c)]) (zy B71 [1,0,1,0,0,1,1,0,0,1,1,0,0] 2) h=some (.int .i64 (n:Int)):=by cases a <;> kernel_rfl
theorem P71_7_of (H :
 EvO (α:=Value) (some (.int .i64 360)) fun x0=>
 K .ret [x0] h):P71_7 s K h:=zB H
theorem P71_8_of (H :
 EvO (zC E 32 1 (some v4)) fun x0=>
 EvO (zG E 26 h (some x0)) fun x1=>
 EvO (zN E (zj [(22,x1)]) (zy B71 [1,0,1,0,0,1,1,0,0,1,1,1,0] 2) h) fun x2=>
 EvO (α:=Value) (some (.int .i64 0)) fun x3=>
 P71_9 s K v4 v7 v8 v9 x1 x2 x3 h):P71_8 s K v4 v7 v8 v9 h:=zB H
theorem len71_8_2:zN E (zj [(22,.slice a n c)]) (zy B71 [1,0,1,0,0,1,1,0,0,1,1,1,0] 2) h=some (.int .i64 (n:Int)):=by cases a <;> kernel_rfl
theorem P71_9_of (H :
 EvO (zE E .lss 3 v24 v23) fun x0=>
 BrK (some x0) (P71_10 s K v4 v7 v8 v9 v22 v23 v24 h) (P71_14 s K v7 v8 v9 h)):P71_9 s K v4 v7 v8 v9 v22 v23 v24 h:=zB H
theorem P71_10_of (H :
 EvO (some v24) fun x0=>
 EvO (zH E 26 (some v22) (some v24)) fun x1=>
 EvO (zG E 54 h (some x1)) fun x2=>
 Ev s (zU 54 h (zAC E 54)) fun x3=>
 EvO (some x0) fun x4=>
 Ev s (zu E 54 x3.2 (some x3.1) (some x2)) fun x5=>
 P71_11 s K v4 x4 x3.1 v7 v8 v9 v22 v23 v24 x5.2):P71_10 s K v4 v7 v8 v9 v22 v23 v24 h:=zB H
theorem P71_11_of (H :
 EvO (zH E 54 (some v6) (some (.int .i64 0))) fun x0=>
 EvO (zG E 3 h (some x0)) fun x1=>
 EvO (zE E .lss 3 x1 (.int .i64 0)) fun x2=>
 EvO (some x2) fun x3=>
 EvO (gdB x3 false (zH E 54 (some v6) (some (.int .i64 1)))) fun x4=>
 EvO (gdB x3 false (zG E 3 h (some x4))) fun x5=>
 EvO (gdB x3 false (zE E .lss 3 x5 (.int .i64 0))) fun x6=>
 EvO (z9 (some x3) (some (.bool true)) (some x6)) fun x7=>
 EvO (some x7) fun x8=>
 EvO (gdB x8 false (some v5)) fun x9=>
 EvO (gdB x8 false (zE E .gtr 3 x9 (.int .i64 0))) fun x10=>
 EvO (gdB x8 false (some x10)) fun x11=>
 EvO (gdB x11 true (zC E 32 1 (some v4))) fun x12=>
 EvO (gdB x11 true (zG E 26 h (some x12))) fun x13=>
 EvO (gdB x11 true (some v5)) fun x14=>
 EvO (gdB x11 true (zE E .sub 3 x14 (.int .i64 1))) fun x15=>
 EvO (gdB x11 true (zH E 26 (some x13) (some x15))) fun x16=>
 EvO (gdB x11 true (zG E 54 h (some x16))) fun x17=>
 EvO (gdB x11 true (zG E 54 h (some v6))) fun x18=>
 Ev s (gdW x11 true (za (zV E) (some (.func (.func 122) #[] #[])) (some [x17,x18]) h) h) fun x19=>
 EvO (gdB x11 true (zE E .geq 3 x19.1 (.int .i64 0))) fun x20=>
 EvO (gdB x8 false (z9 (some x11) (some x20) (some (.bool false)))) fun x21=>
 EvO (z9 (some x8) (some (.bool true)) (some x21)) fun x22=>
 BrK (some x22) (P71_12 s K  x19.2) (P71_13 s K v4 v7 v8 v9 v22 v23 v24 x19.2)):P71_11 s K v4 v5 v6 v7 v8 v9 v22 v23 v24 h:=zB H
theorem P71_12_of (H :
 EvO (α:=Value) (some (.int .i64 360)) fun x0=>
 K .ret [x0] h):P71_12 s K h:=zB H
theorem P71_13_of (H :
 EvO (zE E .add 3 v24 (.int .i64 1)) fun x0=>
 EvO (some x0) fun x1=>
 P71_9 s K v4 v7 v8 v9 v22 v23 x1 h):P71_13 s K v4 v7 v8 v9 v22 v23 v24 h:=zB H
theorem P71_14_of (H :
 EvO (zE E .add 3 v9 (.int .i64 1)) fun x0=>
 EvO (some x0) fun x1=>
 P71_2 s K v7 v8 x1 h):P71_14 s K v7 v8 v9 h:=zB H
theorem P71_15_of (H :
 EvO (α:=Value) (some (.int .i64 0)) fun x0=>
 K .ret [x0] h):P71_15 s K h:=zB H
theorem F71_ev {s:Bool} {v0:Value} {h:AH} {Rp:Value->AH->Prop} (H:P71_0 s (KR E [.tmp 2] Rp) v0 h) :
 Ev s (R.andThen (evC E (zV E) none (zT Tryz.f71) ⟨⟨Tryz.f71.ntmps,zw [v0] 0 .e⟩,h,[]⟩) (zc E Tryz.f71)) fun x=>Rp x.1 x.2:=
 zf (C:=C71 s) rfl rfl ⟨rfl,rfl,by kernel_rfl,rfl⟩ (by kernel_rfl) (by kernel_rfl) ((by kernel_rfl:z5 (C71 s) (KR E Tryz.f71.results.toList Rp) 30 (rs B71 60 (.at [])) (zj (zAw 0 [v0])) h=(P71_0 s (KR E [.tmp 2] Rp) v0 h)).mpr H)
theorem F71_get:E.tab.fn.get 71=some Tryz.f71:=by kernel_rfl
theorem F71_body:Tryz.f71.body=some B71:=by kernel_rfl
theorem F71_sum (l:List Value) (h:AH):E.sum 71 l h=none:=by kernel_rfl
theorem F71_flat {s:Bool} {v0:Value} {h:AH} {v:Value} (hok:h.ok) (hv:zm v=true) (H:P71_0 s (KR E [.tmp 2] (fun x k=>x=v/\h.next<=k.wm)) v0 h.fresh):(zV E).call 71 [v0] h=some [(v,h)]:=
 zk (s:=s) hok F71_get F71_body (F71_sum _ _) (by kernel_rfl) hv (F71_ev (Rp:=fun x k=>x=v/\h.next<=k.wm) H)
noncomputable def B72:Code:=zT Tryz.f72
noncomputable def C72 (s:Bool):Cx:=⟨E,s,none,B72,[([0],[0,1,2]),([1,0],[3,4,5]),([1,1,0],[3,4,5,7]),([1,1,1,0,0],[3,4,5,8]),([1,1,1,0,1,0,0,0],[3,4,5,8,25,26,27]),([1,1,1,0,1,0,0,1,1,0,0,0],[3,4,5,8,25,26,27]),([1,1,1,0,1,0,0,1,1,0,0,1,0,0],[3,4,5,8,10,25,26,27]),([1,1,1,0,1,0,0,1,1,0,0,1,0,1,0,0],[]),([1,1,1,0,1,0,0,1,1,0,0,1,1],[3,4,5,8,10,25,26,27]),([1,1,1,0,1,0,0,1,1,1],[3,4,5,8,25,26,27]),([1,1,1,1,0],[5,8]),([1,1,1,1,1,0],[8,11])],[6],[]⟩
def P72_0 (s:Bool) (K:KF) (v0 v1 v2:Value) (h:AH):Prop:=PI (C72 s) K 0 [v0,v1,v2] h
def P72_1 (s:Bool) (K:KF) (v3 v4 v5:Value) (h:AH):Prop:=PI (C72 s) K 1 [v3,v4,v5] h
def P72_2 (s:Bool) (K:KF) (v3 v4 v5 v7:Value) (h:AH):Prop:=PI (C72 s) K 2 [v3,v4,v5,v7] h
def P72_3 (s:Bool) (K:KF) (v3 v4 v5 v8:Value) (h:AH):Prop:=PI (C72 s) K 3 [v3,v4,v5,v8] h
def P72_4 (s:Bool) (K:KF) (v3 v4 v5 v8 v25 v26 v27:Value) (h:AH):Prop:=PI (C72 s) K 4 [v3,v4,v5,v8,v25,v26,v27] h
def P72_5 (s:Bool) (K:KF) (v3 v4 v5 v8 v25 v26 v27:Value) (h:AH):Prop:=PI (C72 s) K 5 [v3,v4,v5,v8,v25,v26,v27] h
def P72_6 (s:Bool) (K:KF) (v3 v4 v5 v8 v10 v25 v26 v27:Value) (h:AH):Prop:=PI (C72 s) K 6 [v3,v4,v5,v8,v10,v25,v26,v27] h
def P72_7 (s:Bool) (K:KF) (h:AH):Prop:=PI (C72 s) K 7 [] h
def P72_8 (s:Bool) (K:KF) (v3 v4 v5 v8 v10 v25 v26 v27:Value) (h:AH):Prop:=PI (C72 s) K 8 [v3,v4,v5,v8,v10,v25,v26,v27] h
def P72_9 (s:Bool) (K:KF) (v3 v4 v5 v8 v25 v26 v27:Value) (h:AH):Prop:=PI (C72 s) K 9 [v3,v4,v5,v8,v25,v26,v27] h
def P72_10 (s:Bool) (K:KF) (v5 v8:Value) (h:AH):Prop:=PI (C72 s) K 10 [v5,v8] h
def P72_11 (s:Bool) (K:KF) (v8 v11:Value) (h:AH):Prop:=PI (C72 s) K 11 [v8,v11] h
theorem P72_0_of (H :
 Ev s (zU 25 h (some v0)) fun x0=>
 Ev s (zU 25 x0.2 (some v1)) fun x1=>
 Ev s (zU 32 x1.2 (some v2)) fun x2=>
 EvO (α:=Value) (some (.bool false)) fun x3=>
 P72_1 s K x0.1 x1.1 x2.1 x2.2):P72_0 s K v0 v1 v2 h:=zB H
theorem P72_1_of (H :
 EvO (zG E 25 h (some v3)) fun x0=>
 EvO (zG E 25 h (some v4)) fun x1=>
 Ev s (zh E 82 2 (some [(0,x0),(1,x1)]) h) fun x2=>
 Ev s (za (zV E) (some (.func (.func 90) #[] #[])) (some [x2.1]) x2.2) fun x3=>
 EvO (some x3.1) fun x4=>
 P72_2 s K v3 v4 v5 x4 x3.2):P72_1 s K v3 v4 v5 h:=zB H
theorem P72_2_of (H :
 EvO (some v7) fun x0=>
 EvO (zH E 126 (some x0) (some (.int .i64 0))) fun x1=>
 EvO (zG E 128 h (some x1)) fun x2=>
 EvO (some v7) fun x3=>
 EvO (zH E 126 (some x3) (some (.int .i64 1))) fun x4=>
 EvO (zG E 128 h (some x4)) fun x5=>
 s=false/\(Ev s (one (.map (some (h).next),(h).new (.map [] 0))) fun x6=>
 EvO (zG E 128 x6.2 (some x4)) fun u6_5=>veq 100 u6_5 x5=true ∧
 (EvO (zG E 128 x6.2 (some x1)) fun u6_2=>veq 100 u6_2 x2=true ∧
 (EvO (zAu E 176 (some [(0,x2),(1,x5),(2,x6.1)])) fun x7=>
 Ev s (zU 176 x6.2 (zAC E 176)) fun x8=>
 EvO (zG E 128 x8.2 (some x4)) fun u8_5=>veq 100 u8_5 x5=true ∧
 (EvO (zG E 128 x8.2 (some x1)) fun u8_2=>veq 100 u8_2 x2=true ∧
 (Ev s (zu E 176 x8.2 (some x8.1) (some x7)) fun x9=>
 P72_3 s K v3 v4 v5 x8.1 x9.2)))))/\(Ev s (zU 176 h (zAC E 176)) fun x8=>
 EvO (zG E 128 x8.2 (some x4)) fun u8_5=>veq 100 u8_5 x5=true ∧
 (EvO (zG E 128 x8.2 (some x1)) fun u8_2=>veq 100 u8_2 x2=true ∧
 (Ev s (one (.map (some (x8.2).next),(x8.2).new (.map [] 0))) fun x6=>
 EvO (zG E 128 x6.2 (some x4)) fun u6_5=>veq 100 u6_5 x5=true ∧
 (EvO (zG E 128 x6.2 (some x1)) fun u6_2=>veq 100 u6_2 x2=true ∧
 (EvO (zAu E 176 (some [(0,x2),(1,x5),(2,x6.1)])) fun x7=>
 Ev s (zu E 176 x6.2 (some x8.1) (some x7)) fun x9=>
 P72_3 s K v3 v4 v5 x8.1 x9.2)))))):P72_2 s K v3 v4 v5 v7 h:=zB H
theorem P72_3_of (H :
 EvO (zC E 32 1 (some v5)) fun x0=>
 EvO (zG E 26 h (some x0)) fun x1=>
 EvO (zN E (zj [(25,x1)]) (zy B72 [1,1,1,0,0] 2) h) fun x2=>
 EvO (α:=Value) (some (.int .i64 0)) fun x3=>
 P72_4 s K v3 v4 v5 v8 x1 x2 x3 h):P72_3 s K v3 v4 v5 v8 h:=zB H
theorem len72_3_2:zN E (zj [(25,.slice a n c)]) (zy B72 [1,1,1,0,0] 2) h=some (.int .i64 (n:Int)):=by cases a <;> kernel_rfl
theorem P72_4_of (H :
 EvO (zE E .lss 3 v27 v26) fun x0=>
 BrK (some x0) (P72_5 s K v3 v4 v5 v8 v25 v26 v27 h) (P72_10 s K v5 v8 h)):P72_4 s K v3 v4 v5 v8 v25 v26 v27 h:=zB H
theorem P72_5_of (H :
 EvO (zH E 26 (some v25) (some v27)) fun x0=>
 EvO (zG E 54 h (some x0)) fun x1=>
 Ev s (zU 54 h (zAC E 54)) fun x2=>
 Ev s (zu E 54 x2.2 (some x2.1) (some x1)) fun x3=>
 P72_6 s K v3 v4 v5 v8 x2.1 v25 v26 v27 x3.2):P72_5 s K v3 v4 v5 v8 v25 v26 v27 h:=zB H
theorem P72_6_of (H :
 EvO (zH E 54 (some v10) (some (.int .i64 0))) fun x0=>
 EvO (zG E 3 h (some x0)) fun x1=>
 EvO (zC E 25 0 (some v3)) fun x2=>
 EvO (zG E 3 h (some x2)) fun x3=>
 EvO (zE E .geq 3 x1 x3) fun x4=>
 EvO (some x4) fun x5=>
 EvO (gdB x5 false (zH E 54 (some v10) (some (.int .i64 1)))) fun x6=>
 EvO (gdB x5 false (zG E 3 h (some x6))) fun x7=>
 EvO (gdB x5 false (zC E 25 0 (some v4))) fun x8=>
 EvO (gdB x5 false (zG E 3 h (some x8))) fun x9=>
 EvO (gdB x5 false (zE E .geq 3 x7 x9)) fun x10=>
 EvO (z9 (some x5) (some (.bool true)) (some x10)) fun x11=>
 BrK (some x11) (P72_7 s K  h) (P72_8 s K v3 v4 v5 v8 v10 v25 v26 v27 h)):P72_6 s K v3 v4 v5 v8 v10 v25 v26 v27 h:=zB H
theorem P72_7_of (H :
 EvO (α:=Value) (some (.bool false)) fun x0=>
 K .ret [x0] h):P72_7 s K h:=zB H
theorem P72_8_of (H :
 EvO (zC E 176 2 (some v8)) fun x0=>
 EvO (zG E 174 h (some x0)) fun x1=>
 EvO (zG E 54 h (some v10)) fun x2=>
 Ev s (zAR E 174 (some x1) (some x2) (some (.bool true)) h) fun x3=>
 P72_9 s K v3 v4 v5 v8 v25 v26 v27 x3.2):P72_8 s K v3 v4 v5 v8 v10 v25 v26 v27 h:=zB H
theorem P72_9_of (H :
 EvO (zE E .add 3 v27 (.int .i64 1)) fun x0=>
 EvO (some x0) fun x1=>
 P72_4 s K v3 v4 v5 v8 v25 v26 x1 h):P72_9 s K v3 v4 v5 v8 v25 v26 v27 h:=zB H
theorem P72_10_of (H :
 EvO (zC E 32 0 (some v5)) fun x1=>
 EvO (zG E 3 h (some x1)) fun x2=>
 s=false/\(Ev s (za (zV E) (some (.func (.func 79) #[] #[])) (some []) h) fun x0=>
 EvO (zG E 3 x0.2 (some x1)) fun u0_2=>veq 100 u0_2 x2=true ∧
 (EvO (pIndex E 113 (some x0.1) (some x2)) fun x3=>
 Ev s (zU 112 x0.2 (zAC E 112)) fun x4=>
 EvO (zG E 3 x4.2 (some x1)) fun u4_2=>veq 100 u4_2 x2=true ∧
 (Ev s (zu E 112 x4.2 (some x4.1) (some x3)) fun x5=>
 P72_11 s K v8 x4.1 x5.2)))/\(Ev s (zU 112 h (zAC E 112)) fun x4=>
 EvO (zG E 3 x4.2 (some x1)) fun u4_2=>veq 100 u4_2 x2=true ∧
 (Ev s (za (zV E) (some (.func (.func 79) #[] #[])) (some []) x4.2) fun x0=>
 EvO (zG E 3 x0.2 (some x1)) fun u0_2=>veq 100 u0_2 x2=true ∧
 (EvO (pIndex E 113 (some x0.1) (some x2)) fun x3=>
 Ev s (zu E 112 x0.2 (some x4.1) (some x3)) fun x5=>
 P72_11 s K v8 x4.1 x5.2)))):P72_10 s K v5 v8 h:=zB H
theorem P72_11_of (H :
 EvO (zG E 176 h (some v8)) fun x0=>
 Ev s (za (zV E) (some (.func (.func 123) #[] #[])) (some [x0,(.int .i64 0),(.int .i64 0)]) h) fun x1=>
 EvO (some x1.1) fun x2=>
 EvO (gdB x2 true (zG E 176 x1.2 (some v8))) fun x3=>
 EvO (gdB x2 true (zAu E 178 (some [(0,x3)]))) fun x4=>
 EvO (gdB x2 true (zG E 112 x1.2 (some v11))) fun x5=>
 Ev s (gdW x2 true (za (zV E) (some (.func (.func 124) #[] #[])) (some [x4,x5]) x1.2) x1.2) fun x6=>
 EvO (z9 (some x2) (some x6.1) (some (.bool false))) fun x7=>
 EvO (some x7) fun x8=>
 EvO (gdB x8 true (zG E 176 x6.2 (some v8))) fun x9=>
 EvO (gdB x8 true (zG E 112 x6.2 (some v11))) fun x12=>
 Ev s (gdW x8 true (za (zV E) (some (.func (.func 125) #[] #[])) (some [x9]) x6.2) x6.2) fun x10=>
 EvO (gdB x8 true (zG E 112 x10.2 (some v11))) fun u10_12=>veq 100 u10_12 x12=true ∧
 (EvO (gdB x8 true (zAu E 178 (some [(0,x10.1)]))) fun x11=>
 Ev s (gdW x8 true (za (zV E) (some (.func (.func 124) #[] #[])) (some [x11,x12]) x10.2) x10.2) fun x13=>
 EvO (z9 (some x8) (some x13.1) (some (.bool false))) fun x14=>
 EvO (some x14) fun x15=>
 K .ret [x15] x13.2)):P72_11 s K v8 v11 h:=zB H
theorem F72_ev {s:Bool} {v0 v1 v2:Value} {h:AH} {Rp:Value->AH->Prop} (H:P72_0 s (KR E [.tmp 6] Rp) v0 v1 v2 h) :
 Ev s (R.andThen (evC E (zV E) none (zT Tryz.f72) ⟨⟨Tryz.f72.ntmps,zw [v0,v1,v2] 0 .e⟩,h,[]⟩) (zc E Tryz.f72)) fun x=>Rp x.1 x.2:=
 zf (C:=C72 s) rfl rfl ⟨rfl,rfl,by kernel_rfl,rfl⟩ (by kernel_rfl) (by kernel_rfl) ((by kernel_rfl:z5 (C72 s) (KR E Tryz.f72.results.toList Rp) 30 (rs B72 60 (.at [])) (zj (zAw 0 [v0,v1,v2])) h=(P72_0 s (KR E [.tmp 6] Rp) v0 v1 v2 h)).mpr H)
theorem F72_get:E.tab.fn.get 72=some Tryz.f72:=by kernel_rfl
theorem F72_body:Tryz.f72.body=some B72:=by kernel_rfl
theorem F72_sum (l:List Value) (h:AH):E.sum 72 l h=none:=by kernel_rfl
theorem F72_flat {s:Bool} {v0 v1 v2:Value} {h:AH} {v:Value} (hok:h.ok) (hv:zm v=true) (H:P72_0 s (KR E [.tmp 6] (fun x k=>x=v/\h.next<=k.wm)) v0 v1 v2 h.fresh):(zV E).call 72 [v0,v1,v2] h=some [(v,h)]:=
 zk (s:=s) hok F72_get F72_body (F72_sum _ _) (by kernel_rfl) hv (F72_ev (Rp:=fun x k=>x=v/\h.next<=k.wm) H)
noncomputable def B79:Code:=zT Tryz.f79
noncomputable def C79 (s:Bool):Cx:=⟨E,s,none,B79,[([0],[]),([1,0],[0])],[0],[]⟩
def P79_0 (s:Bool) (K:KF) (h:AH):Prop:=PI (C79 s) K 0 [] h
def P79_1 (s:Bool) (K:KF) (v0:Value) (h:AH):Prop:=PI (C79 s) K 1 [v0] h
theorem P79_0_of (H :
 Ev s (zU 113 h (zAC E 113)) fun x0=>
 P79_1 s K x0.1 x0.2):P79_0 s K h:=zB H
theorem P79_1_of (H :
 EvO (zAu E 112 (some [(0,(.func (.func 128) #[] #[])),(1,(.func (.func 129) #[] #[])),(2,(.string ⟨#[115,116,114,111,110,103]⟩))])) fun x0=>
 EvO (zAu E 112 (some [(0,(.func (.func 130) #[] #[])),(1,(.func (.func 131) #[] #[])),(2,(.string ⟨#[98,114,97,110,99,104,105,110,103]⟩))])) fun x1=>
 EvO (zAu E 113 (some [(1,x0),(2,x1)])) fun x2=>
 Ev s (zu E 113 h (some v0) (some x2)) fun x3=>
 K .ret [v0] x3.2):P79_1 s K v0 h:=zB H
theorem F79_ev {s:Bool}  {h:AH} {Rp:Value->AH->Prop} (H:P79_0 s (KR E [.cell 0 113] Rp)  h) :
 Ev s (R.andThen (evC E (zV E) none (zT Tryz.f79) ⟨⟨Tryz.f79.ntmps,zw [] 0 .e⟩,h,[]⟩) (zc E Tryz.f79)) fun x=>Rp x.1 x.2:=
 zf (C:=C79 s) rfl rfl ⟨rfl,rfl,by kernel_rfl,rfl⟩ (by kernel_rfl) (by kernel_rfl) ((by kernel_rfl:z5 (C79 s) (KR E Tryz.f79.results.toList Rp) 30 (rs B79 60 (.at [])) (zj (zAw 0 [])) h=(P79_0 s (KR E [.cell 0 113] Rp)  h)).mpr H)
theorem F79_get:E.tab.fn.get 79=some Tryz.f79:=by kernel_rfl
theorem F79_body:Tryz.f79.body=some B79:=by kernel_rfl
theorem F79_sum (l:List Value) (h:AH):E.sum 79 l h=none:=by kernel_rfl
theorem F79_flat1 {h:AH} {v:Value} (hok:h.ok) (hv:zg v=true) (H:P79_0 true (KR E [.cell 0 113] (fun x k=>x=v/\h.next<=k.wm))  h.fresh):(zV E).call 79 [] h=some [(v,h)]:=
 zCx hok F79_get F79_body (F79_sum _ _) (by kernel_rfl) hv (F79_ev (Rp:=fun x k=>x=v/\h.next<=k.wm) H)
noncomputable def B90:Code:=zT Tryz.f90
noncomputable def C90 (s:Bool):Cx:=⟨E,s,none,B90,[([0],[0]),([1,0],[0]),([1,1,0,0],[0,3]),([1,1,0,1,0,0,0],[0,3,17,18,19]),([1,1,0,1,0,0,1,1,0,0,0],[0,3,17,18,19]),([1,1,0,1,0,0,1,1,0,0,1,0],[0,3,5,17,18,19]),([1,1,0,1,0,0,1,1,0,0,1,1,0,0,0],[0,3,17,18,19,24,25,26]),([1,1,0,1,0,0,1,1,0,0,1,1,0,0,1,1,0,0,0],[0,3,17,18,19,24,25,26]),([1,1,0,1,0,0,1,1,0,0,1,1,0,0,1,1,0,0,1],[0,3,7,17,18,19,24,25,26]),([1,1,0,1,0,0,1,1,0,0,1,1,0,0,1,1,1],[0,3,17,18,19,24,25,26]),([1,1,0,1,0,0,1,1,1],[0,3,17,18,19]),([1,1,1,0],[0,3]),([1,1,1,1,0,0],[0,3,8]),([1,1,1,1,0,1,0,0,0],[3,8,34,35,36]),([1,1,1,1,0,1,0,0,1,1,0,0,0],[3,8,34,35,36]),([1,1,1,1,0,1,0,0,1,1,0,0,1,0],[3,8,10,34,35,36]),([1,1,1,1,0,1,0,0,1,1,0,0,1,1,0],[3,8,10,11,34,35,36]),([1,1,1,1,0,1,0,0,1,1,0,0,1,1,1,0,0],[3,8,10,11,12,34,35,36]),([1,1,1,1,0,1,0,0,1,1,0,0,1,1,1,0,1,0,0,0],[3,8,10,11,12,34,35,36,50,51,52]),([1,1,1,1,0,1,0,0,1,1,0,0,1,1,1,0,1,0,0,1,1,0,0,0],[3,8,10,11,12,34,35,36,50,51,52]),([1,1,1,1,0,1,0,0,1,1,0,0,1,1,1,0,1,0,0,1,1,0,0,1],[3,8,10,11,12,13,14,34,35,36,50,51,52]),([1,1,1,1,0,1,0,0,1,1,0,0,1,1,1,0,1,0,0,1,1,1],[3,8,10,11,12,34,35,36,50,51,52]),([1,1,1,1,0,1,0,0,1,1,0,0,1,1,1,1,0,0],[3,8,10,11,12,34,35,36]),([1,1,1,1,0,1,0,0,1,1,0,0,1,1,1,1,0,1,0,0,0],[3,8,11,12,34,35,36,64,65,66]),([1,1,1,1,0,1,0,0,1,1,0,0,1,1,1,1,0,1,0,0,1,1,0,0,0],[3,8,11,12,34,35,36,64,65,66]),([1,1,1,1,0,1,0,0,1,1,0,0,1,1,1,1,0,1,0,0,1,1,0,0,1],[3,8,11,12,16,34,35,36,64,65,66]),([1,1,1,1,0,1,0,0,1,1,0,0,1,1,1,1,0,1,0,0,1,1,1],[3,8,11,12,34,35,36,64,65,66]),([1,1,1,1,0,1,0,0,1,1,0,0,1,1,1,1,1],[3,8,11,34,35,36]),([1,1,1,1,0,1,0,0,1,1,1],[3,8,34,35,36]),([1,1,1,1,1,0],[8])],[2],[]⟩
def P90_0 (s:Bool) (K:KF) (v0:Value) (h:AH):Prop:=PI (C90 s) K 0 [v0] h
def P90_1 (s:Bool) (K:KF) (v0:Value) (h:AH):Prop:=PI (C90 s) K 1 [v0] h
def P90_2 (s:Bool) (K:KF) (v0 v3:Value) (h:AH):Prop:=PI (C90 s) K 2 [v0,v3] h
def P90_3 (s:Bool) (K:KF) (v0 v3 v17 v18 v19:Value) (h:AH):Prop:=PI (C90 s) K 3 [v0,v3,v17,v18,v19] h
def P90_4 (s:Bool) (K:KF) (v0 v3 v17 v18 v19:Value) (h:AH):Prop:=PI (C90 s) K 4 [v0,v3,v17,v18,v19] h
def P90_5 (s:Bool) (K:KF) (v0 v3 v5 v17 v18 v19:Value) (h:AH):Prop:=PI (C90 s) K 5 [v0,v3,v5,v17,v18,v19] h
def P90_6 (s:Bool) (K:KF) (v0 v3 v17 v18 v19 v24 v25 v26:Value) (h:AH):Prop:=PI (C90 s) K 6 [v0,v3,v17,v18,v19,v24,v25,v26] h
def P90_7 (s:Bool) (K:KF) (v0 v3 v17 v18 v19 v24 v25 v26:Value) (h:AH):Prop:=PI (C90 s) K 7 [v0,v3,v17,v18,v19,v24,v25,v26] h
def P90_8 (s:Bool) (K:KF) (v0 v3 v7 v17 v18 v19 v24 v25 v26:Value) (h:AH):Prop:=PI (C90 s) K 8 [v0,v3,v7,v17,v18,v19,v24,v25,v26] h
def P90_9 (s:Bool) (K:KF) (v0 v3 v17 v18 v19 v24 v25 v26:Value) (h:AH):Prop:=PI (C90 s) K 9 [v0,v3,v17,v18,v19,v24,v25,v26] h
def P90_10 (s:Bool) (K:KF) (v0 v3 v17 v18 v19:Value) (h:AH):Prop:=PI (C90 s) K 10 [v0,v3,v17,v18,v19] h
def P90_11 (s:Bool) (K:KF) (v0 v3:Value) (h:AH):Prop:=PI (C90 s) K 11 [v0,v3] h
def P90_12 (s:Bool) (K:KF) (v0 v3 v8:Value) (h:AH):Prop:=PI (C90 s) K 12 [v0,v3,v8] h
def P90_13 (s:Bool) (K:KF) (v3 v8 v34 v35 v36:Value) (h:AH):Prop:=PI (C90 s) K 13 [v3,v8,v34,v35,v36] h
def P90_14 (s:Bool) (K:KF) (v3 v8 v34 v35 v36:Value) (h:AH):Prop:=PI (C90 s) K 14 [v3,v8,v34,v35,v36] h
def P90_15 (s:Bool) (K:KF) (v3 v8 v10 v34 v35 v36:Value) (h:AH):Prop:=PI (C90 s) K 15 [v3,v8,v10,v34,v35,v36] h
def P90_16 (s:Bool) (K:KF) (v3 v8 v10 v11 v34 v35 v36:Value) (h:AH):Prop:=PI (C90 s) K 16 [v3,v8,v10,v11,v34,v35,v36] h
def P90_17 (s:Bool) (K:KF) (v3 v8 v10 v11 v12 v34 v35 v36:Value) (h:AH):Prop:=PI (C90 s) K 17 [v3,v8,v10,v11,v12,v34,v35,v36] h
def P90_18 (s:Bool) (K:KF) (v3 v8 v10 v11 v12 v34 v35 v36 v50 v51 v52:Value) (h:AH):Prop:=PI (C90 s) K 18 [v3,v8,v10,v11,v12,v34,v35,v36,v50,v51,v52] h
def P90_19 (s:Bool) (K:KF) (v3 v8 v10 v11 v12 v34 v35 v36 v50 v51 v52:Value) (h:AH):Prop:=PI (C90 s) K 19 [v3,v8,v10,v11,v12,v34,v35,v36,v50,v51,v52] h
def P90_20 (s:Bool) (K:KF) (v3 v8 v10 v11 v12 v13 v14 v34 v35 v36 v50 v51 v52:Value) (h:AH):Prop:=PI (C90 s) K 20 [v3,v8,v10,v11,v12,v13,v14,v34,v35,v36,v50,v51,v52] h
def P90_21 (s:Bool) (K:KF) (v3 v8 v10 v11 v12 v34 v35 v36 v50 v51 v52:Value) (h:AH):Prop:=PI (C90 s) K 21 [v3,v8,v10,v11,v12,v34,v35,v36,v50,v51,v52] h
def P90_22 (s:Bool) (K:KF) (v3 v8 v10 v11 v12 v34 v35 v36:Value) (h:AH):Prop:=PI (C90 s) K 22 [v3,v8,v10,v11,v12,v34,v35,v36] h
def P90_23 (s:Bool) (K:KF) (v3 v8 v11 v12 v34 v35 v36 v64 v65 v66:Value) (h:AH):Prop:=PI (C90 s) K 23 [v3,v8,v11,v12,v34,v35,v36,v64,v65,v66] h
def P90_24 (s:Bool) (K:KF) (v3 v8 v11 v12 v34 v35 v36 v64 v65 v66:Value) (h:AH):Prop:=PI (C90 s) K 24 [v3,v8,v11,v12,v34,v35,v36,v64,v65,v66] h
def P90_25 (s:Bool) (K:KF) (v3 v8 v11 v12 v16 v34 v35 v36 v64 v65 v66:Value) (h:AH):Prop:=PI (C90 s) K 25 [v3,v8,v11,v12,v16,v34,v35,v36,v64,v65,v66] h
def P90_26 (s:Bool) (K:KF) (v3 v8 v11 v12 v34 v35 v36 v64 v65 v66:Value) (h:AH):Prop:=PI (C90 s) K 26 [v3,v8,v11,v12,v34,v35,v36,v64,v65,v66] h
def P90_27 (s:Bool) (K:KF) (v3 v8 v11 v34 v35 v36:Value) (h:AH):Prop:=PI (C90 s) K 27 [v3,v8,v11,v34,v35,v36] h
def P90_28 (s:Bool) (K:KF) (v3 v8 v34 v35 v36:Value) (h:AH):Prop:=PI (C90 s) K 28 [v3,v8,v34,v35,v36] h
def P90_29 (s:Bool) (K:KF) (v8:Value) (h:AH):Prop:=PI (C90 s) K 29 [v8] h
theorem P90_0_of (H :
 EvO (α:=Value) (some (.slice none 0 0)) fun x0=>
 P90_1 s K v0 h):P90_0 s K v0 h:=zB H
theorem P90_1_of (H :
 Ev s (zU 197 h (zAC E 197)) fun x0=>
 P90_2 s K v0 x0.1 x0.2):P90_1 s K v0 h:=zB H
theorem P90_2_of (H :
 EvO (some v0) fun x0=>
 EvO (zN E (zj [(17,x0)]) (zy B90 [1,1,0,0] 1) h) fun x1=>
 EvO (α:=Value) (some (.int .i64 0)) fun x2=>
 P90_3 s K v0 v3 x0 x1 x2 h):P90_2 s K v0 v3 h:=zB H
theorem len90_2_1:zN E (zj [(17,.slice a n c)]) (zy B90 [1,1,0,0] 1) h=some (.int .i64 (n:Int)):=by cases a <;> kernel_rfl
theorem P90_3_of (H :
 EvO (zE E .lss 3 v19 v18) fun x0=>
 BrK (some x0) (P90_4 s K v0 v3 v17 v18 v19 h) (P90_11 s K v0 v3 h)):P90_3 s K v0 v3 v17 v18 v19 h:=zB H
theorem P90_4_of (H :
 EvO (zH E 82 (some v17) (some v19)) fun x0=>
 EvO (zG E 25 h (some x0)) fun x1=>
 Ev s (zU 25 h (zAC E 25)) fun x2=>
 Ev s (zu E 25 x2.2 (some x2.1) (some x1)) fun x3=>
 P90_5 s K v0 v3 x2.1 v17 v18 v19 x3.2):P90_4 s K v0 v3 v17 v18 v19 h:=zB H
theorem P90_5_of (H :
 EvO (zC E 25 1 (some v5)) fun x0=>
 EvO (zG E 22 h (some x0)) fun x1=>
 EvO (zN E (zj [(24,x1)]) (zy B90 [1,1,0,1,0,0,1,1,0,0,1,0] 2) h) fun x2=>
 EvO (α:=Value) (some (.int .i64 0)) fun x3=>
 P90_6 s K v0 v3 v17 v18 v19 x1 x2 x3 h):P90_5 s K v0 v3 v5 v17 v18 v19 h:=zB H
theorem len90_5_2:zN E (zj [(24,.slice a n c)]) (zy B90 [1,1,0,1,0,0,1,1,0,0,1,0] 2) h=some (.int .i64 (n:Int)):=by cases a <;> kernel_rfl
theorem P90_6_of (H :
 EvO (zE E .lss 3 v26 v25) fun x0=>
 BrK (some x0) (P90_7 s K v0 v3 v17 v18 v19 v24 v25 v26 h) (P90_10 s K v0 v3 v17 v18 v19 h)):P90_6 s K v0 v3 v17 v18 v19 v24 v25 v26 h:=zB H
theorem P90_7_of (H :
 EvO (zH E 22 (some v24) (some v26)) fun x0=>
 EvO (zG E 36 h (some x0)) fun x1=>
 Ev s (zU 36 h (zAC E 36)) fun x2=>
 Ev s (zu E 36 x2.2 (some x2.1) (some x1)) fun x3=>
 P90_8 s K v0 v3 x2.1 v17 v18 v19 v24 v25 v26 x3.2):P90_7 s K v0 v3 v17 v18 v19 v24 v25 v26 h:=zB H
theorem P90_8_of (H :
 EvO (zG E 36 h (some v7)) fun x0=>
 Ev s (za (zV E) (some (.func (.func 143) #[] #[])) (some [v3,x0]) h) fun x1=>
 P90_9 s K v0 v3 v17 v18 v19 v24 v25 v26 x1.2):P90_8 s K v0 v3 v7 v17 v18 v19 v24 v25 v26 h:=zB H
theorem P90_9_of (H :
 EvO (zE E .add 3 v26 (.int .i64 1)) fun x0=>
 EvO (some x0) fun x1=>
 P90_6 s K v0 v3 v17 v18 v19 v24 v25 x1 h):P90_9 s K v0 v3 v17 v18 v19 v24 v25 v26 h:=zB H
theorem P90_10_of (H :
 EvO (zE E .add 3 v19 (.int .i64 1)) fun x0=>
 EvO (some x0) fun x1=>
 P90_3 s K v0 v3 v17 v18 x1 h):P90_10 s K v0 v3 v17 v18 v19 h:=zB H
theorem P90_11_of (H :
 EvO (α:=Value) (some (.slice none 0 0)) fun x0=>
 P90_12 s K v0 v3 x0 h):P90_11 s K v0 v3 h:=zB H
theorem P90_12_of (H :
 EvO (some v0) fun x0=>
 EvO (zN E (zj [(34,x0)]) (zy B90 [1,1,1,1,0,0] 1) h) fun x1=>
 EvO (α:=Value) (some (.int .i64 0)) fun x2=>
 P90_13 s K v3 v8 x0 x1 x2 h):P90_12 s K v0 v3 v8 h:=zB H
theorem len90_12_1:zN E (zj [(34,.slice a n c)]) (zy B90 [1,1,1,1,0,0] 1) h=some (.int .i64 (n:Int)):=by cases a <;> kernel_rfl
theorem P90_13_of (H :
 EvO (zE E .lss 3 v36 v35) fun x0=>
 BrK (some x0) (P90_14 s K v3 v8 v34 v35 v36 h) (P90_29 s K v8 h)):P90_13 s K v3 v8 v34 v35 v36 h:=zB H
theorem P90_14_of (H :
 EvO (zH E 82 (some v34) (some v36)) fun x0=>
 EvO (zG E 25 h (some x0)) fun x1=>
 Ev s (zU 25 h (zAC E 25)) fun x2=>
 Ev s (zu E 25 x2.2 (some x2.1) (some x1)) fun x3=>
 P90_15 s K v3 v8 x2.1 v34 v35 v36 x3.2):P90_14 s K v3 v8 v34 v35 v36 h:=zB H
theorem P90_15_of (H :
 EvO (zC E 25 0 (some v10)) fun x0=>
 EvO (zG E 3 h (some x0)) fun x1=>
 Ev s (zAk E 129 (some x1) (some x1) h) fun x2=>
 EvO (zAu E 131 (some [(0,x2.1)])) fun x3=>
 Ev s (zU 131 x2.2 (some x3)) fun x4=>
 EvO (some x4.1) fun x5=>
 P90_16 s K v3 v8 v10 x5 v34 v35 v36 x4.2):P90_15 s K v3 v8 v10 v34 v35 v36 h:=zB H
theorem P90_16_of (H :
 EvO (zC E 25 1 (some v10)) fun x0=>
 EvO (zG E 22 h (some x0)) fun x1=>
 EvO (zN E (zj [(46,x1)]) (zy B90 [1,1,1,1,0,1,0,0,1,1,0,0,1,1,0] 2) h) fun x2=>
 Ev s (zAk E 47 (some x2) (some x2) h) fun x3=>
 EvO (some x3.1) fun x4=>
 P90_17 s K v3 v8 v10 v11 x4 v34 v35 v36 x3.2):P90_16 s K v3 v8 v10 v11 v34 v35 v36 h:=zB H
theorem len90_16_2:zN E (zj [(46,.slice a n c)]) (zy B90 [1,1,1,1,0,1,0,0,1,1,0,0,1,1,0] 2) h=some (.int .i64 (n:Int)):=by cases a <;> kernel_rfl
theorem P90_17_of (H :
 EvO (zC E 25 1 (some v10)) fun x0=>
 EvO (zG E 22 h (some x0)) fun x1=>
 EvO (zN E (zj [(50,x1)]) (zy B90 [1,1,1,1,0,1,0,0,1,1,0,0,1,1,1,0,0] 2) h) fun x2=>
 EvO (α:=Value) (some (.int .i64 0)) fun x3=>
 P90_18 s K v3 v8 v10 v11 v12 v34 v35 v36 x1 x2 x3 h):P90_17 s K v3 v8 v10 v11 v12 v34 v35 v36 h:=zB H
theorem len90_17_2:zN E (zj [(50,.slice a n c)]) (zy B90 [1,1,1,1,0,1,0,0,1,1,0,0,1,1,1,0,0] 2) h=some (.int .i64 (n:Int)):=by cases a <;> kernel_rfl
theorem P90_18_of (H :
 EvO (zE E .lss 3 v52 v51) fun x0=>
 BrK (some x0) (P90_19 s K v3 v8 v10 v11 v12 v34 v35 v36 v50 v51 v52 h) (P90_22 s K v3 v8 v10 v11 v12 v34 v35 v36 h)):P90_18 s K v3 v8 v10 v11 v12 v34 v35 v36 v50 v51 v52 h:=zB H
theorem P90_19_of (H :
 EvO (some v52) fun x0=>
 EvO (zH E 22 (some v50) (some v52)) fun x1=>
 EvO (zG E 36 h (some x1)) fun x2=>
 Ev s (zU 36 h (zAC E 36)) fun x3=>
 EvO (some x0) fun x4=>
 Ev s (zu E 36 x3.2 (some x3.1) (some x2)) fun x5=>
 P90_20 s K v3 v8 v10 v11 v12 x4 x3.1 v34 v35 v36 v50 v51 v52 x5.2):P90_19 s K v3 v8 v10 v11 v12 v34 v35 v36 v50 v51 v52 h:=zB H
theorem P90_20_of (H :
 EvO (some v12) fun x0=>
 EvO (some v13) fun x1=>
 EvO (zG E 36 h (some v14)) fun x2=>
 Ev s (za (zV E) (some (.func (.func 143) #[] #[])) (some [v3,x2]) h) fun x3=>
 EvO (zH E 47 (some x0) (some x1)) fun x4=>
 Ev s (zu E 3 x3.2 (some x4) (some x3.1)) fun x5=>
 P90_21 s K v3 v8 v10 v11 v12 v34 v35 v36 v50 v51 v52 x5.2):P90_20 s K v3 v8 v10 v11 v12 v13 v14 v34 v35 v36 v50 v51 v52 h:=zB H
theorem P90_21_of (H :
 EvO (zE E .add 3 v52 (.int .i64 1)) fun x0=>
 EvO (some x0) fun x1=>
 P90_18 s K v3 v8 v10 v11 v12 v34 v35 v36 v50 v51 x1 h):P90_21 s K v3 v8 v10 v11 v12 v34 v35 v36 v50 v51 v52 h:=zB H
theorem P90_22_of (H :
 EvO (zC E 25 2 (some v10)) fun x0=>
 EvO (zG E 23 h (some x0)) fun x1=>
 EvO (zN E (zj [(64,x1)]) (zy B90 [1,1,1,1,0,1,0,0,1,1,0,0,1,1,1,1,0,0] 2) h) fun x2=>
 EvO (α:=Value) (some (.int .i64 0)) fun x3=>
 P90_23 s K v3 v8 v11 v12 v34 v35 v36 x1 x2 x3 h):P90_22 s K v3 v8 v10 v11 v12 v34 v35 v36 h:=zB H
theorem len90_22_2:zN E (zj [(64,.slice a n c)]) (zy B90 [1,1,1,1,0,1,0,0,1,1,0,0,1,1,1,1,0,0] 2) h=some (.int .i64 (n:Int)):=by cases a <;> kernel_rfl
theorem P90_23_of (H :
 EvO (zE E .lss 3 v66 v65) fun x0=>
 BrK (some x0) (P90_24 s K v3 v8 v11 v12 v34 v35 v36 v64 v65 v66 h) (P90_27 s K v3 v8 v11 v34 v35 v36 h)):P90_23 s K v3 v8 v11 v12 v34 v35 v36 v64 v65 v66 h:=zB H
theorem P90_24_of (H :
 EvO (zH E 23 (some v64) (some v66)) fun x0=>
 EvO (zG E 52 h (some x0)) fun x1=>
 Ev s (zU 52 h (zAC E 52)) fun x2=>
 Ev s (zu E 52 x2.2 (some x2.1) (some x1)) fun x3=>
 P90_25 s K v3 v8 v11 v12 x2.1 v34 v35 v36 v64 v65 v66 x3.2):P90_24 s K v3 v8 v11 v12 v34 v35 v36 v64 v65 v66 h:=zB H
theorem P90_25_of (H :
 EvO (some v11) fun x0=>
 EvO (zAB (some x0)) fun x1=>
 EvO (zC E 131 0 (some x1)) fun x2=>
 EvO (zG E 129 h (some x2)) fun x3=>
 EvO (zC E 52 0 (some v16)) fun x4=>
 EvO (zG E 3 h (some x4)) fun x5=>
 EvO (some v11) fun x6=>
 EvO (zAB (some x6)) fun x7=>
 EvO (zC E 131 0 (some x7)) fun x8=>
 EvO (zG E 129 h (some x8)) fun x9=>
 EvO (zC E 52 0 (some v16)) fun x10=>
 EvO (zG E 3 h (some x10)) fun x11=>
 EvO (zH E 129 (some x9) (some x11)) fun x12=>
 EvO (zG E 132 h (some x12)) fun x13=>
 EvO (some v12) fun x14=>
 EvO (zC E 52 1 (some v16)) fun x15=>
 EvO (zG E 3 h (some x15)) fun x16=>
 EvO (zH E 47 (some x14) (some x16)) fun x17=>
 EvO (zG E 3 h (some x17)) fun x18=>
 EvO (zC E 52 2 (some v16)) fun x19=>
 EvO (zG E 3 h (some x19)) fun x20=>
 EvO (zAu E 134 (some [(0,x18),(1,x20)])) fun x21=>
 Ev s (zh E 132 1 (some [(0,x21)]) h) fun x22=>
 EvO (zG E 132 x22.2 (some x12)) fun u22_13=>veq 100 u22_13 x13=true ∧
 (EvO (zG E 3 x22.2 (some x10)) fun u22_11=>veq 100 u22_11 x11=true ∧
 (EvO (zG E 129 x22.2 (some x8)) fun u22_9=>veq 100 u22_9 x9=true ∧
 (EvO (zG E 3 x22.2 (some x4)) fun u22_5=>veq 100 u22_5 x5=true ∧
 (EvO (zG E 129 x22.2 (some x2)) fun u22_3=>veq 100 u22_3 x3=true ∧
 (Ev s (zAO E .append [132,132] (some [x13,x22.1]) x22.2) fun x23=>
 EvO (zG E 3 x23.2 (some x4)) fun u23_5=>veq 100 u23_5 x5=true ∧
 (EvO (zG E 129 x23.2 (some x2)) fun u23_3=>veq 100 u23_3 x3=true ∧
 (EvO (zH E 129 (some x3) (some x5)) fun x24=>
 Ev s (zu E 132 x23.2 (some x24) (some x23.1)) fun x25=>
 P90_26 s K v3 v8 v11 v12 v34 v35 v36 v64 v65 v66 x25.2)))))))):P90_25 s K v3 v8 v11 v12 v16 v34 v35 v36 v64 v65 v66 h:=zB H
theorem P90_26_of (H :
 EvO (zE E .add 3 v66 (.int .i64 1)) fun x0=>
 EvO (some x0) fun x1=>
 P90_23 s K v3 v8 v11 v12 v34 v35 v36 v64 v65 x1 h):P90_26 s K v3 v8 v11 v12 v34 v35 v36 v64 v65 v66 h:=zB H
theorem P90_27_of (H :
 EvO (some v8) fun x0=>
 EvO (some v11) fun x1=>
 Ev s (zh E 126 1 (some [(0,x1)]) h) fun x2=>
 Ev s (zAO E .append [126,126] (some [x0,x2.1]) x2.2) fun x3=>
 EvO (some x3.1) fun x4=>
 P90_28 s K v3 x4 v34 v35 v36 x3.2):P90_27 s K v3 v8 v11 v34 v35 v36 h:=zB H
theorem P90_28_of (H :
 EvO (zE E .add 3 v36 (.int .i64 1)) fun x0=>
 EvO (some x0) fun x1=>
 P90_13 s K v3 v8 v34 v35 x1 h):P90_28 s K v3 v8 v34 v35 v36 h:=zB H
theorem P90_29_of (H :
 EvO (some v8) fun x0=>
 EvO (some x0) fun x1=>
 K .ret [x1] h):P90_29 s K v8 h:=zB H
theorem F90_ev {s:Bool} {v0:Value} {h:AH} {Rp:Value->AH->Prop} (H:P90_0 s (KR E [.tmp 2] Rp) v0 h) :
 Ev s (R.andThen (evC E (zV E) none (zT Tryz.f90) ⟨⟨Tryz.f90.ntmps,zw [v0] 0 .e⟩,h,[]⟩) (zc E Tryz.f90)) fun x=>Rp x.1 x.2:=
 zf (C:=C90 s) rfl rfl ⟨rfl,rfl,by kernel_rfl,rfl⟩ (by kernel_rfl) (by kernel_rfl) ((by kernel_rfl:z5 (C90 s) (KR E Tryz.f90.results.toList Rp) 30 (rs B90 60 (.at [])) (zj (zAw 0 [v0])) h=(P90_0 s (KR E [.tmp 2] Rp) v0 h)).mpr H)
theorem F90_get:E.tab.fn.get 90=some Tryz.f90:=by kernel_rfl
theorem F90_body:Tryz.f90.body=some B90:=by kernel_rfl
theorem F90_sum (l:List Value) (h:AH):E.sum 90 l h=none:=by kernel_rfl
theorem F90_some {v0:Value} {h:AH} {Rp:Value->AH->Prop} (H:P90_0 true (KR E [.tmp 2] (fun x k=>(zg x=false\/k.wm<h.next)/\Rp x ⟨k.t,k.next,cond (Nat.ble h.wm k.wm) h.wm k.wm⟩)) v0 h.fresh):Ev true ((zV E).call 90 [v0] h) fun x=>Rp x.1 x.2:=
 zBw F90_get F90_body (F90_sum _ _) (by kernel_rfl) (F90_ev (Rp:=fun x k=>(zg x=false\/k.wm<h.next)/\Rp x ⟨k.t,k.next,cond (Nat.ble h.wm k.wm) h.wm k.wm⟩) H)
noncomputable def B94:Code:=zT Tryz.f94
noncomputable def C94 (s:Bool):Cx:=⟨E,s,none,B94,[([0],[0,1]),([1,0],[0,1]),([1,1,0],[0,1,5]),([1,1,1,0,0],[0,1,5,6]),([1,1,1,0,1,0,0,0],[6]),([1,1,1,0,1,0,0,1,0,0],[]),([1,1,1,0,1,0,1,0],[]),([1,1,1,1,0,0],[0,1,6]),([1,1,1,1,0,1,0,0],[]),([1,1,1,1,1,0,0],[0,1]),([1,1,1,1,1,0,1,0,0],[]),([1,1,1,1,1,1,0,0],[0,1]),([1,1,1,1,1,1,0,1,0,0],[]),([1,1,1,1,1,1,1,0],[])],[4],[]⟩
def P94_0 (s:Bool) (K:KF) (v0 v1:Value) (h:AH):Prop:=PI (C94 s) K 0 [v0,v1] h
def P94_1 (s:Bool) (K:KF) (v0 v1:Value) (h:AH):Prop:=PI (C94 s) K 1 [v0,v1] h
def P94_2 (s:Bool) (K:KF) (v0 v1 v5:Value) (h:AH):Prop:=PI (C94 s) K 2 [v0,v1,v5] h
def P94_3 (s:Bool) (K:KF) (v0 v1 v5 v6:Value) (h:AH):Prop:=PI (C94 s) K 3 [v0,v1,v5,v6] h
def P94_4 (s:Bool) (K:KF) (v6:Value) (h:AH):Prop:=PI (C94 s) K 4 [v6] h
def P94_7 (s:Bool) (K:KF) (v0 v1 v6:Value) (h:AH):Prop:=PI (C94 s) K 7 [v0,v1,v6] h
def P94_8 (s:Bool) (K:KF) (h:AH):Prop:=PI (C94 s) K 8 [] h
def P94_9 (s:Bool) (K:KF) (v0 v1:Value) (h:AH):Prop:=PI (C94 s) K 9 [v0,v1] h
def P94_10 (s:Bool) (K:KF) (h:AH):Prop:=PI (C94 s) K 10 [] h
def P94_11 (s:Bool) (K:KF) (v0 v1:Value) (h:AH):Prop:=PI (C94 s) K 11 [v0,v1] h
def P94_12 (s:Bool) (K:KF) (h:AH):Prop:=PI (C94 s) K 12 [] h
def P94_13 (s:Bool) (K:KF) (h:AH):Prop:=PI (C94 s) K 13 [] h
theorem P94_0_of (H :
 EvO (α:=Value) (some (.int .i64 0)) fun x0=>
 P94_1 s K v0 v1 h):P94_0 s K v0 v1 h:=zB H
theorem P94_1_of (H :
 EvO (some v0) fun x0=>
 Ev s (za (zV E) (some (.func (.func 154) #[] #[])) (some [x0]) h) fun x1=>
 EvO (some x1.1) fun x2=>
 P94_2 s K v0 v1 x2 x1.2):P94_1 s K v0 v1 h:=zB H
theorem P94_2_of (H :
 EvO (some v1) fun x0=>
 Ev s (za (zV E) (some (.func (.func 154) #[] #[])) (some [x0]) h) fun x1=>
 EvO (some x1.1) fun x2=>
 P94_3 s K v0 v1 v5 x2 x1.2):P94_2 s K v0 v1 v5 h:=zB H
theorem P94_3_of (H :
 EvO (some v5) fun x0=>
 BrK (some x0) (P94_4 s K v6 h) (P94_7 s K v0 v1 v6 h)):P94_3 s K v0 v1 v5 v6 h:=zB H
theorem P94_7_of (H :
 EvO (some v6) fun x0=>
 BrK (some x0) (P94_8 s K  h) (P94_9 s K v0 v1 h)):P94_7 s K v0 v1 v6 h:=zB H
theorem P94_9_of (H :
 EvO (some v0) fun x0=>
 EvO (some v1) fun x1=>
 EvO (zE E .lss 3 x0 x1) fun x2=>
 BrK (some x2) (P94_10 s K  h) (P94_11 s K v0 v1 h)):P94_9 s K v0 v1 h:=zB H
theorem P94_10_of (H :
 EvO (α:=Value) (some (.int .i64 (-1))) fun x0=>
 K .ret [x0] h):P94_10 s K h:=zB H
theorem P94_11_of (H :
 EvO (some v0) fun x0=>
 EvO (some v1) fun x1=>
 EvO (zE E .gtr 3 x0 x1) fun x2=>
 BrK (some x2) (P94_12 s K  h) (P94_13 s K  h)):P94_11 s K v0 v1 h:=zB H
theorem P94_12_of (H :
 EvO (α:=Value) (some (.int .i64 1)) fun x0=>
 K .ret [x0] h):P94_12 s K h:=zB H
theorem P94_13_of (H :
 EvO (α:=Value) (some (.int .i64 0)) fun x0=>
 K .ret [x0] h):P94_13 s K h:=zB H
theorem F94_ev {s:Bool} {v0 v1:Value} {h:AH} {Rp:Value->AH->Prop} (H:P94_0 s (KR E [.tmp 4] Rp) v0 v1 h) :
 Ev s (R.andThen (evC E (zV E) none (zT Tryz.f94) ⟨⟨Tryz.f94.ntmps,zw [v0,v1] 0 .e⟩,h,[]⟩) (zc E Tryz.f94)) fun x=>Rp x.1 x.2:=
 zf (C:=C94 s) rfl rfl ⟨rfl,rfl,by kernel_rfl,rfl⟩ (by kernel_rfl) (by kernel_rfl) ((by kernel_rfl:z5 (C94 s) (KR E Tryz.f94.results.toList Rp) 30 (rs B94 60 (.at [])) (zj (zAw 0 [v0,v1])) h=(P94_0 s (KR E [.tmp 4] Rp) v0 v1 h)).mpr H)
theorem F94_get:E.tab.fn.get 94=some Tryz.f94:=by kernel_rfl
theorem F94_body:Tryz.f94.body=some B94:=by kernel_rfl
theorem F94_sum (l:List Value) (h:AH):E.sum 94 l h=none:=by kernel_rfl
theorem F94_flat {s:Bool} {v0 v1:Value} {h:AH} {v:Value} (hok:h.ok) (hv:zm v=true) (H:P94_0 s (KR E [.tmp 4] (fun x k=>x=v/\h.next<=k.wm)) v0 v1 h.fresh):(zV E).call 94 [v0,v1] h=some [(v,h)]:=
 zk (s:=s) hok F94_get F94_body (F94_sum _ _) (by kernel_rfl) hv (F94_ev (Rp:=fun x k=>x=v/\h.next<=k.wm) H)
noncomputable def B105:Code:=zT Tryz.f105
noncomputable def C105 (s:Bool):Cx:=⟨E,s,none,B105,[([0],[0]),([1,0],[0])],[2],[]⟩
def P105_0 (s:Bool) (K:KF) (v0:Value) (h:AH):Prop:=PI (C105 s) K 0 [v0] h
def P105_1 (s:Bool) (K:KF) (v0:Value) (h:AH):Prop:=PI (C105 s) K 1 [v0] h
theorem P105_0_of (H :
 EvO (α:=Value) (some (.bool false)) fun x0=>
 P105_1 s K v0 h):P105_0 s K v0 h:=zB H
theorem P105_1_of (H :
 EvO (some v0) fun x0=>
 EvO (zE E .eql 3 x0 (.int .i64 1)) fun x1=>
 EvO (some x1) fun x2=>
 EvO (gdB x2 false (some v0)) fun x3=>
 EvO (gdB x2 false (zE E .eql 3 x3 (.int .i64 2))) fun x4=>
 EvO (z9 (some x2) (some (.bool true)) (some x4)) fun x5=>
 EvO (some x5) fun x6=>
 K .ret [x6] h):P105_1 s K v0 h:=zB H
theorem F105_ev {s:Bool} {v0:Value} {h:AH} {Rp:Value->AH->Prop} (H:P105_0 s (KR E [.tmp 2] Rp) v0 h) :
 Ev s (R.andThen (evC E (zV E) none (zT Tryz.f105) ⟨⟨Tryz.f105.ntmps,zw [v0] 0 .e⟩,h,[]⟩) (zc E Tryz.f105)) fun x=>Rp x.1 x.2:=
 zf (C:=C105 s) rfl rfl ⟨rfl,rfl,by kernel_rfl,rfl⟩ (by kernel_rfl) (by kernel_rfl) ((by kernel_rfl:z5 (C105 s) (KR E Tryz.f105.results.toList Rp) 30 (rs B105 60 (.at [])) (zj (zAw 0 [v0])) h=(P105_0 s (KR E [.tmp 2] Rp) v0 h)).mpr H)
theorem F105_get:E.tab.fn.get 105=some Tryz.f105:=by kernel_rfl
theorem F105_body:Tryz.f105.body=some B105:=by kernel_rfl
theorem F105_sum (l:List Value) (h:AH):E.sum 105 l h=none:=by kernel_rfl
theorem F105_flat {s:Bool} {v0:Value} {h:AH} {v:Value} (hok:h.ok) (hv:zm v=true) (H:P105_0 s (KR E [.tmp 2] (fun x k=>x=v/\h.next<=k.wm)) v0 h.fresh):(zV E).call 105 [v0] h=some [(v,h)]:=
 zk (s:=s) hok F105_get F105_body (F105_sum _ _) (by kernel_rfl) hv (F105_ev (Rp:=fun x k=>x=v/\h.next<=k.wm) H)
noncomputable def B121:Code:=zT Tryz.f121
noncomputable def C121 (s:Bool):Cx:=⟨E,s,none,B121,[([0],[0]),([1,0,0],[1]),([1,0,1,0,0],[]),([1,1,0,0],[1]),([1,1,0,1,0,0,0],[1,29,30,31]),([1,1,0,1,0,0,1,1,0,0,0],[1,29,30,31]),([1,1,0,1,0,0,1,1,0,0,1,0],[1,3,4,29,30,31]),([1,1,0,1,0,0,1,1,0,0,1,1,0,0],[]),([1,1,0,1,0,0,1,1,1],[1,29,30,31]),([1,1,1,0],[1]),([1,1,1,1,0,0],[1,5]),([1,1,1,1,0,1,0,0,0],[1,5,56,57,58]),([1,1,1,1,0,1,0,0,1,1,0,0,0],[1,5,56,57,58]),([1,1,1,1,0,1,0,0,1,1,0,0,1,0],[1,5,6,7,56,57,58]),([1,1,1,1,0,1,0,0,1,1,0,0,1,1,0,0],[]),([1,1,1,1,0,1,0,0,1,1,1],[1,5,56,57,58]),([1,1,1,1,1,0],[])],[2],[]⟩
def P121_0 (s:Bool) (K:KF) (v0:Value) (h:AH):Prop:=PI (C121 s) K 0 [v0] h
def P121_1 (s:Bool) (K:KF) (v1:Value) (h:AH):Prop:=PI (C121 s) K 1 [v1] h
def P121_2 (s:Bool) (K:KF) (h:AH):Prop:=PI (C121 s) K 2 [] h
def P121_3 (s:Bool) (K:KF) (v1:Value) (h:AH):Prop:=PI (C121 s) K 3 [v1] h
def P121_4 (s:Bool) (K:KF) (v1 v29 v30 v31:Value) (h:AH):Prop:=PI (C121 s) K 4 [v1,v29,v30,v31] h
def P121_5 (s:Bool) (K:KF) (v1 v29 v30 v31:Value) (h:AH):Prop:=PI (C121 s) K 5 [v1,v29,v30,v31] h
def P121_6 (s:Bool) (K:KF) (v1 v3 v4 v29 v30 v31:Value) (h:AH):Prop:=PI (C121 s) K 6 [v1,v3,v4,v29,v30,v31] h
def P121_7 (s:Bool) (K:KF) (h:AH):Prop:=PI (C121 s) K 7 [] h
def P121_8 (s:Bool) (K:KF) (v1 v29 v30 v31:Value) (h:AH):Prop:=PI (C121 s) K 8 [v1,v29,v30,v31] h
def P121_9 (s:Bool) (K:KF) (v1:Value) (h:AH):Prop:=PI (C121 s) K 9 [v1] h
def P121_10 (s:Bool) (K:KF) (v1 v5:Value) (h:AH):Prop:=PI (C121 s) K 10 [v1,v5] h
def P121_11 (s:Bool) (K:KF) (v1 v5 v56 v57 v58:Value) (h:AH):Prop:=PI (C121 s) K 11 [v1,v5,v56,v57,v58] h
def P121_12 (s:Bool) (K:KF) (v1 v5 v56 v57 v58:Value) (h:AH):Prop:=PI (C121 s) K 12 [v1,v5,v56,v57,v58] h
def P121_13 (s:Bool) (K:KF) (v1 v5 v6 v7 v56 v57 v58:Value) (h:AH):Prop:=PI (C121 s) K 13 [v1,v5,v6,v7,v56,v57,v58] h
def P121_14 (s:Bool) (K:KF) (h:AH):Prop:=PI (C121 s) K 14 [] h
def P121_15 (s:Bool) (K:KF) (v1 v5 v56 v57 v58:Value) (h:AH):Prop:=PI (C121 s) K 15 [v1,v5,v56,v57,v58] h
def P121_16 (s:Bool) (K:KF) (h:AH):Prop:=PI (C121 s) K 16 [] h
theorem P121_0_of (H :
 Ev s (zU 25 h (some v0)) fun x0=>
 EvO (α:=Value) (some (.int .i64 0)) fun x1=>
 P121_1 s K x0.1 x0.2):P121_0 s K v0 h:=zB H
theorem P121_1_of (H :
 EvO (zC E 25 0 (some v1)) fun x0=>
 EvO (zG E 3 h (some x0)) fun x1=>
 EvO (zE E .lss 3 x1 (.int .i64 1)) fun x2=>
 EvO (some x2) fun x3=>
 EvO (gdB x3 false (zC E 25 0 (some v1))) fun x4=>
 EvO (gdB x3 false (zG E 3 h (some x4))) fun x5=>
 EvO (gdB x3 false (zE E .gtr 3 x5 (.int .i64 20000))) fun x6=>
 EvO (z9 (some x3) (some (.bool true)) (some x6)) fun x7=>
 EvO (some x7) fun x8=>
 EvO (gdB x8 false (zC E 25 1 (some v1))) fun x9=>
 EvO (gdB x8 false (zG E 22 h (some x9))) fun x10=>
 EvO (gdB x8 false (zN E (zj [(18,x10)]) (zy B121 [1,0,0] 11) h)) fun x11=>
 EvO (gdB x8 false (zE E .gtr 3 x11 (.int .i64 4000))) fun x12=>
 EvO (z9 (some x8) (some (.bool true)) (some x12)) fun x13=>
 EvO (some x13) fun x14=>
 EvO (gdB x14 false (zC E 25 2 (some v1))) fun x15=>
 EvO (gdB x14 false (zG E 23 h (some x15))) fun x16=>
 EvO (gdB x14 false (zN E (zj [(24,x16)]) (zy B121 [1,0,0] 17) h)) fun x17=>
 EvO (gdB x14 false (zE E .gtr 3 x17 (.int .i64 100000))) fun x18=>
 EvO (z9 (some x14) (some (.bool true)) (some x18)) fun x19=>
 BrK (some x19) (P121_2 s K  h) (P121_3 s K v1 h)):P121_1 s K v1 h:=zB H
theorem len121_1_11:zN E (zj [(18,.slice a n c)]) (zy B121 [1,0,0] 11) h=some (.int .i64 (n:Int)):=by cases a <;> kernel_rfl
theorem len121_1_17:zN E (zj [(24,.slice a n c)]) (zy B121 [1,0,0] 17) h=some (.int .i64 (n:Int)):=by cases a <;> kernel_rfl
theorem P121_2_of (H :
 EvO (α:=Value) (some (.int .i64 8)) fun x0=>
 K .ret [x0] h):P121_2 s K h:=zB H
theorem P121_3_of (H :
 EvO (zC E 25 1 (some v1)) fun x0=>
 EvO (zG E 22 h (some x0)) fun x1=>
 EvO (zN E (zj [(29,x1)]) (zy B121 [1,1,0,0] 2) h) fun x2=>
 EvO (α:=Value) (some (.int .i64 0)) fun x3=>
 P121_4 s K v1 x1 x2 x3 h):P121_3 s K v1 h:=zB H
theorem len121_3_2:zN E (zj [(29,.slice a n c)]) (zy B121 [1,1,0,0] 2) h=some (.int .i64 (n:Int)):=by cases a <;> kernel_rfl
theorem P121_4_of (H :
 EvO (zE E .lss 3 v31 v30) fun x0=>
 BrK (some x0) (P121_5 s K v1 v29 v30 v31 h) (P121_9 s K v1 h)):P121_4 s K v1 v29 v30 v31 h:=zB H
theorem P121_5_of (H :
 EvO (some v31) fun x0=>
 EvO (zH E 22 (some v29) (some v31)) fun x1=>
 EvO (zG E 36 h (some x1)) fun x2=>
 Ev s (zU 36 h (zAC E 36)) fun x3=>
 EvO (some x0) fun x4=>
 Ev s (zu E 36 x3.2 (some x3.1) (some x2)) fun x5=>
 P121_6 s K v1 x4 x3.1 v29 v30 v31 x5.2):P121_5 s K v1 v29 v30 v31 h:=zB H
theorem P121_6_of (H :
 EvO (zG E 36 h (some v4)) fun x0=>
 Ev s (za (zV E) (some (.func (.func 167) #[] #[])) (some [x0]) h) fun x1=>
 EvO (zE E .neq 29 x1.1 (.int .i64 0)) fun x2=>
 EvO (some x2) fun x3=>
 EvO (gdB x3 false (some v3)) fun x4=>
 EvO (gdB x3 false (zE E .gtr 3 x4 (.int .i64 0))) fun x5=>
 EvO (gdB x3 false (some x5)) fun x6=>
 EvO (gdB x6 true (zC E 25 1 (some v1))) fun x7=>
 EvO (gdB x6 true (zG E 22 x1.2 (some x7))) fun x8=>
 EvO (gdB x6 true (some v3)) fun x9=>
 EvO (gdB x6 true (zE E .sub 3 x9 (.int .i64 1))) fun x10=>
 EvO (gdB x6 true (zH E 22 (some x8) (some x10))) fun x11=>
 EvO (gdB x6 true (zG E 36 x1.2 (some x11))) fun x12=>
 EvO (gdB x6 true (zG E 36 x1.2 (some v4))) fun x13=>
 Ev s (gdW x6 true (za (zV E) (some (.func (.func 168) #[] #[])) (some [x12,x13]) x1.2) x1.2) fun x14=>
 EvO (gdB x6 true (zE E .geq 3 x14.1 (.int .i64 0))) fun x15=>
 EvO (gdB x3 false (z9 (some x6) (some x15) (some (.bool false)))) fun x16=>
 EvO (z9 (some x3) (some (.bool true)) (some x16)) fun x17=>
 BrK (some x17) (P121_7 s K  x14.2) (P121_8 s K v1 v29 v30 v31 x14.2)):P121_6 s K v1 v3 v4 v29 v30 v31 h:=zB H
theorem P121_7_of (H :
 EvO (α:=Value) (some (.int .i64 8)) fun x0=>
 K .ret [x0] h):P121_7 s K h:=zB H
theorem P121_8_of (H :
 EvO (zE E .add 3 v31 (.int .i64 1)) fun x0=>
 EvO (some x0) fun x1=>
 P121_4 s K v1 v29 v30 x1 h):P121_8 s K v1 v29 v30 v31 h:=zB H
theorem P121_9_of (H :
 EvO (α:=Value) (some (.func (.func 169) #[] #[])) fun x0=>
 P121_10 s K v1 x0 h):P121_9 s K v1 h:=zB H
theorem P121_10_of (H :
 EvO (zC E 25 2 (some v1)) fun x0=>
 EvO (zG E 23 h (some x0)) fun x1=>
 EvO (zN E (zj [(56,x1)]) (zy B121 [1,1,1,1,0,0] 2) h) fun x2=>
 EvO (α:=Value) (some (.int .i64 0)) fun x3=>
 P121_11 s K v1 v5 x1 x2 x3 h):P121_10 s K v1 v5 h:=zB H
theorem len121_10_2:zN E (zj [(56,.slice a n c)]) (zy B121 [1,1,1,1,0,0] 2) h=some (.int .i64 (n:Int)):=by cases a <;> kernel_rfl
theorem P121_11_of (H :
 EvO (zE E .lss 3 v58 v57) fun x0=>
 BrK (some x0) (P121_12 s K v1 v5 v56 v57 v58 h) (P121_16 s K  h)):P121_11 s K v1 v5 v56 v57 v58 h:=zB H
theorem P121_12_of (H :
 EvO (some v58) fun x0=>
 EvO (zH E 23 (some v56) (some v58)) fun x1=>
 EvO (zG E 52 h (some x1)) fun x2=>
 Ev s (zU 52 h (zAC E 52)) fun x3=>
 EvO (some x0) fun x4=>
 Ev s (zu E 52 x3.2 (some x3.1) (some x2)) fun x5=>
 P121_13 s K v1 v5 x4 x3.1 v56 v57 v58 x5.2):P121_12 s K v1 v5 v56 v57 v58 h:=zB H
theorem P121_13_of (H :
 EvO (some v5) fun x0=>
 EvO (zC E 52 0 (some v7)) fun x1=>
 EvO (zG E 3 h (some x1)) fun x2=>
 EvO (zC E 25 0 (some v1)) fun x3=>
 EvO (zG E 3 h (some x3)) fun x4=>
 Ev s (za (zV E) (some x0) (some [x2,x4]) h) fun x5=>
 EvO (zAf .not x5.1) fun x6=>
 EvO (some x6) fun x7=>
 EvO (gdB x7 false (some v5)) fun x8=>
 EvO (gdB x7 false (zC E 52 2 (some v7))) fun x9=>
 EvO (gdB x7 false (zG E 3 x5.2 (some x9))) fun x10=>
 EvO (gdB x7 false (zC E 25 0 (some v1))) fun x11=>
 EvO (gdB x7 false (zG E 3 x5.2 (some x11))) fun x12=>
 Ev s (gdW x7 false (za (zV E) (some x8) (some [x10,x12]) x5.2) x5.2) fun x13=>
 EvO (gdB x7 false (zAf .not x13.1)) fun x14=>
 EvO (z9 (some x7) (some (.bool true)) (some x14)) fun x15=>
 EvO (some x15) fun x16=>
 EvO (gdB x16 false (some v5)) fun x17=>
 EvO (gdB x16 false (zC E 52 1 (some v7))) fun x18=>
 EvO (gdB x16 false (zG E 3 x13.2 (some x18))) fun x19=>
 EvO (gdB x16 false (zC E 25 1 (some v1))) fun x20=>
 EvO (gdB x16 false (zG E 22 x13.2 (some x20))) fun x21=>
 EvO (gdB x16 false (zN E (zj [(84,x21)]) (zy B121 [1,1,1,1,0,1,0,0,1,1,0,0,1,0] 22) x13.2)) fun x22=>
 Ev s (gdW x16 false (za (zV E) (some x17) (some [x19,x22]) x13.2) x13.2) fun x23=>
 EvO (gdB x16 false (zAf .not x23.1)) fun x24=>
 EvO (z9 (some x16) (some (.bool true)) (some x24)) fun x25=>
 EvO (some x25) fun x26=>
 EvO (gdB x26 false (some v6)) fun x27=>
 EvO (gdB x26 false (zE E .gtr 3 x27 (.int .i64 0))) fun x28=>
 EvO (gdB x26 false (some x28)) fun x29=>
 EvO (gdB x29 true (zC E 25 2 (some v1))) fun x30=>
 EvO (gdB x29 true (zG E 23 x23.2 (some x30))) fun x31=>
 EvO (gdB x29 true (some v6)) fun x32=>
 EvO (gdB x29 true (zE E .sub 3 x32 (.int .i64 1))) fun x33=>
 EvO (gdB x29 true (zH E 23 (some x31) (some x33))) fun x34=>
 EvO (gdB x29 true (zG E 52 x23.2 (some x34))) fun x35=>
 EvO (gdB x29 true (zG E 52 x23.2 (some v7))) fun x36=>
 Ev s (gdW x29 true (za (zV E) (some (.func (.func 170) #[] #[])) (some [x35,x36]) x23.2) x23.2) fun x37=>
 EvO (gdB x29 true (zE E .geq 3 x37.1 (.int .i64 0))) fun x38=>
 EvO (gdB x26 false (z9 (some x29) (some x38) (some (.bool false)))) fun x39=>
 EvO (z9 (some x26) (some (.bool true)) (some x39)) fun x40=>
 BrK (some x40) (P121_14 s K  x37.2) (P121_15 s K v1 v5 v56 v57 v58 x37.2)):P121_13 s K v1 v5 v6 v7 v56 v57 v58 h:=zB H
theorem len121_13_22:zN E (zj [(84,.slice a n c)]) (zy B121 [1,1,1,1,0,1,0,0,1,1,0,0,1,0] 22) h=some (.int .i64 (n:Int)):=by cases a <;> kernel_rfl
theorem P121_14_of (H :
 EvO (α:=Value) (some (.int .i64 8)) fun x0=>
 K .ret [x0] h):P121_14 s K h:=zB H
theorem P121_15_of (H :
 EvO (zE E .add 3 v58 (.int .i64 1)) fun x0=>
 EvO (some x0) fun x1=>
 P121_11 s K v1 v5 v56 v57 x1 h):P121_15 s K v1 v5 v56 v57 v58 h:=zB H
theorem P121_16_of (H :
 EvO (α:=Value) (some (.int .i64 0)) fun x0=>
 K .ret [x0] h):P121_16 s K h:=zB H
theorem F121_ev {s:Bool} {v0:Value} {h:AH} {Rp:Value->AH->Prop} (H:P121_0 s (KR E [.tmp 2] Rp) v0 h) :
 Ev s (R.andThen (evC E (zV E) none (zT Tryz.f121) ⟨⟨Tryz.f121.ntmps,zw [v0] 0 .e⟩,h,[]⟩) (zc E Tryz.f121)) fun x=>Rp x.1 x.2:=
 zf (C:=C121 s) rfl rfl ⟨rfl,rfl,by kernel_rfl,rfl⟩ (by kernel_rfl) (by kernel_rfl) ((by kernel_rfl:z5 (C121 s) (KR E Tryz.f121.results.toList Rp) 30 (rs B121 60 (.at [])) (zj (zAw 0 [v0])) h=(P121_0 s (KR E [.tmp 2] Rp) v0 h)).mpr H)
theorem F121_get:E.tab.fn.get 121=some Tryz.f121:=by kernel_rfl
theorem F121_body:Tryz.f121.body=some B121:=by kernel_rfl
theorem F121_sum (l:List Value) (h:AH):E.sum 121 l h=none:=by kernel_rfl
theorem F121_flat {s:Bool} {v0:Value} {h:AH} {v:Value} (hok:h.ok) (hv:zm v=true) (H:P121_0 s (KR E [.tmp 2] (fun x k=>x=v/\h.next<=k.wm)) v0 h.fresh):(zV E).call 121 [v0] h=some [(v,h)]:=
 zk (s:=s) hok F121_get F121_body (F121_sum _ _) (by kernel_rfl) hv (F121_ev (Rp:=fun x k=>x=v/\h.next<=k.wm) H)
noncomputable def B122:Code:=zT Tryz.f122
noncomputable def C122 (s:Bool):Cx:=⟨E,s,none,B122,[([0],[0,1]),([1,0],[2,3])],[4],[]⟩
def P122_0 (s:Bool) (K:KF) (v0 v1:Value) (h:AH):Prop:=PI (C122 s) K 0 [v0,v1] h
def P122_1 (s:Bool) (K:KF) (v2 v3:Value) (h:AH):Prop:=PI (C122 s) K 1 [v2,v3] h
theorem P122_0_of (H :
 Ev s (zU 54 h (some v0)) fun x0=>
 Ev s (zU 54 x0.2 (some v1)) fun x1=>
 EvO (α:=Value) (some (.int .i64 0)) fun x2=>
 P122_1 s K x0.1 x1.1 x1.2):P122_0 s K v0 v1 h:=zB H
theorem P122_1_of (H :
 EvO (zH E 54 (some v2) (some (.int .i64 0))) fun x0=>
 EvO (zG E 3 h (some x0)) fun x1=>
 EvO (zH E 54 (some v3) (some (.int .i64 0))) fun x2=>
 EvO (zG E 3 h (some x2)) fun x3=>
 EvO (zH E 54 (some v2) (some (.int .i64 1))) fun x5=>
 EvO (zG E 3 h (some x5)) fun x6=>
 EvO (zH E 54 (some v3) (some (.int .i64 1))) fun x7=>
 EvO (zG E 3 h (some x7)) fun x8=>
 Ev s (za (zV E) (some (.func (.func 94) #[] #[])) (some [x1,x3]) h) fun x4=>
 EvO (zG E 3 x4.2 (some x7)) fun u4_8=>veq 100 u4_8 x8=true ∧
 (EvO (zG E 3 x4.2 (some x5)) fun u4_6=>veq 100 u4_6 x6=true ∧
 (Ev s (za (zV E) (some (.func (.func 94) #[] #[])) (some [x6,x8]) x4.2) fun x9=>
 Ev s (zh E 47 2 (some [(0,x4.1),(1,x9.1)]) x9.2) fun x10=>
 Ev s (za (zV E) (some (.func (.func 171) #[] #[])) (some [x10.1]) x10.2) fun x11=>
 EvO (some x11.1) fun x12=>
 K .ret [x12] x11.2))):P122_1 s K v2 v3 h:=zB H
theorem F122_ev {s:Bool} {v0 v1:Value} {h:AH} {Rp:Value->AH->Prop} (H:P122_0 s (KR E [.tmp 4] Rp) v0 v1 h) :
 Ev s (R.andThen (evC E (zV E) none (zT Tryz.f122) ⟨⟨Tryz.f122.ntmps,zw [v0,v1] 0 .e⟩,h,[]⟩) (zc E Tryz.f122)) fun x=>Rp x.1 x.2:=
 zf (C:=C122 s) rfl rfl ⟨rfl,rfl,by kernel_rfl,rfl⟩ (by kernel_rfl) (by kernel_rfl) ((by kernel_rfl:z5 (C122 s) (KR E Tryz.f122.results.toList Rp) 30 (rs B122 60 (.at [])) (zj (zAw 0 [v0,v1])) h=(P122_0 s (KR E [.tmp 4] Rp) v0 v1 h)).mpr H)
theorem F122_get:E.tab.fn.get 122=some Tryz.f122:=by kernel_rfl
theorem F122_body:Tryz.f122.body=some B122:=by kernel_rfl
theorem F122_sum (l:List Value) (h:AH):E.sum 122 l h=none:=by kernel_rfl
theorem F122_flat {s:Bool} {v0 v1:Value} {h:AH} {v:Value} (hok:h.ok) (hv:zm v=true) (H:P122_0 s (KR E [.tmp 4] (fun x k=>x=v/\h.next<=k.wm)) v0 v1 h.fresh):(zV E).call 122 [v0,v1] h=some [(v,h)]:=
 zk (s:=s) hok F122_get F122_body (F122_sum _ _) (by kernel_rfl) hv (F122_ev (Rp:=fun x k=>x=v/\h.next<=k.wm) H)
noncomputable def B123:Code:=zT Tryz.f123
noncomputable def C123 (s:Bool):Cx:=⟨E,s,none,B123,[([0],[0,1,2]),([1,0],[1,2,3])],[6],[]⟩
def P123_0 (s:Bool) (K:KF) (v0 v1 v2:Value) (h:AH):Prop:=PI (C123 s) K 0 [v0,v1,v2] h
def P123_1 (s:Bool) (K:KF) (v1 v2 v3:Value) (h:AH):Prop:=PI (C123 s) K 1 [v1,v2,v3] h
theorem P123_0_of (H :
 Ev s (zU 176 h (some v0)) fun x0=>
 EvO (α:=Value) (some (.bool false)) fun x1=>
 P123_1 s K v1 v2 x0.1 x0.2):P123_0 s K v0 v1 v2 h:=zB H
theorem P123_1_of (H :
 EvO (zC E 176 2 (some v3)) fun x0=>
 EvO (zG E 174 h (some x0)) fun x1=>
 EvO (some v1) fun x2=>
 EvO (some v2) fun x3=>
 EvO (zAu E 54 (some [(0,x2),(1,x3)])) fun x4=>
 EvO (zC6 E 174 false (some x1) (some x4) h) fun x5=>
 EvO (some x5) fun x6=>
 K .ret [x6] h):P123_1 s K v1 v2 v3 h:=zB H
theorem F123_ev {s:Bool} {v0 v1 v2:Value} {h:AH} {Rp:Value->AH->Prop} (H:P123_0 s (KR E [.tmp 6] Rp) v0 v1 v2 h) :
 Ev s (R.andThen (evC E (zV E) none (zT Tryz.f123) ⟨⟨Tryz.f123.ntmps,zw [v0,v1,v2] 0 .e⟩,h,[]⟩) (zc E Tryz.f123)) fun x=>Rp x.1 x.2:=
 zf (C:=C123 s) rfl rfl ⟨rfl,rfl,by kernel_rfl,rfl⟩ (by kernel_rfl) (by kernel_rfl) ((by kernel_rfl:z5 (C123 s) (KR E Tryz.f123.results.toList Rp) 30 (rs B123 60 (.at [])) (zj (zAw 0 [v0,v1,v2])) h=(P123_0 s (KR E [.tmp 6] Rp) v0 v1 v2 h)).mpr H)
theorem F123_get:E.tab.fn.get 123=some Tryz.f123:=by kernel_rfl
theorem F123_body:Tryz.f123.body=some B123:=by kernel_rfl
theorem F123_sum (l:List Value) (h:AH):E.sum 123 l h=none:=by kernel_rfl
theorem F123_flat {s:Bool} {v0 v1 v2:Value} {h:AH} {v:Value} (hok:h.ok) (hv:zm v=true) (H:P123_0 s (KR E [.tmp 6] (fun x k=>x=v/\h.next<=k.wm)) v0 v1 v2 h.fresh):(zV E).call 123 [v0,v1,v2] h=some [(v,h)]:=
 zk (s:=s) hok F123_get F123_body (F123_sum _ _) (by kernel_rfl) hv (F123_ev (Rp:=fun x k=>x=v/\h.next<=k.wm) H)
noncomputable def B124:Code:=zT Tryz.f124
noncomputable def C124 (s:Bool):Cx:=⟨E,s,none,B124,[([0],[0,1]),([1,0,0],[2,3]),([1,0,1,0,0,0],[2,3,11]),([1,0,1,0,0,1,1,0,0],[2,3,11]),([1,0,1,0,0,1,1,0,1,0],[2,3,5,11]),([1,0,1,0,0,1,1,0,1,1,0,0,0],[2,3,5,11,25,26,27]),([1,0,1,0,0,1,1,0,1,1,0,0,1,1,0,0,0],[2,3,5,11,25,26,27]),([1,0,1,0,0,1,1,0,1,1,0,0,1,1,0,0,1,0],[2,3,5,7,11,25,26,27]),([1,0,1,0,0,1,1,0,1,1,0,0,1,1,0,0,1,1,0,0],[]),([1,0,1,0,0,1,1,0,1,1,0,0,1,1,1],[2,3,5,11,25,26,27]),([1,1,0],[])],[4],[]⟩
def P124_0 (s:Bool) (K:KF) (v0 v1:Value) (h:AH):Prop:=PI (C124 s) K 0 [v0,v1] h
def P124_1 (s:Bool) (K:KF) (v2 v3:Value) (h:AH):Prop:=PI (C124 s) K 1 [v2,v3] h
def P124_2 (s:Bool) (K:KF) (v2 v3 v11:Value) (h:AH):Prop:=PI (C124 s) K 2 [v2,v3,v11] h
def P124_3 (s:Bool) (K:KF) (v2 v3 v11:Value) (h:AH):Prop:=PI (C124 s) K 3 [v2,v3,v11] h
def P124_4 (s:Bool) (K:KF) (v2 v3 v5 v11:Value) (h:AH):Prop:=PI (C124 s) K 4 [v2,v3,v5,v11] h
def P124_5 (s:Bool) (K:KF) (v2 v3 v5 v11 v25 v26 v27:Value) (h:AH):Prop:=PI (C124 s) K 5 [v2,v3,v5,v11,v25,v26,v27] h
def P124_6 (s:Bool) (K:KF) (v2 v3 v5 v11 v25 v26 v27:Value) (h:AH):Prop:=PI (C124 s) K 6 [v2,v3,v5,v11,v25,v26,v27] h
def P124_7 (s:Bool) (K:KF) (v2 v3 v5 v7 v11 v25 v26 v27:Value) (h:AH):Prop:=PI (C124 s) K 7 [v2,v3,v5,v7,v11,v25,v26,v27] h
def P124_8 (s:Bool) (K:KF) (h:AH):Prop:=PI (C124 s) K 8 [] h
def P124_9 (s:Bool) (K:KF) (v2 v3 v5 v11 v25 v26 v27:Value) (h:AH):Prop:=PI (C124 s) K 9 [v2,v3,v5,v11,v25,v26,v27] h
def P124_10 (s:Bool) (K:KF) (h:AH):Prop:=PI (C124 s) K 10 [] h
theorem P124_0_of (H :
 Ev s (zU 178 h (some v0)) fun x0=>
 Ev s (zU 112 x0.2 (some v1)) fun x1=>
 EvO (α:=Value) (some (.bool false)) fun x2=>
 P124_1 s K x0.1 x1.1 x1.2):P124_0 s K v0 v1 h:=zB H
theorem P124_1_of (H :
 EvO (zC E 178 0 (some v2)) fun x0=>
 EvO (zC E 176 2 (some x0)) fun x1=>
 EvO (zG E 174 h (some x1)) fun x2=>
 Ev s (wRange (some x2) h) fun x3=>
 P124_2 s K v2 v3 x3.1 x3.2):P124_1 s K v2 v3 h:=zB H
theorem P124_2_of (H :
 Ev s (wNext false (some v11) h) fun x0=>
 EvO (zAH 0 (some x0.1)) fun x1=>
 BrK (some x1) (P124_3 s K v2 v3 v11 x0.2) (P124_10 s K  x0.2)):P124_2 s K v2 v3 v11 h:=zB H
theorem P124_3_of (H :
 EvO (rEntry (some v11) h) fun x0=>
 EvO (zAH 0 (some x0)) fun x1=>
 Ev s (zU 54 h (zAC E 54)) fun x2=>
 Ev s (zu E 54 x2.2 (some x2.1) (some x1)) fun x3=>
 P124_4 s K v2 v3 x2.1 v11 x3.2):P124_3 s K v2 v3 v11 h:=zB H
theorem P124_4_of (H :
 EvO (zC E 178 0 (some v2)) fun x0=>
 EvO (zC E 176 0 (some x0)) fun x1=>
 EvO (zG E 128 h (some x1)) fun x2=>
 EvO (zAB (some x2)) fun x3=>
 EvO (zC E 131 0 (some x3)) fun x4=>
 EvO (zG E 129 h (some x4)) fun x5=>
 EvO (zH E 54 (some v5) (some (.int .i64 0))) fun x6=>
 EvO (zG E 3 h (some x6)) fun x7=>
 EvO (zH E 129 (some x5) (some x7)) fun x8=>
 EvO (zG E 132 h (some x8)) fun x9=>
 EvO (zN E (zj [(25,x9)]) (zy B124 [1,0,1,0,0,1,1,0,1,0] 10) h) fun x10=>
 EvO (α:=Value) (some (.int .i64 0)) fun x11=>
 P124_5 s K v2 v3 v5 v11 x9 x10 x11 h):P124_4 s K v2 v3 v5 v11 h:=zB H
theorem len124_4_10:zN E (zj [(25,.slice a n c)]) (zy B124 [1,0,1,0,0,1,1,0,1,0] 10) h=some (.int .i64 (n:Int)):=by cases a <;> kernel_rfl
theorem P124_5_of (H :
 EvO (zE E .lss 3 v27 v26) fun x0=>
 BrK (some x0) (P124_6 s K v2 v3 v5 v11 v25 v26 v27 h) (P124_2 s K v2 v3 v11 h)):P124_5 s K v2 v3 v5 v11 v25 v26 v27 h:=zB H
theorem P124_6_of (H :
 EvO (zH E 132 (some v25) (some v27)) fun x0=>
 EvO (zG E 134 h (some x0)) fun x1=>
 Ev s (zU 134 h (zAC E 134)) fun x2=>
 Ev s (zu E 134 x2.2 (some x2.1) (some x1)) fun x3=>
 P124_7 s K v2 v3 v5 x2.1 v11 v25 v26 v27 x3.2):P124_6 s K v2 v3 v5 v11 v25 v26 v27 h:=zB H
theorem P124_7_of (H :
 EvO (zC E 112 0 (some v3)) fun x0=>
 EvO (zG E 109 h (some x0)) fun x1=>
 EvO (zG E 178 h (some v2)) fun x2=>
 EvO (zH E 54 (some v5) (some (.int .i64 0))) fun x3=>
 EvO (zG E 3 h (some x3)) fun x4=>
 EvO (zH E 54 (some v5) (some (.int .i64 1))) fun x5=>
 EvO (zG E 3 h (some x5)) fun x6=>
 EvO (zG E 134 h (some v7)) fun x7=>
 Ev s (za (zV E) (some x1) (some [x2,x4,x6,x7]) h) fun x8=>
 EvO (zAf .not x8.1) fun x9=>
 BrK (some x9) (P124_8 s K  x8.2) (P124_9 s K v2 v3 v5 v11 v25 v26 v27 x8.2)):P124_7 s K v2 v3 v5 v7 v11 v25 v26 v27 h:=zB H
theorem P124_8_of (H :
 EvO (α:=Value) (some (.bool false)) fun x0=>
 K .ret [x0] h):P124_8 s K h:=zB H
theorem P124_9_of (H :
 EvO (zE E .add 3 v27 (.int .i64 1)) fun x0=>
 EvO (some x0) fun x1=>
 P124_5 s K v2 v3 v5 v11 v25 v26 x1 h):P124_9 s K v2 v3 v5 v11 v25 v26 v27 h:=zB H
theorem P124_10_of (H :
 EvO (α:=Value) (some (.bool true)) fun x0=>
 K .ret [x0] h):P124_10 s K h:=zB H
theorem F124_ev {s:Bool} {v0 v1:Value} {h:AH} {Rp:Value->AH->Prop} (H:P124_0 s (KR E [.tmp 4] Rp) v0 v1 h) :
 Ev s (R.andThen (evC E (zV E) none (zT Tryz.f124) ⟨⟨Tryz.f124.ntmps,zw [v0,v1] 0 .e⟩,h,[]⟩) (zc E Tryz.f124)) fun x=>Rp x.1 x.2:=
 zf (C:=C124 s) rfl rfl ⟨rfl,rfl,by kernel_rfl,rfl⟩ (by kernel_rfl) (by kernel_rfl) ((by kernel_rfl:z5 (C124 s) (KR E Tryz.f124.results.toList Rp) 30 (rs B124 60 (.at [])) (zj (zAw 0 [v0,v1])) h=(P124_0 s (KR E [.tmp 4] Rp) v0 v1 h)).mpr H)
theorem F124_get:E.tab.fn.get 124=some Tryz.f124:=by kernel_rfl
theorem F124_body:Tryz.f124.body=some B124:=by kernel_rfl
theorem F124_sum (l:List Value) (h:AH):E.sum 124 l h=none:=by kernel_rfl
theorem F124_flat {s:Bool} {v0 v1:Value} {h:AH} {v:Value} (hok:h.ok) (hv:zm v=true) (H:P124_0 s (KR E [.tmp 4] (fun x k=>x=v/\h.next<=k.wm)) v0 v1 h.fresh):(zV E).call 124 [v0,v1] h=some [(v,h)]:=
 zk (s:=s) hok F124_get F124_body (F124_sum _ _) (by kernel_rfl) hv (F124_ev (Rp:=fun x k=>x=v/\h.next<=k.wm) H)
noncomputable def B125:Code:=zT Tryz.f125
noncomputable def C125 (s:Bool):Cx:=⟨E,s,none,B125,[([0],[0]),([1,0],[1,2]),([1,1,0,0],[1,2,3]),([1,1,0,1,0,0,0],[2,3,13]),([1,1,0,1,0,0,1,1,0,0],[2,3,13]),([1,1,0,1,0,0,1,1,0,1],[2,3,4,13]),([1,1,1,0],[2,3])],[2],[]⟩
def P125_0 (s:Bool) (K:KF) (v0:Value) (h:AH):Prop:=PI (C125 s) K 0 [v0] h
def P125_1 (s:Bool) (K:KF) (v1 v2:Value) (h:AH):Prop:=PI (C125 s) K 1 [v1,v2] h
def P125_2 (s:Bool) (K:KF) (v1 v2 v3:Value) (h:AH):Prop:=PI (C125 s) K 2 [v1,v2,v3] h
def P125_3 (s:Bool) (K:KF) (v2 v3 v13:Value) (h:AH):Prop:=PI (C125 s) K 3 [v2,v3,v13] h
def P125_4 (s:Bool) (K:KF) (v2 v3 v13:Value) (h:AH):Prop:=PI (C125 s) K 4 [v2,v3,v13] h
def P125_5 (s:Bool) (K:KF) (v2 v3 v4 v13:Value) (h:AH):Prop:=PI (C125 s) K 5 [v2,v3,v4,v13] h
def P125_6 (s:Bool) (K:KF) (v2 v3:Value) (h:AH):Prop:=PI (C125 s) K 6 [v2,v3] h
def Q125_0 (s:Bool) (K:KF) (v0:Value) (h:AH):Prop:=
 Ev s (zU 176 h (some v0)) fun x0=>
 Ev s (zU 176 x0.2 (zAC E 176)) fun x1=>
 P125_1 s K x0.1 x1.1 x1.2
theorem P125_0_of (H:Q125_0 s K v0 h):P125_0 s K v0 h:=zB H
def Q125_1 (s:Bool) (K:KF) (v1 v2:Value) (h:AH):Prop:=
 EvO (zC E 176 1 (some v1)) fun x0=>
 EvO (zG E 128 h (some x0)) fun x1=>
 EvO (zC E 176 0 (some v1)) fun x2=>
 EvO (zG E 128 h (some x2)) fun x3=>
 Ev s (one (.map (some (h).next),(h).new (.map [] 0))) fun x4=>
 EvO (zAu E 176 (some [(0,x1),(1,x3),(2,x4.1)])) fun x5=>
 Ev s (zU 176 x4.2 (zAC E 176)) fun x6=>
 Ev s (zu E 176 x6.2 (some x6.1) (some x5)) fun x7=>
 P125_2 s K v1 v2 x6.1 x7.2
theorem P125_1_of (H:Q125_1 s K v1 v2 h):P125_1 s K v1 v2 h:=zB H
def Q125_2 (s:Bool) (K:KF) (v1 v2 v3:Value) (h:AH):Prop:=
 EvO (zC E 176 2 (some v1)) fun x0=>
 EvO (zG E 174 h (some x0)) fun x1=>
 Ev s (wRange (some x1) h) fun x2=>
 P125_3 s K v2 v3 x2.1 x2.2
theorem P125_2_of (H:Q125_2 s K v1 v2 v3 h):P125_2 s K v1 v2 v3 h:=zB H
def Q125_3 (s:Bool) (K:KF) (v2 v3 v13:Value) (h:AH):Prop:=
 Ev s (wNext false (some v13) h) fun x0=>
 EvO (zAH 0 (some x0.1)) fun x1=>
 BrK (some x1) (P125_4 s K v2 v3 v13 x0.2) (P125_6 s K v2 v3 x0.2)
theorem P125_3_of (H:Q125_3 s K v2 v3 v13 h):P125_3 s K v2 v3 v13 h:=zB H
def Q125_4 (s:Bool) (K:KF) (v2 v3 v13:Value) (h:AH):Prop:=
 EvO (rEntry (some v13) h) fun x0=>
 EvO (zAH 0 (some x0)) fun x1=>
 Ev s (zU 54 h (zAC E 54)) fun x2=>
 Ev s (zu E 54 x2.2 (some x2.1) (some x1)) fun x3=>
 P125_5 s K v2 v3 x2.1 v13 x3.2
theorem P125_4_of (H:Q125_4 s K v2 v3 v13 h):P125_4 s K v2 v3 v13 h:=zB H
def Q125_5 (s:Bool) (K:KF) (v2 v3 v4 v13:Value) (h:AH):Prop:=
 EvO (zC E 176 2 (some v3)) fun x0=>
 EvO (zG E 174 h (some x0)) fun x1=>
 EvO (zH E 54 (some v4) (some (.int .i64 1))) fun x2=>
 EvO (zG E 3 h (some x2)) fun x3=>
 EvO (zH E 54 (some v4) (some (.int .i64 0))) fun x4=>
 EvO (zG E 3 h (some x4)) fun x5=>
 EvO (zAu E 54 (some [(0,x3),(1,x5)])) fun x6=>
 Ev s (zAR E 174 (some x1) (some x6) (some (.bool true)) h) fun x7=>
 P125_3 s K v2 v3 v13 x7.2
theorem P125_5_of (H:Q125_5 s K v2 v3 v4 v13 h):P125_5 s K v2 v3 v4 v13 h:=zB H
def Q125_6 (s:Bool) (K:KF) (v2 v3:Value) (h:AH):Prop:=
 EvO (zG E 176 h (some v3)) fun x0=>
 Ev s (zu E 176 h (some v2) (some x0)) fun x1=>
 K .ret [v2] x1.2
theorem P125_6_of (H:Q125_6 s K v2 v3 h):P125_6 s K v2 v3 h:=zB H
theorem F125_ev {s:Bool} {v0:Value} {h:AH} {Rp:Value->AH->Prop} (H:P125_0 s (KR E [.cell 2 176] Rp) v0 h) :
 Ev s (R.andThen (evC E (zV E) none (zT Tryz.f125) ⟨⟨Tryz.f125.ntmps,zw [v0] 0 .e⟩,h,[]⟩) (zc E Tryz.f125)) fun x=>Rp x.1 x.2:=
 zf (C:=C125 s) rfl rfl ⟨rfl,rfl,by kernel_rfl,rfl⟩ (by kernel_rfl) (by kernel_rfl) ((by kernel_rfl:z5 (C125 s) (KR E Tryz.f125.results.toList Rp) 30 (rs B125 60 (.at [])) (zj (zAw 0 [v0])) h=(P125_0 s (KR E [.cell 2 176] Rp) v0 h)).mpr H)
theorem F125_get:E.tab.fn.get 125=some Tryz.f125:=by kernel_rfl
theorem F125_body:Tryz.f125.body=some B125:=by kernel_rfl
theorem F125_sum (l:List Value) (h:AH):E.sum 125 l h=none:=by kernel_rfl
noncomputable def B128:Code:=zT Tryz.f128
noncomputable def C128 (s:Bool):Cx:=⟨E,s,none,B128,[([0],[0,2,3]),([1,0],[2,4,7])],[8],[]⟩
def P128_0 (s:Bool) (K:KF) (v0 v2 v3:Value) (h:AH):Prop:=PI (C128 s) K 0 [v0,v2,v3] h
def P128_1 (s:Bool) (K:KF) (v2 v4 v7:Value) (h:AH):Prop:=PI (C128 s) K 1 [v2,v4,v7] h
theorem P128_0_of (H :
 Ev s (zU 178 h (some v0)) fun x0=>
 Ev s (zU 134 x0.2 (some v3)) fun x1=>
 EvO (α:=Value) (some (.bool false)) fun x2=>
 P128_1 s K v2 x0.1 x1.1 x1.2):P128_0 s K v0 v2 v3 h:=zB H
theorem P128_1_of (H :
 EvO (zC E 178 0 (some v4)) fun x0=>
 EvO (zC E 176 1 (some x0)) fun x1=>
 EvO (zG E 128 h (some x1)) fun x2=>
 EvO (zAB (some x2)) fun x3=>
 EvO (zC E 131 0 (some x3)) fun x4=>
 EvO (zG E 129 h (some x4)) fun x5=>
 EvO (some v2) fun x6=>
 EvO (zH E 129 (some x5) (some x6)) fun x7=>
 EvO (zG E 132 h (some x7)) fun x8=>
 EvO (zAp (.func 174) (some []) (some [v7,v4])) fun x9=>
 Ev s (za (zV E) (some (.func (.func 173) #[] #[])) (some [x8,x9]) h) fun x10=>
 EvO (some x10.1) fun x11=>
 K .ret [x11] x10.2):P128_1 s K v2 v4 v7 h:=zB H
theorem F128_ev {s:Bool} {v0 v1 v2 v3:Value} {h:AH} {Rp:Value->AH->Prop} (H:P128_0 s (KR E [.tmp 8] Rp) v0 v2 v3 h) :
 Ev s (R.andThen (evC E (zV E) none (zT Tryz.f128) ⟨⟨Tryz.f128.ntmps,zw [v0,v1,v2,v3] 0 .e⟩,h,[]⟩) (zc E Tryz.f128)) fun x=>Rp x.1 x.2:=
 zf (C:=C128 s) rfl rfl ⟨rfl,rfl,by kernel_rfl,rfl⟩ (by kernel_rfl) (by kernel_rfl) ((by kernel_rfl:z5 (C128 s) (KR E Tryz.f128.results.toList Rp) 30 (rs B128 60 (.at [])) (zj (zAw 0 [v0,v1,v2,v3])) h=(P128_0 s (KR E [.tmp 8] Rp) v0 v2 v3 h)).mpr H)
theorem F128_get:E.tab.fn.get 128=some Tryz.f128:=by kernel_rfl
theorem F128_body:Tryz.f128.body=some B128:=by kernel_rfl
theorem F128_sum (l:List Value) (h:AH):E.sum 128 l h=none:=by kernel_rfl
theorem F128_flat {s:Bool} {v0 v1 v2 v3:Value} {h:AH} {v:Value} (hok:h.ok) (hv:zm v=true) (H:P128_0 s (KR E [.tmp 8] (fun x k=>x=v/\h.next<=k.wm)) v0 v2 v3 h.fresh):(zV E).call 128 [v0,v1,v2,v3] h=some [(v,h)]:=
 zk (s:=s) hok F128_get F128_body (F128_sum _ _) (by kernel_rfl) hv (F128_ev (Rp:=fun x k=>x=v/\h.next<=k.wm) H)
noncomputable def B130:Code:=zT Tryz.f130
theorem F130_get:E.tab.fn.get 130=some Tryz.f130:=by kernel_rfl
theorem F130_body:Tryz.f130.body=some B130:=by kernel_rfl
theorem F130_sum (l:List Value) (h:AH):E.sum 130 l h=none:=by kernel_rfl
noncomputable def B143:Code:=zT Tryz.f143
noncomputable def C143 (s:Bool):Cx:=⟨E,s,none,B143,[([0],[0,1]),([1,0,0],[0,3]),([1,0,1,0,0],[]),([1,1,0],[0,3]),([1,1,1,0,0],[0,3,5,6]),([1,1,1,0,1,0],[0,3,5]),([1,1,1,1,0],[5])],[4],[]⟩
def P143_0 (s:Bool) (K:KF) (v0 v1:Value) (h:AH):Prop:=PI (C143 s) K 0 [v0,v1] h
def P143_1 (s:Bool) (K:KF) (v0 v3:Value) (h:AH):Prop:=PI (C143 s) K 1 [v0,v3] h
def P143_2 (s:Bool) (K:KF) (h:AH):Prop:=PI (C143 s) K 2 [] h
def P143_3 (s:Bool) (K:KF) (v0 v3:Value) (h:AH):Prop:=PI (C143 s) K 3 [v0,v3] h
def P143_4 (s:Bool) (K:KF) (v0 v3 v5 v6:Value) (h:AH):Prop:=PI (C143 s) K 4 [v0,v3,v5,v6] h
def P143_5 (s:Bool) (K:KF) (v0 v3 v5:Value) (h:AH):Prop:=PI (C143 s) K 5 [v0,v3,v5] h
def P143_6 (s:Bool) (K:KF) (v5:Value) (h:AH):Prop:=PI (C143 s) K 6 [v5] h
theorem P143_0_of (H :
 Ev s (zU 36 h (some v1)) fun x0=>
 EvO (α:=Value) (some (.int .i64 0)) fun x1=>
 P143_1 s K v0 x0.1 x0.2):P143_0 s K v0 v1 h:=zB H
theorem P143_1_of (H :
 EvO (zC E 36 0 (some v3)) fun x0=>
 EvO (zG E 3 h (some x0)) fun x1=>
 EvO (zE E .eql 3 x1 (.int .i64 (-1))) fun x2=>
 BrK (some x2) (P143_2 s K  h) (P143_3 s K v0 v3 h)):P143_1 s K v0 v3 h:=zB H
theorem P143_2_of (H :
 EvO (α:=Value) (some (.int .i64 0)) fun x0=>
 K .ret [x0] h):P143_2 s K h:=zB H
theorem P143_3_of (H :
 EvO (some v0) fun x0=>
 EvO (zAB (some x0)) fun x1=>
 EvO (zC E 197 0 (some x1)) fun x2=>
 EvO (zG E 22 h (some x2)) fun x3=>
 EvO (zG E 36 h (some v3)) fun x4=>
 Ev s (za (zV E) (some (.func (.func 190) #[] #[])) (some [x3,x4,(.func (.func 168) #[] #[])]) h) fun x5=>
 EvO (some x5.1) fun x6=>
 EvO (zAH 0 (some x6)) fun x7=>
 EvO (zAH 1 (some x6)) fun x8=>
 EvO (some x7) fun x9=>
 EvO (some x8) fun x10=>
 P143_4 s K v0 v3 x9 x10 x5.2):P143_3 s K v0 v3 h:=zB H
theorem P143_4_of (H :
 EvO (some v6) fun x0=>
 EvO (zAf .not x0) fun x1=>
 BrK (some x1) (P143_5 s K v0 v3 v5 h) (P143_6 s K v5 h)):P143_4 s K v0 v3 v5 v6 h:=zB H
theorem P143_5_of (H :
 EvO (some v0) fun x0=>
 EvO (some v0) fun x1=>
 EvO (zAB (some x1)) fun x2=>
 EvO (zC E 197 0 (some x2)) fun x3=>
 EvO (zG E 22 h (some x3)) fun x4=>
 EvO (some v5) fun x5=>
 EvO (zG E 36 h (some v3)) fun x6=>
 Ev s (zh E 22 1 (some [(0,x6)]) h) fun x7=>
 EvO (zG E 22 x7.2 (some x3)) fun u7_4=>veq 100 u7_4 x4=true ∧
 (Ev s (za (zV E) (some (.func (.func 191) #[] #[])) (some [x4,x5,x7.1]) x7.2) fun x8=>
 EvO (zAB (some x0)) fun x9=>
 EvO (zC E 197 0 (some x9)) fun x10=>
 Ev s (zu E 22 x8.2 (some x10) (some x8.1)) fun x11=>
 P143_6 s K v5 x11.2)):P143_5 s K v0 v3 v5 h:=zB H
theorem P143_6_of (H :
 EvO (some v5) fun x0=>
 EvO (zE E .add 3 x0 (.int .i64 1)) fun x1=>
 EvO (some x1) fun x2=>
 K .ret [x2] h):P143_6 s K v5 h:=zB H
theorem F143_ev {s:Bool} {v0 v1:Value} {h:AH} {Rp:Value->AH->Prop} (H:P143_0 s (KR E [.tmp 4] Rp) v0 v1 h) :
 Ev s (R.andThen (evC E (zV E) none (zT Tryz.f143) ⟨⟨Tryz.f143.ntmps,zw [v0,v1] 0 .e⟩,h,[]⟩) (zc E Tryz.f143)) fun x=>Rp x.1 x.2:=
 zf (C:=C143 s) rfl rfl ⟨rfl,rfl,by kernel_rfl,rfl⟩ (by kernel_rfl) (by kernel_rfl) ((by kernel_rfl:z5 (C143 s) (KR E Tryz.f143.results.toList Rp) 30 (rs B143 60 (.at [])) (zj (zAw 0 [v0,v1])) h=(P143_0 s (KR E [.tmp 4] Rp) v0 v1 h)).mpr H)
theorem F143_get:E.tab.fn.get 143=some Tryz.f143:=by kernel_rfl
theorem F143_body:Tryz.f143.body=some B143:=by kernel_rfl
theorem F143_sum (l:List Value) (h:AH):E.sum 143 l h=none:=by kernel_rfl
theorem F143_flat1 {v0 v1:Value} {h:AH} {v:Value} (hok:h.ok) (hv:zg v=true) (H:P143_0 true (KR E [.tmp 4] (fun x k=>x=v/\h.next<=k.wm)) v0 v1 h.fresh):(zV E).call 143 [v0,v1] h=some [(v,h)]:=
 zCx hok F143_get F143_body (F143_sum _ _) (by kernel_rfl) hv (F143_ev (Rp:=fun x k=>x=v/\h.next<=k.wm) H)
theorem F143_some {v0 v1:Value} {h:AH} {Rp:Value->AH->Prop} (H:P143_0 true (KR E [.tmp 4] (fun x k=>(zg x=false\/k.wm<h.next)/\Rp x ⟨k.t,k.next,cond (Nat.ble h.wm k.wm) h.wm k.wm⟩)) v0 v1 h.fresh):Ev true ((zV E).call 143 [v0,v1] h) fun x=>Rp x.1 x.2:=
 zBw F143_get F143_body (F143_sum _ _) (by kernel_rfl) (F143_ev (Rp:=fun x k=>(zg x=false\/k.wm<h.next)/\Rp x ⟨k.t,k.next,cond (Nat.ble h.wm k.wm) h.wm k.wm⟩) H)
noncomputable def B154:Code:=zT Tryz.f154
noncomputable def C154 (s:Bool):Cx:=⟨E,s,none,B154,[([0],[0]),([1,0],[0])],[2],[]⟩
def P154_0 (s:Bool) (K:KF) (v0:Value) (h:AH):Prop:=PI (C154 s) K 0 [v0] h
def P154_1 (s:Bool) (K:KF) (v0:Value) (h:AH):Prop:=PI (C154 s) K 1 [v0] h
theorem P154_0_of (H :
 EvO (α:=Value) (some (.bool false)) fun x0=>
 P154_1 s K v0 h):P154_0 s K v0 h:=zB H
theorem P154_1_of (H :
 EvO (some v0) fun x0=>
 EvO (some v0) fun x1=>
 EvO (zE E .neq 3 x0 x1) fun x2=>
 EvO (some x2) fun x3=>
 K .ret [x3] h):P154_1 s K v0 h:=zB H
theorem F154_ev {s:Bool} {v0:Value} {h:AH} {Rp:Value->AH->Prop} (H:P154_0 s (KR E [.tmp 2] Rp) v0 h) :
 Ev s (R.andThen (evC E (zV E) none (zT Tryz.f154) ⟨⟨Tryz.f154.ntmps,zw [v0] 0 .e⟩,h,[]⟩) (zc E Tryz.f154)) fun x=>Rp x.1 x.2:=
 zf (C:=C154 s) rfl rfl ⟨rfl,rfl,by kernel_rfl,rfl⟩ (by kernel_rfl) (by kernel_rfl) ((by kernel_rfl:z5 (C154 s) (KR E Tryz.f154.results.toList Rp) 30 (rs B154 60 (.at [])) (zj (zAw 0 [v0])) h=(P154_0 s (KR E [.tmp 2] Rp) v0 h)).mpr H)
theorem F154_get:E.tab.fn.get 154=some Tryz.f154:=by kernel_rfl
theorem F154_body:Tryz.f154.body=some B154:=by kernel_rfl
theorem F154_sum (l:List Value) (h:AH):E.sum 154 l h=none:=by kernel_rfl
theorem F154_flat {s:Bool} {v0:Value} {h:AH} {v:Value} (hok:h.ok) (hv:zm v=true) (H:P154_0 s (KR E [.tmp 2] (fun x k=>x=v/\h.next<=k.wm)) v0 h.fresh):(zV E).call 154 [v0] h=some [(v,h)]:=
 zk (s:=s) hok F154_get F154_body (F154_sum _ _) (by kernel_rfl) hv (F154_ev (Rp:=fun x k=>x=v/\h.next<=k.wm) H)
noncomputable def B167:Code:=zT Tryz.f167
noncomputable def C167 (s:Bool):Cx:=⟨E,s,none,B167,[([0],[0]),([1,0],[1]),([1,1,0,0],[1,3]),([1,1,0,1,0,0],[]),([1,1,1,0],[])],[2],[]⟩
def P167_0 (s:Bool) (K:KF) (v0:Value) (h:AH):Prop:=PI (C167 s) K 0 [v0] h
def P167_1 (s:Bool) (K:KF) (v1:Value) (h:AH):Prop:=PI (C167 s) K 1 [v1] h
def P167_2 (s:Bool) (K:KF) (v1 v3:Value) (h:AH):Prop:=PI (C167 s) K 2 [v1,v3] h
def P167_3 (s:Bool) (K:KF) (h:AH):Prop:=PI (C167 s) K 3 [] h
def P167_4 (s:Bool) (K:KF) (h:AH):Prop:=PI (C167 s) K 4 [] h
theorem P167_0_of (H :
 Ev s (zU 36 h (some v0)) fun x0=>
 EvO (α:=Value) (some (.int .i64 0)) fun x1=>
 P167_1 s K x0.1 x0.2):P167_0 s K v0 h:=zB H
theorem P167_1_of (H :
 EvO (zC E 36 0 (some v1)) fun x0=>
 EvO (zG E 3 h (some x0)) fun x1=>
 EvO (zE E .eql 3 x1 (.int .i64 (-3))) fun x2=>
 EvO (some x2) fun x3=>
 EvO (gdB x3 false (zC E 36 0 (some v1))) fun x4=>
 EvO (gdB x3 false (zG E 3 h (some x4))) fun x5=>
 EvO (gdB x3 false (zE E .eql 3 x5 (.int .i64 (-1)))) fun x6=>
 EvO (z9 (some x3) (some (.bool true)) (some x6)) fun x7=>
 EvO (some x7) fun x8=>
 P167_2 s K v1 x8 h):P167_1 s K v1 h:=zB H
theorem P167_2_of (H :
 EvO (zC E 36 0 (some v1)) fun x0=>
 EvO (zG E 3 h (some x0)) fun x1=>
 EvO (zE E .lss 3 x1 (.int .i64 (-3))) fun x2=>
 EvO (some x2) fun x3=>
 EvO (gdB x3 false (zC E 36 0 (some v1))) fun x4=>
 EvO (gdB x3 false (zG E 3 h (some x4))) fun x5=>
 EvO (gdB x3 false (zE E .geq 3 x5 (.int .i64 32))) fun x6=>
 EvO (z9 (some x3) (some (.bool true)) (some x6)) fun x7=>
 EvO (some x7) fun x8=>
 EvO (gdB x8 false (zC E 36 1 (some v1))) fun x9=>
 EvO (gdB x8 false (zG E 34 h (some x9))) fun x10=>
 EvO (gdB x8 false (zN E (zj [(22,x10)]) (zy B167 [1,1,0,0] 11) h)) fun x11=>
 EvO (gdB x8 false (zE E .gtr 3 x11 (.int .i64 8))) fun x12=>
 EvO (z9 (some x8) (some (.bool true)) (some x12)) fun x13=>
 EvO (some x13) fun x14=>
 EvO (gdB x14 false (some v3)) fun x15=>
 EvO (gdB x14 false (some x15)) fun x16=>
 EvO (gdB x16 true (zC E 36 1 (some v1))) fun x17=>
 EvO (gdB x16 true (zG E 34 h (some x17))) fun x18=>
 EvO (gdB x16 true (zN E (zj [(30,x18)]) (zy B167 [1,1,0,0] 19) h)) fun x19=>
 EvO (gdB x16 true (zE E .gtr 3 x19 (.int .i64 0))) fun x20=>
 EvO (gdB x14 false (z9 (some x16) (some x20) (some (.bool false)))) fun x21=>
 EvO (z9 (some x14) (some (.bool true)) (some x21)) fun x22=>
 EvO (some x22) fun x23=>
 EvO (gdB x23 false (zC E 36 1 (some v1))) fun x24=>
 EvO (gdB x23 false (zG E 34 h (some x24))) fun x25=>
 Ev s (gdW x23 false (za (zV E) (some (.func (.func 215) #[] #[])) (some [x25,(.func (.func 216) #[] #[])]) h) h) fun x26=>
 EvO (z9 (some x23) (some (.bool true)) (some x26.1)) fun x27=>
 BrK (some x27) (P167_3 s K  x26.2) (P167_4 s K  x26.2)):P167_2 s K v1 v3 h:=zB H
theorem zC8:zN E (zj [(22,.slice a n c)]) (zy B167 [1,1,0,0] 11) h=some (.int .i64 (n:Int)):=by cases a <;> kernel_rfl
theorem len167_2_19:zN E (zj [(30,.slice a n c)]) (zy B167 [1,1,0,0] 19) h=some (.int .i64 (n:Int)):=by cases a <;> kernel_rfl
theorem P167_3_of (H :
 EvO (α:=Value) (some (.int .i64 170)) fun x0=>
 K .ret [x0] h):P167_3 s K h:=zB H
theorem P167_4_of (H :
 EvO (α:=Value) (some (.int .i64 0)) fun x0=>
 K .ret [x0] h):P167_4 s K h:=zB H
theorem F167_ev {s:Bool} {v0:Value} {h:AH} {Rp:Value->AH->Prop} (H:P167_0 s (KR E [.tmp 2] Rp) v0 h) :
 Ev s (R.andThen (evC E (zV E) none (zT Tryz.f167) ⟨⟨Tryz.f167.ntmps,zw [v0] 0 .e⟩,h,[]⟩) (zc E Tryz.f167)) fun x=>Rp x.1 x.2:=
 zf (C:=C167 s) rfl rfl ⟨rfl,rfl,by kernel_rfl,rfl⟩ (by kernel_rfl) (by kernel_rfl) ((by kernel_rfl:z5 (C167 s) (KR E Tryz.f167.results.toList Rp) 30 (rs B167 60 (.at [])) (zj (zAw 0 [v0])) h=(P167_0 s (KR E [.tmp 2] Rp) v0 h)).mpr H)
theorem F167_get:E.tab.fn.get 167=some Tryz.f167:=by kernel_rfl
theorem F167_body:Tryz.f167.body=some B167:=by kernel_rfl
theorem F167_sum (l:List Value) (h:AH):E.sum 167 l h=none:=by kernel_rfl
theorem F167_flat {s:Bool} {v0:Value} {h:AH} {v:Value} (hok:h.ok) (hv:zm v=true) (H:P167_0 s (KR E [.tmp 2] (fun x k=>x=v/\h.next<=k.wm)) v0 h.fresh):(zV E).call 167 [v0] h=some [(v,h)]:=
 zk (s:=s) hok F167_get F167_body (F167_sum _ _) (by kernel_rfl) hv (F167_ev (Rp:=fun x k=>x=v/\h.next<=k.wm) H)
noncomputable def B168:Code:=zT Tryz.f168
noncomputable def C168 (s:Bool):Cx:=⟨E,s,none,B168,[([0],[0,1]),([1,0],[2,3])],[4],[]⟩
def P168_0 (s:Bool) (K:KF) (v0 v1:Value) (h:AH):Prop:=PI (C168 s) K 0 [v0,v1] h
def P168_1 (s:Bool) (K:KF) (v2 v3:Value) (h:AH):Prop:=PI (C168 s) K 1 [v2,v3] h
theorem P168_0_of (H :
 Ev s (zU 36 h (some v0)) fun x0=>
 Ev s (zU 36 x0.2 (some v1)) fun x1=>
 EvO (α:=Value) (some (.int .i64 0)) fun x2=>
 P168_1 s K x0.1 x1.1 x1.2):P168_0 s K v0 v1 h:=zB H
theorem P168_1_of (H :
 EvO (zC E 36 0 (some v2)) fun x0=>
 EvO (zG E 3 h (some x0)) fun x1=>
 EvO (zC E 36 0 (some v3)) fun x2=>
 EvO (zG E 3 h (some x2)) fun x3=>
 EvO (zC E 36 1 (some v2)) fun x5=>
 EvO (zG E 34 h (some x5)) fun x6=>
 EvO (zC E 36 1 (some v3)) fun x7=>
 EvO (zG E 34 h (some x7)) fun x8=>
 Ev s (za (zV E) (some (.func (.func 94) #[] #[])) (some [x1,x3]) h) fun x4=>
 EvO (zG E 34 x4.2 (some x7)) fun u4_8=>veq 100 u4_8 x8=true ∧
 (EvO (zG E 34 x4.2 (some x5)) fun u4_6=>veq 100 u4_6 x6=true ∧
 (Ev s (za (zV E) (some (.func (.func 218) #[] #[])) (some [x6,x8,(.func (.func 219) #[] #[])]) x4.2) fun x9=>
 Ev s (zh E 47 2 (some [(0,x4.1),(1,x9.1)]) x9.2) fun x10=>
 Ev s (za (zV E) (some (.func (.func 171) #[] #[])) (some [x10.1]) x10.2) fun x11=>
 EvO (some x11.1) fun x12=>
 K .ret [x12] x11.2))):P168_1 s K v2 v3 h:=zB H
theorem F168_ev {s:Bool} {v0 v1:Value} {h:AH} {Rp:Value->AH->Prop} (H:P168_0 s (KR E [.tmp 4] Rp) v0 v1 h) :
 Ev s (R.andThen (evC E (zV E) none (zT Tryz.f168) ⟨⟨Tryz.f168.ntmps,zw [v0,v1] 0 .e⟩,h,[]⟩) (zc E Tryz.f168)) fun x=>Rp x.1 x.2:=
 zf (C:=C168 s) rfl rfl ⟨rfl,rfl,by kernel_rfl,rfl⟩ (by kernel_rfl) (by kernel_rfl) ((by kernel_rfl:z5 (C168 s) (KR E Tryz.f168.results.toList Rp) 30 (rs B168 60 (.at [])) (zj (zAw 0 [v0,v1])) h=(P168_0 s (KR E [.tmp 4] Rp) v0 v1 h)).mpr H)
theorem F168_get:E.tab.fn.get 168=some Tryz.f168:=by kernel_rfl
theorem F168_body:Tryz.f168.body=some B168:=by kernel_rfl
theorem F168_sum (l:List Value) (h:AH):E.sum 168 l h=none:=by kernel_rfl
theorem F168_flat {s:Bool} {v0 v1:Value} {h:AH} {v:Value} (hok:h.ok) (hv:zm v=true) (H:P168_0 s (KR E [.tmp 4] (fun x k=>x=v/\h.next<=k.wm)) v0 v1 h.fresh):(zV E).call 168 [v0,v1] h=some [(v,h)]:=
 zk (s:=s) hok F168_get F168_body (F168_sum _ _) (by kernel_rfl) hv (F168_ev (Rp:=fun x k=>x=v/\h.next<=k.wm) H)
noncomputable def B169:Code:=zT Tryz.f169
noncomputable def C169 (s:Bool):Cx:=⟨E,s,none,B169,[([0],[0,1]),([1,0],[0,1])],[4],[]⟩
def P169_0 (s:Bool) (K:KF) (v0 v1:Value) (h:AH):Prop:=PI (C169 s) K 0 [v0,v1] h
def P169_1 (s:Bool) (K:KF) (v0 v1:Value) (h:AH):Prop:=PI (C169 s) K 1 [v0,v1] h
theorem P169_0_of (H :
 EvO (α:=Value) (some (.bool false)) fun x0=>
 P169_1 s K v0 v1 h):P169_0 s K v0 v1 h:=zB H
theorem P169_1_of (H :
 EvO (some v0) fun x0=>
 EvO (zE E .geq 3 x0 (.int .i64 0)) fun x1=>
 EvO (some x1) fun x2=>
 EvO (gdB x2 true (some v0)) fun x3=>
 EvO (gdB x2 true (some v1)) fun x4=>
 EvO (gdB x2 true (zE E .lss 3 x3 x4)) fun x5=>
 EvO (z9 (some x2) (some x5) (some (.bool false))) fun x6=>
 EvO (some x6) fun x7=>
 K .ret [x7] h):P169_1 s K v0 v1 h:=zB H
theorem F169_ev {s:Bool} {v0 v1:Value} {h:AH} {Rp:Value->AH->Prop} (H:P169_0 s (KR E [.tmp 4] Rp) v0 v1 h) :
 Ev s (R.andThen (evC E (zV E) none (zT Tryz.f169) ⟨⟨Tryz.f169.ntmps,zw [v0,v1] 0 .e⟩,h,[]⟩) (zc E Tryz.f169)) fun x=>Rp x.1 x.2:=
 zf (C:=C169 s) rfl rfl ⟨rfl,rfl,by kernel_rfl,rfl⟩ (by kernel_rfl) (by kernel_rfl) ((by kernel_rfl:z5 (C169 s) (KR E Tryz.f169.results.toList Rp) 30 (rs B169 60 (.at [])) (zj (zAw 0 [v0,v1])) h=(P169_0 s (KR E [.tmp 4] Rp) v0 v1 h)).mpr H)
theorem F169_get:E.tab.fn.get 169=some Tryz.f169:=by kernel_rfl
theorem F169_body:Tryz.f169.body=some B169:=by kernel_rfl
theorem F169_sum (l:List Value) (h:AH):E.sum 169 l h=none:=by kernel_rfl
theorem F169_flat {s:Bool} {v0 v1:Value} {h:AH} {v:Value} (hok:h.ok) (hv:zm v=true) (H:P169_0 s (KR E [.tmp 4] (fun x k=>x=v/\h.next<=k.wm)) v0 v1 h.fresh):(zV E).call 169 [v0,v1] h=some [(v,h)]:=
 zk (s:=s) hok F169_get F169_body (F169_sum _ _) (by kernel_rfl) hv (F169_ev (Rp:=fun x k=>x=v/\h.next<=k.wm) H)
noncomputable def B170:Code:=zT Tryz.f170
noncomputable def C170 (s:Bool):Cx:=⟨E,s,none,B170,[([0],[0,1]),([1,0],[2,3])],[4],[]⟩
def P170_0 (s:Bool) (K:KF) (v0 v1:Value) (h:AH):Prop:=PI (C170 s) K 0 [v0,v1] h
def P170_1 (s:Bool) (K:KF) (v2 v3:Value) (h:AH):Prop:=PI (C170 s) K 1 [v2,v3] h
theorem P170_0_of (H :
 Ev s (zU 52 h (some v0)) fun x0=>
 Ev s (zU 52 x0.2 (some v1)) fun x1=>
 EvO (α:=Value) (some (.int .i64 0)) fun x2=>
 P170_1 s K x0.1 x1.1 x1.2):P170_0 s K v0 v1 h:=zB H
theorem P170_1_of (H :
 EvO (zC E 52 0 (some v2)) fun x0=>
 EvO (zG E 3 h (some x0)) fun x1=>
 EvO (zC E 52 0 (some v3)) fun x2=>
 EvO (zG E 3 h (some x2)) fun x3=>
 EvO (zC E 52 1 (some v2)) fun x5=>
 EvO (zG E 3 h (some x5)) fun x6=>
 EvO (zC E 52 1 (some v3)) fun x7=>
 EvO (zG E 3 h (some x7)) fun x8=>
 EvO (zC E 52 2 (some v2)) fun x10=>
 EvO (zG E 3 h (some x10)) fun x11=>
 EvO (zC E 52 2 (some v3)) fun x12=>
 EvO (zG E 3 h (some x12)) fun x13=>
 Ev s (za (zV E) (some (.func (.func 94) #[] #[])) (some [x1,x3]) h) fun x4=>
 EvO (zG E 3 x4.2 (some x12)) fun u4_13=>veq 100 u4_13 x13=true ∧
 (EvO (zG E 3 x4.2 (some x10)) fun u4_11=>veq 100 u4_11 x11=true ∧
 (EvO (zG E 3 x4.2 (some x7)) fun u4_8=>veq 100 u4_8 x8=true ∧
 (EvO (zG E 3 x4.2 (some x5)) fun u4_6=>veq 100 u4_6 x6=true ∧
 (Ev s (za (zV E) (some (.func (.func 94) #[] #[])) (some [x6,x8]) x4.2) fun x9=>
 EvO (zG E 3 x9.2 (some x12)) fun u9_13=>veq 100 u9_13 x13=true ∧
 (EvO (zG E 3 x9.2 (some x10)) fun u9_11=>veq 100 u9_11 x11=true ∧
 (Ev s (za (zV E) (some (.func (.func 94) #[] #[])) (some [x11,x13]) x9.2) fun x14=>
 Ev s (zh E 47 3 (some [(0,x4.1),(1,x9.1),(2,x14.1)]) x14.2) fun x15=>
 Ev s (za (zV E) (some (.func (.func 171) #[] #[])) (some [x15.1]) x15.2) fun x16=>
 EvO (some x16.1) fun x17=>
 K .ret [x17] x16.2))))))):P170_1 s K v2 v3 h:=zB H
theorem F170_ev {s:Bool} {v0 v1:Value} {h:AH} {Rp:Value->AH->Prop} (H:P170_0 s (KR E [.tmp 4] Rp) v0 v1 h) :
 Ev s (R.andThen (evC E (zV E) none (zT Tryz.f170) ⟨⟨Tryz.f170.ntmps,zw [v0,v1] 0 .e⟩,h,[]⟩) (zc E Tryz.f170)) fun x=>Rp x.1 x.2:=
 zf (C:=C170 s) rfl rfl ⟨rfl,rfl,by kernel_rfl,rfl⟩ (by kernel_rfl) (by kernel_rfl) ((by kernel_rfl:z5 (C170 s) (KR E Tryz.f170.results.toList Rp) 30 (rs B170 60 (.at [])) (zj (zAw 0 [v0,v1])) h=(P170_0 s (KR E [.tmp 4] Rp) v0 v1 h)).mpr H)
theorem F170_get:E.tab.fn.get 170=some Tryz.f170:=by kernel_rfl
theorem F170_body:Tryz.f170.body=some B170:=by kernel_rfl
theorem F170_sum (l:List Value) (h:AH):E.sum 170 l h=none:=by kernel_rfl
theorem F170_flat {s:Bool} {v0 v1:Value} {h:AH} {v:Value} (hok:h.ok) (hv:zm v=true) (H:P170_0 s (KR E [.tmp 4] (fun x k=>x=v/\h.next<=k.wm)) v0 v1 h.fresh):(zV E).call 170 [v0,v1] h=some [(v,h)]:=
 zk (s:=s) hok F170_get F170_body (F170_sum _ _) (by kernel_rfl) hv (F170_ev (Rp:=fun x k=>x=v/\h.next<=k.wm) H)
noncomputable def B171:Code:=zT Tryz.f171
noncomputable def C171 (s:Bool):Cx:=⟨E,s,none,B171,[([0],[0]),([1,0],[0]),([1,1,0,0],[0,3]),([1,1,0,1,0,0,0],[3,6,7,8]),([1,1,0,1,0,0,1,1,0,0,0],[3,6,7,8]),([1,1,0,1,0,0,1,1,0,0,1,0],[3,5,6,7,8]),([1,1,0,1,0,0,1,1,0,0,1,1,0,0],[5]),([1,1,0,1,0,0,1,1,1],[3,6,7,8]),([1,1,1,0],[3])],[2],[]⟩
def P171_0 (s:Bool) (K:KF) (v0:Value) (h:AH):Prop:=PI (C171 s) K 0 [v0] h
def P171_1 (s:Bool) (K:KF) (v0:Value) (h:AH):Prop:=PI (C171 s) K 1 [v0] h
def P171_2 (s:Bool) (K:KF) (v0 v3:Value) (h:AH):Prop:=PI (C171 s) K 2 [v0,v3] h
def P171_3 (s:Bool) (K:KF) (v3 v6 v7 v8:Value) (h:AH):Prop:=PI (C171 s) K 3 [v3,v6,v7,v8] h
def P171_4 (s:Bool) (K:KF) (v3 v6 v7 v8:Value) (h:AH):Prop:=PI (C171 s) K 4 [v3,v6,v7,v8] h
def P171_5 (s:Bool) (K:KF) (v3 v5 v6 v7 v8:Value) (h:AH):Prop:=PI (C171 s) K 5 [v3,v5,v6,v7,v8] h
def P171_6 (s:Bool) (K:KF) (v5:Value) (h:AH):Prop:=PI (C171 s) K 6 [v5] h
def P171_7 (s:Bool) (K:KF) (v3 v6 v7 v8:Value) (h:AH):Prop:=PI (C171 s) K 7 [v3,v6,v7,v8] h
def P171_8 (s:Bool) (K:KF) (v3:Value) (h:AH):Prop:=PI (C171 s) K 8 [v3] h
theorem P171_0_of (H :
 EvO (α:=Value) (some (.int .i64 0)) fun x0=>
 P171_1 s K v0 h):P171_0 s K v0 h:=zB H
theorem P171_1_of (H :
 EvO (α:=Value) (some (.int .i64 0)) fun x0=>
 P171_2 s K v0 x0 h):P171_1 s K v0 h:=zB H
theorem P171_2_of (H :
 EvO (some v0) fun x0=>
 EvO (zN E (zj [(6,x0)]) (zy B171 [1,1,0,0] 1) h) fun x1=>
 EvO (α:=Value) (some (.int .i64 0)) fun x2=>
 P171_3 s K v3 x0 x1 x2 h):P171_2 s K v0 v3 h:=zB H
theorem len171_2_1:zN E (zj [(6,.slice a n c)]) (zy B171 [1,1,0,0] 1) h=some (.int .i64 (n:Int)):=by cases a <;> kernel_rfl
theorem P171_3_of (H :
 EvO (zE E .lss 3 v8 v7) fun x0=>
 BrK (some x0) (P171_4 s K v3 v6 v7 v8 h) (P171_8 s K v3 h)):P171_3 s K v3 v6 v7 v8 h:=zB H
theorem P171_4_of (H :
 EvO (zH E 47 (some v6) (some v8)) fun x0=>
 EvO (zG E 3 h (some x0)) fun x1=>
 EvO (some x1) fun x2=>
 P171_5 s K v3 x2 v6 v7 v8 h):P171_4 s K v3 v6 v7 v8 h:=zB H
theorem P171_5_of (H :
 EvO (some v5) fun x0=>
 EvO (some v3) fun x1=>
 EvO (zE E .neq 3 x0 x1) fun x2=>
 BrK (some x2) (P171_6 s K v5 h) (P171_7 s K v3 v6 v7 v8 h)):P171_5 s K v3 v5 v6 v7 v8 h:=zB H
theorem P171_6_of (H :
 EvO (some v5) fun x0=>
 EvO (some x0) fun x1=>
 K .ret [x1] h):P171_6 s K v5 h:=zB H
theorem P171_7_of (H :
 EvO (zE E .add 3 v8 (.int .i64 1)) fun x0=>
 EvO (some x0) fun x1=>
 P171_3 s K v3 v6 v7 x1 h):P171_7 s K v3 v6 v7 v8 h:=zB H
theorem P171_8_of (H :
 EvO (some v3) fun x0=>
 EvO (some x0) fun x1=>
 K .ret [x1] h):P171_8 s K v3 h:=zB H
theorem F171_ev {s:Bool} {v0:Value} {h:AH} {Rp:Value->AH->Prop} (H:P171_0 s (KR E [.tmp 2] Rp) v0 h) :
 Ev s (R.andThen (evC E (zV E) none (zT Tryz.f171) ⟨⟨Tryz.f171.ntmps,zw [v0] 0 .e⟩,h,[]⟩) (zc E Tryz.f171)) fun x=>Rp x.1 x.2:=
 zf (C:=C171 s) rfl rfl ⟨rfl,rfl,by kernel_rfl,rfl⟩ (by kernel_rfl) (by kernel_rfl) ((by kernel_rfl:z5 (C171 s) (KR E Tryz.f171.results.toList Rp) 30 (rs B171 60 (.at [])) (zj (zAw 0 [v0])) h=(P171_0 s (KR E [.tmp 2] Rp) v0 h)).mpr H)
theorem F171_get:E.tab.fn.get 171=some Tryz.f171:=by kernel_rfl
theorem F171_body:Tryz.f171.body=some B171:=by kernel_rfl
theorem F171_sum (l:List Value) (h:AH):E.sum 171 l h=none:=by kernel_rfl
theorem F171_flat {s:Bool} {v0:Value} {h:AH} {v:Value} (hok:h.ok) (hv:zm v=true) (H:P171_0 s (KR E [.tmp 2] (fun x k=>x=v/\h.next<=k.wm)) v0 h.fresh):(zV E).call 171 [v0] h=some [(v,h)]:=
 zk (s:=s) hok F171_get F171_body (F171_sum _ _) (by kernel_rfl) hv (F171_ev (Rp:=fun x k=>x=v/\h.next<=k.wm) H)
noncomputable def B173:Code:=zT Tryz.f173
noncomputable def C173 (s:Bool):Cx:=⟨E,s,none,B173,[([0],[0,1]),([1,0],[0,1])],[4],[]⟩
def P173_0 (s:Bool) (K:KF) (v0 v1:Value) (h:AH):Prop:=PI (C173 s) K 0 [v0,v1] h
def P173_1 (s:Bool) (K:KF) (v0 v1:Value) (h:AH):Prop:=PI (C173 s) K 1 [v0,v1] h
theorem P173_0_of (H :
 EvO (α:=Value) (some (.bool false)) fun x0=>
 P173_1 s K v0 v1 h):P173_0 s K v0 v1 h:=zB H
theorem P173_1_of (H :
 EvO (some v0) fun x0=>
 EvO (some v1) fun x1=>
 Ev s (za (zV E) (some (.func (.func 220) #[] #[])) (some [x0,x1]) h) fun x2=>
 EvO (zE E .geq 3 x2.1 (.int .i64 0)) fun x3=>
 EvO (some x3) fun x4=>
 K .ret [x4] x2.2):P173_1 s K v0 v1 h:=zB H
theorem F173_ev {s:Bool} {v0 v1:Value} {h:AH} {Rp:Value->AH->Prop} (H:P173_0 s (KR E [.tmp 4] Rp) v0 v1 h) :
 Ev s (R.andThen (evC E (zV E) none (zT Tryz.f173) ⟨⟨Tryz.f173.ntmps,zw [v0,v1] 0 .e⟩,h,[]⟩) (zc E Tryz.f173)) fun x=>Rp x.1 x.2:=
 zf (C:=C173 s) rfl rfl ⟨rfl,rfl,by kernel_rfl,rfl⟩ (by kernel_rfl) (by kernel_rfl) ((by kernel_rfl:z5 (C173 s) (KR E Tryz.f173.results.toList Rp) 30 (rs B173 60 (.at [])) (zj (zAw 0 [v0,v1])) h=(P173_0 s (KR E [.tmp 4] Rp) v0 v1 h)).mpr H)
theorem F173_get:E.tab.fn.get 173=some Tryz.f173:=by kernel_rfl
theorem F173_body:Tryz.f173.body=some B173:=by kernel_rfl
theorem F173_sum (l:List Value) (h:AH):E.sum 173 l h=none:=by kernel_rfl
theorem F173_flat {s:Bool} {v0 v1:Value} {h:AH} {v:Value} (hok:h.ok) (hv:zm v=true) (H:P173_0 s (KR E [.tmp 4] (fun x k=>x=v/\h.next<=k.wm)) v0 v1 h.fresh):(zV E).call 173 [v0,v1] h=some [(v,h)]:=
 zk (s:=s) hok F173_get F173_body (F173_sum _ _) (by kernel_rfl) hv (F173_ev (Rp:=fun x k=>x=v/\h.next<=k.wm) H)
noncomputable def B174:Code:=zT Tryz.f174
noncomputable def C174 (s:Bool):Cx:=⟨E,s,none,B174,[([0],[0,1,2]),([1,0],[1,2,3])],[4],[]⟩
def P174_0 (s:Bool) (K:KF) (v0 v1 v2:Value) (h:AH):Prop:=PI (C174 s) K 0 [v0,v1,v2] h
def P174_1 (s:Bool) (K:KF) (v1 v2 v3:Value) (h:AH):Prop:=PI (C174 s) K 1 [v1,v2,v3] h
theorem P174_0_of (H :
 Ev s (zU 134 h (some v0)) fun x0=>
 EvO (α:=Value) (some (.bool false)) fun x1=>
 P174_1 s K v1 v2 x0.1 x0.2):P174_0 s K v0 v1 v2 h:=zB H
theorem P174_1_of (H :
 EvO (zC E 134 0 (some v3)) fun x0=>
 EvO (zG E 3 h (some x0)) fun x1=>
 EvO (zC E 134 0 (some v1)) fun x2=>
 EvO (zG E 3 h (some x2)) fun x3=>
 EvO (zE E .eql 3 x1 x3) fun x4=>
 EvO (some x4) fun x5=>
 EvO (gdB x5 true (zC E 178 0 (some v2))) fun x6=>
 EvO (gdB x5 true (zG E 176 h (some x6))) fun x7=>
 EvO (gdB x5 true (zC E 134 1 (some v1))) fun x8=>
 EvO (gdB x5 true (zG E 3 h (some x8))) fun x9=>
 EvO (gdB x5 true (zC E 134 1 (some v3))) fun x10=>
 EvO (gdB x5 true (zG E 3 h (some x10))) fun x11=>
 Ev s (gdW x5 true (za (zV E) (some (.func (.func 123) #[] #[])) (some [x7,x9,x11]) h) h) fun x12=>
 EvO (z9 (some x5) (some x12.1) (some (.bool false))) fun x13=>
 EvO (some x13) fun x14=>
 K .ret [x14] x12.2):P174_1 s K v1 v2 v3 h:=zB H
theorem F174_ev {s:Bool} {v0 v1 v2:Value} {h:AH} {Rp:Value->AH->Prop} (H:P174_0 s (KR E [.tmp 4] Rp) v0 v1 v2 h) :
 Ev s (R.andThen (evC E (zV E) none (zT Tryz.f174) ⟨⟨Tryz.f174.ntmps,zw [v0,v1,v2] 0 .e⟩,h,[]⟩) (zc E Tryz.f174)) fun x=>Rp x.1 x.2:=
 zf (C:=C174 s) rfl rfl ⟨rfl,rfl,by kernel_rfl,rfl⟩ (by kernel_rfl) (by kernel_rfl) ((by kernel_rfl:z5 (C174 s) (KR E Tryz.f174.results.toList Rp) 30 (rs B174 60 (.at [])) (zj (zAw 0 [v0,v1,v2])) h=(P174_0 s (KR E [.tmp 4] Rp) v0 v1 v2 h)).mpr H)
theorem F174_get:E.tab.fn.get 174=some Tryz.f174:=by kernel_rfl
theorem F174_body:Tryz.f174.body=some B174:=by kernel_rfl
theorem F174_sum (l:List Value) (h:AH):E.sum 174 l h=none:=by kernel_rfl
theorem F174_flat {s:Bool} {v0 v1 v2:Value} {h:AH} {v:Value} (hok:h.ok) (hv:zm v=true) (H:P174_0 s (KR E [.tmp 4] (fun x k=>x=v/\h.next<=k.wm)) v0 v1 v2 h.fresh):(zV E).call 174 [v0,v1,v2] h=some [(v,h)]:=
 zk (s:=s) hok F174_get F174_body (F174_sum _ _) (by kernel_rfl) hv (F174_ev (Rp:=fun x k=>x=v/\h.next<=k.wm) H)
noncomputable def B178:Code:=zT Tryz.f178
noncomputable def C178 (s:Bool):Cx:=⟨E,s,none,B178,[([0],[0,1]),([1,0],[2,3])],[4],[]⟩
def P178_0 (s:Bool) (K:KF) (v0 v1:Value) (h:AH):Prop:=PI (C178 s) K 0 [v0,v1] h
def P178_1 (s:Bool) (K:KF) (v2 v3:Value) (h:AH):Prop:=PI (C178 s) K 1 [v2,v3] h
theorem P178_0_of (H :
 Ev s (zU 128 h (some v0)) fun x0=>
 Ev s (zU 3 x0.2 (some v1)) fun x1=>
 EvO (α:=Value) (some .nilFunc) fun x2=>
 P178_1 s K x0.1 x1.1 x1.2):P178_0 s K v0 v1 h:=zB H
theorem P178_1_of (H :
 EvO (zAp (.func 222) (some []) (some [v3,v2])) fun x0=>
 EvO (some x0) fun x1=>
 K .ret [x1] h):P178_1 s K v2 v3 h:=zB H
theorem F178_ev {s:Bool} {v0 v1:Value} {h:AH} {Rp:Value->AH->Prop} (H:P178_0 s (KR E [.tmp 4] Rp) v0 v1 h) :
 Ev s (R.andThen (evC E (zV E) none (zT Tryz.f178) ⟨⟨Tryz.f178.ntmps,zw [v0,v1] 0 .e⟩,h,[]⟩) (zc E Tryz.f178)) fun x=>Rp x.1 x.2:=
 zf (C:=C178 s) rfl rfl ⟨rfl,rfl,by kernel_rfl,rfl⟩ (by kernel_rfl) (by kernel_rfl) ((by kernel_rfl:z5 (C178 s) (KR E Tryz.f178.results.toList Rp) 30 (rs B178 60 (.at [])) (zj (zAw 0 [v0,v1])) h=(P178_0 s (KR E [.tmp 4] Rp) v0 v1 h)).mpr H)
theorem F178_get:E.tab.fn.get 178=some Tryz.f178:=by kernel_rfl
theorem F178_body:Tryz.f178.body=some B178:=by kernel_rfl
theorem F178_sum (l:List Value) (h:AH):E.sum 178 l h=none:=by kernel_rfl
theorem F178_some {v0 v1:Value} {h:AH} {Rp:Value->AH->Prop} (H:P178_0 true (KR E [.tmp 4] (fun x k=>(zg x=false\/k.wm<h.next)/\Rp x ⟨k.t,k.next,cond (Nat.ble h.wm k.wm) h.wm k.wm⟩)) v0 v1 h.fresh):Ev true ((zV E).call 178 [v0,v1] h) fun x=>Rp x.1 x.2:=
 zBw F178_get F178_body (F178_sum _ _) (by kernel_rfl) (F178_ev (Rp:=fun x k=>(zg x=false\/k.wm<h.next)/\Rp x ⟨k.t,k.next,cond (Nat.ble h.wm k.wm) h.wm k.wm⟩) H)
noncomputable def B190:Code:=zT Tryz.f190
noncomputable def C190 (s:Bool):Cx:=⟨E,s,none,B190,[([0],[0,1,2]),([1,0],[0,2,4]),([1,1,0],[0,2,4,8]),([1,1,1,0,0,0,0,0],[0,2,4,8,9,10]),([1,1,1,0,0,0,1,0,0],[0,2,4,8,9,10]),([1,1,1,0,0,0,1,0,1,0],[0,2,4,8,9,10,11]),([1,1,1,0,0,0,1,0,1,1,0],[0,2,4,8,10,11]),([1,1,1,0,0,0,1,0,1,1,1],[0,2,4,8,9,11]),([1,1,1,1,0],[0,2,4,8,9])],[6,7],[]⟩
def P190_0 (s:Bool) (K:KF) (v0 v1 v2:Value) (h:AH):Prop:=PI (C190 s) K 0 [v0,v1,v2] h
def P190_1 (s:Bool) (K:KF) (v0 v2 v4:Value) (h:AH):Prop:=PI (C190 s) K 1 [v0,v2,v4] h
def P190_2 (s:Bool) (K:KF) (v0 v2 v4 v8:Value) (h:AH):Prop:=PI (C190 s) K 2 [v0,v2,v4,v8] h
def P190_3 (s:Bool) (K:KF) (v0 v2 v4 v8 v9 v10:Value) (h:AH):Prop:=PI (C190 s) K 3 [v0,v2,v4,v8,v9,v10] h
def P190_4 (s:Bool) (K:KF) (v0 v2 v4 v8 v9 v10:Value) (h:AH):Prop:=PI (C190 s) K 4 [v0,v2,v4,v8,v9,v10] h
def P190_5 (s:Bool) (K:KF) (v0 v2 v4 v8 v9 v10 v11:Value) (h:AH):Prop:=PI (C190 s) K 5 [v0,v2,v4,v8,v9,v10,v11] h
def P190_6 (s:Bool) (K:KF) (v0 v2 v4 v8 v10 v11:Value) (h:AH):Prop:=PI (C190 s) K 6 [v0,v2,v4,v8,v10,v11] h
def P190_7 (s:Bool) (K:KF) (v0 v2 v4 v8 v9 v11:Value) (h:AH):Prop:=PI (C190 s) K 7 [v0,v2,v4,v8,v9,v11] h
def P190_8 (s:Bool) (K:KF) (v0 v2 v4 v8 v9:Value) (h:AH):Prop:=PI (C190 s) K 8 [v0,v2,v4,v8,v9] h
theorem P190_0_of (H :
 Ev s (zU 36 h (some v1)) fun x0=>
 EvO (α:=Value) (some (.int .i64 0)) fun x1=>
 EvO (α:=Value) (some (.bool false)) fun x2=>
 P190_1 s K v0 v2 x0.1 x0.2):P190_0 s K v0 v1 v2 h:=zB H
theorem P190_1_of (H :
 EvO (some v0) fun x0=>
 EvO (zN E (zj [(12,x0)]) (zy B190 [1,0] 1) h) fun x1=>
 EvO (some x1) fun x2=>
 P190_2 s K v0 v2 v4 x2 h):P190_1 s K v0 v2 v4 h:=zB H
theorem len190_1_1:zN E (zj [(12,.slice a n c)]) (zy B190 [1,0] 1) h=some (.int .i64 (n:Int)):=by cases a <;> kernel_rfl
theorem P190_2_of (H :
 EvO (some v8) fun x0=>
 EvO (α:=Value) (some (.int .i64 0)) fun x1=>
 EvO (some x0) fun x2=>
 P190_3 s K v0 v2 v4 v8 x1 x2 h):P190_2 s K v0 v2 v4 v8 h:=zB H
theorem P190_3_of (H :
 EvO (some v9) fun x0=>
 EvO (some v10) fun x1=>
 EvO (zE E .lss 3 x0 x1) fun x2=>
 BrK (some x2) (P190_4 s K v0 v2 v4 v8 v9 v10 h) (P190_8 s K v0 v2 v4 v8 v9 h)):P190_3 s K v0 v2 v4 v8 v9 v10 h:=zB H
theorem P190_4_of (H :
 EvO (some v9) fun x0=>
 EvO (some v10) fun x1=>
 EvO (zE E .add 3 x0 x1) fun x2=>
 EvO (zN E (zj [(20,x2)]) (zy B190 [1,1,1,0,0,0,1,0,0] 3) h) fun x3=>
 EvO (zAQ E (zj [(21,x3)]) (zy B190 [1,1,1,0,0,0,1,0,0] 4)) fun x4=>
 EvO (zN E (zj [(22,x4)]) (zy B190 [1,1,1,0,0,0,1,0,0] 5) h) fun x5=>
 EvO (some x5) fun x6=>
 P190_5 s K v0 v2 v4 v8 v9 v10 x6 h):P190_4 s K v0 v2 v4 v8 v9 v10 h:=zB H
theorem P190_5_of (H :
 EvO (some v2) fun x0=>
 EvO (some v0) fun x1=>
 EvO (some v11) fun x2=>
 EvO (zH E 22 (some x1) (some x2)) fun x3=>
 EvO (zG E 36 h (some x3)) fun x4=>
 EvO (zG E 36 h (some v4)) fun x5=>
 Ev s (za (zV E) (some x0) (some [x4,x5]) h) fun x6=>
 EvO (zE E .lss 3 x6.1 (.int .i64 0)) fun x7=>
 BrK (some x7) (P190_6 s K v0 v2 v4 v8 v10 v11 x6.2) (P190_7 s K v0 v2 v4 v8 v9 v11 x6.2)):P190_5 s K v0 v2 v4 v8 v9 v10 v11 h:=zB H
theorem P190_6_of (H :
 EvO (some v11) fun x0=>
 EvO (zE E .add 3 x0 (.int .i64 1)) fun x1=>
 EvO (some x1) fun x2=>
 P190_3 s K v0 v2 v4 v8 x2 v10 h):P190_6 s K v0 v2 v4 v8 v10 v11 h:=zB H
theorem P190_7_of (H :
 EvO (some v11) fun x0=>
 EvO (some x0) fun x1=>
 P190_3 s K v0 v2 v4 v8 v9 x1 h):P190_7 s K v0 v2 v4 v8 v9 v11 h:=zB H
def Q190_8 (s:Bool) (K:KF) (v0 v2 v4 v8 v9:Value) (h:AH):Prop:=
 EvO (some v9) fun x0=>
 EvO (some v9) fun x1=>
 EvO (some v8) fun x2=>
 EvO (zE E .lss 3 x1 x2) fun x3=>
 EvO (some x3) fun x4=>
 EvO (gdB x4 true (some v2)) fun x5=>
 EvO (gdB x4 true (some v0)) fun x6=>
 EvO (gdB x4 true (some v9)) fun x7=>
 EvO (gdB x4 true (zH E 22 (some x6) (some x7))) fun x8=>
 EvO (gdB x4 true (zG E 36 h (some x8))) fun x9=>
 EvO (gdB x4 true (zG E 36 h (some v4))) fun x10=>
 Ev s (gdW x4 true (za (zV E) (some x5) (some [x9,x10]) h) h) fun x11=>
 EvO (gdB x4 true (zE E .eql 3 x11.1 (.int .i64 0))) fun x12=>
 EvO (z9 (some x4) (some x12) (some (.bool false))) fun x13=>
 EvO (some x0) fun x14=>
 EvO (some x13) fun x15=>
 K .ret [x14,x15] x11.2
theorem P190_8_of (H:Q190_8 s K v0 v2 v4 v8 v9 h):P190_8 s K v0 v2 v4 v8 v9 h:=zB H
theorem F190_ev {s:Bool} {v0 v1 v2:Value} {h:AH} {Rp:Value->AH->Prop} (H:P190_0 s (KR E [.tmp 6,.tmp 7] Rp) v0 v1 v2 h) :
 Ev s (R.andThen (evC E (zV E) none (zT Tryz.f190) ⟨⟨Tryz.f190.ntmps,zw [v0,v1,v2] 0 .e⟩,h,[]⟩) (zc E Tryz.f190)) fun x=>Rp x.1 x.2:=
 zf (C:=C190 s) rfl rfl ⟨rfl,rfl,by kernel_rfl,rfl⟩ (by kernel_rfl) (by kernel_rfl) ((by kernel_rfl:z5 (C190 s) (KR E Tryz.f190.results.toList Rp) 30 (rs B190 60 (.at [])) (zj (zAw 0 [v0,v1,v2])) h=(P190_0 s (KR E [.tmp 6,.tmp 7] Rp) v0 v1 v2 h)).mpr H)
theorem F190_get:E.tab.fn.get 190=some Tryz.f190:=by kernel_rfl
theorem F190_body:Tryz.f190.body=some B190:=by kernel_rfl
theorem F190_sum (l:List Value) (h:AH):E.sum 190 l h=none:=by kernel_rfl
theorem F190_flatE {v0 v1 v2:Value} {h:AH} {Rp:Value->Prop} (hok:h.ok) (H:P190_0 true (KR E [.tmp 6,.tmp 7] (fun x k=>(zg x=true/\Rp x)/\h.next<=k.wm)) v0 v1 v2 h.fresh):∃ v,Rp v/\(zV E).call 190 [v0,v1,v2] h=some [(v,h)]:=
 zAT hok F190_get F190_body (F190_sum _ _) (by kernel_rfl) (F190_ev (Rp:=fun x k=>(zg x=true/\Rp x)/\h.next<=k.wm) H)
noncomputable def B191:Code:=zT Tryz.f191
noncomputable def C191 (s:Bool):Cx:=⟨E,s,none,B191,[([0],[0,1,2]),([1,0],[0,1,2]),([1,1,0],[0,1,2]),([1,1,1,0,0],[0,1,2,7]),([1,1,1,0,1,0,0],[0]),([1,1,1,1,0],[0,1,2,7]),([1,1,1,1,1,0,0],[0,1,2,7,8]),([1,1,1,1,1,0,1,0,0],[0,2]),([1,1,1,1,1,1,0,0],[0,1,2,7,8]),([1,1,1,1,1,1,0,1,0,0],[0,1,2,7,8]),([1,1,1,1,1,1,0,1,0,1,0],[0,1,2,7,9]),([1,1,1,1,1,1,0,1,0,1,1,0],[0,1,7,9]),([1,1,1,1,1,1,0,1,0,1,1,1,0],[9]),([1,1,1,1,1,1,1,0],[0,1,2,7,8]),([1,1,1,1,1,1,1,1,0,0],[0,1,2,7,8]),([1,1,1,1,1,1,1,1,0,1,0,0],[0,1,2,7]),([1,1,1,1,1,1,1,1,0,1,0,1,0],[0,1,2]),([1,1,1,1,1,1,1,1,0,1,0,1,1,0],[0]),([1,1,1,1,1,1,1,1,1,0],[0,1,2,7,8]),([1,1,1,1,1,1,1,1,1,1,0],[0,1,7]),([1,1,1,1,1,1,1,1,1,1,1,0],[0])],[6],[]⟩
def P191_0 (s:Bool) (K:KF) (v0 v1 v2:Value) (h:AH):Prop:=PI (C191 s) K 0 [v0,v1,v2] h
def P191_1 (s:Bool) (K:KF) (v0 v1 v2:Value) (h:AH):Prop:=PI (C191 s) K 1 [v0,v1,v2] h
def P191_2 (s:Bool) (K:KF) (v0 v1 v2:Value) (h:AH):Prop:=PI (C191 s) K 2 [v0,v1,v2] h
def P191_3 (s:Bool) (K:KF) (v0 v1 v2 v7:Value) (h:AH):Prop:=PI (C191 s) K 3 [v0,v1,v2,v7] h
def P191_4 (s:Bool) (K:KF) (v0:Value) (h:AH):Prop:=PI (C191 s) K 4 [v0] h
def P191_5 (s:Bool) (K:KF) (v0 v1 v2 v7:Value) (h:AH):Prop:=PI (C191 s) K 5 [v0,v1,v2,v7] h
def P191_6 (s:Bool) (K:KF) (v0 v1 v2 v7 v8:Value) (h:AH):Prop:=PI (C191 s) K 6 [v0,v1,v2,v7,v8] h
def P191_7 (s:Bool) (K:KF) (v0 v2:Value) (h:AH):Prop:=PI (C191 s) K 7 [v0,v2] h
def P191_8 (s:Bool) (K:KF) (v0 v1 v2 v7 v8:Value) (h:AH):Prop:=PI (C191 s) K 8 [v0,v1,v2,v7,v8] h
theorem P191_0_of (H :
 EvO (α:=Value) (some (.slice none 0 0)) fun x0=>
 P191_1 s K v0 v1 v2 h):P191_0 s K v0 v1 v2 h:=zB H
theorem P191_1_of (H :
 EvO (some v0) fun x0=>
 EvO (some v1) fun x1=>
 EvO (zAQ E (zj [(10,x0),(11,x1)]) (zy B191 [1,0] 2)) fun x2=>
 P191_2 s K v0 v1 v2 h):P191_1 s K v0 v1 v2 h:=zB H
theorem P191_2_of (H :
 EvO (some v2) fun x0=>
 EvO (zN E (zj [(13,x0)]) (zy B191 [1,1,0] 1) h) fun x1=>
 EvO (some x1) fun x2=>
 P191_3 s K v0 v1 v2 x2 h):P191_2 s K v0 v1 v2 h:=zB H
theorem len191_2_1:zN E (zj [(13,.slice a n c)]) (zy B191 [1,1,0] 1) h=some (.int .i64 (n:Int)):=by cases a <;> kernel_rfl
theorem P191_3_of (H :
 EvO (some v7) fun x0=>
 EvO (zE E .eql 3 x0 (.int .i64 0)) fun x1=>
 BrK (some x1) (P191_4 s K v0 h) (P191_5 s K v0 v1 v2 v7 h)):P191_3 s K v0 v1 v2 v7 h:=zB H
theorem P191_5_of (H :
 EvO (some v0) fun x0=>
 EvO (zN E (zj [(18,x0)]) (zy B191 [1,1,1,1,0] 1) h) fun x1=>
 EvO (some x1) fun x2=>
 P191_6 s K v0 v1 v2 v7 x2 h):P191_5 s K v0 v1 v2 v7 h:=zB H
theorem len191_5_1:zN E (zj [(18,.slice a n c)]) (zy B191 [1,1,1,1,0] 1) h=some (.int .i64 (n:Int)):=by cases a <;> kernel_rfl
theorem P191_6_of (H :
 EvO (some v1) fun x0=>
 EvO (some v8) fun x1=>
 EvO (zE E .eql 3 x0 x1) fun x2=>
 BrK (some x2) (P191_7 s K v0 v2 h) (P191_8 s K v0 v1 v2 v7 v8 h)):P191_6 s K v0 v1 v2 v7 v8 h:=zB H
theorem P191_7_of (H :
 EvO (some v0) fun x0=>
 EvO (some v2) fun x1=>
 Ev s (zAO E .append [22,22] (some [x0,x1]) h) fun x2=>
 EvO (some x2.1) fun x3=>
 K .ret [x3] x2.2):P191_7 s K v0 v2 h:=zB H
theorem F191_ev {s:Bool} {v0 v1 v2:Value} {h:AH} {Rp:Value->AH->Prop} (H:P191_0 s (KR E [.tmp 6] Rp) v0 v1 v2 h) :
 Ev s (R.andThen (evC E (zV E) none (zT Tryz.f191) ⟨⟨Tryz.f191.ntmps,zw [v0,v1,v2] 0 .e⟩,h,[]⟩) (zc E Tryz.f191)) fun x=>Rp x.1 x.2:=
 zf (C:=C191 s) rfl rfl ⟨rfl,rfl,by kernel_rfl,rfl⟩ (by kernel_rfl) (by kernel_rfl) ((by kernel_rfl:z5 (C191 s) (KR E Tryz.f191.results.toList Rp) 30 (rs B191 60 (.at [])) (zj (zAw 0 [v0,v1,v2])) h=(P191_0 s (KR E [.tmp 6] Rp) v0 v1 v2 h)).mpr H)
theorem F191_get:E.tab.fn.get 191=some Tryz.f191:=by kernel_rfl
theorem F191_body:Tryz.f191.body=some B191:=by kernel_rfl
noncomputable def B215:Code:=zT Tryz.f215
noncomputable def C215 (s:Bool):Cx:=⟨E,s,none,B215,[([0],[0,1]),([1,0],[0,1])],[4],[]⟩
def P215_0 (s:Bool) (K:KF) (v0 v1:Value) (h:AH):Prop:=PI (C215 s) K 0 [v0,v1] h
def P215_1 (s:Bool) (K:KF) (v0 v1:Value) (h:AH):Prop:=PI (C215 s) K 1 [v0,v1] h
theorem P215_0_of (H :
 EvO (α:=Value) (some (.bool false)) fun x0=>
 P215_1 s K v0 v1 h):P215_0 s K v0 v1 h:=zB H
theorem P215_1_of (H :
 EvO (some v0) fun x0=>
 EvO (some v1) fun x1=>
 Ev s (za (zV E) (some (.func (.func 243) #[] #[])) (some [x0,x1]) h) fun x2=>
 EvO (zE E .geq 3 x2.1 (.int .i64 0)) fun x3=>
 EvO (some x3) fun x4=>
 K .ret [x4] x2.2):P215_1 s K v0 v1 h:=zB H
theorem F215_ev {s:Bool} {v0 v1:Value} {h:AH} {Rp:Value->AH->Prop} (H:P215_0 s (KR E [.tmp 4] Rp) v0 v1 h) :
 Ev s (R.andThen (evC E (zV E) none (zT Tryz.f215) ⟨⟨Tryz.f215.ntmps,zw [v0,v1] 0 .e⟩,h,[]⟩) (zc E Tryz.f215)) fun x=>Rp x.1 x.2:=
 zf (C:=C215 s) rfl rfl ⟨rfl,rfl,by kernel_rfl,rfl⟩ (by kernel_rfl) (by kernel_rfl) ((by kernel_rfl:z5 (C215 s) (KR E Tryz.f215.results.toList Rp) 30 (rs B215 60 (.at [])) (zj (zAw 0 [v0,v1])) h=(P215_0 s (KR E [.tmp 4] Rp) v0 v1 h)).mpr H)
theorem F215_get:E.tab.fn.get 215=some Tryz.f215:=by kernel_rfl
theorem F215_body:Tryz.f215.body=some B215:=by kernel_rfl
theorem F215_sum (l:List Value) (h:AH):E.sum 215 l h=none:=by kernel_rfl
theorem F215_flat {s:Bool} {v0 v1:Value} {h:AH} {v:Value} (hok:h.ok) (hv:zm v=true) (H:P215_0 s (KR E [.tmp 4] (fun x k=>x=v/\h.next<=k.wm)) v0 v1 h.fresh):(zV E).call 215 [v0,v1] h=some [(v,h)]:=
 zk (s:=s) hok F215_get F215_body (F215_sum _ _) (by kernel_rfl) hv (F215_ev (Rp:=fun x k=>x=v/\h.next<=k.wm) H)
noncomputable def B216:Code:=zT Tryz.f216
noncomputable def C216 (s:Bool):Cx:=⟨E,s,none,B216,[([0],[0]),([1,0],[1])],[2],[]⟩
def P216_0 (s:Bool) (K:KF) (v0:Value) (h:AH):Prop:=PI (C216 s) K 0 [v0] h
def P216_1 (s:Bool) (K:KF) (v1:Value) (h:AH):Prop:=PI (C216 s) K 1 [v1] h
theorem P216_0_of (H :
 Ev s (zU 173 h (some v0)) fun x0=>
 EvO (α:=Value) (some (.bool false)) fun x1=>
 P216_1 s K x0.1 x0.2):P216_0 s K v0 h:=zB H
theorem P216_1_of (H :
 EvO (zG E 173 h (some v1)) fun x0=>
 Ev s (za (zV E) (some (.func (.func 217) #[] #[])) (some [x0]) h) fun x1=>
 EvO (zAf .not x1.1) fun x2=>
 EvO (some x2) fun x3=>
 K .ret [x3] x1.2):P216_1 s K v1 h:=zB H
theorem F216_ev {s:Bool} {v0:Value} {h:AH} {Rp:Value->AH->Prop} (H:P216_0 s (KR E [.tmp 2] Rp) v0 h) :
 Ev s (R.andThen (evC E (zV E) none (zT Tryz.f216) ⟨⟨Tryz.f216.ntmps,zw [v0] 0 .e⟩,h,[]⟩) (zc E Tryz.f216)) fun x=>Rp x.1 x.2:=
 zf (C:=C216 s) rfl rfl ⟨rfl,rfl,by kernel_rfl,rfl⟩ (by kernel_rfl) (by kernel_rfl) ((by kernel_rfl:z5 (C216 s) (KR E Tryz.f216.results.toList Rp) 30 (rs B216 60 (.at [])) (zj (zAw 0 [v0])) h=(P216_0 s (KR E [.tmp 2] Rp) v0 h)).mpr H)
theorem F216_get:E.tab.fn.get 216=some Tryz.f216:=by kernel_rfl
theorem F216_body:Tryz.f216.body=some B216:=by kernel_rfl
theorem F216_sum (l:List Value) (h:AH):E.sum 216 l h=none:=by kernel_rfl
theorem F216_flat {s:Bool} {v0:Value} {h:AH} {v:Value} (hok:h.ok) (hv:zm v=true) (H:P216_0 s (KR E [.tmp 2] (fun x k=>x=v/\h.next<=k.wm)) v0 h.fresh):(zV E).call 216 [v0] h=some [(v,h)]:=
 zk (s:=s) hok F216_get F216_body (F216_sum _ _) (by kernel_rfl) hv (F216_ev (Rp:=fun x k=>x=v/\h.next<=k.wm) H)
noncomputable def B217:Code:=zT Tryz.f217
noncomputable def C217 (s:Bool):Cx:=⟨E,s,none,B217,[([0],[0]),([1,0,0],[1]),([1,0,1,0],[1,3]),([1,0,1,1,0,0],[]),([1,1,0],[1]),([1,1,1,0],[1,5]),([1,1,1,1,0],[1,5])],[2],[]⟩
def P217_0 (s:Bool) (K:KF) (v0:Value) (h:AH):Prop:=PI (C217 s) K 0 [v0] h
def P217_1 (s:Bool) (K:KF) (v1:Value) (h:AH):Prop:=PI (C217 s) K 1 [v1] h
def P217_2 (s:Bool) (K:KF) (v1 v3:Value) (h:AH):Prop:=PI (C217 s) K 2 [v1,v3] h
def P217_3 (s:Bool) (K:KF) (h:AH):Prop:=PI (C217 s) K 3 [] h
def P217_4 (s:Bool) (K:KF) (v1:Value) (h:AH):Prop:=PI (C217 s) K 4 [v1] h
def P217_5 (s:Bool) (K:KF) (v1 v5:Value) (h:AH):Prop:=PI (C217 s) K 5 [v1,v5] h
def P217_6 (s:Bool) (K:KF) (v1 v5:Value) (h:AH):Prop:=PI (C217 s) K 6 [v1,v5] h
theorem P217_0_of (H :
 Ev s (zU 173 h (some v0)) fun x0=>
 EvO (α:=Value) (some (.bool false)) fun x1=>
 P217_1 s K x0.1 x0.2):P217_0 s K v0 h:=zB H
theorem P217_1_of (H :
 EvO (zG E 173 h (some v1)) fun x0=>
 Ev s (za (zV E) (some (.func (.func 244) #[] #[])) (some [x0]) h) fun x1=>
 EvO (some x1.1) fun x2=>
 EvO (zAH 0 (some x2)) fun x3=>
 EvO (zAH 1 (some x2)) fun x4=>
 EvO (some x3) fun x5=>
 EvO (some x4) fun x6=>
 P217_2 s K v1 x5 x1.2):P217_1 s K v1 h:=zB H
theorem P217_2_of (H :
 EvO (some v3) fun x0=>
 EvO (zE E .gtr 3 x0 (.int .i64 2000)) fun x1=>
 BrK (some x1) (P217_3 s K  h) (P217_4 s K v1 h)):P217_2 s K v1 v3 h:=zB H
theorem P217_3_of (H :
 EvO (α:=Value) (some (.bool false)) fun x0=>
 K .ret [x0] h):P217_3 s K h:=zB H
theorem P217_4_of (H :
 Ev s (zU 247 h (zAC E 247)) fun x0=>
 P217_5 s K v1 x0.1 x0.2):P217_4 s K v1 h:=zB H
theorem P217_5_of (H :
 EvO (zAp (.func 245) (some []) (some [v5])) fun x0=>
 Ev s (zu E 247 h (some v5) (some x0)) fun x1=>
 P217_6 s K v1 v5 x1.2):P217_5 s K v1 v5 h:=zB H
theorem P217_6_of (H :
 EvO (zG E 247 h (some v5)) fun x0=>
 EvO (zG E 173 h (some v1)) fun x1=>
 Ev s (za (zV E) (some x0) (some [x1]) h) fun x2=>
 EvO (some x2.1) fun x3=>
 K .ret [x3] x2.2):P217_6 s K v1 v5 h:=zB H
theorem F217_ev {s:Bool} {v0:Value} {h:AH} {Rp:Value->AH->Prop} (H:P217_0 s (KR E [.tmp 2] Rp) v0 h) :
 Ev s (R.andThen (evC E (zV E) none (zT Tryz.f217) ⟨⟨Tryz.f217.ntmps,zw [v0] 0 .e⟩,h,[]⟩) (zc E Tryz.f217)) fun x=>Rp x.1 x.2:=
 zf (C:=C217 s) rfl rfl ⟨rfl,rfl,by kernel_rfl,rfl⟩ (by kernel_rfl) (by kernel_rfl) ((by kernel_rfl:z5 (C217 s) (KR E Tryz.f217.results.toList Rp) 30 (rs B217 60 (.at [])) (zj (zAw 0 [v0])) h=(P217_0 s (KR E [.tmp 2] Rp) v0 h)).mpr H)
theorem F217_get:E.tab.fn.get 217=some Tryz.f217:=by kernel_rfl
theorem F217_body:Tryz.f217.body=some B217:=by kernel_rfl
theorem F217_sum (l:List Value) (h:AH):E.sum 217 l h=none:=by kernel_rfl
theorem F217_flat {s:Bool} {v0:Value} {h:AH} {v:Value} (hok:h.ok) (hv:zm v=true) (H:P217_0 s (KR E [.tmp 2] (fun x k=>x=v/\h.next<=k.wm)) v0 h.fresh):(zV E).call 217 [v0] h=some [(v,h)]:=
 zk (s:=s) hok F217_get F217_body (F217_sum _ _) (by kernel_rfl) hv (F217_ev (Rp:=fun x k=>x=v/\h.next<=k.wm) H)
noncomputable def B218:Code:=zT Tryz.f218
noncomputable def C218 (s:Bool):Cx:=⟨E,s,none,B218,[([0],[0,1,2]),([1,0],[0,1,2])],[6],[]⟩
def P218_0 (s:Bool) (K:KF) (v0 v1 v2:Value) (h:AH):Prop:=PI (C218 s) K 0 [v0,v1,v2] h
def P218_1 (s:Bool) (K:KF) (v0 v1 v2:Value) (h:AH):Prop:=PI (C218 s) K 1 [v0,v1,v2] h
theorem P218_0_of (H :
 EvO (α:=Value) (some (.int .i64 0)) fun x0=>
 P218_1 s K v0 v1 v2 h):P218_0 s K v0 v1 v2 h:=zB H
theorem P218_1_of (H :
 EvO (some v0) fun x0=>
 EvO (some v1) fun x1=>
 EvO (some v2) fun x2=>
 Ev s (za (zV E) (some (.func (.func 247) #[] #[])) (some [x0,x1,x2]) h) fun x3=>
 EvO (some x3.1) fun x4=>
 K .ret [x4] x3.2):P218_1 s K v0 v1 v2 h:=zB H
theorem F218_ev {s:Bool} {v0 v1 v2:Value} {h:AH} {Rp:Value->AH->Prop} (H:P218_0 s (KR E [.tmp 6] Rp) v0 v1 v2 h) :
 Ev s (R.andThen (evC E (zV E) none (zT Tryz.f218) ⟨⟨Tryz.f218.ntmps,zw [v0,v1,v2] 0 .e⟩,h,[]⟩) (zc E Tryz.f218)) fun x=>Rp x.1 x.2:=
 zf (C:=C218 s) rfl rfl ⟨rfl,rfl,by kernel_rfl,rfl⟩ (by kernel_rfl) (by kernel_rfl) ((by kernel_rfl:z5 (C218 s) (KR E Tryz.f218.results.toList Rp) 30 (rs B218 60 (.at [])) (zj (zAw 0 [v0,v1,v2])) h=(P218_0 s (KR E [.tmp 6] Rp) v0 v1 v2 h)).mpr H)
theorem F218_get:E.tab.fn.get 218=some Tryz.f218:=by kernel_rfl
theorem F218_body:Tryz.f218.body=some B218:=by kernel_rfl
theorem F218_sum (l:List Value) (h:AH):E.sum 218 l h=none:=by kernel_rfl
theorem F218_flat {s:Bool} {v0 v1 v2:Value} {h:AH} {v:Value} (hok:h.ok) (hv:zm v=true) (H:P218_0 s (KR E [.tmp 6] (fun x k=>x=v/\h.next<=k.wm)) v0 v1 v2 h.fresh):(zV E).call 218 [v0,v1,v2] h=some [(v,h)]:=
 zk (s:=s) hok F218_get F218_body (F218_sum _ _) (by kernel_rfl) hv (F218_ev (Rp:=fun x k=>x=v/\h.next<=k.wm) H)
noncomputable def B219:Code:=zT Tryz.f219
noncomputable def C219 (s:Bool):Cx:=⟨E,s,none,B219,[([0],[0,1]),([1,0,0],[2,3]),([1,0,1,0],[2,3,5]),([1,0,1,1,0,0],[5]),([1,1,0],[2,3])],[4],[]⟩
def P219_0 (s:Bool) (K:KF) (v0 v1:Value) (h:AH):Prop:=PI (C219 s) K 0 [v0,v1] h
def P219_1 (s:Bool) (K:KF) (v2 v3:Value) (h:AH):Prop:=PI (C219 s) K 1 [v2,v3] h
def P219_2 (s:Bool) (K:KF) (v2 v3 v5:Value) (h:AH):Prop:=PI (C219 s) K 2 [v2,v3,v5] h
def P219_3 (s:Bool) (K:KF) (v5:Value) (h:AH):Prop:=PI (C219 s) K 3 [v5] h
def P219_4 (s:Bool) (K:KF) (v2 v3:Value) (h:AH):Prop:=PI (C219 s) K 4 [v2,v3] h
theorem P219_0_of (H :
 Ev s (zU 173 h (some v0)) fun x0=>
 Ev s (zU 173 x0.2 (some v1)) fun x1=>
 EvO (α:=Value) (some (.int .i64 0)) fun x2=>
 P219_1 s K x0.1 x1.1 x1.2):P219_0 s K v0 v1 h:=zB H
theorem P219_1_of (H :
 EvO (zC E 173 0 (some v2)) fun x0=>
 EvO (zG E 3 h (some x0)) fun x1=>
 EvO (zC E 173 0 (some v3)) fun x2=>
 EvO (zG E 3 h (some x2)) fun x3=>
 EvO (zC E 173 1 (some v2)) fun x5=>
 EvO (zG E 3 h (some x5)) fun x6=>
 EvO (zC E 173 1 (some v3)) fun x7=>
 EvO (zG E 3 h (some x7)) fun x8=>
 EvO (zC E 173 2 (some v2)) fun x10=>
 EvO (zG E 34 h (some x10)) fun x11=>
 EvO (zN E (zj [(17,x11)]) (zy B219 [1,0,0] 12) h) fun x12=>
 EvO (zC E 173 2 (some v3)) fun x13=>
 EvO (zG E 34 h (some x13)) fun x14=>
 EvO (zN E (zj [(20,x14)]) (zy B219 [1,0,0] 15) h) fun x15=>
 Ev s (za (zV E) (some (.func (.func 94) #[] #[])) (some [x1,x3]) h) fun x4=>
 EvO (zN E (zj [(20,x14)]) (zy B219 [1,0,0] 15) x4.2) fun u4_15=>veq 100 u4_15 x15=true ∧
 (EvO (zG E 34 x4.2 (some x13)) fun u4_14=>veq 100 u4_14 x14=true ∧
 (EvO (zN E (zj [(17,x11)]) (zy B219 [1,0,0] 12) x4.2) fun u4_12=>veq 100 u4_12 x12=true ∧
 (EvO (zG E 34 x4.2 (some x10)) fun u4_11=>veq 100 u4_11 x11=true ∧
 (EvO (zG E 3 x4.2 (some x7)) fun u4_8=>veq 100 u4_8 x8=true ∧
 (EvO (zG E 3 x4.2 (some x5)) fun u4_6=>veq 100 u4_6 x6=true ∧
 (Ev s (za (zV E) (some (.func (.func 94) #[] #[])) (some [x6,x8]) x4.2) fun x9=>
 EvO (zN E (zj [(20,x14)]) (zy B219 [1,0,0] 15) x9.2) fun u9_15=>veq 100 u9_15 x15=true ∧
 (EvO (zG E 34 x9.2 (some x13)) fun u9_14=>veq 100 u9_14 x14=true ∧
 (EvO (zN E (zj [(17,x11)]) (zy B219 [1,0,0] 12) x9.2) fun u9_12=>veq 100 u9_12 x12=true ∧
 (EvO (zG E 34 x9.2 (some x10)) fun u9_11=>veq 100 u9_11 x11=true ∧
 (Ev s (za (zV E) (some (.func (.func 94) #[] #[])) (some [x12,x15]) x9.2) fun x16=>
 Ev s (zh E 47 3 (some [(0,x4.1),(1,x9.1),(2,x16.1)]) x16.2) fun x17=>
 Ev s (za (zV E) (some (.func (.func 171) #[] #[])) (some [x17.1]) x17.2) fun x18=>
 EvO (some x18.1) fun x19=>
 P219_2 s K v2 v3 x19 x18.2))))))))))):P219_1 s K v2 v3 h:=zB H
theorem len219_1_12:zN E (zj [(17,.slice a n c)]) (zy B219 [1,0,0] 12) h=some (.int .i64 (n:Int)):=by cases a <;> kernel_rfl
theorem len219_1_15:zN E (zj [(20,.slice a n c)]) (zy B219 [1,0,0] 15) h=some (.int .i64 (n:Int)):=by cases a <;> kernel_rfl
theorem P219_2_of (H :
 EvO (some v5) fun x0=>
 EvO (zE E .neq 3 x0 (.int .i64 0)) fun x1=>
 BrK (some x1) (P219_3 s K v5 h) (P219_4 s K v2 v3 h)):P219_2 s K v2 v3 v5 h:=zB H
theorem P219_3_of (H :
 EvO (some v5) fun x0=>
 EvO (some x0) fun x1=>
 K .ret [x1] h):P219_3 s K v5 h:=zB H
theorem P219_4_of (H :
 EvO (zC E 173 2 (some v2)) fun x0=>
 EvO (zG E 34 h (some x0)) fun x1=>
 EvO (zC E 173 2 (some v3)) fun x2=>
 EvO (zG E 34 h (some x2)) fun x3=>
 Ev s (za (zV E) (some (.func (.func 247) #[] #[])) (some [x1,x3,(.func (.func 219) #[] #[])]) h) fun x4=>
 EvO (some x4.1) fun x5=>
 K .ret [x5] x4.2):P219_4 s K v2 v3 h:=zB H
theorem F219_ev {s:Bool} {v0 v1:Value} {h:AH} {Rp:Value->AH->Prop} (H:P219_0 s (KR E [.tmp 4] Rp) v0 v1 h) :
 Ev s (R.andThen (evC E (zV E) none (zT Tryz.f219) ⟨⟨Tryz.f219.ntmps,zw [v0,v1] 0 .e⟩,h,[]⟩) (zc E Tryz.f219)) fun x=>Rp x.1 x.2:=
 zf (C:=C219 s) rfl rfl ⟨rfl,rfl,by kernel_rfl,rfl⟩ (by kernel_rfl) (by kernel_rfl) ((by kernel_rfl:z5 (C219 s) (KR E Tryz.f219.results.toList Rp) 30 (rs B219 60 (.at [])) (zj (zAw 0 [v0,v1])) h=(P219_0 s (KR E [.tmp 4] Rp) v0 v1 h)).mpr H)
theorem F219_get:E.tab.fn.get 219=some Tryz.f219:=by kernel_rfl
theorem F219_body:Tryz.f219.body=some B219:=by kernel_rfl
theorem F219_sum (l:List Value) (h:AH):E.sum 219 l h=none:=by kernel_rfl
theorem F219_flat {s:Bool} {v0 v1:Value} {h:AH} {v:Value} (hok:h.ok) (hv:zm v=true) (H:P219_0 s (KR E [.tmp 4] (fun x k=>x=v/\h.next<=k.wm)) v0 v1 h.fresh):(zV E).call 219 [v0,v1] h=some [(v,h)]:=
 zk (s:=s) hok F219_get F219_body (F219_sum _ _) (by kernel_rfl) hv (F219_ev (Rp:=fun x k=>x=v/\h.next<=k.wm) H)
noncomputable def B220:Code:=zT Tryz.f220
noncomputable def C220 (s:Bool):Cx:=⟨E,s,none,B220,[([0],[0,1]),([1,0,0],[0,1]),([1,0,1,0,0,0],[0,1,7,8]),([1,0,1,0,0,1,1,0,0,0],[0,1,7,8]),([1,0,1,0,0,1,1,0,0,1,0],[0,1,5,7,8]),([1,0,1,0,0,1,1,0,0,1,1,0,0],[5]),([1,0,1,0,0,1,1,1],[0,1,7,8]),([1,1,0],[])],[4],[]⟩
def P220_0 (s:Bool) (K:KF) (v0 v1:Value) (h:AH):Prop:=PI (C220 s) K 0 [v0,v1] h
def P220_1 (s:Bool) (K:KF) (v0 v1:Value) (h:AH):Prop:=PI (C220 s) K 1 [v0,v1] h
def P220_2 (s:Bool) (K:KF) (v0 v1 v7 v8:Value) (h:AH):Prop:=PI (C220 s) K 2 [v0,v1,v7,v8] h
def P220_3 (s:Bool) (K:KF) (v0 v1 v7 v8:Value) (h:AH):Prop:=PI (C220 s) K 3 [v0,v1,v7,v8] h
def P220_4 (s:Bool) (K:KF) (v0 v1 v5 v7 v8:Value) (h:AH):Prop:=PI (C220 s) K 4 [v0,v1,v5,v7,v8] h
def P220_5 (s:Bool) (K:KF) (v5:Value) (h:AH):Prop:=PI (C220 s) K 5 [v5] h
def P220_6 (s:Bool) (K:KF) (v0 v1 v7 v8:Value) (h:AH):Prop:=PI (C220 s) K 6 [v0,v1,v7,v8] h
def P220_7 (s:Bool) (K:KF) (h:AH):Prop:=PI (C220 s) K 7 [] h
theorem P220_0_of (H :
 EvO (α:=Value) (some (.int .i64 0)) fun x0=>
 P220_1 s K v0 v1 h):P220_0 s K v0 v1 h:=zB H
theorem P220_1_of (H :
 EvO (some v0) fun x0=>
 EvO (zN E (zj [(6,x0)]) (zy B220 [1,0,0] 1) h) fun x1=>
 EvO (α:=Value) (some (.int .i64 0)) fun x2=>
 P220_2 s K v0 v1 x1 x2 h):P220_1 s K v0 v1 h:=zB H
theorem len220_1_1:zN E (zj [(6,.slice a n c)]) (zy B220 [1,0,0] 1) h=some (.int .i64 (n:Int)):=by cases a <;> kernel_rfl
theorem P220_2_of (H :
 EvO (zE E .lss 3 v8 v7) fun x0=>
 BrK (some x0) (P220_3 s K v0 v1 v7 v8 h) (P220_7 s K  h)):P220_2 s K v0 v1 v7 v8 h:=zB H
theorem P220_3_of (H :
 EvO (some v8) fun x0=>
 EvO (some x0) fun x1=>
 P220_4 s K v0 v1 x1 v7 v8 h):P220_3 s K v0 v1 v7 v8 h:=zB H
theorem P220_4_of (H :
 EvO (some v1) fun x0=>
 EvO (some v0) fun x1=>
 EvO (some v5) fun x2=>
 EvO (zH E 132 (some x1) (some x2)) fun x3=>
 EvO (zG E 134 h (some x3)) fun x4=>
 Ev s (za (zV E) (some x0) (some [x4]) h) fun x5=>
 BrK (some x5.1) (P220_5 s K v5 x5.2) (P220_6 s K v0 v1 v7 v8 x5.2)):P220_4 s K v0 v1 v5 v7 v8 h:=zB H
theorem P220_5_of (H :
 EvO (some v5) fun x0=>
 EvO (some x0) fun x1=>
 K .ret [x1] h):P220_5 s K v5 h:=zB H
theorem P220_6_of (H :
 EvO (zE E .add 3 v8 (.int .i64 1)) fun x0=>
 EvO (some x0) fun x1=>
 P220_2 s K v0 v1 v7 x1 h):P220_6 s K v0 v1 v7 v8 h:=zB H
theorem P220_7_of (H :
 EvO (α:=Value) (some (.int .i64 (-1))) fun x0=>
 K .ret [x0] h):P220_7 s K h:=zB H
theorem F220_ev {s:Bool} {v0 v1:Value} {h:AH} {Rp:Value->AH->Prop} (H:P220_0 s (KR E [.tmp 4] Rp) v0 v1 h) :
 Ev s (R.andThen (evC E (zV E) none (zT Tryz.f220) ⟨⟨Tryz.f220.ntmps,zw [v0,v1] 0 .e⟩,h,[]⟩) (zc E Tryz.f220)) fun x=>Rp x.1 x.2:=
 zf (C:=C220 s) rfl rfl ⟨rfl,rfl,by kernel_rfl,rfl⟩ (by kernel_rfl) (by kernel_rfl) ((by kernel_rfl:z5 (C220 s) (KR E Tryz.f220.results.toList Rp) 30 (rs B220 60 (.at [])) (zj (zAw 0 [v0,v1])) h=(P220_0 s (KR E [.tmp 4] Rp) v0 v1 h)).mpr H)
theorem F220_get:E.tab.fn.get 220=some Tryz.f220:=by kernel_rfl
theorem F220_body:Tryz.f220.body=some B220:=by kernel_rfl
theorem F220_sum (l:List Value) (h:AH):E.sum 220 l h=none:=by kernel_rfl
theorem F220_flat {s:Bool} {v0 v1:Value} {h:AH} {v:Value} (hok:h.ok) (hv:zm v=true) (H:P220_0 s (KR E [.tmp 4] (fun x k=>x=v/\h.next<=k.wm)) v0 v1 h.fresh):(zV E).call 220 [v0,v1] h=some [(v,h)]:=
 zk (s:=s) hok F220_get F220_body (F220_sum _ _) (by kernel_rfl) hv (F220_ev (Rp:=fun x k=>x=v/\h.next<=k.wm) H)
noncomputable def B243:Code:=zT Tryz.f243
noncomputable def C243 (s:Bool):Cx:=⟨E,s,none,B243,[([0],[0,1]),([1,0,0],[0,1]),([1,0,1,0,0,0],[0,1,7,8]),([1,0,1,0,0,1,1,0,0,0],[0,1,7,8]),([1,0,1,0,0,1,1,0,0,1,0],[0,1,5,7,8]),([1,0,1,0,0,1,1,0,0,1,1,0,0],[5]),([1,0,1,0,0,1,1,1],[0,1,7,8]),([1,1,0],[])],[4],[]⟩
def P243_0 (s:Bool) (K:KF) (v0 v1:Value) (h:AH):Prop:=PI (C243 s) K 0 [v0,v1] h
def P243_1 (s:Bool) (K:KF) (v0 v1:Value) (h:AH):Prop:=PI (C243 s) K 1 [v0,v1] h
def P243_2 (s:Bool) (K:KF) (v0 v1 v7 v8:Value) (h:AH):Prop:=PI (C243 s) K 2 [v0,v1,v7,v8] h
def P243_3 (s:Bool) (K:KF) (v0 v1 v7 v8:Value) (h:AH):Prop:=PI (C243 s) K 3 [v0,v1,v7,v8] h
def P243_4 (s:Bool) (K:KF) (v0 v1 v5 v7 v8:Value) (h:AH):Prop:=PI (C243 s) K 4 [v0,v1,v5,v7,v8] h
def P243_5 (s:Bool) (K:KF) (v5:Value) (h:AH):Prop:=PI (C243 s) K 5 [v5] h
def P243_6 (s:Bool) (K:KF) (v0 v1 v7 v8:Value) (h:AH):Prop:=PI (C243 s) K 6 [v0,v1,v7,v8] h
def P243_7 (s:Bool) (K:KF) (h:AH):Prop:=PI (C243 s) K 7 [] h
theorem P243_0_of (H :
 EvO (α:=Value) (some (.int .i64 0)) fun x0=>
 P243_1 s K v0 v1 h):P243_0 s K v0 v1 h:=zB H
theorem P243_1_of (H :
 EvO (some v0) fun x0=>
 EvO (zN E (zj [(6,x0)]) (zy B243 [1,0,0] 1) h) fun x1=>
 EvO (α:=Value) (some (.int .i64 0)) fun x2=>
 P243_2 s K v0 v1 x1 x2 h):P243_1 s K v0 v1 h:=zB H
theorem len243_1_1:zN E (zj [(6,.slice a n c)]) (zy B243 [1,0,0] 1) h=some (.int .i64 (n:Int)):=by cases a <;> kernel_rfl
theorem P243_2_of (H :
 EvO (zE E .lss 3 v8 v7) fun x0=>
 BrK (some x0) (P243_3 s K v0 v1 v7 v8 h) (P243_7 s K  h)):P243_2 s K v0 v1 v7 v8 h:=zB H
theorem P243_3_of (H :
 EvO (some v8) fun x0=>
 EvO (some x0) fun x1=>
 P243_4 s K v0 v1 x1 v7 v8 h):P243_3 s K v0 v1 v7 v8 h:=zB H
theorem P243_4_of (H :
 EvO (some v1) fun x0=>
 EvO (some v0) fun x1=>
 EvO (some v5) fun x2=>
 EvO (zH E 34 (some x1) (some x2)) fun x3=>
 EvO (zG E 173 h (some x3)) fun x4=>
 Ev s (za (zV E) (some x0) (some [x4]) h) fun x5=>
 BrK (some x5.1) (P243_5 s K v5 x5.2) (P243_6 s K v0 v1 v7 v8 x5.2)):P243_4 s K v0 v1 v5 v7 v8 h:=zB H
theorem P243_5_of (H :
 EvO (some v5) fun x0=>
 EvO (some x0) fun x1=>
 K .ret [x1] h):P243_5 s K v5 h:=zB H
theorem P243_6_of (H :
 EvO (zE E .add 3 v8 (.int .i64 1)) fun x0=>
 EvO (some x0) fun x1=>
 P243_2 s K v0 v1 v7 x1 h):P243_6 s K v0 v1 v7 v8 h:=zB H
theorem P243_7_of (H :
 EvO (α:=Value) (some (.int .i64 (-1))) fun x0=>
 K .ret [x0] h):P243_7 s K h:=zB H
theorem F243_ev {s:Bool} {v0 v1:Value} {h:AH} {Rp:Value->AH->Prop} (H:P243_0 s (KR E [.tmp 4] Rp) v0 v1 h) :
 Ev s (R.andThen (evC E (zV E) none (zT Tryz.f243) ⟨⟨Tryz.f243.ntmps,zw [v0,v1] 0 .e⟩,h,[]⟩) (zc E Tryz.f243)) fun x=>Rp x.1 x.2:=
 zf (C:=C243 s) rfl rfl ⟨rfl,rfl,by kernel_rfl,rfl⟩ (by kernel_rfl) (by kernel_rfl) ((by kernel_rfl:z5 (C243 s) (KR E Tryz.f243.results.toList Rp) 30 (rs B243 60 (.at [])) (zj (zAw 0 [v0,v1])) h=(P243_0 s (KR E [.tmp 4] Rp) v0 v1 h)).mpr H)
theorem F243_get:E.tab.fn.get 243=some Tryz.f243:=by kernel_rfl
theorem F243_body:Tryz.f243.body=some B243:=by kernel_rfl
theorem F243_sum (l:List Value) (h:AH):E.sum 243 l h=none:=by kernel_rfl
theorem F243_flat {s:Bool} {v0 v1:Value} {h:AH} {v:Value} (hok:h.ok) (hv:zm v=true) (H:P243_0 s (KR E [.tmp 4] (fun x k=>x=v/\h.next<=k.wm)) v0 v1 h.fresh):(zV E).call 243 [v0,v1] h=some [(v,h)]:=
 zk (s:=s) hok F243_get F243_body (F243_sum _ _) (by kernel_rfl) hv (F243_ev (Rp:=fun x k=>x=v/\h.next<=k.wm) H)
noncomputable def B244:Code:=zT Tryz.f244
noncomputable def C244 (s:Bool):Cx:=⟨E,s,none,B244,[([0],[0]),([1,0],[1]),([1,1,0,0],[1,4]),([1,1,0,1,0],[4]),([1,1,0,1,1,0,0],[]),([1,1,1,0],[4])],[2,3],[]⟩
def P244_0 (s:Bool) (K:KF) (v0:Value) (h:AH):Prop:=PI (C244 s) K 0 [v0] h
def P244_1 (s:Bool) (K:KF) (v1:Value) (h:AH):Prop:=PI (C244 s) K 1 [v1] h
def P244_2 (s:Bool) (K:KF) (v1 v4:Value) (h:AH):Prop:=PI (C244 s) K 2 [v1,v4] h
def P244_3 (s:Bool) (K:KF) (v4:Value) (h:AH):Prop:=PI (C244 s) K 3 [v4] h
def P244_4 (s:Bool) (K:KF) (h:AH):Prop:=PI (C244 s) K 4 [] h
def P244_5 (s:Bool) (K:KF) (v4:Value) (h:AH):Prop:=PI (C244 s) K 5 [v4] h
theorem P244_0_of (H :
 Ev s (zU 173 h (some v0)) fun x0=>
 EvO (α:=Value) (some (.int .i64 0)) fun x1=>
 EvO (α:=Value) (some (.int .i64 0)) fun x2=>
 P244_1 s K x0.1 x0.2):P244_0 s K v0 h:=zB H
theorem P244_1_of (H :
 Ev s (zU 306 h (zAC E 306)) fun x0=>
 P244_2 s K v1 x0.1 x0.2):P244_1 s K v1 h:=zB H
theorem P244_2_of (H :
 EvO (zG E 173 h (some v1)) fun x0=>
 Ev s (za (zV E) (some (.func (.func 268) #[] #[])) (some [v4,x0,(.int .i64 1)]) h) fun x1=>
 P244_3 s K v4 x1.2):P244_2 s K v1 v4 h:=zB H
theorem P244_3_of (H :
 Ev s (za (zV E) (some (.func (.func 269) #[] #[])) (some [v4]) h) fun x0=>
 BrK (some x0.1) (P244_4 s K  x0.2) (P244_5 s K v4 x0.2)):P244_3 s K v4 h:=zB H
theorem P244_4_of (H :
 EvO (α:=Value) (some (.int .i64 2001)) fun x0=>
 EvO (α:=Value) (some (.int .i64 201)) fun x1=>
 K .ret [x0,x1] h):P244_4 s K h:=zB H
theorem P244_5_of (H :
 EvO (zC E 306 0 (some v4)) fun x0=>
 EvO (zG E 3 h (some x0)) fun x1=>
 EvO (zC E 306 1 (some v4)) fun x2=>
 EvO (zG E 3 h (some x2)) fun x3=>
 EvO (some x1) fun x4=>
 EvO (some x3) fun x5=>
 K .ret [x4,x5] h):P244_5 s K v4 h:=zB H
theorem F244_ev {s:Bool} {v0:Value} {h:AH} {Rp:Value->AH->Prop} (H:P244_0 s (KR E [.tmp 2,.tmp 3] Rp) v0 h) :
 Ev s (R.andThen (evC E (zV E) none (zT Tryz.f244) ⟨⟨Tryz.f244.ntmps,zw [v0] 0 .e⟩,h,[]⟩) (zc E Tryz.f244)) fun x=>Rp x.1 x.2:=
 zf (C:=C244 s) rfl rfl ⟨rfl,rfl,by kernel_rfl,rfl⟩ (by kernel_rfl) (by kernel_rfl) ((by kernel_rfl:z5 (C244 s) (KR E Tryz.f244.results.toList Rp) 30 (rs B244 60 (.at [])) (zj (zAw 0 [v0])) h=(P244_0 s (KR E [.tmp 2,.tmp 3] Rp) v0 h)).mpr H)
theorem F244_get:E.tab.fn.get 244=some Tryz.f244:=by kernel_rfl
theorem F244_body:Tryz.f244.body=some B244:=by kernel_rfl
theorem F244_sum (l:List Value) (h:AH):E.sum 244 l h=none:=by kernel_rfl
theorem F244_flat1 {v0:Value} {h:AH} {v:Value} (hok:h.ok) (hv:zg v=true) (H:P244_0 true (KR E [.tmp 2,.tmp 3] (fun x k=>x=v/\h.next<=k.wm)) v0 h.fresh):(zV E).call 244 [v0] h=some [(v,h)]:=
 zCx hok F244_get F244_body (F244_sum _ _) (by kernel_rfl) hv (F244_ev (Rp:=fun x k=>x=v/\h.next<=k.wm) H)
noncomputable def B245:Code:=zT Tryz.f245
noncomputable def C245 (s:Bool):Cx:=⟨E,s,none,B245,[([0],[0,1]),([1,0],[1,2])],[3],[]⟩
def P245_0 (s:Bool) (K:KF) (v0 v1:Value) (h:AH):Prop:=PI (C245 s) K 0 [v0,v1] h
def P245_1 (s:Bool) (K:KF) (v1 v2:Value) (h:AH):Prop:=PI (C245 s) K 1 [v1,v2] h
theorem P245_0_of (H :
 Ev s (zU 173 h (some v0)) fun x0=>
 EvO (α:=Value) (some (.bool false)) fun x1=>
 P245_1 s K v1 x0.1 x0.2):P245_0 s K v0 v1 h:=zB H
theorem P245_1_of (H :
 EvO (zC E 173 0 (some v2)) fun x0=>
 EvO (zG E 3 h (some x0)) fun x1=>
 EvO (zE E .eql 3 x1 (.int .i64 2)) fun x2=>
 EvO (some x2) fun x3=>
 EvO (gdB x3 true (zC E 173 1 (some v2))) fun x4=>
 EvO (gdB x3 true (zG E 3 h (some x4))) fun x5=>
 EvO (gdB x3 true (zE E .geq 3 x5 (.int .i64 0))) fun x6=>
 EvO (z9 (some x3) (some x6) (some (.bool false))) fun x7=>
 EvO (some x7) fun x8=>
 EvO (gdB x8 true (zC E 173 1 (some v2))) fun x9=>
 EvO (gdB x8 true (zG E 3 h (some x9))) fun x10=>
 EvO (gdB x8 true (zE E .lss 3 x10 (.int .i64 256))) fun x11=>
 EvO (z9 (some x8) (some x11) (some (.bool false))) fun x12=>
 EvO (some x12) fun x13=>
 EvO (gdB x13 true (zC E 173 2 (some v2))) fun x14=>
 EvO (gdB x13 true (zG E 34 h (some x14))) fun x15=>
 EvO (gdB x13 true (zN E (zj [(19,x15)]) (zy B245 [1,0] 16) h)) fun x16=>
 EvO (gdB x13 true (zE E .leq 3 x16 (.int .i64 8))) fun x17=>
 EvO (z9 (some x13) (some x17) (some (.bool false))) fun x18=>
 EvO (some x18) fun x19=>
 EvO (gdB x19 true (zC E 173 2 (some v2))) fun x20=>
 EvO (gdB x19 true (zG E 34 h (some x20))) fun x21=>
 EvO (gdB x19 true (zAp (.func 246) (some []) (some [v1]))) fun x22=>
 Ev s (gdW x19 true (za (zV E) (some (.func (.func 215) #[] #[])) (some [x21,x22]) h) h) fun x23=>
 EvO (gdB x19 true (zAf .not x23.1)) fun x24=>
 EvO (z9 (some x19) (some x24) (some (.bool false))) fun x25=>
 EvO (some x25) fun x26=>
 K .ret [x26] x23.2):P245_1 s K v1 v2 h:=zB H
theorem len245_1_16:zN E (zj [(19,.slice a n c)]) (zy B245 [1,0] 16) h=some (.int .i64 (n:Int)):=by cases a <;> kernel_rfl
theorem F245_ev {s:Bool} {v0 v1:Value} {h:AH} {Rp:Value->AH->Prop} (H:P245_0 s (KR E [.tmp 3] Rp) v0 v1 h) :
 Ev s (R.andThen (evC E (zV E) none (zT Tryz.f245) ⟨⟨Tryz.f245.ntmps,zw [v0,v1] 0 .e⟩,h,[]⟩) (zc E Tryz.f245)) fun x=>Rp x.1 x.2:=
 zf (C:=C245 s) rfl rfl ⟨rfl,rfl,by kernel_rfl,rfl⟩ (by kernel_rfl) (by kernel_rfl) ((by kernel_rfl:z5 (C245 s) (KR E Tryz.f245.results.toList Rp) 30 (rs B245 60 (.at [])) (zj (zAw 0 [v0,v1])) h=(P245_0 s (KR E [.tmp 3] Rp) v0 v1 h)).mpr H)
theorem F245_get:E.tab.fn.get 245=some Tryz.f245:=by kernel_rfl
theorem F245_body:Tryz.f245.body=some B245:=by kernel_rfl
theorem F245_sum (l:List Value) (h:AH):E.sum 245 l h=none:=by kernel_rfl
theorem F245_flat {s:Bool} {v0 v1:Value} {h:AH} {v:Value} (hok:h.ok) (hv:zm v=true) (H:P245_0 s (KR E [.tmp 3] (fun x k=>x=v/\h.next<=k.wm)) v0 v1 h.fresh):(zV E).call 245 [v0,v1] h=some [(v,h)]:=
 zk (s:=s) hok F245_get F245_body (F245_sum _ _) (by kernel_rfl) hv (F245_ev (Rp:=fun x k=>x=v/\h.next<=k.wm) H)
noncomputable def B246:Code:=zT Tryz.f246
noncomputable def C246 (s:Bool):Cx:=⟨E,s,none,B246,[([0],[0,1]),([1,0],[1,2])],[3],[]⟩
def P246_0 (s:Bool) (K:KF) (v0 v1:Value) (h:AH):Prop:=PI (C246 s) K 0 [v0,v1] h
def P246_1 (s:Bool) (K:KF) (v1 v2:Value) (h:AH):Prop:=PI (C246 s) K 1 [v1,v2] h
theorem P246_0_of (H :
 Ev s (zU 173 h (some v0)) fun x0=>
 EvO (α:=Value) (some (.bool false)) fun x1=>
 P246_1 s K v1 x0.1 x0.2):P246_0 s K v0 v1 h:=zB H
theorem P246_1_of (H :
 EvO (zG E 247 h (some v1)) fun x0=>
 EvO (zG E 173 h (some v2)) fun x1=>
 Ev s (za (zV E) (some x0) (some [x1]) h) fun x2=>
 EvO (zAf .not x2.1) fun x3=>
 EvO (some x3) fun x4=>
 K .ret [x4] x2.2):P246_1 s K v1 v2 h:=zB H
theorem F246_ev {s:Bool} {v0 v1:Value} {h:AH} {Rp:Value->AH->Prop} (H:P246_0 s (KR E [.tmp 3] Rp) v0 v1 h) :
 Ev s (R.andThen (evC E (zV E) none (zT Tryz.f246) ⟨⟨Tryz.f246.ntmps,zw [v0,v1] 0 .e⟩,h,[]⟩) (zc E Tryz.f246)) fun x=>Rp x.1 x.2:=
 zf (C:=C246 s) rfl rfl ⟨rfl,rfl,by kernel_rfl,rfl⟩ (by kernel_rfl) (by kernel_rfl) ((by kernel_rfl:z5 (C246 s) (KR E Tryz.f246.results.toList Rp) 30 (rs B246 60 (.at [])) (zj (zAw 0 [v0,v1])) h=(P246_0 s (KR E [.tmp 3] Rp) v0 v1 h)).mpr H)
theorem F246_get:E.tab.fn.get 246=some Tryz.f246:=by kernel_rfl
theorem F246_body:Tryz.f246.body=some B246:=by kernel_rfl
theorem F246_sum (l:List Value) (h:AH):E.sum 246 l h=none:=by kernel_rfl
theorem F246_flat {s:Bool} {v0 v1:Value} {h:AH} {v:Value} (hok:h.ok) (hv:zm v=true) (H:P246_0 s (KR E [.tmp 3] (fun x k=>x=v/\h.next<=k.wm)) v0 v1 h.fresh):(zV E).call 246 [v0,v1] h=some [(v,h)]:=
 zk (s:=s) hok F246_get F246_body (F246_sum _ _) (by kernel_rfl) hv (F246_ev (Rp:=fun x k=>x=v/\h.next<=k.wm) H)
noncomputable def B247:Code:=zT Tryz.f247
noncomputable def C247 (s:Bool):Cx:=⟨E,s,none,B247,[([0],[0,1,2]),([1,0,0],[0,1,2]),([1,0,1,0,0,0],[0,1,2,11,12,13]),([1,0,1,0,0,1,1,0,0,0],[0,1,2,11,12,13]),([1,0,1,0,0,1,1,0,0,1,0,0],[0,1,2,7,8,11,12,13]),([1,0,1,0,0,1,1,0,0,1,0,1,0,0],[]),([1,0,1,0,0,1,1,0,0,1,1,0],[0,1,2,7,8,11,12,13]),([1,0,1,0,0,1,1,0,0,1,1,1,0],[0,1,2,8,9,11,12,13]),([1,0,1,0,0,1,1,0,0,1,1,1,1,0],[0,1,2,10,11,12,13]),([1,0,1,0,0,1,1,0,0,1,1,1,1,1,0,0],[10]),([1,0,1,0,0,1,1,1],[0,1,2,11,12,13]),([1,1,0,0],[0,1]),([1,1,0,1,0,0],[]),([1,1,1,0],[])],[6],[]⟩
def P247_0 (s:Bool) (K:KF) (v0 v1 v2:Value) (h:AH):Prop:=PI (C247 s) K 0 [v0,v1,v2] h
def P247_1 (s:Bool) (K:KF) (v0 v1 v2:Value) (h:AH):Prop:=PI (C247 s) K 1 [v0,v1,v2] h
def P247_2 (s:Bool) (K:KF) (v0 v1 v2 v11 v12 v13:Value) (h:AH):Prop:=PI (C247 s) K 2 [v0,v1,v2,v11,v12,v13] h
def P247_3 (s:Bool) (K:KF) (v0 v1 v2 v11 v12 v13:Value) (h:AH):Prop:=PI (C247 s) K 3 [v0,v1,v2,v11,v12,v13] h
def P247_4 (s:Bool) (K:KF) (v0 v1 v2 v7 v8 v11 v12 v13:Value) (h:AH):Prop:=PI (C247 s) K 4 [v0,v1,v2,v7,v8,v11,v12,v13] h
def P247_5 (s:Bool) (K:KF) (h:AH):Prop:=PI (C247 s) K 5 [] h
def P247_6 (s:Bool) (K:KF) (v0 v1 v2 v7 v8 v11 v12 v13:Value) (h:AH):Prop:=PI (C247 s) K 6 [v0,v1,v2,v7,v8,v11,v12,v13] h
def P247_7 (s:Bool) (K:KF) (v0 v1 v2 v8 v9 v11 v12 v13:Value) (h:AH):Prop:=PI (C247 s) K 7 [v0,v1,v2,v8,v9,v11,v12,v13] h
def P247_8 (s:Bool) (K:KF) (v0 v1 v2 v10 v11 v12 v13:Value) (h:AH):Prop:=PI (C247 s) K 8 [v0,v1,v2,v10,v11,v12,v13] h
def P247_9 (s:Bool) (K:KF) (v10:Value) (h:AH):Prop:=PI (C247 s) K 9 [v10] h
def P247_10 (s:Bool) (K:KF) (v0 v1 v2 v11 v12 v13:Value) (h:AH):Prop:=PI (C247 s) K 10 [v0,v1,v2,v11,v12,v13] h
def P247_11 (s:Bool) (K:KF) (v0 v1:Value) (h:AH):Prop:=PI (C247 s) K 11 [v0,v1] h
def P247_12 (s:Bool) (K:KF) (h:AH):Prop:=PI (C247 s) K 12 [] h
def P247_13 (s:Bool) (K:KF) (h:AH):Prop:=PI (C247 s) K 13 [] h
theorem P247_0_of (H :
 EvO (α:=Value) (some (.int .i64 0)) fun x0=>
 P247_1 s K v0 v1 v2 h):P247_0 s K v0 v1 v2 h:=zB H
theorem P247_1_of (H :
 EvO (some v0) fun x0=>
 EvO (zN E (zj [(11,x0)]) (zy B247 [1,0,0] 1) h) fun x1=>
 EvO (α:=Value) (some (.int .i64 0)) fun x2=>
 P247_2 s K v0 v1 v2 x0 x1 x2 h):P247_1 s K v0 v1 v2 h:=zB H
theorem len247_1_1:zN E (zj [(11,.slice a n c)]) (zy B247 [1,0,0] 1) h=some (.int .i64 (n:Int)):=by cases a <;> kernel_rfl
theorem P247_2_of (H :
 EvO (zE E .lss 3 v13 v12) fun x0=>
 BrK (some x0) (P247_3 s K v0 v1 v2 v11 v12 v13 h) (P247_11 s K v0 v1 h)):P247_2 s K v0 v1 v2 v11 v12 v13 h:=zB H
theorem P247_3_of (H :
 EvO (some v13) fun x0=>
 EvO (zH E 34 (some v11) (some v13)) fun x1=>
 EvO (zG E 173 h (some x1)) fun x2=>
 Ev s (zU 173 h (zAC E 173)) fun x3=>
 EvO (some x0) fun x4=>
 Ev s (zu E 173 x3.2 (some x3.1) (some x2)) fun x5=>
 P247_4 s K v0 v1 v2 x4 x3.1 v11 v12 v13 x5.2):P247_3 s K v0 v1 v2 v11 v12 v13 h:=zB H
theorem P247_4_of (H :
 EvO (some v7) fun x0=>
 EvO (some v1) fun x1=>
 EvO (zN E (zj [(19,x1)]) (zy B247 [1,0,1,0,0,1,1,0,0,1,0,0] 2) h) fun x2=>
 EvO (zE E .geq 3 x0 x2) fun x3=>
 BrK (some x3) (P247_5 s K  h) (P247_6 s K v0 v1 v2 v7 v8 v11 v12 v13 h)):P247_4 s K v0 v1 v2 v7 v8 v11 v12 v13 h:=zB H
theorem len247_4_2:zN E (zj [(19,.slice a n c)]) (zy B247 [1,0,1,0,0,1,1,0,0,1,0,0] 2) h=some (.int .i64 (n:Int)):=by cases a <;> kernel_rfl
theorem P247_5_of (H :
 EvO (α:=Value) (some (.int .i64 1)) fun x0=>
 K .ret [x0] h):P247_5 s K h:=zB H
theorem P247_6_of (H :
 EvO (some v1) fun x0=>
 EvO (some v7) fun x1=>
 EvO (zH E 34 (some x0) (some x1)) fun x2=>
 EvO (zG E 173 h (some x2)) fun x3=>
 Ev s (zU 173 h (zAC E 173)) fun x4=>
 Ev s (zu E 173 x4.2 (some x4.1) (some x3)) fun x5=>
 P247_7 s K v0 v1 v2 v8 x4.1 v11 v12 v13 x5.2):P247_6 s K v0 v1 v2 v7 v8 v11 v12 v13 h:=zB H
theorem P247_7_of (H :
 EvO (some v2) fun x0=>
 EvO (zG E 173 h (some v8)) fun x1=>
 EvO (zG E 173 h (some v9)) fun x2=>
 Ev s (za (zV E) (some x0) (some [x1,x2]) h) fun x3=>
 EvO (some x3.1) fun x4=>
 P247_8 s K v0 v1 v2 x4 v11 v12 v13 x3.2):P247_7 s K v0 v1 v2 v8 v9 v11 v12 v13 h:=zB H
theorem P247_8_of (H :
 EvO (some v10) fun x0=>
 EvO (zE E .neq 3 x0 (.int .i64 0)) fun x1=>
 BrK (some x1) (P247_9 s K v10 h) (P247_10 s K v0 v1 v2 v11 v12 v13 h)):P247_8 s K v0 v1 v2 v10 v11 v12 v13 h:=zB H
theorem P247_9_of (H :
 EvO (some v10) fun x0=>
 EvO (some x0) fun x1=>
 K .ret [x1] h):P247_9 s K v10 h:=zB H
theorem P247_10_of (H :
 EvO (zE E .add 3 v13 (.int .i64 1)) fun x0=>
 EvO (some x0) fun x1=>
 P247_2 s K v0 v1 v2 v11 v12 x1 h):P247_10 s K v0 v1 v2 v11 v12 v13 h:=zB H
theorem P247_11_of (H :
 EvO (some v0) fun x0=>
 EvO (zN E (zj [(34,x0)]) (zy B247 [1,1,0,0] 1) h) fun x1=>
 EvO (some v1) fun x2=>
 EvO (zN E (zj [(36,x2)]) (zy B247 [1,1,0,0] 3) h) fun x3=>
 EvO (zE E .lss 3 x1 x3) fun x4=>
 BrK (some x4) (P247_12 s K  h) (P247_13 s K  h)):P247_11 s K v0 v1 h:=zB H
theorem len247_11_1:zN E (zj [(34,.slice a n c)]) (zy B247 [1,1,0,0] 1) h=some (.int .i64 (n:Int)):=by cases a <;> kernel_rfl
theorem len247_11_3:zN E (zj [(36,.slice a n c)]) (zy B247 [1,1,0,0] 3) h=some (.int .i64 (n:Int)):=by cases a <;> kernel_rfl
theorem P247_12_of (H :
 EvO (α:=Value) (some (.int .i64 (-1))) fun x0=>
 K .ret [x0] h):P247_12 s K h:=zB H
theorem P247_13_of (H :
 EvO (α:=Value) (some (.int .i64 0)) fun x0=>
 K .ret [x0] h):P247_13 s K h:=zB H
theorem F247_ev {s:Bool} {v0 v1 v2:Value} {h:AH} {Rp:Value->AH->Prop} (H:P247_0 s (KR E [.tmp 6] Rp) v0 v1 v2 h) :
 Ev s (R.andThen (evC E (zV E) none (zT Tryz.f247) ⟨⟨Tryz.f247.ntmps,zw [v0,v1,v2] 0 .e⟩,h,[]⟩) (zc E Tryz.f247)) fun x=>Rp x.1 x.2:=
 zf (C:=C247 s) rfl rfl ⟨rfl,rfl,by kernel_rfl,rfl⟩ (by kernel_rfl) (by kernel_rfl) ((by kernel_rfl:z5 (C247 s) (KR E Tryz.f247.results.toList Rp) 30 (rs B247 60 (.at [])) (zj (zAw 0 [v0,v1,v2])) h=(P247_0 s (KR E [.tmp 6] Rp) v0 v1 v2 h)).mpr H)
theorem F247_get:E.tab.fn.get 247=some Tryz.f247:=by kernel_rfl
theorem F247_body:Tryz.f247.body=some B247:=by kernel_rfl
theorem F247_sum (l:List Value) (h:AH):E.sum 247 l h=none:=by kernel_rfl
theorem F247_flat {s:Bool} {v0 v1 v2:Value} {h:AH} {v:Value} (hok:h.ok) (hv:zm v=true) (H:P247_0 s (KR E [.tmp 6] (fun x k=>x=v/\h.next<=k.wm)) v0 v1 v2 h.fresh):(zV E).call 247 [v0,v1,v2] h=some [(v,h)]:=
 zk (s:=s) hok F247_get F247_body (F247_sum _ _) (by kernel_rfl) hv (F247_ev (Rp:=fun x k=>x=v/\h.next<=k.wm) H)
noncomputable def B268:Code:=zT Tryz.f268
noncomputable def C268 (s:Bool):Cx:=⟨E,s,none,B268,[([0],[0,1,2]),([1,0],[0,2,4]),([1,1,0],[0,2,4]),([1,1,1,0],[0,2,4]),([1,1,1,1,0,0,0],[0,2,25,26,27]),([1,1,1,1,0,0,1,1,0,0,0],[0,2,25,26,27]),([1,1,1,1,0,0,1,1,0,0,1,0,0],[0,2,7,25,26,27]),([1,1,1,1,0,0,1,1,0,0,1,1],[0,2,7,25,26,27]),([1,1,1,1,0,0,1,1,1],[0,2,25,26,27])],[],[]⟩
def P268_0 (s:Bool) (K:KF) (v0 v1 v2:Value) (h:AH):Prop:=PI (C268 s) K 0 [v0,v1,v2] h
def P268_1 (s:Bool) (K:KF) (v0 v2 v4:Value) (h:AH):Prop:=PI (C268 s) K 1 [v0,v2,v4] h
def P268_2 (s:Bool) (K:KF) (v0 v2 v4:Value) (h:AH):Prop:=PI (C268 s) K 2 [v0,v2,v4] h
def P268_3 (s:Bool) (K:KF) (v0 v2 v4:Value) (h:AH):Prop:=PI (C268 s) K 3 [v0,v2,v4] h
def P268_4 (s:Bool) (K:KF) (v0 v2 v25 v26 v27:Value) (h:AH):Prop:=PI (C268 s) K 4 [v0,v2,v25,v26,v27] h
def P268_5 (s:Bool) (K:KF) (v0 v2 v25 v26 v27:Value) (h:AH):Prop:=PI (C268 s) K 5 [v0,v2,v25,v26,v27] h
def P268_6 (s:Bool) (K:KF) (v0 v2 v7 v25 v26 v27:Value) (h:AH):Prop:=PI (C268 s) K 6 [v0,v2,v7,v25,v26,v27] h
def P268_7 (s:Bool) (K:KF) (v0 v2 v7 v25 v26 v27:Value) (h:AH):Prop:=PI (C268 s) K 7 [v0,v2,v7,v25,v26,v27] h
def P268_8 (s:Bool) (K:KF) (v0 v2 v25 v26 v27:Value) (h:AH):Prop:=PI (C268 s) K 8 [v0,v2,v25,v26,v27] h
theorem P268_0_of (H :
 Ev s (zU 173 h (some v1)) fun x0=>
 P268_1 s K v0 v2 x0.1 x0.2):P268_0 s K v0 v1 v2 h:=zB H
theorem P268_1_of (H :
 EvO (some v0) fun x0=>
 EvO (zAB (some x0)) fun x1=>
 EvO (zC E 306 0 (some x1)) fun x2=>
 EvO (zG E 3 h (some x2)) fun x3=>
 EvO (zE E .add 3 x3 (.int .i64 1)) fun x4=>
 EvO (zAB (some x0)) fun x5=>
 EvO (zC E 306 0 (some x5)) fun x6=>
 Ev s (zu E 3 h (some x6) (some x4)) fun x7=>
 P268_2 s K v0 v2 v4 x7.2):P268_1 s K v0 v2 v4 h:=zB H
theorem P268_2_of (H :
 EvO (some v0) fun x0=>
 EvO (some v0) fun x1=>
 EvO (zAB (some x1)) fun x2=>
 EvO (zC E 306 1 (some x2)) fun x3=>
 EvO (zG E 3 h (some x3)) fun x4=>
 EvO (some v2) fun x5=>
 EvO (zN E (zj [(19,x4),(20,x5)]) (zy B268 [1,1,0] 6) h) fun x6=>
 EvO (zAB (some x0)) fun x7=>
 EvO (zC E 306 1 (some x7)) fun x8=>
 Ev s (zu E 3 h (some x8) (some x6)) fun x9=>
 P268_3 s K v0 v2 v4 x9.2):P268_2 s K v0 v2 v4 h:=zB H
theorem P268_3_of (H :
 EvO (zC E 173 2 (some v4)) fun x0=>
 EvO (zG E 34 h (some x0)) fun x1=>
 EvO (zN E (zj [(25,x1)]) (zy B268 [1,1,1,0] 2) h) fun x2=>
 EvO (α:=Value) (some (.int .i64 0)) fun x3=>
 P268_4 s K v0 v2 x1 x2 x3 h):P268_3 s K v0 v2 v4 h:=zB H
theorem len268_3_2:zN E (zj [(25,.slice a n c)]) (zy B268 [1,1,1,0] 2) h=some (.int .i64 (n:Int)):=by cases a <;> kernel_rfl
theorem P268_4_of (H :
 EvO (zE E .lss 3 v27 v26) fun x0=>
 BrK (some x0) (P268_5 s K v0 v2 v25 v26 v27 h) (K .normal [] h)):P268_4 s K v0 v2 v25 v26 v27 h:=zB H
theorem P268_5_of (H :
 EvO (zH E 34 (some v25) (some v27)) fun x0=>
 EvO (zG E 173 h (some x0)) fun x1=>
 Ev s (zU 173 h (zAC E 173)) fun x2=>
 Ev s (zu E 173 x2.2 (some x2.1) (some x1)) fun x3=>
 P268_6 s K v0 v2 x2.1 v25 v26 v27 x3.2):P268_5 s K v0 v2 v25 v26 v27 h:=zB H
theorem P268_6_of (H :
 EvO (some v0) fun x0=>
 EvO (zAB (some x0)) fun x1=>
 EvO (zC E 306 0 (some x1)) fun x2=>
 EvO (zG E 3 h (some x2)) fun x3=>
 EvO (zE E .gtr 3 x3 (.int .i64 2000)) fun x4=>
 EvO (some x4) fun x5=>
 EvO (gdB x5 false (some v0)) fun x6=>
 EvO (gdB x5 false (zAB (some x6))) fun x7=>
 EvO (gdB x5 false (zC E 306 1 (some x7))) fun x8=>
 EvO (gdB x5 false (zG E 3 h (some x8))) fun x9=>
 EvO (gdB x5 false (zE E .gtr 3 x9 (.int .i64 200))) fun x10=>
 EvO (z9 (some x5) (some (.bool true)) (some x10)) fun x11=>
 BrK (some x11) (K .ret [] h) (P268_7 s K v0 v2 v7 v25 v26 v27 h)):P268_6 s K v0 v2 v7 v25 v26 v27 h:=zB H
theorem P268_7_of (H :
 EvO (some v0) fun x0=>
 EvO (zG E 173 h (some v7)) fun x1=>
 EvO (some v2) fun x2=>
 EvO (zE E .add 3 x2 (.int .i64 1)) fun x3=>
 Ev s (za (zV E) (some (.func (.func 268) #[] #[])) (some [x0,x1,x3]) h) fun x4=>
 P268_8 s K v0 v2 v25 v26 v27 x4.2):P268_7 s K v0 v2 v7 v25 v26 v27 h:=zB H
theorem P268_8_of (H :
 EvO (zE E .add 3 v27 (.int .i64 1)) fun x0=>
 EvO (some x0) fun x1=>
 P268_4 s K v0 v2 v25 v26 x1 h):P268_8 s K v0 v2 v25 v26 v27 h:=zB H
theorem F268_ev {s:Bool} {v0 v1 v2:Value} {h:AH} {Rp:Value->AH->Prop} (H:P268_0 s (KR E [] Rp) v0 v1 v2 h) :
 Ev s (R.andThen (evC E (zV E) none (zT Tryz.f268) ⟨⟨Tryz.f268.ntmps,zw [v0,v1,v2] 0 .e⟩,h,[]⟩) (zc E Tryz.f268)) fun x=>Rp x.1 x.2:=
 zf (C:=C268 s) rfl rfl ⟨rfl,rfl,by kernel_rfl,rfl⟩ (by kernel_rfl) (by kernel_rfl) ((by kernel_rfl:z5 (C268 s) (KR E Tryz.f268.results.toList Rp) 30 (rs B268 60 (.at [])) (zj (zAw 0 [v0,v1,v2])) h=(P268_0 s (KR E [] Rp) v0 v1 v2 h)).mpr H)
theorem F268_get:E.tab.fn.get 268=some Tryz.f268:=by kernel_rfl
theorem F268_body:Tryz.f268.body=some B268:=by kernel_rfl
theorem F268_sum (l:List Value) (h:AH):E.sum 268 l h=none:=by kernel_rfl
theorem F268_some {v0 v1 v2:Value} {h:AH} {Rp:Value->AH->Prop} (H:P268_0 true (KR E [] (fun x k=>(zg x=false\/k.wm<h.next)/\Rp x ⟨k.t,k.next,cond (Nat.ble h.wm k.wm) h.wm k.wm⟩)) v0 v1 v2 h.fresh):Ev true ((zV E).call 268 [v0,v1,v2] h) fun x=>Rp x.1 x.2:=
 zBw F268_get F268_body (F268_sum _ _) (by kernel_rfl) (F268_ev (Rp:=fun x k=>(zg x=false\/k.wm<h.next)/\Rp x ⟨k.t,k.next,cond (Nat.ble h.wm k.wm) h.wm k.wm⟩) H)
noncomputable def B269:Code:=zT Tryz.f269
noncomputable def C269 (s:Bool):Cx:=⟨E,s,none,B269,[([0],[0]),([1,0],[0])],[2],[]⟩
def P269_0 (s:Bool) (K:KF) (v0:Value) (h:AH):Prop:=PI (C269 s) K 0 [v0] h
def P269_1 (s:Bool) (K:KF) (v0:Value) (h:AH):Prop:=PI (C269 s) K 1 [v0] h
theorem P269_0_of (H :
 EvO (α:=Value) (some (.bool false)) fun x0=>
 P269_1 s K v0 h):P269_0 s K v0 h:=zB H
theorem P269_1_of (H :
 EvO (some v0) fun x0=>
 EvO (zAB (some x0)) fun x1=>
 EvO (zC E 306 0 (some x1)) fun x2=>
 EvO (zG E 3 h (some x2)) fun x3=>
 EvO (zE E .gtr 3 x3 (.int .i64 2000)) fun x4=>
 EvO (some x4) fun x5=>
 EvO (gdB x5 false (some v0)) fun x6=>
 EvO (gdB x5 false (zAB (some x6))) fun x7=>
 EvO (gdB x5 false (zC E 306 1 (some x7))) fun x8=>
 EvO (gdB x5 false (zG E 3 h (some x8))) fun x9=>
 EvO (gdB x5 false (zE E .gtr 3 x9 (.int .i64 200))) fun x10=>
 EvO (z9 (some x5) (some (.bool true)) (some x10)) fun x11=>
 EvO (some x11) fun x12=>
 K .ret [x12] h):P269_1 s K v0 h:=zB H
theorem F269_ev {s:Bool} {v0:Value} {h:AH} {Rp:Value->AH->Prop} (H:P269_0 s (KR E [.tmp 2] Rp) v0 h) :
 Ev s (R.andThen (evC E (zV E) none (zT Tryz.f269) ⟨⟨Tryz.f269.ntmps,zw [v0] 0 .e⟩,h,[]⟩) (zc E Tryz.f269)) fun x=>Rp x.1 x.2:=
 zf (C:=C269 s) rfl rfl ⟨rfl,rfl,by kernel_rfl,rfl⟩ (by kernel_rfl) (by kernel_rfl) ((by kernel_rfl:z5 (C269 s) (KR E Tryz.f269.results.toList Rp) 30 (rs B269 60 (.at [])) (zj (zAw 0 [v0])) h=(P269_0 s (KR E [.tmp 2] Rp) v0 h)).mpr H)
theorem F269_get:E.tab.fn.get 269=some Tryz.f269:=by kernel_rfl
theorem F269_body:Tryz.f269.body=some B269:=by kernel_rfl
theorem F269_sum (l:List Value) (h:AH):E.sum 269 l h=none:=by kernel_rfl
theorem F269_flat {s:Bool} {v0:Value} {h:AH} {v:Value} (hok:h.ok) (hv:zm v=true) (H:P269_0 s (KR E [.tmp 2] (fun x k=>x=v/\h.next<=k.wm)) v0 h.fresh):(zV E).call 269 [v0] h=some [(v,h)]:=
 zk (s:=s) hok F269_get F269_body (F269_sum _ _) (by kernel_rfl) hv (F269_ev (Rp:=fun x k=>x=v/\h.next<=k.wm) H)
end Go.Proofs
