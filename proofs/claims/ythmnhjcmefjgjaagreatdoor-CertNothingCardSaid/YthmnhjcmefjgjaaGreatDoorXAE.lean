import Derived.Test.YthmnhjcmefjgjaaGreatDoorXAD
set_option linter.all false
set_option linter.unusedSectionVars false
set_option autoImplicit true
set_option relaxedAutoImplicit true
namespace Go.Proofs
open Go Go.AM
set_option maxRecDepth 100000
variable {s:Bool} {K:KF} {h:AH} {a:Option Addr} {n c:Nat} {v v0 v1 v2 v3 v4 v5 v6 v7 v8 v9 v10 v11 v12 v13 v14 v16 v17 v18 v19 v22 v23 v24 v25 v26 v27 v29 v30 v31 v32 v34 v35 v36 v50 v51 v52 v56 v57 v58 v64 v65 v66:Value} {h1:AH} {Rp:Value->AH->Prop}
noncomputable def B14:Code:=ze Tryz.f14
noncomputable def C14 (s:Bool):Cx:=⟨E,s,none,B14,[([0],[0]),([1,0],[0]),([1,1,0,0],[0,3]),([1,1,0,1,0,0,0],[3,8,9,10]),([1,1,0,1,0,0,1,1,0,0,0],[3,8,9,10]),([1,1,0,1,0,0,1,1,0,0,1,0,0],[3,5,8,9,10]),([1,1,0,1,0,0,1,1,0,0,1,0,1,0,0],[]),([1,1,0,1,0,0,1,1,0,0,1,1,0],[3,5,8,9,10]),([1,1,0,1,0,0,1,1,0,0,1,1,1,0,0,0],[3,8,9,10,30,31,32]),([1,1,0,1,0,0,1,1,0,0,1,1,1,0,0,1,1,0,0,0],[3,8,9,10,30,31,32]),([1,1,0,1,0,0,1,1,0,0,1,1,1,0,0,1,1,0,0,1,0],[3,7,8,9,10,30,31,32]),([1,1,0,1,0,0,1,1,0,0,1,1,1,0,0,1,1,0,0,1,1,0,0],[]),([1,1,0,1,0,0,1,1,0,0,1,1,1,0,0,1,1,1],[3,8,9,10,30,31,32]),([1,1,0,1,0,0,1,1,1],[3,8,9,10]),([1,1,1,0],[])],[2],[]⟩
abbrev P14_3 (s:Bool) (K:KF) (v3 v8 v9 v10:Value) (h:AH):Prop:=PI (C14 s) K 3 [v3,v8,v9,v10] h
abbrev P14_6 (s:Bool) (K:KF) (h:AH):Prop:=PI (C14 s) K 6 [] h
abbrev P14_8 (s:Bool) (K:KF) (v3 v8 v9 v10 v30 v31 v32:Value) (h:AH):Prop:=PI (C14 s) K 8 [v3,v8,v9,v10,v30,v31,v32] h
theorem P14_0_of (H :
 PI (C14 s) K 1 [v0] h):PI (C14 s) K 0 [v0] h:=zB H
theorem P14_1_of (H :
 Ev s (zP 3 h (zv E 3)) fun x0=>
 Ev s (zh E 3 x0.2 x0.1 (some (.int .i64 2000))) fun x1=>
 PI (C14 s) K 2 [v0,x0.1] x1.2):PI (C14 s) K 1 [v0] h:=zB H
theorem P14_2_of (H :
 EvO (zM E (zm [(8,v0)]) (zr B14 [1,1,0,0] 1) h) fun x1=>
 PI (C14 s) K 3 [v3,v0,x1,(.int .i64 0)] h):PI (C14 s) K 2 [v0,v3] h:=zB H
theorem len14_2_1:zM E (zm [(8,.slice a n c)]) (zr B14 [1,1,0,0] 1) h=some (.int .i64 (n:Int)):=by cases a <;> kernel_rfl
theorem P14_3_of (H :
 EvO (zF E .lss 3 v10 v9) fun x0=>
 BrK x0 (PI (C14 s) K 4 [v3,v8,v9,v10] h) (PI (C14 s) K 14 [] h)):PI (C14 s) K 3 [v3,v8,v9,v10] h:=zB H
theorem P14_4_of (H :
 EvO (zH E 82 v8 v10) fun x0=>
 EvO (zG E 25 h x0) fun x1=>
 Ev s (zP 25 h (zv E 25)) fun x2=>
 Ev s (zh E 25 x2.2 x2.1 x1) fun x3=>
 PI (C14 s) K 5 [v3,x2.1,v8,v9,v10] x3.2):PI (C14 s) K 4 [v3,v8,v9,v10] h:=zB H
theorem P14_5_of (H :
 EvO (zC E 25 0 v5) fun x0=>
 EvO (zG E 3 h x0) fun x1=>
 EvO (zF E .gtr 3 x1 (.int .i64 60)) fun x2=>
 EvO (gdB x2 false (zC E 25 2 v5)) fun x4=>
 EvO (gdB x2 false (zG E 23 h x4)) fun x5=>
 EvO (gdB x2 false (zM E (zm [(19,x5)]) (zr B14 [1,1,0,1,0,0,1,1,0,0,1,0,0] 6) h)) fun x6=>
 EvO (gdB x2 false (zF E .gtr 3 x6 (.int .i64 300))) fun x7=>
 EvO (z0 x2 (some (.bool true)) x7) fun x8=>
 EvO (gdB x8 false (zC E 25 1 v5)) fun x10=>
 EvO (gdB x8 false (zG E 22 h x10)) fun x11=>
 EvO (gdB x8 false (zM E (zm [(25,x11)]) (zr B14 [1,1,0,1,0,0,1,1,0,0,1,0,0] 12) h)) fun x12=>
 EvO (gdB x8 false (zF E .gtr 3 x12 (.int .i64 60))) fun x13=>
 EvO (z0 x8 (some (.bool true)) x13) fun x14=>
 BrK x14 (PI (C14 s) K 6 [] h) (PI (C14 s) K 7 [v3,v5,v8,v9,v10] h)):PI (C14 s) K 5 [v3,v5,v8,v9,v10] h:=zB H
theorem len14_5_6:zM E (zm [(19,.slice a n c)]) (zr B14 [1,1,0,1,0,0,1,1,0,0,1,0,0] 6) h=some (.int .i64 (n:Int)):=by cases a <;> kernel_rfl
theorem len14_5_12:zM E (zm [(25,.slice a n c)]) (zr B14 [1,1,0,1,0,0,1,1,0,0,1,0,0] 12) h=some (.int .i64 (n:Int)):=by cases a <;> kernel_rfl
theorem P14_6_of (H :
 K .ret [(.bool false)] h):PI (C14 s) K 6 [] h:=zB H
theorem P14_7_of (H :
 EvO (zC E 25 1 v5) fun x0=>
 EvO (zG E 22 h x0) fun x1=>
 EvO (zM E (zm [(30,x1)]) (zr B14 [1,1,0,1,0,0,1,1,0,0,1,1,0] 2) h) fun x2=>
 PI (C14 s) K 8 [v3,v8,v9,v10,x1,x2,(.int .i64 0)] h):PI (C14 s) K 7 [v3,v5,v8,v9,v10] h:=zB H
theorem len14_7_2:zM E (zm [(30,.slice a n c)]) (zr B14 [1,1,0,1,0,0,1,1,0,0,1,1,0] 2) h=some (.int .i64 (n:Int)):=by cases a <;> kernel_rfl
theorem P14_8_of (H :
 EvO (zF E .lss 3 v32 v31) fun x0=>
 BrK x0 (PI (C14 s) K 9 [v3,v8,v9,v10,v30,v31,v32] h) (PI (C14 s) K 13 [v3,v8,v9,v10] h)):PI (C14 s) K 8 [v3,v8,v9,v10,v30,v31,v32] h:=zB H
theorem P14_9_of (H :
 EvO (zH E 22 v30 v32) fun x0=>
 EvO (zG E 36 h x0) fun x1=>
 Ev s (zP 36 h (zv E 36)) fun x2=>
 Ev s (zh E 36 x2.2 x2.1 x1) fun x3=>
 PI (C14 s) K 10 [v3,x2.1,v8,v9,v10,v30,v31,v32] x3.2):PI (C14 s) K 9 [v3,v8,v9,v10,v30,v31,v32] h:=zB H
theorem P14_10_of (H :
 EvO (zC E 36 1 v7) fun x0=>
 EvO (zG E 34 h x0) fun x1=>
 Ev s (zV (zX E) (some (.func (.func 69) #[] #[])) (some [x1,v3,(.int .i64 1)]) h) fun x2=>
 EvO (zAY .not x2.1) fun x3=>
 BrK x3 (PI (C14 s) K 11 [] x2.2) (PI (C14 s) K 12 [v3,v8,v9,v10,v30,v31,v32] x2.2)):PI (C14 s) K 10 [v3,v7,v8,v9,v10,v30,v31,v32] h:=zB H
theorem P14_11_of (H :
 K .ret [(.bool false)] h):PI (C14 s) K 11 [] h:=zB H
theorem P14_12_of (H :
 EvO (zF E .add 3 v32 (.int .i64 1)) fun x0=>
 PI (C14 s) K 8 [v3,v8,v9,v10,v30,v31,x0] h):PI (C14 s) K 12 [v3,v8,v9,v10,v30,v31,v32] h:=zB H
theorem P14_13_of (H :
 EvO (zF E .add 3 v10 (.int .i64 1)) fun x0=>
 PI (C14 s) K 3 [v3,v8,v9,x0] h):PI (C14 s) K 13 [v3,v8,v9,v10] h:=zB H
theorem P14_14_of (H :
 K .ret [(.bool true)] h):PI (C14 s) K 14 [] h:=zB H
theorem F14_flatE {Rp:Value->Prop} (hok:h.ok) (H:PI (C14 true) (KR E [.tmp 2] fun x k=>(zj x=true/\Rp x)/\h.next<=k.wm) 0 [v0] h.fresh):∃ v,Rp v/\(zX E).call 14 [v0] h=some [(v,h)]:=flatFE Tryz.f14 hok (zz (C14 true) H)
noncomputable def B15:Code:=ze Tryz.f15
noncomputable def C15 (s:Bool):Cx:=⟨E,s,none,B15,[([0],[0,1,2]),([1,0,0],[3,4,5]),([1,0,1,0],[3,4,5,7]),([1,0,1,1,0,0],[7]),([1,1,0,0],[3,4,5]),([1,1,0,1,0],[3,4,5,8]),([1,1,0,1,1,0,0],[8]),([1,1,1,0,0],[3,4,5]),([1,1,1,0,1,0,0],[]),([1,1,1,1,0],[])],[6],[]⟩
theorem P15_0_of (H :
 Ev s (zP 25 h v0) fun x0=>
 Ev s (zP 25 x0.2 v1) fun x1=>
 Ev s (zP 32 x1.2 v2) fun x2=>
 PI (C15 s) K 1 [x0.1,x1.1,x2.1] x2.2):PI (C15 s) K 0 [v0,v1,v2] h:=zB H
theorem P15_1_of (H :
 EvO (zG E 25 h v3) fun x0=>
 EvO (zG E 25 h v4) fun x1=>
 Ev s (zi E 82 2 (some [(0,x0),(1,x1)]) h) fun x2=>
 Ev s (zV (zX E) (some (.func (.func 70) #[] #[])) [x2.1] x2.2) fun x3=>
 PI (C15 s) K 2 [v3,v4,v5,x3.1] x3.2):PI (C15 s) K 1 [v3,v4,v5] h:=zB H
theorem P15_2_of (H :
 EvO (zF E .neq 29 v7 (.int .i64 0)) fun x1=>
 BrK x1 (PI (C15 s) K 3 [v7] h) (PI (C15 s) K 4 [v3,v4,v5] h)):PI (C15 s) K 2 [v3,v4,v5,v7] h:=zB H
theorem P15_3_of (H :
 K .ret [v7] h):PI (C15 s) K 3 [v7] h:=zB H
theorem P15_4_of (H :
 EvO (zG E 32 h v5) fun x0=>
 Ev s (zi E 83 1 (some [(0,x0)]) h) fun x1=>
 Ev s (zV (zX E) (some (.func (.func 71) #[] #[])) [x1.1] x1.2) fun x2=>
 PI (C15 s) K 5 [v3,v4,v5,x2.1] x2.2):PI (C15 s) K 4 [v3,v4,v5] h:=zB H
theorem P15_5_of (H :
 EvO (zF E .neq 29 v8 (.int .i64 0)) fun x1=>
 BrK x1 (PI (C15 s) K 6 [v8] h) (PI (C15 s) K 7 [v3,v4,v5] h)):PI (C15 s) K 5 [v3,v4,v5,v8] h:=zB H
theorem P15_6_of (H :
 K .ret [v8] h):PI (C15 s) K 6 [v8] h:=zB H
theorem P15_7_of (H :
 EvO (zG E 25 h v3) fun x0=>
 EvO (zG E 25 h v4) fun x1=>
 EvO (zG E 32 h v5) fun x2=>
 Ev s (zV (zX E) (some (.func (.func 72) #[] #[])) [x0,x1,x2] h) fun x3=>
 EvO (zAY .not x3.1) fun x4=>
 BrK x4 (PI (C15 s) K 8 [] x3.2) (PI (C15 s) K 9 [] x3.2)):PI (C15 s) K 7 [v3,v4,v5] h:=zB H
theorem P15_8_of (H :
 K .ret [(.int .i64 360)] h):PI (C15 s) K 8 [] h:=zB H
theorem P15_9_of (H :
 K .ret [(.int .i64 0)] h):PI (C15 s) K 9 [] h:=zB H
theorem F15_flat (hok:h.ok) (hv:zg v=true) (H:PI (C15 s) (KR E [.tmp 6] fun x k=>x=v/\h.next<=k.wm) 0 [v0,v1,v2] h.fresh):(zX E).call 15 [v0,v1,v2] h=some [(v,h)]:=zAT Tryz.f15 hok hv (zz (C15 s) H)
noncomputable def B16:Code:=ze Tryz.f16
noncomputable def C16 (s:Bool):Cx:=⟨E,s,none,B16,[([0],[0,1]),([1,0],[0,1,4])],[4],[]⟩
abbrev P16_0 (s:Bool) (K:KF) (v0 v1:Value) (h:AH):Prop:=PI (C16 s) K 0 [v0,v1] h
theorem P16_0_of (H :
 Ev s (zP 32 h (zv E 32)) fun x0=>
 PI (C16 s) K 1 [v0,v1,x0.1] x0.2):PI (C16 s) K 0 [v0,v1] h:=zB H
theorem P16_1_of (H :
 EvO (zAg E 32 (some [(0,v0),(1,v1)])) fun x2=>
 Ev s (zh E 32 h v4 x2) fun x3=>
 K .ret [v4] x3.2):PI (C16 s) K 1 [v0,v1,v4] h:=zB H
theorem F16_flat1 (hok:h.ok) (hv:zj v=true) (H:PI (C16 true) (KR E [.cell 4 32] fun x k=>x=v/\h.next<=k.wm) 0 [v0,v1] h.fresh):(zX E).call 16 [v0,v1] h=some [(v,h)]:=flatF1 Tryz.f16 hok hv (zz (C16 true) H)
theorem F16_some (H:PI (C16 true) (KR E [.cell 4 32] fun x k=>(zj x=false\/k.wm<h.next)/\Rp x ⟨k.t,k.next,cond (Nat.ble h.wm k.wm) h.wm k.wm⟩) 0 [v0,v1] h.fresh):Ev true ((zX E).call 16 [v0,v1] h) fun x=>Rp x.1 x.2:=someF Tryz.f16 (zz (C16 true) H)
noncomputable def B69:Code:=ze Tryz.f69
noncomputable def C69 (s:Bool):Cx:=⟨E,s,none,B69,[([0],[0,1,2]),([1,0,0],[0,1,2]),([1,0,1,0,0,0],[1,2,9,10,11]),([1,0,1,0,0,1,1,0,0,0],[1,2,9,10,11]),([1,0,1,0,0,1,1,0,0,1,0],[1,2,8,9,10,11]),([1,0,1,0,0,1,1,0,0,1,1,0],[1,2,8,9,10,11]),([1,0,1,0,0,1,1,0,0,1,1,1,0,0],[]),([1,0,1,0,0,1,1,1],[1,2,9,10,11]),([1,1,0],[])],[6],[]⟩
abbrev P69_2 (s:Bool) (K:KF) (v1 v2 v9 v10 v11:Value) (h:AH):Prop:=PI (C69 s) K 2 [v1,v2,v9,v10,v11] h
abbrev P69_6 (s:Bool) (K:KF) (h:AH):Prop:=PI (C69 s) K 6 [] h
theorem P69_0_of (H :
 PI (C69 s) K 1 [v0,v1,v2] h):PI (C69 s) K 0 [v0,v1,v2] h:=zB H
theorem P69_1_of (H :
 EvO (zM E (zm [(9,v0)]) (zr B69 [1,0,0] 1) h) fun x1=>
 PI (C69 s) K 2 [v1,v2,v0,x1,(.int .i64 0)] h):PI (C69 s) K 1 [v0,v1,v2] h:=zB H
theorem len69_1_1:zM E (zm [(9,.slice a n c)]) (zr B69 [1,0,0] 1) h=some (.int .i64 (n:Int)):=by cases a <;> kernel_rfl
theorem P69_2_of (H :
 EvO (zF E .lss 3 v11 v10) fun x0=>
 BrK x0 (PI (C69 s) K 3 [v1,v2,v9,v10,v11] h) (PI (C69 s) K 8 [] h)):PI (C69 s) K 2 [v1,v2,v9,v10,v11] h:=zB H
theorem P69_3_of (H :
 EvO (zH E 34 v9 v11) fun x0=>
 EvO (zG E 173 h x0) fun x1=>
 Ev s (zP 173 h (zv E 173)) fun x2=>
 Ev s (zh E 173 x2.2 x2.1 x1) fun x3=>
 PI (C69 s) K 4 [v1,v2,x2.1,v9,v10,v11] x3.2):PI (C69 s) K 3 [v1,v2,v9,v10,v11] h:=zB H
theorem P69_4_of (H :
 EvO (zAG v1) fun x1=>
 EvO (zG E 3 h x1) fun x2=>
 EvO (zF E .sub 3 x2 (.int .i64 1)) fun x3=>
 EvO (zAG v1) fun x4=>
 Ev s (zh E 3 h x4 x3) fun x5=>
 PI (C69 s) K 5 [v1,v2,v8,v9,v10,v11] x5.2):PI (C69 s) K 4 [v1,v2,v8,v9,v10,v11] h:=zB H
theorem P69_5_of (H :
 EvO (zAG v1) fun x1=>
 EvO (zG E 3 h x1) fun x2=>
 EvO (zF E .lss 3 x2 (.int .i64 0)) fun x3=>
 EvO (gdB x3 false v2) fun x5=>
 EvO (gdB x3 false (zF E .gtr 3 x5 (.int .i64 100))) fun x6=>
 EvO (z0 x3 (some (.bool true)) x6) fun x7=>
 EvO (gdB x7 false (zC E 173 2 v8)) fun x9=>
 EvO (gdB x7 false (zG E 34 h x9)) fun x10=>
 EvO (gdB x7 false v1) fun x11=>
 EvO (gdB x7 false v2) fun x12=>
 EvO (gdB x7 false (zF E .add 3 x12 (.int .i64 1))) fun x13=>
 Ev s (gdW x7 false (zV (zX E) (some (.func (.func 69) #[] #[])) [x10,x11,x13] h) h) fun x14=>
 EvO (gdB x7 false (zAY .not x14.1)) fun x15=>
 EvO (z0 x7 (some (.bool true)) x15) fun x16=>
 BrK x16 (PI (C69 s) K 6 [] x14.2) (PI (C69 s) K 7 [v1,v2,v9,v10,v11] x14.2)):PI (C69 s) K 5 [v1,v2,v8,v9,v10,v11] h:=zB H
theorem P69_6_of (H :
 K .ret [(.bool false)] h):PI (C69 s) K 6 [] h:=zB H
theorem P69_7_of (H :
 EvO (zF E .add 3 v11 (.int .i64 1)) fun x0=>
 PI (C69 s) K 2 [v1,v2,v9,v10,x0] h):PI (C69 s) K 7 [v1,v2,v9,v10,v11] h:=zB H
theorem P69_8_of (H :
 K .ret [(.bool true)] h):PI (C69 s) K 8 [] h:=zB H
theorem F69_flat (hok:h.ok) (hv:zg v=true) (H:PI (C69 s) (KR E [.tmp 6] fun x k=>x=v/\h.next<=k.wm) 0 [v0,v1,v2] h.fresh):(zX E).call 69 [v0,v1,v2] h=some [(v,h)]:=zAT Tryz.f69 hok hv (zz (C69 s) H)
theorem F69_some (H:PI (C69 true) (KR E [.tmp 6] fun x k=>(zj x=false\/k.wm<h.next)/\Rp x ⟨k.t,k.next,cond (Nat.ble h.wm k.wm) h.wm k.wm⟩) 0 [v0,v1,v2] h.fresh):Ev true ((zX E).call 69 [v0,v1,v2] h) fun x=>Rp x.1 x.2:=someF Tryz.f69 (zz (C69 true) H)
noncomputable def B70:Code:=ze Tryz.f70
noncomputable def C70 (s:Bool):Cx:=⟨E,s,none,B70,[([0],[0]),([1,0,0],[0]),([1,0,1,0,0,0],[5,6,7]),([1,0,1,0,0,1,1,0,0,0],[5,6,7]),([1,0,1,0,0,1,1,0,0,1,0],[4,5,6,7]),([1,0,1,0,0,1,1,0,0,1,1,0,0],[]),([1,0,1,0,0,1,1,1],[5,6,7]),([1,1,0],[])],[2],[]⟩
abbrev P70_2 (s:Bool) (K:KF) (v5 v6 v7:Value) (h:AH):Prop:=PI (C70 s) K 2 [v5,v6,v7] h
theorem P70_0_of (H :
 PI (C70 s) K 1 [v0] h):PI (C70 s) K 0 [v0] h:=zB H
theorem P70_1_of (H :
 EvO (zM E (zm [(5,v0)]) (zr B70 [1,0,0] 1) h) fun x1=>
 PI (C70 s) K 2 [v0,x1,(.int .i64 0)] h):PI (C70 s) K 1 [v0] h:=zB H
theorem len70_1_1:zM E (zm [(5,.slice a n c)]) (zr B70 [1,0,0] 1) h=some (.int .i64 (n:Int)):=by cases a <;> kernel_rfl
theorem P70_2_of (H :
 EvO (zF E .lss 3 v7 v6) fun x0=>
 BrK x0 (PI (C70 s) K 3 [v5,v6,v7] h) (PI (C70 s) K 7 [] h)):PI (C70 s) K 2 [v5,v6,v7] h:=zB H
theorem P70_3_of (H :
 EvO (zH E 82 v5 v7) fun x0=>
 EvO (zG E 25 h x0) fun x1=>
 Ev s (zP 25 h (zv E 25)) fun x2=>
 Ev s (zh E 25 x2.2 x2.1 x1) fun x3=>
 PI (C70 s) K 4 [x2.1,v5,v6,v7] x3.2):PI (C70 s) K 3 [v5,v6,v7] h:=zB H
theorem P70_4_of (H :
 EvO (zG E 25 h v4) fun x0=>
 Ev s (zV (zX E) (some (.func (.func 121) #[] #[])) [x0] h) fun x1=>
 EvO (zF E .neq 29 x1.1 (.int .i64 0)) fun x2=>
 BrK x2 (PI (C70 s) K 5 [] x1.2) (PI (C70 s) K 6 [v5,v6,v7] x1.2)):PI (C70 s) K 4 [v4,v5,v6,v7] h:=zB H
theorem P70_5_of (H :
 K .ret [(.int .i64 8)] h):PI (C70 s) K 5 [] h:=zB H
theorem P70_6_of (H :
 EvO (zF E .add 3 v7 (.int .i64 1)) fun x0=>
 PI (C70 s) K 2 [v5,v6,x0] h):PI (C70 s) K 6 [v5,v6,v7] h:=zB H
theorem P70_7_of (H :
 K .ret [(.int .i64 0)] h):PI (C70 s) K 7 [] h:=zB H
theorem F70_flat (hok:h.ok) (hv:zg v=true) (H:PI (C70 s) (KR E [.tmp 2] fun x k=>x=v/\h.next<=k.wm) 0 [v0] h.fresh):(zX E).call 70 [v0] h=some [(v,h)]:=zAT Tryz.f70 hok hv (zz (C70 s) H)
noncomputable def B71:Code:=ze Tryz.f71
noncomputable def C71 (s:Bool):Cx:=⟨E,s,none,B71,[([0],[0]),([1,0,0],[0]),([1,0,1,0,0,0],[7,8,9]),([1,0,1,0,0,1,1,0,0,0],[7,8,9]),([1,0,1,0,0,1,1,0,0,1,0,0],[4,7,8,9]),([1,0,1,0,0,1,1,0,0,1,0,1,0,0],[]),([1,0,1,0,0,1,1,0,0,1,1,0,0],[4,7,8,9]),([1,0,1,0,0,1,1,0,0,1,1,0,1,0,0],[]),([1,0,1,0,0,1,1,0,0,1,1,1,0],[4,7,8,9]),([1,0,1,0,0,1,1,0,0,1,1,1,1,0,0,0],[4,7,8,9,22,23,24]),([1,0,1,0,0,1,1,0,0,1,1,1,1,0,0,1,1,0,0,0],[4,7,8,9,22,23,24]),([1,0,1,0,0,1,1,0,0,1,1,1,1,0,0,1,1,0,0,1,0],[4,5,6,7,8,9,22,23,24]),([1,0,1,0,0,1,1,0,0,1,1,1,1,0,0,1,1,0,0,1,1,0,0],[]),([1,0,1,0,0,1,1,0,0,1,1,1,1,0,0,1,1,1],[4,7,8,9,22,23,24]),([1,0,1,0,0,1,1,1],[7,8,9]),([1,1,0],[])],[2],[]⟩
abbrev P71_2 (s:Bool) (K:KF) (v7 v8 v9:Value) (h:AH):Prop:=PI (C71 s) K 2 [v7,v8,v9] h
abbrev P71_9 (s:Bool) (K:KF) (v4 v7 v8 v9 v22 v23 v24:Value) (h:AH):Prop:=PI (C71 s) K 9 [v4,v7,v8,v9,v22,v23,v24] h
abbrev P71_12 (s:Bool) (K:KF) (h:AH):Prop:=PI (C71 s) K 12 [] h
abbrev P71_13 (s:Bool) (K:KF) (v4 v7 v8 v9 v22 v23 v24:Value) (h:AH):Prop:=PI (C71 s) K 13 [v4,v7,v8,v9,v22,v23,v24] h
theorem P71_0_of (H :
 PI (C71 s) K 1 [v0] h):PI (C71 s) K 0 [v0] h:=zB H
theorem P71_1_of (H :
 EvO (zM E (zm [(7,v0)]) (zr B71 [1,0,0] 1) h) fun x1=>
 PI (C71 s) K 2 [v0,x1,(.int .i64 0)] h):PI (C71 s) K 1 [v0] h:=zB H
theorem len71_1_1:zM E (zm [(7,.slice a n c)]) (zr B71 [1,0,0] 1) h=some (.int .i64 (n:Int)):=by cases a <;> kernel_rfl
theorem P71_2_of (H :
 EvO (zF E .lss 3 v9 v8) fun x0=>
 BrK x0 (PI (C71 s) K 3 [v7,v8,v9] h) (PI (C71 s) K 15 [] h)):PI (C71 s) K 2 [v7,v8,v9] h:=zB H
theorem P71_3_of (H :
 EvO (zH E 83 v7 v9) fun x0=>
 EvO (zG E 32 h x0) fun x1=>
 Ev s (zP 32 h (zv E 32)) fun x2=>
 Ev s (zh E 32 x2.2 x2.1 x1) fun x3=>
 PI (C71 s) K 4 [x2.1,v7,v8,v9] x3.2):PI (C71 s) K 3 [v7,v8,v9] h:=zB H
theorem P71_4_of (H :
 EvO (zC E 32 0 v4) fun x0=>
 EvO (zG E 3 h x0) fun x1=>
 Ev s (zV (zX E) (some (.func (.func 105) #[] #[])) [x1] h) fun x2=>
 EvO (zAY .not x2.1) fun x3=>
 BrK x3 (PI (C71 s) K 5 [] x2.2) (PI (C71 s) K 6 [v4,v7,v8,v9] x2.2)):PI (C71 s) K 4 [v4,v7,v8,v9] h:=zB H
theorem P71_5_of (H :
 K .ret [(.int .i64 361)] h):PI (C71 s) K 5 [] h:=zB H
theorem P71_6_of (H :
 EvO (zC E 32 1 v4) fun x0=>
 EvO (zG E 26 h x0) fun x1=>
 EvO (zM E (zm [(18,x1)]) (zr B71 [1,0,1,0,0,1,1,0,0,1,1,0,0] 2) h) fun x2=>
 EvO (zF E .gtr 3 x2 (.int .i64 200000)) fun x3=>
 BrK x3 (PI (C71 s) K 7 [] h) (PI (C71 s) K 8 [v4,v7,v8,v9] h)):PI (C71 s) K 6 [v4,v7,v8,v9] h:=zB H
theorem len71_6_2:zM E (zm [(18,.slice a n c)]) (zr B71 [1,0,1,0,0,1,1,0,0,1,1,0,0] 2) h=some (.int .i64 (n:Int)):=by cases a <;> kernel_rfl
theorem P71_7_of (H :
 K .ret [(.int .i64 360)] h):PI (C71 s) K 7 [] h:=zB H
theorem P71_8_of (H :
 EvO (zC E 32 1 v4) fun x0=>
 EvO (zG E 26 h x0) fun x1=>
 EvO (zM E (zm [(22,x1)]) (zr B71 [1,0,1,0,0,1,1,0,0,1,1,1,0] 2) h) fun x2=>
 PI (C71 s) K 9 [v4,v7,v8,v9,x1,x2,(.int .i64 0)] h):PI (C71 s) K 8 [v4,v7,v8,v9] h:=zB H
theorem len71_8_2:zM E (zm [(22,.slice a n c)]) (zr B71 [1,0,1,0,0,1,1,0,0,1,1,1,0] 2) h=some (.int .i64 (n:Int)):=by cases a <;> kernel_rfl
theorem P71_9_of (H :
 EvO (zF E .lss 3 v24 v23) fun x0=>
 BrK x0 (PI (C71 s) K 10 [v4,v7,v8,v9,v22,v23,v24] h) (PI (C71 s) K 14 [v7,v8,v9] h)):PI (C71 s) K 9 [v4,v7,v8,v9,v22,v23,v24] h:=zB H
theorem P71_10_of (H :
 EvO (zH E 26 v22 v24) fun x1=>
 EvO (zG E 54 h x1) fun x2=>
 Ev s (zP 54 h (zv E 54)) fun x3=>
 Ev s (zh E 54 x3.2 x3.1 x2) fun x5=>
 PI (C71 s) K 11 [v4,v24,x3.1,v7,v8,v9,v22,v23,v24] x5.2):PI (C71 s) K 10 [v4,v7,v8,v9,v22,v23,v24] h:=zB H
theorem P71_11_of (H :
 EvO (zH E 54 v6 (some (.int .i64 0))) fun x0=>
 EvO (zG E 3 h x0) fun x1=>
 EvO (zF E .lss 3 x1 (.int .i64 0)) fun x2=>
 EvO (gdB x2 false (zH E 54 v6 (some (.int .i64 1)))) fun x4=>
 EvO (gdB x2 false (zG E 3 h x4)) fun x5=>
 EvO (gdB x2 false (zF E .lss 3 x5 (.int .i64 0))) fun x6=>
 EvO (z0 x2 (some (.bool true)) x6) fun x7=>
 EvO (gdB x7 false v5) fun x9=>
 EvO (gdB x7 false (zF E .gtr 3 x9 (.int .i64 0))) fun x10=>
 EvO (gdB x7 false x10) fun x11=>
 EvO (gdB x11 true (zC E 32 1 v4)) fun x12=>
 EvO (gdB x11 true (zG E 26 h x12)) fun x13=>
 EvO (gdB x11 true v5) fun x14=>
 EvO (gdB x11 true (zF E .sub 3 x14 (.int .i64 1))) fun x15=>
 EvO (gdB x11 true (zH E 26 x13 x15)) fun x16=>
 EvO (gdB x11 true (zG E 54 h x16)) fun x17=>
 EvO (gdB x11 true (zG E 54 h v6)) fun x18=>
 Ev s (gdW x11 true (zV (zX E) (some (.func (.func 122) #[] #[])) [x17,x18] h) h) fun x19=>
 EvO (gdB x11 true (zF E .geq 3 x19.1 (.int .i64 0))) fun x20=>
 EvO (gdB x7 false (z0 x11 x20 (some (.bool false)))) fun x21=>
 EvO (z0 x7 (some (.bool true)) x21) fun x22=>
 BrK x22 (PI (C71 s) K 12 [] x19.2) (PI (C71 s) K 13 [v4,v7,v8,v9,v22,v23,v24] x19.2)):PI (C71 s) K 11 [v4,v5,v6,v7,v8,v9,v22,v23,v24] h:=zB H
theorem P71_12_of (H :
 K .ret [(.int .i64 360)] h):PI (C71 s) K 12 [] h:=zB H
theorem P71_13_of (H :
 EvO (zF E .add 3 v24 (.int .i64 1)) fun x0=>
 PI (C71 s) K 9 [v4,v7,v8,v9,v22,v23,x0] h):PI (C71 s) K 13 [v4,v7,v8,v9,v22,v23,v24] h:=zB H
theorem P71_14_of (H :
 EvO (zF E .add 3 v9 (.int .i64 1)) fun x0=>
 PI (C71 s) K 2 [v7,v8,x0] h):PI (C71 s) K 14 [v7,v8,v9] h:=zB H
theorem P71_15_of (H :
 K .ret [(.int .i64 0)] h):PI (C71 s) K 15 [] h:=zB H
theorem F71_flat (hok:h.ok) (hv:zg v=true) (H:PI (C71 s) (KR E [.tmp 2] fun x k=>x=v/\h.next<=k.wm) 0 [v0] h.fresh):(zX E).call 71 [v0] h=some [(v,h)]:=zAT Tryz.f71 hok hv (zz (C71 s) H)
noncomputable def B72:Code:=ze Tryz.f72
noncomputable def C72 (s:Bool):Cx:=⟨E,s,none,B72,[([0],[0,1,2]),([1,0],[3,4,5]),([1,1,0],[3,4,5,7]),([1,1,1,0,0],[3,4,5,8]),([1,1,1,0,1,0,0,0],[3,4,5,8,25,26,27]),([1,1,1,0,1,0,0,1,1,0,0,0],[3,4,5,8,25,26,27]),([1,1,1,0,1,0,0,1,1,0,0,1,0,0],[3,4,5,8,10,25,26,27]),([1,1,1,0,1,0,0,1,1,0,0,1,0,1,0,0],[]),([1,1,1,0,1,0,0,1,1,0,0,1,1],[3,4,5,8,10,25,26,27]),([1,1,1,0,1,0,0,1,1,1],[3,4,5,8,25,26,27]),([1,1,1,1,0],[5,8]),([1,1,1,1,1,0],[8,11])],[6],[]⟩
abbrev P72_3 (s:Bool) (K:KF) (v3 v4 v5 v8:Value) (h:AH):Prop:=PI (C72 s) K 3 [v3,v4,v5,v8] h
abbrev P72_4 (s:Bool) (K:KF) (v3 v4 v5 v8 v25 v26 v27:Value) (h:AH):Prop:=PI (C72 s) K 4 [v3,v4,v5,v8,v25,v26,v27] h
abbrev P72_7 (s:Bool) (K:KF) (h:AH):Prop:=PI (C72 s) K 7 [] h
abbrev P72_10 (s:Bool) (K:KF) (v5 v8:Value) (h:AH):Prop:=PI (C72 s) K 10 [v5,v8] h
abbrev P72_11 (s:Bool) (K:KF) (v8 v11:Value) (h:AH):Prop:=PI (C72 s) K 11 [v8,v11] h
theorem P72_0_of (H :
 Ev s (zP 25 h v0) fun x0=>
 Ev s (zP 25 x0.2 v1) fun x1=>
 Ev s (zP 32 x1.2 v2) fun x2=>
 PI (C72 s) K 1 [x0.1,x1.1,x2.1] x2.2):PI (C72 s) K 0 [v0,v1,v2] h:=zB H
theorem P72_1_of (H :
 EvO (zG E 25 h v3) fun x0=>
 EvO (zG E 25 h v4) fun x1=>
 Ev s (zi E 82 2 (some [(0,x0),(1,x1)]) h) fun x2=>
 Ev s (zV (zX E) (some (.func (.func 90) #[] #[])) [x2.1] x2.2) fun x3=>
 PI (C72 s) K 2 [v3,v4,v5,x3.1] x3.2):PI (C72 s) K 1 [v3,v4,v5] h:=zB H
theorem P72_2_of (H :
 EvO (zH E 126 v7 (some (.int .i64 0))) fun x1=>
 EvO (zG E 128 h x1) fun x2=>
 EvO (zH E 126 v7 (some (.int .i64 1))) fun x4=>
 EvO (zG E 128 h x4) fun x5=>
 s=false/\(Ev s (one ((.map (some (h).next):Value),(h).new (.map [] 0))) fun x6=>
 EvO (zG E 128 x6.2 x4) fun u6_5=>veq 100 u6_5 x5=true ∧
 (EvO (zG E 128 x6.2 x1) fun u6_2=>veq 100 u6_2 x2=true ∧
 (EvO (zAg E 176 (some [(0,x2),(1,x5),(2,x6.1)])) fun x7=>
 Ev s (zP 176 x6.2 (zv E 176)) fun x8=>
 EvO (zG E 128 x8.2 x4) fun u8_5=>veq 100 u8_5 x5=true ∧
 (EvO (zG E 128 x8.2 x1) fun u8_2=>veq 100 u8_2 x2=true ∧
 (Ev s (zh E 176 x8.2 x8.1 x7) fun x9=>
 PI (C72 s) K 3 [v3,v4,v5,x8.1] x9.2)))))/\(Ev s (zP 176 h (zv E 176)) fun x8=>
 EvO (zG E 128 x8.2 x4) fun u8_5=>veq 100 u8_5 x5=true ∧
 (EvO (zG E 128 x8.2 x1) fun u8_2=>veq 100 u8_2 x2=true ∧
 (Ev s (one ((.map (some (x8.2).next):Value),(x8.2).new (.map [] 0))) fun x6=>
 EvO (zG E 128 x6.2 x4) fun u6_5=>veq 100 u6_5 x5=true ∧
 (EvO (zG E 128 x6.2 x1) fun u6_2=>veq 100 u6_2 x2=true ∧
 (EvO (zAg E 176 (some [(0,x2),(1,x5),(2,x6.1)])) fun x7=>
 Ev s (zh E 176 x6.2 x8.1 x7) fun x9=>
 PI (C72 s) K 3 [v3,v4,v5,x8.1] x9.2)))))):PI (C72 s) K 2 [v3,v4,v5,v7] h:=zB H
theorem P72_3_of (H :
 EvO (zC E 32 1 v5) fun x0=>
 EvO (zG E 26 h x0) fun x1=>
 EvO (zM E (zm [(25,x1)]) (zr B72 [1,1,1,0,0] 2) h) fun x2=>
 PI (C72 s) K 4 [v3,v4,v5,v8,x1,x2,(.int .i64 0)] h):PI (C72 s) K 3 [v3,v4,v5,v8] h:=zB H
theorem len72_3_2:zM E (zm [(25,.slice a n c)]) (zr B72 [1,1,1,0,0] 2) h=some (.int .i64 (n:Int)):=by cases a <;> kernel_rfl
theorem P72_4_of (H :
 EvO (zF E .lss 3 v27 v26) fun x0=>
 BrK x0 (PI (C72 s) K 5 [v3,v4,v5,v8,v25,v26,v27] h) (PI (C72 s) K 10 [v5,v8] h)):PI (C72 s) K 4 [v3,v4,v5,v8,v25,v26,v27] h:=zB H
theorem P72_5_of (H :
 EvO (zH E 26 v25 v27) fun x0=>
 EvO (zG E 54 h x0) fun x1=>
 Ev s (zP 54 h (zv E 54)) fun x2=>
 Ev s (zh E 54 x2.2 x2.1 x1) fun x3=>
 PI (C72 s) K 6 [v3,v4,v5,v8,x2.1,v25,v26,v27] x3.2):PI (C72 s) K 5 [v3,v4,v5,v8,v25,v26,v27] h:=zB H
theorem P72_6_of (H :
 EvO (zH E 54 v10 (some (.int .i64 0))) fun x0=>
 EvO (zG E 3 h x0) fun x1=>
 EvO (zC E 25 0 v3) fun x2=>
 EvO (zG E 3 h x2) fun x3=>
 EvO (zF E .geq 3 x1 x3) fun x4=>
 EvO (gdB x4 false (zH E 54 v10 (some (.int .i64 1)))) fun x6=>
 EvO (gdB x4 false (zG E 3 h x6)) fun x7=>
 EvO (gdB x4 false (zC E 25 0 v4)) fun x8=>
 EvO (gdB x4 false (zG E 3 h x8)) fun x9=>
 EvO (gdB x4 false (zF E .geq 3 x7 x9)) fun x10=>
 EvO (z0 x4 (some (.bool true)) x10) fun x11=>
 BrK x11 (PI (C72 s) K 7 [] h) (PI (C72 s) K 8 [v3,v4,v5,v8,v10,v25,v26,v27] h)):PI (C72 s) K 6 [v3,v4,v5,v8,v10,v25,v26,v27] h:=zB H
theorem P72_7_of (H :
 K .ret [(.bool false)] h):PI (C72 s) K 7 [] h:=zB H
theorem P72_8_of (H :
 EvO (zC E 176 2 v8) fun x0=>
 EvO (zG E 174 h x0) fun x1=>
 EvO (zG E 54 h v10) fun x2=>
 Ev s (zAS E 174 x1 x2 (some (.bool true)) h) fun x3=>
 PI (C72 s) K 9 [v3,v4,v5,v8,v25,v26,v27] x3.2):PI (C72 s) K 8 [v3,v4,v5,v8,v10,v25,v26,v27] h:=zB H
theorem P72_9_of (H :
 EvO (zF E .add 3 v27 (.int .i64 1)) fun x0=>
 PI (C72 s) K 4 [v3,v4,v5,v8,v25,v26,x0] h):PI (C72 s) K 9 [v3,v4,v5,v8,v25,v26,v27] h:=zB H
theorem P72_10_of (H :
 EvO (zC E 32 0 v5) fun x1=>
 EvO (zG E 3 h x1) fun x2=>
 s=false/\(Ev s (zV (zX E) (some (.func (.func 79) #[] #[])) (some []) h) fun x0=>
 EvO (zG E 3 x0.2 x1) fun u0_2=>veq 100 u0_2 x2=true ∧
 (EvO (pIndex E 113 x0.1 x2) fun x3=>
 Ev s (zP 112 x0.2 (zv E 112)) fun x4=>
 EvO (zG E 3 x4.2 x1) fun u4_2=>veq 100 u4_2 x2=true ∧
 (Ev s (zh E 112 x4.2 x4.1 x3) fun x5=>
 PI (C72 s) K 11 [v8,x4.1] x5.2)))/\(Ev s (zP 112 h (zv E 112)) fun x4=>
 EvO (zG E 3 x4.2 x1) fun u4_2=>veq 100 u4_2 x2=true ∧
 (Ev s (zV (zX E) (some (.func (.func 79) #[] #[])) (some []) x4.2) fun x0=>
 EvO (zG E 3 x0.2 x1) fun u0_2=>veq 100 u0_2 x2=true ∧
 (EvO (pIndex E 113 x0.1 x2) fun x3=>
 Ev s (zh E 112 x0.2 x4.1 x3) fun x5=>
 PI (C72 s) K 11 [v8,x4.1] x5.2)))):PI (C72 s) K 10 [v5,v8] h:=zB H
theorem P72_11_of (H :
 EvO (zG E 176 h v8) fun x0=>
 Ev s (zV (zX E) (some (.func (.func 123) #[] #[])) (some [x0,(.int .i64 0),(.int .i64 0)]) h) fun x1=>
 EvO (gdB x1.1 true (zG E 176 x1.2 v8)) fun x3=>
 EvO (gdB x1.1 true (zAg E 178 (some [(0,x3)]))) fun x4=>
 EvO (gdB x1.1 true (zG E 112 x1.2 v11)) fun x5=>
 Ev s (gdW x1.1 true (zV (zX E) (some (.func (.func 124) #[] #[])) [x4,x5] x1.2) x1.2) fun x6=>
 EvO (z0 x1.1 x6.1 (some (.bool false))) fun x7=>
 EvO (gdB x7 true (zG E 176 x6.2 v8)) fun x9=>
 EvO (gdB x7 true (zG E 112 x6.2 v11)) fun x12=>
 Ev s (gdW x7 true (zV (zX E) (some (.func (.func 125) #[] #[])) [x9] x6.2) x6.2) fun x10=>
 EvO (gdB x7 true (zG E 112 x10.2 v11)) fun u10_12=>veq 100 u10_12 x12=true ∧
 (EvO (gdB x7 true (zAg E 178 (some [(0,x10.1)]))) fun x11=>
 Ev s (gdW x7 true (zV (zX E) (some (.func (.func 124) #[] #[])) [x11,x12] x10.2) x10.2) fun x13=>
 EvO (z0 x7 x13.1 (some (.bool false))) fun x14=>
 K .ret [x14] x13.2)):PI (C72 s) K 11 [v8,v11] h:=zB H
theorem F72_flat (hok:h.ok) (hv:zg v=true) (H:PI (C72 s) (KR E [.tmp 6] fun x k=>x=v/\h.next<=k.wm) 0 [v0,v1,v2] h.fresh):(zX E).call 72 [v0,v1,v2] h=some [(v,h)]:=zAT Tryz.f72 hok hv (zz (C72 s) H)
noncomputable def B79:Code:=ze Tryz.f79
noncomputable def C79 (s:Bool):Cx:=⟨E,s,none,B79,[([0],[]),([1,0],[0])],[0],[]⟩
theorem P79_0_of (H :
 Ev s (zP 113 h (zv E 113)) fun x0=>
 PI (C79 s) K 1 [x0.1] x0.2):PI (C79 s) K 0 [] h:=zB H
theorem P79_1_of (H :
 EvO (zAg E 112 (some [(0,(.func (.func 128) #[] #[])),(1,(.func (.func 129) #[] #[])),(2,(.string ⟨#[115,116,114,111,110,103]⟩))])) fun x0=>
 EvO (zAg E 112 (some [(0,(.func (.func 130) #[] #[])),(1,(.func (.func 131) #[] #[])),(2,(.string ⟨#[98,114,97,110,99,104,105,110,103]⟩))])) fun x1=>
 EvO (zAg E 113 (some [(1,x0),(2,x1)])) fun x2=>
 Ev s (zh E 113 h v0 x2) fun x3=>
 K .ret [v0] x3.2):PI (C79 s) K 1 [v0] h:=zB H
theorem F79_flat1 (hok:h.ok) (hv:zj v=true) (H:PI (C79 true) (KR E [.cell 0 113] fun x k=>x=v/\h.next<=k.wm) 0 [] h.fresh):(zX E).call 79 [] h=some [(v,h)]:=flatF1 Tryz.f79 hok hv (zz (C79 true) H)
noncomputable def B90:Code:=ze Tryz.f90
noncomputable def C90 (s:Bool):Cx:=⟨E,s,none,B90,[([0],[0]),([1,0],[0]),([1,1,0,0],[0,3]),([1,1,0,1,0,0,0],[0,3,17,18,19]),([1,1,0,1,0,0,1,1,0,0,0],[0,3,17,18,19]),([1,1,0,1,0,0,1,1,0,0,1,0],[0,3,5,17,18,19]),([1,1,0,1,0,0,1,1,0,0,1,1,0,0,0],[0,3,17,18,19,24,25,26]),([1,1,0,1,0,0,1,1,0,0,1,1,0,0,1,1,0,0,0],[0,3,17,18,19,24,25,26]),([1,1,0,1,0,0,1,1,0,0,1,1,0,0,1,1,0,0,1],[0,3,7,17,18,19,24,25,26]),([1,1,0,1,0,0,1,1,0,0,1,1,0,0,1,1,1],[0,3,17,18,19,24,25,26]),([1,1,0,1,0,0,1,1,1],[0,3,17,18,19]),([1,1,1,0],[0,3]),([1,1,1,1,0,0],[0,3,8]),([1,1,1,1,0,1,0,0,0],[3,8,34,35,36]),([1,1,1,1,0,1,0,0,1,1,0,0,0],[3,8,34,35,36]),([1,1,1,1,0,1,0,0,1,1,0,0,1,0],[3,8,10,34,35,36]),([1,1,1,1,0,1,0,0,1,1,0,0,1,1,0],[3,8,10,11,34,35,36]),([1,1,1,1,0,1,0,0,1,1,0,0,1,1,1,0,0],[3,8,10,11,12,34,35,36]),([1,1,1,1,0,1,0,0,1,1,0,0,1,1,1,0,1,0,0,0],[3,8,10,11,12,34,35,36,50,51,52]),([1,1,1,1,0,1,0,0,1,1,0,0,1,1,1,0,1,0,0,1,1,0,0,0],[3,8,10,11,12,34,35,36,50,51,52]),([1,1,1,1,0,1,0,0,1,1,0,0,1,1,1,0,1,0,0,1,1,0,0,1],[3,8,10,11,12,13,14,34,35,36,50,51,52]),([1,1,1,1,0,1,0,0,1,1,0,0,1,1,1,0,1,0,0,1,1,1],[3,8,10,11,12,34,35,36,50,51,52]),([1,1,1,1,0,1,0,0,1,1,0,0,1,1,1,1,0,0],[3,8,10,11,12,34,35,36]),([1,1,1,1,0,1,0,0,1,1,0,0,1,1,1,1,0,1,0,0,0],[3,8,11,12,34,35,36,64,65,66]),([1,1,1,1,0,1,0,0,1,1,0,0,1,1,1,1,0,1,0,0,1,1,0,0,0],[3,8,11,12,34,35,36,64,65,66]),([1,1,1,1,0,1,0,0,1,1,0,0,1,1,1,1,0,1,0,0,1,1,0,0,1],[3,8,11,12,16,34,35,36,64,65,66]),([1,1,1,1,0,1,0,0,1,1,0,0,1,1,1,1,0,1,0,0,1,1,1],[3,8,11,12,34,35,36,64,65,66]),([1,1,1,1,0,1,0,0,1,1,0,0,1,1,1,1,1],[3,8,11,34,35,36]),([1,1,1,1,0,1,0,0,1,1,1],[3,8,34,35,36]),([1,1,1,1,1,0],[8])],[2],[]⟩
abbrev P90_3 (s:Bool) (K:KF) (v0 v3 v17 v18 v19:Value) (h:AH):Prop:=PI (C90 s) K 3 [v0,v3,v17,v18,v19] h
abbrev P90_6 (s:Bool) (K:KF) (v0 v3 v17 v18 v19 v24 v25 v26:Value) (h:AH):Prop:=PI (C90 s) K 6 [v0,v3,v17,v18,v19,v24,v25,v26] h
abbrev P90_11 (s:Bool) (K:KF) (v0 v3:Value) (h:AH):Prop:=PI (C90 s) K 11 [v0,v3] h
abbrev P90_13 (s:Bool) (K:KF) (v3 v8 v34 v35 v36:Value) (h:AH):Prop:=PI (C90 s) K 13 [v3,v8,v34,v35,v36] h
abbrev P90_18 (s:Bool) (K:KF) (v3 v8 v10 v11 v12 v34 v35 v36 v50 v51 v52:Value) (h:AH):Prop:=PI (C90 s) K 18 [v3,v8,v10,v11,v12,v34,v35,v36,v50,v51,v52] h
abbrev P90_22 (s:Bool) (K:KF) (v3 v8 v10 v11 v12 v34 v35 v36:Value) (h:AH):Prop:=PI (C90 s) K 22 [v3,v8,v10,v11,v12,v34,v35,v36] h
abbrev P90_23 (s:Bool) (K:KF) (v3 v8 v11 v12 v34 v35 v36 v64 v65 v66:Value) (h:AH):Prop:=PI (C90 s) K 23 [v3,v8,v11,v12,v34,v35,v36,v64,v65,v66] h
abbrev P90_27 (s:Bool) (K:KF) (v3 v8 v11 v34 v35 v36:Value) (h:AH):Prop:=PI (C90 s) K 27 [v3,v8,v11,v34,v35,v36] h
theorem P90_0_of (H :
 PI (C90 s) K 1 [v0] h):PI (C90 s) K 0 [v0] h:=zB H
theorem P90_1_of (H :
 Ev s (zP 197 h (zv E 197)) fun x0=>
 PI (C90 s) K 2 [v0,x0.1] x0.2):PI (C90 s) K 1 [v0] h:=zB H
theorem P90_2_of (H :
 EvO (zM E (zm [(17,v0)]) (zr B90 [1,1,0,0] 1) h) fun x1=>
 PI (C90 s) K 3 [v0,v3,v0,x1,(.int .i64 0)] h):PI (C90 s) K 2 [v0,v3] h:=zB H
theorem len90_2_1:zM E (zm [(17,.slice a n c)]) (zr B90 [1,1,0,0] 1) h=some (.int .i64 (n:Int)):=by cases a <;> kernel_rfl
theorem P90_3_of (H :
 EvO (zF E .lss 3 v19 v18) fun x0=>
 BrK x0 (PI (C90 s) K 4 [v0,v3,v17,v18,v19] h) (PI (C90 s) K 11 [v0,v3] h)):PI (C90 s) K 3 [v0,v3,v17,v18,v19] h:=zB H
theorem P90_4_of (H :
 EvO (zH E 82 v17 v19) fun x0=>
 EvO (zG E 25 h x0) fun x1=>
 Ev s (zP 25 h (zv E 25)) fun x2=>
 Ev s (zh E 25 x2.2 x2.1 x1) fun x3=>
 PI (C90 s) K 5 [v0,v3,x2.1,v17,v18,v19] x3.2):PI (C90 s) K 4 [v0,v3,v17,v18,v19] h:=zB H
theorem P90_5_of (H :
 EvO (zC E 25 1 v5) fun x0=>
 EvO (zG E 22 h x0) fun x1=>
 EvO (zM E (zm [(24,x1)]) (zr B90 [1,1,0,1,0,0,1,1,0,0,1,0] 2) h) fun x2=>
 PI (C90 s) K 6 [v0,v3,v17,v18,v19,x1,x2,(.int .i64 0)] h):PI (C90 s) K 5 [v0,v3,v5,v17,v18,v19] h:=zB H
theorem len90_5_2:zM E (zm [(24,.slice a n c)]) (zr B90 [1,1,0,1,0,0,1,1,0,0,1,0] 2) h=some (.int .i64 (n:Int)):=by cases a <;> kernel_rfl
theorem P90_6_of (H :
 EvO (zF E .lss 3 v26 v25) fun x0=>
 BrK x0 (PI (C90 s) K 7 [v0,v3,v17,v18,v19,v24,v25,v26] h) (PI (C90 s) K 10 [v0,v3,v17,v18,v19] h)):PI (C90 s) K 6 [v0,v3,v17,v18,v19,v24,v25,v26] h:=zB H
theorem P90_7_of (H :
 EvO (zH E 22 v24 v26) fun x0=>
 EvO (zG E 36 h x0) fun x1=>
 Ev s (zP 36 h (zv E 36)) fun x2=>
 Ev s (zh E 36 x2.2 x2.1 x1) fun x3=>
 PI (C90 s) K 8 [v0,v3,x2.1,v17,v18,v19,v24,v25,v26] x3.2):PI (C90 s) K 7 [v0,v3,v17,v18,v19,v24,v25,v26] h:=zB H
theorem P90_8_of (H :
 EvO (zG E 36 h v7) fun x0=>
 Ev s (zV (zX E) (some (.func (.func 143) #[] #[])) [v3,x0] h) fun x1=>
 PI (C90 s) K 9 [v0,v3,v17,v18,v19,v24,v25,v26] x1.2):PI (C90 s) K 8 [v0,v3,v7,v17,v18,v19,v24,v25,v26] h:=zB H
theorem P90_9_of (H :
 EvO (zF E .add 3 v26 (.int .i64 1)) fun x0=>
 PI (C90 s) K 6 [v0,v3,v17,v18,v19,v24,v25,x0] h):PI (C90 s) K 9 [v0,v3,v17,v18,v19,v24,v25,v26] h:=zB H
theorem P90_10_of (H :
 EvO (zF E .add 3 v19 (.int .i64 1)) fun x0=>
 PI (C90 s) K 3 [v0,v3,v17,v18,x0] h):PI (C90 s) K 10 [v0,v3,v17,v18,v19] h:=zB H
theorem P90_11_of (H :
 PI (C90 s) K 12 [v0,v3,(.slice none 0 0)] h):PI (C90 s) K 11 [v0,v3] h:=zB H
theorem P90_12_of (H :
 EvO (zM E (zm [(34,v0)]) (zr B90 [1,1,1,1,0,0] 1) h) fun x1=>
 PI (C90 s) K 13 [v3,v8,v0,x1,(.int .i64 0)] h):PI (C90 s) K 12 [v0,v3,v8] h:=zB H
theorem len90_12_1:zM E (zm [(34,.slice a n c)]) (zr B90 [1,1,1,1,0,0] 1) h=some (.int .i64 (n:Int)):=by cases a <;> kernel_rfl
theorem P90_13_of (H :
 EvO (zF E .lss 3 v36 v35) fun x0=>
 BrK x0 (PI (C90 s) K 14 [v3,v8,v34,v35,v36] h) (PI (C90 s) K 29 [v8] h)):PI (C90 s) K 13 [v3,v8,v34,v35,v36] h:=zB H
theorem P90_14_of (H :
 EvO (zH E 82 v34 v36) fun x0=>
 EvO (zG E 25 h x0) fun x1=>
 Ev s (zP 25 h (zv E 25)) fun x2=>
 Ev s (zh E 25 x2.2 x2.1 x1) fun x3=>
 PI (C90 s) K 15 [v3,v8,x2.1,v34,v35,v36] x3.2):PI (C90 s) K 14 [v3,v8,v34,v35,v36] h:=zB H
theorem P90_15_of (H :
 EvO (zC E 25 0 v10) fun x0=>
 EvO (zG E 3 h x0) fun x1=>
 Ev s (zAn E 129 x1 x1 h) fun x2=>
 EvO (zAg E 131 (some [(0,x2.1)])) fun x3=>
 Ev s (zP 131 x2.2 x3) fun x4=>
 PI (C90 s) K 16 [v3,v8,v10,x4.1,v34,v35,v36] x4.2):PI (C90 s) K 15 [v3,v8,v10,v34,v35,v36] h:=zB H
theorem P90_16_of (H :
 EvO (zC E 25 1 v10) fun x0=>
 EvO (zG E 22 h x0) fun x1=>
 EvO (zM E (zm [(46,x1)]) (zr B90 [1,1,1,1,0,1,0,0,1,1,0,0,1,1,0] 2) h) fun x2=>
 Ev s (zAn E 47 x2 x2 h) fun x3=>
 PI (C90 s) K 17 [v3,v8,v10,v11,x3.1,v34,v35,v36] x3.2):PI (C90 s) K 16 [v3,v8,v10,v11,v34,v35,v36] h:=zB H
theorem len90_16_2:zM E (zm [(46,.slice a n c)]) (zr B90 [1,1,1,1,0,1,0,0,1,1,0,0,1,1,0] 2) h=some (.int .i64 (n:Int)):=by cases a <;> kernel_rfl
theorem P90_17_of (H :
 EvO (zC E 25 1 v10) fun x0=>
 EvO (zG E 22 h x0) fun x1=>
 EvO (zM E (zm [(50,x1)]) (zr B90 [1,1,1,1,0,1,0,0,1,1,0,0,1,1,1,0,0] 2) h) fun x2=>
 PI (C90 s) K 18 [v3,v8,v10,v11,v12,v34,v35,v36,x1,x2,(.int .i64 0)] h):PI (C90 s) K 17 [v3,v8,v10,v11,v12,v34,v35,v36] h:=zB H
theorem len90_17_2:zM E (zm [(50,.slice a n c)]) (zr B90 [1,1,1,1,0,1,0,0,1,1,0,0,1,1,1,0,0] 2) h=some (.int .i64 (n:Int)):=by cases a <;> kernel_rfl
theorem P90_18_of (H :
 EvO (zF E .lss 3 v52 v51) fun x0=>
 BrK x0 (PI (C90 s) K 19 [v3,v8,v10,v11,v12,v34,v35,v36,v50,v51,v52] h) (PI (C90 s) K 22 [v3,v8,v10,v11,v12,v34,v35,v36] h)):PI (C90 s) K 18 [v3,v8,v10,v11,v12,v34,v35,v36,v50,v51,v52] h:=zB H
theorem P90_19_of (H :
 EvO (zH E 22 v50 v52) fun x1=>
 EvO (zG E 36 h x1) fun x2=>
 Ev s (zP 36 h (zv E 36)) fun x3=>
 Ev s (zh E 36 x3.2 x3.1 x2) fun x5=>
 PI (C90 s) K 20 [v3,v8,v10,v11,v12,v52,x3.1,v34,v35,v36,v50,v51,v52] x5.2):PI (C90 s) K 19 [v3,v8,v10,v11,v12,v34,v35,v36,v50,v51,v52] h:=zB H
theorem P90_20_of (H :
 EvO (zG E 36 h v14) fun x2=>
 Ev s (zV (zX E) (some (.func (.func 143) #[] #[])) [v3,x2] h) fun x3=>
 EvO (zH E 47 v12 v13) fun x4=>
 Ev s (zh E 3 x3.2 x4 x3.1) fun x5=>
 PI (C90 s) K 21 [v3,v8,v10,v11,v12,v34,v35,v36,v50,v51,v52] x5.2):PI (C90 s) K 20 [v3,v8,v10,v11,v12,v13,v14,v34,v35,v36,v50,v51,v52] h:=zB H
theorem P90_21_of (H :
 EvO (zF E .add 3 v52 (.int .i64 1)) fun x0=>
 PI (C90 s) K 18 [v3,v8,v10,v11,v12,v34,v35,v36,v50,v51,x0] h):PI (C90 s) K 21 [v3,v8,v10,v11,v12,v34,v35,v36,v50,v51,v52] h:=zB H
theorem P90_22_of (H :
 EvO (zC E 25 2 v10) fun x0=>
 EvO (zG E 23 h x0) fun x1=>
 EvO (zM E (zm [(64,x1)]) (zr B90 [1,1,1,1,0,1,0,0,1,1,0,0,1,1,1,1,0,0] 2) h) fun x2=>
 PI (C90 s) K 23 [v3,v8,v11,v12,v34,v35,v36,x1,x2,(.int .i64 0)] h):PI (C90 s) K 22 [v3,v8,v10,v11,v12,v34,v35,v36] h:=zB H
theorem len90_22_2:zM E (zm [(64,.slice a n c)]) (zr B90 [1,1,1,1,0,1,0,0,1,1,0,0,1,1,1,1,0,0] 2) h=some (.int .i64 (n:Int)):=by cases a <;> kernel_rfl
theorem P90_23_of (H :
 EvO (zF E .lss 3 v66 v65) fun x0=>
 BrK x0 (PI (C90 s) K 24 [v3,v8,v11,v12,v34,v35,v36,v64,v65,v66] h) (PI (C90 s) K 27 [v3,v8,v11,v34,v35,v36] h)):PI (C90 s) K 23 [v3,v8,v11,v12,v34,v35,v36,v64,v65,v66] h:=zB H
theorem P90_24_of (H :
 EvO (zH E 23 v64 v66) fun x0=>
 EvO (zG E 52 h x0) fun x1=>
 Ev s (zP 52 h (zv E 52)) fun x2=>
 Ev s (zh E 52 x2.2 x2.1 x1) fun x3=>
 PI (C90 s) K 25 [v3,v8,v11,v12,x2.1,v34,v35,v36,v64,v65,v66] x3.2):PI (C90 s) K 24 [v3,v8,v11,v12,v34,v35,v36,v64,v65,v66] h:=zB H
theorem P90_25_of (H :
 EvO (zAG v11) fun x1=>
 EvO (zC E 131 0 x1) fun x2=>
 EvO (zG E 129 h x2) fun x3=>
 EvO (zC E 52 0 v16) fun x4=>
 EvO (zG E 3 h x4) fun x5=>
 EvO (zAG v11) fun x7=>
 EvO (zC E 131 0 x7) fun x8=>
 EvO (zG E 129 h x8) fun x9=>
 EvO (zC E 52 0 v16) fun x10=>
 EvO (zG E 3 h x10) fun x11=>
 EvO (zH E 129 x9 x11) fun x12=>
 EvO (zG E 132 h x12) fun x13=>
 EvO (zC E 52 1 v16) fun x15=>
 EvO (zG E 3 h x15) fun x16=>
 EvO (zH E 47 v12 x16) fun x17=>
 EvO (zG E 3 h x17) fun x18=>
 EvO (zC E 52 2 v16) fun x19=>
 EvO (zG E 3 h x19) fun x20=>
 EvO (zAg E 134 (some [(0,x18),(1,x20)])) fun x21=>
 Ev s (zi E 132 1 (some [(0,x21)]) h) fun x22=>
 EvO (zG E 132 x22.2 x12) fun u22_13=>veq 100 u22_13 x13=true ∧
 (EvO (zG E 3 x22.2 x10) fun u22_11=>veq 100 u22_11 x11=true ∧
 (EvO (zG E 129 x22.2 x8) fun u22_9=>veq 100 u22_9 x9=true ∧
 (EvO (zG E 3 x22.2 x4) fun u22_5=>veq 100 u22_5 x5=true ∧
 (EvO (zG E 129 x22.2 x2) fun u22_3=>veq 100 u22_3 x3=true ∧
 (Ev s (zAC E .append [132,132] [x13,x22.1] x22.2) fun x23=>
 EvO (zG E 3 x23.2 x4) fun u23_5=>veq 100 u23_5 x5=true ∧
 (EvO (zG E 129 x23.2 x2) fun u23_3=>veq 100 u23_3 x3=true ∧
 (EvO (zH E 129 x3 x5) fun x24=>
 Ev s (zh E 132 x23.2 x24 x23.1) fun x25=>
 PI (C90 s) K 26 [v3,v8,v11,v12,v34,v35,v36,v64,v65,v66] x25.2)))))))):PI (C90 s) K 25 [v3,v8,v11,v12,v16,v34,v35,v36,v64,v65,v66] h:=zB H
theorem P90_26_of (H :
 EvO (zF E .add 3 v66 (.int .i64 1)) fun x0=>
 PI (C90 s) K 23 [v3,v8,v11,v12,v34,v35,v36,v64,v65,x0] h):PI (C90 s) K 26 [v3,v8,v11,v12,v34,v35,v36,v64,v65,v66] h:=zB H
theorem P90_27_of (H :
 Ev s (zi E 126 1 (some [(0,v11)]) h) fun x2=>
 Ev s (zAC E .append [126,126] [v8,x2.1] x2.2) fun x3=>
 PI (C90 s) K 28 [v3,x3.1,v34,v35,v36] x3.2):PI (C90 s) K 27 [v3,v8,v11,v34,v35,v36] h:=zB H
theorem P90_28_of (H :
 EvO (zF E .add 3 v36 (.int .i64 1)) fun x0=>
 PI (C90 s) K 13 [v3,v8,v34,v35,x0] h):PI (C90 s) K 28 [v3,v8,v34,v35,v36] h:=zB H
theorem P90_29_of (H :
 K .ret [v8] h):PI (C90 s) K 29 [v8] h:=zB H
theorem F90_some (H:PI (C90 true) (KR E [.tmp 2] fun x k=>(zj x=false\/k.wm<h.next)/\Rp x ⟨k.t,k.next,cond (Nat.ble h.wm k.wm) h.wm k.wm⟩) 0 [v0] h.fresh):Ev true ((zX E).call 90 [v0] h) fun x=>Rp x.1 x.2:=someF Tryz.f90 (zz (C90 true) H)
noncomputable def B94:Code:=ze Tryz.f94
noncomputable def C94 (s:Bool):Cx:=⟨E,s,none,B94,[([0],[0,1]),([1,0],[0,1]),([1,1,0],[0,1,5]),([1,1,1,0,0],[0,1,5,6]),([1,1,1,0,1,0,0,0],[6]),([1,1,1,0,1,0,0,1,0,0],[]),([1,1,1,0,1,0,1,0],[]),([1,1,1,1,0,0],[0,1,6]),([1,1,1,1,0,1,0,0],[]),([1,1,1,1,1,0,0],[0,1]),([1,1,1,1,1,0,1,0,0],[]),([1,1,1,1,1,1,0,0],[0,1]),([1,1,1,1,1,1,0,1,0,0],[]),([1,1,1,1,1,1,1,0],[])],[4],[]⟩
theorem P94_0_of (H :
 PI (C94 s) K 1 [v0,v1] h):PI (C94 s) K 0 [v0,v1] h:=zB H
theorem P94_1_of (H :
 Ev s (zV (zX E) (some (.func (.func 154) #[] #[])) [v0] h) fun x1=>
 PI (C94 s) K 2 [v0,v1,x1.1] x1.2):PI (C94 s) K 1 [v0,v1] h:=zB H
theorem P94_2_of (H :
 Ev s (zV (zX E) (some (.func (.func 154) #[] #[])) [v1] h) fun x1=>
 PI (C94 s) K 3 [v0,v1,v5,x1.1] x1.2):PI (C94 s) K 2 [v0,v1,v5] h:=zB H
theorem P94_3_of (H :
 BrK v5 (PI (C94 s) K 4 [v6] h) (PI (C94 s) K 7 [v0,v1,v6] h)):PI (C94 s) K 3 [v0,v1,v5,v6] h:=zB H
theorem P94_7_of (H :
 BrK v6 (PI (C94 s) K 8 [] h) (PI (C94 s) K 9 [v0,v1] h)):PI (C94 s) K 7 [v0,v1,v6] h:=zB H
theorem P94_9_of (H :
 EvO (zF E .lss 3 v0 v1) fun x2=>
 BrK x2 (PI (C94 s) K 10 [] h) (PI (C94 s) K 11 [v0,v1] h)):PI (C94 s) K 9 [v0,v1] h:=zB H
theorem P94_10_of (H :
 K .ret [(.int .i64 (-1))] h):PI (C94 s) K 10 [] h:=zB H
theorem P94_11_of (H :
 EvO (zF E .gtr 3 v0 v1) fun x2=>
 BrK x2 (PI (C94 s) K 12 [] h) (PI (C94 s) K 13 [] h)):PI (C94 s) K 11 [v0,v1] h:=zB H
theorem P94_12_of (H :
 K .ret [(.int .i64 1)] h):PI (C94 s) K 12 [] h:=zB H
theorem P94_13_of (H :
 K .ret [(.int .i64 0)] h):PI (C94 s) K 13 [] h:=zB H
theorem F94_flat (hok:h.ok) (hv:zg v=true) (H:PI (C94 s) (KR E [.tmp 4] fun x k=>x=v/\h.next<=k.wm) 0 [v0,v1] h.fresh):(zX E).call 94 [v0,v1] h=some [(v,h)]:=zAT Tryz.f94 hok hv (zz (C94 s) H)
noncomputable def B105:Code:=ze Tryz.f105
noncomputable def C105 (s:Bool):Cx:=⟨E,s,none,B105,[([0],[0]),([1,0],[0])],[2],[]⟩
theorem P105_0_of (H :
 PI (C105 s) K 1 [v0] h):PI (C105 s) K 0 [v0] h:=zB H
theorem P105_1_of (H :
 EvO (zF E .eql 3 v0 (.int .i64 1)) fun x1=>
 EvO (gdB x1 false v0) fun x3=>
 EvO (gdB x1 false (zF E .eql 3 x3 (.int .i64 2))) fun x4=>
 EvO (z0 x1 (some (.bool true)) x4) fun x5=>
 K .ret [x5] h):PI (C105 s) K 1 [v0] h:=zB H
theorem F105_flat (hok:h.ok) (hv:zg v=true) (H:PI (C105 s) (KR E [.tmp 2] fun x k=>x=v/\h.next<=k.wm) 0 [v0] h.fresh):(zX E).call 105 [v0] h=some [(v,h)]:=zAT Tryz.f105 hok hv (zz (C105 s) H)
noncomputable def B121:Code:=ze Tryz.f121
noncomputable def zCk (s:Bool):Cx:=⟨E,s,none,B121,[([0],[0]),([1,0,0],[1]),([1,0,1,0,0],[]),([1,1,0,0],[1]),([1,1,0,1,0,0,0],[1,29,30,31]),([1,1,0,1,0,0,1,1,0,0,0],[1,29,30,31]),([1,1,0,1,0,0,1,1,0,0,1,0],[1,3,4,29,30,31]),([1,1,0,1,0,0,1,1,0,0,1,1,0,0],[]),([1,1,0,1,0,0,1,1,1],[1,29,30,31]),([1,1,1,0],[1]),([1,1,1,1,0,0],[1,5]),([1,1,1,1,0,1,0,0,0],[1,5,56,57,58]),([1,1,1,1,0,1,0,0,1,1,0,0,0],[1,5,56,57,58]),([1,1,1,1,0,1,0,0,1,1,0,0,1,0],[1,5,6,7,56,57,58]),([1,1,1,1,0,1,0,0,1,1,0,0,1,1,0,0],[]),([1,1,1,1,0,1,0,0,1,1,1],[1,5,56,57,58]),([1,1,1,1,1,0],[])],[2],[]⟩
abbrev P121_2 (s:Bool) (K:KF) (h:AH):Prop:=PI (zCk s) K 2 [] h
abbrev P121_3 (s:Bool) (K:KF) (v1:Value) (h:AH):Prop:=PI (zCk s) K 3 [v1] h
abbrev P121_4 (s:Bool) (K:KF) (v1 v29 v30 v31:Value) (h:AH):Prop:=PI (zCk s) K 4 [v1,v29,v30,v31] h
abbrev P121_7 (s:Bool) (K:KF) (h:AH):Prop:=PI (zCk s) K 7 [] h
abbrev P121_8 (s:Bool) (K:KF) (v1 v29 v30 v31:Value) (h:AH):Prop:=PI (zCk s) K 8 [v1,v29,v30,v31] h
abbrev P121_11 (s:Bool) (K:KF) (v1 v5 v56 v57 v58:Value) (h:AH):Prop:=PI (zCk s) K 11 [v1,v5,v56,v57,v58] h
abbrev P121_14 (s:Bool) (K:KF) (h:AH):Prop:=PI (zCk s) K 14 [] h
abbrev P121_15 (s:Bool) (K:KF) (v1 v5 v56 v57 v58:Value) (h:AH):Prop:=PI (zCk s) K 15 [v1,v5,v56,v57,v58] h
theorem P121_0_of (H :
 Ev s (zP 25 h v0) fun x0=>
 PI (zCk s) K 1 [x0.1] x0.2):PI (zCk s) K 0 [v0] h:=zB H
theorem P121_1_of (H :
 EvO (zC E 25 0 v1) fun x0=>
 EvO (zG E 3 h x0) fun x1=>
 EvO (zF E .lss 3 x1 (.int .i64 1)) fun x2=>
 EvO (gdB x2 false (zC E 25 0 v1)) fun x4=>
 EvO (gdB x2 false (zG E 3 h x4)) fun x5=>
 EvO (gdB x2 false (zF E .gtr 3 x5 (.int .i64 20000))) fun x6=>
 EvO (z0 x2 (some (.bool true)) x6) fun x7=>
 EvO (gdB x7 false (zC E 25 1 v1)) fun x9=>
 EvO (gdB x7 false (zG E 22 h x9)) fun x10=>
 EvO (gdB x7 false (zM E (zm [(18,x10)]) (zr B121 [1,0,0] 11) h)) fun x11=>
 EvO (gdB x7 false (zF E .gtr 3 x11 (.int .i64 4000))) fun x12=>
 EvO (z0 x7 (some (.bool true)) x12) fun x13=>
 EvO (gdB x13 false (zC E 25 2 v1)) fun x15=>
 EvO (gdB x13 false (zG E 23 h x15)) fun x16=>
 EvO (gdB x13 false (zM E (zm [(24,x16)]) (zr B121 [1,0,0] 17) h)) fun x17=>
 EvO (gdB x13 false (zF E .gtr 3 x17 (.int .i64 100000))) fun x18=>
 EvO (z0 x13 (some (.bool true)) x18) fun x19=>
 BrK x19 (PI (zCk s) K 2 [] h) (PI (zCk s) K 3 [v1] h)):PI (zCk s) K 1 [v1] h:=zB H
theorem len121_1_11:zM E (zm [(18,.slice a n c)]) (zr B121 [1,0,0] 11) h=some (.int .i64 (n:Int)):=by cases a <;> kernel_rfl
theorem len121_1_17:zM E (zm [(24,.slice a n c)]) (zr B121 [1,0,0] 17) h=some (.int .i64 (n:Int)):=by cases a <;> kernel_rfl
theorem P121_2_of (H :
 K .ret [(.int .i64 8)] h):PI (zCk s) K 2 [] h:=zB H
theorem P121_3_of (H :
 EvO (zC E 25 1 v1) fun x0=>
 EvO (zG E 22 h x0) fun x1=>
 EvO (zM E (zm [(29,x1)]) (zr B121 [1,1,0,0] 2) h) fun x2=>
 PI (zCk s) K 4 [v1,x1,x2,(.int .i64 0)] h):PI (zCk s) K 3 [v1] h:=zB H
theorem len121_3_2:zM E (zm [(29,.slice a n c)]) (zr B121 [1,1,0,0] 2) h=some (.int .i64 (n:Int)):=by cases a <;> kernel_rfl
theorem P121_4_of (H :
 EvO (zF E .lss 3 v31 v30) fun x0=>
 BrK x0 (PI (zCk s) K 5 [v1,v29,v30,v31] h) (PI (zCk s) K 9 [v1] h)):PI (zCk s) K 4 [v1,v29,v30,v31] h:=zB H
theorem P121_5_of (H :
 EvO (zH E 22 v29 v31) fun x1=>
 EvO (zG E 36 h x1) fun x2=>
 Ev s (zP 36 h (zv E 36)) fun x3=>
 Ev s (zh E 36 x3.2 x3.1 x2) fun x5=>
 PI (zCk s) K 6 [v1,v31,x3.1,v29,v30,v31] x5.2):PI (zCk s) K 5 [v1,v29,v30,v31] h:=zB H
theorem P121_6_of (H :
 EvO (zG E 36 h v4) fun x0=>
 Ev s (zV (zX E) (some (.func (.func 167) #[] #[])) [x0] h) fun x1=>
 EvO (zF E .neq 29 x1.1 (.int .i64 0)) fun x2=>
 EvO (gdB x2 false v3) fun x4=>
 EvO (gdB x2 false (zF E .gtr 3 x4 (.int .i64 0))) fun x5=>
 EvO (gdB x2 false x5) fun x6=>
 EvO (gdB x6 true (zC E 25 1 v1)) fun x7=>
 EvO (gdB x6 true (zG E 22 x1.2 x7)) fun x8=>
 EvO (gdB x6 true v3) fun x9=>
 EvO (gdB x6 true (zF E .sub 3 x9 (.int .i64 1))) fun x10=>
 EvO (gdB x6 true (zH E 22 x8 x10)) fun x11=>
 EvO (gdB x6 true (zG E 36 x1.2 x11)) fun x12=>
 EvO (gdB x6 true (zG E 36 x1.2 v4)) fun x13=>
 Ev s (gdW x6 true (zV (zX E) (some (.func (.func 168) #[] #[])) [x12,x13] x1.2) x1.2) fun x14=>
 EvO (gdB x6 true (zF E .geq 3 x14.1 (.int .i64 0))) fun x15=>
 EvO (gdB x2 false (z0 x6 x15 (some (.bool false)))) fun x16=>
 EvO (z0 x2 (some (.bool true)) x16) fun x17=>
 BrK x17 (PI (zCk s) K 7 [] x14.2) (PI (zCk s) K 8 [v1,v29,v30,v31] x14.2)):PI (zCk s) K 6 [v1,v3,v4,v29,v30,v31] h:=zB H
theorem P121_7_of (H :
 K .ret [(.int .i64 8)] h):PI (zCk s) K 7 [] h:=zB H
theorem P121_8_of (H :
 EvO (zF E .add 3 v31 (.int .i64 1)) fun x0=>
 PI (zCk s) K 4 [v1,v29,v30,x0] h):PI (zCk s) K 8 [v1,v29,v30,v31] h:=zB H
theorem P121_9_of (H :
 PI (zCk s) K 10 [v1,(.func (.func 169) #[] #[])] h):PI (zCk s) K 9 [v1] h:=zB H
theorem P121_10_of (H :
 EvO (zC E 25 2 v1) fun x0=>
 EvO (zG E 23 h x0) fun x1=>
 EvO (zM E (zm [(56,x1)]) (zr B121 [1,1,1,1,0,0] 2) h) fun x2=>
 PI (zCk s) K 11 [v1,v5,x1,x2,(.int .i64 0)] h):PI (zCk s) K 10 [v1,v5] h:=zB H
theorem len121_10_2:zM E (zm [(56,.slice a n c)]) (zr B121 [1,1,1,1,0,0] 2) h=some (.int .i64 (n:Int)):=by cases a <;> kernel_rfl
theorem P121_11_of (H :
 EvO (zF E .lss 3 v58 v57) fun x0=>
 BrK x0 (PI (zCk s) K 12 [v1,v5,v56,v57,v58] h) (PI (zCk s) K 16 [] h)):PI (zCk s) K 11 [v1,v5,v56,v57,v58] h:=zB H
theorem P121_12_of (H :
 EvO (zH E 23 v56 v58) fun x1=>
 EvO (zG E 52 h x1) fun x2=>
 Ev s (zP 52 h (zv E 52)) fun x3=>
 Ev s (zh E 52 x3.2 x3.1 x2) fun x5=>
 PI (zCk s) K 13 [v1,v5,v58,x3.1,v56,v57,v58] x5.2):PI (zCk s) K 12 [v1,v5,v56,v57,v58] h:=zB H
theorem P121_13_of (H :
 EvO (zC E 52 0 v7) fun x1=>
 EvO (zG E 3 h x1) fun x2=>
 EvO (zC E 25 0 v1) fun x3=>
 EvO (zG E 3 h x3) fun x4=>
 Ev s (zV (zX E) v5 [x2,x4] h) fun x5=>
 EvO (zAY .not x5.1) fun x6=>
 EvO (gdB x6 false v5) fun x8=>
 EvO (gdB x6 false (zC E 52 2 v7)) fun x9=>
 EvO (gdB x6 false (zG E 3 x5.2 x9)) fun x10=>
 EvO (gdB x6 false (zC E 25 0 v1)) fun x11=>
 EvO (gdB x6 false (zG E 3 x5.2 x11)) fun x12=>
 Ev s (gdW x6 false (zV (zX E) x8 [x10,x12] x5.2) x5.2) fun x13=>
 EvO (gdB x6 false (zAY .not x13.1)) fun x14=>
 EvO (z0 x6 (some (.bool true)) x14) fun x15=>
 EvO (gdB x15 false v5) fun x17=>
 EvO (gdB x15 false (zC E 52 1 v7)) fun x18=>
 EvO (gdB x15 false (zG E 3 x13.2 x18)) fun x19=>
 EvO (gdB x15 false (zC E 25 1 v1)) fun x20=>
 EvO (gdB x15 false (zG E 22 x13.2 x20)) fun x21=>
 EvO (gdB x15 false (zM E (zm [(84,x21)]) (zr B121 [1,1,1,1,0,1,0,0,1,1,0,0,1,0] 22) x13.2)) fun x22=>
 Ev s (gdW x15 false (zV (zX E) x17 [x19,x22] x13.2) x13.2) fun x23=>
 EvO (gdB x15 false (zAY .not x23.1)) fun x24=>
 EvO (z0 x15 (some (.bool true)) x24) fun x25=>
 EvO (gdB x25 false v6) fun x27=>
 EvO (gdB x25 false (zF E .gtr 3 x27 (.int .i64 0))) fun x28=>
 EvO (gdB x25 false x28) fun x29=>
 EvO (gdB x29 true (zC E 25 2 v1)) fun x30=>
 EvO (gdB x29 true (zG E 23 x23.2 x30)) fun x31=>
 EvO (gdB x29 true v6) fun x32=>
 EvO (gdB x29 true (zF E .sub 3 x32 (.int .i64 1))) fun x33=>
 EvO (gdB x29 true (zH E 23 x31 x33)) fun x34=>
 EvO (gdB x29 true (zG E 52 x23.2 x34)) fun x35=>
 EvO (gdB x29 true (zG E 52 x23.2 v7)) fun x36=>
 Ev s (gdW x29 true (zV (zX E) (some (.func (.func 170) #[] #[])) [x35,x36] x23.2) x23.2) fun x37=>
 EvO (gdB x29 true (zF E .geq 3 x37.1 (.int .i64 0))) fun x38=>
 EvO (gdB x25 false (z0 x29 x38 (some (.bool false)))) fun x39=>
 EvO (z0 x25 (some (.bool true)) x39) fun x40=>
 BrK x40 (PI (zCk s) K 14 [] x37.2) (PI (zCk s) K 15 [v1,v5,v56,v57,v58] x37.2)):PI (zCk s) K 13 [v1,v5,v6,v7,v56,v57,v58] h:=zB H
theorem len121_13_22:zM E (zm [(84,.slice a n c)]) (zr B121 [1,1,1,1,0,1,0,0,1,1,0,0,1,0] 22) h=some (.int .i64 (n:Int)):=by cases a <;> kernel_rfl
theorem P121_14_of (H :
 K .ret [(.int .i64 8)] h):PI (zCk s) K 14 [] h:=zB H
theorem P121_15_of (H :
 EvO (zF E .add 3 v58 (.int .i64 1)) fun x0=>
 PI (zCk s) K 11 [v1,v5,v56,v57,x0] h):PI (zCk s) K 15 [v1,v5,v56,v57,v58] h:=zB H
theorem P121_16_of (H :
 K .ret [(.int .i64 0)] h):PI (zCk s) K 16 [] h:=zB H
theorem F121_flat (hok:h.ok) (hv:zg v=true) (H:PI (zCk s) (KR E [.tmp 2] fun x k=>x=v/\h.next<=k.wm) 0 [v0] h.fresh):(zX E).call 121 [v0] h=some [(v,h)]:=zAT Tryz.f121 hok hv (zz (zCk s) H)
noncomputable def B122:Code:=ze Tryz.f122
noncomputable def C122 (s:Bool):Cx:=⟨E,s,none,B122,[([0],[0,1]),([1,0],[2,3])],[4],[]⟩
theorem P122_0_of (H :
 Ev s (zP 54 h v0) fun x0=>
 Ev s (zP 54 x0.2 v1) fun x1=>
 PI (C122 s) K 1 [x0.1,x1.1] x1.2):PI (C122 s) K 0 [v0,v1] h:=zB H
theorem P122_1_of (H :
 EvO (zH E 54 v2 (some (.int .i64 0))) fun x0=>
 EvO (zG E 3 h x0) fun x1=>
 EvO (zH E 54 v3 (some (.int .i64 0))) fun x2=>
 EvO (zG E 3 h x2) fun x3=>
 EvO (zH E 54 v2 (some (.int .i64 1))) fun x5=>
 EvO (zG E 3 h x5) fun x6=>
 EvO (zH E 54 v3 (some (.int .i64 1))) fun x7=>
 EvO (zG E 3 h x7) fun x8=>
 Ev s (zV (zX E) (some (.func (.func 94) #[] #[])) [x1,x3] h) fun x4=>
 EvO (zG E 3 x4.2 x7) fun u4_8=>veq 100 u4_8 x8=true ∧
 (EvO (zG E 3 x4.2 x5) fun u4_6=>veq 100 u4_6 x6=true ∧
 (Ev s (zV (zX E) (some (.func (.func 94) #[] #[])) [x6,x8] x4.2) fun x9=>
 Ev s (zi E 47 2 (some [(0,x4.1),(1,x9.1)]) x9.2) fun x10=>
 Ev s (zV (zX E) (some (.func (.func 171) #[] #[])) [x10.1] x10.2) fun x11=>
 K .ret [x11.1] x11.2))):PI (C122 s) K 1 [v2,v3] h:=zB H
theorem F122_flat (hok:h.ok) (hv:zg v=true) (H:PI (C122 s) (KR E [.tmp 4] fun x k=>x=v/\h.next<=k.wm) 0 [v0,v1] h.fresh):(zX E).call 122 [v0,v1] h=some [(v,h)]:=zAT Tryz.f122 hok hv (zz (C122 s) H)
noncomputable def B123:Code:=ze Tryz.f123
noncomputable def C123 (s:Bool):Cx:=⟨E,s,none,B123,[([0],[0,1,2]),([1,0],[1,2,3])],[6],[]⟩
theorem P123_0_of (H :
 Ev s (zP 176 h v0) fun x0=>
 PI (C123 s) K 1 [v1,v2,x0.1] x0.2):PI (C123 s) K 0 [v0,v1,v2] h:=zB H
theorem P123_1_of (H :
 EvO (zC E 176 2 v3) fun x0=>
 EvO (zG E 174 h x0) fun x1=>
 EvO (zAg E 54 (some [(0,v1),(1,v2)])) fun x4=>
 EvO (zDG E 174 false x1 x4 h) fun x5=>
 K .ret [x5] h):PI (C123 s) K 1 [v1,v2,v3] h:=zB H
theorem F123_flat (hok:h.ok) (hv:zg v=true) (H:PI (C123 s) (KR E [.tmp 6] fun x k=>x=v/\h.next<=k.wm) 0 [v0,v1,v2] h.fresh):(zX E).call 123 [v0,v1,v2] h=some [(v,h)]:=zAT Tryz.f123 hok hv (zz (C123 s) H)
noncomputable def B124:Code:=ze Tryz.f124
noncomputable def C124 (s:Bool):Cx:=⟨E,s,none,B124,[([0],[0,1]),([1,0,0],[2,3]),([1,0,1,0,0,0],[2,3,11]),([1,0,1,0,0,1,1,0,0],[2,3,11]),([1,0,1,0,0,1,1,0,1,0],[2,3,5,11]),([1,0,1,0,0,1,1,0,1,1,0,0,0],[2,3,5,11,25,26,27]),([1,0,1,0,0,1,1,0,1,1,0,0,1,1,0,0,0],[2,3,5,11,25,26,27]),([1,0,1,0,0,1,1,0,1,1,0,0,1,1,0,0,1,0],[2,3,5,7,11,25,26,27]),([1,0,1,0,0,1,1,0,1,1,0,0,1,1,0,0,1,1,0,0],[]),([1,0,1,0,0,1,1,0,1,1,0,0,1,1,1],[2,3,5,11,25,26,27]),([1,1,0],[])],[4],[]⟩
abbrev P124_2 (s:Bool) (K:KF) (v2 v3 v11:Value) (h:AH):Prop:=PI (C124 s) K 2 [v2,v3,v11] h
abbrev P124_5 (s:Bool) (K:KF) (v2 v3 v5 v11 v25 v26 v27:Value) (h:AH):Prop:=PI (C124 s) K 5 [v2,v3,v5,v11,v25,v26,v27] h
theorem P124_0_of (H :
 Ev s (zP 178 h v0) fun x0=>
 Ev s (zP 112 x0.2 v1) fun x1=>
 PI (C124 s) K 1 [x0.1,x1.1] x1.2):PI (C124 s) K 0 [v0,v1] h:=zB H
theorem P124_1_of (H :
 EvO (zC E 178 0 v2) fun x0=>
 EvO (zC E 176 2 x0) fun x1=>
 EvO (zG E 174 h x1) fun x2=>
 Ev s (wRange x2 h) fun x3=>
 PI (C124 s) K 2 [v2,v3,x3.1] x3.2):PI (C124 s) K 1 [v2,v3] h:=zB H
theorem P124_2_of (H :
 Ev s (wNext false v11 h) fun x0=>
 EvO (zAJ 0 x0.1) fun x1=>
 BrK x1 (PI (C124 s) K 3 [v2,v3,v11] x0.2) (PI (C124 s) K 10 [] x0.2)):PI (C124 s) K 2 [v2,v3,v11] h:=zB H
theorem P124_3_of (H :
 EvO (rEntry v11 h) fun x0=>
 EvO (zAJ 0 x0) fun x1=>
 Ev s (zP 54 h (zv E 54)) fun x2=>
 Ev s (zh E 54 x2.2 x2.1 x1) fun x3=>
 PI (C124 s) K 4 [v2,v3,x2.1,v11] x3.2):PI (C124 s) K 3 [v2,v3,v11] h:=zB H
theorem P124_4_of (H :
 EvO (zC E 178 0 v2) fun x0=>
 EvO (zC E 176 0 x0) fun x1=>
 EvO (zG E 128 h x1) fun x2=>
 EvO (zAG x2) fun x3=>
 EvO (zC E 131 0 x3) fun x4=>
 EvO (zG E 129 h x4) fun x5=>
 EvO (zH E 54 v5 (some (.int .i64 0))) fun x6=>
 EvO (zG E 3 h x6) fun x7=>
 EvO (zH E 129 x5 x7) fun x8=>
 EvO (zG E 132 h x8) fun x9=>
 EvO (zM E (zm [(25,x9)]) (zr B124 [1,0,1,0,0,1,1,0,1,0] 10) h) fun x10=>
 PI (C124 s) K 5 [v2,v3,v5,v11,x9,x10,(.int .i64 0)] h):PI (C124 s) K 4 [v2,v3,v5,v11] h:=zB H
theorem len124_4_10:zM E (zm [(25,.slice a n c)]) (zr B124 [1,0,1,0,0,1,1,0,1,0] 10) h=some (.int .i64 (n:Int)):=by cases a <;> kernel_rfl
theorem P124_5_of (H :
 EvO (zF E .lss 3 v27 v26) fun x0=>
 BrK x0 (PI (C124 s) K 6 [v2,v3,v5,v11,v25,v26,v27] h) (PI (C124 s) K 2 [v2,v3,v11] h)):PI (C124 s) K 5 [v2,v3,v5,v11,v25,v26,v27] h:=zB H
theorem P124_6_of (H :
 EvO (zH E 132 v25 v27) fun x0=>
 EvO (zG E 134 h x0) fun x1=>
 Ev s (zP 134 h (zv E 134)) fun x2=>
 Ev s (zh E 134 x2.2 x2.1 x1) fun x3=>
 PI (C124 s) K 7 [v2,v3,v5,x2.1,v11,v25,v26,v27] x3.2):PI (C124 s) K 6 [v2,v3,v5,v11,v25,v26,v27] h:=zB H
theorem P124_7_of (H :
 EvO (zC E 112 0 v3) fun x0=>
 EvO (zG E 109 h x0) fun x1=>
 EvO (zG E 178 h v2) fun x2=>
 EvO (zH E 54 v5 (some (.int .i64 0))) fun x3=>
 EvO (zG E 3 h x3) fun x4=>
 EvO (zH E 54 v5 (some (.int .i64 1))) fun x5=>
 EvO (zG E 3 h x5) fun x6=>
 EvO (zG E 134 h v7) fun x7=>
 Ev s (zV (zX E) x1 [x2,x4,x6,x7] h) fun x8=>
 EvO (zAY .not x8.1) fun x9=>
 BrK x9 (PI (C124 s) K 8 [] x8.2) (PI (C124 s) K 9 [v2,v3,v5,v11,v25,v26,v27] x8.2)):PI (C124 s) K 7 [v2,v3,v5,v7,v11,v25,v26,v27] h:=zB H
theorem P124_8_of (H :
 K .ret [(.bool false)] h):PI (C124 s) K 8 [] h:=zB H
theorem P124_9_of (H :
 EvO (zF E .add 3 v27 (.int .i64 1)) fun x0=>
 PI (C124 s) K 5 [v2,v3,v5,v11,v25,v26,x0] h):PI (C124 s) K 9 [v2,v3,v5,v11,v25,v26,v27] h:=zB H
theorem P124_10_of (H :
 K .ret [(.bool true)] h):PI (C124 s) K 10 [] h:=zB H
theorem F124_flat (hok:h.ok) (hv:zg v=true) (H:PI (C124 s) (KR E [.tmp 4] fun x k=>x=v/\h.next<=k.wm) 0 [v0,v1] h.fresh):(zX E).call 124 [v0,v1] h=some [(v,h)]:=zAT Tryz.f124 hok hv (zz (C124 s) H)
noncomputable def B125:Code:=ze Tryz.f125
noncomputable def C125 (s:Bool):Cx:=⟨E,s,none,B125,[([0],[0]),([1,0],[1,2]),([1,1,0,0],[1,2,3]),([1,1,0,1,0,0,0],[2,3,13]),([1,1,0,1,0,0,1,1,0,0],[2,3,13]),([1,1,0,1,0,0,1,1,0,1],[2,3,4,13]),([1,1,1,0],[2,3])],[2],[]⟩
abbrev P125_3 (s:Bool) (K:KF) (v2 v3 v13:Value) (h:AH):Prop:=PI (C125 s) K 3 [v2,v3,v13] h
def Q125_0 (s:Bool) (K:KF) (v0:Value) (h:AH):Prop:=
 Ev s (zP 176 h v0) fun x0=>
 Ev s (zP 176 x0.2 (zv E 176)) fun x1=>
 PI (C125 s) K 1 [x0.1,x1.1] x1.2
theorem P125_0_of (H:Q125_0 s K v0 h):PI (C125 s) K 0 [v0] h:=zB H
def Q125_1 (s:Bool) (K:KF) (v1 v2:Value) (h:AH):Prop:=
 EvO (zC E 176 1 v1) fun x0=>
 EvO (zG E 128 h x0) fun x1=>
 EvO (zC E 176 0 v1) fun x2=>
 EvO (zG E 128 h x2) fun x3=>
 Ev s (one ((.map (some (h).next):Value),(h).new (.map [] 0))) fun x4=>
 EvO (zAg E 176 (some [(0,x1),(1,x3),(2,x4.1)])) fun x5=>
 Ev s (zP 176 x4.2 (zv E 176)) fun x6=>
 Ev s (zh E 176 x6.2 x6.1 x5) fun x7=>
 PI (C125 s) K 2 [v1,v2,x6.1] x7.2
theorem P125_1_of (H:Q125_1 s K v1 v2 h):PI (C125 s) K 1 [v1,v2] h:=zB H
def Q125_2 (s:Bool) (K:KF) (v1 v2 v3:Value) (h:AH):Prop:=
 EvO (zC E 176 2 v1) fun x0=>
 EvO (zG E 174 h x0) fun x1=>
 Ev s (wRange x1 h) fun x2=>
 PI (C125 s) K 3 [v2,v3,x2.1] x2.2
theorem P125_2_of (H:Q125_2 s K v1 v2 v3 h):PI (C125 s) K 2 [v1,v2,v3] h:=zB H
def Q125_3 (s:Bool) (K:KF) (v2 v3 v13:Value) (h:AH):Prop:=
 Ev s (wNext false v13 h) fun x0=>
 EvO (zAJ 0 x0.1) fun x1=>
 BrK x1 (PI (C125 s) K 4 [v2,v3,v13] x0.2) (PI (C125 s) K 6 [v2,v3] x0.2)
theorem P125_3_of (H:Q125_3 s K v2 v3 v13 h):PI (C125 s) K 3 [v2,v3,v13] h:=zB H
def Q125_4 (s:Bool) (K:KF) (v2 v3 v13:Value) (h:AH):Prop:=
 EvO (rEntry v13 h) fun x0=>
 EvO (zAJ 0 x0) fun x1=>
 Ev s (zP 54 h (zv E 54)) fun x2=>
 Ev s (zh E 54 x2.2 x2.1 x1) fun x3=>
 PI (C125 s) K 5 [v2,v3,x2.1,v13] x3.2
theorem P125_4_of (H:Q125_4 s K v2 v3 v13 h):PI (C125 s) K 4 [v2,v3,v13] h:=zB H
def Q125_5 (s:Bool) (K:KF) (v2 v3 v4 v13:Value) (h:AH):Prop:=
 EvO (zC E 176 2 v3) fun x0=>
 EvO (zG E 174 h x0) fun x1=>
 EvO (zH E 54 v4 (some (.int .i64 1))) fun x2=>
 EvO (zG E 3 h x2) fun x3=>
 EvO (zH E 54 v4 (some (.int .i64 0))) fun x4=>
 EvO (zG E 3 h x4) fun x5=>
 EvO (zAg E 54 (some [(0,x3),(1,x5)])) fun x6=>
 Ev s (zAS E 174 x1 x6 (some (.bool true)) h) fun x7=>
 PI (C125 s) K 3 [v2,v3,v13] x7.2
theorem P125_5_of (H:Q125_5 s K v2 v3 v4 v13 h):PI (C125 s) K 5 [v2,v3,v4,v13] h:=zB H
def Q125_6 (s:Bool) (K:KF) (v2 v3:Value) (h:AH):Prop:=
 EvO (zG E 176 h v3) fun x0=>
 Ev s (zh E 176 h v2 x0) fun x1=>
 K .ret [v2] x1.2
theorem P125_6_of (H:Q125_6 s K v2 v3 h):PI (C125 s) K 6 [v2,v3] h:=zB H
theorem F125_ev (H:PI (C125 s) (KR E [.cell 2 176] Rp) 0 [v0] h):EvC E s Tryz.f125 [v0] h Rp:=zz (C125 s) H
theorem F125_get:E.tab.fn.get 125=some Tryz.f125:=by kernel_rfl
theorem F125_body:Tryz.f125.body=some B125:=by kernel_rfl
theorem F125_sum (l:List Value) (h:AH):E.sum 125 l h=none:=by kernel_rfl
noncomputable def B128:Code:=ze Tryz.f128
noncomputable def C128 (s:Bool):Cx:=⟨E,s,none,B128,[([0],[0,2,3]),([1,0],[2,4,7])],[8],[]⟩
theorem P128_0_of (H :
 Ev s (zP 178 h v0) fun x0=>
 Ev s (zP 134 x0.2 v3) fun x1=>
 PI (C128 s) K 1 [v2,x0.1,x1.1] x1.2):PI (C128 s) K 0 [v0,v2,v3] h:=zB H
theorem P128_1_of (H :
 EvO (zC E 178 0 v4) fun x0=>
 EvO (zC E 176 1 x0) fun x1=>
 EvO (zG E 128 h x1) fun x2=>
 EvO (zAG x2) fun x3=>
 EvO (zC E 131 0 x3) fun x4=>
 EvO (zG E 129 h x4) fun x5=>
 EvO (zH E 129 x5 v2) fun x7=>
 EvO (zG E 132 h x7) fun x8=>
 EvO (zAR (.func 174) (some []) [v7,v4]) fun x9=>
 Ev s (zV (zX E) (some (.func (.func 173) #[] #[])) [x8,x9] h) fun x10=>
 K .ret [x10.1] x10.2):PI (C128 s) K 1 [v2,v4,v7] h:=zB H
theorem F128_flat (hok:h.ok) (hv:zg v=true) (H:PI (C128 s) (KR E [.tmp 8] fun x k=>x=v/\h.next<=k.wm) 0 [v0,v2,v3] h.fresh):(zX E).call 128 [v0,v1,v2,v3] h=some [(v,h)]:=zAT Tryz.f128 hok hv (zz (C128 s) H)
noncomputable def B130:Code:=ze Tryz.f130
theorem F130_get:E.tab.fn.get 130=some Tryz.f130:=by kernel_rfl
theorem F130_body:Tryz.f130.body=some B130:=by kernel_rfl
theorem F130_sum (l:List Value) (h:AH):E.sum 130 l h=none:=by kernel_rfl
noncomputable def B143:Code:=ze Tryz.f143
noncomputable def C143 (s:Bool):Cx:=⟨E,s,none,B143,[([0],[0,1]),([1,0,0],[0,3]),([1,0,1,0,0],[]),([1,1,0],[0,3]),([1,1,1,0,0],[0,3,5,6]),([1,1,1,0,1,0],[0,3,5]),([1,1,1,1,0],[5])],[4],[]⟩
abbrev P143_0 (s:Bool) (K:KF) (v0 v1:Value) (h:AH):Prop:=PI (C143 s) K 0 [v0,v1] h
abbrev P143_1 (s:Bool) (K:KF) (v0 v3:Value) (h:AH):Prop:=PI (C143 s) K 1 [v0,v3] h
abbrev P143_4 (s:Bool) (K:KF) (v0 v3 v5 v6:Value) (h:AH):Prop:=PI (C143 s) K 4 [v0,v3,v5,v6] h
abbrev P143_6 (s:Bool) (K:KF) (v5:Value) (h:AH):Prop:=PI (C143 s) K 6 [v5] h
theorem P143_0_of (H :
 Ev s (zP 36 h v1) fun x0=>
 PI (C143 s) K 1 [v0,x0.1] x0.2):PI (C143 s) K 0 [v0,v1] h:=zB H
theorem P143_1_of (H :
 EvO (zC E 36 0 v3) fun x0=>
 EvO (zG E 3 h x0) fun x1=>
 EvO (zF E .eql 3 x1 (.int .i64 (-1))) fun x2=>
 BrK x2 (PI (C143 s) K 2 [] h) (PI (C143 s) K 3 [v0,v3] h)):PI (C143 s) K 1 [v0,v3] h:=zB H
theorem P143_2_of (H :
 K .ret [(.int .i64 0)] h):PI (C143 s) K 2 [] h:=zB H
theorem P143_3_of (H :
 EvO (zAG v0) fun x1=>
 EvO (zC E 197 0 x1) fun x2=>
 EvO (zG E 22 h x2) fun x3=>
 EvO (zG E 36 h v3) fun x4=>
 Ev s (zV (zX E) (some (.func (.func 190) #[] #[])) (some [x3,x4,(.func (.func 168) #[] #[])]) h) fun x5=>
 EvO (zAJ 0 x5.1) fun x7=>
 EvO (zAJ 1 x5.1) fun x8=>
 PI (C143 s) K 4 [v0,v3,x7,x8] x5.2):PI (C143 s) K 3 [v0,v3] h:=zB H
theorem P143_4_of (H :
 EvO (zAY .not v6) fun x1=>
 BrK x1 (PI (C143 s) K 5 [v0,v3,v5] h) (PI (C143 s) K 6 [v5] h)):PI (C143 s) K 4 [v0,v3,v5,v6] h:=zB H
theorem P143_5_of (H :
 EvO (zAG v0) fun x2=>
 EvO (zC E 197 0 x2) fun x3=>
 EvO (zG E 22 h x3) fun x4=>
 EvO (zG E 36 h v3) fun x6=>
 Ev s (zi E 22 1 (some [(0,x6)]) h) fun x7=>
 EvO (zG E 22 x7.2 x3) fun u7_4=>veq 100 u7_4 x4=true ∧
 (Ev s (zV (zX E) (some (.func (.func 191) #[] #[])) [x4,v5,x7.1] x7.2) fun x8=>
 EvO (zAG v0) fun x9=>
 EvO (zC E 197 0 x9) fun x10=>
 Ev s (zh E 22 x8.2 x10 x8.1) fun x11=>
 PI (C143 s) K 6 [v5] x11.2)):PI (C143 s) K 5 [v0,v3,v5] h:=zB H
theorem P143_6_of (H :
 EvO (zF E .add 3 v5 (.int .i64 1)) fun x1=>
 K .ret [x1] h):PI (C143 s) K 6 [v5] h:=zB H
theorem F143_flat1 (hok:h.ok) (hv:zj v=true) (H:PI (C143 true) (KR E [.tmp 4] fun x k=>x=v/\h.next<=k.wm) 0 [v0,v1] h.fresh):(zX E).call 143 [v0,v1] h=some [(v,h)]:=flatF1 Tryz.f143 hok hv (zz (C143 true) H)
theorem F143_some (H:PI (C143 true) (KR E [.tmp 4] fun x k=>(zj x=false\/k.wm<h.next)/\Rp x ⟨k.t,k.next,cond (Nat.ble h.wm k.wm) h.wm k.wm⟩) 0 [v0,v1] h.fresh):Ev true ((zX E).call 143 [v0,v1] h) fun x=>Rp x.1 x.2:=someF Tryz.f143 (zz (C143 true) H)
noncomputable def B154:Code:=ze Tryz.f154
noncomputable def C154 (s:Bool):Cx:=⟨E,s,none,B154,[([0],[0]),([1,0],[0])],[2],[]⟩
theorem P154_0_of (H :
 PI (C154 s) K 1 [v0] h):PI (C154 s) K 0 [v0] h:=zB H
theorem P154_1_of (H :
 EvO (zF E .neq 3 v0 v0) fun x2=>
 K .ret [x2] h):PI (C154 s) K 1 [v0] h:=zB H
theorem F154_flat (hok:h.ok) (hv:zg v=true) (H:PI (C154 s) (KR E [.tmp 2] fun x k=>x=v/\h.next<=k.wm) 0 [v0] h.fresh):(zX E).call 154 [v0] h=some [(v,h)]:=zAT Tryz.f154 hok hv (zz (C154 s) H)
noncomputable def B167:Code:=ze Tryz.f167
noncomputable def C167 (s:Bool):Cx:=⟨E,s,none,B167,[([0],[0]),([1,0],[1]),([1,1,0,0],[1,3]),([1,1,0,1,0,0],[]),([1,1,1,0],[])],[2],[]⟩
abbrev P167_2 (s:Bool) (K:KF) (v1 v3:Value) (h:AH):Prop:=PI (C167 s) K 2 [v1,v3] h
abbrev P167_3 (s:Bool) (K:KF) (h:AH):Prop:=PI (C167 s) K 3 [] h
abbrev P167_4 (s:Bool) (K:KF) (h:AH):Prop:=PI (C167 s) K 4 [] h
theorem P167_0_of (H :
 Ev s (zP 36 h v0) fun x0=>
 PI (C167 s) K 1 [x0.1] x0.2):PI (C167 s) K 0 [v0] h:=zB H
theorem P167_1_of (H :
 EvO (zC E 36 0 v1) fun x0=>
 EvO (zG E 3 h x0) fun x1=>
 EvO (zF E .eql 3 x1 (.int .i64 (-3))) fun x2=>
 EvO (gdB x2 false (zC E 36 0 v1)) fun x4=>
 EvO (gdB x2 false (zG E 3 h x4)) fun x5=>
 EvO (gdB x2 false (zF E .eql 3 x5 (.int .i64 (-1)))) fun x6=>
 EvO (z0 x2 (some (.bool true)) x6) fun x7=>
 PI (C167 s) K 2 [v1,x7] h):PI (C167 s) K 1 [v1] h:=zB H
theorem P167_2_of (H :
 EvO (zC E 36 0 v1) fun x0=>
 EvO (zG E 3 h x0) fun x1=>
 EvO (zF E .lss 3 x1 (.int .i64 (-3))) fun x2=>
 EvO (gdB x2 false (zC E 36 0 v1)) fun x4=>
 EvO (gdB x2 false (zG E 3 h x4)) fun x5=>
 EvO (gdB x2 false (zF E .geq 3 x5 (.int .i64 32))) fun x6=>
 EvO (z0 x2 (some (.bool true)) x6) fun x7=>
 EvO (gdB x7 false (zC E 36 1 v1)) fun x9=>
 EvO (gdB x7 false (zG E 34 h x9)) fun x10=>
 EvO (gdB x7 false (zM E (zm [(22,x10)]) (zr B167 [1,1,0,0] 11) h)) fun x11=>
 EvO (gdB x7 false (zF E .gtr 3 x11 (.int .i64 8))) fun x12=>
 EvO (z0 x7 (some (.bool true)) x12) fun x13=>
 EvO (gdB x13 false v3) fun x15=>
 EvO (gdB x13 false x15) fun x16=>
 EvO (gdB x16 true (zC E 36 1 v1)) fun x17=>
 EvO (gdB x16 true (zG E 34 h x17)) fun x18=>
 EvO (gdB x16 true (zM E (zm [(30,x18)]) (zr B167 [1,1,0,0] 19) h)) fun x19=>
 EvO (gdB x16 true (zF E .gtr 3 x19 (.int .i64 0))) fun x20=>
 EvO (gdB x13 false (z0 x16 x20 (some (.bool false)))) fun x21=>
 EvO (z0 x13 (some (.bool true)) x21) fun x22=>
 EvO (gdB x22 false (zC E 36 1 v1)) fun x24=>
 EvO (gdB x22 false (zG E 34 h x24)) fun x25=>
 Ev s (gdW x22 false (zV (zX E) (some (.func (.func 215) #[] #[])) (some [x25,(.func (.func 216) #[] #[])]) h) h) fun x26=>
 EvO (z0 x22 (some (.bool true)) x26.1) fun x27=>
 BrK x27 (PI (C167 s) K 3 [] x26.2) (PI (C167 s) K 4 [] x26.2)):PI (C167 s) K 2 [v1,v3] h:=zB H
theorem zDI:zM E (zm [(22,.slice a n c)]) (zr B167 [1,1,0,0] 11) h=some (.int .i64 (n:Int)):=by cases a <;> kernel_rfl
theorem len167_2_19:zM E (zm [(30,.slice a n c)]) (zr B167 [1,1,0,0] 19) h=some (.int .i64 (n:Int)):=by cases a <;> kernel_rfl
theorem P167_3_of (H :
 K .ret [(.int .i64 170)] h):PI (C167 s) K 3 [] h:=zB H
theorem P167_4_of (H :
 K .ret [(.int .i64 0)] h):PI (C167 s) K 4 [] h:=zB H
theorem F167_flat (hok:h.ok) (hv:zg v=true) (H:PI (C167 s) (KR E [.tmp 2] fun x k=>x=v/\h.next<=k.wm) 0 [v0] h.fresh):(zX E).call 167 [v0] h=some [(v,h)]:=zAT Tryz.f167 hok hv (zz (C167 s) H)
noncomputable def B168:Code:=ze Tryz.f168
noncomputable def C168 (s:Bool):Cx:=⟨E,s,none,B168,[([0],[0,1]),([1,0],[2,3])],[4],[]⟩
theorem P168_0_of (H :
 Ev s (zP 36 h v0) fun x0=>
 Ev s (zP 36 x0.2 v1) fun x1=>
 PI (C168 s) K 1 [x0.1,x1.1] x1.2):PI (C168 s) K 0 [v0,v1] h:=zB H
theorem P168_1_of (H :
 EvO (zC E 36 0 v2) fun x0=>
 EvO (zG E 3 h x0) fun x1=>
 EvO (zC E 36 0 v3) fun x2=>
 EvO (zG E 3 h x2) fun x3=>
 EvO (zC E 36 1 v2) fun x5=>
 EvO (zG E 34 h x5) fun x6=>
 EvO (zC E 36 1 v3) fun x7=>
 EvO (zG E 34 h x7) fun x8=>
 Ev s (zV (zX E) (some (.func (.func 94) #[] #[])) [x1,x3] h) fun x4=>
 EvO (zG E 34 x4.2 x7) fun u4_8=>veq 100 u4_8 x8=true ∧
 (EvO (zG E 34 x4.2 x5) fun u4_6=>veq 100 u4_6 x6=true ∧
 (Ev s (zV (zX E) (some (.func (.func 218) #[] #[])) (some [x6,x8,(.func (.func 219) #[] #[])]) x4.2) fun x9=>
 Ev s (zi E 47 2 (some [(0,x4.1),(1,x9.1)]) x9.2) fun x10=>
 Ev s (zV (zX E) (some (.func (.func 171) #[] #[])) [x10.1] x10.2) fun x11=>
 K .ret [x11.1] x11.2))):PI (C168 s) K 1 [v2,v3] h:=zB H
theorem F168_flat (hok:h.ok) (hv:zg v=true) (H:PI (C168 s) (KR E [.tmp 4] fun x k=>x=v/\h.next<=k.wm) 0 [v0,v1] h.fresh):(zX E).call 168 [v0,v1] h=some [(v,h)]:=zAT Tryz.f168 hok hv (zz (C168 s) H)
noncomputable def B169:Code:=ze Tryz.f169
noncomputable def C169 (s:Bool):Cx:=⟨E,s,none,B169,[([0],[0,1]),([1,0],[0,1])],[4],[]⟩
theorem P169_0_of (H :
 PI (C169 s) K 1 [v0,v1] h):PI (C169 s) K 0 [v0,v1] h:=zB H
theorem P169_1_of (H :
 EvO (zF E .geq 3 v0 (.int .i64 0)) fun x1=>
 EvO (gdB x1 true v0) fun x3=>
 EvO (gdB x1 true v1) fun x4=>
 EvO (gdB x1 true (zF E .lss 3 x3 x4)) fun x5=>
 EvO (z0 x1 x5 (some (.bool false))) fun x6=>
 K .ret [x6] h):PI (C169 s) K 1 [v0,v1] h:=zB H
theorem F169_flat (hok:h.ok) (hv:zg v=true) (H:PI (C169 s) (KR E [.tmp 4] fun x k=>x=v/\h.next<=k.wm) 0 [v0,v1] h.fresh):(zX E).call 169 [v0,v1] h=some [(v,h)]:=zAT Tryz.f169 hok hv (zz (C169 s) H)
noncomputable def B170:Code:=ze Tryz.f170
noncomputable def C170 (s:Bool):Cx:=⟨E,s,none,B170,[([0],[0,1]),([1,0],[2,3])],[4],[]⟩
theorem P170_0_of (H :
 Ev s (zP 52 h v0) fun x0=>
 Ev s (zP 52 x0.2 v1) fun x1=>
 PI (C170 s) K 1 [x0.1,x1.1] x1.2):PI (C170 s) K 0 [v0,v1] h:=zB H
theorem P170_1_of (H :
 EvO (zC E 52 0 v2) fun x0=>
 EvO (zG E 3 h x0) fun x1=>
 EvO (zC E 52 0 v3) fun x2=>
 EvO (zG E 3 h x2) fun x3=>
 EvO (zC E 52 1 v2) fun x5=>
 EvO (zG E 3 h x5) fun x6=>
 EvO (zC E 52 1 v3) fun x7=>
 EvO (zG E 3 h x7) fun x8=>
 EvO (zC E 52 2 v2) fun x10=>
 EvO (zG E 3 h x10) fun x11=>
 EvO (zC E 52 2 v3) fun x12=>
 EvO (zG E 3 h x12) fun x13=>
 Ev s (zV (zX E) (some (.func (.func 94) #[] #[])) [x1,x3] h) fun x4=>
 EvO (zG E 3 x4.2 x12) fun u4_13=>veq 100 u4_13 x13=true ∧
 (EvO (zG E 3 x4.2 x10) fun u4_11=>veq 100 u4_11 x11=true ∧
 (EvO (zG E 3 x4.2 x7) fun u4_8=>veq 100 u4_8 x8=true ∧
 (EvO (zG E 3 x4.2 x5) fun u4_6=>veq 100 u4_6 x6=true ∧
 (Ev s (zV (zX E) (some (.func (.func 94) #[] #[])) [x6,x8] x4.2) fun x9=>
 EvO (zG E 3 x9.2 x12) fun u9_13=>veq 100 u9_13 x13=true ∧
 (EvO (zG E 3 x9.2 x10) fun u9_11=>veq 100 u9_11 x11=true ∧
 (Ev s (zV (zX E) (some (.func (.func 94) #[] #[])) [x11,x13] x9.2) fun x14=>
 Ev s (zi E 47 3 (some [(0,x4.1),(1,x9.1),(2,x14.1)]) x14.2) fun x15=>
 Ev s (zV (zX E) (some (.func (.func 171) #[] #[])) [x15.1] x15.2) fun x16=>
 K .ret [x16.1] x16.2))))))):PI (C170 s) K 1 [v2,v3] h:=zB H
theorem F170_flat (hok:h.ok) (hv:zg v=true) (H:PI (C170 s) (KR E [.tmp 4] fun x k=>x=v/\h.next<=k.wm) 0 [v0,v1] h.fresh):(zX E).call 170 [v0,v1] h=some [(v,h)]:=zAT Tryz.f170 hok hv (zz (C170 s) H)
noncomputable def B171:Code:=ze Tryz.f171
noncomputable def C171 (s:Bool):Cx:=⟨E,s,none,B171,[([0],[0]),([1,0],[0]),([1,1,0,0],[0,3]),([1,1,0,1,0,0,0],[3,6,7,8]),([1,1,0,1,0,0,1,1,0,0,0],[3,6,7,8]),([1,1,0,1,0,0,1,1,0,0,1,0],[3,5,6,7,8]),([1,1,0,1,0,0,1,1,0,0,1,1,0,0],[5]),([1,1,0,1,0,0,1,1,1],[3,6,7,8]),([1,1,1,0],[3])],[2],[]⟩
abbrev P171_3 (s:Bool) (K:KF) (v3 v6 v7 v8:Value) (h:AH):Prop:=PI (C171 s) K 3 [v3,v6,v7,v8] h
theorem P171_0_of (H :
 PI (C171 s) K 1 [v0] h):PI (C171 s) K 0 [v0] h:=zB H
theorem P171_1_of (H :
 PI (C171 s) K 2 [v0,(.int .i64 0)] h):PI (C171 s) K 1 [v0] h:=zB H
theorem P171_2_of (H :
 EvO (zM E (zm [(6,v0)]) (zr B171 [1,1,0,0] 1) h) fun x1=>
 PI (C171 s) K 3 [v3,v0,x1,(.int .i64 0)] h):PI (C171 s) K 2 [v0,v3] h:=zB H
theorem len171_2_1:zM E (zm [(6,.slice a n c)]) (zr B171 [1,1,0,0] 1) h=some (.int .i64 (n:Int)):=by cases a <;> kernel_rfl
theorem P171_3_of (H :
 EvO (zF E .lss 3 v8 v7) fun x0=>
 BrK x0 (PI (C171 s) K 4 [v3,v6,v7,v8] h) (PI (C171 s) K 8 [v3] h)):PI (C171 s) K 3 [v3,v6,v7,v8] h:=zB H
theorem P171_4_of (H :
 EvO (zH E 47 v6 v8) fun x0=>
 EvO (zG E 3 h x0) fun x1=>
 PI (C171 s) K 5 [v3,x1,v6,v7,v8] h):PI (C171 s) K 4 [v3,v6,v7,v8] h:=zB H
theorem P171_5_of (H :
 EvO (zF E .neq 3 v5 v3) fun x2=>
 BrK x2 (PI (C171 s) K 6 [v5] h) (PI (C171 s) K 7 [v3,v6,v7,v8] h)):PI (C171 s) K 5 [v3,v5,v6,v7,v8] h:=zB H
theorem P171_6_of (H :
 K .ret [v5] h):PI (C171 s) K 6 [v5] h:=zB H
theorem P171_7_of (H :
 EvO (zF E .add 3 v8 (.int .i64 1)) fun x0=>
 PI (C171 s) K 3 [v3,v6,v7,x0] h):PI (C171 s) K 7 [v3,v6,v7,v8] h:=zB H
theorem P171_8_of (H :
 K .ret [v3] h):PI (C171 s) K 8 [v3] h:=zB H
theorem F171_flat (hok:h.ok) (hv:zg v=true) (H:PI (C171 s) (KR E [.tmp 2] fun x k=>x=v/\h.next<=k.wm) 0 [v0] h.fresh):(zX E).call 171 [v0] h=some [(v,h)]:=zAT Tryz.f171 hok hv (zz (C171 s) H)
noncomputable def B173:Code:=ze Tryz.f173
noncomputable def C173 (s:Bool):Cx:=⟨E,s,none,B173,[([0],[0,1]),([1,0],[0,1])],[4],[]⟩
theorem P173_0_of (H :
 PI (C173 s) K 1 [v0,v1] h):PI (C173 s) K 0 [v0,v1] h:=zB H
theorem P173_1_of (H :
 Ev s (zV (zX E) (some (.func (.func 220) #[] #[])) [v0,v1] h) fun x2=>
 EvO (zF E .geq 3 x2.1 (.int .i64 0)) fun x3=>
 K .ret [x3] x2.2):PI (C173 s) K 1 [v0,v1] h:=zB H
theorem F173_flat (hok:h.ok) (hv:zg v=true) (H:PI (C173 s) (KR E [.tmp 4] fun x k=>x=v/\h.next<=k.wm) 0 [v0,v1] h.fresh):(zX E).call 173 [v0,v1] h=some [(v,h)]:=zAT Tryz.f173 hok hv (zz (C173 s) H)
noncomputable def B174:Code:=ze Tryz.f174
noncomputable def C174 (s:Bool):Cx:=⟨E,s,none,B174,[([0],[0,1,2]),([1,0],[1,2,3])],[4],[]⟩
theorem P174_0_of (H :
 Ev s (zP 134 h v0) fun x0=>
 PI (C174 s) K 1 [v1,v2,x0.1] x0.2):PI (C174 s) K 0 [v0,v1,v2] h:=zB H
theorem P174_1_of (H :
 EvO (zC E 134 0 v3) fun x0=>
 EvO (zG E 3 h x0) fun x1=>
 EvO (zC E 134 0 v1) fun x2=>
 EvO (zG E 3 h x2) fun x3=>
 EvO (zF E .eql 3 x1 x3) fun x4=>
 EvO (gdB x4 true (zC E 178 0 v2)) fun x6=>
 EvO (gdB x4 true (zG E 176 h x6)) fun x7=>
 EvO (gdB x4 true (zC E 134 1 v1)) fun x8=>
 EvO (gdB x4 true (zG E 3 h x8)) fun x9=>
 EvO (gdB x4 true (zC E 134 1 v3)) fun x10=>
 EvO (gdB x4 true (zG E 3 h x10)) fun x11=>
 Ev s (gdW x4 true (zV (zX E) (some (.func (.func 123) #[] #[])) [x7,x9,x11] h) h) fun x12=>
 EvO (z0 x4 x12.1 (some (.bool false))) fun x13=>
 K .ret [x13] x12.2):PI (C174 s) K 1 [v1,v2,v3] h:=zB H
theorem F174_flat (hok:h.ok) (hv:zg v=true) (H:PI (C174 s) (KR E [.tmp 4] fun x k=>x=v/\h.next<=k.wm) 0 [v0,v1,v2] h.fresh):(zX E).call 174 [v0,v1,v2] h=some [(v,h)]:=zAT Tryz.f174 hok hv (zz (C174 s) H)
noncomputable def B178:Code:=ze Tryz.f178
noncomputable def C178 (s:Bool):Cx:=⟨E,s,none,B178,[([0],[0,1]),([1,0],[2,3])],[4],[]⟩
theorem P178_0_of (H :
 Ev s (zP 128 h v0) fun x0=>
 Ev s (zP 3 x0.2 v1) fun x1=>
 PI (C178 s) K 1 [x0.1,x1.1] x1.2):PI (C178 s) K 0 [v0,v1] h:=zB H
theorem P178_1_of (H :
 EvO (zAR (.func 222) (some []) [v3,v2]) fun x0=>
 K .ret [x0] h):PI (C178 s) K 1 [v2,v3] h:=zB H
theorem F178_some (H:PI (C178 true) (KR E [.tmp 4] fun x k=>(zj x=false\/k.wm<h.next)/\Rp x ⟨k.t,k.next,cond (Nat.ble h.wm k.wm) h.wm k.wm⟩) 0 [v0,v1] h.fresh):Ev true ((zX E).call 178 [v0,v1] h) fun x=>Rp x.1 x.2:=someF Tryz.f178 (zz (C178 true) H)
noncomputable def B190:Code:=ze Tryz.f190
noncomputable def C190 (s:Bool):Cx:=⟨E,s,none,B190,[([0],[0,1,2]),([1,0],[0,2,4]),([1,1,0],[0,2,4,8]),([1,1,1,0,0,0,0,0],[0,2,4,8,9,10]),([1,1,1,0,0,0,1,0,0],[0,2,4,8,9,10]),([1,1,1,0,0,0,1,0,1,0],[0,2,4,8,9,10,11]),([1,1,1,0,0,0,1,0,1,1,0],[0,2,4,8,10,11]),([1,1,1,0,0,0,1,0,1,1,1],[0,2,4,8,9,11]),([1,1,1,1,0],[0,2,4,8,9])],[6,7],[]⟩
abbrev P190_3 (s:Bool) (K:KF) (v0 v2 v4 v8 v9 v10:Value) (h:AH):Prop:=PI (C190 s) K 3 [v0,v2,v4,v8,v9,v10] h
theorem P190_0_of (H :
 Ev s (zP 36 h v1) fun x0=>
 PI (C190 s) K 1 [v0,v2,x0.1] x0.2):PI (C190 s) K 0 [v0,v1,v2] h:=zB H
theorem P190_1_of (H :
 EvO (zM E (zm [(12,v0)]) (zr B190 [1,0] 1) h) fun x1=>
 PI (C190 s) K 2 [v0,v2,v4,x1] h):PI (C190 s) K 1 [v0,v2,v4] h:=zB H
theorem len190_1_1:zM E (zm [(12,.slice a n c)]) (zr B190 [1,0] 1) h=some (.int .i64 (n:Int)):=by cases a <;> kernel_rfl
theorem P190_2_of (H :
 PI (C190 s) K 3 [v0,v2,v4,v8,(.int .i64 0),v8] h):PI (C190 s) K 2 [v0,v2,v4,v8] h:=zB H
theorem P190_3_of (H :
 EvO (zF E .lss 3 v9 v10) fun x2=>
 BrK x2 (PI (C190 s) K 4 [v0,v2,v4,v8,v9,v10] h) (PI (C190 s) K 8 [v0,v2,v4,v8,v9] h)):PI (C190 s) K 3 [v0,v2,v4,v8,v9,v10] h:=zB H
theorem P190_4_of (H :
 EvO (zF E .add 3 v9 v10) fun x2=>
 EvO (zM E (zm [(20,x2)]) (zr B190 [1,1,1,0,0,0,1,0,0] 3) h) fun x3=>
 EvO (z6 E (zm [(21,x3)]) (zr B190 [1,1,1,0,0,0,1,0,0] 4)) fun x4=>
 EvO (zM E (zm [(22,x4)]) (zr B190 [1,1,1,0,0,0,1,0,0] 5) h) fun x5=>
 PI (C190 s) K 5 [v0,v2,v4,v8,v9,v10,x5] h):PI (C190 s) K 4 [v0,v2,v4,v8,v9,v10] h:=zB H
theorem P190_5_of (H :
 EvO (zH E 22 v0 v11) fun x3=>
 EvO (zG E 36 h x3) fun x4=>
 EvO (zG E 36 h v4) fun x5=>
 Ev s (zV (zX E) v2 [x4,x5] h) fun x6=>
 EvO (zF E .lss 3 x6.1 (.int .i64 0)) fun x7=>
 BrK x7 (PI (C190 s) K 6 [v0,v2,v4,v8,v10,v11] x6.2) (PI (C190 s) K 7 [v0,v2,v4,v8,v9,v11] x6.2)):PI (C190 s) K 5 [v0,v2,v4,v8,v9,v10,v11] h:=zB H
theorem P190_6_of (H :
 EvO (zF E .add 3 v11 (.int .i64 1)) fun x1=>
 PI (C190 s) K 3 [v0,v2,v4,v8,x1,v10] h):PI (C190 s) K 6 [v0,v2,v4,v8,v10,v11] h:=zB H
theorem P190_7_of (H :
 PI (C190 s) K 3 [v0,v2,v4,v8,v9,v11] h):PI (C190 s) K 7 [v0,v2,v4,v8,v9,v11] h:=zB H
def Q190_8 (s:Bool) (K:KF) (v0 v2 v4 v8 v9:Value) (h:AH):Prop:=
 EvO (zF E .lss 3 v9 v8) fun x3=>
 EvO (gdB x3 true v2) fun x5=>
 EvO (gdB x3 true v0) fun x6=>
 EvO (gdB x3 true v9) fun x7=>
 EvO (gdB x3 true (zH E 22 x6 x7)) fun x8=>
 EvO (gdB x3 true (zG E 36 h x8)) fun x9=>
 EvO (gdB x3 true (zG E 36 h v4)) fun x10=>
 Ev s (gdW x3 true (zV (zX E) x5 [x9,x10] h) h) fun x11=>
 EvO (gdB x3 true (zF E .eql 3 x11.1 (.int .i64 0))) fun x12=>
 EvO (z0 x3 x12 (some (.bool false))) fun x13=>
 K .ret [v9,x13] x11.2
theorem P190_8_of (H:Q190_8 s K v0 v2 v4 v8 v9 h):PI (C190 s) K 8 [v0,v2,v4,v8,v9] h:=zB H
theorem F190_flatE {Rp:Value->Prop} (hok:h.ok) (H:PI (C190 true) (KR E [.tmp 6,.tmp 7] fun x k=>(zj x=true/\Rp x)/\h.next<=k.wm) 0 [v0,v1,v2] h.fresh):∃ v,Rp v/\(zX E).call 190 [v0,v1,v2] h=some [(v,h)]:=flatFE Tryz.f190 hok (zz (C190 true) H)
noncomputable def B191:Code:=ze Tryz.f191
noncomputable def C191 (s:Bool):Cx:=⟨E,s,none,B191,[([0],[0,1,2]),([1,0],[0,1,2]),([1,1,0],[0,1,2]),([1,1,1,0,0],[0,1,2,7]),([1,1,1,0,1,0,0],[0]),([1,1,1,1,0],[0,1,2,7]),([1,1,1,1,1,0,0],[0,1,2,7,8]),([1,1,1,1,1,0,1,0,0],[0,2]),([1,1,1,1,1,1,0,0],[0,1,2,7,8]),([1,1,1,1,1,1,0,1,0,0],[0,1,2,7,8]),([1,1,1,1,1,1,0,1,0,1,0],[0,1,2,7,9]),([1,1,1,1,1,1,0,1,0,1,1,0],[0,1,7,9]),([1,1,1,1,1,1,0,1,0,1,1,1,0],[9]),([1,1,1,1,1,1,1,0],[0,1,2,7,8]),([1,1,1,1,1,1,1,1,0,0],[0,1,2,7,8]),([1,1,1,1,1,1,1,1,0,1,0,0],[0,1,2,7]),([1,1,1,1,1,1,1,1,0,1,0,1,0],[0,1,2]),([1,1,1,1,1,1,1,1,0,1,0,1,1,0],[0]),([1,1,1,1,1,1,1,1,1,0],[0,1,2,7,8]),([1,1,1,1,1,1,1,1,1,1,0],[0,1,7]),([1,1,1,1,1,1,1,1,1,1,1,0],[0])],[6],[]⟩
abbrev P191_0 (s:Bool) (K:KF) (v0 v1 v2:Value) (h:AH):Prop:=PI (C191 s) K 0 [v0,v1,v2] h
theorem P191_0_of (H :
 PI (C191 s) K 1 [v0,v1,v2] h):PI (C191 s) K 0 [v0,v1,v2] h:=zB H
theorem P191_1_of (H :
 EvO (z6 E (zm [(10,v0),(11,v1)]) (zr B191 [1,0] 2)) fun x2=>
 PI (C191 s) K 2 [v0,v1,v2] h):PI (C191 s) K 1 [v0,v1,v2] h:=zB H
theorem P191_2_of (H :
 EvO (zM E (zm [(13,v2)]) (zr B191 [1,1,0] 1) h) fun x1=>
 PI (C191 s) K 3 [v0,v1,v2,x1] h):PI (C191 s) K 2 [v0,v1,v2] h:=zB H
theorem len191_2_1:zM E (zm [(13,.slice a n c)]) (zr B191 [1,1,0] 1) h=some (.int .i64 (n:Int)):=by cases a <;> kernel_rfl
theorem P191_3_of (H :
 EvO (zF E .eql 3 v7 (.int .i64 0)) fun x1=>
 BrK x1 (PI (C191 s) K 4 [v0] h) (PI (C191 s) K 5 [v0,v1,v2,v7] h)):PI (C191 s) K 3 [v0,v1,v2,v7] h:=zB H
theorem P191_5_of (H :
 EvO (zM E (zm [(18,v0)]) (zr B191 [1,1,1,1,0] 1) h) fun x1=>
 PI (C191 s) K 6 [v0,v1,v2,v7,x1] h):PI (C191 s) K 5 [v0,v1,v2,v7] h:=zB H
theorem len191_5_1:zM E (zm [(18,.slice a n c)]) (zr B191 [1,1,1,1,0] 1) h=some (.int .i64 (n:Int)):=by cases a <;> kernel_rfl
theorem P191_6_of (H :
 EvO (zF E .eql 3 v1 v8) fun x2=>
 BrK x2 (PI (C191 s) K 7 [v0,v2] h) (PI (C191 s) K 8 [v0,v1,v2,v7,v8] h)):PI (C191 s) K 6 [v0,v1,v2,v7,v8] h:=zB H
theorem P191_7_of (H :
 Ev s (zAC E .append [22,22] [v0,v2] h) fun x2=>
 K .ret [x2.1] x2.2):PI (C191 s) K 7 [v0,v2] h:=zB H
theorem F191_ev (H:PI (C191 s) (KR E [.tmp 6] Rp) 0 [v0,v1,v2] h):EvC E s Tryz.f191 [v0,v1,v2] h Rp:=zz (C191 s) H
theorem F191_get:E.tab.fn.get 191=some Tryz.f191:=by kernel_rfl
theorem F191_body:Tryz.f191.body=some B191:=by kernel_rfl
noncomputable def B215:Code:=ze Tryz.f215
noncomputable def C215 (s:Bool):Cx:=⟨E,s,none,B215,[([0],[0,1]),([1,0],[0,1])],[4],[]⟩
theorem P215_0_of (H :
 PI (C215 s) K 1 [v0,v1] h):PI (C215 s) K 0 [v0,v1] h:=zB H
theorem P215_1_of (H :
 Ev s (zV (zX E) (some (.func (.func 243) #[] #[])) [v0,v1] h) fun x2=>
 EvO (zF E .geq 3 x2.1 (.int .i64 0)) fun x3=>
 K .ret [x3] x2.2):PI (C215 s) K 1 [v0,v1] h:=zB H
theorem F215_flat (hok:h.ok) (hv:zg v=true) (H:PI (C215 s) (KR E [.tmp 4] fun x k=>x=v/\h.next<=k.wm) 0 [v0,v1] h.fresh):(zX E).call 215 [v0,v1] h=some [(v,h)]:=zAT Tryz.f215 hok hv (zz (C215 s) H)
noncomputable def B216:Code:=ze Tryz.f216
noncomputable def C216 (s:Bool):Cx:=⟨E,s,none,B216,[([0],[0]),([1,0],[1])],[2],[]⟩
theorem P216_0_of (H :
 Ev s (zP 173 h v0) fun x0=>
 PI (C216 s) K 1 [x0.1] x0.2):PI (C216 s) K 0 [v0] h:=zB H
theorem P216_1_of (H :
 EvO (zG E 173 h v1) fun x0=>
 Ev s (zV (zX E) (some (.func (.func 217) #[] #[])) [x0] h) fun x1=>
 EvO (zAY .not x1.1) fun x2=>
 K .ret [x2] x1.2):PI (C216 s) K 1 [v1] h:=zB H
theorem F216_flat (hok:h.ok) (hv:zg v=true) (H:PI (C216 s) (KR E [.tmp 2] fun x k=>x=v/\h.next<=k.wm) 0 [v0] h.fresh):(zX E).call 216 [v0] h=some [(v,h)]:=zAT Tryz.f216 hok hv (zz (C216 s) H)
noncomputable def B217:Code:=ze Tryz.f217
noncomputable def C217 (s:Bool):Cx:=⟨E,s,none,B217,[([0],[0]),([1,0,0],[1]),([1,0,1,0],[1,3]),([1,0,1,1,0,0],[]),([1,1,0],[1]),([1,1,1,0],[1,5]),([1,1,1,1,0],[1,5])],[2],[]⟩
theorem P217_0_of (H :
 Ev s (zP 173 h v0) fun x0=>
 PI (C217 s) K 1 [x0.1] x0.2):PI (C217 s) K 0 [v0] h:=zB H
theorem P217_1_of (H :
 EvO (zG E 173 h v1) fun x0=>
 Ev s (zV (zX E) (some (.func (.func 244) #[] #[])) [x0] h) fun x1=>
 EvO (zAJ 0 x1.1) fun x3=>
 EvO (zAJ 1 x1.1) fun x4=>
 PI (C217 s) K 2 [v1,x3] x1.2):PI (C217 s) K 1 [v1] h:=zB H
theorem P217_2_of (H :
 EvO (zF E .gtr 3 v3 (.int .i64 2000)) fun x1=>
 BrK x1 (PI (C217 s) K 3 [] h) (PI (C217 s) K 4 [v1] h)):PI (C217 s) K 2 [v1,v3] h:=zB H
theorem P217_3_of (H :
 K .ret [(.bool false)] h):PI (C217 s) K 3 [] h:=zB H
theorem P217_4_of (H :
 Ev s (zP 247 h (zv E 247)) fun x0=>
 PI (C217 s) K 5 [v1,x0.1] x0.2):PI (C217 s) K 4 [v1] h:=zB H
theorem P217_5_of (H :
 EvO (zAR (.func 245) (some []) [v5]) fun x0=>
 Ev s (zh E 247 h v5 x0) fun x1=>
 PI (C217 s) K 6 [v1,v5] x1.2):PI (C217 s) K 5 [v1,v5] h:=zB H
theorem P217_6_of (H :
 EvO (zG E 247 h v5) fun x0=>
 EvO (zG E 173 h v1) fun x1=>
 Ev s (zV (zX E) x0 [x1] h) fun x2=>
 K .ret [x2.1] x2.2):PI (C217 s) K 6 [v1,v5] h:=zB H
theorem F217_flat (hok:h.ok) (hv:zg v=true) (H:PI (C217 s) (KR E [.tmp 2] fun x k=>x=v/\h.next<=k.wm) 0 [v0] h.fresh):(zX E).call 217 [v0] h=some [(v,h)]:=zAT Tryz.f217 hok hv (zz (C217 s) H)
noncomputable def B218:Code:=ze Tryz.f218
noncomputable def C218 (s:Bool):Cx:=⟨E,s,none,B218,[([0],[0,1,2]),([1,0],[0,1,2])],[6],[]⟩
theorem P218_0_of (H :
 PI (C218 s) K 1 [v0,v1,v2] h):PI (C218 s) K 0 [v0,v1,v2] h:=zB H
theorem P218_1_of (H :
 Ev s (zV (zX E) (some (.func (.func 247) #[] #[])) [v0,v1,v2] h) fun x3=>
 K .ret [x3.1] x3.2):PI (C218 s) K 1 [v0,v1,v2] h:=zB H
theorem F218_flat (hok:h.ok) (hv:zg v=true) (H:PI (C218 s) (KR E [.tmp 6] fun x k=>x=v/\h.next<=k.wm) 0 [v0,v1,v2] h.fresh):(zX E).call 218 [v0,v1,v2] h=some [(v,h)]:=zAT Tryz.f218 hok hv (zz (C218 s) H)
noncomputable def B219:Code:=ze Tryz.f219
noncomputable def C219 (s:Bool):Cx:=⟨E,s,none,B219,[([0],[0,1]),([1,0,0],[2,3]),([1,0,1,0],[2,3,5]),([1,0,1,1,0,0],[5]),([1,1,0],[2,3])],[4],[]⟩
abbrev P219_3 (s:Bool) (K:KF) (v5:Value) (h:AH):Prop:=PI (C219 s) K 3 [v5] h
abbrev P219_4 (s:Bool) (K:KF) (v2 v3:Value) (h:AH):Prop:=PI (C219 s) K 4 [v2,v3] h
theorem P219_0_of (H :
 Ev s (zP 173 h v0) fun x0=>
 Ev s (zP 173 x0.2 v1) fun x1=>
 PI (C219 s) K 1 [x0.1,x1.1] x1.2):PI (C219 s) K 0 [v0,v1] h:=zB H
theorem P219_1_of (H :
 EvO (zC E 173 0 v2) fun x0=>
 EvO (zG E 3 h x0) fun x1=>
 EvO (zC E 173 0 v3) fun x2=>
 EvO (zG E 3 h x2) fun x3=>
 EvO (zC E 173 1 v2) fun x5=>
 EvO (zG E 3 h x5) fun x6=>
 EvO (zC E 173 1 v3) fun x7=>
 EvO (zG E 3 h x7) fun x8=>
 EvO (zC E 173 2 v2) fun x10=>
 EvO (zG E 34 h x10) fun x11=>
 EvO (zM E (zm [(17,x11)]) (zr B219 [1,0,0] 12) h) fun x12=>
 EvO (zC E 173 2 v3) fun x13=>
 EvO (zG E 34 h x13) fun x14=>
 EvO (zM E (zm [(20,x14)]) (zr B219 [1,0,0] 15) h) fun x15=>
 Ev s (zV (zX E) (some (.func (.func 94) #[] #[])) [x1,x3] h) fun x4=>
 EvO (zM E (zm [(20,x14)]) (zr B219 [1,0,0] 15) x4.2) fun u4_15=>veq 100 u4_15 x15=true ∧
 (EvO (zG E 34 x4.2 x13) fun u4_14=>veq 100 u4_14 x14=true ∧
 (EvO (zM E (zm [(17,x11)]) (zr B219 [1,0,0] 12) x4.2) fun u4_12=>veq 100 u4_12 x12=true ∧
 (EvO (zG E 34 x4.2 x10) fun u4_11=>veq 100 u4_11 x11=true ∧
 (EvO (zG E 3 x4.2 x7) fun u4_8=>veq 100 u4_8 x8=true ∧
 (EvO (zG E 3 x4.2 x5) fun u4_6=>veq 100 u4_6 x6=true ∧
 (Ev s (zV (zX E) (some (.func (.func 94) #[] #[])) [x6,x8] x4.2) fun x9=>
 EvO (zM E (zm [(20,x14)]) (zr B219 [1,0,0] 15) x9.2) fun u9_15=>veq 100 u9_15 x15=true ∧
 (EvO (zG E 34 x9.2 x13) fun u9_14=>veq 100 u9_14 x14=true ∧
 (EvO (zM E (zm [(17,x11)]) (zr B219 [1,0,0] 12) x9.2) fun u9_12=>veq 100 u9_12 x12=true ∧
 (EvO (zG E 34 x9.2 x10) fun u9_11=>veq 100 u9_11 x11=true ∧
 (Ev s (zV (zX E) (some (.func (.func 94) #[] #[])) [x12,x15] x9.2) fun x16=>
 Ev s (zi E 47 3 (some [(0,x4.1),(1,x9.1),(2,x16.1)]) x16.2) fun x17=>
 Ev s (zV (zX E) (some (.func (.func 171) #[] #[])) [x17.1] x17.2) fun x18=>
 PI (C219 s) K 2 [v2,v3,x18.1] x18.2))))))))))):PI (C219 s) K 1 [v2,v3] h:=zB H
theorem len219_1_12:zM E (zm [(17,.slice a n c)]) (zr B219 [1,0,0] 12) h=some (.int .i64 (n:Int)):=by cases a <;> kernel_rfl
theorem len219_1_15:zM E (zm [(20,.slice a n c)]) (zr B219 [1,0,0] 15) h=some (.int .i64 (n:Int)):=by cases a <;> kernel_rfl
theorem P219_2_of (H :
 EvO (zF E .neq 3 v5 (.int .i64 0)) fun x1=>
 BrK x1 (PI (C219 s) K 3 [v5] h) (PI (C219 s) K 4 [v2,v3] h)):PI (C219 s) K 2 [v2,v3,v5] h:=zB H
theorem P219_3_of (H :
 K .ret [v5] h):PI (C219 s) K 3 [v5] h:=zB H
theorem P219_4_of (H :
 EvO (zC E 173 2 v2) fun x0=>
 EvO (zG E 34 h x0) fun x1=>
 EvO (zC E 173 2 v3) fun x2=>
 EvO (zG E 34 h x2) fun x3=>
 Ev s (zV (zX E) (some (.func (.func 247) #[] #[])) (some [x1,x3,(.func (.func 219) #[] #[])]) h) fun x4=>
 K .ret [x4.1] x4.2):PI (C219 s) K 4 [v2,v3] h:=zB H
theorem F219_flat (hok:h.ok) (hv:zg v=true) (H:PI (C219 s) (KR E [.tmp 4] fun x k=>x=v/\h.next<=k.wm) 0 [v0,v1] h.fresh):(zX E).call 219 [v0,v1] h=some [(v,h)]:=zAT Tryz.f219 hok hv (zz (C219 s) H)
noncomputable def B220:Code:=ze Tryz.f220
noncomputable def C220 (s:Bool):Cx:=⟨E,s,none,B220,[([0],[0,1]),([1,0,0],[0,1]),([1,0,1,0,0,0],[0,1,7,8]),([1,0,1,0,0,1,1,0,0,0],[0,1,7,8]),([1,0,1,0,0,1,1,0,0,1,0],[0,1,5,7,8]),([1,0,1,0,0,1,1,0,0,1,1,0,0],[5]),([1,0,1,0,0,1,1,1],[0,1,7,8]),([1,1,0],[])],[4],[]⟩
abbrev P220_2 (s:Bool) (K:KF) (v0 v1 v7 v8:Value) (h:AH):Prop:=PI (C220 s) K 2 [v0,v1,v7,v8] h
theorem P220_0_of (H :
 PI (C220 s) K 1 [v0,v1] h):PI (C220 s) K 0 [v0,v1] h:=zB H
theorem P220_1_of (H :
 EvO (zM E (zm [(6,v0)]) (zr B220 [1,0,0] 1) h) fun x1=>
 PI (C220 s) K 2 [v0,v1,x1,(.int .i64 0)] h):PI (C220 s) K 1 [v0,v1] h:=zB H
theorem len220_1_1:zM E (zm [(6,.slice a n c)]) (zr B220 [1,0,0] 1) h=some (.int .i64 (n:Int)):=by cases a <;> kernel_rfl
theorem P220_2_of (H :
 EvO (zF E .lss 3 v8 v7) fun x0=>
 BrK x0 (PI (C220 s) K 3 [v0,v1,v7,v8] h) (PI (C220 s) K 7 [] h)):PI (C220 s) K 2 [v0,v1,v7,v8] h:=zB H
theorem P220_3_of (H :
 PI (C220 s) K 4 [v0,v1,v8,v7,v8] h):PI (C220 s) K 3 [v0,v1,v7,v8] h:=zB H
theorem P220_4_of (H :
 EvO (zH E 132 v0 v5) fun x3=>
 EvO (zG E 134 h x3) fun x4=>
 Ev s (zV (zX E) v1 [x4] h) fun x5=>
 BrK x5.1 (PI (C220 s) K 5 [v5] x5.2) (PI (C220 s) K 6 [v0,v1,v7,v8] x5.2)):PI (C220 s) K 4 [v0,v1,v5,v7,v8] h:=zB H
theorem P220_5_of (H :
 K .ret [v5] h):PI (C220 s) K 5 [v5] h:=zB H
theorem P220_6_of (H :
 EvO (zF E .add 3 v8 (.int .i64 1)) fun x0=>
 PI (C220 s) K 2 [v0,v1,v7,x0] h):PI (C220 s) K 6 [v0,v1,v7,v8] h:=zB H
theorem P220_7_of (H :
 K .ret [(.int .i64 (-1))] h):PI (C220 s) K 7 [] h:=zB H
theorem F220_flat (hok:h.ok) (hv:zg v=true) (H:PI (C220 s) (KR E [.tmp 4] fun x k=>x=v/\h.next<=k.wm) 0 [v0,v1] h.fresh):(zX E).call 220 [v0,v1] h=some [(v,h)]:=zAT Tryz.f220 hok hv (zz (C220 s) H)
noncomputable def B243:Code:=ze Tryz.f243
noncomputable def C243 (s:Bool):Cx:=⟨E,s,none,B243,[([0],[0,1]),([1,0,0],[0,1]),([1,0,1,0,0,0],[0,1,7,8]),([1,0,1,0,0,1,1,0,0,0],[0,1,7,8]),([1,0,1,0,0,1,1,0,0,1,0],[0,1,5,7,8]),([1,0,1,0,0,1,1,0,0,1,1,0,0],[5]),([1,0,1,0,0,1,1,1],[0,1,7,8]),([1,1,0],[])],[4],[]⟩
abbrev P243_2 (s:Bool) (K:KF) (v0 v1 v7 v8:Value) (h:AH):Prop:=PI (C243 s) K 2 [v0,v1,v7,v8] h
theorem P243_0_of (H :
 PI (C243 s) K 1 [v0,v1] h):PI (C243 s) K 0 [v0,v1] h:=zB H
theorem P243_1_of (H :
 EvO (zM E (zm [(6,v0)]) (zr B243 [1,0,0] 1) h) fun x1=>
 PI (C243 s) K 2 [v0,v1,x1,(.int .i64 0)] h):PI (C243 s) K 1 [v0,v1] h:=zB H
theorem len243_1_1:zM E (zm [(6,.slice a n c)]) (zr B243 [1,0,0] 1) h=some (.int .i64 (n:Int)):=by cases a <;> kernel_rfl
theorem P243_2_of (H :
 EvO (zF E .lss 3 v8 v7) fun x0=>
 BrK x0 (PI (C243 s) K 3 [v0,v1,v7,v8] h) (PI (C243 s) K 7 [] h)):PI (C243 s) K 2 [v0,v1,v7,v8] h:=zB H
theorem P243_3_of (H :
 PI (C243 s) K 4 [v0,v1,v8,v7,v8] h):PI (C243 s) K 3 [v0,v1,v7,v8] h:=zB H
theorem P243_4_of (H :
 EvO (zH E 34 v0 v5) fun x3=>
 EvO (zG E 173 h x3) fun x4=>
 Ev s (zV (zX E) v1 [x4] h) fun x5=>
 BrK x5.1 (PI (C243 s) K 5 [v5] x5.2) (PI (C243 s) K 6 [v0,v1,v7,v8] x5.2)):PI (C243 s) K 4 [v0,v1,v5,v7,v8] h:=zB H
theorem P243_5_of (H :
 K .ret [v5] h):PI (C243 s) K 5 [v5] h:=zB H
theorem P243_6_of (H :
 EvO (zF E .add 3 v8 (.int .i64 1)) fun x0=>
 PI (C243 s) K 2 [v0,v1,v7,x0] h):PI (C243 s) K 6 [v0,v1,v7,v8] h:=zB H
theorem P243_7_of (H :
 K .ret [(.int .i64 (-1))] h):PI (C243 s) K 7 [] h:=zB H
theorem F243_flat (hok:h.ok) (hv:zg v=true) (H:PI (C243 s) (KR E [.tmp 4] fun x k=>x=v/\h.next<=k.wm) 0 [v0,v1] h.fresh):(zX E).call 243 [v0,v1] h=some [(v,h)]:=zAT Tryz.f243 hok hv (zz (C243 s) H)
noncomputable def B244:Code:=ze Tryz.f244
noncomputable def C244 (s:Bool):Cx:=⟨E,s,none,B244,[([0],[0]),([1,0],[1]),([1,1,0,0],[1,4]),([1,1,0,1,0],[4]),([1,1,0,1,1,0,0],[]),([1,1,1,0],[4])],[2,3],[]⟩
theorem P244_0_of (H :
 Ev s (zP 173 h v0) fun x0=>
 PI (C244 s) K 1 [x0.1] x0.2):PI (C244 s) K 0 [v0] h:=zB H
theorem P244_1_of (H :
 Ev s (zP 306 h (zv E 306)) fun x0=>
 PI (C244 s) K 2 [v1,x0.1] x0.2):PI (C244 s) K 1 [v1] h:=zB H
theorem P244_2_of (H :
 EvO (zG E 173 h v1) fun x0=>
 Ev s (zV (zX E) (some (.func (.func 268) #[] #[])) (some [v4,x0,(.int .i64 1)]) h) fun x1=>
 PI (C244 s) K 3 [v4] x1.2):PI (C244 s) K 2 [v1,v4] h:=zB H
theorem P244_3_of (H :
 Ev s (zV (zX E) (some (.func (.func 269) #[] #[])) [v4] h) fun x0=>
 BrK x0.1 (PI (C244 s) K 4 [] x0.2) (PI (C244 s) K 5 [v4] x0.2)):PI (C244 s) K 3 [v4] h:=zB H
theorem P244_4_of (H :
 K .ret [(.int .i64 2001),(.int .i64 201)] h):PI (C244 s) K 4 [] h:=zB H
theorem P244_5_of (H :
 EvO (zC E 306 0 v4) fun x0=>
 EvO (zG E 3 h x0) fun x1=>
 EvO (zC E 306 1 v4) fun x2=>
 EvO (zG E 3 h x2) fun x3=>
 K .ret [x1,x3] h):PI (C244 s) K 5 [v4] h:=zB H
theorem F244_flat1 (hok:h.ok) (hv:zj v=true) (H:PI (C244 true) (KR E [.tmp 2,.tmp 3] fun x k=>x=v/\h.next<=k.wm) 0 [v0] h.fresh):(zX E).call 244 [v0] h=some [(v,h)]:=flatF1 Tryz.f244 hok hv (zz (C244 true) H)
noncomputable def B245:Code:=ze Tryz.f245
noncomputable def C245 (s:Bool):Cx:=⟨E,s,none,B245,[([0],[0,1]),([1,0],[1,2])],[3],[]⟩
theorem P245_0_of (H :
 Ev s (zP 173 h v0) fun x0=>
 PI (C245 s) K 1 [v1,x0.1] x0.2):PI (C245 s) K 0 [v0,v1] h:=zB H
theorem P245_1_of (H :
 EvO (zC E 173 0 v2) fun x0=>
 EvO (zG E 3 h x0) fun x1=>
 EvO (zF E .eql 3 x1 (.int .i64 2)) fun x2=>
 EvO (gdB x2 true (zC E 173 1 v2)) fun x4=>
 EvO (gdB x2 true (zG E 3 h x4)) fun x5=>
 EvO (gdB x2 true (zF E .geq 3 x5 (.int .i64 0))) fun x6=>
 EvO (z0 x2 x6 (some (.bool false))) fun x7=>
 EvO (gdB x7 true (zC E 173 1 v2)) fun x9=>
 EvO (gdB x7 true (zG E 3 h x9)) fun x10=>
 EvO (gdB x7 true (zF E .lss 3 x10 (.int .i64 256))) fun x11=>
 EvO (z0 x7 x11 (some (.bool false))) fun x12=>
 EvO (gdB x12 true (zC E 173 2 v2)) fun x14=>
 EvO (gdB x12 true (zG E 34 h x14)) fun x15=>
 EvO (gdB x12 true (zM E (zm [(19,x15)]) (zr B245 [1,0] 16) h)) fun x16=>
 EvO (gdB x12 true (zF E .leq 3 x16 (.int .i64 8))) fun x17=>
 EvO (z0 x12 x17 (some (.bool false))) fun x18=>
 EvO (gdB x18 true (zC E 173 2 v2)) fun x20=>
 EvO (gdB x18 true (zG E 34 h x20)) fun x21=>
 EvO (gdB x18 true (zAR (.func 246) (some []) [v1])) fun x22=>
 Ev s (gdW x18 true (zV (zX E) (some (.func (.func 215) #[] #[])) [x21,x22] h) h) fun x23=>
 EvO (gdB x18 true (zAY .not x23.1)) fun x24=>
 EvO (z0 x18 x24 (some (.bool false))) fun x25=>
 K .ret [x25] x23.2):PI (C245 s) K 1 [v1,v2] h:=zB H
theorem len245_1_16:zM E (zm [(19,.slice a n c)]) (zr B245 [1,0] 16) h=some (.int .i64 (n:Int)):=by cases a <;> kernel_rfl
theorem F245_flat (hok:h.ok) (hv:zg v=true) (H:PI (C245 s) (KR E [.tmp 3] fun x k=>x=v/\h.next<=k.wm) 0 [v0,v1] h.fresh):(zX E).call 245 [v0,v1] h=some [(v,h)]:=zAT Tryz.f245 hok hv (zz (C245 s) H)
noncomputable def B246:Code:=ze Tryz.f246
noncomputable def C246 (s:Bool):Cx:=⟨E,s,none,B246,[([0],[0,1]),([1,0],[1,2])],[3],[]⟩
theorem P246_0_of (H :
 Ev s (zP 173 h v0) fun x0=>
 PI (C246 s) K 1 [v1,x0.1] x0.2):PI (C246 s) K 0 [v0,v1] h:=zB H
theorem P246_1_of (H :
 EvO (zG E 247 h v1) fun x0=>
 EvO (zG E 173 h v2) fun x1=>
 Ev s (zV (zX E) x0 [x1] h) fun x2=>
 EvO (zAY .not x2.1) fun x3=>
 K .ret [x3] x2.2):PI (C246 s) K 1 [v1,v2] h:=zB H
theorem F246_flat (hok:h.ok) (hv:zg v=true) (H:PI (C246 s) (KR E [.tmp 3] fun x k=>x=v/\h.next<=k.wm) 0 [v0,v1] h.fresh):(zX E).call 246 [v0,v1] h=some [(v,h)]:=zAT Tryz.f246 hok hv (zz (C246 s) H)
noncomputable def B247:Code:=ze Tryz.f247
noncomputable def C247 (s:Bool):Cx:=⟨E,s,none,B247,[([0],[0,1,2]),([1,0,0],[0,1,2]),([1,0,1,0,0,0],[0,1,2,11,12,13]),([1,0,1,0,0,1,1,0,0,0],[0,1,2,11,12,13]),([1,0,1,0,0,1,1,0,0,1,0,0],[0,1,2,7,8,11,12,13]),([1,0,1,0,0,1,1,0,0,1,0,1,0,0],[]),([1,0,1,0,0,1,1,0,0,1,1,0],[0,1,2,7,8,11,12,13]),([1,0,1,0,0,1,1,0,0,1,1,1,0],[0,1,2,8,9,11,12,13]),([1,0,1,0,0,1,1,0,0,1,1,1,1,0],[0,1,2,10,11,12,13]),([1,0,1,0,0,1,1,0,0,1,1,1,1,1,0,0],[10]),([1,0,1,0,0,1,1,1],[0,1,2,11,12,13]),([1,1,0,0],[0,1]),([1,1,0,1,0,0],[]),([1,1,1,0],[])],[6],[]⟩
abbrev P247_2 (s:Bool) (K:KF) (v0 v1 v2 v11 v12 v13:Value) (h:AH):Prop:=PI (C247 s) K 2 [v0,v1,v2,v11,v12,v13] h
theorem P247_0_of (H :
 PI (C247 s) K 1 [v0,v1,v2] h):PI (C247 s) K 0 [v0,v1,v2] h:=zB H
theorem P247_1_of (H :
 EvO (zM E (zm [(11,v0)]) (zr B247 [1,0,0] 1) h) fun x1=>
 PI (C247 s) K 2 [v0,v1,v2,v0,x1,(.int .i64 0)] h):PI (C247 s) K 1 [v0,v1,v2] h:=zB H
theorem len247_1_1:zM E (zm [(11,.slice a n c)]) (zr B247 [1,0,0] 1) h=some (.int .i64 (n:Int)):=by cases a <;> kernel_rfl
theorem P247_2_of (H :
 EvO (zF E .lss 3 v13 v12) fun x0=>
 BrK x0 (PI (C247 s) K 3 [v0,v1,v2,v11,v12,v13] h) (PI (C247 s) K 11 [v0,v1] h)):PI (C247 s) K 2 [v0,v1,v2,v11,v12,v13] h:=zB H
theorem P247_3_of (H :
 EvO (zH E 34 v11 v13) fun x1=>
 EvO (zG E 173 h x1) fun x2=>
 Ev s (zP 173 h (zv E 173)) fun x3=>
 Ev s (zh E 173 x3.2 x3.1 x2) fun x5=>
 PI (C247 s) K 4 [v0,v1,v2,v13,x3.1,v11,v12,v13] x5.2):PI (C247 s) K 3 [v0,v1,v2,v11,v12,v13] h:=zB H
theorem P247_4_of (H :
 EvO (zM E (zm [(19,v1)]) (zr B247 [1,0,1,0,0,1,1,0,0,1,0,0] 2) h) fun x2=>
 EvO (zF E .geq 3 v7 x2) fun x3=>
 BrK x3 (PI (C247 s) K 5 [] h) (PI (C247 s) K 6 [v0,v1,v2,v7,v8,v11,v12,v13] h)):PI (C247 s) K 4 [v0,v1,v2,v7,v8,v11,v12,v13] h:=zB H
theorem len247_4_2:zM E (zm [(19,.slice a n c)]) (zr B247 [1,0,1,0,0,1,1,0,0,1,0,0] 2) h=some (.int .i64 (n:Int)):=by cases a <;> kernel_rfl
theorem P247_5_of (H :
 K .ret [(.int .i64 1)] h):PI (C247 s) K 5 [] h:=zB H
theorem P247_6_of (H :
 EvO (zH E 34 v1 v7) fun x2=>
 EvO (zG E 173 h x2) fun x3=>
 Ev s (zP 173 h (zv E 173)) fun x4=>
 Ev s (zh E 173 x4.2 x4.1 x3) fun x5=>
 PI (C247 s) K 7 [v0,v1,v2,v8,x4.1,v11,v12,v13] x5.2):PI (C247 s) K 6 [v0,v1,v2,v7,v8,v11,v12,v13] h:=zB H
theorem P247_7_of (H :
 EvO (zG E 173 h v8) fun x1=>
 EvO (zG E 173 h v9) fun x2=>
 Ev s (zV (zX E) v2 [x1,x2] h) fun x3=>
 PI (C247 s) K 8 [v0,v1,v2,x3.1,v11,v12,v13] x3.2):PI (C247 s) K 7 [v0,v1,v2,v8,v9,v11,v12,v13] h:=zB H
theorem P247_8_of (H :
 EvO (zF E .neq 3 v10 (.int .i64 0)) fun x1=>
 BrK x1 (PI (C247 s) K 9 [v10] h) (PI (C247 s) K 10 [v0,v1,v2,v11,v12,v13] h)):PI (C247 s) K 8 [v0,v1,v2,v10,v11,v12,v13] h:=zB H
theorem P247_9_of (H :
 K .ret [v10] h):PI (C247 s) K 9 [v10] h:=zB H
theorem P247_10_of (H :
 EvO (zF E .add 3 v13 (.int .i64 1)) fun x0=>
 PI (C247 s) K 2 [v0,v1,v2,v11,v12,x0] h):PI (C247 s) K 10 [v0,v1,v2,v11,v12,v13] h:=zB H
theorem P247_11_of (H :
 EvO (zM E (zm [(34,v0)]) (zr B247 [1,1,0,0] 1) h) fun x1=>
 EvO (zM E (zm [(36,v1)]) (zr B247 [1,1,0,0] 3) h) fun x3=>
 EvO (zF E .lss 3 x1 x3) fun x4=>
 BrK x4 (PI (C247 s) K 12 [] h) (PI (C247 s) K 13 [] h)):PI (C247 s) K 11 [v0,v1] h:=zB H
theorem len247_11_1:zM E (zm [(34,.slice a n c)]) (zr B247 [1,1,0,0] 1) h=some (.int .i64 (n:Int)):=by cases a <;> kernel_rfl
theorem len247_11_3:zM E (zm [(36,.slice a n c)]) (zr B247 [1,1,0,0] 3) h=some (.int .i64 (n:Int)):=by cases a <;> kernel_rfl
theorem P247_12_of (H :
 K .ret [(.int .i64 (-1))] h):PI (C247 s) K 12 [] h:=zB H
theorem P247_13_of (H :
 K .ret [(.int .i64 0)] h):PI (C247 s) K 13 [] h:=zB H
theorem F247_flat (hok:h.ok) (hv:zg v=true) (H:PI (C247 s) (KR E [.tmp 6] fun x k=>x=v/\h.next<=k.wm) 0 [v0,v1,v2] h.fresh):(zX E).call 247 [v0,v1,v2] h=some [(v,h)]:=zAT Tryz.f247 hok hv (zz (C247 s) H)
noncomputable def B268:Code:=ze Tryz.f268
noncomputable def C268 (s:Bool):Cx:=⟨E,s,none,B268,[([0],[0,1,2]),([1,0],[0,2,4]),([1,1,0],[0,2,4]),([1,1,1,0],[0,2,4]),([1,1,1,1,0,0,0],[0,2,25,26,27]),([1,1,1,1,0,0,1,1,0,0,0],[0,2,25,26,27]),([1,1,1,1,0,0,1,1,0,0,1,0,0],[0,2,7,25,26,27]),([1,1,1,1,0,0,1,1,0,0,1,1],[0,2,7,25,26,27]),([1,1,1,1,0,0,1,1,1],[0,2,25,26,27])],[],[]⟩
abbrev P268_4 (s:Bool) (K:KF) (v0 v2 v25 v26 v27:Value) (h:AH):Prop:=PI (C268 s) K 4 [v0,v2,v25,v26,v27] h
abbrev P268_7 (s:Bool) (K:KF) (v0 v2 v7 v25 v26 v27:Value) (h:AH):Prop:=PI (C268 s) K 7 [v0,v2,v7,v25,v26,v27] h
theorem P268_0_of (H :
 Ev s (zP 173 h v1) fun x0=>
 PI (C268 s) K 1 [v0,v2,x0.1] x0.2):PI (C268 s) K 0 [v0,v1,v2] h:=zB H
theorem P268_1_of (H :
 EvO (zAG v0) fun x1=>
 EvO (zC E 306 0 x1) fun x2=>
 EvO (zG E 3 h x2) fun x3=>
 EvO (zF E .add 3 x3 (.int .i64 1)) fun x4=>
 EvO (zAG v0) fun x5=>
 EvO (zC E 306 0 x5) fun x6=>
 Ev s (zh E 3 h x6 x4) fun x7=>
 PI (C268 s) K 2 [v0,v2,v4] x7.2):PI (C268 s) K 1 [v0,v2,v4] h:=zB H
theorem P268_2_of (H :
 EvO (zAG v0) fun x2=>
 EvO (zC E 306 1 x2) fun x3=>
 EvO (zG E 3 h x3) fun x4=>
 EvO (zM E (zm [(19,x4),(20,v2)]) (zr B268 [1,1,0] 6) h) fun x6=>
 EvO (zAG v0) fun x7=>
 EvO (zC E 306 1 x7) fun x8=>
 Ev s (zh E 3 h x8 x6) fun x9=>
 PI (C268 s) K 3 [v0,v2,v4] x9.2):PI (C268 s) K 2 [v0,v2,v4] h:=zB H
theorem P268_3_of (H :
 EvO (zC E 173 2 v4) fun x0=>
 EvO (zG E 34 h x0) fun x1=>
 EvO (zM E (zm [(25,x1)]) (zr B268 [1,1,1,0] 2) h) fun x2=>
 PI (C268 s) K 4 [v0,v2,x1,x2,(.int .i64 0)] h):PI (C268 s) K 3 [v0,v2,v4] h:=zB H
theorem len268_3_2:zM E (zm [(25,.slice a n c)]) (zr B268 [1,1,1,0] 2) h=some (.int .i64 (n:Int)):=by cases a <;> kernel_rfl
theorem P268_4_of (H :
 EvO (zF E .lss 3 v27 v26) fun x0=>
 BrK x0 (PI (C268 s) K 5 [v0,v2,v25,v26,v27] h) (K .normal [] h)):PI (C268 s) K 4 [v0,v2,v25,v26,v27] h:=zB H
theorem P268_5_of (H :
 EvO (zH E 34 v25 v27) fun x0=>
 EvO (zG E 173 h x0) fun x1=>
 Ev s (zP 173 h (zv E 173)) fun x2=>
 Ev s (zh E 173 x2.2 x2.1 x1) fun x3=>
 PI (C268 s) K 6 [v0,v2,x2.1,v25,v26,v27] x3.2):PI (C268 s) K 5 [v0,v2,v25,v26,v27] h:=zB H
theorem P268_6_of (H :
 EvO (zAG v0) fun x1=>
 EvO (zC E 306 0 x1) fun x2=>
 EvO (zG E 3 h x2) fun x3=>
 EvO (zF E .gtr 3 x3 (.int .i64 2000)) fun x4=>
 EvO (gdB x4 false v0) fun x6=>
 EvO (gdB x4 false (zAG x6)) fun x7=>
 EvO (gdB x4 false (zC E 306 1 x7)) fun x8=>
 EvO (gdB x4 false (zG E 3 h x8)) fun x9=>
 EvO (gdB x4 false (zF E .gtr 3 x9 (.int .i64 200))) fun x10=>
 EvO (z0 x4 (some (.bool true)) x10) fun x11=>
 BrK x11 (K .ret [] h) (PI (C268 s) K 7 [v0,v2,v7,v25,v26,v27] h)):PI (C268 s) K 6 [v0,v2,v7,v25,v26,v27] h:=zB H
theorem P268_7_of (H :
 EvO (zG E 173 h v7) fun x1=>
 EvO (zF E .add 3 v2 (.int .i64 1)) fun x3=>
 Ev s (zV (zX E) (some (.func (.func 268) #[] #[])) [v0,x1,x3] h) fun x4=>
 PI (C268 s) K 8 [v0,v2,v25,v26,v27] x4.2):PI (C268 s) K 7 [v0,v2,v7,v25,v26,v27] h:=zB H
theorem P268_8_of (H :
 EvO (zF E .add 3 v27 (.int .i64 1)) fun x0=>
 PI (C268 s) K 4 [v0,v2,v25,v26,x0] h):PI (C268 s) K 8 [v0,v2,v25,v26,v27] h:=zB H
theorem F268_some (H:PI (C268 true) (KR E [] fun x k=>(zj x=false\/k.wm<h.next)/\Rp x ⟨k.t,k.next,cond (Nat.ble h.wm k.wm) h.wm k.wm⟩) 0 [v0,v1,v2] h.fresh):Ev true ((zX E).call 268 [v0,v1,v2] h) fun x=>Rp x.1 x.2:=someF Tryz.f268 (zz (C268 true) H)
noncomputable def B269:Code:=ze Tryz.f269
noncomputable def C269 (s:Bool):Cx:=⟨E,s,none,B269,[([0],[0]),([1,0],[0])],[2],[]⟩
theorem P269_0_of (H :
 PI (C269 s) K 1 [v0] h):PI (C269 s) K 0 [v0] h:=zB H
theorem P269_1_of (H :
 EvO (zAG v0) fun x1=>
 EvO (zC E 306 0 x1) fun x2=>
 EvO (zG E 3 h x2) fun x3=>
 EvO (zF E .gtr 3 x3 (.int .i64 2000)) fun x4=>
 EvO (gdB x4 false v0) fun x6=>
 EvO (gdB x4 false (zAG x6)) fun x7=>
 EvO (gdB x4 false (zC E 306 1 x7)) fun x8=>
 EvO (gdB x4 false (zG E 3 h x8)) fun x9=>
 EvO (gdB x4 false (zF E .gtr 3 x9 (.int .i64 200))) fun x10=>
 EvO (z0 x4 (some (.bool true)) x10) fun x11=>
 K .ret [x11] h):PI (C269 s) K 1 [v0] h:=zB H
theorem F269_flat (hok:h.ok) (hv:zg v=true) (H:PI (C269 s) (KR E [.tmp 2] fun x k=>x=v/\h.next<=k.wm) 0 [v0] h.fresh):(zX E).call 269 [v0] h=some [(v,h)]:=zAT Tryz.f269 hok hv (zz (C269 s) H)
end Go.Proofs
namespace Go.Proofs
open Go Go.AM
set_option maxRecDepth 100000
variable {s:Bool} {K:KF} {h:AH} {a:Option Addr} {n c:Nat} {v v0 v1 v2 v3 v4 v5 v6 v7 v8 v9 v15 v36 v37 v38:Value} {h1:AH} {Rp:Value->AH->Prop}
noncomputable def B222:Code:=ze Tryz.f222
noncomputable def C222 (s:Bool):Cx:=⟨E,s,none,B222,[([0],[0,1,2]),([1,0],[0,1,2,4]),([1,1,0],[0,2,4,5]),([1,1,1,0,0,0,0],[0,2,4,5,6]),([1,1,1,0,0,1,0,0,0,0],[0,2,4,5,6]),([1,1,1,0,0,1,0,0,1,0],[0,2,4,5,6]),([1,1,1,0,0,1,0,0,1,1,0,0,0],[0,2,4,5,6,36,37,38]),([1,1,1,0,0,1,0,0,1,1,0,0,1,1,0,0,0],[0,2,4,5,6,36,37,38]),([1,1,1,0,0,1,0,0,1,1,0,0,1,1,0,0,1,0],[0,2,4,5,6,8,36,37,38]),([1,1,1,0,0,1,0,0,1,1,0,0,1,1,0,0,1,1,0,0],[0,2,4,5,6,8,36,37,38]),([1,1,1,0,0,1,0,0,1,1,0,0,1,1,0,0,1,1,0,1],[0,2,4,5,6,8,36,37,38]),([1,1,1,0,0,1,0,0,1,1,0,0,1,1,1],[0,2,4,5,6,36,37,38]),([1,1,1,0,0,1,1],[0,2,4,5,6])],[],[]⟩
abbrev P222_3 (s:Bool) (K:KF) (v0 v2 v4 v5 v6:Value) (h:AH):Prop:=PI (C222 s) K 3 [v0,v2,v4,v5,v6] h
abbrev P222_4 (s:Bool) (K:KF) (v0 v2 v4 v5 v6:Value) (h:AH):Prop:=PI (C222 s) K 4 [v0,v2,v4,v5,v6] h
abbrev P222_6 (s:Bool) (K:KF) (v0 v2 v4 v5 v6 v36 v37 v38:Value) (h:AH):Prop:=PI (C222 s) K 6 [v0,v2,v4,v5,v6,v36,v37,v38] h
abbrev P222_11 (s:Bool) (K:KF) (v0 v2 v4 v5 v6 v36 v37 v38:Value) (h:AH):Prop:=PI (C222 s) K 11 [v0,v2,v4,v5,v6,v36,v37,v38] h
theorem P222_0_of (H :
 Ev s (one ((.map (some (h).next):Value),(h).new (.map [] 0))) fun x0=>
 EvO (zG E 3 x0.2 v1) fun x1=>
 Ev s (zAS E 273 x0.1 x1 (some (.bool true)) x0.2) fun x2=>
 PI (C222 s) K 1 [v0,v1,v2,x0.1] x2.2):PI (C222 s) K 0 [v0,v1,v2] h:=zB H
theorem P222_1_of (H :
 EvO (zG E 3 h v1) fun x0=>
 Ev s (zi E 47 1 (some [(0,x0)]) h) fun x1=>
 PI (C222 s) K 2 [v0,v2,v4,x1.1] x1.2):PI (C222 s) K 1 [v0,v1,v2,v4] h:=zB H
theorem P222_2_of (H :
 PI (C222 s) K 3 [v0,v2,v4,v5,(.int .i64 0)] h):PI (C222 s) K 2 [v0,v2,v4,v5] h:=zB H
theorem P222_3_of (H :
 EvO (zM E (zm [(15,v5)]) (zr B222 [1,1,1,0,0,0,0] 2) h) fun x2=>
 EvO (zF E .lss 3 v6 x2) fun x3=>
 BrK x3 (PI (C222 s) K 4 [v0,v2,v4,v5,v6] h) (K .normal [] h)):PI (C222 s) K 3 [v0,v2,v4,v5,v6] h:=zB H
theorem len222_3_2:zM E (zm [(15,.slice a n c)]) (zr B222 [1,1,1,0,0,0,0] 2) h=some (.int .i64 (n:Int)):=by cases a <;> kernel_rfl
theorem P222_4_of (H :
 EvO (zH E 47 v5 v6) fun x3=>
 EvO (zG E 3 h x3) fun x4=>
 Ev s (zV (zX E) v0 [x4] h) fun x5=>
 EvO (zAY .not x5.1) fun x6=>
 BrK x6 (K .ret [] x5.2) (PI (C222 s) K 5 [v0,v2,v4,v5,v6] x5.2)):PI (C222 s) K 4 [v0,v2,v4,v5,v6] h:=zB H
theorem P222_5_of (H :
 EvO (zG E 128 h v2) fun x0=>
 EvO (zAG x0) fun x1=>
 EvO (zC E 131 0 x1) fun x2=>
 EvO (zG E 129 h x2) fun x3=>
 EvO (zH E 47 v5 v6) fun x6=>
 EvO (zG E 3 h x6) fun x7=>
 EvO (zH E 129 x3 x7) fun x8=>
 EvO (zG E 132 h x8) fun x9=>
 EvO (zM E (zm [(36,x9)]) (zr B222 [1,1,1,0,0,1,0,0,1,0] 10) h) fun x10=>
 PI (C222 s) K 6 [v0,v2,v4,v5,v6,x9,x10,(.int .i64 0)] h):PI (C222 s) K 5 [v0,v2,v4,v5,v6] h:=zB H
theorem len222_5_10:zM E (zm [(36,.slice a n c)]) (zr B222 [1,1,1,0,0,1,0,0,1,0] 10) h=some (.int .i64 (n:Int)):=by cases a <;> kernel_rfl
theorem P222_6_of (H :
 EvO (zF E .lss 3 v38 v37) fun x0=>
 BrK x0 (PI (C222 s) K 7 [v0,v2,v4,v5,v6,v36,v37,v38] h) (PI (C222 s) K 12 [v0,v2,v4,v5,v6] h)):PI (C222 s) K 6 [v0,v2,v4,v5,v6,v36,v37,v38] h:=zB H
theorem P222_7_of (H :
 EvO (zH E 132 v36 v38) fun x0=>
 EvO (zG E 134 h x0) fun x1=>
 Ev s (zP 134 h (zv E 134)) fun x2=>
 Ev s (zh E 134 x2.2 x2.1 x1) fun x3=>
 PI (C222 s) K 8 [v0,v2,v4,v5,v6,x2.1,v36,v37,v38] x3.2):PI (C222 s) K 7 [v0,v2,v4,v5,v6,v36,v37,v38] h:=zB H
theorem P222_8_of (H :
 EvO (zC E 134 0 v8) fun x0=>
 EvO (zG E 3 h x0) fun x1=>
 EvO (zF E .eql 3 x1 (.int .i64 0)) fun x2=>
 EvO (gdB x2 true v4) fun x4=>
 EvO (gdB x2 true (zC E 134 1 v8)) fun x5=>
 EvO (gdB x2 true (zG E 3 h x5)) fun x6=>
 EvO (gdB x2 true (zDG E 273 false x4 x6 h)) fun x7=>
 EvO (gdB x2 true (zAY .not x7)) fun x8=>
 EvO (z0 x2 x8 (some (.bool false))) fun x9=>
 BrK x9 (PI (C222 s) K 9 [v0,v2,v4,v5,v6,v8,v36,v37,v38] h) (PI (C222 s) K 11 [v0,v2,v4,v5,v6,v36,v37,v38] h)):PI (C222 s) K 8 [v0,v2,v4,v5,v6,v8,v36,v37,v38] h:=zB H
theorem P222_9_of (H :
 EvO (zC E 134 1 v8) fun x1=>
 EvO (zG E 3 h x1) fun x2=>
 Ev s (zAS E 273 v4 x2 (some (.bool true)) h) fun x3=>
 PI (C222 s) K 10 [v0,v2,v4,v5,v6,v8,v36,v37,v38] x3.2):PI (C222 s) K 9 [v0,v2,v4,v5,v6,v8,v36,v37,v38] h:=zB H
theorem P222_10_of (H :
 EvO (zC E 134 1 v8) fun x1=>
 EvO (zG E 3 h x1) fun x2=>
 Ev s (zi E 47 1 (some [(0,x2)]) h) fun x3=>
 Ev s (zAC E .append [47,47] [v5,x3.1] x3.2) fun x4=>
 PI (C222 s) K 11 [v0,v2,v4,x4.1,v6,v36,v37,v38] x4.2):PI (C222 s) K 10 [v0,v2,v4,v5,v6,v8,v36,v37,v38] h:=zB H
theorem P222_11_of (H :
 EvO (zF E .add 3 v38 (.int .i64 1)) fun x0=>
 PI (C222 s) K 6 [v0,v2,v4,v5,v6,v36,v37,x0] h):PI (C222 s) K 11 [v0,v2,v4,v5,v6,v36,v37,v38] h:=zB H
theorem P222_12_of (H :
 EvO (zF E .add 3 v6 (.int .i64 1)) fun x1=>
 PI (C222 s) K 3 [v0,v2,v4,v5,x1] h):PI (C222 s) K 12 [v0,v2,v4,v5,v6] h:=zB H
theorem F222_some (H:PI (C222 true) (KR E [] fun x k=>(zj x=false\/k.wm<h.next)/\Rp x ⟨k.t,k.next,cond (Nat.ble h.wm k.wm) h.wm k.wm⟩) 0 [v0,v1,v2] h.fresh):Ev true ((zX E).call 222 [v0,v1,v2] h) fun x=>Rp x.1 x.2:=someF Tryz.f222 (zz (C222 true) H)
noncomputable def B130a:Code:=sub B130 [0]
noncomputable def C130a (s:Bool):Cx:=⟨E,s,none,B130a,[([],[0,1,2,3])],[2,4,5,7,8],[]⟩
theorem P130a_0_of (H :
 Ev s (zP 178 h v0) fun x0=>
 Ev s (zP 3 x0.2 v1) fun x1=>
 Ev s (zP 134 x1.2 v3) fun x2=>
 Ev s (zP 4 x2.2 (zv E 4)) fun x3=>
 K .normal [v2,x0.1,x1.1,x2.1,x3.1] x3.2):PI (C130a s) K 0 [v0,v1,v2,v3] h:=zB H
theorem F130a_ev {s:Bool} {v0 v1 v2 v3:Value} {T:Tm} {h:AH} {K:KF} (hT:∀ x∈[(0,v0),(1,v1),(2,v2),(3,v3)],T.get x.1=x.2) (H:PI (C130a s) K 0 [v0,v1,v2,v3] h) :
 Ev s (evC E (zX E) none B130a ⟨T,h,[]⟩) (finQ (C130a s ) K):=
 enter_ok (C:=C130a s ) (by kernel_rfl) (by kernel_rfl) hT ((by kernel_rfl:contK (C130a s ) K 30 (rs B130a 60 (.at [])) (zm [(0,v0),(1,v1),(2,v2),(3,v3)]) h=(PI (C130a s) K 0 [v0,v1,v2,v3] h)).mpr H)
noncomputable def B130b:Code:=sub B130 [1,0,0]
noncomputable def C130b (s:Bool):Cx:=⟨E,s,none,B130b,[([],[2,4,5,7,8])],[4,5,7,8,14],[]⟩
theorem P130b_0_of (H :
 EvO (zC E 178 0 v4) fun x0=>
 EvO (zC E 176 1 x0) fun x1=>
 EvO (zG E 128 h x1) fun x2=>
 Ev s (zV (zX E) (some (.func (.func 178) #[] #[])) [x2,v2] h) fun x4=>
 K .normal [v4,v5,v7,v8,x4.1] x4.2):PI (C130b s) K 0 [v2,v4,v5,v7,v8] h:=zB H
theorem F130b_ev {s:Bool} {v2 v4 v5 v7 v8:Value} {T:Tm} {h:AH} {K:KF} (hT:∀ x∈[(2,v2),(4,v4),(5,v5),(7,v7),(8,v8)],T.get x.1=x.2) (H:PI (C130b s) K 0 [v2,v4,v5,v7,v8] h) :
 Ev s (evC E (zX E) none B130b ⟨T,h,[]⟩) (finQ (C130b s ) K):=
 enter_ok (C:=C130b s ) (by kernel_rfl) (by kernel_rfl) hT ((by kernel_rfl:contK (C130b s ) K 30 (rs B130b 60 (.at [])) (zm [(2,v2),(4,v4),(5,v5),(7,v7),(8,v8)]) h=(PI (C130b s) K 0 [v2,v4,v5,v7,v8] h)).mpr H)
noncomputable def B130c:Code:=rfBody (sub B130 [1,0,1,0])
noncomputable def C130c (s:Bool) (ll:Nat):Cx:=⟨E,s,some ll,B130c,[([0,0],[4,5,7,8,9]),([0,1,0,0],[8])],[],[]⟩
abbrev P130c_1 (s:Bool) (ll:Nat) (K:KF) (v8:Value) (h:AH):Prop:=PI (C130c s ll) K 1 [v8] h
theorem P130c_0_of {ll:Nat} (H :
 EvO (zC E 178 0 v4) fun x0=>
 EvO (zG E 176 h x0) fun x1=>
 EvO (zG E 3 h v5) fun x2=>
 Ev s (zV (zX E) (some (.func (.func 123) #[] #[])) [x1,x2,v9] h) fun x4=>
 EvO (gdB x4.1 true (zC E 134 0 v7)) fun x6=>
 EvO (gdB x4.1 true (zG E 3 x4.2 x6)) fun x7=>
 EvO (gdB x4.1 true (zF E .eql 3 x7 (.int .i64 0))) fun x8=>
 EvO (gdB x4.1 true x8) fun x9=>
 EvO (gdB x9 true (zC E 178 0 v4)) fun x10=>
 EvO (gdB x9 true (zG E 176 x4.2 x10)) fun x11=>
 EvO (gdB x9 true (zC E 134 1 v7)) fun x12=>
 EvO (gdB x9 true (zG E 3 x4.2 x12)) fun x13=>
 EvO (gdB x9 true v9) fun x14=>
 Ev s (gdW x9 true (zV (zX E) (some (.func (.func 123) #[] #[])) [x11,x13,x14] x4.2) x4.2) fun x15=>
 EvO (gdB x4.1 true (z0 x9 x15.1 (some (.bool false)))) fun x16=>
 EvO (gdB x4.1 true x16) fun x17=>
 EvO (gdB x17 false (zG E 178 x15.2 v4)) fun x18=>
 EvO (gdB x17 false (zG E 3 x15.2 v5)) fun x19=>
 EvO (gdB x17 false v9) fun x20=>
 EvO (gdB x17 false (zG E 134 x15.2 v7)) fun x21=>
 Ev s (gdW x17 false (zV (zX E) (some (.func (.func 128) #[] #[])) [x18,x19,x20,x21] x15.2) x15.2) fun x22=>
 EvO (gdB x4.1 true (z0 x17 (some (.bool true)) x22.1)) fun x23=>
 EvO (z0 x4.1 x23 (some (.bool false))) fun x24=>
 BrK x24 (PI (C130c s ll) K 1 [v8] x22.2) (K .normal [] x22.2)):PI (C130c s ll) K 0 [v4,v5,v7,v8,v9] h:=zB H
theorem P130c_1_of {ll:Nat} (H :
 Ev s (zh E 4 h v8 (some (.bool true))) fun x0=>
 K .ret [] x0.2):PI (C130c s ll) K 1 [v8] h:=zB H
theorem F130c_ev {s:Bool} {ll:Nat} {v4 v5 v7 v8 v9:Value} {T:Tm} {h:AH} {K:KF} (hT:∀ x∈[(4,v4),(5,v5),(7,v7),(8,v8),(9,v9)],T.get x.1=x.2) (H:PI (C130c s ll) K 0 [v4,v5,v7,v8,v9] h) :
 Ev s (evC E (zX E) (some ll) B130c ⟨T,h,[]⟩) (finQ (C130c s ll ) K):=
 enter_ok (C:=C130c s ll ) (by kernel_rfl) (by kernel_rfl) hT ((by kernel_rfl:contK (C130c s ll ) K 30 (rs B130c 60 (.at [])) (zm [(4,v4),(5,v5),(7,v7),(8,v8),(9,v9)]) h=(PI (C130c s ll) K 0 [v4,v5,v7,v8,v9] h)).mpr H)
noncomputable def B130d:Code:=rfAs (sub B130 [1,0,1,0])
noncomputable def C130d (s:Bool) (ll:Nat):Cx:=⟨E,s,some ll,B130d,[([],[4,5,7,8,15])],[4,5,7,8,9],[]⟩
theorem P130d_0_of {ll:Nat} (H :
 K .normal [v4,v5,v7,v8,v15] h):PI (C130d s ll) K 0 [v4,v5,v7,v8,v15] h:=zB H
theorem F130d_ev {s:Bool} {ll:Nat} {v4 v5 v7 v8 v15:Value} {T:Tm} {h:AH} {K:KF} (hT:∀ x∈[(4,v4),(5,v5),(7,v7),(8,v8),(15,v15)],T.get x.1=x.2) (H:PI (C130d s ll) K 0 [v4,v5,v7,v8,v15] h) :
 Ev s (evC E (zX E) (some ll) B130d ⟨T,h,[]⟩) (finQ (C130d s ll ) K):=
 enter_ok (C:=C130d s ll ) (by kernel_rfl) (by kernel_rfl) hT ((by kernel_rfl:contK (C130d s ll ) K 30 (rs B130d 60 (.at [])) (zm [(4,v4),(5,v5),(7,v7),(8,v8),(15,v15)]) h=(PI (C130d s ll) K 0 [v4,v5,v7,v8,v15] h)).mpr H)
noncomputable def B130e:Code:=sub B130 [1,1,0]
def Q130e_0 (s:Bool) (K:KF) (v8:Value) (h:AH):Prop:=
 Ev s (zh E 4 h v8 (some (.bool false))) fun x0=>
 K .normal [v8] x0.2
end Go.Proofs
namespace Go.Proofs
open Go Go.AM
set_option maxRecDepth 100000
theorem und_49:und E 49=some (.slice 23):=by kernel_rfl
theorem elt_49:zDP E 49=some 23:=by kernel_rfl
theorem ia_49 {b o len c k:Nat} (h:k<len):zH E 49 (some (.slice (some ⟨b,o,none⟩) len c)) (some (.int .i64 (k:Int)))=some (.pointer (some ⟨b,o+k*1,none⟩)):=zAL und_49 (by kernel_rfl) h
theorem ts_47:zAO E 47=some 1:=by kernel_rfl
theorem ta_47:tAS E 47=some (false,1):=by kernel_rfl
end Go.Proofs
