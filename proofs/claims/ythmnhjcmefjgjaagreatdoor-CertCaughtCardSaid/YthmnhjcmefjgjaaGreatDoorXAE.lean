import Derived.Test.YthmnhjcmefjgjaaGreatDoorXAD
set_option linter.all false
set_option linter.unusedSectionVars false
set_option autoImplicit true
set_option relaxedAutoImplicit true
namespace Go.Proofs
open Go Go.AM
set_option maxRecDepth 100000
variable {s:Bool} {K:KF} {h:AH} {a:Option Addr} {n c:Nat} {v v0 v1 v2 v3 v4 v5 v6 v7 v8 v9 v10 v11 v12 v13 v14 v16 v17 v18 v19 v22 v23 v24 v25 v26 v27 v29 v30 v31 v32 v34 v35 v36 v50 v51 v52 v56 v57 v58 v64 v65 v66:Value} {h1:AH} {Rp:Value->AH->Prop}
noncomputable def B14:Code:=zc Tryz.f14
noncomputable def C14 (s:Bool):Cx:=⟨E,s,none,B14,[([0],[0]),([1,0],[0]),([1,1,0,0],[0,3]),([1,1,0,1,0,0,0],[3,8,9,10]),([1,1,0,1,0,0,1,1,0,0,0],[3,8,9,10]),([1,1,0,1,0,0,1,1,0,0,1,0,0],[3,5,8,9,10]),([1,1,0,1,0,0,1,1,0,0,1,0,1,0,0],[]),([1,1,0,1,0,0,1,1,0,0,1,1,0],[3,5,8,9,10]),([1,1,0,1,0,0,1,1,0,0,1,1,1,0,0,0],[3,8,9,10,30,31,32]),([1,1,0,1,0,0,1,1,0,0,1,1,1,0,0,1,1,0,0,0],[3,8,9,10,30,31,32]),([1,1,0,1,0,0,1,1,0,0,1,1,1,0,0,1,1,0,0,1,0],[3,7,8,9,10,30,31,32]),([1,1,0,1,0,0,1,1,0,0,1,1,1,0,0,1,1,0,0,1,1,0,0],[]),([1,1,0,1,0,0,1,1,0,0,1,1,1,0,0,1,1,1],[3,8,9,10,30,31,32]),([1,1,0,1,0,0,1,1,1],[3,8,9,10]),([1,1,1,0],[])],[2],[]⟩
abbrev P14_3 (s:Bool) (K:KF) (v3 v8 v9 v10:Value) (h:AH):Prop:=PI (C14 s) K 3 [v3,v8,v9,v10] h
abbrev P14_6 (s:Bool) (K:KF) (h:AH):Prop:=PI (C14 s) K 6 [] h
abbrev P14_8 (s:Bool) (K:KF) (v3 v8 v9 v10 v30 v31 v32:Value) (h:AH):Prop:=PI (C14 s) K 8 [v3,v8,v9,v10,v30,v31,v32] h
theorem zen (H :
 PI (C14 s) K 1 [v0] h):PI (C14 s) K 0 [v0] h:=zB H
theorem zem (H :
 Ev s (zX 3 h (zAG E 3)) fun x0=>
 Ev s (ze E 3 x0.2 x0.1 (some (.int .i64 2000))) fun x1=>
 PI (C14 s) K 2 [v0,x0.1] x1.2):PI (C14 s) K 1 [v0] h:=zB H
theorem zel (H :
 EvO (zO E (zl [(8,v0)]) (zn B14 [1,1,0,0] 1) h) fun x1=>
 PI (C14 s) K 3 [v3,v0,x1,(.int .i64 0)] h):PI (C14 s) K 2 [v0,v3] h:=zB H
theorem zSa:zO E (zl [(8,.slice a n c)]) (zn B14 [1,1,0,0] 1) h=some (.int .i64 (n:Int)):=by cases a <;> kernel_rfl
theorem zOr (H :
 EvO (zC E .lss 3 v10 v9) fun x0=>
 BrK x0 (PI (C14 s) K 4 [v3,v8,v9,v10] h) (PI (C14 s) K 14 [] h)):PI (C14 s) K 3 [v3,v8,v9,v10] h:=zB H
theorem zek (H :
 EvO (zE E 82 v8 v10) fun x0=>
 EvO (zH E 25 h x0) fun x1=>
 Ev s (zX 25 h (zAG E 25)) fun x2=>
 Ev s (ze E 25 x2.2 x2.1 x1) fun x3=>
 PI (C14 s) K 5 [v3,x2.1,v8,v9,v10] x3.2):PI (C14 s) K 4 [v3,v8,v9,v10] h:=zB H
theorem zej (H :
 EvO (zD E 25 0 v5) fun x0=>
 EvO (zH E 3 h x0) fun x1=>
 EvO (zC E .gtr 3 x1 (.int .i64 60)) fun x2=>
 EvO (gdB x2 false (zD E 25 2 v5)) fun x4=>
 EvO (gdB x2 false (zH E 23 h x4)) fun x5=>
 EvO (gdB x2 false (zO E (zl [(19,x5)]) (zn B14 [1,1,0,1,0,0,1,1,0,0,1,0,0] 6) h)) fun x6=>
 EvO (gdB x2 false (zC E .gtr 3 x6 (.int .i64 300))) fun x7=>
 EvO (z7 x2 (some (.bool true)) x7) fun x8=>
 EvO (gdB x8 false (zD E 25 1 v5)) fun x10=>
 EvO (gdB x8 false (zH E 22 h x10)) fun x11=>
 EvO (gdB x8 false (zO E (zl [(25,x11)]) (zn B14 [1,1,0,1,0,0,1,1,0,0,1,0,0] 12) h)) fun x12=>
 EvO (gdB x8 false (zC E .gtr 3 x12 (.int .i64 60))) fun x13=>
 EvO (z7 x8 (some (.bool true)) x13) fun x14=>
 BrK x14 (PI (C14 s) K 6 [] h) (PI (C14 s) K 7 [v3,v5,v8,v9,v10] h)):PI (C14 s) K 5 [v3,v5,v8,v9,v10] h:=zB H
theorem zSZ:zO E (zl [(19,.slice a n c)]) (zn B14 [1,1,0,1,0,0,1,1,0,0,1,0,0] 6) h=some (.int .i64 (n:Int)):=by cases a <;> kernel_rfl
theorem zPY:zO E (zl [(25,.slice a n c)]) (zn B14 [1,1,0,1,0,0,1,1,0,0,1,0,0] 12) h=some (.int .i64 (n:Int)):=by cases a <;> kernel_rfl
theorem zei (H :
 K .ret [(.bool false)] h):PI (C14 s) K 6 [] h:=zB H
theorem zeh (H :
 EvO (zD E 25 1 v5) fun x0=>
 EvO (zH E 22 h x0) fun x1=>
 EvO (zO E (zl [(30,x1)]) (zn B14 [1,1,0,1,0,0,1,1,0,0,1,1,0] 2) h) fun x2=>
 PI (C14 s) K 8 [v3,v8,v9,v10,x1,x2,(.int .i64 0)] h):PI (C14 s) K 7 [v3,v5,v8,v9,v10] h:=zB H
theorem zSY:zO E (zl [(30,.slice a n c)]) (zn B14 [1,1,0,1,0,0,1,1,0,0,1,1,0] 2) h=some (.int .i64 (n:Int)):=by cases a <;> kernel_rfl
theorem zOq (H :
 EvO (zC E .lss 3 v32 v31) fun x0=>
 BrK x0 (PI (C14 s) K 9 [v3,v8,v9,v10,v30,v31,v32] h) (PI (C14 s) K 13 [v3,v8,v9,v10] h)):PI (C14 s) K 8 [v3,v8,v9,v10,v30,v31,v32] h:=zB H
theorem zeg (H :
 EvO (zE E 22 v30 v32) fun x0=>
 EvO (zH E 36 h x0) fun x1=>
 Ev s (zX 36 h (zAG E 36)) fun x2=>
 Ev s (ze E 36 x2.2 x2.1 x1) fun x3=>
 PI (C14 s) K 10 [v3,x2.1,v8,v9,v10,v30,v31,v32] x3.2):PI (C14 s) K 9 [v3,v8,v9,v10,v30,v31,v32] h:=zB H
theorem zYR (H :
 EvO (zD E 36 1 v7) fun x0=>
 EvO (zH E 34 h x0) fun x1=>
 Ev s (zQ (zW E) (some (.func (.func 69) #[] #[])) (some [x1,v3,(.int .i64 1)]) h) fun x2=>
 EvO (zAQ .not x2.1) fun x3=>
 BrK x3 (PI (C14 s) K 11 [] x2.2) (PI (C14 s) K 12 [v3,v8,v9,v10,v30,v31,v32] x2.2)):PI (C14 s) K 10 [v3,v7,v8,v9,v10,v30,v31,v32] h:=zB H
theorem zYQ (H :
 K .ret [(.bool false)] h):PI (C14 s) K 11 [] h:=zB H
theorem zYP (H :
 EvO (zC E .add 3 v32 (.int .i64 1)) fun x0=>
 PI (C14 s) K 8 [v3,v8,v9,v10,v30,v31,x0] h):PI (C14 s) K 12 [v3,v8,v9,v10,v30,v31,v32] h:=zB H
theorem zYO (H :
 EvO (zC E .add 3 v10 (.int .i64 1)) fun x0=>
 PI (C14 s) K 3 [v3,v8,v9,x0] h):PI (C14 s) K 13 [v3,v8,v9,v10] h:=zB H
theorem zYN (H :
 K .ret [(.bool true)] h):PI (C14 s) K 14 [] h:=zB H
theorem zau {Rp:Value->Prop} (hok:h.ok) (H:PI (C14 true) (KR E [.tmp 2] fun x k=>(zh x=true/\Rp x)/\h.next<=k.wm) 0 [v0] h.fresh):∃ v,Rp v/\(zW E).call 14 [v0] h=some [(v,h)]:=zCy Tryz.f14 hok (zz (C14 true) H)
noncomputable def B15:Code:=zc Tryz.f15
noncomputable def C15 (s:Bool):Cx:=⟨E,s,none,B15,[([0],[0,1,2]),([1,0,0],[3,4,5]),([1,0,1,0],[3,4,5,7]),([1,0,1,1,0,0],[7]),([1,1,0,0],[3,4,5]),([1,1,0,1,0],[3,4,5,8]),([1,1,0,1,1,0,0],[8]),([1,1,1,0,0],[3,4,5]),([1,1,1,0,1,0,0],[]),([1,1,1,1,0],[])],[6],[]⟩
theorem zef (H :
 Ev s (zX 25 h v0) fun x0=>
 Ev s (zX 25 x0.2 v1) fun x1=>
 Ev s (zX 32 x1.2 v2) fun x2=>
 PI (C15 s) K 1 [x0.1,x1.1,x2.1] x2.2):PI (C15 s) K 0 [v0,v1,v2] h:=zB H
theorem zee (H :
 EvO (zH E 25 h v3) fun x0=>
 EvO (zH E 25 h v4) fun x1=>
 Ev s (zf E 82 2 (some [(0,x0),(1,x1)]) h) fun x2=>
 Ev s (zQ (zW E) (some (.func (.func 70) #[] #[])) [x2.1] x2.2) fun x3=>
 PI (C15 s) K 2 [v3,v4,v5,x3.1] x3.2):PI (C15 s) K 1 [v3,v4,v5] h:=zB H
theorem zed (H :
 EvO (zC E .neq 29 v7 (.int .i64 0)) fun x1=>
 BrK x1 (PI (C15 s) K 3 [v7] h) (PI (C15 s) K 4 [v3,v4,v5] h)):PI (C15 s) K 2 [v3,v4,v5,v7] h:=zB H
theorem zec (H :
 K .ret [v7] h):PI (C15 s) K 3 [v7] h:=zB H
theorem zeb (H :
 EvO (zH E 32 h v5) fun x0=>
 Ev s (zf E 83 1 (some [(0,x0)]) h) fun x1=>
 Ev s (zQ (zW E) (some (.func (.func 71) #[] #[])) [x1.1] x1.2) fun x2=>
 PI (C15 s) K 5 [v3,v4,v5,x2.1] x2.2):PI (C15 s) K 4 [v3,v4,v5] h:=zB H
theorem zea (H :
 EvO (zC E .neq 29 v8 (.int .i64 0)) fun x1=>
 BrK x1 (PI (C15 s) K 6 [v8] h) (PI (C15 s) K 7 [v3,v4,v5] h)):PI (C15 s) K 5 [v3,v4,v5,v8] h:=zB H
theorem zeZ (H :
 K .ret [v8] h):PI (C15 s) K 6 [v8] h:=zB H
theorem zeY (H :
 EvO (zH E 25 h v3) fun x0=>
 EvO (zH E 25 h v4) fun x1=>
 EvO (zH E 32 h v5) fun x2=>
 Ev s (zQ (zW E) (some (.func (.func 72) #[] #[])) [x0,x1,x2] h) fun x3=>
 EvO (zAQ .not x3.1) fun x4=>
 BrK x4 (PI (C15 s) K 8 [] x3.2) (PI (C15 s) K 9 [] x3.2)):PI (C15 s) K 7 [v3,v4,v5] h:=zB H
theorem zeX (H :
 K .ret [(.int .i64 360)] h):PI (C15 s) K 8 [] h:=zB H
theorem zeW (H :
 K .ret [(.int .i64 0)] h):PI (C15 s) K 9 [] h:=zB H
theorem zfM (hok:h.ok) (hv:zg v=true) (H:PI (C15 s) (KR E [.tmp 6] fun x k=>x=v/\h.next<=k.wm) 0 [v0,v1,v2] h.fresh):(zW E).call 15 [v0,v1,v2] h=some [(v,h)]:=zAh Tryz.f15 hok hv (zz (C15 s) H)
noncomputable def B16:Code:=zc Tryz.f16
noncomputable def C16 (s:Bool):Cx:=⟨E,s,none,B16,[([0],[0,1]),([1,0],[0,1,4])],[4],[]⟩
abbrev P16_0 (s:Bool) (K:KF) (v0 v1:Value) (h:AH):Prop:=PI (C16 s) K 0 [v0,v1] h
theorem zeV (H :
 Ev s (zX 32 h (zAG E 32)) fun x0=>
 PI (C16 s) K 1 [v0,v1,x0.1] x0.2):PI (C16 s) K 0 [v0,v1] h:=zB H
theorem zeU (H :
 EvO (zAi E 32 (some [(0,v0),(1,v1)])) fun x2=>
 Ev s (ze E 32 h v4 x2) fun x3=>
 K .ret [v4] x3.2):PI (C16 s) K 1 [v0,v1,v4] h:=zB H
theorem zan (hok:h.ok) (hv:zh v=true) (H:PI (C16 true) (KR E [.cell 4 32] fun x k=>x=v/\h.next<=k.wm) 0 [v0,v1] h.fresh):(zW E).call 16 [v0,v1] h=some [(v,h)]:=zGD Tryz.f16 hok hv (zz (C16 true) H)
theorem zfL (H:PI (C16 true) (KR E [.cell 4 32] fun x k=>(zh x=false\/k.wm<h.next)/\Rp x ⟨k.t,k.next,cond (Nat.ble h.wm k.wm) h.wm k.wm⟩) 0 [v0,v1] h.fresh):Ev true ((zW E).call 16 [v0,v1] h) fun x=>Rp x.1 x.2:=zFb Tryz.f16 (zz (C16 true) H)
noncomputable def B69:Code:=zc Tryz.f69
noncomputable def C69 (s:Bool):Cx:=⟨E,s,none,B69,[([0],[0,1,2]),([1,0,0],[0,1,2]),([1,0,1,0,0,0],[1,2,9,10,11]),([1,0,1,0,0,1,1,0,0,0],[1,2,9,10,11]),([1,0,1,0,0,1,1,0,0,1,0],[1,2,8,9,10,11]),([1,0,1,0,0,1,1,0,0,1,1,0],[1,2,8,9,10,11]),([1,0,1,0,0,1,1,0,0,1,1,1,0,0],[]),([1,0,1,0,0,1,1,1],[1,2,9,10,11]),([1,1,0],[])],[6],[]⟩
abbrev P69_2 (s:Bool) (K:KF) (v1 v2 v9 v10 v11:Value) (h:AH):Prop:=PI (C69 s) K 2 [v1,v2,v9,v10,v11] h
abbrev P69_6 (s:Bool) (K:KF) (h:AH):Prop:=PI (C69 s) K 6 [] h
theorem zOZ (H :
 PI (C69 s) K 1 [v0,v1,v2] h):PI (C69 s) K 0 [v0,v1,v2] h:=zB H
theorem zOY (H :
 EvO (zO E (zl [(9,v0)]) (zn B69 [1,0,0] 1) h) fun x1=>
 PI (C69 s) K 2 [v1,v2,v0,x1,(.int .i64 0)] h):PI (C69 s) K 1 [v0,v1,v2] h:=zB H
theorem zKQ:zO E (zl [(9,.slice a n c)]) (zn B69 [1,0,0] 1) h=some (.int .i64 (n:Int)):=by cases a <;> kernel_rfl
theorem zJl (H :
 EvO (zC E .lss 3 v11 v10) fun x0=>
 BrK x0 (PI (C69 s) K 3 [v1,v2,v9,v10,v11] h) (PI (C69 s) K 8 [] h)):PI (C69 s) K 2 [v1,v2,v9,v10,v11] h:=zB H
theorem zdZ (H :
 EvO (zE E 34 v9 v11) fun x0=>
 EvO (zH E 173 h x0) fun x1=>
 Ev s (zX 173 h (zAG E 173)) fun x2=>
 Ev s (ze E 173 x2.2 x2.1 x1) fun x3=>
 PI (C69 s) K 4 [v1,v2,x2.1,v9,v10,v11] x3.2):PI (C69 s) K 3 [v1,v2,v9,v10,v11] h:=zB H
theorem zdY (H :
 EvO (zq v1) fun x1=>
 EvO (zH E 3 h x1) fun x2=>
 EvO (zC E .sub 3 x2 (.int .i64 1)) fun x3=>
 EvO (zq v1) fun x4=>
 Ev s (ze E 3 h x4 x3) fun x5=>
 PI (C69 s) K 5 [v1,v2,v8,v9,v10,v11] x5.2):PI (C69 s) K 4 [v1,v2,v8,v9,v10,v11] h:=zB H
theorem zdX (H :
 EvO (zq v1) fun x1=>
 EvO (zH E 3 h x1) fun x2=>
 EvO (zC E .lss 3 x2 (.int .i64 0)) fun x3=>
 EvO (gdB x3 false v2) fun x5=>
 EvO (gdB x3 false (zC E .gtr 3 x5 (.int .i64 100))) fun x6=>
 EvO (z7 x3 (some (.bool true)) x6) fun x7=>
 EvO (gdB x7 false (zD E 173 2 v8)) fun x9=>
 EvO (gdB x7 false (zH E 34 h x9)) fun x10=>
 EvO (gdB x7 false v1) fun x11=>
 EvO (gdB x7 false v2) fun x12=>
 EvO (gdB x7 false (zC E .add 3 x12 (.int .i64 1))) fun x13=>
 Ev s (gdW x7 false (zQ (zW E) (some (.func (.func 69) #[] #[])) [x10,x11,x13] h) h) fun x14=>
 EvO (gdB x7 false (zAQ .not x14.1)) fun x15=>
 EvO (z7 x7 (some (.bool true)) x15) fun x16=>
 BrK x16 (PI (C69 s) K 6 [] x14.2) (PI (C69 s) K 7 [v1,v2,v9,v10,v11] x14.2)):PI (C69 s) K 5 [v1,v2,v8,v9,v10,v11] h:=zB H
theorem zOX (H :
 K .ret [(.bool false)] h):PI (C69 s) K 6 [] h:=zB H
theorem zdW (H :
 EvO (zC E .add 3 v11 (.int .i64 1)) fun x0=>
 PI (C69 s) K 2 [v1,v2,v9,v10,x0] h):PI (C69 s) K 7 [v1,v2,v9,v10,v11] h:=zB H
theorem zOW (H :
 K .ret [(.bool true)] h):PI (C69 s) K 8 [] h:=zB H
theorem ze0 (hok:h.ok) (hv:zg v=true) (H:PI (C69 s) (KR E [.tmp 6] fun x k=>x=v/\h.next<=k.wm) 0 [v0,v1,v2] h.fresh):(zW E).call 69 [v0,v1,v2] h=some [(v,h)]:=zAh Tryz.f69 hok hv (zz (C69 s) H)
theorem zez (H:PI (C69 true) (KR E [.tmp 6] fun x k=>(zh x=false\/k.wm<h.next)/\Rp x ⟨k.t,k.next,cond (Nat.ble h.wm k.wm) h.wm k.wm⟩) 0 [v0,v1,v2] h.fresh):Ev true ((zW E).call 69 [v0,v1,v2] h) fun x=>Rp x.1 x.2:=zFb Tryz.f69 (zz (C69 true) H)
noncomputable def B70:Code:=zc Tryz.f70
noncomputable def C70 (s:Bool):Cx:=⟨E,s,none,B70,[([0],[0]),([1,0,0],[0]),([1,0,1,0,0,0],[5,6,7]),([1,0,1,0,0,1,1,0,0,0],[5,6,7]),([1,0,1,0,0,1,1,0,0,1,0],[4,5,6,7]),([1,0,1,0,0,1,1,0,0,1,1,0,0],[]),([1,0,1,0,0,1,1,1],[5,6,7]),([1,1,0],[])],[2],[]⟩
abbrev P70_2 (s:Bool) (K:KF) (v5 v6 v7:Value) (h:AH):Prop:=PI (C70 s) K 2 [v5,v6,v7] h
theorem zdV (H :
 PI (C70 s) K 1 [v0] h):PI (C70 s) K 0 [v0] h:=zB H
theorem zdU (H :
 EvO (zO E (zl [(5,v0)]) (zn B70 [1,0,0] 1) h) fun x1=>
 PI (C70 s) K 2 [v0,x1,(.int .i64 0)] h):PI (C70 s) K 1 [v0] h:=zB H
theorem zST:zO E (zl [(5,.slice a n c)]) (zn B70 [1,0,0] 1) h=some (.int .i64 (n:Int)):=by cases a <;> kernel_rfl
theorem zOV (H :
 EvO (zC E .lss 3 v7 v6) fun x0=>
 BrK x0 (PI (C70 s) K 3 [v5,v6,v7] h) (PI (C70 s) K 7 [] h)):PI (C70 s) K 2 [v5,v6,v7] h:=zB H
theorem zdT (H :
 EvO (zE E 82 v5 v7) fun x0=>
 EvO (zH E 25 h x0) fun x1=>
 Ev s (zX 25 h (zAG E 25)) fun x2=>
 Ev s (ze E 25 x2.2 x2.1 x1) fun x3=>
 PI (C70 s) K 4 [x2.1,v5,v6,v7] x3.2):PI (C70 s) K 3 [v5,v6,v7] h:=zB H
theorem zdS (H :
 EvO (zH E 25 h v4) fun x0=>
 Ev s (zQ (zW E) (some (.func (.func 121) #[] #[])) [x0] h) fun x1=>
 EvO (zC E .neq 29 x1.1 (.int .i64 0)) fun x2=>
 BrK x2 (PI (C70 s) K 5 [] x1.2) (PI (C70 s) K 6 [v5,v6,v7] x1.2)):PI (C70 s) K 4 [v4,v5,v6,v7] h:=zB H
theorem zdR (H :
 K .ret [(.int .i64 8)] h):PI (C70 s) K 5 [] h:=zB H
theorem zdQ (H :
 EvO (zC E .add 3 v7 (.int .i64 1)) fun x0=>
 PI (C70 s) K 2 [v5,v6,x0] h):PI (C70 s) K 6 [v5,v6,v7] h:=zB H
theorem zdP (H :
 K .ret [(.int .i64 0)] h):PI (C70 s) K 7 [] h:=zB H
theorem zey (hok:h.ok) (hv:zg v=true) (H:PI (C70 s) (KR E [.tmp 2] fun x k=>x=v/\h.next<=k.wm) 0 [v0] h.fresh):(zW E).call 70 [v0] h=some [(v,h)]:=zAh Tryz.f70 hok hv (zz (C70 s) H)
noncomputable def B71:Code:=zc Tryz.f71
noncomputable def C71 (s:Bool):Cx:=⟨E,s,none,B71,[([0],[0]),([1,0,0],[0]),([1,0,1,0,0,0],[7,8,9]),([1,0,1,0,0,1,1,0,0,0],[7,8,9]),([1,0,1,0,0,1,1,0,0,1,0,0],[4,7,8,9]),([1,0,1,0,0,1,1,0,0,1,0,1,0,0],[]),([1,0,1,0,0,1,1,0,0,1,1,0,0],[4,7,8,9]),([1,0,1,0,0,1,1,0,0,1,1,0,1,0,0],[]),([1,0,1,0,0,1,1,0,0,1,1,1,0],[4,7,8,9]),([1,0,1,0,0,1,1,0,0,1,1,1,1,0,0,0],[4,7,8,9,22,23,24]),([1,0,1,0,0,1,1,0,0,1,1,1,1,0,0,1,1,0,0,0],[4,7,8,9,22,23,24]),([1,0,1,0,0,1,1,0,0,1,1,1,1,0,0,1,1,0,0,1,0],[4,5,6,7,8,9,22,23,24]),([1,0,1,0,0,1,1,0,0,1,1,1,1,0,0,1,1,0,0,1,1,0,0],[]),([1,0,1,0,0,1,1,0,0,1,1,1,1,0,0,1,1,1],[4,7,8,9,22,23,24]),([1,0,1,0,0,1,1,1],[7,8,9]),([1,1,0],[])],[2],[]⟩
abbrev P71_2 (s:Bool) (K:KF) (v7 v8 v9:Value) (h:AH):Prop:=PI (C71 s) K 2 [v7,v8,v9] h
abbrev P71_9 (s:Bool) (K:KF) (v4 v7 v8 v9 v22 v23 v24:Value) (h:AH):Prop:=PI (C71 s) K 9 [v4,v7,v8,v9,v22,v23,v24] h
abbrev P71_12 (s:Bool) (K:KF) (h:AH):Prop:=PI (C71 s) K 12 [] h
abbrev P71_13 (s:Bool) (K:KF) (v4 v7 v8 v9 v22 v23 v24:Value) (h:AH):Prop:=PI (C71 s) K 13 [v4,v7,v8,v9,v22,v23,v24] h
theorem zdO (H :
 PI (C71 s) K 1 [v0] h):PI (C71 s) K 0 [v0] h:=zB H
theorem zdN (H :
 EvO (zO E (zl [(7,v0)]) (zn B71 [1,0,0] 1) h) fun x1=>
 PI (C71 s) K 2 [v0,x1,(.int .i64 0)] h):PI (C71 s) K 1 [v0] h:=zB H
theorem zSS:zO E (zl [(7,.slice a n c)]) (zn B71 [1,0,0] 1) h=some (.int .i64 (n:Int)):=by cases a <;> kernel_rfl
theorem zOU (H :
 EvO (zC E .lss 3 v9 v8) fun x0=>
 BrK x0 (PI (C71 s) K 3 [v7,v8,v9] h) (PI (C71 s) K 15 [] h)):PI (C71 s) K 2 [v7,v8,v9] h:=zB H
theorem zdM (H :
 EvO (zE E 83 v7 v9) fun x0=>
 EvO (zH E 32 h x0) fun x1=>
 Ev s (zX 32 h (zAG E 32)) fun x2=>
 Ev s (ze E 32 x2.2 x2.1 x1) fun x3=>
 PI (C71 s) K 4 [x2.1,v7,v8,v9] x3.2):PI (C71 s) K 3 [v7,v8,v9] h:=zB H
theorem zdL (H :
 EvO (zD E 32 0 v4) fun x0=>
 EvO (zH E 3 h x0) fun x1=>
 Ev s (zQ (zW E) (some (.func (.func 105) #[] #[])) [x1] h) fun x2=>
 EvO (zAQ .not x2.1) fun x3=>
 BrK x3 (PI (C71 s) K 5 [] x2.2) (PI (C71 s) K 6 [v4,v7,v8,v9] x2.2)):PI (C71 s) K 4 [v4,v7,v8,v9] h:=zB H
theorem zdK (H :
 K .ret [(.int .i64 361)] h):PI (C71 s) K 5 [] h:=zB H
theorem zdJ (H :
 EvO (zD E 32 1 v4) fun x0=>
 EvO (zH E 26 h x0) fun x1=>
 EvO (zO E (zl [(18,x1)]) (zn B71 [1,0,1,0,0,1,1,0,0,1,1,0,0] 2) h) fun x2=>
 EvO (zC E .gtr 3 x2 (.int .i64 200000)) fun x3=>
 BrK x3 (PI (C71 s) K 7 [] h) (PI (C71 s) K 8 [v4,v7,v8,v9] h)):PI (C71 s) K 6 [v4,v7,v8,v9] h:=zB H
theorem zSR:zO E (zl [(18,.slice a n c)]) (zn B71 [1,0,1,0,0,1,1,0,0,1,1,0,0] 2) h=some (.int .i64 (n:Int)):=by cases a <;> kernel_rfl
theorem zdI (H :
 K .ret [(.int .i64 360)] h):PI (C71 s) K 7 [] h:=zB H
theorem zdH (H :
 EvO (zD E 32 1 v4) fun x0=>
 EvO (zH E 26 h x0) fun x1=>
 EvO (zO E (zl [(22,x1)]) (zn B71 [1,0,1,0,0,1,1,0,0,1,1,1,0] 2) h) fun x2=>
 PI (C71 s) K 9 [v4,v7,v8,v9,x1,x2,(.int .i64 0)] h):PI (C71 s) K 8 [v4,v7,v8,v9] h:=zB H
theorem zSQ:zO E (zl [(22,.slice a n c)]) (zn B71 [1,0,1,0,0,1,1,0,0,1,1,1,0] 2) h=some (.int .i64 (n:Int)):=by cases a <;> kernel_rfl
theorem zOT (H :
 EvO (zC E .lss 3 v24 v23) fun x0=>
 BrK x0 (PI (C71 s) K 10 [v4,v7,v8,v9,v22,v23,v24] h) (PI (C71 s) K 14 [v7,v8,v9] h)):PI (C71 s) K 9 [v4,v7,v8,v9,v22,v23,v24] h:=zB H
theorem zUt (H :
 EvO (zE E 26 v22 v24) fun x1=>
 EvO (zH E 54 h x1) fun x2=>
 Ev s (zX 54 h (zAG E 54)) fun x3=>
 Ev s (ze E 54 x3.2 x3.1 x2) fun x5=>
 PI (C71 s) K 11 [v4,v24,x3.1,v7,v8,v9,v22,v23,v24] x5.2):PI (C71 s) K 10 [v4,v7,v8,v9,v22,v23,v24] h:=zB H
theorem zUs (H :
 EvO (zE E 54 v6 (some (.int .i64 0))) fun x0=>
 EvO (zH E 3 h x0) fun x1=>
 EvO (zC E .lss 3 x1 (.int .i64 0)) fun x2=>
 EvO (gdB x2 false (zE E 54 v6 (some (.int .i64 1)))) fun x4=>
 EvO (gdB x2 false (zH E 3 h x4)) fun x5=>
 EvO (gdB x2 false (zC E .lss 3 x5 (.int .i64 0))) fun x6=>
 EvO (z7 x2 (some (.bool true)) x6) fun x7=>
 EvO (gdB x7 false v5) fun x9=>
 EvO (gdB x7 false (zC E .gtr 3 x9 (.int .i64 0))) fun x10=>
 EvO (gdB x7 false x10) fun x11=>
 EvO (gdB x11 true (zD E 32 1 v4)) fun x12=>
 EvO (gdB x11 true (zH E 26 h x12)) fun x13=>
 EvO (gdB x11 true v5) fun x14=>
 EvO (gdB x11 true (zC E .sub 3 x14 (.int .i64 1))) fun x15=>
 EvO (gdB x11 true (zE E 26 x13 x15)) fun x16=>
 EvO (gdB x11 true (zH E 54 h x16)) fun x17=>
 EvO (gdB x11 true (zH E 54 h v6)) fun x18=>
 Ev s (gdW x11 true (zQ (zW E) (some (.func (.func 122) #[] #[])) [x17,x18] h) h) fun x19=>
 EvO (gdB x11 true (zC E .geq 3 x19.1 (.int .i64 0))) fun x20=>
 EvO (gdB x7 false (z7 x11 x20 (some (.bool false)))) fun x21=>
 EvO (z7 x7 (some (.bool true)) x21) fun x22=>
 BrK x22 (PI (C71 s) K 12 [] x19.2) (PI (C71 s) K 13 [v4,v7,v8,v9,v22,v23,v24] x19.2)):PI (C71 s) K 11 [v4,v5,v6,v7,v8,v9,v22,v23,v24] h:=zB H
theorem zUr (H :
 K .ret [(.int .i64 360)] h):PI (C71 s) K 12 [] h:=zB H
theorem zUq (H :
 EvO (zC E .add 3 v24 (.int .i64 1)) fun x0=>
 PI (C71 s) K 9 [v4,v7,v8,v9,v22,v23,x0] h):PI (C71 s) K 13 [v4,v7,v8,v9,v22,v23,v24] h:=zB H
theorem zUp (H :
 EvO (zC E .add 3 v9 (.int .i64 1)) fun x0=>
 PI (C71 s) K 2 [v7,v8,x0] h):PI (C71 s) K 14 [v7,v8,v9] h:=zB H
theorem zUo (H :
 K .ret [(.int .i64 0)] h):PI (C71 s) K 15 [] h:=zB H
theorem zex (hok:h.ok) (hv:zg v=true) (H:PI (C71 s) (KR E [.tmp 2] fun x k=>x=v/\h.next<=k.wm) 0 [v0] h.fresh):(zW E).call 71 [v0] h=some [(v,h)]:=zAh Tryz.f71 hok hv (zz (C71 s) H)
noncomputable def B72:Code:=zc Tryz.f72
noncomputable def C72 (s:Bool):Cx:=⟨E,s,none,B72,[([0],[0,1,2]),([1,0],[3,4,5]),([1,1,0],[3,4,5,7]),([1,1,1,0,0],[3,4,5,8]),([1,1,1,0,1,0,0,0],[3,4,5,8,25,26,27]),([1,1,1,0,1,0,0,1,1,0,0,0],[3,4,5,8,25,26,27]),([1,1,1,0,1,0,0,1,1,0,0,1,0,0],[3,4,5,8,10,25,26,27]),([1,1,1,0,1,0,0,1,1,0,0,1,0,1,0,0],[]),([1,1,1,0,1,0,0,1,1,0,0,1,1],[3,4,5,8,10,25,26,27]),([1,1,1,0,1,0,0,1,1,1],[3,4,5,8,25,26,27]),([1,1,1,1,0],[5,8]),([1,1,1,1,1,0],[8,11])],[6],[]⟩
abbrev P72_3 (s:Bool) (K:KF) (v3 v4 v5 v8:Value) (h:AH):Prop:=PI (C72 s) K 3 [v3,v4,v5,v8] h
abbrev P72_4 (s:Bool) (K:KF) (v3 v4 v5 v8 v25 v26 v27:Value) (h:AH):Prop:=PI (C72 s) K 4 [v3,v4,v5,v8,v25,v26,v27] h
abbrev P72_7 (s:Bool) (K:KF) (h:AH):Prop:=PI (C72 s) K 7 [] h
abbrev P72_10 (s:Bool) (K:KF) (v5 v8:Value) (h:AH):Prop:=PI (C72 s) K 10 [v5,v8] h
abbrev P72_11 (s:Bool) (K:KF) (v8 v11:Value) (h:AH):Prop:=PI (C72 s) K 11 [v8,v11] h
theorem zdG (H :
 Ev s (zX 25 h v0) fun x0=>
 Ev s (zX 25 x0.2 v1) fun x1=>
 Ev s (zX 32 x1.2 v2) fun x2=>
 PI (C72 s) K 1 [x0.1,x1.1,x2.1] x2.2):PI (C72 s) K 0 [v0,v1,v2] h:=zB H
theorem zdF (H :
 EvO (zH E 25 h v3) fun x0=>
 EvO (zH E 25 h v4) fun x1=>
 Ev s (zf E 82 2 (some [(0,x0),(1,x1)]) h) fun x2=>
 Ev s (zQ (zW E) (some (.func (.func 90) #[] #[])) [x2.1] x2.2) fun x3=>
 PI (C72 s) K 2 [v3,v4,v5,x3.1] x3.2):PI (C72 s) K 1 [v3,v4,v5] h:=zB H
theorem zdE (H :
 EvO (zE E 126 v7 (some (.int .i64 0))) fun x1=>
 EvO (zH E 128 h x1) fun x2=>
 EvO (zE E 126 v7 (some (.int .i64 1))) fun x4=>
 EvO (zH E 128 h x4) fun x5=>
 s=false/\(Ev s (one ((.map (some (h).next):Value),(h).new (.map [] 0))) fun x6=>
 EvO (zH E 128 x6.2 x4) fun u6_5=>veq 100 u6_5 x5=true ∧
 (EvO (zH E 128 x6.2 x1) fun u6_2=>veq 100 u6_2 x2=true ∧
 (EvO (zAi E 176 (some [(0,x2),(1,x5),(2,x6.1)])) fun x7=>
 Ev s (zX 176 x6.2 (zAG E 176)) fun x8=>
 EvO (zH E 128 x8.2 x4) fun u8_5=>veq 100 u8_5 x5=true ∧
 (EvO (zH E 128 x8.2 x1) fun u8_2=>veq 100 u8_2 x2=true ∧
 (Ev s (ze E 176 x8.2 x8.1 x7) fun x9=>
 PI (C72 s) K 3 [v3,v4,v5,x8.1] x9.2)))))/\(Ev s (zX 176 h (zAG E 176)) fun x8=>
 EvO (zH E 128 x8.2 x4) fun u8_5=>veq 100 u8_5 x5=true ∧
 (EvO (zH E 128 x8.2 x1) fun u8_2=>veq 100 u8_2 x2=true ∧
 (Ev s (one ((.map (some (x8.2).next):Value),(x8.2).new (.map [] 0))) fun x6=>
 EvO (zH E 128 x6.2 x4) fun u6_5=>veq 100 u6_5 x5=true ∧
 (EvO (zH E 128 x6.2 x1) fun u6_2=>veq 100 u6_2 x2=true ∧
 (EvO (zAi E 176 (some [(0,x2),(1,x5),(2,x6.1)])) fun x7=>
 Ev s (ze E 176 x6.2 x8.1 x7) fun x9=>
 PI (C72 s) K 3 [v3,v4,v5,x8.1] x9.2)))))):PI (C72 s) K 2 [v3,v4,v5,v7] h:=zB H
theorem zdD (H :
 EvO (zD E 32 1 v5) fun x0=>
 EvO (zH E 26 h x0) fun x1=>
 EvO (zO E (zl [(25,x1)]) (zn B72 [1,1,1,0,0] 2) h) fun x2=>
 PI (C72 s) K 4 [v3,v4,v5,v8,x1,x2,(.int .i64 0)] h):PI (C72 s) K 3 [v3,v4,v5,v8] h:=zB H
theorem zSP:zO E (zl [(25,.slice a n c)]) (zn B72 [1,1,1,0,0] 2) h=some (.int .i64 (n:Int)):=by cases a <;> kernel_rfl
theorem zOS (H :
 EvO (zC E .lss 3 v27 v26) fun x0=>
 BrK x0 (PI (C72 s) K 5 [v3,v4,v5,v8,v25,v26,v27] h) (PI (C72 s) K 10 [v5,v8] h)):PI (C72 s) K 4 [v3,v4,v5,v8,v25,v26,v27] h:=zB H
theorem zdC (H :
 EvO (zE E 26 v25 v27) fun x0=>
 EvO (zH E 54 h x0) fun x1=>
 Ev s (zX 54 h (zAG E 54)) fun x2=>
 Ev s (ze E 54 x2.2 x2.1 x1) fun x3=>
 PI (C72 s) K 6 [v3,v4,v5,v8,x2.1,v25,v26,v27] x3.2):PI (C72 s) K 5 [v3,v4,v5,v8,v25,v26,v27] h:=zB H
theorem zdB (H :
 EvO (zE E 54 v10 (some (.int .i64 0))) fun x0=>
 EvO (zH E 3 h x0) fun x1=>
 EvO (zD E 25 0 v3) fun x2=>
 EvO (zH E 3 h x2) fun x3=>
 EvO (zC E .geq 3 x1 x3) fun x4=>
 EvO (gdB x4 false (zE E 54 v10 (some (.int .i64 1)))) fun x6=>
 EvO (gdB x4 false (zH E 3 h x6)) fun x7=>
 EvO (gdB x4 false (zD E 25 0 v4)) fun x8=>
 EvO (gdB x4 false (zH E 3 h x8)) fun x9=>
 EvO (gdB x4 false (zC E .geq 3 x7 x9)) fun x10=>
 EvO (z7 x4 (some (.bool true)) x10) fun x11=>
 BrK x11 (PI (C72 s) K 7 [] h) (PI (C72 s) K 8 [v3,v4,v5,v8,v10,v25,v26,v27] h)):PI (C72 s) K 6 [v3,v4,v5,v8,v10,v25,v26,v27] h:=zB H
theorem zdA (H :
 K .ret [(.bool false)] h):PI (C72 s) K 7 [] h:=zB H
theorem zc9 (H :
 EvO (zD E 176 2 v8) fun x0=>
 EvO (zH E 174 h x0) fun x1=>
 EvO (zH E 54 h v10) fun x2=>
 Ev s (zAU E 174 x1 x2 (some (.bool true)) h) fun x3=>
 PI (C72 s) K 9 [v3,v4,v5,v8,v25,v26,v27] x3.2):PI (C72 s) K 8 [v3,v4,v5,v8,v10,v25,v26,v27] h:=zB H
theorem zc8 (H :
 EvO (zC E .add 3 v27 (.int .i64 1)) fun x0=>
 PI (C72 s) K 4 [v3,v4,v5,v8,v25,v26,x0] h):PI (C72 s) K 9 [v3,v4,v5,v8,v25,v26,v27] h:=zB H
theorem zUn (H :
 EvO (zD E 32 0 v5) fun x1=>
 EvO (zH E 3 h x1) fun x2=>
 s=false/\(Ev s (zQ (zW E) (some (.func (.func 79) #[] #[])) (some []) h) fun x0=>
 EvO (zH E 3 x0.2 x1) fun u0_2=>veq 100 u0_2 x2=true ∧
 (EvO (zCv E 113 x0.1 x2) fun x3=>
 Ev s (zX 112 x0.2 (zAG E 112)) fun x4=>
 EvO (zH E 3 x4.2 x1) fun u4_2=>veq 100 u4_2 x2=true ∧
 (Ev s (ze E 112 x4.2 x4.1 x3) fun x5=>
 PI (C72 s) K 11 [v8,x4.1] x5.2)))/\(Ev s (zX 112 h (zAG E 112)) fun x4=>
 EvO (zH E 3 x4.2 x1) fun u4_2=>veq 100 u4_2 x2=true ∧
 (Ev s (zQ (zW E) (some (.func (.func 79) #[] #[])) (some []) x4.2) fun x0=>
 EvO (zH E 3 x0.2 x1) fun u0_2=>veq 100 u0_2 x2=true ∧
 (EvO (zCv E 113 x0.1 x2) fun x3=>
 Ev s (ze E 112 x0.2 x4.1 x3) fun x5=>
 PI (C72 s) K 11 [v8,x4.1] x5.2)))):PI (C72 s) K 10 [v5,v8] h:=zB H
theorem zUm (H :
 EvO (zH E 176 h v8) fun x0=>
 Ev s (zQ (zW E) (some (.func (.func 123) #[] #[])) (some [x0,(.int .i64 0),(.int .i64 0)]) h) fun x1=>
 EvO (gdB x1.1 true (zH E 176 x1.2 v8)) fun x3=>
 EvO (gdB x1.1 true (zAi E 178 (some [(0,x3)]))) fun x4=>
 EvO (gdB x1.1 true (zH E 112 x1.2 v11)) fun x5=>
 Ev s (gdW x1.1 true (zQ (zW E) (some (.func (.func 124) #[] #[])) [x4,x5] x1.2) x1.2) fun x6=>
 EvO (z7 x1.1 x6.1 (some (.bool false))) fun x7=>
 EvO (gdB x7 true (zH E 176 x6.2 v8)) fun x9=>
 EvO (gdB x7 true (zH E 112 x6.2 v11)) fun x12=>
 Ev s (gdW x7 true (zQ (zW E) (some (.func (.func 125) #[] #[])) [x9] x6.2) x6.2) fun x10=>
 EvO (gdB x7 true (zH E 112 x10.2 v11)) fun u10_12=>veq 100 u10_12 x12=true ∧
 (EvO (gdB x7 true (zAi E 178 (some [(0,x10.1)]))) fun x11=>
 Ev s (gdW x7 true (zQ (zW E) (some (.func (.func 124) #[] #[])) [x11,x12] x10.2) x10.2) fun x13=>
 EvO (z7 x7 x13.1 (some (.bool false))) fun x14=>
 K .ret [x14] x13.2)):PI (C72 s) K 11 [v8,v11] h:=zB H
theorem zew (hok:h.ok) (hv:zg v=true) (H:PI (C72 s) (KR E [.tmp 6] fun x k=>x=v/\h.next<=k.wm) 0 [v0,v1,v2] h.fresh):(zW E).call 72 [v0,v1,v2] h=some [(v,h)]:=zAh Tryz.f72 hok hv (zz (C72 s) H)
noncomputable def B79:Code:=zc Tryz.f79
noncomputable def C79 (s:Bool):Cx:=⟨E,s,none,B79,[([0],[]),([1,0],[0])],[0],[]⟩
theorem zc3 (H :
 Ev s (zX 113 h (zAG E 113)) fun x0=>
 PI (C79 s) K 1 [x0.1] x0.2):PI (C79 s) K 0 [] h:=zB H
theorem zc2 (H :
 EvO (zAi E 112 (some [(0,(.func (.func 128) #[] #[])),(1,(.func (.func 129) #[] #[])),(2,(.string ⟨#[115,116,114,111,110,103]⟩))])) fun x0=>
 EvO (zAi E 112 (some [(0,(.func (.func 130) #[] #[])),(1,(.func (.func 131) #[] #[])),(2,(.string ⟨#[98,114,97,110,99,104,105,110,103]⟩))])) fun x1=>
 EvO (zAi E 113 (some [(1,x0),(2,x1)])) fun x2=>
 Ev s (ze E 113 h v0 x2) fun x3=>
 K .ret [v0] x3.2):PI (C79 s) K 1 [v0] h:=zB H
theorem zaK (hok:h.ok) (hv:zh v=true) (H:PI (C79 true) (KR E [.cell 0 113] fun x k=>x=v/\h.next<=k.wm) 0 [] h.fresh):(zW E).call 79 [] h=some [(v,h)]:=zGD Tryz.f79 hok hv (zz (C79 true) H)
noncomputable def B90:Code:=zc Tryz.f90
noncomputable def C90 (s:Bool):Cx:=⟨E,s,none,B90,[([0],[0]),([1,0],[0]),([1,1,0,0],[0,3]),([1,1,0,1,0,0,0],[0,3,17,18,19]),([1,1,0,1,0,0,1,1,0,0,0],[0,3,17,18,19]),([1,1,0,1,0,0,1,1,0,0,1,0],[0,3,5,17,18,19]),([1,1,0,1,0,0,1,1,0,0,1,1,0,0,0],[0,3,17,18,19,24,25,26]),([1,1,0,1,0,0,1,1,0,0,1,1,0,0,1,1,0,0,0],[0,3,17,18,19,24,25,26]),([1,1,0,1,0,0,1,1,0,0,1,1,0,0,1,1,0,0,1],[0,3,7,17,18,19,24,25,26]),([1,1,0,1,0,0,1,1,0,0,1,1,0,0,1,1,1],[0,3,17,18,19,24,25,26]),([1,1,0,1,0,0,1,1,1],[0,3,17,18,19]),([1,1,1,0],[0,3]),([1,1,1,1,0,0],[0,3,8]),([1,1,1,1,0,1,0,0,0],[3,8,34,35,36]),([1,1,1,1,0,1,0,0,1,1,0,0,0],[3,8,34,35,36]),([1,1,1,1,0,1,0,0,1,1,0,0,1,0],[3,8,10,34,35,36]),([1,1,1,1,0,1,0,0,1,1,0,0,1,1,0],[3,8,10,11,34,35,36]),([1,1,1,1,0,1,0,0,1,1,0,0,1,1,1,0,0],[3,8,10,11,12,34,35,36]),([1,1,1,1,0,1,0,0,1,1,0,0,1,1,1,0,1,0,0,0],[3,8,10,11,12,34,35,36,50,51,52]),([1,1,1,1,0,1,0,0,1,1,0,0,1,1,1,0,1,0,0,1,1,0,0,0],[3,8,10,11,12,34,35,36,50,51,52]),([1,1,1,1,0,1,0,0,1,1,0,0,1,1,1,0,1,0,0,1,1,0,0,1],[3,8,10,11,12,13,14,34,35,36,50,51,52]),([1,1,1,1,0,1,0,0,1,1,0,0,1,1,1,0,1,0,0,1,1,1],[3,8,10,11,12,34,35,36,50,51,52]),([1,1,1,1,0,1,0,0,1,1,0,0,1,1,1,1,0,0],[3,8,10,11,12,34,35,36]),([1,1,1,1,0,1,0,0,1,1,0,0,1,1,1,1,0,1,0,0,0],[3,8,11,12,34,35,36,64,65,66]),([1,1,1,1,0,1,0,0,1,1,0,0,1,1,1,1,0,1,0,0,1,1,0,0,0],[3,8,11,12,34,35,36,64,65,66]),([1,1,1,1,0,1,0,0,1,1,0,0,1,1,1,1,0,1,0,0,1,1,0,0,1],[3,8,11,12,16,34,35,36,64,65,66]),([1,1,1,1,0,1,0,0,1,1,0,0,1,1,1,1,0,1,0,0,1,1,1],[3,8,11,12,34,35,36,64,65,66]),([1,1,1,1,0,1,0,0,1,1,0,0,1,1,1,1,1],[3,8,11,34,35,36]),([1,1,1,1,0,1,0,0,1,1,1],[3,8,34,35,36]),([1,1,1,1,1,0],[8])],[2],[]⟩
abbrev P90_3 (s:Bool) (K:KF) (v0 v3 v17 v18 v19:Value) (h:AH):Prop:=PI (C90 s) K 3 [v0,v3,v17,v18,v19] h
abbrev P90_6 (s:Bool) (K:KF) (v0 v3 v17 v18 v19 v24 v25 v26:Value) (h:AH):Prop:=PI (C90 s) K 6 [v0,v3,v17,v18,v19,v24,v25,v26] h
abbrev P90_11 (s:Bool) (K:KF) (v0 v3:Value) (h:AH):Prop:=PI (C90 s) K 11 [v0,v3] h
abbrev P90_13 (s:Bool) (K:KF) (v3 v8 v34 v35 v36:Value) (h:AH):Prop:=PI (C90 s) K 13 [v3,v8,v34,v35,v36] h
abbrev P90_18 (s:Bool) (K:KF) (v3 v8 v10 v11 v12 v34 v35 v36 v50 v51 v52:Value) (h:AH):Prop:=PI (C90 s) K 18 [v3,v8,v10,v11,v12,v34,v35,v36,v50,v51,v52] h
abbrev P90_22 (s:Bool) (K:KF) (v3 v8 v10 v11 v12 v34 v35 v36:Value) (h:AH):Prop:=PI (C90 s) K 22 [v3,v8,v10,v11,v12,v34,v35,v36] h
abbrev P90_23 (s:Bool) (K:KF) (v3 v8 v11 v12 v34 v35 v36 v64 v65 v66:Value) (h:AH):Prop:=PI (C90 s) K 23 [v3,v8,v11,v12,v34,v35,v36,v64,v65,v66] h
abbrev P90_27 (s:Bool) (K:KF) (v3 v8 v11 v34 v35 v36:Value) (h:AH):Prop:=PI (C90 s) K 27 [v3,v8,v11,v34,v35,v36] h
theorem zcW (H :
 PI (C90 s) K 1 [v0] h):PI (C90 s) K 0 [v0] h:=zB H
theorem zcV (H :
 Ev s (zX 197 h (zAG E 197)) fun x0=>
 PI (C90 s) K 2 [v0,x0.1] x0.2):PI (C90 s) K 1 [v0] h:=zB H
theorem zcU (H :
 EvO (zO E (zl [(17,v0)]) (zn B90 [1,1,0,0] 1) h) fun x1=>
 PI (C90 s) K 3 [v0,v3,v0,x1,(.int .i64 0)] h):PI (C90 s) K 2 [v0,v3] h:=zB H
theorem zSL:zO E (zl [(17,.slice a n c)]) (zn B90 [1,1,0,0] 1) h=some (.int .i64 (n:Int)):=by cases a <;> kernel_rfl
theorem zOO (H :
 EvO (zC E .lss 3 v19 v18) fun x0=>
 BrK x0 (PI (C90 s) K 4 [v0,v3,v17,v18,v19] h) (PI (C90 s) K 11 [v0,v3] h)):PI (C90 s) K 3 [v0,v3,v17,v18,v19] h:=zB H
theorem zcT (H :
 EvO (zE E 82 v17 v19) fun x0=>
 EvO (zH E 25 h x0) fun x1=>
 Ev s (zX 25 h (zAG E 25)) fun x2=>
 Ev s (ze E 25 x2.2 x2.1 x1) fun x3=>
 PI (C90 s) K 5 [v0,v3,x2.1,v17,v18,v19] x3.2):PI (C90 s) K 4 [v0,v3,v17,v18,v19] h:=zB H
theorem zcS (H :
 EvO (zD E 25 1 v5) fun x0=>
 EvO (zH E 22 h x0) fun x1=>
 EvO (zO E (zl [(24,x1)]) (zn B90 [1,1,0,1,0,0,1,1,0,0,1,0] 2) h) fun x2=>
 PI (C90 s) K 6 [v0,v3,v17,v18,v19,x1,x2,(.int .i64 0)] h):PI (C90 s) K 5 [v0,v3,v5,v17,v18,v19] h:=zB H
theorem zSK:zO E (zl [(24,.slice a n c)]) (zn B90 [1,1,0,1,0,0,1,1,0,0,1,0] 2) h=some (.int .i64 (n:Int)):=by cases a <;> kernel_rfl
theorem zON (H :
 EvO (zC E .lss 3 v26 v25) fun x0=>
 BrK x0 (PI (C90 s) K 7 [v0,v3,v17,v18,v19,v24,v25,v26] h) (PI (C90 s) K 10 [v0,v3,v17,v18,v19] h)):PI (C90 s) K 6 [v0,v3,v17,v18,v19,v24,v25,v26] h:=zB H
theorem zcR (H :
 EvO (zE E 22 v24 v26) fun x0=>
 EvO (zH E 36 h x0) fun x1=>
 Ev s (zX 36 h (zAG E 36)) fun x2=>
 Ev s (ze E 36 x2.2 x2.1 x1) fun x3=>
 PI (C90 s) K 8 [v0,v3,x2.1,v17,v18,v19,v24,v25,v26] x3.2):PI (C90 s) K 7 [v0,v3,v17,v18,v19,v24,v25,v26] h:=zB H
theorem zcQ (H :
 EvO (zH E 36 h v7) fun x0=>
 Ev s (zQ (zW E) (some (.func (.func 143) #[] #[])) [v3,x0] h) fun x1=>
 PI (C90 s) K 9 [v0,v3,v17,v18,v19,v24,v25,v26] x1.2):PI (C90 s) K 8 [v0,v3,v7,v17,v18,v19,v24,v25,v26] h:=zB H
theorem zcP (H :
 EvO (zC E .add 3 v26 (.int .i64 1)) fun x0=>
 PI (C90 s) K 6 [v0,v3,v17,v18,v19,v24,v25,x0] h):PI (C90 s) K 9 [v0,v3,v17,v18,v19,v24,v25,v26] h:=zB H
theorem zUc (H :
 EvO (zC E .add 3 v19 (.int .i64 1)) fun x0=>
 PI (C90 s) K 3 [v0,v3,v17,v18,x0] h):PI (C90 s) K 10 [v0,v3,v17,v18,v19] h:=zB H
theorem zUb (H :
 PI (C90 s) K 12 [v0,v3,(.slice none 0 0)] h):PI (C90 s) K 11 [v0,v3] h:=zB H
theorem zUa (H :
 EvO (zO E (zl [(34,v0)]) (zn B90 [1,1,1,1,0,0] 1) h) fun x1=>
 PI (C90 s) K 13 [v3,v8,v0,x1,(.int .i64 0)] h):PI (C90 s) K 12 [v0,v3,v8] h:=zB H
theorem zPK:zO E (zl [(34,.slice a n c)]) (zn B90 [1,1,1,1,0,0] 1) h=some (.int .i64 (n:Int)):=by cases a <;> kernel_rfl
theorem zK0 (H :
 EvO (zC E .lss 3 v36 v35) fun x0=>
 BrK x0 (PI (C90 s) K 14 [v3,v8,v34,v35,v36] h) (PI (C90 s) K 29 [v8] h)):PI (C90 s) K 13 [v3,v8,v34,v35,v36] h:=zB H
theorem zUZ (H :
 EvO (zE E 82 v34 v36) fun x0=>
 EvO (zH E 25 h x0) fun x1=>
 Ev s (zX 25 h (zAG E 25)) fun x2=>
 Ev s (ze E 25 x2.2 x2.1 x1) fun x3=>
 PI (C90 s) K 15 [v3,v8,x2.1,v34,v35,v36] x3.2):PI (C90 s) K 14 [v3,v8,v34,v35,v36] h:=zB H
theorem zUY (H :
 EvO (zD E 25 0 v10) fun x0=>
 EvO (zH E 3 h x0) fun x1=>
 Ev s (zAo E 129 x1 x1 h) fun x2=>
 EvO (zAi E 131 (some [(0,x2.1)])) fun x3=>
 Ev s (zX 131 x2.2 x3) fun x4=>
 PI (C90 s) K 16 [v3,v8,v10,x4.1,v34,v35,v36] x4.2):PI (C90 s) K 15 [v3,v8,v10,v34,v35,v36] h:=zB H
theorem zUX (H :
 EvO (zD E 25 1 v10) fun x0=>
 EvO (zH E 22 h x0) fun x1=>
 EvO (zO E (zl [(46,x1)]) (zn B90 [1,1,1,1,0,1,0,0,1,1,0,0,1,1,0] 2) h) fun x2=>
 Ev s (zAo E 47 x2 x2 h) fun x3=>
 PI (C90 s) K 17 [v3,v8,v10,v11,x3.1,v34,v35,v36] x3.2):PI (C90 s) K 16 [v3,v8,v10,v11,v34,v35,v36] h:=zB H
theorem zPJ:zO E (zl [(46,.slice a n c)]) (zn B90 [1,1,1,1,0,1,0,0,1,1,0,0,1,1,0] 2) h=some (.int .i64 (n:Int)):=by cases a <;> kernel_rfl
theorem zUW (H :
 EvO (zD E 25 1 v10) fun x0=>
 EvO (zH E 22 h x0) fun x1=>
 EvO (zO E (zl [(50,x1)]) (zn B90 [1,1,1,1,0,1,0,0,1,1,0,0,1,1,1,0,0] 2) h) fun x2=>
 PI (C90 s) K 18 [v3,v8,v10,v11,v12,v34,v35,v36,x1,x2,(.int .i64 0)] h):PI (C90 s) K 17 [v3,v8,v10,v11,v12,v34,v35,v36] h:=zB H
theorem zPI:zO E (zl [(50,.slice a n c)]) (zn B90 [1,1,1,1,0,1,0,0,1,1,0,0,1,1,1,0,0] 2) h=some (.int .i64 (n:Int)):=by cases a <;> kernel_rfl
theorem zKz (H :
 EvO (zC E .lss 3 v52 v51) fun x0=>
 BrK x0 (PI (C90 s) K 19 [v3,v8,v10,v11,v12,v34,v35,v36,v50,v51,v52] h) (PI (C90 s) K 22 [v3,v8,v10,v11,v12,v34,v35,v36] h)):PI (C90 s) K 18 [v3,v8,v10,v11,v12,v34,v35,v36,v50,v51,v52] h:=zB H
theorem zUV (H :
 EvO (zE E 22 v50 v52) fun x1=>
 EvO (zH E 36 h x1) fun x2=>
 Ev s (zX 36 h (zAG E 36)) fun x3=>
 Ev s (ze E 36 x3.2 x3.1 x2) fun x5=>
 PI (C90 s) K 20 [v3,v8,v10,v11,v12,v52,x3.1,v34,v35,v36,v50,v51,v52] x5.2):PI (C90 s) K 19 [v3,v8,v10,v11,v12,v34,v35,v36,v50,v51,v52] h:=zB H
theorem zUU (H :
 EvO (zH E 36 h v14) fun x2=>
 Ev s (zQ (zW E) (some (.func (.func 143) #[] #[])) [v3,x2] h) fun x3=>
 EvO (zE E 47 v12 v13) fun x4=>
 Ev s (ze E 3 x3.2 x4 x3.1) fun x5=>
 PI (C90 s) K 21 [v3,v8,v10,v11,v12,v34,v35,v36,v50,v51,v52] x5.2):PI (C90 s) K 20 [v3,v8,v10,v11,v12,v13,v14,v34,v35,v36,v50,v51,v52] h:=zB H
theorem zUT (H :
 EvO (zC E .add 3 v52 (.int .i64 1)) fun x0=>
 PI (C90 s) K 18 [v3,v8,v10,v11,v12,v34,v35,v36,v50,v51,x0] h):PI (C90 s) K 21 [v3,v8,v10,v11,v12,v34,v35,v36,v50,v51,v52] h:=zB H
theorem zUS (H :
 EvO (zD E 25 2 v10) fun x0=>
 EvO (zH E 23 h x0) fun x1=>
 EvO (zO E (zl [(64,x1)]) (zn B90 [1,1,1,1,0,1,0,0,1,1,0,0,1,1,1,1,0,0] 2) h) fun x2=>
 PI (C90 s) K 23 [v3,v8,v11,v12,v34,v35,v36,x1,x2,(.int .i64 0)] h):PI (C90 s) K 22 [v3,v8,v10,v11,v12,v34,v35,v36] h:=zB H
theorem zPH:zO E (zl [(64,.slice a n c)]) (zn B90 [1,1,1,1,0,1,0,0,1,1,0,0,1,1,1,1,0,0] 2) h=some (.int .i64 (n:Int)):=by cases a <;> kernel_rfl
theorem zKy (H :
 EvO (zC E .lss 3 v66 v65) fun x0=>
 BrK x0 (PI (C90 s) K 24 [v3,v8,v11,v12,v34,v35,v36,v64,v65,v66] h) (PI (C90 s) K 27 [v3,v8,v11,v34,v35,v36] h)):PI (C90 s) K 23 [v3,v8,v11,v12,v34,v35,v36,v64,v65,v66] h:=zB H
theorem zUR (H :
 EvO (zE E 23 v64 v66) fun x0=>
 EvO (zH E 52 h x0) fun x1=>
 Ev s (zX 52 h (zAG E 52)) fun x2=>
 Ev s (ze E 52 x2.2 x2.1 x1) fun x3=>
 PI (C90 s) K 25 [v3,v8,v11,v12,x2.1,v34,v35,v36,v64,v65,v66] x3.2):PI (C90 s) K 24 [v3,v8,v11,v12,v34,v35,v36,v64,v65,v66] h:=zB H
theorem zUQ (H :
 EvO (zq v11) fun x1=>
 EvO (zD E 131 0 x1) fun x2=>
 EvO (zH E 129 h x2) fun x3=>
 EvO (zD E 52 0 v16) fun x4=>
 EvO (zH E 3 h x4) fun x5=>
 EvO (zq v11) fun x7=>
 EvO (zD E 131 0 x7) fun x8=>
 EvO (zH E 129 h x8) fun x9=>
 EvO (zD E 52 0 v16) fun x10=>
 EvO (zH E 3 h x10) fun x11=>
 EvO (zE E 129 x9 x11) fun x12=>
 EvO (zH E 132 h x12) fun x13=>
 EvO (zD E 52 1 v16) fun x15=>
 EvO (zH E 3 h x15) fun x16=>
 EvO (zE E 47 v12 x16) fun x17=>
 EvO (zH E 3 h x17) fun x18=>
 EvO (zD E 52 2 v16) fun x19=>
 EvO (zH E 3 h x19) fun x20=>
 EvO (zAi E 134 (some [(0,x18),(1,x20)])) fun x21=>
 Ev s (zf E 132 1 (some [(0,x21)]) h) fun x22=>
 EvO (zH E 132 x22.2 x12) fun u22_13=>veq 100 u22_13 x13=true ∧
 (EvO (zH E 3 x22.2 x10) fun u22_11=>veq 100 u22_11 x11=true ∧
 (EvO (zH E 129 x22.2 x8) fun u22_9=>veq 100 u22_9 x9=true ∧
 (EvO (zH E 3 x22.2 x4) fun u22_5=>veq 100 u22_5 x5=true ∧
 (EvO (zH E 129 x22.2 x2) fun u22_3=>veq 100 u22_3 x3=true ∧
 (Ev s (zAD E .append [132,132] [x13,x22.1] x22.2) fun x23=>
 EvO (zH E 3 x23.2 x4) fun u23_5=>veq 100 u23_5 x5=true ∧
 (EvO (zH E 129 x23.2 x2) fun u23_3=>veq 100 u23_3 x3=true ∧
 (EvO (zE E 129 x3 x5) fun x24=>
 Ev s (ze E 132 x23.2 x24 x23.1) fun x25=>
 PI (C90 s) K 26 [v3,v8,v11,v12,v34,v35,v36,v64,v65,v66] x25.2)))))))):PI (C90 s) K 25 [v3,v8,v11,v12,v16,v34,v35,v36,v64,v65,v66] h:=zB H
theorem zUP (H :
 EvO (zC E .add 3 v66 (.int .i64 1)) fun x0=>
 PI (C90 s) K 23 [v3,v8,v11,v12,v34,v35,v36,v64,v65,x0] h):PI (C90 s) K 26 [v3,v8,v11,v12,v34,v35,v36,v64,v65,v66] h:=zB H
theorem zUO (H :
 Ev s (zf E 126 1 (some [(0,v11)]) h) fun x2=>
 Ev s (zAD E .append [126,126] [v8,x2.1] x2.2) fun x3=>
 PI (C90 s) K 28 [v3,x3.1,v34,v35,v36] x3.2):PI (C90 s) K 27 [v3,v8,v11,v34,v35,v36] h:=zB H
theorem zUN (H :
 EvO (zC E .add 3 v36 (.int .i64 1)) fun x0=>
 PI (C90 s) K 13 [v3,v8,v34,v35,x0] h):PI (C90 s) K 28 [v3,v8,v34,v35,v36] h:=zB H
theorem zUM (H :
 K .ret [v8] h):PI (C90 s) K 29 [v8] h:=zB H
theorem zeq (H:PI (C90 true) (KR E [.tmp 2] fun x k=>(zh x=false\/k.wm<h.next)/\Rp x ⟨k.t,k.next,cond (Nat.ble h.wm k.wm) h.wm k.wm⟩) 0 [v0] h.fresh):Ev true ((zW E).call 90 [v0] h) fun x=>Rp x.1 x.2:=zFb Tryz.f90 (zz (C90 true) H)
noncomputable def B94:Code:=zc Tryz.f94
noncomputable def C94 (s:Bool):Cx:=⟨E,s,none,B94,[([0],[0,1]),([1,0],[0,1]),([1,1,0],[0,1,5]),([1,1,1,0,0],[0,1,5,6]),([1,1,1,0,1,0,0,0],[6]),([1,1,1,0,1,0,0,1,0,0],[]),([1,1,1,0,1,0,1,0],[]),([1,1,1,1,0,0],[0,1,6]),([1,1,1,1,0,1,0,0],[]),([1,1,1,1,1,0,0],[0,1]),([1,1,1,1,1,0,1,0,0],[]),([1,1,1,1,1,1,0,0],[0,1]),([1,1,1,1,1,1,0,1,0,0],[]),([1,1,1,1,1,1,1,0],[])],[4],[]⟩
theorem zcH (H :
 PI (C94 s) K 1 [v0,v1] h):PI (C94 s) K 0 [v0,v1] h:=zB H
theorem zcG (H :
 Ev s (zQ (zW E) (some (.func (.func 154) #[] #[])) [v0] h) fun x1=>
 PI (C94 s) K 2 [v0,v1,x1.1] x1.2):PI (C94 s) K 1 [v0,v1] h:=zB H
theorem zcF (H :
 Ev s (zQ (zW E) (some (.func (.func 154) #[] #[])) [v1] h) fun x1=>
 PI (C94 s) K 3 [v0,v1,v5,x1.1] x1.2):PI (C94 s) K 2 [v0,v1,v5] h:=zB H
theorem zcE (H :
 BrK v5 (PI (C94 s) K 4 [v6] h) (PI (C94 s) K 7 [v0,v1,v6] h)):PI (C94 s) K 3 [v0,v1,v5,v6] h:=zB H
theorem zcD (H :
 BrK v6 (PI (C94 s) K 8 [] h) (PI (C94 s) K 9 [v0,v1] h)):PI (C94 s) K 7 [v0,v1,v6] h:=zB H
theorem zcC (H :
 EvO (zC E .lss 3 v0 v1) fun x2=>
 BrK x2 (PI (C94 s) K 10 [] h) (PI (C94 s) K 11 [v0,v1] h)):PI (C94 s) K 9 [v0,v1] h:=zB H
theorem zT0 (H :
 K .ret [(.int .i64 (-1))] h):PI (C94 s) K 10 [] h:=zB H
theorem zTz (H :
 EvO (zC E .gtr 3 v0 v1) fun x2=>
 BrK x2 (PI (C94 s) K 12 [] h) (PI (C94 s) K 13 [] h)):PI (C94 s) K 11 [v0,v1] h:=zB H
theorem zTy (H :
 K .ret [(.int .i64 1)] h):PI (C94 s) K 12 [] h:=zB H
theorem zTx (H :
 K .ret [(.int .i64 0)] h):PI (C94 s) K 13 [] h:=zB H
theorem zep (hok:h.ok) (hv:zg v=true) (H:PI (C94 s) (KR E [.tmp 4] fun x k=>x=v/\h.next<=k.wm) 0 [v0,v1] h.fresh):(zW E).call 94 [v0,v1] h=some [(v,h)]:=zAh Tryz.f94 hok hv (zz (C94 s) H)
noncomputable def B105:Code:=zc Tryz.f105
noncomputable def C105 (s:Bool):Cx:=⟨E,s,none,B105,[([0],[0]),([1,0],[0])],[2],[]⟩
theorem zaF (H :
 PI (C105 s) K 1 [v0] h):PI (C105 s) K 0 [v0] h:=zB H
theorem zaE (H :
 EvO (zC E .eql 3 v0 (.int .i64 1)) fun x1=>
 EvO (gdB x1 false v0) fun x3=>
 EvO (gdB x1 false (zC E .eql 3 x3 (.int .i64 2))) fun x4=>
 EvO (z7 x1 (some (.bool true)) x4) fun x5=>
 K .ret [x5] h):PI (C105 s) K 1 [v0] h:=zB H
theorem zbB (hok:h.ok) (hv:zg v=true) (H:PI (C105 s) (KR E [.tmp 2] fun x k=>x=v/\h.next<=k.wm) 0 [v0] h.fresh):(zW E).call 105 [v0] h=some [(v,h)]:=zAh Tryz.f105 hok hv (zz (C105 s) H)
noncomputable def zbH:Code:=zc Tryz.f121
noncomputable def zCr (s:Bool):Cx:=⟨E,s,none,zbH,[([0],[0]),([1,0,0],[1]),([1,0,1,0,0],[]),([1,1,0,0],[1]),([1,1,0,1,0,0,0],[1,29,30,31]),([1,1,0,1,0,0,1,1,0,0,0],[1,29,30,31]),([1,1,0,1,0,0,1,1,0,0,1,0],[1,3,4,29,30,31]),([1,1,0,1,0,0,1,1,0,0,1,1,0,0],[]),([1,1,0,1,0,0,1,1,1],[1,29,30,31]),([1,1,1,0],[1]),([1,1,1,1,0,0],[1,5]),([1,1,1,1,0,1,0,0,0],[1,5,56,57,58]),([1,1,1,1,0,1,0,0,1,1,0,0,0],[1,5,56,57,58]),([1,1,1,1,0,1,0,0,1,1,0,0,1,0],[1,5,6,7,56,57,58]),([1,1,1,1,0,1,0,0,1,1,0,0,1,1,0,0],[]),([1,1,1,1,0,1,0,0,1,1,1],[1,5,56,57,58]),([1,1,1,1,1,0],[])],[2],[]⟩
abbrev P121_2 (s:Bool) (K:KF) (h:AH):Prop:=PI (zCr s) K 2 [] h
abbrev P121_3 (s:Bool) (K:KF) (v1:Value) (h:AH):Prop:=PI (zCr s) K 3 [v1] h
abbrev P121_4 (s:Bool) (K:KF) (v1 v29 v30 v31:Value) (h:AH):Prop:=PI (zCr s) K 4 [v1,v29,v30,v31] h
abbrev P121_7 (s:Bool) (K:KF) (h:AH):Prop:=PI (zCr s) K 7 [] h
abbrev P121_8 (s:Bool) (K:KF) (v1 v29 v30 v31:Value) (h:AH):Prop:=PI (zCr s) K 8 [v1,v29,v30,v31] h
abbrev P121_11 (s:Bool) (K:KF) (v1 v5 v56 v57 v58:Value) (h:AH):Prop:=PI (zCr s) K 11 [v1,v5,v56,v57,v58] h
abbrev P121_14 (s:Bool) (K:KF) (h:AH):Prop:=PI (zCr s) K 14 [] h
abbrev P121_15 (s:Bool) (K:KF) (v1 v5 v56 v57 v58:Value) (h:AH):Prop:=PI (zCr s) K 15 [v1,v5,v56,v57,v58] h
theorem zaD (H :
 Ev s (zX 25 h v0) fun x0=>
 PI (zCr s) K 1 [x0.1] x0.2):PI (zCr s) K 0 [v0] h:=zB H
theorem zaC (H :
 EvO (zD E 25 0 v1) fun x0=>
 EvO (zH E 3 h x0) fun x1=>
 EvO (zC E .lss 3 x1 (.int .i64 1)) fun x2=>
 EvO (gdB x2 false (zD E 25 0 v1)) fun x4=>
 EvO (gdB x2 false (zH E 3 h x4)) fun x5=>
 EvO (gdB x2 false (zC E .gtr 3 x5 (.int .i64 20000))) fun x6=>
 EvO (z7 x2 (some (.bool true)) x6) fun x7=>
 EvO (gdB x7 false (zD E 25 1 v1)) fun x9=>
 EvO (gdB x7 false (zH E 22 h x9)) fun x10=>
 EvO (gdB x7 false (zO E (zl [(18,x10)]) (zn zbH [1,0,0] 11) h)) fun x11=>
 EvO (gdB x7 false (zC E .gtr 3 x11 (.int .i64 4000))) fun x12=>
 EvO (z7 x7 (some (.bool true)) x12) fun x13=>
 EvO (gdB x13 false (zD E 25 2 v1)) fun x15=>
 EvO (gdB x13 false (zH E 23 h x15)) fun x16=>
 EvO (gdB x13 false (zO E (zl [(24,x16)]) (zn zbH [1,0,0] 17) h)) fun x17=>
 EvO (gdB x13 false (zC E .gtr 3 x17 (.int .i64 100000))) fun x18=>
 EvO (z7 x13 (some (.bool true)) x18) fun x19=>
 BrK x19 (PI (zCr s) K 2 [] h) (PI (zCr s) K 3 [v1] h)):PI (zCr s) K 1 [v1] h:=zB H
theorem zMS:zO E (zl [(18,.slice a n c)]) (zn zbH [1,0,0] 11) h=some (.int .i64 (n:Int)):=by cases a <;> kernel_rfl
theorem zMR:zO E (zl [(24,.slice a n c)]) (zn zbH [1,0,0] 17) h=some (.int .i64 (n:Int)):=by cases a <;> kernel_rfl
theorem zaB (H :
 K .ret [(.int .i64 8)] h):PI (zCr s) K 2 [] h:=zB H
theorem zaA (H :
 EvO (zD E 25 1 v1) fun x0=>
 EvO (zH E 22 h x0) fun x1=>
 EvO (zO E (zl [(29,x1)]) (zn zbH [1,1,0,0] 2) h) fun x2=>
 PI (zCr s) K 4 [v1,x1,x2,(.int .i64 0)] h):PI (zCr s) K 3 [v1] h:=zB H
theorem zPd:zO E (zl [(29,.slice a n c)]) (zn zbH [1,1,0,0] 2) h=some (.int .i64 (n:Int)):=by cases a <;> kernel_rfl
theorem zLk (H :
 EvO (zC E .lss 3 v31 v30) fun x0=>
 BrK x0 (PI (zCr s) K 5 [v1,v29,v30,v31] h) (PI (zCr s) K 9 [v1] h)):PI (zCr s) K 4 [v1,v29,v30,v31] h:=zB H
theorem zZ9 (H :
 EvO (zE E 22 v29 v31) fun x1=>
 EvO (zH E 36 h x1) fun x2=>
 Ev s (zX 36 h (zAG E 36)) fun x3=>
 Ev s (ze E 36 x3.2 x3.1 x2) fun x5=>
 PI (zCr s) K 6 [v1,v31,x3.1,v29,v30,v31] x5.2):PI (zCr s) K 5 [v1,v29,v30,v31] h:=zB H
theorem zZ8 (H :
 EvO (zH E 36 h v4) fun x0=>
 Ev s (zQ (zW E) (some (.func (.func 167) #[] #[])) [x0] h) fun x1=>
 EvO (zC E .neq 29 x1.1 (.int .i64 0)) fun x2=>
 EvO (gdB x2 false v3) fun x4=>
 EvO (gdB x2 false (zC E .gtr 3 x4 (.int .i64 0))) fun x5=>
 EvO (gdB x2 false x5) fun x6=>
 EvO (gdB x6 true (zD E 25 1 v1)) fun x7=>
 EvO (gdB x6 true (zH E 22 x1.2 x7)) fun x8=>
 EvO (gdB x6 true v3) fun x9=>
 EvO (gdB x6 true (zC E .sub 3 x9 (.int .i64 1))) fun x10=>
 EvO (gdB x6 true (zE E 22 x8 x10)) fun x11=>
 EvO (gdB x6 true (zH E 36 x1.2 x11)) fun x12=>
 EvO (gdB x6 true (zH E 36 x1.2 v4)) fun x13=>
 Ev s (gdW x6 true (zQ (zW E) (some (.func (.func 168) #[] #[])) [x12,x13] x1.2) x1.2) fun x14=>
 EvO (gdB x6 true (zC E .geq 3 x14.1 (.int .i64 0))) fun x15=>
 EvO (gdB x2 false (z7 x6 x15 (some (.bool false)))) fun x16=>
 EvO (z7 x2 (some (.bool true)) x16) fun x17=>
 BrK x17 (PI (zCr s) K 7 [] x14.2) (PI (zCr s) K 8 [v1,v29,v30,v31] x14.2)):PI (zCr s) K 6 [v1,v3,v4,v29,v30,v31] h:=zB H
theorem zZ7 (H :
 K .ret [(.int .i64 8)] h):PI (zCr s) K 7 [] h:=zB H
theorem zZ6 (H :
 EvO (zC E .add 3 v31 (.int .i64 1)) fun x0=>
 PI (zCr s) K 4 [v1,v29,v30,x0] h):PI (zCr s) K 8 [v1,v29,v30,v31] h:=zB H
theorem zZ5 (H :
 PI (zCr s) K 10 [v1,(.func (.func 169) #[] #[])] h):PI (zCr s) K 9 [v1] h:=zB H
theorem zQs (H :
 EvO (zD E 25 2 v1) fun x0=>
 EvO (zH E 23 h x0) fun x1=>
 EvO (zO E (zl [(56,x1)]) (zn zbH [1,1,1,1,0,0] 2) h) fun x2=>
 PI (zCr s) K 11 [v1,v5,x1,x2,(.int .i64 0)] h):PI (zCr s) K 10 [v1,v5] h:=zB H
theorem zMT:zO E (zl [(56,.slice a n c)]) (zn zbH [1,1,1,1,0,0] 2) h=some (.int .i64 (n:Int)):=by cases a <;> kernel_rfl
theorem zIp (H :
 EvO (zC E .lss 3 v58 v57) fun x0=>
 BrK x0 (PI (zCr s) K 12 [v1,v5,v56,v57,v58] h) (PI (zCr s) K 16 [] h)):PI (zCr s) K 11 [v1,v5,v56,v57,v58] h:=zB H
theorem zQr (H :
 EvO (zE E 23 v56 v58) fun x1=>
 EvO (zH E 52 h x1) fun x2=>
 Ev s (zX 52 h (zAG E 52)) fun x3=>
 Ev s (ze E 52 x3.2 x3.1 x2) fun x5=>
 PI (zCr s) K 13 [v1,v5,v58,x3.1,v56,v57,v58] x5.2):PI (zCr s) K 12 [v1,v5,v56,v57,v58] h:=zB H
theorem zQq (H :
 EvO (zD E 52 0 v7) fun x1=>
 EvO (zH E 3 h x1) fun x2=>
 EvO (zD E 25 0 v1) fun x3=>
 EvO (zH E 3 h x3) fun x4=>
 Ev s (zQ (zW E) v5 [x2,x4] h) fun x5=>
 EvO (zAQ .not x5.1) fun x6=>
 EvO (gdB x6 false v5) fun x8=>
 EvO (gdB x6 false (zD E 52 2 v7)) fun x9=>
 EvO (gdB x6 false (zH E 3 x5.2 x9)) fun x10=>
 EvO (gdB x6 false (zD E 25 0 v1)) fun x11=>
 EvO (gdB x6 false (zH E 3 x5.2 x11)) fun x12=>
 Ev s (gdW x6 false (zQ (zW E) x8 [x10,x12] x5.2) x5.2) fun x13=>
 EvO (gdB x6 false (zAQ .not x13.1)) fun x14=>
 EvO (z7 x6 (some (.bool true)) x14) fun x15=>
 EvO (gdB x15 false v5) fun x17=>
 EvO (gdB x15 false (zD E 52 1 v7)) fun x18=>
 EvO (gdB x15 false (zH E 3 x13.2 x18)) fun x19=>
 EvO (gdB x15 false (zD E 25 1 v1)) fun x20=>
 EvO (gdB x15 false (zH E 22 x13.2 x20)) fun x21=>
 EvO (gdB x15 false (zO E (zl [(84,x21)]) (zn zbH [1,1,1,1,0,1,0,0,1,1,0,0,1,0] 22) x13.2)) fun x22=>
 Ev s (gdW x15 false (zQ (zW E) x17 [x19,x22] x13.2) x13.2) fun x23=>
 EvO (gdB x15 false (zAQ .not x23.1)) fun x24=>
 EvO (z7 x15 (some (.bool true)) x24) fun x25=>
 EvO (gdB x25 false v6) fun x27=>
 EvO (gdB x25 false (zC E .gtr 3 x27 (.int .i64 0))) fun x28=>
 EvO (gdB x25 false x28) fun x29=>
 EvO (gdB x29 true (zD E 25 2 v1)) fun x30=>
 EvO (gdB x29 true (zH E 23 x23.2 x30)) fun x31=>
 EvO (gdB x29 true v6) fun x32=>
 EvO (gdB x29 true (zC E .sub 3 x32 (.int .i64 1))) fun x33=>
 EvO (gdB x29 true (zE E 23 x31 x33)) fun x34=>
 EvO (gdB x29 true (zH E 52 x23.2 x34)) fun x35=>
 EvO (gdB x29 true (zH E 52 x23.2 v7)) fun x36=>
 Ev s (gdW x29 true (zQ (zW E) (some (.func (.func 170) #[] #[])) [x35,x36] x23.2) x23.2) fun x37=>
 EvO (gdB x29 true (zC E .geq 3 x37.1 (.int .i64 0))) fun x38=>
 EvO (gdB x25 false (z7 x29 x38 (some (.bool false)))) fun x39=>
 EvO (z7 x25 (some (.bool true)) x39) fun x40=>
 BrK x40 (PI (zCr s) K 14 [] x37.2) (PI (zCr s) K 15 [v1,v5,v56,v57,v58] x37.2)):PI (zCr s) K 13 [v1,v5,v6,v7,v56,v57,v58] h:=zB H
theorem zKX:zO E (zl [(84,.slice a n c)]) (zn zbH [1,1,1,1,0,1,0,0,1,1,0,0,1,0] 22) h=some (.int .i64 (n:Int)):=by cases a <;> kernel_rfl
theorem zQp (H :
 K .ret [(.int .i64 8)] h):PI (zCr s) K 14 [] h:=zB H
theorem zQo (H :
 EvO (zC E .add 3 v58 (.int .i64 1)) fun x0=>
 PI (zCr s) K 11 [v1,v5,v56,v57,x0] h):PI (zCr s) K 15 [v1,v5,v56,v57,v58] h:=zB H
theorem zQn (H :
 K .ret [(.int .i64 0)] h):PI (zCr s) K 16 [] h:=zB H
theorem zbA (hok:h.ok) (hv:zg v=true) (H:PI (zCr s) (KR E [.tmp 2] fun x k=>x=v/\h.next<=k.wm) 0 [v0] h.fresh):(zW E).call 121 [v0] h=some [(v,h)]:=zAh Tryz.f121 hok hv (zz (zCr s) H)
noncomputable def B122:Code:=zc Tryz.f122
noncomputable def C122 (s:Bool):Cx:=⟨E,s,none,B122,[([0],[0,1]),([1,0],[2,3])],[4],[]⟩
theorem zZ4 (H :
 Ev s (zX 54 h v0) fun x0=>
 Ev s (zX 54 x0.2 v1) fun x1=>
 PI (C122 s) K 1 [x0.1,x1.1] x1.2):PI (C122 s) K 0 [v0,v1] h:=zB H
theorem zZ3 (H :
 EvO (zE E 54 v2 (some (.int .i64 0))) fun x0=>
 EvO (zH E 3 h x0) fun x1=>
 EvO (zE E 54 v3 (some (.int .i64 0))) fun x2=>
 EvO (zH E 3 h x2) fun x3=>
 EvO (zE E 54 v2 (some (.int .i64 1))) fun x5=>
 EvO (zH E 3 h x5) fun x6=>
 EvO (zE E 54 v3 (some (.int .i64 1))) fun x7=>
 EvO (zH E 3 h x7) fun x8=>
 Ev s (zQ (zW E) (some (.func (.func 94) #[] #[])) [x1,x3] h) fun x4=>
 EvO (zH E 3 x4.2 x7) fun u4_8=>veq 100 u4_8 x8=true ∧
 (EvO (zH E 3 x4.2 x5) fun u4_6=>veq 100 u4_6 x6=true ∧
 (Ev s (zQ (zW E) (some (.func (.func 94) #[] #[])) [x6,x8] x4.2) fun x9=>
 Ev s (zf E 47 2 (some [(0,x4.1),(1,x9.1)]) x9.2) fun x10=>
 Ev s (zQ (zW E) (some (.func (.func 171) #[] #[])) [x10.1] x10.2) fun x11=>
 K .ret [x11.1] x11.2))):PI (C122 s) K 1 [v2,v3] h:=zB H
theorem za9 (hok:h.ok) (hv:zg v=true) (H:PI (C122 s) (KR E [.tmp 4] fun x k=>x=v/\h.next<=k.wm) 0 [v0,v1] h.fresh):(zW E).call 122 [v0,v1] h=some [(v,h)]:=zAh Tryz.f122 hok hv (zz (C122 s) H)
noncomputable def B123:Code:=zc Tryz.f123
noncomputable def C123 (s:Bool):Cx:=⟨E,s,none,B123,[([0],[0,1,2]),([1,0],[1,2,3])],[6],[]⟩
theorem zZ2 (H :
 Ev s (zX 176 h v0) fun x0=>
 PI (C123 s) K 1 [v1,v2,x0.1] x0.2):PI (C123 s) K 0 [v0,v1,v2] h:=zB H
theorem zZ1 (H :
 EvO (zD E 176 2 v3) fun x0=>
 EvO (zH E 174 h x0) fun x1=>
 EvO (zAi E 54 (some [(0,v1),(1,v2)])) fun x4=>
 EvO (zDT E 174 false x1 x4 h) fun x5=>
 K .ret [x5] h):PI (C123 s) K 1 [v1,v2,v3] h:=zB H
theorem za8 (hok:h.ok) (hv:zg v=true) (H:PI (C123 s) (KR E [.tmp 6] fun x k=>x=v/\h.next<=k.wm) 0 [v0,v1,v2] h.fresh):(zW E).call 123 [v0,v1,v2] h=some [(v,h)]:=zAh Tryz.f123 hok hv (zz (C123 s) H)
noncomputable def B124:Code:=zc Tryz.f124
noncomputable def zF3 (s:Bool):Cx:=⟨E,s,none,B124,[([0],[0,1]),([1,0,0],[2,3]),([1,0,1,0,0,0],[2,3,11]),([1,0,1,0,0,1,1,0,0],[2,3,11]),([1,0,1,0,0,1,1,0,1,0],[2,3,5,11]),([1,0,1,0,0,1,1,0,1,1,0,0,0],[2,3,5,11,25,26,27]),([1,0,1,0,0,1,1,0,1,1,0,0,1,1,0,0,0],[2,3,5,11,25,26,27]),([1,0,1,0,0,1,1,0,1,1,0,0,1,1,0,0,1,0],[2,3,5,7,11,25,26,27]),([1,0,1,0,0,1,1,0,1,1,0,0,1,1,0,0,1,1,0,0],[]),([1,0,1,0,0,1,1,0,1,1,0,0,1,1,1],[2,3,5,11,25,26,27]),([1,1,0],[])],[4],[]⟩
abbrev P124_2 (s:Bool) (K:KF) (v2 v3 v11:Value) (h:AH):Prop:=PI (zF3 s) K 2 [v2,v3,v11] h
abbrev P124_5 (s:Bool) (K:KF) (v2 v3 v5 v11 v25 v26 v27:Value) (h:AH):Prop:=PI (zF3 s) K 5 [v2,v3,v5,v11,v25,v26,v27] h
theorem zZ0 (H :
 Ev s (zX 178 h v0) fun x0=>
 Ev s (zX 112 x0.2 v1) fun x1=>
 PI (zF3 s) K 1 [x0.1,x1.1] x1.2):PI (zF3 s) K 0 [v0,v1] h:=zB H
theorem zZz (H :
 EvO (zD E 178 0 v2) fun x0=>
 EvO (zD E 176 2 x0) fun x1=>
 EvO (zH E 174 h x1) fun x2=>
 Ev s (zF5 x2 h) fun x3=>
 PI (zF3 s) K 2 [v2,v3,x3.1] x3.2):PI (zF3 s) K 1 [v2,v3] h:=zB H
theorem zLj (H :
 Ev s (zGH false v11 h) fun x0=>
 EvO (z6 0 x0.1) fun x1=>
 BrK x1 (PI (zF3 s) K 3 [v2,v3,v11] x0.2) (PI (zF3 s) K 10 [] x0.2)):PI (zF3 s) K 2 [v2,v3,v11] h:=zB H
theorem zZy (H :
 EvO (zGu v11 h) fun x0=>
 EvO (z6 0 x0) fun x1=>
 Ev s (zX 54 h (zAG E 54)) fun x2=>
 Ev s (ze E 54 x2.2 x2.1 x1) fun x3=>
 PI (zF3 s) K 4 [v2,v3,x2.1,v11] x3.2):PI (zF3 s) K 3 [v2,v3,v11] h:=zB H
theorem zZx (H :
 EvO (zD E 178 0 v2) fun x0=>
 EvO (zD E 176 0 x0) fun x1=>
 EvO (zH E 128 h x1) fun x2=>
 EvO (zq x2) fun x3=>
 EvO (zD E 131 0 x3) fun x4=>
 EvO (zH E 129 h x4) fun x5=>
 EvO (zE E 54 v5 (some (.int .i64 0))) fun x6=>
 EvO (zH E 3 h x6) fun x7=>
 EvO (zE E 129 x5 x7) fun x8=>
 EvO (zH E 132 h x8) fun x9=>
 EvO (zO E (zl [(25,x9)]) (zn B124 [1,0,1,0,0,1,1,0,1,0] 10) h) fun x10=>
 PI (zF3 s) K 5 [v2,v3,v5,v11,x9,x10,(.int .i64 0)] h):PI (zF3 s) K 4 [v2,v3,v5,v11] h:=zB H
theorem zMQ:zO E (zl [(25,.slice a n c)]) (zn B124 [1,0,1,0,0,1,1,0,1,0] 10) h=some (.int .i64 (n:Int)):=by cases a <;> kernel_rfl
theorem zLi (H :
 EvO (zC E .lss 3 v27 v26) fun x0=>
 BrK x0 (PI (zF3 s) K 6 [v2,v3,v5,v11,v25,v26,v27] h) (PI (zF3 s) K 2 [v2,v3,v11] h)):PI (zF3 s) K 5 [v2,v3,v5,v11,v25,v26,v27] h:=zB H
theorem zZw (H :
 EvO (zE E 132 v25 v27) fun x0=>
 EvO (zH E 134 h x0) fun x1=>
 Ev s (zX 134 h (zAG E 134)) fun x2=>
 Ev s (ze E 134 x2.2 x2.1 x1) fun x3=>
 PI (zF3 s) K 7 [v2,v3,v5,x2.1,v11,v25,v26,v27] x3.2):PI (zF3 s) K 6 [v2,v3,v5,v11,v25,v26,v27] h:=zB H
theorem zZv (H :
 EvO (zD E 112 0 v3) fun x0=>
 EvO (zH E 109 h x0) fun x1=>
 EvO (zH E 178 h v2) fun x2=>
 EvO (zE E 54 v5 (some (.int .i64 0))) fun x3=>
 EvO (zH E 3 h x3) fun x4=>
 EvO (zE E 54 v5 (some (.int .i64 1))) fun x5=>
 EvO (zH E 3 h x5) fun x6=>
 EvO (zH E 134 h v7) fun x7=>
 Ev s (zQ (zW E) x1 [x2,x4,x6,x7] h) fun x8=>
 EvO (zAQ .not x8.1) fun x9=>
 BrK x9 (PI (zF3 s) K 8 [] x8.2) (PI (zF3 s) K 9 [v2,v3,v5,v11,v25,v26,v27] x8.2)):PI (zF3 s) K 7 [v2,v3,v5,v7,v11,v25,v26,v27] h:=zB H
theorem zZu (H :
 K .ret [(.bool false)] h):PI (zF3 s) K 8 [] h:=zB H
theorem zZt (H :
 EvO (zC E .add 3 v27 (.int .i64 1)) fun x0=>
 PI (zF3 s) K 5 [v2,v3,v5,v11,v25,v26,x0] h):PI (zF3 s) K 9 [v2,v3,v5,v11,v25,v26,v27] h:=zB H
theorem zQm (H :
 K .ret [(.bool true)] h):PI (zF3 s) K 10 [] h:=zB H
theorem za7 (hok:h.ok) (hv:zg v=true) (H:PI (zF3 s) (KR E [.tmp 4] fun x k=>x=v/\h.next<=k.wm) 0 [v0,v1] h.fresh):(zW E).call 124 [v0,v1] h=some [(v,h)]:=zAh Tryz.f124 hok hv (zz (zF3 s) H)
noncomputable def B125:Code:=zc Tryz.f125
noncomputable def zLn (s:Bool):Cx:=⟨E,s,none,B125,[([0],[0]),([1,0],[1,2]),([1,1,0,0],[1,2,3]),([1,1,0,1,0,0,0],[2,3,13]),([1,1,0,1,0,0,1,1,0,0],[2,3,13]),([1,1,0,1,0,0,1,1,0,1],[2,3,4,13]),([1,1,1,0],[2,3])],[2],[]⟩
abbrev P125_3 (s:Bool) (K:KF) (v2 v3 v13:Value) (h:AH):Prop:=PI (zLn s) K 3 [v2,v3,v13] h
def Q125_0 (s:Bool) (K:KF) (v0:Value) (h:AH):Prop:=
 Ev s (zX 176 h v0) fun x0=>
 Ev s (zX 176 x0.2 (zAG E 176)) fun x1=>
 PI (zLn s) K 1 [x0.1,x1.1] x1.2
theorem zZs (H:Q125_0 s K v0 h):PI (zLn s) K 0 [v0] h:=zB H
def Q125_1 (s:Bool) (K:KF) (v1 v2:Value) (h:AH):Prop:=
 EvO (zD E 176 1 v1) fun x0=>
 EvO (zH E 128 h x0) fun x1=>
 EvO (zD E 176 0 v1) fun x2=>
 EvO (zH E 128 h x2) fun x3=>
 Ev s (one ((.map (some (h).next):Value),(h).new (.map [] 0))) fun x4=>
 EvO (zAi E 176 (some [(0,x1),(1,x3),(2,x4.1)])) fun x5=>
 Ev s (zX 176 x4.2 (zAG E 176)) fun x6=>
 Ev s (ze E 176 x6.2 x6.1 x5) fun x7=>
 PI (zLn s) K 2 [v1,v2,x6.1] x7.2
theorem zZr (H:Q125_1 s K v1 v2 h):PI (zLn s) K 1 [v1,v2] h:=zB H
def Q125_2 (s:Bool) (K:KF) (v1 v2 v3:Value) (h:AH):Prop:=
 EvO (zD E 176 2 v1) fun x0=>
 EvO (zH E 174 h x0) fun x1=>
 Ev s (zF5 x1 h) fun x2=>
 PI (zLn s) K 3 [v2,v3,x2.1] x2.2
theorem zZq (H:Q125_2 s K v1 v2 v3 h):PI (zLn s) K 2 [v1,v2,v3] h:=zB H
def zTw (s:Bool) (K:KF) (v2 v3 v13:Value) (h:AH):Prop:=
 Ev s (zGH false v13 h) fun x0=>
 EvO (z6 0 x0.1) fun x1=>
 BrK x1 (PI (zLn s) K 4 [v2,v3,v13] x0.2) (PI (zLn s) K 6 [v2,v3] x0.2)
theorem zLh (H:zTw s K v2 v3 v13 h):PI (zLn s) K 3 [v2,v3,v13] h:=zB H
def Q125_4 (s:Bool) (K:KF) (v2 v3 v13:Value) (h:AH):Prop:=
 EvO (zGu v13 h) fun x0=>
 EvO (z6 0 x0) fun x1=>
 Ev s (zX 54 h (zAG E 54)) fun x2=>
 Ev s (ze E 54 x2.2 x2.1 x1) fun x3=>
 PI (zLn s) K 5 [v2,v3,x2.1,v13] x3.2
theorem zZp (H:Q125_4 s K v2 v3 v13 h):PI (zLn s) K 4 [v2,v3,v13] h:=zB H
def Q125_5 (s:Bool) (K:KF) (v2 v3 v4 v13:Value) (h:AH):Prop:=
 EvO (zD E 176 2 v3) fun x0=>
 EvO (zH E 174 h x0) fun x1=>
 EvO (zE E 54 v4 (some (.int .i64 1))) fun x2=>
 EvO (zH E 3 h x2) fun x3=>
 EvO (zE E 54 v4 (some (.int .i64 0))) fun x4=>
 EvO (zH E 3 h x4) fun x5=>
 EvO (zAi E 54 (some [(0,x3),(1,x5)])) fun x6=>
 Ev s (zAU E 174 x1 x6 (some (.bool true)) h) fun x7=>
 PI (zLn s) K 3 [v2,v3,v13] x7.2
theorem zZo (H:Q125_5 s K v2 v3 v4 v13 h):PI (zLn s) K 5 [v2,v3,v4,v13] h:=zB H
def Q125_6 (s:Bool) (K:KF) (v2 v3:Value) (h:AH):Prop:=
 EvO (zH E 176 h v3) fun x0=>
 Ev s (ze E 176 h v2 x0) fun x1=>
 K .ret [v2] x1.2
theorem zZn (H:Q125_6 s K v2 v3 h):PI (zLn s) K 6 [v2,v3] h:=zB H
theorem F125_ev (H:PI (zLn s) (KR E [.cell 2 176] Rp) 0 [v0] h):EvC E s Tryz.f125 [v0] h Rp:=zz (zLn s) H
theorem zfj:E.tab.fn.get 125=some Tryz.f125:=by kernel_rfl
theorem za6:Tryz.f125.body=some B125:=by kernel_rfl
theorem zfi (l:List Value) (h:AH):E.sum 125 l h=none:=by kernel_rfl
noncomputable def B128:Code:=zc Tryz.f128
noncomputable def C128 (s:Bool):Cx:=⟨E,s,none,B128,[([0],[0,2,3]),([1,0],[2,4,7])],[8],[]⟩
theorem zZf (H :
 Ev s (zX 178 h v0) fun x0=>
 Ev s (zX 134 x0.2 v3) fun x1=>
 PI (C128 s) K 1 [v2,x0.1,x1.1] x1.2):PI (C128 s) K 0 [v0,v2,v3] h:=zB H
theorem zZe (H :
 EvO (zD E 178 0 v4) fun x0=>
 EvO (zD E 176 1 x0) fun x1=>
 EvO (zH E 128 h x1) fun x2=>
 EvO (zq x2) fun x3=>
 EvO (zD E 131 0 x3) fun x4=>
 EvO (zH E 129 h x4) fun x5=>
 EvO (zE E 129 x5 v2) fun x7=>
 EvO (zH E 132 h x7) fun x8=>
 EvO (zAt (.func 174) (some []) [v7,v4]) fun x9=>
 Ev s (zQ (zW E) (some (.func (.func 173) #[] #[])) [x8,x9] h) fun x10=>
 K .ret [x10.1] x10.2):PI (C128 s) K 1 [v2,v4,v7] h:=zB H
theorem za4 (hok:h.ok) (hv:zg v=true) (H:PI (C128 s) (KR E [.tmp 8] fun x k=>x=v/\h.next<=k.wm) 0 [v0,v2,v3] h.fresh):(zW E).call 128 [v0,v1,v2,v3] h=some [(v,h)]:=zAh Tryz.f128 hok hv (zz (C128 s) H)
noncomputable def B130:Code:=zc Tryz.f130
theorem zfh:E.tab.fn.get 130=some Tryz.f130:=by kernel_rfl
theorem za3:Tryz.f130.body=some B130:=by kernel_rfl
theorem zfg (l:List Value) (h:AH):E.sum 130 l h=none:=by kernel_rfl
noncomputable def B143:Code:=zc Tryz.f143
noncomputable def zHd (s:Bool):Cx:=⟨E,s,none,B143,[([0],[0,1]),([1,0,0],[0,3]),([1,0,1,0,0],[]),([1,1,0],[0,3]),([1,1,1,0,0],[0,3,5,6]),([1,1,1,0,1,0],[0,3,5]),([1,1,1,1,0],[5])],[4],[]⟩
abbrev P143_0 (s:Bool) (K:KF) (v0 v1:Value) (h:AH):Prop:=PI (zHd s) K 0 [v0,v1] h
abbrev P143_1 (s:Bool) (K:KF) (v0 v3:Value) (h:AH):Prop:=PI (zHd s) K 1 [v0,v3] h
abbrev P143_4 (s:Bool) (K:KF) (v0 v3 v5 v6:Value) (h:AH):Prop:=PI (zHd s) K 4 [v0,v3,v5,v6] h
abbrev P143_6 (s:Bool) (K:KF) (v5:Value) (h:AH):Prop:=PI (zHd s) K 6 [v5] h
theorem zZH (H :
 Ev s (zX 36 h v1) fun x0=>
 PI (zHd s) K 1 [v0,x0.1] x0.2):PI (zHd s) K 0 [v0,v1] h:=zB H
theorem zLd (H :
 EvO (zD E 36 0 v3) fun x0=>
 EvO (zH E 3 h x0) fun x1=>
 EvO (zC E .eql 3 x1 (.int .i64 (-1))) fun x2=>
 BrK x2 (PI (zHd s) K 2 [] h) (PI (zHd s) K 3 [v0,v3] h)):PI (zHd s) K 1 [v0,v3] h:=zB H
theorem zZG (H :
 K .ret [(.int .i64 0)] h):PI (zHd s) K 2 [] h:=zB H
theorem zZF (H :
 EvO (zq v0) fun x1=>
 EvO (zD E 197 0 x1) fun x2=>
 EvO (zH E 22 h x2) fun x3=>
 EvO (zH E 36 h v3) fun x4=>
 Ev s (zQ (zW E) (some (.func (.func 190) #[] #[])) (some [x3,x4,(.func (.func 168) #[] #[])]) h) fun x5=>
 EvO (z6 0 x5.1) fun x7=>
 EvO (z6 1 x5.1) fun x8=>
 PI (zHd s) K 4 [v0,v3,x7,x8] x5.2):PI (zHd s) K 3 [v0,v3] h:=zB H
theorem zLc (H :
 EvO (zAQ .not v6) fun x1=>
 BrK x1 (PI (zHd s) K 5 [v0,v3,v5] h) (PI (zHd s) K 6 [v5] h)):PI (zHd s) K 4 [v0,v3,v5,v6] h:=zB H
theorem zZE (H :
 EvO (zq v0) fun x2=>
 EvO (zD E 197 0 x2) fun x3=>
 EvO (zH E 22 h x3) fun x4=>
 EvO (zH E 36 h v3) fun x6=>
 Ev s (zf E 22 1 (some [(0,x6)]) h) fun x7=>
 EvO (zH E 22 x7.2 x3) fun u7_4=>veq 100 u7_4 x4=true ∧
 (Ev s (zQ (zW E) (some (.func (.func 191) #[] #[])) [x4,v5,x7.1] x7.2) fun x8=>
 EvO (zq v0) fun x9=>
 EvO (zD E 197 0 x9) fun x10=>
 Ev s (ze E 22 x8.2 x10 x8.1) fun x11=>
 PI (zHd s) K 6 [v5] x11.2)):PI (zHd s) K 5 [v0,v3,v5] h:=zB H
theorem zZD (H :
 EvO (zC E .add 3 v5 (.int .i64 1)) fun x1=>
 K .ret [x1] h):PI (zHd s) K 6 [v5] h:=zB H
theorem zIs (hok:h.ok) (hv:zh v=true) (H:PI (zHd true) (KR E [.tmp 4] fun x k=>x=v/\h.next<=k.wm) 0 [v0,v1] h.fresh):(zW E).call 143 [v0,v1] h=some [(v,h)]:=zGD Tryz.f143 hok hv (zz (zHd true) H)
theorem za0 (H:PI (zHd true) (KR E [.tmp 4] fun x k=>(zh x=false\/k.wm<h.next)/\Rp x ⟨k.t,k.next,cond (Nat.ble h.wm k.wm) h.wm k.wm⟩) 0 [v0,v1] h.fresh):Ev true ((zW E).call 143 [v0,v1] h) fun x=>Rp x.1 x.2:=zFb Tryz.f143 (zz (zHd true) H)
noncomputable def B154:Code:=zc Tryz.f154
noncomputable def C154 (s:Bool):Cx:=⟨E,s,none,B154,[([0],[0]),([1,0],[0])],[2],[]⟩
theorem zX3 (H :
 PI (C154 s) K 1 [v0] h):PI (C154 s) K 0 [v0] h:=zB H
theorem zX2 (H :
 EvO (zC E .neq 3 v0 v0) fun x2=>
 K .ret [x2] h):PI (C154 s) K 1 [v0] h:=zB H
theorem zar (hok:h.ok) (hv:zg v=true) (H:PI (C154 s) (KR E [.tmp 2] fun x k=>x=v/\h.next<=k.wm) 0 [v0] h.fresh):(zW E).call 154 [v0] h=some [(v,h)]:=zAh Tryz.f154 hok hv (zz (C154 s) H)
noncomputable def B167:Code:=zc Tryz.f167
noncomputable def zOw (s:Bool):Cx:=⟨E,s,none,B167,[([0],[0]),([1,0],[1]),([1,1,0,0],[1,3]),([1,1,0,1,0,0],[]),([1,1,1,0],[])],[2],[]⟩
abbrev P167_2 (s:Bool) (K:KF) (v1 v3:Value) (h:AH):Prop:=PI (zOw s) K 2 [v1,v3] h
abbrev P167_3 (s:Bool) (K:KF) (h:AH):Prop:=PI (zOw s) K 3 [] h
abbrev P167_4 (s:Bool) (K:KF) (h:AH):Prop:=PI (zOw s) K 4 [] h
theorem zX1 (H :
 Ev s (zX 36 h v0) fun x0=>
 PI (zOw s) K 1 [x0.1] x0.2):PI (zOw s) K 0 [v0] h:=zB H
theorem zX0 (H :
 EvO (zD E 36 0 v1) fun x0=>
 EvO (zH E 3 h x0) fun x1=>
 EvO (zC E .eql 3 x1 (.int .i64 (-3))) fun x2=>
 EvO (gdB x2 false (zD E 36 0 v1)) fun x4=>
 EvO (gdB x2 false (zH E 3 h x4)) fun x5=>
 EvO (gdB x2 false (zC E .eql 3 x5 (.int .i64 (-1)))) fun x6=>
 EvO (z7 x2 (some (.bool true)) x6) fun x7=>
 PI (zOw s) K 2 [v1,x7] h):PI (zOw s) K 1 [v1] h:=zB H
theorem zXz (H :
 EvO (zD E 36 0 v1) fun x0=>
 EvO (zH E 3 h x0) fun x1=>
 EvO (zC E .lss 3 x1 (.int .i64 (-3))) fun x2=>
 EvO (gdB x2 false (zD E 36 0 v1)) fun x4=>
 EvO (gdB x2 false (zH E 3 h x4)) fun x5=>
 EvO (gdB x2 false (zC E .geq 3 x5 (.int .i64 32))) fun x6=>
 EvO (z7 x2 (some (.bool true)) x6) fun x7=>
 EvO (gdB x7 false (zD E 36 1 v1)) fun x9=>
 EvO (gdB x7 false (zH E 34 h x9)) fun x10=>
 EvO (gdB x7 false (zO E (zl [(22,x10)]) (zn B167 [1,1,0,0] 11) h)) fun x11=>
 EvO (gdB x7 false (zC E .gtr 3 x11 (.int .i64 8))) fun x12=>
 EvO (z7 x7 (some (.bool true)) x12) fun x13=>
 EvO (gdB x13 false v3) fun x15=>
 EvO (gdB x13 false x15) fun x16=>
 EvO (gdB x16 true (zD E 36 1 v1)) fun x17=>
 EvO (gdB x16 true (zH E 34 h x17)) fun x18=>
 EvO (gdB x16 true (zO E (zl [(30,x18)]) (zn B167 [1,1,0,0] 19) h)) fun x19=>
 EvO (gdB x16 true (zC E .gtr 3 x19 (.int .i64 0))) fun x20=>
 EvO (gdB x13 false (z7 x16 x20 (some (.bool false)))) fun x21=>
 EvO (z7 x13 (some (.bool true)) x21) fun x22=>
 EvO (gdB x22 false (zD E 36 1 v1)) fun x24=>
 EvO (gdB x22 false (zH E 34 h x24)) fun x25=>
 Ev s (gdW x22 false (zQ (zW E) (some (.func (.func 215) #[] #[])) (some [x25,(.func (.func 216) #[] #[])]) h) h) fun x26=>
 EvO (z7 x22 (some (.bool true)) x26.1) fun x27=>
 BrK x27 (PI (zOw s) K 3 [] x26.2) (PI (zOw s) K 4 [] x26.2)):PI (zOw s) K 2 [v1,v3] h:=zB H
theorem zDV:zO E (zl [(22,.slice a n c)]) (zn B167 [1,1,0,0] 11) h=some (.int .i64 (n:Int)):=by cases a <;> kernel_rfl
theorem zEj:zO E (zl [(30,.slice a n c)]) (zn B167 [1,1,0,0] 19) h=some (.int .i64 (n:Int)):=by cases a <;> kernel_rfl
theorem zXy (H :
 K .ret [(.int .i64 170)] h):PI (zOw s) K 3 [] h:=zB H
theorem zXx (H :
 K .ret [(.int .i64 0)] h):PI (zOw s) K 4 [] h:=zB H
theorem zaq (hok:h.ok) (hv:zg v=true) (H:PI (zOw s) (KR E [.tmp 2] fun x k=>x=v/\h.next<=k.wm) 0 [v0] h.fresh):(zW E).call 167 [v0] h=some [(v,h)]:=zAh Tryz.f167 hok hv (zz (zOw s) H)
noncomputable def B168:Code:=zc Tryz.f168
noncomputable def C168 (s:Bool):Cx:=⟨E,s,none,B168,[([0],[0,1]),([1,0],[2,3])],[4],[]⟩
theorem zXw (H :
 Ev s (zX 36 h v0) fun x0=>
 Ev s (zX 36 x0.2 v1) fun x1=>
 PI (C168 s) K 1 [x0.1,x1.1] x1.2):PI (C168 s) K 0 [v0,v1] h:=zB H
theorem zXv (H :
 EvO (zD E 36 0 v2) fun x0=>
 EvO (zH E 3 h x0) fun x1=>
 EvO (zD E 36 0 v3) fun x2=>
 EvO (zH E 3 h x2) fun x3=>
 EvO (zD E 36 1 v2) fun x5=>
 EvO (zH E 34 h x5) fun x6=>
 EvO (zD E 36 1 v3) fun x7=>
 EvO (zH E 34 h x7) fun x8=>
 Ev s (zQ (zW E) (some (.func (.func 94) #[] #[])) [x1,x3] h) fun x4=>
 EvO (zH E 34 x4.2 x7) fun u4_8=>veq 100 u4_8 x8=true ∧
 (EvO (zH E 34 x4.2 x5) fun u4_6=>veq 100 u4_6 x6=true ∧
 (Ev s (zQ (zW E) (some (.func (.func 218) #[] #[])) (some [x6,x8,(.func (.func 219) #[] #[])]) x4.2) fun x9=>
 Ev s (zf E 47 2 (some [(0,x4.1),(1,x9.1)]) x9.2) fun x10=>
 Ev s (zQ (zW E) (some (.func (.func 171) #[] #[])) [x10.1] x10.2) fun x11=>
 K .ret [x11.1] x11.2))):PI (C168 s) K 1 [v2,v3] h:=zB H
theorem zap (hok:h.ok) (hv:zg v=true) (H:PI (C168 s) (KR E [.tmp 4] fun x k=>x=v/\h.next<=k.wm) 0 [v0,v1] h.fresh):(zW E).call 168 [v0,v1] h=some [(v,h)]:=zAh Tryz.f168 hok hv (zz (C168 s) H)
noncomputable def B169:Code:=zc Tryz.f169
noncomputable def C169 (s:Bool):Cx:=⟨E,s,none,B169,[([0],[0,1]),([1,0],[0,1])],[4],[]⟩
theorem zXu (H :
 PI (C169 s) K 1 [v0,v1] h):PI (C169 s) K 0 [v0,v1] h:=zB H
theorem zXt (H :
 EvO (zC E .geq 3 v0 (.int .i64 0)) fun x1=>
 EvO (gdB x1 true v0) fun x3=>
 EvO (gdB x1 true v1) fun x4=>
 EvO (gdB x1 true (zC E .lss 3 x3 x4)) fun x5=>
 EvO (z7 x1 x5 (some (.bool false))) fun x6=>
 K .ret [x6] h):PI (C169 s) K 1 [v0,v1] h:=zB H
theorem zao (hok:h.ok) (hv:zg v=true) (H:PI (C169 s) (KR E [.tmp 4] fun x k=>x=v/\h.next<=k.wm) 0 [v0,v1] h.fresh):(zW E).call 169 [v0,v1] h=some [(v,h)]:=zAh Tryz.f169 hok hv (zz (C169 s) H)
noncomputable def B170:Code:=zc Tryz.f170
noncomputable def C170 (s:Bool):Cx:=⟨E,s,none,B170,[([0],[0,1]),([1,0],[2,3])],[4],[]⟩
theorem zXs (H :
 Ev s (zX 52 h v0) fun x0=>
 Ev s (zX 52 x0.2 v1) fun x1=>
 PI (C170 s) K 1 [x0.1,x1.1] x1.2):PI (C170 s) K 0 [v0,v1] h:=zB H
theorem zXr (H :
 EvO (zD E 52 0 v2) fun x0=>
 EvO (zH E 3 h x0) fun x1=>
 EvO (zD E 52 0 v3) fun x2=>
 EvO (zH E 3 h x2) fun x3=>
 EvO (zD E 52 1 v2) fun x5=>
 EvO (zH E 3 h x5) fun x6=>
 EvO (zD E 52 1 v3) fun x7=>
 EvO (zH E 3 h x7) fun x8=>
 EvO (zD E 52 2 v2) fun x10=>
 EvO (zH E 3 h x10) fun x11=>
 EvO (zD E 52 2 v3) fun x12=>
 EvO (zH E 3 h x12) fun x13=>
 Ev s (zQ (zW E) (some (.func (.func 94) #[] #[])) [x1,x3] h) fun x4=>
 EvO (zH E 3 x4.2 x12) fun u4_13=>veq 100 u4_13 x13=true ∧
 (EvO (zH E 3 x4.2 x10) fun u4_11=>veq 100 u4_11 x11=true ∧
 (EvO (zH E 3 x4.2 x7) fun u4_8=>veq 100 u4_8 x8=true ∧
 (EvO (zH E 3 x4.2 x5) fun u4_6=>veq 100 u4_6 x6=true ∧
 (Ev s (zQ (zW E) (some (.func (.func 94) #[] #[])) [x6,x8] x4.2) fun x9=>
 EvO (zH E 3 x9.2 x12) fun u9_13=>veq 100 u9_13 x13=true ∧
 (EvO (zH E 3 x9.2 x10) fun u9_11=>veq 100 u9_11 x11=true ∧
 (Ev s (zQ (zW E) (some (.func (.func 94) #[] #[])) [x11,x13] x9.2) fun x14=>
 Ev s (zf E 47 3 (some [(0,x4.1),(1,x9.1),(2,x14.1)]) x14.2) fun x15=>
 Ev s (zQ (zW E) (some (.func (.func 171) #[] #[])) [x15.1] x15.2) fun x16=>
 K .ret [x16.1] x16.2))))))):PI (C170 s) K 1 [v2,v3] h:=zB H
theorem zam (hok:h.ok) (hv:zg v=true) (H:PI (C170 s) (KR E [.tmp 4] fun x k=>x=v/\h.next<=k.wm) 0 [v0,v1] h.fresh):(zW E).call 170 [v0,v1] h=some [(v,h)]:=zAh Tryz.f170 hok hv (zz (C170 s) H)
noncomputable def B171:Code:=zc Tryz.f171
noncomputable def zHn (s:Bool):Cx:=⟨E,s,none,B171,[([0],[0]),([1,0],[0]),([1,1,0,0],[0,3]),([1,1,0,1,0,0,0],[3,6,7,8]),([1,1,0,1,0,0,1,1,0,0,0],[3,6,7,8]),([1,1,0,1,0,0,1,1,0,0,1,0],[3,5,6,7,8]),([1,1,0,1,0,0,1,1,0,0,1,1,0,0],[5]),([1,1,0,1,0,0,1,1,1],[3,6,7,8]),([1,1,1,0],[3])],[2],[]⟩
abbrev P171_3 (s:Bool) (K:KF) (v3 v6 v7 v8:Value) (h:AH):Prop:=PI (zHn s) K 3 [v3,v6,v7,v8] h
theorem zXq (H :
 PI (zHn s) K 1 [v0] h):PI (zHn s) K 0 [v0] h:=zB H
theorem zXp (H :
 PI (zHn s) K 2 [v0,(.int .i64 0)] h):PI (zHn s) K 1 [v0] h:=zB H
theorem zXo (H :
 EvO (zO E (zl [(6,v0)]) (zn B171 [1,1,0,0] 1) h) fun x1=>
 PI (zHn s) K 3 [v3,v0,x1,(.int .i64 0)] h):PI (zHn s) K 2 [v0,v3] h:=zB H
theorem zPX:zO E (zl [(6,.slice a n c)]) (zn B171 [1,1,0,0] 1) h=some (.int .i64 (n:Int)):=by cases a <;> kernel_rfl
theorem zLK (H :
 EvO (zC E .lss 3 v8 v7) fun x0=>
 BrK x0 (PI (zHn s) K 4 [v3,v6,v7,v8] h) (PI (zHn s) K 8 [v3] h)):PI (zHn s) K 3 [v3,v6,v7,v8] h:=zB H
theorem zXn (H :
 EvO (zE E 47 v6 v8) fun x0=>
 EvO (zH E 3 h x0) fun x1=>
 PI (zHn s) K 5 [v3,x1,v6,v7,v8] h):PI (zHn s) K 4 [v3,v6,v7,v8] h:=zB H
theorem zXm (H :
 EvO (zC E .neq 3 v5 v3) fun x2=>
 BrK x2 (PI (zHn s) K 6 [v5] h) (PI (zHn s) K 7 [v3,v6,v7,v8] h)):PI (zHn s) K 5 [v3,v5,v6,v7,v8] h:=zB H
theorem zXl (H :
 K .ret [v5] h):PI (zHn s) K 6 [v5] h:=zB H
theorem zXk (H :
 EvO (zC E .add 3 v8 (.int .i64 1)) fun x0=>
 PI (zHn s) K 3 [v3,v6,v7,x0] h):PI (zHn s) K 7 [v3,v6,v7,v8] h:=zB H
theorem zXj (H :
 K .ret [v3] h):PI (zHn s) K 8 [v3] h:=zB H
theorem zal (hok:h.ok) (hv:zg v=true) (H:PI (zHn s) (KR E [.tmp 2] fun x k=>x=v/\h.next<=k.wm) 0 [v0] h.fresh):(zW E).call 171 [v0] h=some [(v,h)]:=zAh Tryz.f171 hok hv (zz (zHn s) H)
noncomputable def B173:Code:=zc Tryz.f173
noncomputable def C173 (s:Bool):Cx:=⟨E,s,none,B173,[([0],[0,1]),([1,0],[0,1])],[4],[]⟩
theorem zXi (H :
 PI (C173 s) K 1 [v0,v1] h):PI (C173 s) K 0 [v0,v1] h:=zB H
theorem zXh (H :
 Ev s (zQ (zW E) (some (.func (.func 220) #[] #[])) [v0,v1] h) fun x2=>
 EvO (zC E .geq 3 x2.1 (.int .i64 0)) fun x3=>
 K .ret [x3] x2.2):PI (C173 s) K 1 [v0,v1] h:=zB H
theorem zak (hok:h.ok) (hv:zg v=true) (H:PI (C173 s) (KR E [.tmp 4] fun x k=>x=v/\h.next<=k.wm) 0 [v0,v1] h.fresh):(zW E).call 173 [v0,v1] h=some [(v,h)]:=zAh Tryz.f173 hok hv (zz (C173 s) H)
noncomputable def B174:Code:=zc Tryz.f174
noncomputable def C174 (s:Bool):Cx:=⟨E,s,none,B174,[([0],[0,1,2]),([1,0],[1,2,3])],[4],[]⟩
theorem zXg (H :
 Ev s (zX 134 h v0) fun x0=>
 PI (C174 s) K 1 [v1,v2,x0.1] x0.2):PI (C174 s) K 0 [v0,v1,v2] h:=zB H
theorem zXf (H :
 EvO (zD E 134 0 v3) fun x0=>
 EvO (zH E 3 h x0) fun x1=>
 EvO (zD E 134 0 v1) fun x2=>
 EvO (zH E 3 h x2) fun x3=>
 EvO (zC E .eql 3 x1 x3) fun x4=>
 EvO (gdB x4 true (zD E 178 0 v2)) fun x6=>
 EvO (gdB x4 true (zH E 176 h x6)) fun x7=>
 EvO (gdB x4 true (zD E 134 1 v1)) fun x8=>
 EvO (gdB x4 true (zH E 3 h x8)) fun x9=>
 EvO (gdB x4 true (zD E 134 1 v3)) fun x10=>
 EvO (gdB x4 true (zH E 3 h x10)) fun x11=>
 Ev s (gdW x4 true (zQ (zW E) (some (.func (.func 123) #[] #[])) [x7,x9,x11] h) h) fun x12=>
 EvO (z7 x4 x12.1 (some (.bool false))) fun x13=>
 K .ret [x13] x12.2):PI (C174 s) K 1 [v1,v2,v3] h:=zB H
theorem zaj (hok:h.ok) (hv:zg v=true) (H:PI (C174 s) (KR E [.tmp 4] fun x k=>x=v/\h.next<=k.wm) 0 [v0,v1,v2] h.fresh):(zW E).call 174 [v0,v1,v2] h=some [(v,h)]:=zAh Tryz.f174 hok hv (zz (C174 s) H)
noncomputable def B178:Code:=zc Tryz.f178
noncomputable def C178 (s:Bool):Cx:=⟨E,s,none,B178,[([0],[0,1]),([1,0],[2,3])],[4],[]⟩
theorem zXe (H :
 Ev s (zX 128 h v0) fun x0=>
 Ev s (zX 3 x0.2 v1) fun x1=>
 PI (C178 s) K 1 [x0.1,x1.1] x1.2):PI (C178 s) K 0 [v0,v1] h:=zB H
theorem zXd (H :
 EvO (zAt (.func 222) (some []) [v3,v2]) fun x0=>
 K .ret [x0] h):PI (C178 s) K 1 [v2,v3] h:=zB H
theorem zai (H:PI (C178 true) (KR E [.tmp 4] fun x k=>(zh x=false\/k.wm<h.next)/\Rp x ⟨k.t,k.next,cond (Nat.ble h.wm k.wm) h.wm k.wm⟩) 0 [v0,v1] h.fresh):Ev true ((zW E).call 178 [v0,v1] h) fun x=>Rp x.1 x.2:=zFb Tryz.f178 (zz (C178 true) H)
noncomputable def zfn:Code:=zc Tryz.f190
noncomputable def zHc (s:Bool):Cx:=⟨E,s,none,zfn,[([0],[0,1,2]),([1,0],[0,2,4]),([1,1,0],[0,2,4,8]),([1,1,1,0,0,0,0,0],[0,2,4,8,9,10]),([1,1,1,0,0,0,1,0,0],[0,2,4,8,9,10]),([1,1,1,0,0,0,1,0,1,0],[0,2,4,8,9,10,11]),([1,1,1,0,0,0,1,0,1,1,0],[0,2,4,8,10,11]),([1,1,1,0,0,0,1,0,1,1,1],[0,2,4,8,9,11]),([1,1,1,1,0],[0,2,4,8,9])],[6,7],[]⟩
abbrev P190_3 (s:Bool) (K:KF) (v0 v2 v4 v8 v9 v10:Value) (h:AH):Prop:=PI (zHc s) K 3 [v0,v2,v4,v8,v9,v10] h
theorem zXT (H :
 Ev s (zX 36 h v1) fun x0=>
 PI (zHc s) K 1 [v0,v2,x0.1] x0.2):PI (zHc s) K 0 [v0,v1,v2] h:=zB H
theorem zXS (H :
 EvO (zO E (zl [(12,v0)]) (zn zfn [1,0] 1) h) fun x1=>
 PI (zHc s) K 2 [v0,v2,v4,x1] h):PI (zHc s) K 1 [v0,v2,v4] h:=zB H
theorem zPU:zO E (zl [(12,.slice a n c)]) (zn zfn [1,0] 1) h=some (.int .i64 (n:Int)):=by cases a <;> kernel_rfl
theorem zXR (H :
 PI (zHc s) K 3 [v0,v2,v4,v8,(.int .i64 0),v8] h):PI (zHc s) K 2 [v0,v2,v4,v8] h:=zB H
theorem zLI (H :
 EvO (zC E .lss 3 v9 v10) fun x2=>
 BrK x2 (PI (zHc s) K 4 [v0,v2,v4,v8,v9,v10] h) (PI (zHc s) K 8 [v0,v2,v4,v8,v9] h)):PI (zHc s) K 3 [v0,v2,v4,v8,v9,v10] h:=zB H
theorem zXQ (H :
 EvO (zC E .add 3 v9 v10) fun x2=>
 EvO (zO E (zl [(20,x2)]) (zn zfn [1,1,1,0,0,0,1,0,0] 3) h) fun x3=>
 EvO (zi E (zl [(21,x3)]) (zn zfn [1,1,1,0,0,0,1,0,0] 4)) fun x4=>
 EvO (zO E (zl [(22,x4)]) (zn zfn [1,1,1,0,0,0,1,0,0] 5) h) fun x5=>
 PI (zHc s) K 5 [v0,v2,v4,v8,v9,v10,x5] h):PI (zHc s) K 4 [v0,v2,v4,v8,v9,v10] h:=zB H
theorem zXP (H :
 EvO (zE E 22 v0 v11) fun x3=>
 EvO (zH E 36 h x3) fun x4=>
 EvO (zH E 36 h v4) fun x5=>
 Ev s (zQ (zW E) v2 [x4,x5] h) fun x6=>
 EvO (zC E .lss 3 x6.1 (.int .i64 0)) fun x7=>
 BrK x7 (PI (zHc s) K 6 [v0,v2,v4,v8,v10,v11] x6.2) (PI (zHc s) K 7 [v0,v2,v4,v8,v9,v11] x6.2)):PI (zHc s) K 5 [v0,v2,v4,v8,v9,v10,v11] h:=zB H
theorem zXO (H :
 EvO (zC E .add 3 v11 (.int .i64 1)) fun x1=>
 PI (zHc s) K 3 [v0,v2,v4,v8,x1,v10] h):PI (zHc s) K 6 [v0,v2,v4,v8,v10,v11] h:=zB H
theorem zXN (H :
 PI (zHc s) K 3 [v0,v2,v4,v8,v9,v11] h):PI (zHc s) K 7 [v0,v2,v4,v8,v9,v11] h:=zB H
def zTv (s:Bool) (K:KF) (v0 v2 v4 v8 v9:Value) (h:AH):Prop:=
 EvO (zC E .lss 3 v9 v8) fun x3=>
 EvO (gdB x3 true v2) fun x5=>
 EvO (gdB x3 true v0) fun x6=>
 EvO (gdB x3 true v9) fun x7=>
 EvO (gdB x3 true (zE E 22 x6 x7)) fun x8=>
 EvO (gdB x3 true (zH E 36 h x8)) fun x9=>
 EvO (gdB x3 true (zH E 36 h v4)) fun x10=>
 Ev s (gdW x3 true (zQ (zW E) x5 [x9,x10] h) h) fun x11=>
 EvO (gdB x3 true (zC E .eql 3 x11.1 (.int .i64 0))) fun x12=>
 EvO (z7 x3 x12 (some (.bool false))) fun x13=>
 K .ret [v9,x13] x11.2
theorem zLH (H:zTv s K v0 v2 v4 v8 v9 h):PI (zHc s) K 8 [v0,v2,v4,v8,v9] h:=zB H
theorem zQ2 {Rp:Value->Prop} (hok:h.ok) (H:PI (zHc true) (KR E [.tmp 6,.tmp 7] fun x k=>(zh x=true/\Rp x)/\h.next<=k.wm) 0 [v0,v1,v2] h.fresh):∃ v,Rp v/\(zW E).call 190 [v0,v1,v2] h=some [(v,h)]:=zCy Tryz.f190 hok (zz (zHc true) H)
noncomputable def B191:Code:=zc Tryz.f191
noncomputable def zJs (s:Bool):Cx:=⟨E,s,none,B191,[([0],[0,1,2]),([1,0],[0,1,2]),([1,1,0],[0,1,2]),([1,1,1,0,0],[0,1,2,7]),([1,1,1,0,1,0,0],[0]),([1,1,1,1,0],[0,1,2,7]),([1,1,1,1,1,0,0],[0,1,2,7,8]),([1,1,1,1,1,0,1,0,0],[0,2]),([1,1,1,1,1,1,0,0],[0,1,2,7,8]),([1,1,1,1,1,1,0,1,0,0],[0,1,2,7,8]),([1,1,1,1,1,1,0,1,0,1,0],[0,1,2,7,9]),([1,1,1,1,1,1,0,1,0,1,1,0],[0,1,7,9]),([1,1,1,1,1,1,0,1,0,1,1,1,0],[9]),([1,1,1,1,1,1,1,0],[0,1,2,7,8]),([1,1,1,1,1,1,1,1,0,0],[0,1,2,7,8]),([1,1,1,1,1,1,1,1,0,1,0,0],[0,1,2,7]),([1,1,1,1,1,1,1,1,0,1,0,1,0],[0,1,2]),([1,1,1,1,1,1,1,1,0,1,0,1,1,0],[0]),([1,1,1,1,1,1,1,1,1,0],[0,1,2,7,8]),([1,1,1,1,1,1,1,1,1,1,0],[0,1,7]),([1,1,1,1,1,1,1,1,1,1,1,0],[0])],[6],[]⟩
abbrev P191_0 (s:Bool) (K:KF) (v0 v1 v2:Value) (h:AH):Prop:=PI (zJs s) K 0 [v0,v1,v2] h
theorem zXM (H :
 PI (zJs s) K 1 [v0,v1,v2] h):PI (zJs s) K 0 [v0,v1,v2] h:=zB H
theorem zXL (H :
 EvO (zi E (zl [(10,v0),(11,v1)]) (zn B191 [1,0] 2)) fun x2=>
 PI (zJs s) K 2 [v0,v1,v2] h):PI (zJs s) K 1 [v0,v1,v2] h:=zB H
theorem zXK (H :
 EvO (zO E (zl [(13,v2)]) (zn B191 [1,1,0] 1) h) fun x1=>
 PI (zJs s) K 3 [v0,v1,v2,x1] h):PI (zJs s) K 2 [v0,v1,v2] h:=zB H
theorem zPT:zO E (zl [(13,.slice a n c)]) (zn B191 [1,1,0] 1) h=some (.int .i64 (n:Int)):=by cases a <;> kernel_rfl
theorem zXJ (H :
 EvO (zC E .eql 3 v7 (.int .i64 0)) fun x1=>
 BrK x1 (PI (zJs s) K 4 [v0] h) (PI (zJs s) K 5 [v0,v1,v2,v7] h)):PI (zJs s) K 3 [v0,v1,v2,v7] h:=zB H
theorem zXI (H :
 EvO (zO E (zl [(18,v0)]) (zn B191 [1,1,1,1,0] 1) h) fun x1=>
 PI (zJs s) K 6 [v0,v1,v2,v7,x1] h):PI (zJs s) K 5 [v0,v1,v2,v7] h:=zB H
theorem zPS:zO E (zl [(18,.slice a n c)]) (zn B191 [1,1,1,1,0] 1) h=some (.int .i64 (n:Int)):=by cases a <;> kernel_rfl
theorem zXH (H :
 EvO (zC E .eql 3 v1 v8) fun x2=>
 BrK x2 (PI (zJs s) K 7 [v0,v2] h) (PI (zJs s) K 8 [v0,v1,v2,v7,v8] h)):PI (zJs s) K 6 [v0,v1,v2,v7,v8] h:=zB H
theorem zXG (H :
 Ev s (zAD E .append [22,22] [v0,v2] h) fun x2=>
 K .ret [x2.1] x2.2):PI (zJs s) K 7 [v0,v2] h:=zB H
theorem F191_ev (H:PI (zJs s) (KR E [.tmp 6] Rp) 0 [v0,v1,v2] h):EvC E s Tryz.f191 [v0,v1,v2] h Rp:=zz (zJs s) H
theorem zOv:E.tab.fn.get 191=some Tryz.f191:=by kernel_rfl
theorem zLl:Tryz.f191.body=some B191:=by kernel_rfl
noncomputable def B215:Code:=zc Tryz.f215
noncomputable def C215 (s:Bool):Cx:=⟨E,s,none,B215,[([0],[0,1]),([1,0],[0,1])],[4],[]⟩
theorem zWv (H :
 PI (C215 s) K 1 [v0,v1] h):PI (C215 s) K 0 [v0,v1] h:=zB H
theorem zWu (H :
 Ev s (zQ (zW E) (some (.func (.func 243) #[] #[])) [v0,v1] h) fun x2=>
 EvO (zC E .geq 3 x2.1 (.int .i64 0)) fun x3=>
 K .ret [x3] x2.2):PI (C215 s) K 1 [v0,v1] h:=zB H
theorem zac (hok:h.ok) (hv:zg v=true) (H:PI (C215 s) (KR E [.tmp 4] fun x k=>x=v/\h.next<=k.wm) 0 [v0,v1] h.fresh):(zW E).call 215 [v0,v1] h=some [(v,h)]:=zAh Tryz.f215 hok hv (zz (C215 s) H)
noncomputable def B216:Code:=zc Tryz.f216
noncomputable def C216 (s:Bool):Cx:=⟨E,s,none,B216,[([0],[0]),([1,0],[1])],[2],[]⟩
theorem zWt (H :
 Ev s (zX 173 h v0) fun x0=>
 PI (C216 s) K 1 [x0.1] x0.2):PI (C216 s) K 0 [v0] h:=zB H
theorem zWs (H :
 EvO (zH E 173 h v1) fun x0=>
 Ev s (zQ (zW E) (some (.func (.func 217) #[] #[])) [x0] h) fun x1=>
 EvO (zAQ .not x1.1) fun x2=>
 K .ret [x2] x1.2):PI (C216 s) K 1 [v1] h:=zB H
theorem zab (hok:h.ok) (hv:zg v=true) (H:PI (C216 s) (KR E [.tmp 2] fun x k=>x=v/\h.next<=k.wm) 0 [v0] h.fresh):(zW E).call 216 [v0] h=some [(v,h)]:=zAh Tryz.f216 hok hv (zz (C216 s) H)
noncomputable def B217:Code:=zc Tryz.f217
noncomputable def zNF (s:Bool):Cx:=⟨E,s,none,B217,[([0],[0]),([1,0,0],[1]),([1,0,1,0],[1,3]),([1,0,1,1,0,0],[]),([1,1,0],[1]),([1,1,1,0],[1,5]),([1,1,1,1,0],[1,5])],[2],[]⟩
theorem zWr (H :
 Ev s (zX 173 h v0) fun x0=>
 PI (zNF s) K 1 [x0.1] x0.2):PI (zNF s) K 0 [v0] h:=zB H
theorem zWq (H :
 EvO (zH E 173 h v1) fun x0=>
 Ev s (zQ (zW E) (some (.func (.func 244) #[] #[])) [x0] h) fun x1=>
 EvO (z6 0 x1.1) fun x3=>
 EvO (z6 1 x1.1) fun x4=>
 PI (zNF s) K 2 [v1,x3] x1.2):PI (zNF s) K 1 [v1] h:=zB H
theorem zWp (H :
 EvO (zC E .gtr 3 v3 (.int .i64 2000)) fun x1=>
 BrK x1 (PI (zNF s) K 3 [] h) (PI (zNF s) K 4 [v1] h)):PI (zNF s) K 2 [v1,v3] h:=zB H
theorem zWo (H :
 K .ret [(.bool false)] h):PI (zNF s) K 3 [] h:=zB H
theorem zWn (H :
 Ev s (zX 247 h (zAG E 247)) fun x0=>
 PI (zNF s) K 5 [v1,x0.1] x0.2):PI (zNF s) K 4 [v1] h:=zB H
theorem zWm (H :
 EvO (zAt (.func 245) (some []) [v5]) fun x0=>
 Ev s (ze E 247 h v5 x0) fun x1=>
 PI (zNF s) K 6 [v1,v5] x1.2):PI (zNF s) K 5 [v1,v5] h:=zB H
theorem zWl (H :
 EvO (zH E 247 h v5) fun x0=>
 EvO (zH E 173 h v1) fun x1=>
 Ev s (zQ (zW E) x0 [x1] h) fun x2=>
 K .ret [x2.1] x2.2):PI (zNF s) K 6 [v1,v5] h:=zB H
theorem zaa (hok:h.ok) (hv:zg v=true) (H:PI (zNF s) (KR E [.tmp 2] fun x k=>x=v/\h.next<=k.wm) 0 [v0] h.fresh):(zW E).call 217 [v0] h=some [(v,h)]:=zAh Tryz.f217 hok hv (zz (zNF s) H)
noncomputable def B218:Code:=zc Tryz.f218
noncomputable def C218 (s:Bool):Cx:=⟨E,s,none,B218,[([0],[0,1,2]),([1,0],[0,1,2])],[6],[]⟩
theorem zWk (H :
 PI (C218 s) K 1 [v0,v1,v2] h):PI (C218 s) K 0 [v0,v1,v2] h:=zB H
theorem zWj (H :
 Ev s (zQ (zW E) (some (.func (.func 247) #[] #[])) [v0,v1,v2] h) fun x3=>
 K .ret [x3.1] x3.2):PI (C218 s) K 1 [v0,v1,v2] h:=zB H
theorem zaZ (hok:h.ok) (hv:zg v=true) (H:PI (C218 s) (KR E [.tmp 6] fun x k=>x=v/\h.next<=k.wm) 0 [v0,v1,v2] h.fresh):(zW E).call 218 [v0,v1,v2] h=some [(v,h)]:=zAh Tryz.f218 hok hv (zz (C218 s) H)
noncomputable def zfm:Code:=zc Tryz.f219
noncomputable def zQ9 (s:Bool):Cx:=⟨E,s,none,zfm,[([0],[0,1]),([1,0,0],[2,3]),([1,0,1,0],[2,3,5]),([1,0,1,1,0,0],[5]),([1,1,0],[2,3])],[4],[]⟩
abbrev P219_3 (s:Bool) (K:KF) (v5:Value) (h:AH):Prop:=PI (zQ9 s) K 3 [v5] h
abbrev P219_4 (s:Bool) (K:KF) (v2 v3:Value) (h:AH):Prop:=PI (zQ9 s) K 4 [v2,v3] h
theorem zWi (H :
 Ev s (zX 173 h v0) fun x0=>
 Ev s (zX 173 x0.2 v1) fun x1=>
 PI (zQ9 s) K 1 [x0.1,x1.1] x1.2):PI (zQ9 s) K 0 [v0,v1] h:=zB H
theorem zWh (H :
 EvO (zD E 173 0 v2) fun x0=>
 EvO (zH E 3 h x0) fun x1=>
 EvO (zD E 173 0 v3) fun x2=>
 EvO (zH E 3 h x2) fun x3=>
 EvO (zD E 173 1 v2) fun x5=>
 EvO (zH E 3 h x5) fun x6=>
 EvO (zD E 173 1 v3) fun x7=>
 EvO (zH E 3 h x7) fun x8=>
 EvO (zD E 173 2 v2) fun x10=>
 EvO (zH E 34 h x10) fun x11=>
 EvO (zO E (zl [(17,x11)]) (zn zfm [1,0,0] 12) h) fun x12=>
 EvO (zD E 173 2 v3) fun x13=>
 EvO (zH E 34 h x13) fun x14=>
 EvO (zO E (zl [(20,x14)]) (zn zfm [1,0,0] 15) h) fun x15=>
 Ev s (zQ (zW E) (some (.func (.func 94) #[] #[])) [x1,x3] h) fun x4=>
 EvO (zO E (zl [(20,x14)]) (zn zfm [1,0,0] 15) x4.2) fun u4_15=>veq 100 u4_15 x15=true ∧
 (EvO (zH E 34 x4.2 x13) fun u4_14=>veq 100 u4_14 x14=true ∧
 (EvO (zO E (zl [(17,x11)]) (zn zfm [1,0,0] 12) x4.2) fun u4_12=>veq 100 u4_12 x12=true ∧
 (EvO (zH E 34 x4.2 x10) fun u4_11=>veq 100 u4_11 x11=true ∧
 (EvO (zH E 3 x4.2 x7) fun u4_8=>veq 100 u4_8 x8=true ∧
 (EvO (zH E 3 x4.2 x5) fun u4_6=>veq 100 u4_6 x6=true ∧
 (Ev s (zQ (zW E) (some (.func (.func 94) #[] #[])) [x6,x8] x4.2) fun x9=>
 EvO (zO E (zl [(20,x14)]) (zn zfm [1,0,0] 15) x9.2) fun u9_15=>veq 100 u9_15 x15=true ∧
 (EvO (zH E 34 x9.2 x13) fun u9_14=>veq 100 u9_14 x14=true ∧
 (EvO (zO E (zl [(17,x11)]) (zn zfm [1,0,0] 12) x9.2) fun u9_12=>veq 100 u9_12 x12=true ∧
 (EvO (zH E 34 x9.2 x10) fun u9_11=>veq 100 u9_11 x11=true ∧
 (Ev s (zQ (zW E) (some (.func (.func 94) #[] #[])) [x12,x15] x9.2) fun x16=>
 Ev s (zf E 47 3 (some [(0,x4.1),(1,x9.1),(2,x16.1)]) x16.2) fun x17=>
 Ev s (zQ (zW E) (some (.func (.func 171) #[] #[])) [x17.1] x17.2) fun x18=>
 PI (zQ9 s) K 2 [v2,v3,x18.1] x18.2))))))))))):PI (zQ9 s) K 1 [v2,v3] h:=zB H
theorem zMN:zO E (zl [(17,.slice a n c)]) (zn zfm [1,0,0] 12) h=some (.int .i64 (n:Int)):=by cases a <;> kernel_rfl
theorem zMM:zO E (zl [(20,.slice a n c)]) (zn zfm [1,0,0] 15) h=some (.int .i64 (n:Int)):=by cases a <;> kernel_rfl
theorem zWg (H :
 EvO (zC E .neq 3 v5 (.int .i64 0)) fun x1=>
 BrK x1 (PI (zQ9 s) K 3 [v5] h) (PI (zQ9 s) K 4 [v2,v3] h)):PI (zQ9 s) K 2 [v2,v3,v5] h:=zB H
theorem zWf (H :
 K .ret [v5] h):PI (zQ9 s) K 3 [v5] h:=zB H
theorem zWe (H :
 EvO (zD E 173 2 v2) fun x0=>
 EvO (zH E 34 h x0) fun x1=>
 EvO (zD E 173 2 v3) fun x2=>
 EvO (zH E 34 h x2) fun x3=>
 Ev s (zQ (zW E) (some (.func (.func 247) #[] #[])) (some [x1,x3,(.func (.func 219) #[] #[])]) h) fun x4=>
 K .ret [x4.1] x4.2):PI (zQ9 s) K 4 [v2,v3] h:=zB H
theorem zaY (hok:h.ok) (hv:zg v=true) (H:PI (zQ9 s) (KR E [.tmp 4] fun x k=>x=v/\h.next<=k.wm) 0 [v0,v1] h.fresh):(zW E).call 219 [v0,v1] h=some [(v,h)]:=zAh Tryz.f219 hok hv (zz (zQ9 s) H)
noncomputable def B220:Code:=zc Tryz.f220
noncomputable def zJo (s:Bool):Cx:=⟨E,s,none,B220,[([0],[0,1]),([1,0,0],[0,1]),([1,0,1,0,0,0],[0,1,7,8]),([1,0,1,0,0,1,1,0,0,0],[0,1,7,8]),([1,0,1,0,0,1,1,0,0,1,0],[0,1,5,7,8]),([1,0,1,0,0,1,1,0,0,1,1,0,0],[5]),([1,0,1,0,0,1,1,1],[0,1,7,8]),([1,1,0],[])],[4],[]⟩
abbrev P220_2 (s:Bool) (K:KF) (v0 v1 v7 v8:Value) (h:AH):Prop:=PI (zJo s) K 2 [v0,v1,v7,v8] h
theorem zWd (H :
 PI (zJo s) K 1 [v0,v1] h):PI (zJo s) K 0 [v0,v1] h:=zB H
theorem zWc (H :
 EvO (zO E (zl [(6,v0)]) (zn B220 [1,0,0] 1) h) fun x1=>
 PI (zJo s) K 2 [v0,v1,x1,(.int .i64 0)] h):PI (zJo s) K 1 [v0,v1] h:=zB H
theorem zIC:zO E (zl [(6,.slice a n c)]) (zn B220 [1,0,0] 1) h=some (.int .i64 (n:Int)):=by cases a <;> kernel_rfl
theorem zLE (H :
 EvO (zC E .lss 3 v8 v7) fun x0=>
 BrK x0 (PI (zJo s) K 3 [v0,v1,v7,v8] h) (PI (zJo s) K 7 [] h)):PI (zJo s) K 2 [v0,v1,v7,v8] h:=zB H
theorem zWb (H :
 PI (zJo s) K 4 [v0,v1,v8,v7,v8] h):PI (zJo s) K 3 [v0,v1,v7,v8] h:=zB H
theorem zWa (H :
 EvO (zE E 132 v0 v5) fun x3=>
 EvO (zH E 134 h x3) fun x4=>
 Ev s (zQ (zW E) v1 [x4] h) fun x5=>
 BrK x5.1 (PI (zJo s) K 5 [v5] x5.2) (PI (zJo s) K 6 [v0,v1,v7,v8] x5.2)):PI (zJo s) K 4 [v0,v1,v5,v7,v8] h:=zB H
theorem zWZ (H :
 K .ret [v5] h):PI (zJo s) K 5 [v5] h:=zB H
theorem zWY (H :
 EvO (zC E .add 3 v8 (.int .i64 1)) fun x0=>
 PI (zJo s) K 2 [v0,v1,v7,x0] h):PI (zJo s) K 6 [v0,v1,v7,v8] h:=zB H
theorem zWX (H :
 K .ret [(.int .i64 (-1))] h):PI (zJo s) K 7 [] h:=zB H
theorem zaX (hok:h.ok) (hv:zg v=true) (H:PI (zJo s) (KR E [.tmp 4] fun x k=>x=v/\h.next<=k.wm) 0 [v0,v1] h.fresh):(zW E).call 220 [v0,v1] h=some [(v,h)]:=zAh Tryz.f220 hok hv (zz (zJo s) H)
noncomputable def B243:Code:=zc Tryz.f243
noncomputable def zJn (s:Bool):Cx:=⟨E,s,none,B243,[([0],[0,1]),([1,0,0],[0,1]),([1,0,1,0,0,0],[0,1,7,8]),([1,0,1,0,0,1,1,0,0,0],[0,1,7,8]),([1,0,1,0,0,1,1,0,0,1,0],[0,1,5,7,8]),([1,0,1,0,0,1,1,0,0,1,1,0,0],[5]),([1,0,1,0,0,1,1,1],[0,1,7,8]),([1,1,0],[])],[4],[]⟩
abbrev P243_2 (s:Bool) (K:KF) (v0 v1 v7 v8:Value) (h:AH):Prop:=PI (zJn s) K 2 [v0,v1,v7,v8] h
theorem zV2 (H :
 PI (zJn s) K 1 [v0,v1] h):PI (zJn s) K 0 [v0,v1] h:=zB H
theorem zV1 (H :
 EvO (zO E (zl [(6,v0)]) (zn B243 [1,0,0] 1) h) fun x1=>
 PI (zJn s) K 2 [v0,v1,x1,(.int .i64 0)] h):PI (zJn s) K 1 [v0,v1] h:=zB H
theorem zIA:zO E (zl [(6,.slice a n c)]) (zn B243 [1,0,0] 1) h=some (.int .i64 (n:Int)):=by cases a <;> kernel_rfl
theorem zK8 (H :
 EvO (zC E .lss 3 v8 v7) fun x0=>
 BrK x0 (PI (zJn s) K 3 [v0,v1,v7,v8] h) (PI (zJn s) K 7 [] h)):PI (zJn s) K 2 [v0,v1,v7,v8] h:=zB H
theorem zV0 (H :
 PI (zJn s) K 4 [v0,v1,v8,v7,v8] h):PI (zJn s) K 3 [v0,v1,v7,v8] h:=zB H
theorem zVz (H :
 EvO (zE E 34 v0 v5) fun x3=>
 EvO (zH E 173 h x3) fun x4=>
 Ev s (zQ (zW E) v1 [x4] h) fun x5=>
 BrK x5.1 (PI (zJn s) K 5 [v5] x5.2) (PI (zJn s) K 6 [v0,v1,v7,v8] x5.2)):PI (zJn s) K 4 [v0,v1,v5,v7,v8] h:=zB H
theorem zVy (H :
 K .ret [v5] h):PI (zJn s) K 5 [v5] h:=zB H
theorem zVx (H :
 EvO (zC E .add 3 v8 (.int .i64 1)) fun x0=>
 PI (zJn s) K 2 [v0,v1,v7,x0] h):PI (zJn s) K 6 [v0,v1,v7,v8] h:=zB H
theorem zVw (H :
 K .ret [(.int .i64 (-1))] h):PI (zJn s) K 7 [] h:=zB H
theorem zaS (hok:h.ok) (hv:zg v=true) (H:PI (zJn s) (KR E [.tmp 4] fun x k=>x=v/\h.next<=k.wm) 0 [v0,v1] h.fresh):(zW E).call 243 [v0,v1] h=some [(v,h)]:=zAh Tryz.f243 hok hv (zz (zJn s) H)
noncomputable def B244:Code:=zc Tryz.f244
noncomputable def zQ6 (s:Bool):Cx:=⟨E,s,none,B244,[([0],[0]),([1,0],[1]),([1,1,0,0],[1,4]),([1,1,0,1,0],[4]),([1,1,0,1,1,0,0],[]),([1,1,1,0],[4])],[2,3],[]⟩
theorem zVv (H :
 Ev s (zX 173 h v0) fun x0=>
 PI (zQ6 s) K 1 [x0.1] x0.2):PI (zQ6 s) K 0 [v0] h:=zB H
theorem zVu (H :
 Ev s (zX 306 h (zAG E 306)) fun x0=>
 PI (zQ6 s) K 2 [v1,x0.1] x0.2):PI (zQ6 s) K 1 [v1] h:=zB H
theorem zVt (H :
 EvO (zH E 173 h v1) fun x0=>
 Ev s (zQ (zW E) (some (.func (.func 268) #[] #[])) (some [v4,x0,(.int .i64 1)]) h) fun x1=>
 PI (zQ6 s) K 3 [v4] x1.2):PI (zQ6 s) K 2 [v1,v4] h:=zB H
theorem zVs (H :
 Ev s (zQ (zW E) (some (.func (.func 269) #[] #[])) [v4] h) fun x0=>
 BrK x0.1 (PI (zQ6 s) K 4 [] x0.2) (PI (zQ6 s) K 5 [v4] x0.2)):PI (zQ6 s) K 3 [v4] h:=zB H
theorem zVr (H :
 K .ret [(.int .i64 2001),(.int .i64 201)] h):PI (zQ6 s) K 4 [] h:=zB H
theorem zVq (H :
 EvO (zD E 306 0 v4) fun x0=>
 EvO (zH E 3 h x0) fun x1=>
 EvO (zD E 306 1 v4) fun x2=>
 EvO (zH E 3 h x2) fun x3=>
 K .ret [x1,x3] h):PI (zQ6 s) K 5 [v4] h:=zB H
theorem zQx (hok:h.ok) (hv:zh v=true) (H:PI (zQ6 true) (KR E [.tmp 2,.tmp 3] fun x k=>x=v/\h.next<=k.wm) 0 [v0] h.fresh):(zW E).call 244 [v0] h=some [(v,h)]:=zGD Tryz.f244 hok hv (zz (zQ6 true) H)
noncomputable def B245:Code:=zc Tryz.f245
noncomputable def C245 (s:Bool):Cx:=⟨E,s,none,B245,[([0],[0,1]),([1,0],[1,2])],[3],[]⟩
theorem zVp (H :
 Ev s (zX 173 h v0) fun x0=>
 PI (C245 s) K 1 [v1,x0.1] x0.2):PI (C245 s) K 0 [v0,v1] h:=zB H
theorem zVo (H :
 EvO (zD E 173 0 v2) fun x0=>
 EvO (zH E 3 h x0) fun x1=>
 EvO (zC E .eql 3 x1 (.int .i64 2)) fun x2=>
 EvO (gdB x2 true (zD E 173 1 v2)) fun x4=>
 EvO (gdB x2 true (zH E 3 h x4)) fun x5=>
 EvO (gdB x2 true (zC E .geq 3 x5 (.int .i64 0))) fun x6=>
 EvO (z7 x2 x6 (some (.bool false))) fun x7=>
 EvO (gdB x7 true (zD E 173 1 v2)) fun x9=>
 EvO (gdB x7 true (zH E 3 h x9)) fun x10=>
 EvO (gdB x7 true (zC E .lss 3 x10 (.int .i64 256))) fun x11=>
 EvO (z7 x7 x11 (some (.bool false))) fun x12=>
 EvO (gdB x12 true (zD E 173 2 v2)) fun x14=>
 EvO (gdB x12 true (zH E 34 h x14)) fun x15=>
 EvO (gdB x12 true (zO E (zl [(19,x15)]) (zn B245 [1,0] 16) h)) fun x16=>
 EvO (gdB x12 true (zC E .leq 3 x16 (.int .i64 8))) fun x17=>
 EvO (z7 x12 x17 (some (.bool false))) fun x18=>
 EvO (gdB x18 true (zD E 173 2 v2)) fun x20=>
 EvO (gdB x18 true (zH E 34 h x20)) fun x21=>
 EvO (gdB x18 true (zAt (.func 246) (some []) [v1])) fun x22=>
 Ev s (gdW x18 true (zQ (zW E) (some (.func (.func 215) #[] #[])) [x21,x22] h) h) fun x23=>
 EvO (gdB x18 true (zAQ .not x23.1)) fun x24=>
 EvO (z7 x18 x24 (some (.bool false))) fun x25=>
 K .ret [x25] x23.2):PI (C245 s) K 1 [v1,v2] h:=zB H
theorem zHB:zO E (zl [(19,.slice a n c)]) (zn B245 [1,0] 16) h=some (.int .i64 (n:Int)):=by cases a <;> kernel_rfl
theorem zaR (hok:h.ok) (hv:zg v=true) (H:PI (C245 s) (KR E [.tmp 3] fun x k=>x=v/\h.next<=k.wm) 0 [v0,v1] h.fresh):(zW E).call 245 [v0,v1] h=some [(v,h)]:=zAh Tryz.f245 hok hv (zz (C245 s) H)
noncomputable def B246:Code:=zc Tryz.f246
noncomputable def C246 (s:Bool):Cx:=⟨E,s,none,B246,[([0],[0,1]),([1,0],[1,2])],[3],[]⟩
theorem zVn (H :
 Ev s (zX 173 h v0) fun x0=>
 PI (C246 s) K 1 [v1,x0.1] x0.2):PI (C246 s) K 0 [v0,v1] h:=zB H
theorem zVm (H :
 EvO (zH E 247 h v1) fun x0=>
 EvO (zH E 173 h v2) fun x1=>
 Ev s (zQ (zW E) x0 [x1] h) fun x2=>
 EvO (zAQ .not x2.1) fun x3=>
 K .ret [x3] x2.2):PI (C246 s) K 1 [v1,v2] h:=zB H
theorem zaQ (hok:h.ok) (hv:zg v=true) (H:PI (C246 s) (KR E [.tmp 3] fun x k=>x=v/\h.next<=k.wm) 0 [v0,v1] h.fresh):(zW E).call 246 [v0,v1] h=some [(v,h)]:=zAh Tryz.f246 hok hv (zz (C246 s) H)
noncomputable def zfl:Code:=zc Tryz.f247
noncomputable def zEu (s:Bool):Cx:=⟨E,s,none,zfl,[([0],[0,1,2]),([1,0,0],[0,1,2]),([1,0,1,0,0,0],[0,1,2,11,12,13]),([1,0,1,0,0,1,1,0,0,0],[0,1,2,11,12,13]),([1,0,1,0,0,1,1,0,0,1,0,0],[0,1,2,7,8,11,12,13]),([1,0,1,0,0,1,1,0,0,1,0,1,0,0],[]),([1,0,1,0,0,1,1,0,0,1,1,0],[0,1,2,7,8,11,12,13]),([1,0,1,0,0,1,1,0,0,1,1,1,0],[0,1,2,8,9,11,12,13]),([1,0,1,0,0,1,1,0,0,1,1,1,1,0],[0,1,2,10,11,12,13]),([1,0,1,0,0,1,1,0,0,1,1,1,1,1,0,0],[10]),([1,0,1,0,0,1,1,1],[0,1,2,11,12,13]),([1,1,0,0],[0,1]),([1,1,0,1,0,0],[]),([1,1,1,0],[])],[6],[]⟩
abbrev P247_2 (s:Bool) (K:KF) (v0 v1 v2 v11 v12 v13:Value) (h:AH):Prop:=PI (zEu s) K 2 [v0,v1,v2,v11,v12,v13] h
theorem zVl (H :
 PI (zEu s) K 1 [v0,v1,v2] h):PI (zEu s) K 0 [v0,v1,v2] h:=zB H
theorem zVk (H :
 EvO (zO E (zl [(11,v0)]) (zn zfl [1,0,0] 1) h) fun x1=>
 PI (zEu s) K 2 [v0,v1,v2,v0,x1,(.int .i64 0)] h):PI (zEu s) K 1 [v0,v1,v2] h:=zB H
theorem zPR:zO E (zl [(11,.slice a n c)]) (zn zfl [1,0,0] 1) h=some (.int .i64 (n:Int)):=by cases a <;> kernel_rfl
theorem zK7 (H :
 EvO (zC E .lss 3 v13 v12) fun x0=>
 BrK x0 (PI (zEu s) K 3 [v0,v1,v2,v11,v12,v13] h) (PI (zEu s) K 11 [v0,v1] h)):PI (zEu s) K 2 [v0,v1,v2,v11,v12,v13] h:=zB H
theorem zVj (H :
 EvO (zE E 34 v11 v13) fun x1=>
 EvO (zH E 173 h x1) fun x2=>
 Ev s (zX 173 h (zAG E 173)) fun x3=>
 Ev s (ze E 173 x3.2 x3.1 x2) fun x5=>
 PI (zEu s) K 4 [v0,v1,v2,v13,x3.1,v11,v12,v13] x5.2):PI (zEu s) K 3 [v0,v1,v2,v11,v12,v13] h:=zB H
theorem zVi (H :
 EvO (zO E (zl [(19,v1)]) (zn zfl [1,0,1,0,0,1,1,0,0,1,0,0] 2) h) fun x2=>
 EvO (zC E .geq 3 v7 x2) fun x3=>
 BrK x3 (PI (zEu s) K 5 [] h) (PI (zEu s) K 6 [v0,v1,v2,v7,v8,v11,v12,v13] h)):PI (zEu s) K 4 [v0,v1,v2,v7,v8,v11,v12,v13] h:=zB H
theorem zPQ:zO E (zl [(19,.slice a n c)]) (zn zfl [1,0,1,0,0,1,1,0,0,1,0,0] 2) h=some (.int .i64 (n:Int)):=by cases a <;> kernel_rfl
theorem zVh (H :
 K .ret [(.int .i64 1)] h):PI (zEu s) K 5 [] h:=zB H
theorem zVg (H :
 EvO (zE E 34 v1 v7) fun x2=>
 EvO (zH E 173 h x2) fun x3=>
 Ev s (zX 173 h (zAG E 173)) fun x4=>
 Ev s (ze E 173 x4.2 x4.1 x3) fun x5=>
 PI (zEu s) K 7 [v0,v1,v2,v8,x4.1,v11,v12,v13] x5.2):PI (zEu s) K 6 [v0,v1,v2,v7,v8,v11,v12,v13] h:=zB H
theorem zVf (H :
 EvO (zH E 173 h v8) fun x1=>
 EvO (zH E 173 h v9) fun x2=>
 Ev s (zQ (zW E) v2 [x1,x2] h) fun x3=>
 PI (zEu s) K 8 [v0,v1,v2,x3.1,v11,v12,v13] x3.2):PI (zEu s) K 7 [v0,v1,v2,v8,v9,v11,v12,v13] h:=zB H
theorem zVe (H :
 EvO (zC E .neq 3 v10 (.int .i64 0)) fun x1=>
 BrK x1 (PI (zEu s) K 9 [v10] h) (PI (zEu s) K 10 [v0,v1,v2,v11,v12,v13] h)):PI (zEu s) K 8 [v0,v1,v2,v10,v11,v12,v13] h:=zB H
theorem zVd (H :
 K .ret [v10] h):PI (zEu s) K 9 [v10] h:=zB H
theorem zP2 (H :
 EvO (zC E .add 3 v13 (.int .i64 1)) fun x0=>
 PI (zEu s) K 2 [v0,v1,v2,v11,v12,x0] h):PI (zEu s) K 10 [v0,v1,v2,v11,v12,v13] h:=zB H
theorem zP1 (H :
 EvO (zO E (zl [(34,v0)]) (zn zfl [1,1,0,0] 1) h) fun x1=>
 EvO (zO E (zl [(36,v1)]) (zn zfl [1,1,0,0] 3) h) fun x3=>
 EvO (zC E .lss 3 x1 x3) fun x4=>
 BrK x4 (PI (zEu s) K 12 [] h) (PI (zEu s) K 13 [] h)):PI (zEu s) K 11 [v0,v1] h:=zB H
theorem zMJ:zO E (zl [(34,.slice a n c)]) (zn zfl [1,1,0,0] 1) h=some (.int .i64 (n:Int)):=by cases a <;> kernel_rfl
theorem zMI:zO E (zl [(36,.slice a n c)]) (zn zfl [1,1,0,0] 3) h=some (.int .i64 (n:Int)):=by cases a <;> kernel_rfl
theorem zP0 (H :
 K .ret [(.int .i64 (-1))] h):PI (zEu s) K 12 [] h:=zB H
theorem zPz (H :
 K .ret [(.int .i64 0)] h):PI (zEu s) K 13 [] h:=zB H
theorem zaP (hok:h.ok) (hv:zg v=true) (H:PI (zEu s) (KR E [.tmp 6] fun x k=>x=v/\h.next<=k.wm) 0 [v0,v1,v2] h.fresh):(zW E).call 247 [v0,v1,v2] h=some [(v,h)]:=zAh Tryz.f247 hok hv (zz (zEu s) H)
noncomputable def B268:Code:=zc Tryz.f268
noncomputable def zHb (s:Bool):Cx:=⟨E,s,none,B268,[([0],[0,1,2]),([1,0],[0,2,4]),([1,1,0],[0,2,4]),([1,1,1,0],[0,2,4]),([1,1,1,1,0,0,0],[0,2,25,26,27]),([1,1,1,1,0,0,1,1,0,0,0],[0,2,25,26,27]),([1,1,1,1,0,0,1,1,0,0,1,0,0],[0,2,7,25,26,27]),([1,1,1,1,0,0,1,1,0,0,1,1],[0,2,7,25,26,27]),([1,1,1,1,0,0,1,1,1],[0,2,25,26,27])],[],[]⟩
abbrev P268_4 (s:Bool) (K:KF) (v0 v2 v25 v26 v27:Value) (h:AH):Prop:=PI (zHb s) K 4 [v0,v2,v25,v26,v27] h
abbrev P268_7 (s:Bool) (K:KF) (v0 v2 v7 v25 v26 v27:Value) (h:AH):Prop:=PI (zHb s) K 7 [v0,v2,v7,v25,v26,v27] h
theorem zVZ (H :
 Ev s (zX 173 h v1) fun x0=>
 PI (zHb s) K 1 [v0,v2,x0.1] x0.2):PI (zHb s) K 0 [v0,v1,v2] h:=zB H
theorem zVY (H :
 EvO (zq v0) fun x1=>
 EvO (zD E 306 0 x1) fun x2=>
 EvO (zH E 3 h x2) fun x3=>
 EvO (zC E .add 3 x3 (.int .i64 1)) fun x4=>
 EvO (zq v0) fun x5=>
 EvO (zD E 306 0 x5) fun x6=>
 Ev s (ze E 3 h x6 x4) fun x7=>
 PI (zHb s) K 2 [v0,v2,v4] x7.2):PI (zHb s) K 1 [v0,v2,v4] h:=zB H
theorem zVX (H :
 EvO (zq v0) fun x2=>
 EvO (zD E 306 1 x2) fun x3=>
 EvO (zH E 3 h x3) fun x4=>
 EvO (zO E (zl [(19,x4),(20,v2)]) (zn B268 [1,1,0] 6) h) fun x6=>
 EvO (zq v0) fun x7=>
 EvO (zD E 306 1 x7) fun x8=>
 Ev s (ze E 3 h x8 x6) fun x9=>
 PI (zHb s) K 3 [v0,v2,v4] x9.2):PI (zHb s) K 2 [v0,v2,v4] h:=zB H
theorem zVW (H :
 EvO (zD E 173 2 v4) fun x0=>
 EvO (zH E 34 h x0) fun x1=>
 EvO (zO E (zl [(25,x1)]) (zn B268 [1,1,1,0] 2) h) fun x2=>
 PI (zHb s) K 4 [v0,v2,x1,x2,(.int .i64 0)] h):PI (zHb s) K 3 [v0,v2,v4] h:=zB H
theorem zPP:zO E (zl [(25,.slice a n c)]) (zn B268 [1,1,1,0] 2) h=some (.int .i64 (n:Int)):=by cases a <;> kernel_rfl
theorem zVV (H :
 EvO (zC E .lss 3 v27 v26) fun x0=>
 BrK x0 (PI (zHb s) K 5 [v0,v2,v25,v26,v27] h) (K .normal [] h)):PI (zHb s) K 4 [v0,v2,v25,v26,v27] h:=zB H
theorem zVU (H :
 EvO (zE E 34 v25 v27) fun x0=>
 EvO (zH E 173 h x0) fun x1=>
 Ev s (zX 173 h (zAG E 173)) fun x2=>
 Ev s (ze E 173 x2.2 x2.1 x1) fun x3=>
 PI (zHb s) K 6 [v0,v2,x2.1,v25,v26,v27] x3.2):PI (zHb s) K 5 [v0,v2,v25,v26,v27] h:=zB H
theorem zVT (H :
 EvO (zq v0) fun x1=>
 EvO (zD E 306 0 x1) fun x2=>
 EvO (zH E 3 h x2) fun x3=>
 EvO (zC E .gtr 3 x3 (.int .i64 2000)) fun x4=>
 EvO (gdB x4 false v0) fun x6=>
 EvO (gdB x4 false (zq x6)) fun x7=>
 EvO (gdB x4 false (zD E 306 1 x7)) fun x8=>
 EvO (gdB x4 false (zH E 3 h x8)) fun x9=>
 EvO (gdB x4 false (zC E .gtr 3 x9 (.int .i64 200))) fun x10=>
 EvO (z7 x4 (some (.bool true)) x10) fun x11=>
 BrK x11 (K .ret [] h) (PI (zHb s) K 7 [v0,v2,v7,v25,v26,v27] h)):PI (zHb s) K 6 [v0,v2,v7,v25,v26,v27] h:=zB H
theorem zVS (H :
 EvO (zH E 173 h v7) fun x1=>
 EvO (zC E .add 3 v2 (.int .i64 1)) fun x3=>
 Ev s (zQ (zW E) (some (.func (.func 268) #[] #[])) [v0,x1,x3] h) fun x4=>
 PI (zHb s) K 8 [v0,v2,v25,v26,v27] x4.2):PI (zHb s) K 7 [v0,v2,v7,v25,v26,v27] h:=zB H
theorem zVR (H :
 EvO (zC E .add 3 v27 (.int .i64 1)) fun x0=>
 PI (zHb s) K 4 [v0,v2,v25,v26,x0] h):PI (zHb s) K 8 [v0,v2,v25,v26,v27] h:=zB H
theorem zaN (H:PI (zHb true) (KR E [] fun x k=>(zh x=false\/k.wm<h.next)/\Rp x ⟨k.t,k.next,cond (Nat.ble h.wm k.wm) h.wm k.wm⟩) 0 [v0,v1,v2] h.fresh):Ev true ((zW E).call 268 [v0,v1,v2] h) fun x=>Rp x.1 x.2:=zFb Tryz.f268 (zz (zHb true) H)
noncomputable def B269:Code:=zc Tryz.f269
noncomputable def C269 (s:Bool):Cx:=⟨E,s,none,B269,[([0],[0]),([1,0],[0])],[2],[]⟩
theorem zVQ (H :
 PI (C269 s) K 1 [v0] h):PI (C269 s) K 0 [v0] h:=zB H
theorem zVP (H :
 EvO (zq v0) fun x1=>
 EvO (zD E 306 0 x1) fun x2=>
 EvO (zH E 3 h x2) fun x3=>
 EvO (zC E .gtr 3 x3 (.int .i64 2000)) fun x4=>
 EvO (gdB x4 false v0) fun x6=>
 EvO (gdB x4 false (zq x6)) fun x7=>
 EvO (gdB x4 false (zD E 306 1 x7)) fun x8=>
 EvO (gdB x4 false (zH E 3 h x8)) fun x9=>
 EvO (gdB x4 false (zC E .gtr 3 x9 (.int .i64 200))) fun x10=>
 EvO (z7 x4 (some (.bool true)) x10) fun x11=>
 K .ret [x11] h):PI (C269 s) K 1 [v0] h:=zB H
theorem zaM (hok:h.ok) (hv:zg v=true) (H:PI (C269 s) (KR E [.tmp 2] fun x k=>x=v/\h.next<=k.wm) 0 [v0] h.fresh):(zW E).call 269 [v0] h=some [(v,h)]:=zAh Tryz.f269 hok hv (zz (C269 s) H)
end Go.Proofs
namespace Go.Proofs
open Go Go.AM
set_option maxRecDepth 100000
theorem zTP {n:Int} {h:AH} (hok:h.ok):(zW E).call 154 [.int .i64 n] h=some [(.bool false,h)]:=by
 refine zar (s:=true) hok rfl (zX3 ?_)
 refine zX2 ?_
 simp [zA,zAz,zAJ,zT]
theorem zHP {a b:Int} {h:AH} (hok:h.ok):(zW E).call 94 [.int .i64 a,.int .i64 b] h=some [(.int .i64 (if a<b then -1 else if b<a then 1 else 0),h)]:=by
 have hf:=zAT h
 refine zep (s:=true) hok rfl (zcH ?_)
 refine zcG ?_
 simp only [zA,zS,zTP hf,zN]
 refine zcF ?_
 simp only [zA,zS,zTP hf,zN]
 refine zcE ?_
 simp only [zA,zk]
 refine zcD ?_
 simp only [zA,zk]
 refine zcC ?_
 simp only [zA,zY,zAA]
 refine ⟨fun h1=>zT0 ?_,fun h1=>zTz ?_⟩
 ·simp [zA,zAJ,zT,h1]
 simp only [zA,zAH,zAA]
 refine ⟨fun h2=>zTy ?_,fun h2=>zTx ?_⟩
 ·simp [zA,zAJ,zT,h1,h2]
 ·simp [zA,zAJ,zT,h1,h2]
inductive Arr (h:AH) (z:Nat):Value->List (List Value)->Prop
 | nil (a:Option Addr) (c:Nat):Arr h z (.slice a 0 c) []
 | row {b o c:Nat} {vs:List Value} {ty es:Nat} {ro:Bool} {els:List (List Value)} (hb:h.get b=some (.row vs ty es ro)) (hlt:b<h.next) (hl:o+els.length*z<=vs.length)
   (hz:∀ i e,els[i]?=some e->e.length=z/\(vs.drop (o+i*z)).take z=e):Arr h z (.slice (some ⟨b,o,none⟩) els.length c) els
theorem Arr.ext {h k:AH} {z:Nat} {v:Value} {els:List (List Value)} (a:Arr h z v els) (e:Ext h k):Arr k z v els:=by
 cases a with
 | nil a c=>exact .nil a c
 | row hb hlt hl hz=>exact .row ((e.get _ hlt).trans hb) (Nat.lt_of_lt_of_le hlt e.next) hl hz
def zm (p:Nat->Bool):Nat->Nat->Int
 | 0,_=>-1
 | n+1,i=>if p i then (i:Int) else zm p n (i+1)
theorem zBW {p:Nat->Bool}:∀ (n i:Nat),(∀ j,i<=j->j<i+n->p j=false) ↔ zm p n i<0
 | 0,i=>by simp [zm];intro j h1 h2;omega
 | n+1,i=>by
  simp only [zm]
  constructor
  ·intro h
   rw [h i (Nat.le_refl _) (by omega)]
   simp only [Bool.false_eq_true,if_false]
   exact (zBW n (i+1)).1 fun j h1 h2=>h j (by omega) (by omega)
  ·intro h j h1 h2
   cases hp:p i with
   | true=>rw [hp] at h;simp at h;omega
   | false=>
    rw [hp] at h
    simp only [Bool.false_eq_true,if_false] at h
    by_cases e:j=i
    ·rw [e,hp]
    ·exact (zBW n (i+1)).2 h j (by omega) (by omega)
theorem zD7 {i n:Nat} (hi:i<n) (hn:n<=9223372036854775807):zCx ((i:Int)+1):=by unfold zCx;omega
theorem call220 {h0:AH} {v f:Value} {els:List (List Value)} {p:Nat->Bool} (ha:Arr h0 2 v els) (hn:els.length<=9223372036854775807)
  (hf:∀ k,Ext h0 k->∀ i e,els[i]?=some e->zQ (zW E) (some f) (some [.agg ⟨e⟩]) k=some [(.bool (p i),k)]) {k:AH} (hk:Ext h0 k) :
  (zW E).call 220 [v,f] k=some [(.int .i64 (zm p els.length 0),k)]:=by
 refine zaX (s:=true) hk.ok rfl (zWd ?_)
 refine zWc ?_
 have loop:∀ (m i:Nat),i+m=els.length->P220_2 true (KR E [.tmp 2] (fun x l=>x=.int .i64 (zm p m i)/\k.next<=l.wm)) v f (.int .i64 (els.length:Int)) (.int .i64 (i:Int)) k.fresh:=by
  intro m
  induction m with
  | zero=>
   intro i hi
   refine zLE ?_
   simp only [zY,zA,zAA]
   refine ⟨fun h=>by omega,fun _=>zWX ?_⟩
   simp [zA,zAJ,zT,zm]
  | succ m ih=>
   intro i hi
   have ha':=ha
   cases ha' with
   | nil a c=>simp at hi
   | @row b o c vs ty es ro _ hb hlt hl hz=>
   have hin:i<els.length:=by omega
   refine zLE ?_
   simp only [zY,zA,zAA]
   refine ⟨fun _=>zWb ?_,fun h=>by omega⟩
   refine zWa ?_
   obtain ⟨hz1,hz2⟩:=hz i els[i] (List.getElem?_eq_getElem hin)
   have hb':k.fresh.get b=some (.row vs ty es ro):=(hk.get b hlt).trans hb
   have hle:o+i*2+2<=vs.length:=by
    have:(i+1)*2<=els.length*2:=Nat.mul_le_mul_right _ (by omega)
    omega
   simp only [zA,zSq hin,za zHu hb' hle,hz2,hf _ hk.fresh i _ (List.getElem?_eq_getElem hin),zN,zBS]
   refine ⟨fun h=>zWZ ?_,fun h=>zWY ?_⟩
   ·simp [zA,zAJ,zT,zm,h]
   ·simp only [zAM _ (zD7 hin hn),zA]
    have:=ih (i+1) (by omega)
    simp only [zm,h]
    simpa using this
 have h0:=loop els.length 0 (by omega)
 cases ha with
 | nil a c=>
  simp only [zA,zIC]
  exact h0
 | row hb hlt hl hz=>
  simp only [zA,zIC]
  exact h0
theorem call173 {h0:AH} {v f:Value} {els:List (List Value)} {p:Nat->Bool} (ha:Arr h0 2 v els) (hn:els.length<=9223372036854775807)
  (hf:∀ k,Ext h0 k->∀ i e,els[i]?=some e->zQ (zW E) (some f) (some [.agg ⟨e⟩]) k=some [(.bool (p i),k)]) {k:AH} (hk:Ext h0 k) :
  (zW E).call 173 [v,f] k=some [(.bool (decide (0<=zm p els.length 0)),k)]:=by
 refine zak (s:=true) hk.ok rfl (zXi ?_)
 refine zXh ?_
 simp only [zA,zS,call220 ha hn hf hk.fresh,zN,zAP]
 simp [zA,zAJ,zT]
theorem call243 {h0:AH} {v f:Value} {els:List (List Value)} {p:Nat->Bool} (ha:Arr h0 3 v els) (hn:els.length<=9223372036854775807)
  (hf:∀ k,Ext h0 k->∀ i e,els[i]?=some e->zQ (zW E) (some f) (some [.agg ⟨e⟩]) k=some [(.bool (p i),k)]) {k:AH} (hk:Ext h0 k) :
  (zW E).call 243 [v,f] k=some [(.int .i64 (zm p els.length 0),k)]:=by
 refine zaS (s:=true) hk.ok rfl (zV2 ?_)
 refine zV1 ?_
 have loop:∀ (m i:Nat),i+m=els.length->P243_2 true (KR E [.tmp 2] (fun x l=>x=.int .i64 (zm p m i)/\k.next<=l.wm)) v f (.int .i64 (els.length:Int)) (.int .i64 (i:Int)) k.fresh:=by
  intro m
  induction m with
  | zero=>
   intro i hi
   refine zK8 ?_
   simp only [zY,zA,zAA]
   refine ⟨fun h=>by omega,fun _=>zVw ?_⟩
   simp [zA,zAJ,zT,zm]
  | succ m ih=>
   intro i hi
   have ha':=ha
   cases ha' with
   | nil a c=>simp at hi
   | @row b o c vs ty es ro _ hb hlt hl hz=>
   have hin:i<els.length:=by omega
   refine zK8 ?_
   simp only [zY,zA,zAA]
   refine ⟨fun _=>zV0 ?_,fun h=>by omega⟩
   refine zVz ?_
   obtain ⟨hz1,hz2⟩:=hz i els[i] (List.getElem?_eq_getElem hin)
   have hb':k.fresh.get b=some (.row vs ty es ro):=(hk.get b hlt).trans hb
   have hle:o+i*3+3<=vs.length:=by
    have:(i+1)*3<=els.length*3:=Nat.mul_le_mul_right _ (by omega)
    omega
   simp only [zA,zSp hin,za zB9 hb' hle,hz2,hf _ hk.fresh i _ (List.getElem?_eq_getElem hin),zN,zBS]
   refine ⟨fun h=>zVy ?_,fun h=>zVx ?_⟩
   ·simp [zA,zAJ,zT,zm,h]
   ·simp only [zAM _ (zD7 hin hn),zA]
    have:=ih (i+1) (by omega)
    simp only [zm,h]
    simpa using this
 have h0:=loop els.length 0 (by omega)
 cases ha with
 | nil a c=>
  simp only [zA,zIA]
  exact h0
 | row hb hlt hl hz=>
  simp only [zA,zIA]
  exact h0
theorem zTL {h0:AH} {v f:Value} {els:List (List Value)} {p:Nat->Bool} (ha:Arr h0 3 v els) (hn:els.length<=9223372036854775807)
  (hf:∀ k,Ext h0 k->∀ i e,els[i]?=some e->zQ (zW E) (some f) (some [.agg ⟨e⟩]) k=some [(.bool (p i),k)]) {k:AH} (hk:Ext h0 k) :
  (zW E).call 215 [v,f] k=some [(.bool (decide (0<=zm p els.length 0)),k)]:=by
 refine zac (s:=true) hk.ok rfl (zWv ?_)
 refine zWu ?_
 simp only [zA,zS,call243 ha hn hf hk.fresh,zN,zAP]
 simp [zA,zAJ,zT]
inductive GT where
 | mk (k n:Int) (l:List GT)
mutual
inductive RT (h:AH):Value->List GT->Prop
 | mk {v:Value} {els:List (List Value)} {ts:List GT} (ha:Arr h 3 v els) (hn:els.length<=9223372036854775807) (hc:RC h els ts):RT h v ts
inductive RC (h:AH):List (List Value)->List GT->Prop
 | nil:RC h [] []
 | cons {k n:Int} {v:Value} {l:List GT} {els:List (List Value)} {ts:List GT} (hv:RT h v l) (hs:RC h els ts):RC h ([.int .i64 k,.int .i64 n,v]::els) (.mk k n l::ts)
end
mutual
theorem RT.ext {h k:AH} (e:Ext h k):∀ {v:Value} {ts:List GT},RT h v ts->RT k v ts
 | _,_,.mk ha hn hc=>.mk (ha.ext e) hn (RC.ext e hc)
theorem RC.ext {h k:AH} (e:Ext h k):∀ {els:List (List Value)} {ts:List GT},RC h els ts->RC k els ts
 | _,_,.nil=>.nil
 | _,_,.cons hv hs=>.cons (RT.ext e hv) (RC.ext e hs)
end
theorem RC.at {h:AH}:∀ {els:List (List Value)} {ts:List GT},RC h els ts->∀ (i:Nat) (e:List Value),els[i]?=some e->∃ (k n:Int) (v:Value) (l:List GT),e=[.int .i64 k,.int .i64 n,v]/\RT h v l/\ts[i]?=some (GT.mk k n l)
 | _,_,.nil,i,e,h=>by simp at h
 | _,_,.cons hv hs,0,e,h=>by simp at h;exact ⟨_,_,_,_,h.symm,hv,rfl⟩
 | _,_,.cons hv hs,i+1,e,h=>by simp only [List.getElem?_cons_succ] at h;obtain ⟨k,n,v,l,a,b,c⟩:=RC.at hs i e h;exact ⟨k,n,v,l,a,b,by simpa using c⟩
theorem RC.length {h:AH}:∀ {els:List (List Value)} {ts:List GT},RC h els ts->els.length=ts.length
 | _,_,.nil=>rfl
 | _,_,.cons _ hs=>by simp [RC.length hs]
theorem RT.slice {h:AH} {v:Value} {ts:List GT} (r:RT h v ts):∃ a c,v=.slice a ts.length c:=by
 cases r with
 | mk ha hn hc=>
  have:=RC.length hc
  cases ha with
  | nil a c=>simp at this;exact ⟨a,c,by rw [← this]⟩
  | row=>rw [← this];exact ⟨_,_,rfl⟩
theorem Arr.load {h:AH} {z:Nat} {v:Value} {els:List (List Value)} (ha:Arr h z v els) {i:Nat} {e:List Value} (hi:els[i]?=some e) :
  ∃ b o c vs ty es ro,v=.slice (some ⟨b,o,none⟩) els.length c/\h.get b=some (.row vs ty es ro)/\b<h.next/\o+i*z+z<=vs.length/\(vs.drop (o+i*z)).take z=e/\e.length=z:=by
 cases ha with
 | nil a c=>simp at hi
 | @row b o c vs ty es ro _ hb hlt hl hz=>
  have hlt':i<els.length:=(List.getElem?_eq_some_iff.1 hi).1
  refine ⟨b,o,c,vs,ty,es,ro,rfl,hb,hlt,?_,(hz i e hi).2,(hz i e hi).1⟩
  have:(i+1)*z<=els.length*z:=Nat.mul_le_mul_right _ (by omega)
  rw [Nat.add_mul] at this
  omega
abbrev zJr (a d:Int) (ty:TypeId):AObj:=.row [.int .i64 a,.int .i64 d] ty 0 false
theorem max268 (a b:Int) (h:AH):zO E (zl [(19,.int .i64 a),(20,.int .i64 b)]) (zn B268 [1,1,0] 6) h=some (.int .i64 (if b > a then b else a)):=by kernel_rfl
theorem upd2 {h:AH} {b:Nat} {a d x:Int} {ty:TypeId} (hb:h.get b=some (zJr a d ty)):ze E 3 h (some (.pointer (some ⟨b,0,none⟩))) (some (.int .i64 x))=one (undef,h.upd b (some (zJr x d ty))):=by
 rw [zw (P:=E) ts_3 hb (zCl _ _) rfl (by simp) rfl];rfl
theorem upd2' {h:AH} {b:Nat} {a d x:Int} {ty:TypeId} (hb:h.get b=some (zJr a d ty)):ze E 3 h (some (.pointer (some ⟨b,1,none⟩))) (some (.int .i64 x))=one (undef,h.upd b (some (zJr a x ty))):=by
 rw [zw (P:=E) ts_3 hb (zCl _ _) rfl (by simp) rfl];rfl
mutual
def zS9:GT->Int->Int×Int->Int×Int
 | .mk _ _ l,deep,s=>zTA l deep (zBr .i64 (s.1+1),if deep > s.2 then deep else s.2)
def zTA:List GT->Int->Int×Int->Int×Int
 | [],_,s=>s
 | t::ts,deep,s=>if 2000<s.1\/200<s.2 then s else zTA ts deep (zS9 t (zBr .i64 (deep+1)) s)
end
def zbC (k0:AH) (b:Nat) (ty:TypeId) (s:Int×Int) (k:AH):Prop:=Chg k0 b k/\k.wm<=b/\k.get b=some (zJr s.1 s.2 ty)
theorem zDS {h:AH} {v:Value} {ts:List GT} (r:RT h v ts):zr v=true:=by obtain ⟨a,c,rfl⟩:=r.slice;rfl
mutual
theorem zTJ {h0:AH}:∀ {v:Value} {ts:List GT},RT h0 v ts->∀ {k:AH} {b:Nat} {a d kk nn deep:Int} {ty:TypeId},Ext h0 k->h0.next<=b->b<k.next->k.get b=some (zJr a d ty)->
  Ev true ((zW E).call 268 [.pointer (some ⟨b,0,none⟩),.agg #[.int .i64 kk,.int .i64 nn,v],.int .i64 deep] k) fun x=>zbC k b ty (zS9 (.mk kk nn ts) deep (a,d)) x.2
 | v,ts,.mk (els:=els) ha hn hc,k,b,a,d,kk,nn,deep,ty,hk,hb0,hbk,hb=>by
  refine zaN (Rp:=fun _ k'=>zbC k b ty (zS9 (.mk kk nn ts) deep (a,d)) k') (zVZ ?_)
  have hrt:RT h0 v ts:=.mk ha hn hc
  simp only [zd,zL,zV]
  refine zVY ?_
  have e1:=(Chg.refl (zAT k) b).new (.row [.int .i64 kk,.int .i64 nn,v] 173 0 false)
  have g1:(k.fresh.new (.row [.int .i64 kk,.int .i64 nn,v] 173 0 false)).get b=some (zJr a d ty):=by rw [zK (by simp;omega)];exact hb
  have l1:=zF (P:=E) zAS (o:=0) g1
  simp only [lnth] at l1
  simp only [zA,zAu,zGc,Nat.add_zero,l1,zJg,upd2 g1,zL]
  refine zVX ?_
  have e2:=e1.upd (some (zJr (zBr .i64 (a+1)) d ty))
  generalize hk2:(k.fresh.new (.row [.int .i64 kk,.int .i64 nn,v] 173 0 false)).upd b (some (zJr (zBr .i64 (a+1)) d ty))=k2 at e2
  have g2:k2.get b=some (zJr (zBr .i64 (a+1)) d ty):=by rw [← hk2,zR]
  have t2:k2.get k.next=some (.row [.int .i64 kk,.int .i64 nn,v] 173 0 false):=by rw [← hk2,zU (by omega)];exact zI _ _
  have l2:=zF (P:=E) zAS (o:=1) g2
  simp only [lnth] at l2
  simp only [zA,zAu,zFK,Nat.zero_add,l2,max268,upd2' g2,zL]
  refine zVW ?_
  rw [show zS9 (.mk kk nn ts) deep (a,d)=zTA ts deep (zBr .i64 (a+1),if deep > d then deep else d) from rfl]
  generalize (if deep > d then deep else d)=d'
  have e3:=e2.upd (some (zJr (zBr .i64 (a+1)) d' ty))
  generalize hk3:k2.upd b (some (zJr (zBr .i64 (a+1)) d' ty))=k3 at e3
  have g3:k3.get b=some (zJr (zBr .i64 (a+1)) d' ty):=by rw [← hk3,zR]
  have t3:k3.get k.next=some (.row [.int .i64 kk,.int .i64 nn,v] 173 0 false):=by rw [← hk3,zU (by omega)];exact t2
  have w3:k3.wm<=b:=by rw [← hk3];exact (zDB _ _ _).2
  have l3:=zF (P:=E) zDP (o:=2) t3
  simp only [lnth] at l3
  obtain ⟨sa,sc,hv⟩:=hrt.slice
  have hlen:=RC.length hc
  subst hv
  simp only [zAY,Nat.zero_add,l3,zA,zZ,zPP]
  refine zSI hc (i:=0) (all:=els) (by simp) ha hn hlen hk hb0 hbk e3 g3 w3 fun ex k' hex hc'=>?_
  simp only [zMW,hex,true_and]
  have hw':=hc'.2.1
  refine ⟨.inr (by omega),hc'.1.of_fresh,?_,hc'.2.2⟩
  show cond (Nat.ble k.wm k'.wm) k.wm k'.wm<=b
  cases hcc:Nat.ble k.wm k'.wm with
  | true=>rw [ble_true] at hcc;simp only [cond_true];omega
  | false=>simp only [cond_false];omega
theorem zSI {h0:AH}:∀ {els:List (List Value)} {ts:List GT},RC h0 els ts->∀ {i:Nat} {all:List (List Value)} {sa:Option Addr} {len sc:Nat},all.drop i=els->Arr h0 3 (.slice sa len sc) all->all.length<=9223372036854775807->all.length=len->
  ∀ {k0 k:AH} {b:Nat} {a d deep:Int} {ty:TypeId} {K:KF},Ext h0 k0->h0.next<=b->b<k0.next->Chg k0.fresh b k->k.get b=some (zJr a d ty)->k.wm<=b->
  (∀ ex k',zC4 ex=true->zbC k0.fresh b ty (zTA ts deep (a,d)) k'->K ex [] k')->P268_4 true K (.pointer (some ⟨b,0,none⟩)) (.int .i64 deep) (.slice sa len sc) (.int .i64 (len:Int)) (.int .i64 (i:Int)) k
 | els,ts,hc,i,all,sa,len,sc,hd,ha,hn,hlen,k0,k,b,a,d,deep,ty,K,h1,h2,h3,h4,h5,h6,hK=>by
  refine zVV ?_
  simp only [zY,zA,zAA]
  refine ⟨fun hi=>zVU ?_,fun hni=>?_⟩
  rotate_left
  ·have:els=[]:=by rw [← hd];exact List.drop_eq_nil_of_le (by omega)
   have hts:ts=[]:=by have:=RC.length hc;rw [‹els=[]›] at this;simpa using this.symm
   rw [hts] at hK
   exact hK _ _ rfl ⟨h4,h6,h5⟩
  have hil:i<all.length:=by omega
  match els,ts,hc,hd with
  | _,_,.nil,hd=>
   have:=congrArg List.length hd
   simp at this
   omega
  | _,_,.cons (k:=tk) (n:=tn) (v:=tv) hv hs,hd=>
   have hi':all[i]?=some [.int .i64 tk,.int .i64 tn,tv]:=by
    have:=congrArg (·[0]?) hd
    simpa [List.getElem?_drop] using this
   obtain ⟨b',o,c,vs,ty',es,ro,hv',hb',hlt,hle,hz,_⟩:=ha.load hi'
   simp only [Value.slice.injEq] at hv'
   obtain ⟨hsa,hl',hsc⟩:=hv'
   subst hsa
   have e0:Ext h0 k:=Chg.ext h1.fresh h2 h4
   have gb':k.get b'=some (.row vs ty' es ro):=(e0.get _ hlt).trans hb'
   have hkk:k0.next<=k.next:=h4.next
   simp only [zSp (show i<len by omega),zA,za zB9 gb' hle,hz,zbL,zd,zL,zV]
   have gk:=zI k (.row [.int .i64 0,.int .i64 0,.slice none 0 0] 173 0 false)
   rw [zw (P:=E) zJw gk (zV _) rfl (by simp) (by simp [zr];exact zDS hv)]
   simp only [zL]
   have hlp:lput [Value.int .i64 0,.int .i64 0,.slice none 0 0] 0 [.int .i64 tk,.int .i64 tn,tv]=[.int .i64 tk,.int .i64 tn,tv]:=rfl
   rw [hlp]
   have e5:=(h4.new (.row [.int .i64 0,.int .i64 0,.slice none 0 0] 173 0 false)).updNew (c:=k.next) (by simpa using h4.next) (some (.row [.int .i64 tk,.int .i64 tn,tv] 173 0 false))
   have w5:((k.new (.row [.int .i64 0,.int .i64 0,.slice none 0 0] 173 0 false)).upd k.next (some (.row [.int .i64 tk,.int .i64 tn,tv] 173 0 false))).wm<=b:=Nat.le_trans (zDB _ _ _).1 h6
   generalize hk5:(k.new (.row [.int .i64 0,.int .i64 0,.slice none 0 0] 173 0 false)).upd k.next (some (.row [.int .i64 tk,.int .i64 tn,tv] 173 0 false))=k5 at e5 w5
   have n5:k5.next=k.next+1:=by rw [← hk5];rfl
   have g5:k5.get b=some (zJr a d ty):=by rw [← hk5,zU (by omega),zK (by omega)];exact h5
   have t5:k5.get k.next=some (.row [.int .i64 tk,.int .i64 tn,tv] 173 0 false):=by rw [← hk5,zR]
   refine zVT ?_
   have l0:=zF (P:=E) zAS (o:=0) g5
   have l1:=zF (P:=E) zAS (o:=1) g5
   simp only [lnth] at l0 l1
   simp only [zA,zAu,zGc,Nat.add_zero,l0,zAH,zM]
   have next:¬ (2000:Int)<a->¬ (200:Int)<d->P268_7 true K (.pointer (some ⟨b,0,none⟩)) (.int .i64 deep) (.pointer (some ⟨k.next,0,none⟩)) (.slice (some ⟨b',o,none⟩) len sc) (.int .i64 (len:Int)) (.int .i64 (i:Int)) k5:=by
    intro hn1 hn2
    refine zVS ?_
    have l5:=za (P:=E) zB9 (o:=0) t5 (by simp)
    simp only [zA,l5,zJg,zS]
    refine (zTJ hv (k:=k5) (a:=a) (d:=d) (ty:=ty) (Chg.ext h1.fresh h2 e5) h2 (by omega) g5).mono fun x hx=>?_
    obtain ⟨c1,wx,c2⟩:=hx
    refine zVR ?_
    simp only [zAM _ (zD7 hil hn),zA]
    have:=zSI hs (i:=i+1) (all:=all) (by rw [← List.drop_drop,hd];rfl) ha hn hlen h1 h2 h3 (deep:=deep) (e5.trans c1) c2 wx (by simpa [zTA,hn1,hn2] using hK)
    exact this
   by_cases hgt:(2000:Int)<a
   ·simp only [hgt,decide_true,show ((true==false)=false) from rfl,cond_false,zA,zJ,cond_true,zu]
    exact hK _ _ rfl ⟨e5,w5,by simpa [zTA,hgt] using g5⟩
   ·simp only [hgt,decide_false,show ((false==false)=true) from rfl,cond_true,zA,zAu,zFK,Nat.zero_add,l1,zAH,zJ,cond_false,zAA]
    exact ⟨fun h2=>hK _ _ rfl ⟨e5,w5,by simpa [zTA,h2] using g5⟩,fun h2=>next hgt h2⟩
end
theorem call269 {k:AH} {b:Nat} {a d:Int} {ty:TypeId} (hok:k.ok) (hb:k.get b=some (zJr a d ty)):(zW E).call 269 [.pointer (some ⟨b,0,none⟩)] k=some [(.bool (decide (2000<a\/200<d)),k)]:=by
 refine zaM (s:=true) hok rfl (zVQ ?_)
 refine zVP ?_
 have hb':k.fresh.get b=some (zJr a d ty):=hb
 have l0:=zF (P:=E) zAS (o:=0) hb'
 have l1:=zF (P:=E) zAS (o:=1) hb'
 simp only [lnth] at l0 l1
 simp only [zA,zAu,zGc,Nat.add_zero,l0,zAH,zM]
 by_cases hgt:(2000:Int)<a
 ·simp [hgt,zA,zJ,zAJ,zT]
 ·by_cases hd:(200:Int)<d
  ·simp [hgt,hd,zA,zJ,zAJ,zT,zAu,zFK,l1,zAH]
  ·simp [hgt,hd,zA,zJ,zAJ,zT,zAu,zFK,l1,zAH]
def zO0 (t:GT):Int×Int:=if 2000<(zS9 t 1 (0,0)).1\/200<(zS9 t 1 (0,0)).2 then (2001,201) else zS9 t 1 (0,0)
theorem call244 {h0 k:AH} {kk nn:Int} {v:Value} {l:List GT} (hr:RT h0 v l) (hk:Ext h0 k) :
  (zW E).call 244 [.agg #[.int .i64 kk,.int .i64 nn,v]] k=some [(.tuple #[.int .i64 (zO0 (.mk kk nn l)).1,.int .i64 (zO0 (.mk kk nn l)).2],k)]:=by
 refine zQx hk.ok rfl (zVv ?_)
 simp only [zd,zL,zV,zA]
 refine zVu ?_
 simp only [z_306,zd,zL,zV]
 refine zVt ?_
 have e1:=(hk.fresh.new (.row [.int .i64 kk,.int .i64 nn,v] 173 0 false)).new (.row [.int .i64 0,.int .i64 0] 306 0 false)
 have t1:((k.fresh.new (.row [.int .i64 kk,.int .i64 nn,v] 173 0 false)).new (.row [.int .i64 0,.int .i64 0] 306 0 false)).get k.next=some (.row [.int .i64 kk,.int .i64 nn,v] 173 0 false):=by
  rw [zK (by simp)];exact zI k.fresh _
 have g1:((k.fresh.new (.row [.int .i64 kk,.int .i64 nn,v] 173 0 false)).new (.row [.int .i64 0,.int .i64 0] 306 0 false)).get (k.next+1)=some (zJr 0 0 306):=zI (k.fresh.new _) _
 have n1:((k.fresh.new (.row [.int .i64 kk,.int .i64 nn,v] 173 0 false)).new (.row [.int .i64 0,.int .i64 0] 306 0 false)).next=k.next+2:=rfl
 have w1:((k.fresh.new (.row [.int .i64 kk,.int .i64 nn,v] 173 0 false)).new (.row [.int .i64 0,.int .i64 0] 306 0 false)).wm=k.next+UNK:=rfl
 simp only [zZ,AH.next_new]
 generalize ((k.fresh.new (.row [.int .i64 kk,.int .i64 nn,v] 173 0 false)).new (.row [.int .i64 0,.int .i64 0] 306 0 false))=k1 at e1 t1 g1 n1 w1
 have lt:=za (P:=E) zB9 (o:=0) t1 (by simp)
 have hkn:=hk.next
 simp only [lt,zA,zS]
 refine (zTJ hr (k:=k1) (b:=k.next+1) e1 (by omega) (by omega) g1).mono fun x hx=>?_
 obtain ⟨c1,_,c2⟩:=hx
 refine zVs ?_
 simp only [zS,call269 c1.ok c2,zN,zAA]
 have hwm:k.next<=x.2.wm:=c1.wm k.next (by omega) (by omega) (by omega)
 have l0:=zF (P:=E) zAS (o:=0) c2
 have l1:=zF (P:=E) zAS (o:=1) c2
 simp only [lnth] at l0 l1
 refine ⟨fun hov=>zVr ?_,fun hov=>zVq ?_⟩
 ·simp [zA,zPe,zT,zO0,hov,hwm]
 ·simp only [zA,zGc,zFK,Nat.add_zero,Nat.zero_add,l0,l1,zPe,zT,true_and,zO0,hov,if_false]
  exact hwm
mutual
def okT:GT->Bool
 | .mk k n l=>decide (k=2)&&decide (0<=n)&&decide (n<256)&&decide (l.length<=8)&&okL l
def okL:List GT->Bool
 | []=>true
 | t::ts=>okT t&&okL ts
end
theorem okL_iff:∀ {ts:List GT},okL ts=true ↔ ∀ (i:Nat) (t:GT),ts[i]?=some t->okT t=true
 | []=>by simp [okL]
 | t::ts=>by
  simp only [okL,Bool.and_eq_true,okL_iff (ts:=ts)]
  constructor
  ·rintro ⟨a,b⟩ i u hu
   cases i with
   | zero=>simp at hu;rw [← hu];exact a
   | succ i=>exact b i u (by simpa using hu)
  ·intro h
   exact ⟨h 0 t rfl,fun i u hu=>h (i+1) u (by simpa using hu)⟩
def zNX (ts:List GT) (f:GT->Bool) (i:Nat):Bool:=match ts[i]? with
 | some t=>!f t
 | none=>false
theorem idx_ok {ts:List GT}:decide (0<=zm (zNX ts okT) ts.length 0)=!okL ts:=by
 have h:=zBW (p:=zNX ts okT) ts.length 0
 cases hb:okL ts with
 | true=>
  have:zm (zNX ts okT) ts.length 0<0:=h.1 fun j _ hj=>by
   unfold zNX
   cases ht:ts[j]? with
   | none=>rfl
   | some t=>simp [okL_iff.1 hb j t ht]
  rw [decide_eq_false (by omega)];rfl
 | false=>
  have:¬ zm (zNX ts okT) ts.length 0<0:=by
   intro hneg
   have:=h.2 hneg
   have hall:okL ts=true:=okL_iff.2 fun i t ht=>by
    have hi:=(List.getElem?_eq_some_iff.1 ht).1
    have:=this i (Nat.zero_le _) (by omega)
    simpa [zNX,ht] using this
   rw [hall] at hb;cases hb
  rw [decide_eq_true (by omega)];rfl
abbrev zRJ (f:FuncId) (b:Nat):Value:=.func (.func f) #[] #[.pointer (some ⟨b,0,none⟩)]
def zND (h0:AH) (kk nn:Int) (v:Value) (l:List GT):Prop:=∀ (k:AH) (b:Nat),Ext h0 k->b<k.next->k.get b=some (.row [zRJ 245 b] 247 0 false)->
 (zW E).call 245 [.agg #[.int .i64 kk,.int .i64 nn,v],.pointer (some ⟨b,0,none⟩)] k=some [(.bool (okT (.mk kk nn l)),k)]
theorem call246 {h0:AH} {kk nn:Int} {v:Value} {l:List GT} (hs:zND h0 kk nn v l) {k:AH} {b:Nat} (hk:Ext h0 k) (hbk:b<k.next) (hb:k.get b=some (.row [zRJ 245 b] 247 0 false)) :
  (zW E).call 246 [.agg #[.int .i64 kk,.int .i64 nn,v],.pointer (some ⟨b,0,none⟩)] k=some [(.bool (!okT (.mk kk nn l)),k)]:=by
 refine zaQ (s:=true) hk.ok rfl (zVn ?_)
 simp only [zd,zL,zV,zA]
 refine zVm ?_
 have e1:=hk.fresh.new (.row [.int .i64 kk,.int .i64 nn,v] 173 0 false)
 have t1:=zI k.fresh (.row [.int .i64 kk,.int .i64 nn,v] 173 0 false)
 have g1:(k.fresh.new (.row [.int .i64 kk,.int .i64 nn,v] 173 0 false)).get b=some (.row [zRJ 245 b] 247 0 false):=by rw [zK (by simp;omega)];exact hb
 have lt:=za (P:=E) zB9 (o:=0) t1 (by simp)
 have lc:=zF (P:=E) ta_247 (o:=0) g1
 simp only [lnth] at lc
 simp only [List.drop_zero,List.take] at lt
 simp only [zZ] at lt
 simp only [zZ,lt,lc,zA,zD9]
 have:=hs _ _ e1 (by simp;omega) g1
 simp only [List.nil_append,List.cons_append,this,zN,zv,zA,zAJ,zT]
 simp [zC9]
mutual
theorem zRe {h0:AH}:∀ {v:Value} {l:List GT},RT h0 v l->∀ (kk nn:Int),zND h0 kk nn v l
 | v,l,.mk (els:=els) ha hn hc,kk,nn=>by
  intro k b hk hbk hb
  have hrt:RT h0 v l:=.mk ha hn hc
  have hch:=zNQ hc
  have hlen:=RC.length hc
  obtain ⟨sa,sc,hv⟩:=hrt.slice
  subst hv
  refine zaR (s:=true) hk.ok rfl (zVp ?_)
  simp only [zd,zL,zV,zA]
  refine zVo ?_
  have e1:=hk.fresh.new (.row [.int .i64 kk,.int .i64 nn,.slice sa l.length sc] 173 0 false)
  have t1:=zI k.fresh (.row [.int .i64 kk,.int .i64 nn,.slice sa l.length sc] 173 0 false)
  have g1:(k.fresh.new (.row [.int .i64 kk,.int .i64 nn,.slice sa l.length sc] 173 0 false)).get b=some (.row [zRJ 245 b] 247 0 false):=by rw [zK (by simp;omega)];exact hb
  have w1:(k.fresh.new (.row [.int .i64 kk,.int .i64 nn,.slice sa l.length sc] 173 0 false)).wm=k.next+UNK:=rfl
  have n1:(k.fresh.new (.row [.int .i64 kk,.int .i64 nn,.slice sa l.length sc] 173 0 false)).next=k.next+1:=rfl
  simp only [zZ] at t1 ⊢
  generalize k.fresh.new (.row [.int .i64 kk,.int .i64 nn,.slice sa l.length sc] 173 0 false)=k1 at e1 t1 g1 w1 n1
  have l0:=zF (P:=E) zAS (o:=0) t1
  have l1:=zF (P:=E) zAS (o:=1) t1
  have l2:=zF (P:=E) zDP (o:=2) t1
  simp only [lnth] at l0 l1 l2
  have hcf:(zW E).call 215 [.slice sa l.length sc,.func (.func 246) #[] #[.pointer (some ⟨b,0,none⟩)]] k1=some [(.bool (decide (0<=zm (zNX l okT) els.length 0)),k1)]:=by
   refine zTL (h0:=k1) (ha.ext e1) hn (fun k2 hk2 i e he=>?_) (Ext.refl e1.ok)
   obtain ⟨ck,cn,cv,cl,q1,q2,q3,q4⟩:=hch i e he
   subst q1
   have:=call246 q4 (e1.trans hk2) (Nat.lt_of_lt_of_le (by omega:b<k1.next) hk2.next) ((hk2.get b (by omega)).trans g1)
   simp only [zD9,List.nil_append,List.cons_append,zNX,q3]
   exact this
  rw [hlen,idx_ok] at hcf
  simp only [zFN,zFM,zAY,Nat.add_zero,Nat.zero_add,l0,zA,zAZ,zM,zJ,okT]
  by_cases c1:kk=2
  ·by_cases c2:0<=nn
   ·by_cases c3:nn<256
    ·by_cases c4:l.length<=8
     ·have c4':(l.length:Int)<=8:=by omega
      simp [c1,c2,c3,c4,c4',l1,l2,zA,zAP,zY,zA7,zHB,zJ,zM,zP,zAt,zS,hcf,zN,zv,zAJ,zT,w1]
     ·have c4':¬ (l.length:Int)<=8:=by omega
      simp [c1,c2,c3,c4,c4',l1,l2,zA,zAP,zY,zA7,zHB,zJ,zM,zP,zL,zAJ,zT,w1]
    ·simp [c1,c2,c3,l1,zA,zAP,zY,zJ,zM,zP,zL,zAJ,zT,w1]
   ·simp [c1,c2,l1,zA,zAP,zJ,zM,zP,zL,zAJ,zT,w1]
  ·simp [c1,zA,zJ,zM,zP,zL,zAJ,zT,w1]
theorem zNQ {h0:AH}:∀ {els:List (List Value)} {ts:List GT},RC h0 els ts->∀ (i:Nat) (e:List Value),els[i]?=some e->
  ∃ (k n:Int) (v:Value) (l:List GT),e=[.int .i64 k,.int .i64 n,v]/\RT h0 v l/\ts[i]?=some (.mk k n l)/\zND h0 k n v l
 | _,_,.nil,i,e,h=>by simp at h
 | _,_,.cons hv hs,0,e,h=>by simp at h;exact ⟨_,_,_,_,h.symm,hv,rfl,zRe hv _ _⟩
 | _,_,.cons hv hs,i+1,e,h=>by
  simp only [List.getElem?_cons_succ] at h
  obtain ⟨k,n,v,l,a,b,c,d⟩:=zNQ hs i e h
  exact ⟨k,n,v,l,a,b,by simpa using c,d⟩
end
def zFn (t:GT):Bool:=decide ((zO0 t).1<=2000)&&okT t
theorem call217 {h0 k:AH} {kk nn:Int} {v:Value} {l:List GT} (hr:RT h0 v l) (hk:Ext h0 k) :
  (zW E).call 217 [.agg #[.int .i64 kk,.int .i64 nn,v]] k=some [(.bool (zFn (.mk kk nn l)),k)]:=by
 refine zaa (s:=true) hk.ok rfl (zWr ?_)
 simp only [zd,zL,zV,zA]
 refine zWq ?_
 have e1:=hk.fresh.new (.row [.int .i64 kk,.int .i64 nn,v] 173 0 false)
 have t1:=zI k.fresh (.row [.int .i64 kk,.int .i64 nn,v] 173 0 false)
 have w1:(k.fresh.new (.row [.int .i64 kk,.int .i64 nn,v] 173 0 false)).wm=k.next+UNK:=rfl
 have n1:(k.fresh.new (.row [.int .i64 kk,.int .i64 nn,v] 173 0 false)).next=k.next+1:=rfl
 simp only [zZ] at t1 ⊢
 generalize k.fresh.new (.row [.int .i64 kk,.int .i64 nn,v] 173 0 false)=k1 at e1 t1 w1 n1
 have lt:=za (P:=E) zB9 (o:=0) t1 (by simp)
 simp only [List.drop_zero,List.take] at lt
 simp only [lt,zA,zS,call244 hr e1,zN,z6,lnth]
 refine zWp ?_
 simp only [zA,zAH,zAA]
 refine ⟨fun hov=>zWo ?_,fun hov=>zWn ?_⟩
 ·simp only [zA,zAJ,zT,true_and,zFn]
  refine ⟨?_,by omega⟩
  rw [decide_eq_false (by omega)];rfl
 ·simp only [z_247,zd,zL,zPm]
  refine zWm ?_
  have g0:=zI k1 (.row [.nilFunc] 247 0 false)
  simp only [zj,zAt,zA]
  rw [zw (P:=E) ts_247 (cs:=[zRJ 245 k1.next]) g0 rfl rfl (by simp) rfl]
  simp only [zL]
  refine zWl ?_
  have e2:=(e1.new (.row [.nilFunc] 247 0 false)).upd (b:=k1.next) e1.next (some (.row (lput [.nilFunc] 0 [zRJ 245 k1.next]) 247 0 false))
  have g2:((k1.new (.row [.nilFunc] 247 0 false)).upd k1.next (some (.row (lput [.nilFunc] 0 [zRJ 245 k1.next]) 247 0 false))).get k1.next=some (.row [zRJ 245 k1.next] 247 0 false):=zR _ _ _
  have t2:((k1.new (.row [.nilFunc] 247 0 false)).upd k1.next (some (.row (lput [.nilFunc] 0 [zRJ 245 k1.next]) 247 0 false))).get k.next=some (.row [.int .i64 kk,.int .i64 nn,v] 173 0 false):=by
   rw [zU (by omega),zK (by omega)];exact t1
  have w2:k.next<=((k1.new (.row [.nilFunc] 247 0 false)).upd k1.next (some (.row (lput [.nilFunc] 0 [zRJ 245 k1.next]) 247 0 false))).wm:=z9 (by rw [zC9];omega) (by omega)
  have n2:((k1.new (.row [.nilFunc] 247 0 false)).upd k1.next (some (.row (lput [.nilFunc] 0 [zRJ 245 k1.next]) 247 0 false))).next=k1.next+1:=rfl
  generalize ((k1.new (.row [.nilFunc] 247 0 false)).upd k1.next (some (.row (lput [.nilFunc] 0 [zRJ 245 k1.next]) 247 0 false)))=k2 at e2 g2 t2 w2 n2
  have lc:=zF (P:=E) ta_247 (o:=0) g2
  have lt2:=za (P:=E) zB9 (o:=0) t2 (by simp)
  simp only [lnth,List.drop_zero,List.take] at lc lt2
  simp only [lc,lt2,zA,zD9,List.nil_append,List.cons_append,zRe hr kk nn _ _ e2 (by omega) g2,zN,zAJ,zT,true_and]
  refine ⟨?_,w2⟩
  unfold zFn
  rw [decide_eq_true (by omega)];rfl
end Go.Proofs
