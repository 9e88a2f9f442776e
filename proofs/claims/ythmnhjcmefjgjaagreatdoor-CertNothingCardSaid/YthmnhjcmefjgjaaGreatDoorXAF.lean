import Derived.Test.YthmnhjcmefjgjaaGreatDoorXAE
set_option linter.all false
set_option linter.unusedSectionVars false
set_option autoImplicit true
set_option relaxedAutoImplicit true
namespace Go.Proofs
open Go Go.AM
set_option maxRecDepth 100000
variable {s:Bool} {K:KF} {h:AH} {a:Option Addr} {n c:Nat} {v v0 v1 v2 v3 v4 v5 v6 v7 v8 v9 v10 v11 v12 v14 v15 v16 v17 v18 v20 v21 v22 v24 v65 v66 v67 v111 v112 v113 v143 v144 v145:Value} {h1:AH} {Rp:Value->AH->Prop}
noncomputable def B28:Code:=ze Tryz.f28
noncomputable def C28 (s:Bool):Cx:=⟨E,s,none,B28,[([0],[0,1]),([1,0],[2,3])],[4],[]⟩
theorem P28_0_of (H :
 Ev s (zP 36 h v0) fun x0=>
 Ev s (zP 36 x0.2 v1) fun x1=>
 PI (C28 s) K 1 [x0.1,x1.1] x1.2):PI (C28 s) K 0 [v0,v1] h:=zB H
theorem P28_1_of (H :
 EvO (zG E 36 h v2) fun x0=>
 EvO (zG E 36 h v3) fun x1=>
 Ev s (zV (zX E) (some (.func (.func 88) #[] #[])) [x0,x1] h) fun x2=>
 EvO (zF E .eql 3 x2.1 (.int .i64 0)) fun x3=>
 K .ret [x3] x2.2):PI (C28 s) K 1 [v2,v3] h:=zB H
theorem F28_flat (hok:h.ok) (hv:zg v=true) (H:PI (C28 s) (KR E [.tmp 4] fun x k=>x=v/\h.next<=k.wm) 0 [v0,v1] h.fresh):(zX E).call 28 [v0,v1] h=some [(v,h)]:=zAT Tryz.f28 hok hv (zz (C28 s) H)
noncomputable def B88:Code:=ze Tryz.f88
noncomputable def C88 (s:Bool):Cx:=⟨E,s,none,B88,[([0],[0,1]),([1,0,0],[2,3]),([1,0,1,0],[2,3,5]),([1,0,1,1,0,0],[5]),([1,1,0],[2,3])],[4],[]⟩
theorem P88_0_of (H :
 Ev s (zP 36 h v0) fun x0=>
 Ev s (zP 36 x0.2 v1) fun x1=>
 PI (C88 s) K 1 [x0.1,x1.1] x1.2):PI (C88 s) K 0 [v0,v1] h:=zB H
theorem P88_1_of (H :
 EvO (zC E 36 0 v2) fun x0=>
 EvO (zG E 3 h x0) fun x1=>
 EvO (zC E 36 0 v3) fun x2=>
 EvO (zG E 3 h x2) fun x3=>
 Ev s (zV (zX E) (some (.func (.func 94) #[] #[])) [x1,x3] h) fun x4=>
 PI (C88 s) K 2 [v2,v3,x4.1] x4.2):PI (C88 s) K 1 [v2,v3] h:=zB H
theorem P88_2_of (H :
 EvO (zF E .neq 3 v5 (.int .i64 0)) fun x1=>
 BrK x1 (PI (C88 s) K 3 [v5] h) (PI (C88 s) K 4 [v2,v3] h)):PI (C88 s) K 2 [v2,v3,v5] h:=zB H
theorem P88_3_of (H :
 K .ret [v5] h):PI (C88 s) K 3 [v5] h:=zB H
theorem P88_4_of (H :
 EvO (zC E 36 1 v2) fun x0=>
 EvO (zG E 34 h x0) fun x1=>
 EvO (zC E 36 1 v3) fun x2=>
 EvO (zG E 34 h x2) fun x3=>
 Ev s (zV (zX E) (some (.func (.func 140) #[] #[])) [x1,x3] h) fun x4=>
 K .ret [x4.1] x4.2):PI (C88 s) K 4 [v2,v3] h:=zB H
theorem F88_flat (hok:h.ok) (hv:zg v=true) (H:PI (C88 s) (KR E [.tmp 4] fun x k=>x=v/\h.next<=k.wm) 0 [v0,v1] h.fresh):(zX E).call 88 [v0,v1] h=some [(v,h)]:=zAT Tryz.f88 hok hv (zz (C88 s) H)
noncomputable def B140:Code:=ze Tryz.f140
noncomputable def C140 (s:Bool):Cx:=⟨E,s,none,B140,[([0],[0,1]),([1,0,0],[0,1]),([1,0,1,0,0,0,0],[0,1,5]),([1,0,1,0,0,1,0,0,0],[0,1,5]),([1,0,1,0,0,1,0,0,1,0],[0,1,5,6]),([1,0,1,0,0,1,0,0,1,1,0,0],[6]),([1,0,1,0,0,1,1],[0,1,5]),([1,1,0],[0,1])],[4],[]⟩
abbrev P140_2 (s:Bool) (K:KF) (v0 v1 v5:Value) (h:AH):Prop:=PI (C140 s) K 2 [v0,v1,v5] h
abbrev P140_7 (s:Bool) (K:KF) (v0 v1:Value) (h:AH):Prop:=PI (C140 s) K 7 [v0,v1] h
theorem P140_0_of (H :
 PI (C140 s) K 1 [v0,v1] h):PI (C140 s) K 0 [v0,v1] h:=zB H
theorem P140_1_of (H :
 PI (C140 s) K 2 [v0,v1,(.int .i64 0)] h):PI (C140 s) K 1 [v0,v1] h:=zB H
theorem P140_2_of (H :
 EvO (zM E (zm [(8,v0)]) (zr B140 [1,0,1,0,0,0,0] 2) h) fun x2=>
 EvO (zF E .lss 3 v5 x2) fun x3=>
 EvO (gdB x3 true v5) fun x5=>
 EvO (gdB x3 true v1) fun x6=>
 EvO (gdB x3 true (zM E (zm [(13,x6)]) (zr B140 [1,0,1,0,0,0,0] 7) h)) fun x7=>
 EvO (gdB x3 true (zF E .lss 3 x5 x7)) fun x8=>
 EvO (z0 x3 x8 (some (.bool false))) fun x9=>
 BrK x9 (PI (C140 s) K 3 [v0,v1,v5] h) (PI (C140 s) K 7 [v0,v1] h)):PI (C140 s) K 2 [v0,v1,v5] h:=zB H
theorem len140_2_2:zM E (zm [(8,.slice a n c)]) (zr B140 [1,0,1,0,0,0,0] 2) h=some (.int .i64 (n:Int)):=by cases a <;> kernel_rfl
theorem len140_2_7:zM E (zm [(13,.slice a n c)]) (zr B140 [1,0,1,0,0,0,0] 7) h=some (.int .i64 (n:Int)):=by cases a <;> kernel_rfl
theorem P140_3_of (H :
 EvO (zH E 34 v0 v5) fun x2=>
 EvO (zG E 173 h x2) fun x3=>
 EvO (zH E 34 v1 v5) fun x6=>
 EvO (zG E 173 h x6) fun x7=>
 Ev s (zV (zX E) (some (.func (.func 188) #[] #[])) [x3,x7] h) fun x8=>
 PI (C140 s) K 4 [v0,v1,v5,x8.1] x8.2):PI (C140 s) K 3 [v0,v1,v5] h:=zB H
theorem P140_4_of (H :
 EvO (zF E .neq 3 v6 (.int .i64 0)) fun x1=>
 BrK x1 (PI (C140 s) K 5 [v6] h) (PI (C140 s) K 6 [v0,v1,v5] h)):PI (C140 s) K 4 [v0,v1,v5,v6] h:=zB H
theorem P140_5_of (H :
 K .ret [v6] h):PI (C140 s) K 5 [v6] h:=zB H
theorem P140_6_of (H :
 EvO (zF E .add 3 v5 (.int .i64 1)) fun x1=>
 PI (C140 s) K 2 [v0,v1,x1] h):PI (C140 s) K 6 [v0,v1,v5] h:=zB H
theorem P140_7_of (H :
 EvO (zM E (zm [(31,v0)]) (zr B140 [1,1,0] 1) h) fun x1=>
 EvO (zM E (zm [(33,v1)]) (zr B140 [1,1,0] 3) h) fun x3=>
 Ev s (zV (zX E) (some (.func (.func 94) #[] #[])) [x1,x3] h) fun x4=>
 K .ret [x4.1] x4.2):PI (C140 s) K 7 [v0,v1] h:=zB H
theorem len140_7_1:zM E (zm [(31,.slice a n c)]) (zr B140 [1,1,0] 1) h=some (.int .i64 (n:Int)):=by cases a <;> kernel_rfl
theorem len140_7_3:zM E (zm [(33,.slice a n c)]) (zr B140 [1,1,0] 3) h=some (.int .i64 (n:Int)):=by cases a <;> kernel_rfl
theorem F140_flat (hok:h.ok) (hv:zg v=true) (H:PI (C140 s) (KR E [.tmp 4] fun x k=>x=v/\h.next<=k.wm) 0 [v0,v1] h.fresh):(zX E).call 140 [v0,v1] h=some [(v,h)]:=zAT Tryz.f140 hok hv (zz (C140 s) H)
noncomputable def B188:Code:=ze Tryz.f188
noncomputable def C188 (s:Bool):Cx:=⟨E,s,none,B188,[([0],[0,1]),([1,0],[2,3]),([1,1,0,0],[2,3,5]),([1,1,0,1,0],[2,3]),([1,1,1,0,0],[2,3,5]),([1,1,1,0,1,0],[2,3]),([1,1,1,1,0,0],[2,3,5]),([1,1,1,1,0,1,0,0,0,0],[2,3,5,6]),([1,1,1,1,0,1,0,0,1,0,0],[2,3,6]),([1,1,1,1,0,1,0,0,1,1],[2,3,5,6]),([1,1,1,1,1,0],[5])],[4],[]⟩
abbrev P188_7 (s:Bool) (K:KF) (v2 v3 v5 v6:Value) (h:AH):Prop:=PI (C188 s) K 7 [v2,v3,v5,v6] h
abbrev P188_10 (s:Bool) (K:KF) (v5:Value) (h:AH):Prop:=PI (C188 s) K 10 [v5] h
theorem P188_0_of (H :
 Ev s (zP 173 h v0) fun x0=>
 Ev s (zP 173 x0.2 v1) fun x1=>
 PI (C188 s) K 1 [x0.1,x1.1] x1.2):PI (C188 s) K 0 [v0,v1] h:=zB H
theorem P188_1_of (H :
 EvO (zC E 173 0 v2) fun x0=>
 EvO (zG E 3 h x0) fun x1=>
 EvO (zC E 173 0 v3) fun x2=>
 EvO (zG E 3 h x2) fun x3=>
 Ev s (zV (zX E) (some (.func (.func 232) #[] #[])) [x1,x3] h) fun x4=>
 PI (C188 s) K 2 [v2,v3,x4.1] x4.2):PI (C188 s) K 1 [v2,v3] h:=zB H
theorem P188_2_of (H :
 EvO (zF E .eql 3 v5 (.int .i64 0)) fun x1=>
 BrK x1 (PI (C188 s) K 3 [v2,v3] h) (PI (C188 s) K 4 [v2,v3,v5] h)):PI (C188 s) K 2 [v2,v3,v5] h:=zB H
theorem P188_3_of (H :
 EvO (zC E 173 1 v2) fun x0=>
 EvO (zG E 3 h x0) fun x1=>
 EvO (zC E 173 1 v3) fun x2=>
 EvO (zG E 3 h x2) fun x3=>
 Ev s (zV (zX E) (some (.func (.func 232) #[] #[])) [x1,x3] h) fun x4=>
 PI (C188 s) K 4 [v2,v3,x4.1] x4.2):PI (C188 s) K 3 [v2,v3] h:=zB H
theorem P188_4_of (H :
 EvO (zF E .eql 3 v5 (.int .i64 0)) fun x1=>
 BrK x1 (PI (C188 s) K 5 [v2,v3] h) (PI (C188 s) K 6 [v2,v3,v5] h)):PI (C188 s) K 4 [v2,v3,v5] h:=zB H
theorem P188_5_of (H :
 EvO (zC E 173 2 v2) fun x0=>
 EvO (zG E 34 h x0) fun x1=>
 EvO (zM E (zm [(22,x1)]) (zr B188 [1,1,1,0,1,0] 2) h) fun x2=>
 EvO (zC E 173 2 v3) fun x3=>
 EvO (zG E 34 h x3) fun x4=>
 EvO (zM E (zm [(25,x4)]) (zr B188 [1,1,1,0,1,0] 5) h) fun x5=>
 Ev s (zV (zX E) (some (.func (.func 232) #[] #[])) [x2,x5] h) fun x6=>
 PI (C188 s) K 6 [v2,v3,x6.1] x6.2):PI (C188 s) K 5 [v2,v3] h:=zB H
theorem len188_5_2:zM E (zm [(22,.slice a n c)]) (zr B188 [1,1,1,0,1,0] 2) h=some (.int .i64 (n:Int)):=by cases a <;> kernel_rfl
theorem len188_5_5:zM E (zm [(25,.slice a n c)]) (zr B188 [1,1,1,0,1,0] 5) h=some (.int .i64 (n:Int)):=by cases a <;> kernel_rfl
theorem P188_6_of (H :
 PI (C188 s) K 7 [v2,v3,v5,(.int .i64 0)] h):PI (C188 s) K 6 [v2,v3,v5] h:=zB H
theorem P188_7_of (H :
 EvO (zC E 173 2 v2) fun x1=>
 EvO (zG E 34 h x1) fun x2=>
 EvO (zM E (zm [(30,x2)]) (zr B188 [1,1,1,1,0,1,0,0,0,0] 3) h) fun x3=>
 EvO (zF E .lss 3 v6 x3) fun x4=>
 EvO (gdB x4 true v5) fun x6=>
 EvO (gdB x4 true (zF E .eql 3 x6 (.int .i64 0))) fun x7=>
 EvO (z0 x4 x7 (some (.bool false))) fun x8=>
 BrK x8 (PI (C188 s) K 8 [v2,v3,v6] h) (PI (C188 s) K 10 [v5] h)):PI (C188 s) K 7 [v2,v3,v5,v6] h:=zB H
theorem len188_7_3:zM E (zm [(30,.slice a n c)]) (zr B188 [1,1,1,1,0,1,0,0,0,0] 3) h=some (.int .i64 (n:Int)):=by cases a <;> kernel_rfl
theorem P188_8_of (H :
 EvO (zC E 173 2 v2) fun x0=>
 EvO (zG E 34 h x0) fun x1=>
 EvO (zH E 34 x1 v6) fun x3=>
 EvO (zG E 173 h x3) fun x4=>
 EvO (zC E 173 2 v3) fun x5=>
 EvO (zG E 34 h x5) fun x6=>
 EvO (zH E 34 x6 v6) fun x8=>
 EvO (zG E 173 h x8) fun x9=>
 Ev s (zV (zX E) (some (.func (.func 188) #[] #[])) [x4,x9] h) fun x10=>
 PI (C188 s) K 9 [v2,v3,x10.1,v6] x10.2):PI (C188 s) K 8 [v2,v3,v6] h:=zB H
theorem P188_9_of (H :
 EvO (zF E .add 3 v6 (.int .i64 1)) fun x1=>
 PI (C188 s) K 7 [v2,v3,v5,x1] h):PI (C188 s) K 9 [v2,v3,v5,v6] h:=zB H
theorem P188_10_of (H :
 K .ret [v5] h):PI (C188 s) K 10 [v5] h:=zB H
theorem F188_flat (hok:h.ok) (hv:zg v=true) (H:PI (C188 s) (KR E [.tmp 4] fun x k=>x=v/\h.next<=k.wm) 0 [v0,v1] h.fresh):(zX E).call 188 [v0,v1] h=some [(v,h)]:=zAT Tryz.f188 hok hv (zz (C188 s) H)
noncomputable def B232:Code:=ze Tryz.f232
noncomputable def C232 (s:Bool):Cx:=⟨E,s,none,B232,[([0],[0,1]),([1,0,0],[0,1]),([1,0,1,0,0],[]),([1,1,0,0],[0,1]),([1,1,0,1,0,0],[]),([1,1,1,0],[])],[4],[]⟩
theorem P232_0_of (H :
 PI (C232 s) K 1 [v0,v1] h):PI (C232 s) K 0 [v0,v1] h:=zB H
theorem P232_1_of (H :
 EvO (zF E .lss 3 v0 v1) fun x2=>
 BrK x2 (PI (C232 s) K 2 [] h) (PI (C232 s) K 3 [v0,v1] h)):PI (C232 s) K 1 [v0,v1] h:=zB H
theorem P232_2_of (H :
 K .ret [(.int .i64 (-1))] h):PI (C232 s) K 2 [] h:=zB H
theorem P232_3_of (H :
 EvO (zF E .gtr 3 v0 v1) fun x2=>
 BrK x2 (PI (C232 s) K 4 [] h) (PI (C232 s) K 5 [] h)):PI (C232 s) K 3 [v0,v1] h:=zB H
theorem P232_4_of (H :
 K .ret [(.int .i64 1)] h):PI (C232 s) K 4 [] h:=zB H
theorem P232_5_of (H :
 K .ret [(.int .i64 0)] h):PI (C232 s) K 5 [] h:=zB H
theorem F232_flat (hok:h.ok) (hv:zg v=true) (H:PI (C232 s) (KR E [.tmp 4] fun x k=>x=v/\h.next<=k.wm) 0 [v0,v1] h.fresh):(zX E).call 232 [v0,v1] h=some [(v,h)]:=zAT Tryz.f232 hok hv (zz (C232 s) H)
noncomputable def B264:Code:=ze Tryz.f264
noncomputable def C264 (s:Bool):Cx:=⟨E,s,none,B264,[([0],[0]),([1,0],[1]),([1,1,0],[1,4])],[2],[]⟩
theorem P264_0_of (H :
 Ev s (zP 173 h v0) fun x0=>
 PI (C264 s) K 1 [x0.1] x0.2):PI (C264 s) K 0 [v0] h:=zB H
theorem P264_1_of (H :
 EvO (zG E 173 h v1) fun x0=>
 Ev s (zV (zX E) (some (.func (.func 280) #[] #[])) (some [x0,(.int .i64 2000),(.int .i64 1)]) h) fun x1=>
 EvO (zAJ 0 x1.1) fun x3=>
 EvO (zAJ 1 x1.1) fun x4=>
 PI (C264 s) K 2 [v1,x4] x1.2):PI (C264 s) K 1 [v1] h:=zB H
theorem P264_2_of (H :
 EvO (gdB v4 true (zG E 173 h v1)) fun x2=>
 Ev s (gdW v4 true (zV (zX E) (some (.func (.func 281) #[] #[])) [x2] h) h) fun x3=>
 EvO (z0 v4 x3.1 (some (.bool false))) fun x4=>
 K .ret [x4] x3.2):PI (C264 s) K 2 [v1,v4] h:=zB H
theorem F264_flatE {Rp:Value->Prop} (hok:h.ok) (H:PI (C264 true) (KR E [.tmp 2] fun x k=>(zj x=true/\Rp x)/\h.next<=k.wm) 0 [v0] h.fresh):∃ v,Rp v/\(zX E).call 264 [v0] h=some [(v,h)]:=flatFE Tryz.f264 hok (zz (C264 true) H)
noncomputable def B231:Code:=ze Tryz.f231
noncomputable def C231 (s:Bool):Cx:=⟨E,s,none,B231,[([0],[0]),([1,0,0],[1]),([1,0,1,0,0],[]),([1,1,0],[])],[2],[]⟩
theorem P231_0_of (H :
 Ev s (zP 173 h v0) fun x0=>
 PI (C231 s) K 1 [x0.1] x0.2):PI (C231 s) K 0 [v0] h:=zB H
theorem P231_1_of (H :
 EvO (zG E 173 h v1) fun x0=>
 Ev s (zV (zX E) (some (.func (.func 264) #[] #[])) [x0] h) fun x1=>
 EvO (zAY .not x1.1) fun x2=>
 BrK x2 (PI (C231 s) K 2 [] x1.2) (PI (C231 s) K 3 [] x1.2)):PI (C231 s) K 1 [v1] h:=zB H
theorem P231_2_of (H :
 K .ret [(.int .i64 4)] h):PI (C231 s) K 2 [] h:=zB H
theorem P231_3_of (H :
 K .ret [(.int .i64 0)] h):PI (C231 s) K 3 [] h:=zB H
theorem F231_flatE {Rp:Value->Prop} (hok:h.ok) (H:PI (C231 true) (KR E [.tmp 2] fun x k=>(zj x=true/\Rp x)/\h.next<=k.wm) 0 [v0] h.fresh):∃ v,Rp v/\(zX E).call 231 [v0] h=some [(v,h)]:=flatFE Tryz.f231 hok (zz (C231 true) H)
noncomputable def B280:Code:=ze Tryz.f280
noncomputable def C280 (s:Bool):Cx:=⟨E,s,none,B280,[([0],[0,1,2]),([1,0],[1,2,3]),([1,1,0,0],[1,2,3]),([1,1,0,1,0,0],[1]),([1,1,1,0,0],[1,2,3]),([1,1,1,0,1,0,0,0,0],[1,2,3,8]),([1,1,1,0,1,0,0,1,0,0,0],[1,2,3,8]),([1,1,1,0,1,0,0,1,0,0,1,0],[2,3,8,9,10]),([1,1,1,0,1,0,0,1,0,0,1,1,0],[1,2,3,8,10]),([1,1,1,0,1,0,0,1,0,0,1,1,1,0,0],[1]),([1,1,1,0,1,0,0,1,1],[1,2,3,8]),([1,1,1,1,0],[1])],[6,7],[]⟩
abbrev P280_3 (s:Bool) (K:KF) (v1:Value) (h:AH):Prop:=PI (C280 s) K 3 [v1] h
abbrev P280_4 (s:Bool) (K:KF) (v1 v2 v3:Value) (h:AH):Prop:=PI (C280 s) K 4 [v1,v2,v3] h
abbrev P280_5 (s:Bool) (K:KF) (v1 v2 v3 v8:Value) (h:AH):Prop:=PI (C280 s) K 5 [v1,v2,v3,v8] h
abbrev P280_9 (s:Bool) (K:KF) (v1:Value) (h:AH):Prop:=PI (C280 s) K 9 [v1] h
abbrev P280_11 (s:Bool) (K:KF) (v1:Value) (h:AH):Prop:=PI (C280 s) K 11 [v1] h
theorem P280_0_of (H :
 Ev s (zP 173 h v0) fun x0=>
 PI (C280 s) K 1 [v1,v2,x0.1] x0.2):PI (C280 s) K 0 [v0,v1,v2] h:=zB H
theorem P280_1_of (H :
 EvO (zF E .sub 3 v1 (.int .i64 1)) fun x1=>
 PI (C280 s) K 2 [x1,v2,v3] h):PI (C280 s) K 1 [v1,v2,v3] h:=zB H
theorem P280_2_of (H :
 EvO (zF E .lss 3 v1 (.int .i64 0)) fun x1=>
 EvO (gdB x1 false v2) fun x3=>
 EvO (gdB x1 false (zF E .gtr 3 x3 (.int .i64 200))) fun x4=>
 EvO (z0 x1 (some (.bool true)) x4) fun x5=>
 BrK x5 (PI (C280 s) K 3 [v1] h) (PI (C280 s) K 4 [v1,v2,v3] h)):PI (C280 s) K 2 [v1,v2,v3] h:=zB H
theorem P280_3_of (H :
 K .ret [v1,(.bool false)] h):PI (C280 s) K 3 [v1] h:=zB H
theorem P280_4_of (H :
 PI (C280 s) K 5 [v1,v2,v3,(.int .i64 0)] h):PI (C280 s) K 4 [v1,v2,v3] h:=zB H
theorem P280_5_of (H :
 EvO (zC E 173 2 v3) fun x1=>
 EvO (zG E 34 h x1) fun x2=>
 EvO (zM E (zm [(22,x2)]) (zr B280 [1,1,1,0,1,0,0,0,0] 3) h) fun x3=>
 EvO (zF E .lss 3 v8 x3) fun x4=>
 BrK x4 (PI (C280 s) K 6 [v1,v2,v3,v8] h) (PI (C280 s) K 11 [v1] h)):PI (C280 s) K 5 [v1,v2,v3,v8] h:=zB H
theorem len280_5_3:zM E (zm [(22,.slice a n c)]) (zr B280 [1,1,1,0,1,0,0,0,0] 3) h=some (.int .i64 (n:Int)):=by cases a <;> kernel_rfl
theorem P280_6_of (H :
 EvO (zC E 173 2 v3) fun x0=>
 EvO (zG E 34 h x0) fun x1=>
 EvO (zH E 34 x1 v8) fun x3=>
 EvO (zG E 173 h x3) fun x4=>
 EvO (zF E .add 3 v2 (.int .i64 1)) fun x7=>
 Ev s (zV (zX E) (some (.func (.func 280) #[] #[])) [x4,v1,x7] h) fun x8=>
 EvO (zAJ 0 x8.1) fun x10=>
 EvO (zAJ 1 x8.1) fun x11=>
 PI (C280 s) K 7 [v2,v3,v8,x10,x11] x8.2):PI (C280 s) K 6 [v1,v2,v3,v8] h:=zB H
theorem P280_7_of (H :
 PI (C280 s) K 8 [v9,v2,v3,v8,v10] h):PI (C280 s) K 7 [v2,v3,v8,v9,v10] h:=zB H
theorem P280_8_of (H :
 EvO (zAY .not v10) fun x1=>
 BrK x1 (PI (C280 s) K 9 [v1] h) (PI (C280 s) K 10 [v1,v2,v3,v8] h)):PI (C280 s) K 8 [v1,v2,v3,v8,v10] h:=zB H
theorem P280_9_of (H :
 K .ret [v1,(.bool false)] h):PI (C280 s) K 9 [v1] h:=zB H
theorem P280_10_of (H :
 EvO (zF E .add 3 v8 (.int .i64 1)) fun x1=>
 PI (C280 s) K 5 [v1,v2,v3,x1] h):PI (C280 s) K 10 [v1,v2,v3,v8] h:=zB H
theorem P280_11_of (H :
 K .ret [v1,(.bool true)] h):PI (C280 s) K 11 [v1] h:=zB H
theorem F280_flatE {Rp:Value->Prop} (hok:h.ok) (H:PI (C280 true) (KR E [.tmp 6,.tmp 7] fun x k=>(zj x=true/\Rp x)/\h.next<=k.wm) 0 [v0,v1,v2] h.fresh):∃ v,Rp v/\(zX E).call 280 [v0,v1,v2] h=some [(v,h)]:=flatFE Tryz.f280 hok (zz (C280 true) H)
noncomputable def B281:Code:=ze Tryz.f281
noncomputable def C281 (s:Bool):Cx:=⟨E,s,none,B281,[([0],[0]),([1,0,0],[1]),([1,0,1,0,0],[]),([1,1,0,0],[1]),([1,1,0,1,0,0,0,0],[1,3]),([1,1,0,1,0,0,1,0,0,0],[1,3]),([1,1,0,1,0,0,1,0,0,1,0,0],[]),([1,1,0,1,0,0,1,1],[1,3]),([1,1,1,0],[])],[2],[]⟩
abbrev P281_2 (s:Bool) (K:KF) (h:AH):Prop:=PI (C281 s) K 2 [] h
abbrev P281_3 (s:Bool) (K:KF) (v1:Value) (h:AH):Prop:=PI (C281 s) K 3 [v1] h
abbrev P281_4 (s:Bool) (K:KF) (v1 v3:Value) (h:AH):Prop:=PI (C281 s) K 4 [v1,v3] h
abbrev P281_6 (s:Bool) (K:KF) (h:AH):Prop:=PI (C281 s) K 6 [] h
abbrev P281_8 (s:Bool) (K:KF) (h:AH):Prop:=PI (C281 s) K 8 [] h
theorem P281_0_of (H :
 Ev s (zP 173 h v0) fun x0=>
 PI (C281 s) K 1 [x0.1] x0.2):PI (C281 s) K 0 [v0] h:=zB H
theorem P281_1_of (H :
 EvO (zC E 173 1 v1) fun x0=>
 EvO (zG E 3 h x0) fun x1=>
 EvO (zF E .lss 3 x1 (.int .i64 0)) fun x2=>
 EvO (gdB x2 false (zC E 173 0 v1)) fun x4=>
 EvO (gdB x2 false (zG E 3 h x4)) fun x5=>
 EvO (gdB x2 false (zF E .neq 3 x5 (.int .i64 1))) fun x6=>
 EvO (gdB x2 false x6) fun x7=>
 EvO (gdB x7 true (zC E 173 0 v1)) fun x8=>
 EvO (gdB x7 true (zG E 3 h x8)) fun x9=>
 EvO (gdB x7 true (zF E .neq 3 x9 (.int .i64 2))) fun x10=>
 EvO (gdB x2 false (z0 x7 x10 (some (.bool false)))) fun x11=>
 EvO (z0 x2 (some (.bool true)) x11) fun x12=>
 EvO (gdB x12 false (zC E 173 0 v1)) fun x14=>
 EvO (gdB x12 false (zG E 3 h x14)) fun x15=>
 EvO (gdB x12 false (zF E .eql 3 x15 (.int .i64 1))) fun x16=>
 EvO (gdB x12 false x16) fun x17=>
 EvO (gdB x17 true (zC E 173 2 v1)) fun x18=>
 EvO (gdB x17 true (zG E 34 h x18)) fun x19=>
 EvO (gdB x17 true (zM E (zm [(23,x19)]) (zr B281 [1,0,0] 20) h)) fun x20=>
 EvO (gdB x17 true (zF E .gtr 3 x20 (.int .i64 0))) fun x21=>
 EvO (gdB x12 false (z0 x17 x21 (some (.bool false)))) fun x22=>
 EvO (z0 x12 (some (.bool true)) x22) fun x23=>
 EvO (gdB x23 false (zC E 173 2 v1)) fun x25=>
 EvO (gdB x23 false (zG E 34 h x25)) fun x26=>
 EvO (gdB x23 false (zM E (zm [(30,x26)]) (zr B281 [1,0,0] 27) h)) fun x27=>
 EvO (gdB x23 false (zF E .gtr 3 x27 (.int .i64 8))) fun x28=>
 EvO (z0 x23 (some (.bool true)) x28) fun x29=>
 BrK x29 (PI (C281 s) K 2 [] h) (PI (C281 s) K 3 [v1] h)):PI (C281 s) K 1 [v1] h:=zB H
theorem len281_1_20:zM E (zm [(23,.slice a n c)]) (zr B281 [1,0,0] 20) h=some (.int .i64 (n:Int)):=by cases a <;> kernel_rfl
theorem len281_1_27:zM E (zm [(30,.slice a n c)]) (zr B281 [1,0,0] 27) h=some (.int .i64 (n:Int)):=by cases a <;> kernel_rfl
theorem P281_2_of (H :
 K .ret [(.bool false)] h):PI (C281 s) K 2 [] h:=zB H
theorem P281_3_of (H :
 PI (C281 s) K 4 [v1,(.int .i64 0)] h):PI (C281 s) K 3 [v1] h:=zB H
theorem P281_4_of (H :
 EvO (zC E 173 2 v1) fun x1=>
 EvO (zG E 34 h x1) fun x2=>
 EvO (zM E (zm [(36,x2)]) (zr B281 [1,1,0,1,0,0,0,0] 3) h) fun x3=>
 EvO (zF E .lss 3 v3 x3) fun x4=>
 BrK x4 (PI (C281 s) K 5 [v1,v3] h) (PI (C281 s) K 8 [] h)):PI (C281 s) K 4 [v1,v3] h:=zB H
theorem len281_4_3:zM E (zm [(36,.slice a n c)]) (zr B281 [1,1,0,1,0,0,0,0] 3) h=some (.int .i64 (n:Int)):=by cases a <;> kernel_rfl
theorem P281_5_of (H :
 EvO (zC E 173 2 v1) fun x0=>
 EvO (zG E 34 h x0) fun x1=>
 EvO (zH E 34 x1 v3) fun x3=>
 EvO (zG E 173 h x3) fun x4=>
 Ev s (zV (zX E) (some (.func (.func 281) #[] #[])) [x4] h) fun x5=>
 EvO (zAY .not x5.1) fun x6=>
 BrK x6 (PI (C281 s) K 6 [] x5.2) (PI (C281 s) K 7 [v1,v3] x5.2)):PI (C281 s) K 5 [v1,v3] h:=zB H
theorem P281_6_of (H :
 K .ret [(.bool false)] h):PI (C281 s) K 6 [] h:=zB H
theorem P281_7_of (H :
 EvO (zF E .add 3 v3 (.int .i64 1)) fun x1=>
 PI (C281 s) K 4 [v1,x1] h):PI (C281 s) K 7 [v1,v3] h:=zB H
theorem P281_8_of (H :
 K .ret [(.bool true)] h):PI (C281 s) K 8 [] h:=zB H
theorem F281_flatE {Rp:Value->Prop} (hok:h.ok) (H:PI (C281 true) (KR E [.tmp 2] fun x k=>(zj x=true/\Rp x)/\h.next<=k.wm) 0 [v0] h.fresh):∃ v,Rp v/\(zX E).call 281 [v0] h=some [(v,h)]:=flatFE Tryz.f281 hok (zz (C281 true) H)
noncomputable def B187:Code:=ze Tryz.f187
noncomputable def C187 (s:Bool):Cx:=⟨E,s,none,B187,[([0],[0]),([1,0],[1])],[2],[]⟩
theorem P187_0_of (H :
 Ev s (zP 173 h v0) fun x0=>
 PI (C187 s) K 1 [x0.1] x0.2):PI (C187 s) K 0 [v0] h:=zB H
theorem P187_1_of (H :
 EvO (zG E 173 h v1) fun x0=>
 Ev s (zV (zX E) (some (.func (.func 230) #[] #[])) [x0] h) fun x1=>
 EvO (gdB x1.1 true (zG E 173 x1.2 v1)) fun x3=>
 Ev s (gdW x1.1 true (zV (zX E) (some (.func (.func 231) #[] #[])) [x3] x1.2) x1.2) fun x4=>
 EvO (gdB x1.1 true (zF E .eql 29 x4.1 (.int .i64 0))) fun x5=>
 EvO (z0 x1.1 x5 (some (.bool false))) fun x6=>
 K .ret [x6] x4.2):PI (C187 s) K 1 [v1] h:=zB H
theorem F187_flatE {Rp:Value->Prop} (hok:h.ok) (H:PI (C187 true) (KR E [.tmp 2] fun x k=>(zj x=true/\Rp x)/\h.next<=k.wm) 0 [v0] h.fresh):∃ v,Rp v/\(zX E).call 187 [v0] h=some [(v,h)]:=flatFE Tryz.f187 hok (zz (C187 true) H)
noncomputable def B230:Code:=ze Tryz.f230
noncomputable def C230 (s:Bool):Cx:=⟨E,s,none,B230,[([0],[0]),([1,0,0],[1]),([1,0,1,0,0],[]),([1,1,0,0],[1]),([1,1,0,1,0,0,0,0],[1,3]),([1,1,0,1,0,0,1,0,0,0],[1,3]),([1,1,0,1,0,0,1,0,0,1,0],[1,3,4]),([1,1,0,1,0,0,1,0,0,1,1,0,0],[]),([1,1,0,1,0,0,1,1],[1,3]),([1,1,1,0],[])],[2],[]⟩
abbrev P230_2 (s:Bool) (K:KF) (h:AH):Prop:=PI (C230 s) K 2 [] h
abbrev P230_3 (s:Bool) (K:KF) (v1:Value) (h:AH):Prop:=PI (C230 s) K 3 [v1] h
abbrev P230_4 (s:Bool) (K:KF) (v1 v3:Value) (h:AH):Prop:=PI (C230 s) K 4 [v1,v3] h
abbrev P230_7 (s:Bool) (K:KF) (h:AH):Prop:=PI (C230 s) K 7 [] h
abbrev P230_9 (s:Bool) (K:KF) (h:AH):Prop:=PI (C230 s) K 9 [] h
theorem P230_0_of (H :
 Ev s (zP 173 h v0) fun x0=>
 PI (C230 s) K 1 [x0.1] x0.2):PI (C230 s) K 0 [v0] h:=zB H
theorem P230_1_of (H :
 EvO (zC E 173 0 v1) fun x0=>
 EvO (zG E 3 h x0) fun x1=>
 EvO (zF E .neq 3 x1 (.int .i64 2)) fun x2=>
 EvO (gdB x2 false (zC E 173 1 v1)) fun x4=>
 EvO (gdB x2 false (zG E 3 h x4)) fun x5=>
 EvO (gdB x2 false (zF E .lss 3 x5 (.int .i64 0))) fun x6=>
 EvO (z0 x2 (some (.bool true)) x6) fun x7=>
 EvO (gdB x7 false (zC E 173 1 v1)) fun x9=>
 EvO (gdB x7 false (zG E 3 h x9)) fun x10=>
 EvO (gdB x7 false (zF E .gtr 3 x10 (.int .i64 255))) fun x11=>
 EvO (z0 x7 (some (.bool true)) x11) fun x12=>
 EvO (gdB x12 false (zC E 173 2 v1)) fun x14=>
 EvO (gdB x12 false (zG E 34 h x14)) fun x15=>
 EvO (gdB x12 false (zM E (zm [(20,x15)]) (zr B230 [1,0,0] 16) h)) fun x16=>
 EvO (gdB x12 false (zF E .gtr 3 x16 (.int .i64 8))) fun x17=>
 EvO (z0 x12 (some (.bool true)) x17) fun x18=>
 BrK x18 (PI (C230 s) K 2 [] h) (PI (C230 s) K 3 [v1] h)):PI (C230 s) K 1 [v1] h:=zB H
theorem len230_1_16:zM E (zm [(20,.slice a n c)]) (zr B230 [1,0,0] 16) h=some (.int .i64 (n:Int)):=by cases a <;> kernel_rfl
theorem P230_2_of (H :
 K .ret [(.bool false)] h):PI (C230 s) K 2 [] h:=zB H
theorem P230_3_of (H :
 PI (C230 s) K 4 [v1,(.int .i64 0)] h):PI (C230 s) K 3 [v1] h:=zB H
theorem P230_4_of (H :
 EvO (zC E 173 2 v1) fun x1=>
 EvO (zG E 34 h x1) fun x2=>
 EvO (zM E (zm [(26,x2)]) (zr B230 [1,1,0,1,0,0,0,0] 3) h) fun x3=>
 EvO (zF E .lss 3 v3 x3) fun x4=>
 BrK x4 (PI (C230 s) K 5 [v1,v3] h) (PI (C230 s) K 9 [] h)):PI (C230 s) K 4 [v1,v3] h:=zB H
theorem len230_4_3:zM E (zm [(26,.slice a n c)]) (zr B230 [1,1,0,1,0,0,0,0] 3) h=some (.int .i64 (n:Int)):=by cases a <;> kernel_rfl
theorem P230_5_of (H :
 EvO (zC E 173 2 v1) fun x0=>
 EvO (zG E 34 h x0) fun x1=>
 EvO (zH E 34 x1 v3) fun x3=>
 EvO (zG E 173 h x3) fun x4=>
 Ev s (zV (zX E) (some (.func (.func 230) #[] #[])) [x4] h) fun x5=>
 PI (C230 s) K 6 [v1,v3,x5.1] x5.2):PI (C230 s) K 5 [v1,v3] h:=zB H
theorem P230_6_of (H :
 EvO (zAY .not v4) fun x1=>
 BrK x1 (PI (C230 s) K 7 [] h) (PI (C230 s) K 8 [v1,v3] h)):PI (C230 s) K 6 [v1,v3,v4] h:=zB H
theorem P230_7_of (H :
 K .ret [(.bool false)] h):PI (C230 s) K 7 [] h:=zB H
theorem P230_8_of (H :
 EvO (zF E .add 3 v3 (.int .i64 1)) fun x1=>
 PI (C230 s) K 4 [v1,x1] h):PI (C230 s) K 8 [v1,v3] h:=zB H
theorem P230_9_of (H :
 K .ret [(.bool true)] h):PI (C230 s) K 9 [] h:=zB H
theorem F230_flatE {Rp:Value->Prop} (hok:h.ok) (H:PI (C230 true) (KR E [.tmp 2] fun x k=>(zj x=true/\Rp x)/\h.next<=k.wm) 0 [v0] h.fresh):∃ v,Rp v/\(zX E).call 230 [v0] h=some [(v,h)]:=flatFE Tryz.f230 hok (zz (C230 true) H)
noncomputable def B138:Code:=ze Tryz.f138
noncomputable def C138 (s:Bool):Cx:=⟨E,s,none,B138,[([0],[0]),([1,0,0],[1]),([1,0,1,0,0],[]),([1,1,0,0],[1]),([1,1,0,1,0,0],[]),([1,1,1,0,0],[1]),([1,1,1,0,1,0,0,0,0],[1,3]),([1,1,1,0,1,0,0,1,0,0,0],[1,3]),([1,1,1,0,1,0,0,1,0,0,1,0],[1,3,4]),([1,1,1,0,1,0,0,1,0,0,1,1,0,0],[]),([1,1,1,0,1,0,0,1,1],[1,3]),([1,1,1,1,0],[])],[2],[]⟩
abbrev P138_2 (s:Bool) (K:KF) (h:AH):Prop:=PI (C138 s) K 2 [] h
abbrev P138_3 (s:Bool) (K:KF) (v1:Value) (h:AH):Prop:=PI (C138 s) K 3 [v1] h
abbrev P138_4 (s:Bool) (K:KF) (h:AH):Prop:=PI (C138 s) K 4 [] h
abbrev P138_5 (s:Bool) (K:KF) (v1:Value) (h:AH):Prop:=PI (C138 s) K 5 [v1] h
abbrev P138_6 (s:Bool) (K:KF) (v1 v3:Value) (h:AH):Prop:=PI (C138 s) K 6 [v1,v3] h
abbrev P138_9 (s:Bool) (K:KF) (h:AH):Prop:=PI (C138 s) K 9 [] h
abbrev P138_11 (s:Bool) (K:KF) (h:AH):Prop:=PI (C138 s) K 11 [] h
theorem P138_0_of (H :
 Ev s (zP 36 h v0) fun x0=>
 PI (C138 s) K 1 [x0.1] x0.2):PI (C138 s) K 0 [v0] h:=zB H
theorem P138_1_of (H :
 EvO (zC E 36 0 v1) fun x0=>
 EvO (zG E 3 h x0) fun x1=>
 EvO (zF E .lss 3 x1 (.int .i64 (-3))) fun x2=>
 EvO (gdB x2 false (zC E 36 0 v1)) fun x4=>
 EvO (gdB x2 false (zG E 3 h x4)) fun x5=>
 EvO (gdB x2 false (zF E .gtr 3 x5 (.int .i64 31))) fun x6=>
 EvO (z0 x2 (some (.bool true)) x6) fun x7=>
 EvO (gdB x7 false (zC E 36 1 v1)) fun x9=>
 EvO (gdB x7 false (zG E 34 h x9)) fun x10=>
 EvO (gdB x7 false (zM E (zm [(15,x10)]) (zr B138 [1,0,0] 11) h)) fun x11=>
 EvO (gdB x7 false (zF E .gtr 3 x11 (.int .i64 8))) fun x12=>
 EvO (z0 x7 (some (.bool true)) x12) fun x13=>
 BrK x13 (PI (C138 s) K 2 [] h) (PI (C138 s) K 3 [v1] h)):PI (C138 s) K 1 [v1] h:=zB H
theorem len138_1_11:zM E (zm [(15,.slice a n c)]) (zr B138 [1,0,0] 11) h=some (.int .i64 (n:Int)):=by cases a <;> kernel_rfl
theorem P138_2_of (H :
 K .ret [(.bool false)] h):PI (C138 s) K 2 [] h:=zB H
theorem P138_3_of (H :
 EvO (zC E 36 0 v1) fun x0=>
 EvO (zG E 3 h x0) fun x1=>
 EvO (zF E .eql 3 x1 (.int .i64 (-3))) fun x2=>
 EvO (gdB x2 false (zC E 36 0 v1)) fun x4=>
 EvO (gdB x2 false (zG E 3 h x4)) fun x5=>
 EvO (gdB x2 false (zF E .eql 3 x5 (.int .i64 (-1)))) fun x6=>
 EvO (z0 x2 (some (.bool true)) x6) fun x7=>
 EvO (gdB x7 true (zC E 36 1 v1)) fun x9=>
 EvO (gdB x7 true (zG E 34 h x9)) fun x10=>
 EvO (gdB x7 true (zM E (zm [(29,x10)]) (zr B138 [1,1,0,0] 11) h)) fun x11=>
 EvO (gdB x7 true (zF E .gtr 3 x11 (.int .i64 0))) fun x12=>
 EvO (z0 x7 x12 (some (.bool false))) fun x13=>
 BrK x13 (PI (C138 s) K 4 [] h) (PI (C138 s) K 5 [v1] h)):PI (C138 s) K 3 [v1] h:=zB H
theorem len138_3_11:zM E (zm [(29,.slice a n c)]) (zr B138 [1,1,0,0] 11) h=some (.int .i64 (n:Int)):=by cases a <;> kernel_rfl
theorem P138_4_of (H :
 K .ret [(.bool false)] h):PI (C138 s) K 4 [] h:=zB H
theorem P138_5_of (H :
 PI (C138 s) K 6 [v1,(.int .i64 0)] h):PI (C138 s) K 5 [v1] h:=zB H
theorem P138_6_of (H :
 EvO (zC E 36 1 v1) fun x1=>
 EvO (zG E 34 h x1) fun x2=>
 EvO (zM E (zm [(35,x2)]) (zr B138 [1,1,1,0,1,0,0,0,0] 3) h) fun x3=>
 EvO (zF E .lss 3 v3 x3) fun x4=>
 BrK x4 (PI (C138 s) K 7 [v1,v3] h) (PI (C138 s) K 11 [] h)):PI (C138 s) K 6 [v1,v3] h:=zB H
theorem len138_6_3:zM E (zm [(35,.slice a n c)]) (zr B138 [1,1,1,0,1,0,0,0,0] 3) h=some (.int .i64 (n:Int)):=by cases a <;> kernel_rfl
theorem P138_7_of (H :
 EvO (zC E 36 1 v1) fun x0=>
 EvO (zG E 34 h x0) fun x1=>
 EvO (zH E 34 x1 v3) fun x3=>
 EvO (zG E 173 h x3) fun x4=>
 Ev s (zV (zX E) (some (.func (.func 187) #[] #[])) [x4] h) fun x5=>
 PI (C138 s) K 8 [v1,v3,x5.1] x5.2):PI (C138 s) K 7 [v1,v3] h:=zB H
theorem P138_8_of (H :
 EvO (zAY .not v4) fun x1=>
 BrK x1 (PI (C138 s) K 9 [] h) (PI (C138 s) K 10 [v1,v3] h)):PI (C138 s) K 8 [v1,v3,v4] h:=zB H
theorem P138_9_of (H :
 K .ret [(.bool false)] h):PI (C138 s) K 9 [] h:=zB H
theorem P138_10_of (H :
 EvO (zF E .add 3 v3 (.int .i64 1)) fun x1=>
 PI (C138 s) K 6 [v1,x1] h):PI (C138 s) K 10 [v1,v3] h:=zB H
theorem P138_11_of (H :
 K .ret [(.bool true)] h):PI (C138 s) K 11 [] h:=zB H
theorem F138_flatE {Rp:Value->Prop} (hok:h.ok) (H:PI (C138 true) (KR E [.tmp 2] fun x k=>(zj x=true/\Rp x)/\h.next<=k.wm) 0 [v0] h.fresh):∃ v,Rp v/\(zX E).call 138 [v0] h=some [(v,h)]:=flatFE Tryz.f138 hok (zz (C138 true) H)
noncomputable def B139:Code:=ze Tryz.f139
noncomputable def C139 (s:Bool):Cx:=⟨E,s,none,B139,[([0],[0,1]),([1,0,0],[2,3]),([1,0,1,0,0],[2,3]),([1,1,0,0],[2,3]),([1,1,0,1,0,0],[2,3]),([1,1,1,0],[2,3])],[4],[]⟩
theorem P139_0_of (H :
 Ev s (zP 52 h v0) fun x0=>
 Ev s (zP 52 x0.2 v1) fun x1=>
 PI (C139 s) K 1 [x0.1,x1.1] x1.2):PI (C139 s) K 0 [v0,v1] h:=zB H
theorem P139_1_of (H :
 EvO (zC E 52 0 v2) fun x0=>
 EvO (zG E 3 h x0) fun x1=>
 EvO (zC E 52 0 v3) fun x2=>
 EvO (zG E 3 h x2) fun x3=>
 EvO (zF E .neq 3 x1 x3) fun x4=>
 BrK x4 (PI (C139 s) K 2 [v2,v3] h) (PI (C139 s) K 3 [v2,v3] h)):PI (C139 s) K 1 [v2,v3] h:=zB H
theorem P139_2_of (H :
 EvO (zC E 52 0 v2) fun x0=>
 EvO (zG E 3 h x0) fun x1=>
 EvO (zC E 52 0 v3) fun x2=>
 EvO (zG E 3 h x2) fun x3=>
 EvO (zF E .lss 3 x1 x3) fun x4=>
 K .ret [x4] h):PI (C139 s) K 2 [v2,v3] h:=zB H
theorem P139_3_of (H :
 EvO (zC E 52 1 v2) fun x0=>
 EvO (zG E 3 h x0) fun x1=>
 EvO (zC E 52 1 v3) fun x2=>
 EvO (zG E 3 h x2) fun x3=>
 EvO (zF E .neq 3 x1 x3) fun x4=>
 BrK x4 (PI (C139 s) K 4 [v2,v3] h) (PI (C139 s) K 5 [v2,v3] h)):PI (C139 s) K 3 [v2,v3] h:=zB H
theorem P139_4_of (H :
 EvO (zC E 52 1 v2) fun x0=>
 EvO (zG E 3 h x0) fun x1=>
 EvO (zC E 52 1 v3) fun x2=>
 EvO (zG E 3 h x2) fun x3=>
 EvO (zF E .lss 3 x1 x3) fun x4=>
 K .ret [x4] h):PI (C139 s) K 4 [v2,v3] h:=zB H
theorem P139_5_of (H :
 EvO (zC E 52 2 v2) fun x0=>
 EvO (zG E 3 h x0) fun x1=>
 EvO (zC E 52 2 v3) fun x2=>
 EvO (zG E 3 h x2) fun x3=>
 EvO (zF E .lss 3 x1 x3) fun x4=>
 K .ret [x4] h):PI (C139 s) K 5 [v2,v3] h:=zB H
theorem F139_flat (hok:h.ok) (hv:zg v=true) (H:PI (C139 s) (KR E [.tmp 4] fun x k=>x=v/\h.next<=k.wm) 0 [v0,v1] h.fresh):(zX E).call 139 [v0,v1] h=some [(v,h)]:=zAT Tryz.f139 hok hv (zz (C139 s) H)
noncomputable def B85:Code:=ze Tryz.f85
noncomputable def C85 (s:Bool):Cx:=⟨E,s,none,B85,[([0],[0]),([1,0,0],[1]),([1,0,1,0,0],[]),([1,1,0,0],[1]),([1,1,0,1,0,0,0,0],[1,3]),([1,1,0,1,0,0,1,0,0,0],[1,3]),([1,1,0,1,0,0,1,0,0,1,0,0],[1,3,4]),([1,1,0,1,0,0,1,0,0,1,0,1,0,0],[]),([1,1,0,1,0,0,1,0,0,1,1,0],[1,3]),([1,1,0,1,0,0,1,0,0,1,1,1,0,0],[]),([1,1,0,1,0,0,1,1],[1,3]),([1,1,1,0,0],[1]),([1,1,1,0,1,0,0,0,0],[1,5]),([1,1,1,0,1,0,0,1,0,0,0],[1,5]),([1,1,1,0,1,0,0,1,0,0,1,0,0],[1,5,6]),([1,1,1,0,1,0,0,1,0,0,1,0,1,0,0],[]),([1,1,1,0,1,0,0,1,0,0,1,1,0],[1,5,6]),([1,1,1,0,1,0,0,1,0,0,1,1,1,0,0],[]),([1,1,1,0,1,0,0,1,1],[1,5]),([1,1,1,1,0],[])],[2],[]⟩
abbrev P85_2 (s:Bool) (K:KF) (h:AH):Prop:=PI (C85 s) K 2 [] h
abbrev P85_3 (s:Bool) (K:KF) (v1:Value) (h:AH):Prop:=PI (C85 s) K 3 [v1] h
abbrev P85_4 (s:Bool) (K:KF) (v1 v3:Value) (h:AH):Prop:=PI (C85 s) K 4 [v1,v3] h
abbrev P85_7 (s:Bool) (K:KF) (h:AH):Prop:=PI (C85 s) K 7 [] h
abbrev P85_9 (s:Bool) (K:KF) (h:AH):Prop:=PI (C85 s) K 9 [] h
abbrev P85_10 (s:Bool) (K:KF) (v1 v3:Value) (h:AH):Prop:=PI (C85 s) K 10 [v1,v3] h
abbrev P85_12 (s:Bool) (K:KF) (v1 v5:Value) (h:AH):Prop:=PI (C85 s) K 12 [v1,v5] h
abbrev P85_15 (s:Bool) (K:KF) (h:AH):Prop:=PI (C85 s) K 15 [] h
abbrev P85_16 (s:Bool) (K:KF) (v1 v5 v6:Value) (h:AH):Prop:=PI (C85 s) K 16 [v1,v5,v6] h
abbrev P85_18 (s:Bool) (K:KF) (v1 v5:Value) (h:AH):Prop:=PI (C85 s) K 18 [v1,v5] h
theorem P85_0_of (H :
 Ev s (zP 25 h v0) fun x0=>
 PI (C85 s) K 1 [x0.1] x0.2):PI (C85 s) K 0 [v0] h:=zB H
theorem P85_1_of (H :
 EvO (zC E 25 0 v1) fun x0=>
 EvO (zG E 3 h x0) fun x1=>
 EvO (zF E .lss 3 x1 (.int .i64 1)) fun x2=>
 EvO (gdB x2 false (zC E 25 0 v1)) fun x4=>
 EvO (gdB x2 false (zG E 3 h x4)) fun x5=>
 EvO (gdB x2 false (zF E .gtr 3 x5 (.int .i64 20000))) fun x6=>
 EvO (z0 x2 (some (.bool true)) x6) fun x7=>
 EvO (gdB x7 false (zC E 25 1 v1)) fun x9=>
 EvO (gdB x7 false (zG E 22 h x9)) fun x10=>
 EvO (gdB x7 false (zM E (zm [(17,x10)]) (zr B85 [1,0,0] 11) h)) fun x11=>
 EvO (gdB x7 false (zF E .gtr 3 x11 (.int .i64 4000))) fun x12=>
 EvO (z0 x7 (some (.bool true)) x12) fun x13=>
 EvO (gdB x13 false (zC E 25 2 v1)) fun x15=>
 EvO (gdB x13 false (zG E 23 h x15)) fun x16=>
 EvO (gdB x13 false (zM E (zm [(23,x16)]) (zr B85 [1,0,0] 17) h)) fun x17=>
 EvO (gdB x13 false (zF E .gtr 3 x17 (.int .i64 100000))) fun x18=>
 EvO (z0 x13 (some (.bool true)) x18) fun x19=>
 BrK x19 (PI (C85 s) K 2 [] h) (PI (C85 s) K 3 [v1] h)):PI (C85 s) K 1 [v1] h:=zB H
theorem len85_1_11:zM E (zm [(17,.slice a n c)]) (zr B85 [1,0,0] 11) h=some (.int .i64 (n:Int)):=by cases a <;> kernel_rfl
theorem len85_1_17:zM E (zm [(23,.slice a n c)]) (zr B85 [1,0,0] 17) h=some (.int .i64 (n:Int)):=by cases a <;> kernel_rfl
theorem P85_2_of (H :
 K .ret [(.bool false)] h):PI (C85 s) K 2 [] h:=zB H
theorem P85_3_of (H :
 PI (C85 s) K 4 [v1,(.int .i64 0)] h):PI (C85 s) K 3 [v1] h:=zB H
theorem P85_4_of (H :
 EvO (zC E 25 1 v1) fun x1=>
 EvO (zG E 22 h x1) fun x2=>
 EvO (zM E (zm [(29,x2)]) (zr B85 [1,1,0,1,0,0,0,0] 3) h) fun x3=>
 EvO (zF E .lss 3 v3 x3) fun x4=>
 BrK x4 (PI (C85 s) K 5 [v1,v3] h) (PI (C85 s) K 11 [v1] h)):PI (C85 s) K 4 [v1,v3] h:=zB H
theorem len85_4_3:zM E (zm [(29,.slice a n c)]) (zr B85 [1,1,0,1,0,0,0,0] 3) h=some (.int .i64 (n:Int)):=by cases a <;> kernel_rfl
theorem P85_5_of (H :
 EvO (zC E 25 1 v1) fun x0=>
 EvO (zG E 22 h x0) fun x1=>
 EvO (zH E 22 x1 v3) fun x3=>
 EvO (zG E 36 h x3) fun x4=>
 Ev s (zV (zX E) (some (.func (.func 138) #[] #[])) [x4] h) fun x5=>
 PI (C85 s) K 6 [v1,v3,x5.1] x5.2):PI (C85 s) K 5 [v1,v3] h:=zB H
theorem P85_6_of (H :
 EvO (zAY .not v4) fun x1=>
 BrK x1 (PI (C85 s) K 7 [] h) (PI (C85 s) K 8 [v1,v3] h)):PI (C85 s) K 6 [v1,v3,v4] h:=zB H
theorem P85_7_of (H :
 K .ret [(.bool false)] h):PI (C85 s) K 7 [] h:=zB H
theorem P85_8_of (H :
 EvO (zF E .gtr 3 v3 (.int .i64 0)) fun x1=>
 EvO (gdB x1 true (zC E 25 1 v1)) fun x3=>
 EvO (gdB x1 true (zG E 22 h x3)) fun x4=>
 EvO (gdB x1 true v3) fun x5=>
 EvO (gdB x1 true (zF E .sub 3 x5 (.int .i64 1))) fun x6=>
 EvO (gdB x1 true (zH E 22 x4 x6)) fun x7=>
 EvO (gdB x1 true (zG E 36 h x7)) fun x8=>
 EvO (gdB x1 true (zC E 25 1 v1)) fun x9=>
 EvO (gdB x1 true (zG E 22 h x9)) fun x10=>
 EvO (gdB x1 true v3) fun x11=>
 EvO (gdB x1 true (zH E 22 x10 x11)) fun x12=>
 EvO (gdB x1 true (zG E 36 h x12)) fun x13=>
 Ev s (gdW x1 true (zV (zX E) (some (.func (.func 88) #[] #[])) [x8,x13] h) h) fun x14=>
 EvO (gdB x1 true (zF E .geq 3 x14.1 (.int .i64 0))) fun x15=>
 EvO (z0 x1 x15 (some (.bool false))) fun x16=>
 BrK x16 (PI (C85 s) K 9 [] x14.2) (PI (C85 s) K 10 [v1,v3] x14.2)):PI (C85 s) K 8 [v1,v3] h:=zB H
theorem P85_9_of (H :
 K .ret [(.bool false)] h):PI (C85 s) K 9 [] h:=zB H
theorem P85_10_of (H :
 EvO (zF E .add 3 v3 (.int .i64 1)) fun x1=>
 PI (C85 s) K 4 [v1,x1] h):PI (C85 s) K 10 [v1,v3] h:=zB H
theorem P85_11_of (H :
 PI (C85 s) K 12 [v1,(.int .i64 0)] h):PI (C85 s) K 11 [v1] h:=zB H
theorem P85_12_of (H :
 EvO (zC E 25 2 v1) fun x1=>
 EvO (zG E 23 h x1) fun x2=>
 EvO (zM E (zm [(61,x2)]) (zr B85 [1,1,1,0,1,0,0,0,0] 3) h) fun x3=>
 EvO (zF E .lss 3 v5 x3) fun x4=>
 BrK x4 (PI (C85 s) K 13 [v1,v5] h) (PI (C85 s) K 19 [] h)):PI (C85 s) K 12 [v1,v5] h:=zB H
theorem len85_12_3:zM E (zm [(61,.slice a n c)]) (zr B85 [1,1,1,0,1,0,0,0,0] 3) h=some (.int .i64 (n:Int)):=by cases a <;> kernel_rfl
theorem P85_13_of (H :
 EvO (zC E 25 2 v1) fun x0=>
 EvO (zG E 23 h x0) fun x1=>
 EvO (zH E 23 x1 v5) fun x3=>
 EvO (zG E 52 h x3) fun x4=>
 Ev s (zP 52 h (zv E 52)) fun x5=>
 Ev s (zh E 52 x5.2 x5.1 x4) fun x6=>
 PI (C85 s) K 14 [v1,v5,x5.1] x6.2):PI (C85 s) K 13 [v1,v5] h:=zB H
theorem P85_14_of (H :
 EvO (zC E 52 0 v6) fun x0=>
 EvO (zG E 3 h x0) fun x1=>
 EvO (zF E .lss 3 x1 (.int .i64 0)) fun x2=>
 EvO (gdB x2 false (zC E 52 0 v6)) fun x4=>
 EvO (gdB x2 false (zG E 3 h x4)) fun x5=>
 EvO (gdB x2 false (zC E 25 0 v1)) fun x6=>
 EvO (gdB x2 false (zG E 3 h x6)) fun x7=>
 EvO (gdB x2 false (zF E .geq 3 x5 x7)) fun x8=>
 EvO (z0 x2 (some (.bool true)) x8) fun x9=>
 EvO (gdB x9 false (zC E 52 2 v6)) fun x11=>
 EvO (gdB x9 false (zG E 3 h x11)) fun x12=>
 EvO (gdB x9 false (zF E .lss 3 x12 (.int .i64 0))) fun x13=>
 EvO (z0 x9 (some (.bool true)) x13) fun x14=>
 EvO (gdB x14 false (zC E 52 2 v6)) fun x16=>
 EvO (gdB x14 false (zG E 3 h x16)) fun x17=>
 EvO (gdB x14 false (zC E 25 0 v1)) fun x18=>
 EvO (gdB x14 false (zG E 3 h x18)) fun x19=>
 EvO (gdB x14 false (zF E .geq 3 x17 x19)) fun x20=>
 EvO (z0 x14 (some (.bool true)) x20) fun x21=>
 EvO (gdB x21 false (zC E 52 1 v6)) fun x23=>
 EvO (gdB x21 false (zG E 3 h x23)) fun x24=>
 EvO (gdB x21 false (zF E .lss 3 x24 (.int .i64 0))) fun x25=>
 EvO (z0 x21 (some (.bool true)) x25) fun x26=>
 EvO (gdB x26 false (zC E 52 1 v6)) fun x28=>
 EvO (gdB x26 false (zG E 3 h x28)) fun x29=>
 EvO (gdB x26 false (zC E 25 1 v1)) fun x30=>
 EvO (gdB x26 false (zG E 22 h x30)) fun x31=>
 EvO (gdB x26 false (zM E (zm [(102,x31)]) (zr B85 [1,1,1,0,1,0,0,1,0,0,1,0,0] 32) h)) fun x32=>
 EvO (gdB x26 false (zF E .geq 3 x29 x32)) fun x33=>
 EvO (z0 x26 (some (.bool true)) x33) fun x34=>
 BrK x34 (PI (C85 s) K 15 [] h) (PI (C85 s) K 16 [v1,v5,v6] h)):PI (C85 s) K 14 [v1,v5,v6] h:=zB H
theorem len85_14_32:zM E (zm [(102,.slice a n c)]) (zr B85 [1,1,1,0,1,0,0,1,0,0,1,0,0] 32) h=some (.int .i64 (n:Int)):=by cases a <;> kernel_rfl
theorem P85_15_of (H :
 K .ret [(.bool false)] h):PI (C85 s) K 15 [] h:=zB H
theorem P85_16_of (H :
 EvO (zF E .gtr 3 v5 (.int .i64 0)) fun x1=>
 EvO (gdB x1 true (zC E 25 2 v1)) fun x3=>
 EvO (gdB x1 true (zG E 23 h x3)) fun x4=>
 EvO (gdB x1 true v5) fun x5=>
 EvO (gdB x1 true (zF E .sub 3 x5 (.int .i64 1))) fun x6=>
 EvO (gdB x1 true (zH E 23 x4 x6)) fun x7=>
 EvO (gdB x1 true (zG E 52 h x7)) fun x8=>
 EvO (gdB x1 true (zG E 52 h v6)) fun x9=>
 Ev s (gdW x1 true (zV (zX E) (some (.func (.func 139) #[] #[])) [x8,x9] h) h) fun x10=>
 EvO (gdB x1 true (zAY .not x10.1)) fun x11=>
 EvO (z0 x1 x11 (some (.bool false))) fun x12=>
 BrK x12 (PI (C85 s) K 17 [] x10.2) (PI (C85 s) K 18 [v1,v5] x10.2)):PI (C85 s) K 16 [v1,v5,v6] h:=zB H
theorem P85_17_of (H :
 K .ret [(.bool false)] h):PI (C85 s) K 17 [] h:=zB H
theorem P85_18_of (H :
 EvO (zF E .add 3 v5 (.int .i64 1)) fun x1=>
 PI (C85 s) K 12 [v1,x1] h):PI (C85 s) K 18 [v1,v5] h:=zB H
theorem P85_19_of (H :
 K .ret [(.bool true)] h):PI (C85 s) K 19 [] h:=zB H
theorem F85_flatE {Rp:Value->Prop} (hok:h.ok) (H:PI (C85 true) (KR E [.tmp 2] fun x k=>(zj x=true/\Rp x)/\h.next<=k.wm) 0 [v0] h.fresh):∃ v,Rp v/\(zX E).call 85 [v0] h=some [(v,h)]:=flatFE Tryz.f85 hok (zz (C85 true) H)
noncomputable def B23:Code:=ze Tryz.f23
noncomputable def C23 (s:Bool):Cx:=⟨E,s,none,B23,[([0],[0]),([1,0],[1]),([1,1,0,0],[3]),([1,1,0,1,0,0],[]),([1,1,1,0],[])],[2],[]⟩
theorem P23_0_of (H :
 Ev s (zP 25 h v0) fun x0=>
 PI (C23 s) K 1 [x0.1] x0.2):PI (C23 s) K 0 [v0] h:=zB H
theorem P23_1_of (H :
 EvO (zG E 25 h v1) fun x0=>
 Ev s (zV (zX E) (some (.func (.func 85) #[] #[])) [x0] h) fun x1=>
 PI (C23 s) K 2 [x1.1] x1.2):PI (C23 s) K 1 [v1] h:=zB H
theorem P23_2_of (H :
 EvO (zAY .not v3) fun x1=>
 BrK x1 (PI (C23 s) K 3 [] h) (PI (C23 s) K 4 [] h)):PI (C23 s) K 2 [v3] h:=zB H
theorem P23_3_of (H :
 K .ret [(.int .i64 8)] h):PI (C23 s) K 3 [] h:=zB H
theorem P23_4_of (H :
 K .ret [(.int .i64 0)] h):PI (C23 s) K 4 [] h:=zB H
theorem F23_flatE {Rp:Value->Prop} (hok:h.ok) (H:PI (C23 true) (KR E [.tmp 2] fun x k=>(zj x=true/\Rp x)/\h.next<=k.wm) 0 [v0] h.fresh):∃ v,Rp v/\(zX E).call 23 [v0] h=some [(v,h)]:=flatFE Tryz.f23 hok (zz (C23 true) H)
noncomputable def B24:Code:=ze Tryz.f24
noncomputable def C24 (s:Bool):Cx:=⟨E,s,none,B24,[([0],[0]),([1,0],[1]),([1,1,0,0],[1,3]),([1,1,0,1,0,0,0,0],[1,3,4]),([1,1,0,1,0,0,1,0,0,0],[1,3,4]),([1,1,0,1,0,0,1,0,0,1],[1,3,4,5]),([1,1,0,1,0,0,1,1],[1,3,4]),([1,1,1,0],[3])],[2],[]⟩
abbrev P24_3 (s:Bool) (K:KF) (v1 v3 v4:Value) (h:AH):Prop:=PI (C24 s) K 3 [v1,v3,v4] h
theorem P24_0_of (H :
 Ev s (zP 25 h v0) fun x0=>
 PI (C24 s) K 1 [x0.1] x0.2):PI (C24 s) K 0 [v0] h:=zB H
theorem P24_1_of (H :
 EvO (zC E 25 0 v1) fun x0=>
 EvO (zG E 3 h x0) fun x1=>
 Ev s (zAn E 49 x1 x1 h) fun x2=>
 PI (C24 s) K 2 [v1,x2.1] x2.2):PI (C24 s) K 1 [v1] h:=zB H
theorem P24_2_of (H :
 PI (C24 s) K 3 [v1,v3,(.int .i64 0)] h):PI (C24 s) K 2 [v1,v3] h:=zB H
theorem P24_3_of (H :
 EvO (zC E 25 2 v1) fun x1=>
 EvO (zG E 23 h x1) fun x2=>
 EvO (zM E (zm [(11,x2)]) (zr B24 [1,1,0,1,0,0,0,0] 3) h) fun x3=>
 EvO (zF E .lss 3 v4 x3) fun x4=>
 BrK x4 (PI (C24 s) K 4 [v1,v3,v4] h) (PI (C24 s) K 7 [v3] h)):PI (C24 s) K 3 [v1,v3,v4] h:=zB H
theorem len24_3_3:zM E (zm [(11,.slice a n c)]) (zr B24 [1,1,0,1,0,0,0,0] 3) h=some (.int .i64 (n:Int)):=by cases a <;> kernel_rfl
theorem P24_4_of (H :
 EvO (zC E 25 2 v1) fun x0=>
 EvO (zG E 23 h x0) fun x1=>
 EvO (zH E 23 x1 v4) fun x3=>
 EvO (zG E 52 h x3) fun x4=>
 Ev s (zP 52 h (zv E 52)) fun x5=>
 Ev s (zh E 52 x5.2 x5.1 x4) fun x6=>
 PI (C24 s) K 5 [v1,v3,v4,x5.1] x6.2):PI (C24 s) K 4 [v1,v3,v4] h:=zB H
theorem P24_5_of (H :
 EvO (zC E 52 0 v5) fun x1=>
 EvO (zG E 3 h x1) fun x2=>
 EvO (zC E 52 0 v5) fun x4=>
 EvO (zG E 3 h x4) fun x5=>
 EvO (zH E 49 v3 x5) fun x6=>
 EvO (zG E 23 h x6) fun x7=>
 EvO (zG E 52 h v5) fun x8=>
 Ev s (zi E 23 1 (some [(0,x8)]) h) fun x9=>
 EvO (zG E 23 x9.2 x6) fun u9_7=>veq 100 u9_7 x7=true ∧
 (EvO (zG E 3 x9.2 x4) fun u9_5=>veq 100 u9_5 x5=true ∧
 (EvO (zG E 3 x9.2 x1) fun u9_2=>veq 100 u9_2 x2=true ∧
 (Ev s (zAC E .append [23,23] [x7,x9.1] x9.2) fun x10=>
 EvO (zG E 3 x10.2 x1) fun u10_2=>veq 100 u10_2 x2=true ∧
 (EvO (zH E 49 v3 x2) fun x11=>
 Ev s (zh E 23 x10.2 x11 x10.1) fun x12=>
 PI (C24 s) K 6 [v1,v3,v4] x12.2))))):PI (C24 s) K 5 [v1,v3,v4,v5] h:=zB H
theorem P24_6_of (H :
 EvO (zF E .add 3 v4 (.int .i64 1)) fun x1=>
 PI (C24 s) K 3 [v1,v3,x1] h):PI (C24 s) K 6 [v1,v3,v4] h:=zB H
theorem P24_7_of (H :
 K .ret [v3] h):PI (C24 s) K 7 [v3] h:=zB H
theorem F24_some (H:PI (C24 true) (KR E [.tmp 2] fun x k=>(zj x=false\/k.wm<h.next)/\Rp x ⟨k.t,k.next,cond (Nat.ble h.wm k.wm) h.wm k.wm⟩) 0 [v0] h.fresh):Ev true ((zX E).call 24 [v0] h) fun x=>Rp x.1 x.2:=someF Tryz.f24 (zz (C24 true) H)
noncomputable def B27:Code:=ze Tryz.f27
noncomputable def C27 (s:Bool):Cx:=⟨E,s,none,B27,[([0],[0,1]),([1,0],[0,1])],[4],[]⟩
theorem P27_0_of (H :
 PI (C27 s) K 1 [v0,v1] h):PI (C27 s) K 0 [v0,v1] h:=zB H
theorem P27_1_of (H :
 Ev s (zV (zX E) (some (.func (.func 87) #[] #[])) [v0,v1] h) fun x2=>
 EvO (zF E .geq 3 x2.1 (.int .i64 0)) fun x3=>
 K .ret [x3] x2.2):PI (C27 s) K 1 [v0,v1] h:=zB H
theorem F27_flat (hok:h.ok) (hv:zg v=true) (H:PI (C27 s) (KR E [.tmp 4] fun x k=>x=v/\h.next<=k.wm) 0 [v0,v1] h.fresh):(zX E).call 27 [v0,v1] h=some [(v,h)]:=zAT Tryz.f27 hok hv (zz (C27 s) H)
noncomputable def B87:Code:=ze Tryz.f87
noncomputable def C87 (s:Bool):Cx:=⟨E,s,none,B87,[([0],[0,1]),([1,0,0],[0,1]),([1,0,1,0,0,0],[0,1,7,8]),([1,0,1,0,0,1,1,0,0,0],[0,1,7,8]),([1,0,1,0,0,1,1,0,0,1,0],[0,1,5,7,8]),([1,0,1,0,0,1,1,0,0,1,1,0,0],[5]),([1,0,1,0,0,1,1,1],[0,1,7,8]),([1,1,0],[])],[4],[]⟩
abbrev P87_2 (s:Bool) (K:KF) (v0 v1 v7 v8:Value) (h:AH):Prop:=PI (C87 s) K 2 [v0,v1,v7,v8] h
theorem P87_0_of (H :
 PI (C87 s) K 1 [v0,v1] h):PI (C87 s) K 0 [v0,v1] h:=zB H
theorem P87_1_of (H :
 EvO (zM E (zm [(6,v0)]) (zr B87 [1,0,0] 1) h) fun x1=>
 PI (C87 s) K 2 [v0,v1,x1,(.int .i64 0)] h):PI (C87 s) K 1 [v0,v1] h:=zB H
theorem len87_1_1:zM E (zm [(6,.slice a n c)]) (zr B87 [1,0,0] 1) h=some (.int .i64 (n:Int)):=by cases a <;> kernel_rfl
theorem P87_2_of (H :
 EvO (zF E .lss 3 v8 v7) fun x0=>
 BrK x0 (PI (C87 s) K 3 [v0,v1,v7,v8] h) (PI (C87 s) K 7 [] h)):PI (C87 s) K 2 [v0,v1,v7,v8] h:=zB H
theorem P87_3_of (H :
 PI (C87 s) K 4 [v0,v1,v8,v7,v8] h):PI (C87 s) K 3 [v0,v1,v7,v8] h:=zB H
theorem P87_4_of (H :
 EvO (zH E 47 v0 v5) fun x3=>
 EvO (zG E 3 h x3) fun x4=>
 EvO (zF E .eql 3 v1 x4) fun x5=>
 BrK x5 (PI (C87 s) K 5 [v5] h) (PI (C87 s) K 6 [v0,v1,v7,v8] h)):PI (C87 s) K 4 [v0,v1,v5,v7,v8] h:=zB H
theorem P87_5_of (H :
 K .ret [v5] h):PI (C87 s) K 5 [v5] h:=zB H
theorem P87_6_of (H :
 EvO (zF E .add 3 v8 (.int .i64 1)) fun x0=>
 PI (C87 s) K 2 [v0,v1,v7,x0] h):PI (C87 s) K 6 [v0,v1,v7,v8] h:=zB H
theorem P87_7_of (H :
 K .ret [(.int .i64 (-1))] h):PI (C87 s) K 7 [] h:=zB H
theorem F87_flat (hok:h.ok) (hv:zg v=true) (H:PI (C87 s) (KR E [.tmp 4] fun x k=>x=v/\h.next<=k.wm) 0 [v0,v1] h.fresh):(zX E).call 87 [v0,v1] h=some [(v,h)]:=zAT Tryz.f87 hok hv (zz (C87 s) H)
noncomputable def B86:Code:=ze Tryz.f86
noncomputable def C86 (s:Bool):Cx:=⟨E,s,none,B86,[([0],[0,1]),([1,0,0],[0,3]),([1,0,1,0,0,0],[0,3,7,8]),([1,0,1,0,0,1,1,0,0,0],[0,3,7,8]),([1,0,1,0,0,1,1,0,0,1,0],[0,3,5,7,8]),([1,0,1,0,0,1,1,0,0,1,1,0,0],[5]),([1,0,1,0,0,1,1,1],[0,3,7,8]),([1,1,0],[])],[4],[]⟩
abbrev P86_2 (s:Bool) (K:KF) (v0 v3 v7 v8:Value) (h:AH):Prop:=PI (C86 s) K 2 [v0,v3,v7,v8] h
theorem P86_0_of (H :
 Ev s (zP 54 h v1) fun x0=>
 PI (C86 s) K 1 [v0,x0.1] x0.2):PI (C86 s) K 0 [v0,v1] h:=zB H
theorem P86_1_of (H :
 EvO (zM E (zm [(6,v0)]) (zr B86 [1,0,0] 1) h) fun x1=>
 PI (C86 s) K 2 [v0,v3,x1,(.int .i64 0)] h):PI (C86 s) K 1 [v0,v3] h:=zB H
theorem len86_1_1:zM E (zm [(6,.slice a n c)]) (zr B86 [1,0,0] 1) h=some (.int .i64 (n:Int)):=by cases a <;> kernel_rfl
theorem P86_2_of (H :
 EvO (zF E .lss 3 v8 v7) fun x0=>
 BrK x0 (PI (C86 s) K 3 [v0,v3,v7,v8] h) (PI (C86 s) K 7 [] h)):PI (C86 s) K 2 [v0,v3,v7,v8] h:=zB H
theorem P86_3_of (H :
 PI (C86 s) K 4 [v0,v3,v8,v7,v8] h):PI (C86 s) K 3 [v0,v3,v7,v8] h:=zB H
theorem P86_4_of (H :
 EvO (zG E 54 h v3) fun x0=>
 EvO (zH E 26 v0 v5) fun x3=>
 EvO (zG E 54 h x3) fun x4=>
 EvO (zF E .eql 54 x0 x4) fun x5=>
 BrK x5 (PI (C86 s) K 5 [v5] h) (PI (C86 s) K 6 [v0,v3,v7,v8] h)):PI (C86 s) K 4 [v0,v3,v5,v7,v8] h:=zB H
theorem P86_5_of (H :
 K .ret [v5] h):PI (C86 s) K 5 [v5] h:=zB H
theorem P86_6_of (H :
 EvO (zF E .add 3 v8 (.int .i64 1)) fun x0=>
 PI (C86 s) K 2 [v0,v3,v7,x0] h):PI (C86 s) K 6 [v0,v3,v7,v8] h:=zB H
theorem P86_7_of (H :
 K .ret [(.int .i64 (-1))] h):PI (C86 s) K 7 [] h:=zB H
theorem F86_flat (hok:h.ok) (hv:zg v=true) (H:PI (C86 s) (KR E [.tmp 4] fun x k=>x=v/\h.next<=k.wm) 0 [v0,v1] h.fresh):(zX E).call 86 [v0,v1] h=some [(v,h)]:=zAT Tryz.f86 hok hv (zz (C86 s) H)
noncomputable def B26:Code:=ze Tryz.f26
noncomputable def C26 (s:Bool):Cx:=⟨E,s,none,B26,[([0],[0,1]),([1,0],[0,3])],[4],[]⟩
theorem P26_0_of (H :
 Ev s (zP 54 h v1) fun x0=>
 PI (C26 s) K 1 [v0,x0.1] x0.2):PI (C26 s) K 0 [v0,v1] h:=zB H
theorem P26_1_of (H :
 EvO (zG E 54 h v3) fun x1=>
 Ev s (zV (zX E) (some (.func (.func 86) #[] #[])) [v0,x1] h) fun x2=>
 EvO (zF E .geq 3 x2.1 (.int .i64 0)) fun x3=>
 K .ret [x3] x2.2):PI (C26 s) K 1 [v0,v3] h:=zB H
theorem F26_flat (hok:h.ok) (hv:zg v=true) (H:PI (C26 s) (KR E [.tmp 4] fun x k=>x=v/\h.next<=k.wm) 0 [v0,v1] h.fresh):(zX E).call 26 [v0,v1] h=some [(v,h)]:=zAT Tryz.f26 hok hv (zz (C26 s) H)
noncomputable def B25:Code:=ze Tryz.f25
noncomputable def C25 (s:Bool):Cx:=⟨E,s,none,B25,[([0],[0,1,2,3]),([1,0],[0,3])],[],[]⟩
theorem P25_0_of (H :
 EvO (zC E 32 1 v1) fun x0=>
 EvO (zG E 26 h x0) fun x1=>
 EvO (zC E 52 2 v2) fun x2=>
 EvO (zG E 3 h x2) fun x3=>
 EvO (zAg E 54 (some [(0,x3),(1,v0)])) fun x5=>
 Ev s (zV (zX E) (some (.func (.func 26) #[] #[])) [x1,x5] h) fun x6=>
 EvO (gdB x6.1 true (zG E 47 x6.2 v3)) fun x8=>
 EvO (gdB x6.1 true v0) fun x9=>
 Ev s (gdW x6.1 true (zV (zX E) (some (.func (.func 27) #[] #[])) [x8,x9] x6.2) x6.2) fun x10=>
 EvO (gdB x6.1 true (zAY .not x10.1)) fun x11=>
 EvO (z0 x6.1 x11 (some (.bool false))) fun x12=>
 BrK x12 (PI (C25 s) K 1 [v0,v3] x10.2) (K .normal [] x10.2)):PI (C25 s) K 0 [v0,v1,v2,v3] h:=zB H
theorem P25_1_of (H :
 EvO (zG E 47 h v3) fun x0=>
 Ev s (zi E 47 1 (some [(0,v0)]) h) fun x2=>
 Ev s (zAC E .append [47,47] [x0,x2.1] x2.2) fun x3=>
 Ev s (zh E 47 x3.2 v3 x3.1) fun x4=>
 K .normal [] x4.2):PI (C25 s) K 1 [v0,v3] h:=zB H
theorem F25_flat1 (hok:h.ok) (hv:zj v=true) (H:PI (C25 true) (KR E [] fun x k=>x=v/\h.next<=k.wm) 0 [v0,v1,v2,v3] h.fresh):(zX E).call 25 [v0,v1,v2,v3] h=some [(v,h)]:=flatF1 Tryz.f25 hok hv (zz (C25 true) H)
theorem F25_some (H:PI (C25 true) (KR E [] fun x k=>(zj x=false\/k.wm<h.next)/\Rp x ⟨k.t,k.next,cond (Nat.ble h.wm k.wm) h.wm k.wm⟩) 0 [v0,v1,v2,v3] h.fresh):Ev true ((zX E).call 25 [v0,v1,v2,v3] h) fun x=>Rp x.1 x.2:=someF Tryz.f25 (zz (C25 true) H)
end Go.Proofs
namespace Go.Proofs
open Go Go.AM
set_option maxRecDepth 100000
variable {s:Bool} {K:KF} {h:AH} {a:Option Addr} {n c:Nat} {v v0 v1 v2 v3 v4 v5 v6 v7 v8 v9 v10 v11 v12 v13 v26 v27 v28:Value} {h1:AH} {Rp:Value->AH->Prop}
noncomputable def B95:Code:=ze Tryz.f95
noncomputable def C95 (s:Bool):Cx:=⟨E,s,none,B95,[([0],[0,1]),([1,0,0],[0,1]),([1,0,1,0,0,0],[0,1,7,8]),([1,0,1,0,0,1,1,0,0,0],[0,1,7,8]),([1,0,1,0,0,1,1,0,0,1,0],[0,1,5,7,8]),([1,0,1,0,0,1,1,0,0,1,1,0,0],[5]),([1,0,1,0,0,1,1,1],[0,1,7,8]),([1,1,0],[])],[4],[]⟩
abbrev P95_2 (s:Bool) (K:KF) (v0 v1 v7 v8:Value) (h:AH):Prop:=PI (C95 s) K 2 [v0,v1,v7,v8] h
theorem P95_0_of (H :
 PI (C95 s) K 1 [v0,v1] h):PI (C95 s) K 0 [v0,v1] h:=zB H
theorem P95_1_of (H :
 EvO (zM E (zm [(6,v0)]) (zr B95 [1,0,0] 1) h) fun x1=>
 PI (C95 s) K 2 [v0,v1,x1,(.int .i64 0)] h):PI (C95 s) K 1 [v0,v1] h:=zB H
theorem len95_1_1:zM E (zm [(6,.slice a n c)]) (zr B95 [1,0,0] 1) h=some (.int .i64 (n:Int)):=by cases a <;> kernel_rfl
theorem P95_2_of (H :
 EvO (zF E .lss 3 v8 v7) fun x0=>
 BrK x0 (PI (C95 s) K 3 [v0,v1,v7,v8] h) (PI (C95 s) K 7 [] h)):PI (C95 s) K 2 [v0,v1,v7,v8] h:=zB H
theorem P95_3_of (H :
 PI (C95 s) K 4 [v0,v1,v8,v7,v8] h):PI (C95 s) K 3 [v0,v1,v7,v8] h:=zB H
theorem P95_4_of (H :
 EvO (zH E 26 v0 v5) fun x3=>
 EvO (zG E 54 h x3) fun x4=>
 Ev s (zV (zX E) v1 [x4] h) fun x5=>
 BrK x5.1 (PI (C95 s) K 5 [v5] x5.2) (PI (C95 s) K 6 [v0,v1,v7,v8] x5.2)):PI (C95 s) K 4 [v0,v1,v5,v7,v8] h:=zB H
theorem P95_5_of (H :
 K .ret [v5] h):PI (C95 s) K 5 [v5] h:=zB H
theorem P95_6_of (H :
 EvO (zF E .add 3 v8 (.int .i64 1)) fun x0=>
 PI (C95 s) K 2 [v0,v1,v7,x0] h):PI (C95 s) K 6 [v0,v1,v7,v8] h:=zB H
theorem P95_7_of (H :
 K .ret [(.int .i64 (-1))] h):PI (C95 s) K 7 [] h:=zB H
theorem F95_flat (hok:h.ok) (hv:zg v=true) (H:PI (C95 s) (KR E [.tmp 4] fun x k=>x=v/\h.next<=k.wm) 0 [v0,v1] h.fresh):(zX E).call 95 [v0,v1] h=some [(v,h)]:=zAT Tryz.f95 hok hv (zz (C95 s) H)
noncomputable def B35:Code:=ze Tryz.f35
noncomputable def C35 (s:Bool):Cx:=⟨E,s,none,B35,[([0],[0,1]),([1,0,0],[0,1]),([1,0,1,0,0,0],[0,1,9,10,11]),([1,0,1,0,0,1,1,0,0,0],[0,1,9,10,11]),([1,0,1,0,0,1,1,0,0,1,0,0],[0,1,5,6,9,10,11]),([1,0,1,0,0,1,1,0,0,1,0,1,0,0],[]),([1,0,1,0,0,1,1,0,0,1,1,0],[0,1,5,6,9,10,11]),([1,0,1,0,0,1,1,0,0,1,1,1,0],[0,1,6,7,9,10,11]),([1,0,1,0,0,1,1,0,0,1,1,1,1,0],[0,1,8,9,10,11]),([1,0,1,0,0,1,1,0,0,1,1,1,1,1,0,0],[8]),([1,0,1,0,0,1,1,1],[0,1,9,10,11]),([1,1,0,0],[0,1]),([1,1,0,1,0,0],[]),([1,1,1,0],[])],[4],[]⟩
theorem P35_0_of (H :
 PI (C35 s) K 1 [v0,v1] h):PI (C35 s) K 0 [v0,v1] h:=zB H
theorem P35_1_of (H :
 EvO (zM E (zm [(9,v0)]) (zr B35 [1,0,0] 1) h) fun x1=>
 PI (C35 s) K 2 [v0,v1,v0,x1,(.int .i64 0)] h):PI (C35 s) K 1 [v0,v1] h:=zB H
theorem len35_1_1:zM E (zm [(9,.slice a n c)]) (zr B35 [1,0,0] 1) h=some (.int .i64 (n:Int)):=by cases a <;> kernel_rfl
theorem P35_2_of (H :
 EvO (zF E .lss 3 v11 v10) fun x0=>
 BrK x0 (PI (C35 s) K 3 [v0,v1,v9,v10,v11] h) (PI (C35 s) K 11 [v0,v1] h)):PI (C35 s) K 2 [v0,v1,v9,v10,v11] h:=zB H
theorem P35_3_of (H :
 EvO (zH E 47 v9 v11) fun x1=>
 EvO (zG E 3 h x1) fun x2=>
 PI (C35 s) K 4 [v0,v1,v11,x2,v9,v10,v11] h):PI (C35 s) K 3 [v0,v1,v9,v10,v11] h:=zB H
theorem P35_4_of (H :
 EvO (zM E (zm [(17,v1)]) (zr B35 [1,0,1,0,0,1,1,0,0,1,0,0] 2) h) fun x2=>
 EvO (zF E .geq 3 v5 x2) fun x3=>
 BrK x3 (PI (C35 s) K 5 [] h) (PI (C35 s) K 6 [v0,v1,v5,v6,v9,v10,v11] h)):PI (C35 s) K 4 [v0,v1,v5,v6,v9,v10,v11] h:=zB H
theorem len35_4_2:zM E (zm [(17,.slice a n c)]) (zr B35 [1,0,1,0,0,1,1,0,0,1,0,0] 2) h=some (.int .i64 (n:Int)):=by cases a <;> kernel_rfl
theorem P35_6_of (H :
 EvO (zH E 47 v1 v5) fun x2=>
 EvO (zG E 3 h x2) fun x3=>
 PI (C35 s) K 7 [v0,v1,v6,x3,v9,v10,v11] h):PI (C35 s) K 6 [v0,v1,v5,v6,v9,v10,v11] h:=zB H
theorem P35_7_of (H :
 Ev s (zV (zX E) (some (.func (.func 94) #[] #[])) [v6,v7] h) fun x2=>
 PI (C35 s) K 8 [v0,v1,x2.1,v9,v10,v11] x2.2):PI (C35 s) K 7 [v0,v1,v6,v7,v9,v10,v11] h:=zB H
theorem P35_8_of (H :
 EvO (zF E .neq 3 v8 (.int .i64 0)) fun x1=>
 BrK x1 (PI (C35 s) K 9 [v8] h) (PI (C35 s) K 10 [v0,v1,v9,v10,v11] h)):PI (C35 s) K 8 [v0,v1,v8,v9,v10,v11] h:=zB H
theorem P35_9_of (H :
 K .ret [v8] h):PI (C35 s) K 9 [v8] h:=zB H
theorem P35_10_of (H :
 EvO (zF E .add 3 v11 (.int .i64 1)) fun x0=>
 PI (C35 s) K 2 [v0,v1,v9,v10,x0] h):PI (C35 s) K 10 [v0,v1,v9,v10,v11] h:=zB H
theorem P35_11_of (H :
 EvO (zM E (zm [(31,v0)]) (zr B35 [1,1,0,0] 1) h) fun x1=>
 EvO (zM E (zm [(33,v1)]) (zr B35 [1,1,0,0] 3) h) fun x3=>
 EvO (zF E .lss 3 x1 x3) fun x4=>
 BrK x4 (PI (C35 s) K 12 [] h) (PI (C35 s) K 13 [] h)):PI (C35 s) K 11 [v0,v1] h:=zB H
theorem len35_11_1:zM E (zm [(31,.slice a n c)]) (zr B35 [1,1,0,0] 1) h=some (.int .i64 (n:Int)):=by cases a <;> kernel_rfl
theorem len35_11_3:zM E (zm [(33,.slice a n c)]) (zr B35 [1,1,0,0] 3) h=some (.int .i64 (n:Int)):=by cases a <;> kernel_rfl
theorem P35_13_of (H :
 K .ret [(.int .i64 0)] h):PI (C35 s) K 13 [] h:=zB H
theorem F35_flat (hok:h.ok) (hv:zg v=true) (H:PI (C35 s) (KR E [.tmp 4] fun x k=>x=v/\h.next<=k.wm) 0 [v0,v1] h.fresh):(zX E).call 35 [v0,v1] h=some [(v,h)]:=zAT Tryz.f35 hok hv (zz (C35 s) H)
noncomputable def B32:Code:=ze Tryz.f32
noncomputable def C32 (s:Bool):Cx:=⟨E,s,none,B32,[([0],[0]),([1,0,0],[0]),([1,0,1,0,0],[]),([1,1,0],[0])],[2],[]⟩
theorem P32_0_of (H :
 PI (C32 s) K 1 [v0] h):PI (C32 s) K 0 [v0] h:=zB H
theorem P32_1_of (H :
 EvO (z6 E (zm [(3,v0)]) (zr B32 [1,0,0] 1)) fun x1=>
 BrK x1 (PI (C32 s) K 2 [] h) (PI (C32 s) K 3 [v0] h)):PI (C32 s) K 1 [v0] h:=zB H
theorem P32_2_of (H :
 K .ret [(.slice none 0 0)] h):PI (C32 s) K 2 [] h:=zB H
theorem P32_3_of (H :
 Ev s (zi E 26 0 (some []) h) fun x0=>
 Ev s (zAC E .append [26,26] [x0.1,v0] x0.2) fun x2=>
 K .ret [x2.1] x2.2):PI (C32 s) K 3 [v0] h:=zB H
theorem F32_flat1 (hok:h.ok) (hv:zj v=true) (H:PI (C32 true) (KR E [.tmp 2] fun x k=>x=v/\h.next<=k.wm) 0 [v0] h.fresh):(zX E).call 32 [v0] h=some [(v,h)]:=flatF1 Tryz.f32 hok hv (zz (C32 true) H)
theorem F32_some (H:PI (C32 true) (KR E [.tmp 2] fun x k=>(zj x=false\/k.wm<h.next)/\Rp x ⟨k.t,k.next,cond (Nat.ble h.wm k.wm) h.wm k.wm⟩) 0 [v0] h.fresh):Ev true ((zX E).call 32 [v0] h) fun x=>Rp x.1 x.2:=someF Tryz.f32 (zz (C32 true) H)
noncomputable def B36:Code:=ze Tryz.f36
noncomputable def C36 (s:Bool):Cx:=⟨E,s,none,B36,[([0],[0]),([1,0,0],[0]),([1,0,1,0,0],[0]),([1,1,0,0],[0]),([1,1,0,1,0,0,0,0],[0,3]),([1,1,0,1,0,0,1,0,0,0],[0,3]),([1,1,0,1,0,0,1,0,0,1,0,0],[0,3]),([1,1,0,1,0,0,1,0,0,1,0,1,0,0],[0,3,4]),([1,1,0,1,0,0,1,0,0,1,0,1,0,1,0,0,0,0],[0,3,4,5]),([1,1,0,1,0,0,1,0,0,1,0,1,0,1,0,0,1,0,0,0],[0,3,4,5]),([1,1,0,1,0,0,1,0,0,1,0,1,0,1,0,0,1,0,0,1,0,0],[0,3,4,5]),([1,1,0,1,0,0,1,0,0,1,0,1,0,1,0,0,1,0,0,1,0,1],[0,3,4,5]),([1,1,0,1,0,0,1,0,0,1,0,1,0,1,0,0,1,1],[0,3,4,5]),([1,1,0,1,0,0,1,0,0,1,0,1,1,0],[0,3]),([1,1,0,1,0,0,1,0,0,1,0,1,1,1,0],[0,3]),([1,1,0,1,0,0,1,1],[0,3]),([1,1,1,0],[0])],[2],[]⟩
abbrev P36_4 (s:Bool) (K:KF) (v0 v3:Value) (h:AH):Prop:=PI (C36 s) K 4 [v0,v3] h
abbrev P36_8 (s:Bool) (K:KF) (v0 v3 v4 v5:Value) (h:AH):Prop:=PI (C36 s) K 8 [v0,v3,v4,v5] h
theorem P36_0_of (H :
 PI (C36 s) K 1 [v0] h):PI (C36 s) K 0 [v0] h:=zB H
theorem P36_1_of (H :
 EvO (zM E (zm [(6,v0)]) (zr B36 [1,0,0] 1) h) fun x1=>
 EvO (zF E .lss 3 x1 (.int .i64 2)) fun x2=>
 BrK x2 (PI (C36 s) K 2 [v0] h) (PI (C36 s) K 3 [v0] h)):PI (C36 s) K 1 [v0] h:=zB H
theorem len36_1_1:zM E (zm [(6,.slice a n c)]) (zr B36 [1,0,0] 1) h=some (.int .i64 (n:Int)):=by cases a <;> kernel_rfl
theorem P36_2_of (H :
 K .ret [v0] h):PI (C36 s) K 2 [v0] h:=zB H
theorem P36_3_of (H :
 PI (C36 s) K 4 [v0,(.int .i64 1)] h):PI (C36 s) K 3 [v0] h:=zB H
theorem P36_4_of (H :
 EvO (zM E (zm [(11,v0)]) (zr B36 [1,1,0,1,0,0,0,0] 2) h) fun x2=>
 EvO (zF E .lss 3 v3 x2) fun x3=>
 BrK x3 (PI (C36 s) K 5 [v0,v3] h) (PI (C36 s) K 16 [v0] h)):PI (C36 s) K 4 [v0,v3] h:=zB H
theorem len36_4_2:zM E (zm [(11,.slice a n c)]) (zr B36 [1,1,0,1,0,0,0,0] 2) h=some (.int .i64 (n:Int)):=by cases a <;> kernel_rfl
theorem P36_5_of (H :
 EvO (zH E 26 v0 v3) fun x2=>
 EvO (zG E 54 h x2) fun x3=>
 EvO (zF E .sub 3 v3 (.int .i64 1)) fun x6=>
 EvO (zH E 26 v0 x6) fun x7=>
 EvO (zG E 54 h x7) fun x8=>
 EvO (zF E .eql 54 x3 x8) fun x9=>
 BrK x9 (PI (C36 s) K 6 [v0,v3] h) (PI (C36 s) K 15 [v0,v3] h)):PI (C36 s) K 5 [v0,v3] h:=zB H
theorem P36_6_of (H :
 EvO (z6 E (zm [(26,v0),(27,v3)]) (zr B36 [1,1,0,1,0,0,1,0,0,1,0,0] 2)) fun x2=>
 PI (C36 s) K 7 [v0,v3,x2] h):PI (C36 s) K 6 [v0,v3] h:=zB H
theorem P36_7_of (H :
 PI (C36 s) K 8 [v0,v3,v4,(.int .i64 1)] h):PI (C36 s) K 7 [v0,v3,v4] h:=zB H
theorem P36_8_of (H :
 EvO (zM E (zm [(30,v4)]) (zr B36 [1,1,0,1,0,0,1,0,0,1,0,1,0,1,0,0,0,0] 2) h) fun x2=>
 EvO (zF E .lss 3 v5 x2) fun x3=>
 BrK x3 (PI (C36 s) K 9 [v0,v3,v4,v5] h) (PI (C36 s) K 13 [v0,v3] h)):PI (C36 s) K 8 [v0,v3,v4,v5] h:=zB H
theorem len36_8_2:zM E (zm [(30,.slice a n c)]) (zr B36 [1,1,0,1,0,0,1,0,0,1,0,1,0,1,0,0,0,0] 2) h=some (.int .i64 (n:Int)):=by cases a <;> kernel_rfl
theorem P36_9_of (H :
 EvO (zH E 26 v4 v5) fun x2=>
 EvO (zG E 54 h x2) fun x3=>
 EvO (zF E .sub 3 v5 (.int .i64 1)) fun x6=>
 EvO (zH E 26 v4 x6) fun x7=>
 EvO (zG E 54 h x7) fun x8=>
 EvO (zF E .neq 54 x3 x8) fun x9=>
 BrK x9 (PI (C36 s) K 10 [v0,v3,v4,v5] h) (PI (C36 s) K 12 [v0,v3,v4,v5] h)):PI (C36 s) K 9 [v0,v3,v4,v5] h:=zB H
theorem P36_10_of (H :
 EvO (zH E 26 v4 v5) fun x4=>
 EvO (zG E 54 h x4) fun x5=>
 EvO (zH E 26 v0 v3) fun x6=>
 Ev s (zh E 54 h x6 x5) fun x7=>
 PI (C36 s) K 11 [v0,v3,v4,v5] x7.2):PI (C36 s) K 10 [v0,v3,v4,v5] h:=zB H
theorem P36_11_of (H :
 EvO (zF E .add 3 v3 (.int .i64 1)) fun x1=>
 PI (C36 s) K 12 [v0,x1,v4,v5] h):PI (C36 s) K 11 [v0,v3,v4,v5] h:=zB H
theorem P36_12_of (H :
 EvO (zF E .add 3 v5 (.int .i64 1)) fun x1=>
 PI (C36 s) K 8 [v0,v3,v4,x1] h):PI (C36 s) K 12 [v0,v3,v4,v5] h:=zB H
theorem P36_13_of (H :
 EvO (z6 E (zm [(54,v0),(55,v3)]) (zr B36 [1,1,0,1,0,0,1,0,0,1,0,1,1,0] 2)) fun x2=>
 Ev s (zAC E .clear [26] [x2] h) fun x3=>
 PI (C36 s) K 14 [v0,v3] x3.2):PI (C36 s) K 13 [v0,v3] h:=zB H
theorem P36_14_of (H :
 EvO (z6 E (zm [(57,v0),(58,v3)]) (zr B36 [1,1,0,1,0,0,1,0,0,1,0,1,1,1,0] 2)) fun x2=>
 K .ret [x2] h):PI (C36 s) K 14 [v0,v3] h:=zB H
theorem P36_15_of (H :
 EvO (zF E .add 3 v3 (.int .i64 1)) fun x1=>
 PI (C36 s) K 4 [v0,x1] h):PI (C36 s) K 15 [v0,v3] h:=zB H
theorem P36_16_of (H :
 K .ret [v0] h):PI (C36 s) K 16 [v0] h:=zB H
theorem F36_flat1 (hok:h.ok) (hv:zj v=true) (H:PI (C36 true) (KR E [.tmp 2] fun x k=>x=v/\h.next<=k.wm) 0 [v0] h.fresh):(zX E).call 36 [v0] h=some [(v,h)]:=flatF1 Tryz.f36 hok hv (zz (C36 true) H)
theorem F36_some (H:PI (C36 true) (KR E [.tmp 2] fun x k=>(zj x=false\/k.wm<h.next)/\Rp x ⟨k.t,k.next,cond (Nat.ble h.wm k.wm) h.wm k.wm⟩) 0 [v0] h.fresh):Ev true ((zX E).call 36 [v0] h) fun x=>Rp x.1 x.2:=someF Tryz.f36 (zz (C36 true) H)
noncomputable def B37:Code:=ze Tryz.f37
noncomputable def C37 (s:Bool):Cx:=⟨E,s,none,B37,[([0],[0,1]),([1,0],[0,1]),([1,1,0,0],[0,1,5]),([1,1,0,1,0,0],[0]),([1,1,1,0,0],[0,1,5]),([1,1,1,0,1,0,0,0,0],[0,1,5,6]),([1,1,1,0,1,0,0,1,0,0,0],[0,1,5,6]),([1,1,1,0,1,0,0,1,0,0,1,0],[0,1,5,6,7]),([1,1,1,0,1,0,0,1,0,0,1,1,0,0],[0,1,5,6,7]),([1,1,1,0,1,0,0,1,0,0,1,1,0,1],[0,1,5,6]),([1,1,1,0,1,0,0,1,1],[0,1,5,6]),([1,1,1,1,0],[0,5]),([1,1,1,1,1,0],[0,5])],[4],[]⟩
abbrev P37_5 (s:Bool) (K:KF) (v0 v1 v5 v6:Value) (h:AH):Prop:=PI (C37 s) K 5 [v0,v1,v5,v6] h
theorem P37_0_of (H :
 PI (C37 s) K 1 [v0,v1] h):PI (C37 s) K 0 [v0,v1] h:=zB H
theorem P37_1_of (H :
 Ev s (zV (zX E) (some (.func (.func 95) #[] #[])) [v0,v1] h) fun x2=>
 PI (C37 s) K 2 [v0,v1,x2.1] x2.2):PI (C37 s) K 1 [v0,v1] h:=zB H
theorem P37_2_of (H :
 EvO (zF E .eql 3 v5 (.int .i64 (-1))) fun x1=>
 BrK x1 (PI (C37 s) K 3 [v0] h) (PI (C37 s) K 4 [v0,v1,v5] h)):PI (C37 s) K 2 [v0,v1,v5] h:=zB H
theorem P37_3_of (H :
 K .ret [v0] h):PI (C37 s) K 3 [v0] h:=zB H
theorem P37_4_of (H :
 EvO (zF E .add 3 v5 (.int .i64 1)) fun x1=>
 PI (C37 s) K 5 [v0,v1,v5,x1] h):PI (C37 s) K 4 [v0,v1,v5] h:=zB H
theorem P37_5_of (H :
 EvO (zM E (zm [(17,v0)]) (zr B37 [1,1,1,0,1,0,0,0,0] 2) h) fun x2=>
 EvO (zF E .lss 3 v6 x2) fun x3=>
 BrK x3 (PI (C37 s) K 6 [v0,v1,v5,v6] h) (PI (C37 s) K 11 [v0,v5] h)):PI (C37 s) K 5 [v0,v1,v5,v6] h:=zB H
theorem len37_5_2:zM E (zm [(17,.slice a n c)]) (zr B37 [1,1,1,0,1,0,0,0,0] 2) h=some (.int .i64 (n:Int)):=by cases a <;> kernel_rfl
theorem P37_6_of (H :
 EvO (zH E 26 v0 v6) fun x2=>
 EvO (zG E 54 h x2) fun x3=>
 Ev s (zP 54 h (zv E 54)) fun x4=>
 Ev s (zh E 54 x4.2 x4.1 x3) fun x5=>
 PI (C37 s) K 7 [v0,v1,v5,v6,x4.1] x5.2):PI (C37 s) K 6 [v0,v1,v5,v6] h:=zB H
theorem P37_7_of (H :
 EvO (zG E 54 h v7) fun x1=>
 Ev s (zV (zX E) v1 [x1] h) fun x2=>
 EvO (zAY .not x2.1) fun x3=>
 BrK x3 (PI (C37 s) K 8 [v0,v1,v5,v6,v7] x2.2) (PI (C37 s) K 10 [v0,v1,v5,v6] x2.2)):PI (C37 s) K 7 [v0,v1,v5,v6,v7] h:=zB H
theorem P37_8_of (H :
 EvO (zG E 54 h v7) fun x2=>
 EvO (zH E 26 v0 v5) fun x3=>
 Ev s (zh E 54 h x3 x2) fun x4=>
 PI (C37 s) K 9 [v0,v1,v5,v6] x4.2):PI (C37 s) K 8 [v0,v1,v5,v6,v7] h:=zB H
theorem P37_9_of (H :
 EvO (zF E .add 3 v5 (.int .i64 1)) fun x1=>
 PI (C37 s) K 10 [v0,v1,x1,v6] h):PI (C37 s) K 9 [v0,v1,v5,v6] h:=zB H
theorem P37_10_of (H :
 EvO (zF E .add 3 v6 (.int .i64 1)) fun x1=>
 PI (C37 s) K 5 [v0,v1,v5,x1] h):PI (C37 s) K 10 [v0,v1,v5,v6] h:=zB H
theorem P37_11_of (H :
 EvO (z6 E (zm [(36,v0),(37,v5)]) (zr B37 [1,1,1,1,0] 2)) fun x2=>
 Ev s (zAC E .clear [26] [x2] h) fun x3=>
 PI (C37 s) K 12 [v0,v5] x3.2):PI (C37 s) K 11 [v0,v5] h:=zB H
theorem P37_12_of (H :
 EvO (z6 E (zm [(39,v0),(40,v5)]) (zr B37 [1,1,1,1,1,0] 2)) fun x2=>
 K .ret [x2] h):PI (C37 s) K 12 [v0,v5] h:=zB H
theorem F37_flat1 (hok:h.ok) (hv:zj v=true) (H:PI (C37 true) (KR E [.tmp 4] fun x k=>x=v/\h.next<=k.wm) 0 [v0,v1] h.fresh):(zX E).call 37 [v0,v1] h=some [(v,h)]:=flatF1 Tryz.f37 hok hv (zz (C37 true) H)
theorem F37_some (H:PI (C37 true) (KR E [.tmp 4] fun x k=>(zj x=false\/k.wm<h.next)/\Rp x ⟨k.t,k.next,cond (Nat.ble h.wm k.wm) h.wm k.wm⟩) 0 [v0,v1] h.fresh):Ev true ((zX E).call 37 [v0,v1] h) fun x=>Rp x.1 x.2:=someF Tryz.f37 (zz (C37 true) H)
end Go.Proofs
namespace Go.Proofs
open Go Go.AM
set_option maxRecDepth 100000
theorem ts_49:zAO E 49=some 1:=by kernel_rfl
theorem ta_49:tAS E 49=some (false,1):=by kernel_rfl
theorem z_49:zv E 49=some (.slice none 0 0):=by kernel_rfl
theorem ts_71:zAO E 71=some 1:=by kernel_rfl
theorem ta_71:tAS E 71=some (false,1):=by kernel_rfl
theorem z_71:zv E 71=some .nilFunc:=by kernel_rfl
theorem ts_74:zAO E 74=some 1:=by kernel_rfl
theorem ta_74:tAS E 74=some (false,1):=by kernel_rfl
theorem z_74:zv E 74=some .nilFunc:=by kernel_rfl
variable {s:Bool} {K:KF} {h:AH} {a:Option Addr} {n c:Nat} {v v0 v1 v2 v3 v4 v5 v6 v7 v8 v9 v10 v12 v13 v14 v15 v16 v17 v77 v78 v79:Value} {h1:AH} {Rp:Value->AH->Prop}
noncomputable def B96:Code:=ze Tryz.f96
noncomputable def C96 (s:Bool):Cx:=⟨E,s,none,B96,[([0],[0,1]),([1,0,0],[0,1]),([1,0,1,0,0,0],[0,1,7,8]),([1,0,1,0,0,1,1,0,0,0],[0,1,7,8]),([1,0,1,0,0,1,1,0,0,1,0],[0,1,5,7,8]),([1,0,1,0,0,1,1,0,0,1,1,0,0],[5]),([1,0,1,0,0,1,1,1],[0,1,7,8]),([1,1,0],[])],[4],[]⟩
theorem P96_0_of (H :
 PI (C96 s) K 1 [v0,v1] h):PI (C96 s) K 0 [v0,v1] h:=zB H
theorem P96_1_of (H :
 EvO (zM E (zm [(6,v0)]) (zr B96 [1,0,0] 1) h) fun x1=>
 PI (C96 s) K 2 [v0,v1,x1,(.int .i64 0)] h):PI (C96 s) K 1 [v0,v1] h:=zB H
theorem len96_1_1:zM E (zm [(6,.slice a n c)]) (zr B96 [1,0,0] 1) h=some (.int .i64 (n:Int)):=by cases a <;> kernel_rfl
theorem P96_2_of (H :
 EvO (zF E .lss 3 v8 v7) fun x0=>
 BrK x0 (PI (C96 s) K 3 [v0,v1,v7,v8] h) (PI (C96 s) K 7 [] h)):PI (C96 s) K 2 [v0,v1,v7,v8] h:=zB H
theorem P96_3_of (H :
 PI (C96 s) K 4 [v0,v1,v8,v7,v8] h):PI (C96 s) K 3 [v0,v1,v7,v8] h:=zB H
theorem P96_4_of (H :
 EvO (zH E 23 v0 v5) fun x3=>
 EvO (zG E 52 h x3) fun x4=>
 Ev s (zV (zX E) v1 [x4] h) fun x5=>
 BrK x5.1 (PI (C96 s) K 5 [v5] x5.2) (PI (C96 s) K 6 [v0,v1,v7,v8] x5.2)):PI (C96 s) K 4 [v0,v1,v5,v7,v8] h:=zB H
theorem P96_5_of (H :
 K .ret [v5] h):PI (C96 s) K 5 [v5] h:=zB H
theorem P96_6_of (H :
 EvO (zF E .add 3 v8 (.int .i64 1)) fun x0=>
 PI (C96 s) K 2 [v0,v1,v7,x0] h):PI (C96 s) K 6 [v0,v1,v7,v8] h:=zB H
theorem P96_7_of (H :
 K .ret [(.int .i64 (-1))] h):PI (C96 s) K 7 [] h:=zB H
theorem F96_flat (hok:h.ok) (hv:zg v=true) (H:PI (C96 s) (KR E [.tmp 4] fun x k=>x=v/\h.next<=k.wm) 0 [v0,v1] h.fresh):(zX E).call 96 [v0,v1] h=some [(v,h)]:=zAT Tryz.f96 hok hv (zz (C96 s) H)
noncomputable def B41:Code:=ze Tryz.f41
noncomputable def C41 (s:Bool):Cx:=⟨E,s,none,B41,[([0],[0,1]),([1,0],[0,1])],[4],[]⟩
theorem P41_0_of (H :
 PI (C41 s) K 1 [v0,v1] h):PI (C41 s) K 0 [v0,v1] h:=zB H
theorem P41_1_of (H :
 Ev s (zV (zX E) (some (.func (.func 96) #[] #[])) [v0,v1] h) fun x2=>
 EvO (zF E .geq 3 x2.1 (.int .i64 0)) fun x3=>
 K .ret [x3] x2.2):PI (C41 s) K 1 [v0,v1] h:=zB H
theorem F41_flat (hok:h.ok) (hv:zg v=true) (H:PI (C41 s) (KR E [.tmp 4] fun x k=>x=v/\h.next<=k.wm) 0 [v0,v1] h.fresh):(zX E).call 41 [v0,v1] h=some [(v,h)]:=zAT Tryz.f41 hok hv (zz (C41 s) H)
noncomputable def B44:Code:=ze Tryz.f44
noncomputable def C44 (s:Bool):Cx:=⟨E,s,none,B44,[([0],[0,1,2]),([1,0],[0,1,2])],[5],[]⟩
theorem P44_0_of (H :
 PI (C44 s) K 1 [v0,v1,v2] h):PI (C44 s) K 0 [v0,v1,v2] h:=zB H
theorem P44_1_of (H :
 EvO (zG E 26 h v2) fun x0=>
 EvO (zAg E 54 (some [(0,v0),(1,v1)])) fun x3=>
 Ev s (zV (zX E) (some (.func (.func 26) #[] #[])) [x0,x3] h) fun x4=>
 K .ret [x4.1] x4.2):PI (C44 s) K 1 [v0,v1,v2] h:=zB H
theorem F44_flat (hok:h.ok) (hv:zg v=true) (H:PI (C44 s) (KR E [.tmp 5] fun x k=>x=v/\h.next<=k.wm) 0 [v0,v1,v2] h.fresh):(zX E).call 44 [v0,v1,v2] h=some [(v,h)]:=zAT Tryz.f44 hok hv (zz (C44 s) H)
noncomputable def B45:Code:=ze Tryz.f45
noncomputable def C45 (s:Bool):Cx:=⟨E,s,none,B45,[([0],[0,1,2]),([1,0],[0,1,2])],[5],[]⟩
theorem P45_0_of (H :
 PI (C45 s) K 1 [v0,v1,v2] h):PI (C45 s) K 0 [v0,v1,v2] h:=zB H
theorem P45_1_of (H :
 EvO (zG E 26 h v2) fun x0=>
 EvO (zAg E 54 (some [(0,v1),(1,v0)])) fun x3=>
 Ev s (zV (zX E) (some (.func (.func 26) #[] #[])) [x0,x3] h) fun x4=>
 K .ret [x4.1] x4.2):PI (C45 s) K 1 [v0,v1,v2] h:=zB H
theorem F45_flat (hok:h.ok) (hv:zg v=true) (H:PI (C45 s) (KR E [.tmp 5] fun x k=>x=v/\h.next<=k.wm) 0 [v0,v1,v2] h.fresh):(zX E).call 45 [v0,v1,v2] h=some [(v,h)]:=zAT Tryz.f45 hok hv (zz (C45 s) H)
noncomputable def B42:Code:=ze Tryz.f42
noncomputable def C42 (s:Bool):Cx:=⟨E,s,none,B42,[([0],[0,1,2,3,4]),([1,0],[1,2,3,4,5])],[6],[]⟩
theorem P42_0_of (H :
 Ev s (zP 52 h v0) fun x0=>
 PI (C42 s) K 1 [v1,v2,v3,v4,x0.1] x0.2):PI (C42 s) K 0 [v0,v1,v2,v3,v4] h:=zB H
theorem P42_1_of (H :
 EvO (zC E 25 1 v1) fun x0=>
 EvO (zG E 22 h x0) fun x1=>
 EvO (zC E 52 1 v2) fun x2=>
 EvO (zG E 3 h x2) fun x3=>
 EvO (zH E 22 x1 x3) fun x4=>
 EvO (zG E 36 h x4) fun x5=>
 EvO (zC E 25 1 v3) fun x6=>
 EvO (zG E 22 h x6) fun x7=>
 EvO (zC E 52 1 v5) fun x8=>
 EvO (zG E 3 h x8) fun x9=>
 EvO (zH E 22 x7 x9) fun x10=>
 EvO (zG E 36 h x10) fun x11=>
 Ev s (zV (zX E) (some (.func (.func 28) #[] #[])) [x5,x11] h) fun x12=>
 EvO (gdB x12.1 true (zG E 71 x12.2 v4)) fun x14=>
 EvO (gdB x12.1 true (zC E 52 2 v2)) fun x15=>
 EvO (gdB x12.1 true (zG E 3 x12.2 x15)) fun x16=>
 EvO (gdB x12.1 true (zC E 52 2 v5)) fun x17=>
 EvO (gdB x12.1 true (zG E 3 x12.2 x17)) fun x18=>
 Ev s (gdW x12.1 true (zV (zX E) x14 [x16,x18] x12.2) x12.2) fun x19=>
 EvO (z0 x12.1 x19.1 (some (.bool false))) fun x20=>
 K .ret [x20] x19.2):PI (C42 s) K 1 [v1,v2,v3,v4,v5] h:=zB H
theorem F42_flat (hok:h.ok) (hv:zg v=true) (H:PI (C42 s) (KR E [.tmp 6] fun x k=>x=v/\h.next<=k.wm) 0 [v0,v1,v2,v3,v4] h.fresh):(zX E).call 42 [v0,v1,v2,v3,v4] h=some [(v,h)]:=zAT Tryz.f42 hok hv (zz (C42 s) H)
noncomputable def B40:Code:=ze Tryz.f40
noncomputable def C40 (s:Bool):Cx:=⟨E,s,none,B40,[([0],[0,1,2,3,4]),([1,0],[3,5,6,7,9])],[10],[]⟩
theorem P40_0_of (H :
 Ev s (zP 25 h v0) fun x0=>
 Ev s (zP 25 x0.2 v1) fun x1=>
 Ev s (zP 52 x1.2 v2) fun x2=>
 Ev s (zP 71 x2.2 v4) fun x3=>
 PI (C40 s) K 1 [v3,x0.1,x1.1,x2.1,x3.1] x3.2):PI (C40 s) K 0 [v0,v1,v2,v3,v4] h:=zB H
theorem P40_1_of (H :
 EvO (zAR (.func 42) (some []) [v5,v7,v6,v9]) fun x1=>
 Ev s (zV (zX E) (some (.func (.func 41) #[] #[])) [v3,x1] h) fun x2=>
 K .ret [x2.1] x2.2):PI (C40 s) K 1 [v3,v5,v6,v7,v9] h:=zB H
theorem F40_flat (hok:h.ok) (hv:zg v=true) (H:PI (C40 s) (KR E [.tmp 10] fun x k=>x=v/\h.next<=k.wm) 0 [v0,v1,v2,v3,v4] h.fresh):(zX E).call 40 [v0,v1,v2,v3,v4] h=some [(v,h)]:=zAT Tryz.f40 hok hv (zz (C40 s) H)
noncomputable def B46:Code:=ze Tryz.f46
noncomputable def C46 (s:Bool):Cx:=⟨E,s,none,B46,[([0],[0,1,2,3,4,5,6]),([1,0],[1,2,3,4,5,6,7])],[8],[]⟩
theorem P46_0_of (H :
 Ev s (zP 52 h v0) fun x0=>
 PI (C46 s) K 1 [v1,v2,v3,v4,v5,v6,x0.1] x0.2):PI (C46 s) K 0 [v0,v1,v2,v3,v4,v5,v6] h:=zB H
theorem P46_1_of (H :
 EvO (zG E 74 h v1) fun x0=>
 EvO (zG E 25 h v2) fun x1=>
 EvO (zG E 25 h v3) fun x2=>
 EvO (zG E 52 h v7) fun x3=>
 EvO (zG E 49 h v4) fun x4=>
 EvO (zH E 54 v5 (some (.int .i64 1))) fun x5=>
 EvO (zG E 3 h x5) fun x6=>
 EvO (zH E 49 x4 x6) fun x7=>
 EvO (zG E 23 h x7) fun x8=>
 EvO (zG E 71 h v6) fun x9=>
 Ev s (zV (zX E) x0 [x1,x2,x3,x8,x9] h) fun x10=>
 EvO (zAY .not x10.1) fun x11=>
 K .ret [x11] x10.2):PI (C46 s) K 1 [v1,v2,v3,v4,v5,v6,v7] h:=zB H
theorem F46_flat (hok:h.ok) (hv:zg v=true) (H:PI (C46 s) (KR E [.tmp 8] fun x k=>x=v/\h.next<=k.wm) 0 [v0,v1,v2,v3,v4,v5,v6] h.fresh):(zX E).call 46 [v0,v1,v2,v3,v4,v5,v6] h=some [(v,h)]:=zAT Tryz.f46 hok hv (zz (C46 s) H)
noncomputable def B47:Code:=ze Tryz.f47
noncomputable def C47 (s:Bool):Cx:=⟨E,s,none,B47,[([0],[0,1,2,3,4,5,6]),([1,0],[1,2,3,4,5,6,7])],[8],[]⟩
theorem P47_0_of (H :
 Ev s (zP 52 h v0) fun x0=>
 PI (C47 s) K 1 [v1,v2,v3,v4,v5,v6,x0.1] x0.2):PI (C47 s) K 0 [v0,v1,v2,v3,v4,v5,v6] h:=zB H
theorem P47_1_of (H :
 EvO (zG E 74 h v1) fun x0=>
 EvO (zG E 25 h v2) fun x1=>
 EvO (zG E 25 h v3) fun x2=>
 EvO (zG E 52 h v7) fun x3=>
 EvO (zG E 49 h v4) fun x4=>
 EvO (zH E 54 v5 (some (.int .i64 0))) fun x5=>
 EvO (zG E 3 h x5) fun x6=>
 EvO (zH E 49 x4 x6) fun x7=>
 EvO (zG E 23 h x7) fun x8=>
 EvO (zG E 71 h v6) fun x9=>
 Ev s (zV (zX E) x0 [x1,x2,x3,x8,x9] h) fun x10=>
 EvO (zAY .not x10.1) fun x11=>
 K .ret [x11] x10.2):PI (C47 s) K 1 [v1,v2,v3,v4,v5,v6,v7] h:=zB H
theorem F47_flat (hok:h.ok) (hv:zg v=true) (H:PI (C47 s) (KR E [.tmp 8] fun x k=>x=v/\h.next<=k.wm) 0 [v0,v1,v2,v3,v4,v5,v6] h.fresh):(zX E).call 47 [v0,v1,v2,v3,v4,v5,v6] h=some [(v,h)]:=zAT Tryz.f47 hok hv (zz (C47 s) H)
noncomputable def B43:Code:=ze Tryz.f43
noncomputable def C43 (s:Bool):Cx:=⟨E,s,none,B43,[([0],[0,1,2,3,4,5,6]),([1,0],[1,2,3,4,5,6,7]),([1,1,0],[1,2,3,4,5,6,7,9]),([1,1,1,0],[2,3,4,5,6,7,9,10])],[8],[]⟩
theorem P43_0_of (H :
 Ev s (zP 54 h v0) fun x0=>
 PI (C43 s) K 1 [v1,v2,v3,v4,v5,v6,x0.1] x0.2):PI (C43 s) K 0 [v0,v1,v2,v3,v4,v5,v6] h:=zB H
theorem P43_1_of (H :
 EvO (zAR (.func 44) (some []) [v1]) fun x0=>
 Ev s (zP 71 h (zv E 71)) fun x1=>
 Ev s (zh E 71 x1.2 x1.1 x0) fun x2=>
 PI (C43 s) K 2 [v1,v2,v3,v4,v5,v6,v7,x1.1] x2.2):PI (C43 s) K 1 [v1,v2,v3,v4,v5,v6,v7] h:=zB H
theorem P43_2_of (H :
 EvO (zAR (.func 45) (some []) [v1]) fun x0=>
 Ev s (zP 71 h (zv E 71)) fun x1=>
 Ev s (zh E 71 x1.2 x1.1 x0) fun x2=>
 PI (C43 s) K 3 [v2,v3,v4,v5,v6,v7,v9,x1.1] x2.2):PI (C43 s) K 2 [v1,v2,v3,v4,v5,v6,v7,v9] h:=zB H
theorem P43_3_of (H :
 EvO (zG E 49 h v2) fun x0=>
 EvO (zH E 54 v7 (some (.int .i64 0))) fun x1=>
 EvO (zG E 3 h x1) fun x2=>
 EvO (zH E 49 x0 x2) fun x3=>
 EvO (zG E 23 h x3) fun x4=>
 EvO (zAR (.func 46) (some []) [v3,v4,v5,v6,v7,v9]) fun x5=>
 Ev s (zV (zX E) (some (.func (.func 41) #[] #[])) [x4,x5] h) fun x6=>
 EvO (gdB x6.1 false (zG E 49 x6.2 v6)) fun x8=>
 EvO (gdB x6.1 false (zH E 54 v7 (some (.int .i64 1)))) fun x9=>
 EvO (gdB x6.1 false (zG E 3 x6.2 x9)) fun x10=>
 EvO (gdB x6.1 false (zH E 49 x8 x10)) fun x11=>
 EvO (gdB x6.1 false (zG E 23 x6.2 x11)) fun x12=>
 EvO (gdB x6.1 false (zAR (.func 47) (some []) [v3,v5,v4,v2,v7,v10])) fun x13=>
 Ev s (gdW x6.1 false (zV (zX E) (some (.func (.func 41) #[] #[])) [x12,x13] x6.2) x6.2) fun x14=>
 EvO (z0 x6.1 (some (.bool true)) x14.1) fun x15=>
 K .ret [x15] x14.2):PI (C43 s) K 3 [v2,v3,v4,v5,v6,v7,v9,v10] h:=zB H
theorem F43_flat (hok:h.ok) (hv:zg v=true) (H:PI (C43 s) (KR E [.tmp 8] fun x k=>x=v/\h.next<=k.wm) 0 [v0,v1,v2,v3,v4,v5,v6] h.fresh):(zX E).call 43 [v0,v1,v2,v3,v4,v5,v6] h=some [(v,h)]:=zAT Tryz.f43 hok hv (zz (C43 s) H)
noncomputable def B48:Code:=ze Tryz.f48
noncomputable def C48 (s:Bool):Cx:=⟨E,s,none,B48,[([0],[0,1]),([1,0,0],[0,1]),([1,0,1,0,0,0,0],[0,1,5]),([1,0,1,0,0,1,0,0,0],[0,1,5]),([1,0,1,0,0,1,0,0,1,0,0],[]),([1,0,1,0,0,1,1],[0,1,5]),([1,1,0],[])],[4],[]⟩
theorem P48_0_of (H :
 PI (C48 s) K 1 [v0,v1] h):PI (C48 s) K 0 [v0,v1] h:=zB H
theorem P48_1_of (H :
 EvO (zM E (zm [(6,v0)]) (zr B48 [1,0,0] 1) h) fun x1=>
 EvO (zF E .sub 3 x1 (.int .i64 1)) fun x2=>
 PI (C48 s) K 2 [v0,v1,x2] h):PI (C48 s) K 1 [v0,v1] h:=zB H
theorem len48_1_1:zM E (zm [(6,.slice a n c)]) (zr B48 [1,0,0] 1) h=some (.int .i64 (n:Int)):=by cases a <;> kernel_rfl
theorem P48_2_of (H :
 EvO (zF E .gtr 3 v5 (.int .i64 0)) fun x1=>
 BrK x1 (PI (C48 s) K 3 [v0,v1,v5] h) (PI (C48 s) K 6 [] h)):PI (C48 s) K 2 [v0,v1,v5] h:=zB H
theorem P48_3_of (H :
 EvO (zH E 26 v0 v5) fun x3=>
 EvO (zG E 54 h x3) fun x4=>
 EvO (zF E .sub 3 v5 (.int .i64 1)) fun x7=>
 EvO (zH E 26 v0 x7) fun x8=>
 EvO (zG E 54 h x8) fun x9=>
 Ev s (zV (zX E) v1 [x4,x9] h) fun x10=>
 EvO (zF E .lss 3 x10.1 (.int .i64 0)) fun x11=>
 BrK x11 (PI (C48 s) K 4 [] x10.2) (PI (C48 s) K 5 [v0,v1,v5] x10.2)):PI (C48 s) K 3 [v0,v1,v5] h:=zB H
theorem P48_4_of (H :
 K .ret [(.bool false)] h):PI (C48 s) K 4 [] h:=zB H
theorem P48_5_of (H :
 EvO (zF E .sub 3 v5 (.int .i64 1)) fun x1=>
 PI (C48 s) K 2 [v0,v1,x1] h):PI (C48 s) K 5 [v0,v1,v5] h:=zB H
theorem P48_6_of (H :
 K .ret [(.bool true)] h):PI (C48 s) K 6 [] h:=zB H
theorem F48_flatE {Rp:Value->Prop} (hok:h.ok) (H:PI (C48 true) (KR E [.tmp 4] fun x k=>(zj x=true/\Rp x)/\h.next<=k.wm) 0 [v0,v1] h.fresh):∃ v,Rp v/\(zX E).call 48 [v0,v1] h=some [(v,h)]:=flatFE Tryz.f48 hok (zz (C48 true) H)
noncomputable def B49:Code:=ze Tryz.f49
noncomputable def C49 (s:Bool):Cx:=⟨E,s,none,B49,[([0],[0,1]),([1,0],[2,3])],[4],[]⟩
theorem P49_0_of (H :
 Ev s (zP 54 h v0) fun x0=>
 Ev s (zP 54 x0.2 v1) fun x1=>
 PI (C49 s) K 1 [x0.1,x1.1] x1.2):PI (C49 s) K 0 [v0,v1] h:=zB H
theorem P49_1_of (H :
 EvO (z6 E (zm [(2,v2)]) (zr B49 [1,0] 0)) fun x0=>
 EvO (z6 E (zm [(3,v3)]) (zr B49 [1,0] 1)) fun x1=>
 Ev s (zV (zX E) (some (.func (.func 35) #[] #[])) [x0,x1] h) fun x2=>
 K .ret [x2.1] x2.2):PI (C49 s) K 1 [v2,v3] h:=zB H
theorem F49_flat (hok:h.ok) (hv:zg v=true) (H:PI (C49 s) (KR E [.tmp 4] fun x k=>x=v/\h.next<=k.wm) 0 [v0,v1] h.fresh):(zX E).call 49 [v0,v1] h=some [(v,h)]:=zAT Tryz.f49 hok hv (zz (C49 s) H)
noncomputable def B8:Code:=ze Tryz.f8
noncomputable def C8 (s:Bool):Cx:=⟨E,s,none,B8,[([0],[0,1,2]),([1,0,0],[3,4,5]),([1,0,1,0,0],[]),([1,1,0,0],[3,4,5]),([1,1,0,1,0,0],[]),([1,1,1,0],[3,4,5]),([1,1,1,1,0],[3,4,5,7]),([1,1,1,1,1,0],[3,4,5,7,8,9]),([1,1,1,1,1,1,0,0],[3,4,5,7,8,9,10]),([1,1,1,1,1,1,0,1,0,0,0],[3,4,5,7,8,9,10,77,78,79]),([1,1,1,1,1,1,0,1,0,0,1,1,0,0,0],[3,4,5,7,8,9,10,77,78,79]),([1,1,1,1,1,1,0,1,0,0,1,1,0,0,1,0],[3,4,5,7,8,9,10,12,77,78,79]),([1,1,1,1,1,1,0,1,0,0,1,1,0,0,1,1,0,0],[7]),([1,1,1,1,1,1,0,1,0,0,1,1,1],[3,4,5,7,8,9,10,77,78,79]),([1,1,1,1,1,1,1,0],[3,4,5,7,8,9,10]),([1,1,1,1,1,1,1,1,0,0],[3,4,5,7,8,9,10,13]),([1,1,1,1,1,1,1,1,0,1,0,0,0,0],[3,4,5,7,8,9,10,13,14]),([1,1,1,1,1,1,1,1,0,1,0,0,1,0,0],[3,4,5,7,8,9,10,13]),([1,1,1,1,1,1,1,1,0,1,0,0,1,0,1,0],[3,4,5,7,8,9,10,13,15]),([1,1,1,1,1,1,1,1,0,1,0,0,1,0,1,1],[3,4,5,7,8,9,10,13,15]),([1,1,1,1,1,1,1,1,1,0],[3,4,5,7,10]),([1,1,1,1,1,1,1,1,1,1,0,0],[5,7,10,16]),([1,1,1,1,1,1,1,1,1,1,0,1,0,0],[7,16]),([1,1,1,1,1,1,1,1,1,1,1,0],[5,7,10,16]),([1,1,1,1,1,1,1,1,1,1,1,1,0],[5,7,10,16,17])],[6],[]⟩
theorem P8_0_of (H :
 Ev s (zP 25 h v0) fun x0=>
 Ev s (zP 25 x0.2 v1) fun x1=>
 Ev s (zP 32 x1.2 v2) fun x2=>
 PI (C8 s) K 1 [x0.1,x1.1,x2.1] x2.2):PI (C8 s) K 0 [v0,v1,v2] h:=zB H
theorem P8_1_of (H :
 Ev s (zV (zX E) (some (.func (.func 13) #[] #[])) (some []) h) fun x0=>
 EvO (zAY .not x0.1) fun x1=>
 BrK x1 (PI (C8 s) K 2 [] x0.2) (PI (C8 s) K 3 [v3,v4,v5] x0.2)):PI (C8 s) K 1 [v3,v4,v5] h:=zB H
theorem P8_3_of (H :
 EvO (zG E 25 h v3) fun x0=>
 EvO (zG E 25 h v4) fun x1=>
 Ev s (zi E 82 2 (some [(0,x0),(1,x1)]) h) fun x2=>
 Ev s (zV (zX E) (some (.func (.func 14) #[] #[])) [x2.1] x2.2) fun x3=>
 EvO (zAY .not x3.1) fun x4=>
 EvO (gdB x4 false (zC E 25 0 v3)) fun x6=>
 EvO (gdB x4 false (zG E 3 x3.2 x6)) fun x7=>
 EvO (gdB x4 false (zF E .gtr 3 x7 (.int .i64 12))) fun x8=>
 EvO (z0 x4 (some (.bool true)) x8) fun x9=>
 EvO (gdB x9 false (zC E 25 0 v4)) fun x11=>
 EvO (gdB x9 false (zG E 3 x3.2 x11)) fun x12=>
 EvO (gdB x9 false (zF E .gtr 3 x12 (.int .i64 12))) fun x13=>
 EvO (z0 x9 (some (.bool true)) x13) fun x14=>
 EvO (gdB x14 false (zC E 25 2 v3)) fun x16=>
 EvO (gdB x14 false (zG E 23 x3.2 x16)) fun x17=>
 EvO (gdB x14 false (zM E (zm [(37,x17)]) (zr B8 [1,1,0,0] 18) x3.2)) fun x18=>
 EvO (gdB x14 false (zC E 25 2 v4)) fun x19=>
 EvO (gdB x14 false (zG E 23 x3.2 x19)) fun x20=>
 EvO (gdB x14 false (zM E (zm [(40,x20)]) (zr B8 [1,1,0,0] 21) x3.2)) fun x21=>
 EvO (gdB x14 false (zF E .add 3 x18 x21)) fun x22=>
 EvO (gdB x14 false (zF E .gtr 3 x22 (.int .i64 60))) fun x23=>
 EvO (z0 x14 (some (.bool true)) x23) fun x24=>
 EvO (gdB x24 false (zC E 32 1 v5)) fun x26=>
 EvO (gdB x24 false (zG E 26 x3.2 x26)) fun x27=>
 EvO (gdB x24 false (zM E (zm [(47,x27)]) (zr B8 [1,1,0,0] 28) x3.2)) fun x28=>
 EvO (gdB x24 false (zF E .gtr 3 x28 (.int .i64 300))) fun x29=>
 EvO (z0 x24 (some (.bool true)) x29) fun x30=>
 EvO (gdB x30 false (zC E 32 0 v5)) fun x32=>
 EvO (gdB x30 false (zG E 3 x3.2 x32)) fun x33=>
 EvO (gdB x30 false (zF E .neq 3 x33 (.int .i64 1))) fun x34=>
 EvO (z0 x30 (some (.bool true)) x34) fun x35=>
 EvO (gdB x35 false (zG E 25 x3.2 v3)) fun x37=>
 Ev s (gdW x35 false (zV (zX E) (some (.func (.func 23) #[] #[])) [x37] x3.2) x3.2) fun x38=>
 EvO (gdB x35 false (zF E .neq 29 x38.1 (.int .i64 0))) fun x39=>
 EvO (z0 x35 (some (.bool true)) x39) fun x40=>
 EvO (gdB x40 false (zG E 25 x38.2 v4)) fun x42=>
 Ev s (gdW x40 false (zV (zX E) (some (.func (.func 23) #[] #[])) [x42] x38.2) x38.2) fun x43=>
 EvO (gdB x40 false (zF E .neq 29 x43.1 (.int .i64 0))) fun x44=>
 EvO (z0 x40 (some (.bool true)) x44) fun x45=>
 BrK x45 (PI (C8 s) K 4 [] x43.2) (PI (C8 s) K 5 [v3,v4,v5] x43.2)):PI (C8 s) K 3 [v3,v4,v5] h:=zB H
theorem len8_3_18:zM E (zm [(37,.slice a n c)]) (zr B8 [1,1,0,0] 18) h=some (.int .i64 (n:Int)):=by cases a <;> kernel_rfl
theorem len8_3_21:zM E (zm [(40,.slice a n c)]) (zr B8 [1,1,0,0] 21) h=some (.int .i64 (n:Int)):=by cases a <;> kernel_rfl
theorem len8_3_28:zM E (zm [(47,.slice a n c)]) (zr B8 [1,1,0,0] 28) h=some (.int .i64 (n:Int)):=by cases a <;> kernel_rfl
theorem P8_4_of (H :
 K .ret [(.bool true)] h):PI (C8 s) K 4 [] h:=zB H
theorem P8_5_of (H :
 EvO (zG E 25 h v3) fun x0=>
 EvO (zG E 25 h v4) fun x1=>
 EvO (zG E 32 h v5) fun x2=>
 Ev s (zV (zX E) (some (.func (.func 15) #[] #[])) [x0,x1,x2] h) fun x3=>
 PI (C8 s) K 6 [v3,v4,v5,x3.1] x3.2):PI (C8 s) K 5 [v3,v4,v5] h:=zB H
theorem P8_6_of (H :
 EvO (zG E 25 h v3) fun x0=>
 EvO (zG E 25 h v4) fun x2=>
 s=false/\(Ev s (zV (zX E) (some (.func (.func 24) #[] #[])) [x0] h) fun x1=>
 EvO (zG E 25 x1.2 v4) fun u1_2=>veq 100 u1_2 x2=true ∧
 (s=false/\(Ev s (zV (zX E) (some (.func (.func 24) #[] #[])) [x2] x1.2) fun x3=>
 s=false/\(Ev s (zP 49 x3.2 (zv E 49)) fun x4=>
 Ev s (zP 49 x4.2 (zv E 49)) fun x5=>
 Ev s (zh E 49 x5.2 x4.1 x1.1) fun x6=>
 Ev s (zh E 49 x6.2 x5.1 x3.1) fun x7=>
 PI (C8 s) K 7 [v3,v4,v5,v7,x4.1,x5.1] x7.2)/\(Ev s (zP 49 x3.2 (zv E 49)) fun x5=>
 Ev s (zP 49 x5.2 (zv E 49)) fun x4=>
 Ev s (zh E 49 x4.2 x4.1 x1.1) fun x6=>
 Ev s (zh E 49 x6.2 x5.1 x3.1) fun x7=>
 PI (C8 s) K 7 [v3,v4,v5,v7,x4.1,x5.1] x7.2))/\(Ev s (zP 49 x1.2 (zv E 49)) fun x4=>
 EvO (zG E 25 x4.2 v4) fun u4_2=>veq 100 u4_2 x2=true ∧
 (s=false/\(Ev s (zV (zX E) (some (.func (.func 24) #[] #[])) [x2] x4.2) fun x3=>
 Ev s (zP 49 x3.2 (zv E 49)) fun x5=>
 Ev s (zh E 49 x5.2 x4.1 x1.1) fun x6=>
 Ev s (zh E 49 x6.2 x5.1 x3.1) fun x7=>
 PI (C8 s) K 7 [v3,v4,v5,v7,x4.1,x5.1] x7.2)/\(Ev s (zP 49 x4.2 (zv E 49)) fun x5=>
 EvO (zG E 25 x5.2 v4) fun u5_2=>veq 100 u5_2 x2=true ∧
 (Ev s (zV (zX E) (some (.func (.func 24) #[] #[])) [x2] x5.2) fun x3=>
 Ev s (zh E 49 x3.2 x4.1 x1.1) fun x6=>
 Ev s (zh E 49 x6.2 x5.1 x3.1) fun x7=>
 PI (C8 s) K 7 [v3,v4,v5,v7,x4.1,x5.1] x7.2))))/\(Ev s (zP 49 x1.2 (zv E 49)) fun x5=>
 EvO (zG E 25 x5.2 v4) fun u5_2=>veq 100 u5_2 x2=true ∧
 (s=false/\(Ev s (zV (zX E) (some (.func (.func 24) #[] #[])) [x2] x5.2) fun x3=>
 Ev s (zP 49 x3.2 (zv E 49)) fun x4=>
 Ev s (zh E 49 x4.2 x4.1 x1.1) fun x6=>
 Ev s (zh E 49 x6.2 x5.1 x3.1) fun x7=>
 PI (C8 s) K 7 [v3,v4,v5,v7,x4.1,x5.1] x7.2)/\(Ev s (zP 49 x5.2 (zv E 49)) fun x4=>
 EvO (zG E 25 x4.2 v4) fun u4_2=>veq 100 u4_2 x2=true ∧
 (Ev s (zV (zX E) (some (.func (.func 24) #[] #[])) [x2] x4.2) fun x3=>
 Ev s (zh E 49 x3.2 x4.1 x1.1) fun x6=>
 Ev s (zh E 49 x6.2 x5.1 x3.1) fun x7=>
 PI (C8 s) K 7 [v3,v4,v5,v7,x4.1,x5.1] x7.2))))))/\(Ev s (zP 49 h (zv E 49)) fun x4=>
 EvO (zG E 25 x4.2 v4) fun u4_2=>veq 100 u4_2 x2=true ∧
 (EvO (zG E 25 x4.2 v3) fun u4_0=>veq 100 u4_0 x0=true ∧
 (s=false/\(Ev s (zV (zX E) (some (.func (.func 24) #[] #[])) [x0] x4.2) fun x1=>
 EvO (zG E 25 x1.2 v4) fun u1_2=>veq 100 u1_2 x2=true ∧
 (s=false/\(Ev s (zV (zX E) (some (.func (.func 24) #[] #[])) [x2] x1.2) fun x3=>
 Ev s (zP 49 x3.2 (zv E 49)) fun x5=>
 Ev s (zh E 49 x5.2 x4.1 x1.1) fun x6=>
 Ev s (zh E 49 x6.2 x5.1 x3.1) fun x7=>
 PI (C8 s) K 7 [v3,v4,v5,v7,x4.1,x5.1] x7.2)/\(Ev s (zP 49 x1.2 (zv E 49)) fun x5=>
 EvO (zG E 25 x5.2 v4) fun u5_2=>veq 100 u5_2 x2=true ∧
 (Ev s (zV (zX E) (some (.func (.func 24) #[] #[])) [x2] x5.2) fun x3=>
 Ev s (zh E 49 x3.2 x4.1 x1.1) fun x6=>
 Ev s (zh E 49 x6.2 x5.1 x3.1) fun x7=>
 PI (C8 s) K 7 [v3,v4,v5,v7,x4.1,x5.1] x7.2))))/\(Ev s (zP 49 x4.2 (zv E 49)) fun x5=>
 EvO (zG E 25 x5.2 v4) fun u5_2=>veq 100 u5_2 x2=true ∧
 (EvO (zG E 25 x5.2 v3) fun u5_0=>veq 100 u5_0 x0=true ∧
 (Ev s (zV (zX E) (some (.func (.func 24) #[] #[])) [x0] x5.2) fun x1=>
 EvO (zG E 25 x1.2 v4) fun u1_2=>veq 100 u1_2 x2=true ∧
 (Ev s (zV (zX E) (some (.func (.func 24) #[] #[])) [x2] x1.2) fun x3=>
 Ev s (zh E 49 x3.2 x4.1 x1.1) fun x6=>
 Ev s (zh E 49 x6.2 x5.1 x3.1) fun x7=>
 PI (C8 s) K 7 [v3,v4,v5,v7,x4.1,x5.1] x7.2)))))))/\(Ev s (zP 49 h (zv E 49)) fun x5=>
 EvO (zG E 25 x5.2 v4) fun u5_2=>veq 100 u5_2 x2=true ∧
 (EvO (zG E 25 x5.2 v3) fun u5_0=>veq 100 u5_0 x0=true ∧
 (s=false/\(Ev s (zV (zX E) (some (.func (.func 24) #[] #[])) [x0] x5.2) fun x1=>
 EvO (zG E 25 x1.2 v4) fun u1_2=>veq 100 u1_2 x2=true ∧
 (s=false/\(Ev s (zV (zX E) (some (.func (.func 24) #[] #[])) [x2] x1.2) fun x3=>
 Ev s (zP 49 x3.2 (zv E 49)) fun x4=>
 Ev s (zh E 49 x4.2 x4.1 x1.1) fun x6=>
 Ev s (zh E 49 x6.2 x5.1 x3.1) fun x7=>
 PI (C8 s) K 7 [v3,v4,v5,v7,x4.1,x5.1] x7.2)/\(Ev s (zP 49 x1.2 (zv E 49)) fun x4=>
 EvO (zG E 25 x4.2 v4) fun u4_2=>veq 100 u4_2 x2=true ∧
 (Ev s (zV (zX E) (some (.func (.func 24) #[] #[])) [x2] x4.2) fun x3=>
 Ev s (zh E 49 x3.2 x4.1 x1.1) fun x6=>
 Ev s (zh E 49 x6.2 x5.1 x3.1) fun x7=>
 PI (C8 s) K 7 [v3,v4,v5,v7,x4.1,x5.1] x7.2))))/\(Ev s (zP 49 x5.2 (zv E 49)) fun x4=>
 EvO (zG E 25 x4.2 v4) fun u4_2=>veq 100 u4_2 x2=true ∧
 (EvO (zG E 25 x4.2 v3) fun u4_0=>veq 100 u4_0 x0=true ∧
 (Ev s (zV (zX E) (some (.func (.func 24) #[] #[])) [x0] x4.2) fun x1=>
 EvO (zG E 25 x1.2 v4) fun u1_2=>veq 100 u1_2 x2=true ∧
 (Ev s (zV (zX E) (some (.func (.func 24) #[] #[])) [x2] x1.2) fun x3=>
 Ev s (zh E 49 x3.2 x4.1 x1.1) fun x6=>
 Ev s (zh E 49 x6.2 x5.1 x3.1) fun x7=>
 PI (C8 s) K 7 [v3,v4,v5,v7,x4.1,x5.1] x7.2)))))))):PI (C8 s) K 6 [v3,v4,v5,v7] h:=zB H
theorem P8_7_of (H :
 EvO (zC E 32 1 v5) fun x0=>
 EvO (zG E 26 h x0) fun x1=>
 Ev s (zV (zX E) (some (.func (.func 32) #[] #[])) [x1] h) fun x2=>
 PI (C8 s) K 8 [v3,v4,v5,v7,v8,v9,x2.1] x2.2):PI (C8 s) K 7 [v3,v4,v5,v7,v8,v9] h:=zB H
theorem P8_8_of (H :
 EvO (zM E (zm [(77,v10)]) (zr B8 [1,1,1,1,1,1,0,0] 1) h) fun x1=>
 PI (C8 s) K 9 [v3,v4,v5,v7,v8,v9,v10,v10,x1,(.int .i64 0)] h):PI (C8 s) K 8 [v3,v4,v5,v7,v8,v9,v10] h:=zB H
theorem len8_8_1:zM E (zm [(77,.slice a n c)]) (zr B8 [1,1,1,1,1,1,0,0] 1) h=some (.int .i64 (n:Int)):=by cases a <;> kernel_rfl
theorem P8_9_of (H :
 EvO (zF E .lss 3 v79 v78) fun x0=>
 BrK x0 (PI (C8 s) K 10 [v3,v4,v5,v7,v8,v9,v10,v77,v78,v79] h) (PI (C8 s) K 14 [v3,v4,v5,v7,v8,v9,v10] h)):PI (C8 s) K 9 [v3,v4,v5,v7,v8,v9,v10,v77,v78,v79] h:=zB H
theorem P8_10_of (H :
 EvO (zH E 26 v77 v79) fun x0=>
 EvO (zG E 54 h x0) fun x1=>
 Ev s (zP 54 h (zv E 54)) fun x2=>
 Ev s (zh E 54 x2.2 x2.1 x1) fun x3=>
 PI (C8 s) K 11 [v3,v4,v5,v7,v8,v9,v10,x2.1,v77,v78,v79] x3.2):PI (C8 s) K 10 [v3,v4,v5,v7,v8,v9,v10,v77,v78,v79] h:=zB H
theorem P8_11_of (H :
 EvO (zH E 54 v12 (some (.int .i64 0))) fun x0=>
 EvO (zG E 3 h x0) fun x1=>
 EvO (zF E .lss 3 x1 (.int .i64 0)) fun x2=>
 EvO (gdB x2 false (zH E 54 v12 (some (.int .i64 0)))) fun x4=>
 EvO (gdB x2 false (zG E 3 h x4)) fun x5=>
 EvO (gdB x2 false (zC E 25 0 v3)) fun x6=>
 EvO (gdB x2 false (zG E 3 h x6)) fun x7=>
 EvO (gdB x2 false (zF E .geq 3 x5 x7)) fun x8=>
 EvO (z0 x2 (some (.bool true)) x8) fun x9=>
 EvO (gdB x9 false (zH E 54 v12 (some (.int .i64 1)))) fun x11=>
 EvO (gdB x9 false (zG E 3 h x11)) fun x12=>
 EvO (gdB x9 false (zF E .lss 3 x12 (.int .i64 0))) fun x13=>
 EvO (z0 x9 (some (.bool true)) x13) fun x14=>
 EvO (gdB x14 false (zH E 54 v12 (some (.int .i64 1)))) fun x16=>
 EvO (gdB x14 false (zG E 3 h x16)) fun x17=>
 EvO (gdB x14 false (zC E 25 0 v4)) fun x18=>
 EvO (gdB x14 false (zG E 3 h x18)) fun x19=>
 EvO (gdB x14 false (zF E .geq 3 x17 x19)) fun x20=>
 EvO (z0 x14 (some (.bool true)) x20) fun x21=>
 BrK x21 (PI (C8 s) K 12 [v7] h) (PI (C8 s) K 13 [v3,v4,v5,v7,v8,v9,v10,v77,v78,v79] h)):PI (C8 s) K 11 [v3,v4,v5,v7,v8,v9,v10,v12,v77,v78,v79] h:=zB H
theorem P8_12_of (H :
 EvO (zF E .eql 29 v7 (.int .i64 360)) fun x1=>
 K .ret [x1] h):PI (C8 s) K 12 [v7] h:=zB H
theorem P8_13_of (H :
 EvO (zF E .add 3 v79 (.int .i64 1)) fun x0=>
 PI (C8 s) K 9 [v3,v4,v5,v7,v8,v9,v10,v77,v78,x0] h):PI (C8 s) K 13 [v3,v4,v5,v7,v8,v9,v10,v77,v78,v79] h:=zB H
theorem P8_14_of (H :
 Ev s (zP 74 h (zv E 74)) fun x0=>
 Ev s (zh E 74 x0.2 x0.1 (some (.func (.func 40) #[] #[]))) fun x1=>
 PI (C8 s) K 15 [v3,v4,v5,v7,v8,v9,v10,x0.1] x1.2):PI (C8 s) K 14 [v3,v4,v5,v7,v8,v9,v10] h:=zB H
theorem P8_15_of (H :
 PI (C8 s) K 16 [v3,v4,v5,v7,v8,v9,v10,v13,(.bool true)] h):PI (C8 s) K 15 [v3,v4,v5,v7,v8,v9,v10,v13] h:=zB H
theorem P8_16_of (H :
 BrK v14 (PI (C8 s) K 17 [v3,v4,v5,v7,v8,v9,v10,v13] h) (PI (C8 s) K 20 [v3,v4,v5,v7,v10] h)):PI (C8 s) K 16 [v3,v4,v5,v7,v8,v9,v10,v13,v14] h:=zB H
theorem P8_17_of (H :
 Ev s (zV (zX E) (some (.func (.func 32) #[] #[])) [v10] h) fun x1=>
 Ev s (zP 26 x1.2 (zv E 26)) fun x2=>
 Ev s (zh E 26 x2.2 x2.1 x1.1) fun x3=>
 PI (C8 s) K 18 [v3,v4,v5,v7,v8,v9,v10,v13,x2.1] x3.2):PI (C8 s) K 17 [v3,v4,v5,v7,v8,v9,v10,v13] h:=zB H
theorem P8_18_of (H :
 EvO (zAR (.func 43) (some []) [v15,v8,v13,v3,v4,v9]) fun x1=>
 Ev s (zV (zX E) (some (.func (.func 37) #[] #[])) [v10,x1] h) fun x2=>
 PI (C8 s) K 19 [v3,v4,v5,v7,v8,v9,x2.1,v13,v15] x2.2):PI (C8 s) K 18 [v3,v4,v5,v7,v8,v9,v10,v13,v15] h:=zB H
theorem P8_19_of (H :
 EvO (zM E (zm [(114,v10)]) (zr B8 [1,1,1,1,1,1,1,1,0,1,0,0,1,0,1,1] 1) h) fun x1=>
 EvO (zG E 26 h v15) fun x2=>
 EvO (zM E (zm [(116,x2)]) (zr B8 [1,1,1,1,1,1,1,1,0,1,0,0,1,0,1,1] 3) h) fun x3=>
 EvO (zF E .lss 3 x1 x3) fun x4=>
 PI (C8 s) K 16 [v3,v4,v5,v7,v8,v9,v10,v13,x4] h):PI (C8 s) K 19 [v3,v4,v5,v7,v8,v9,v10,v13,v15] h:=zB H
theorem len8_19_1:zM E (zm [(114,.slice a n c)]) (zr B8 [1,1,1,1,1,1,1,1,0,1,0,0,1,0,1,1] 1) h=some (.int .i64 (n:Int)):=by cases a <;> kernel_rfl
theorem len8_19_3:zM E (zm [(116,.slice a n c)]) (zr B8 [1,1,1,1,1,1,1,1,0,1,0,0,1,0,1,1] 3) h=some (.int .i64 (n:Int)):=by cases a <;> kernel_rfl
theorem P8_20_of (H :
 EvO (zG E 25 h v3) fun x0=>
 EvO (zG E 25 h v4) fun x1=>
 Ev s (zV (zX E) (some (.func (.func 16) #[] #[])) (some [(.int .i64 1),v10]) h) fun x3=>
 EvO (zG E 25 x3.2 v4) fun u3_1=>veq 100 u3_1 x1=true ∧
 (EvO (zG E 25 x3.2 v3) fun u3_0=>veq 100 u3_0 x0=true ∧
 (Ev s (zV (zX E) (some (.func (.func 15) #[] #[])) [x0,x1,x3.1] x3.2) fun x4=>
 PI (C8 s) K 21 [v5,v7,v10,x4.1] x4.2))):PI (C8 s) K 20 [v3,v4,v5,v7,v10] h:=zB H
theorem P8_21_of (H :
 EvO (zAg E 54 (some [(0,(.int .i64 0)),(1,(.int .i64 0))])) fun x1=>
 Ev s (zV (zX E) (some (.func (.func 26) #[] #[])) [v10,x1] h) fun x2=>
 EvO (zAY .not x2.1) fun x3=>
 BrK x3 (PI (C8 s) K 22 [v7,v16] x2.2) (PI (C8 s) K 23 [v5,v7,v10,v16] x2.2)):PI (C8 s) K 21 [v5,v7,v10,v16] h:=zB H
theorem P8_22_of (H :
 EvO (zF E .eql 29 v7 (.int .i64 360)) fun x1=>
 EvO (gdB x1 true v16) fun x3=>
 EvO (gdB x1 true (zF E .eql 29 x3 (.int .i64 360))) fun x4=>
 EvO (z0 x1 x4 (some (.bool false))) fun x5=>
 K .ret [x5] h):PI (C8 s) K 22 [v7,v16] h:=zB H
theorem P8_23_of (H :
 EvO (zC E 32 1 v5) fun x0=>
 EvO (zG E 26 h x0) fun x1=>
 Ev s (zV (zX E) (some (.func (.func 48) #[] #[])) (some [x1,(.func (.func 49) #[] #[])]) h) fun x2=>
 EvO (gdB x2.1 true (zC E 32 1 v5)) fun x4=>
 EvO (gdB x2.1 true (zG E 26 x2.2 x4)) fun x5=>
 EvO (gdB x2.1 true (zC E 32 1 v5)) fun x9=>
 EvO (gdB x2.1 true (zG E 26 x2.2 x9)) fun x10=>
 EvO (gdB x2.1 true (zM E (zm [(144,x10)]) (zr B8 [1,1,1,1,1,1,1,1,1,1,1,0] 11) x2.2)) fun x11=>
 Ev s (gdW x2.1 true (zV (zX E) (some (.func (.func 32) #[] #[])) [x5] x2.2) x2.2) fun x6=>
 EvO (gdB x2.1 true (zM E (zm [(144,x10)]) (zr B8 [1,1,1,1,1,1,1,1,1,1,1,0] 11) x6.2)) fun u6_11=>veq 100 u6_11 x11=true ∧
 (EvO (gdB x2.1 true (zG E 26 x6.2 x9)) fun u6_10=>veq 100 u6_10 x10=true ∧
 (Ev s (gdW x2.1 true (zV (zX E) (some (.func (.func 36) #[] #[])) [x6.1] x6.2) x6.2) fun x7=>
 EvO (gdB x2.1 true (zM E (zm [(144,x10)]) (zr B8 [1,1,1,1,1,1,1,1,1,1,1,0] 11) x7.2)) fun u7_11=>veq 100 u7_11 x11=true ∧
 (EvO (gdB x2.1 true (zG E 26 x7.2 x9)) fun u7_10=>veq 100 u7_10 x10=true ∧
 (EvO (gdB x2.1 true (zM E (zm [(141,x7.1)]) (zr B8 [1,1,1,1,1,1,1,1,1,1,1,0] 8) x7.2)) fun x8=>
 EvO (gdB x2.1 true (zF E .eql 3 x8 x11)) fun x12=>
 EvO (z0 x2.1 x12 (some (.bool false))) fun x13=>
 PI (C8 s) K 24 [v5,v7,v10,v16,x13] x7.2))))):PI (C8 s) K 23 [v5,v7,v10,v16] h:=zB H
theorem len8_23_8:zM E (zm [(141,.slice a n c)]) (zr B8 [1,1,1,1,1,1,1,1,1,1,1,0] 8) h=some (.int .i64 (n:Int)):=by cases a <;> kernel_rfl
theorem len8_23_11:zM E (zm [(144,.slice a n c)]) (zr B8 [1,1,1,1,1,1,1,1,1,1,1,0] 11) h=some (.int .i64 (n:Int)):=by cases a <;> kernel_rfl
theorem P8_24_of (H :
 EvO (zAY .not v17) fun x1=>
 EvO (gdB x1 false v16) fun x3=>
 EvO (gdB x1 false (zF E .eql 29 x3 (.int .i64 0))) fun x4=>
 EvO (gdB x1 false x4) fun x5=>
 EvO (gdB x5 true v7) fun x6=>
 EvO (gdB x5 true (zF E .eql 29 x6 (.int .i64 0))) fun x7=>
 EvO (gdB x5 true v10) fun x8=>
 EvO (gdB x5 true (zM E (zm [(156,x8)]) (zr B8 [1,1,1,1,1,1,1,1,1,1,1,1,0] 9) h)) fun x9=>
 EvO (gdB x5 true (zC E 32 1 v5)) fun x10=>
 EvO (gdB x5 true (zG E 26 h x10)) fun x11=>
 EvO (gdB x5 true (zM E (zm [(159,x11)]) (zr B8 [1,1,1,1,1,1,1,1,1,1,1,1,0] 12) h)) fun x12=>
 EvO (gdB x5 true (zF E .eql 3 x9 x12)) fun x13=>
 EvO (gdB x5 true (z6 E (zm [(155,x7),(161,x13)]) (zr B8 [1,1,1,1,1,1,1,1,1,1,1,1,0] 14))) fun x14=>
 EvO (gdB x1 false (z0 x5 x14 (some (.bool false)))) fun x15=>
 EvO (z0 x1 (some (.bool true)) x15) fun x16=>
 K .ret [x16] h):PI (C8 s) K 24 [v5,v7,v10,v16,v17] h:=zB H
theorem len8_24_9:zM E (zm [(156,.slice a n c)]) (zr B8 [1,1,1,1,1,1,1,1,1,1,1,1,0] 9) h=some (.int .i64 (n:Int)):=by cases a <;> kernel_rfl
theorem len8_24_12:zM E (zm [(159,.slice a n c)]) (zr B8 [1,1,1,1,1,1,1,1,1,1,1,1,0] 12) h=some (.int .i64 (n:Int)):=by cases a <;> kernel_rfl
theorem F8_flat (hok:h.ok) (hv:zg v=true) (H:PI (C8 s) (KR E [.tmp 6] fun x k=>x=v/\h.next<=k.wm) 0 [v0,v1,v2] h.fresh):(zX E).call 8 [v0,v1,v2] h=some [(v,h)]:=zAT Tryz.f8 hok hv (zz (C8 s) H)
end Go.Proofs
namespace Go.Proofs
open Go Go.AM
set_option maxRecDepth 100000
theorem call154 {n:Int} {h:AH} (hok:h.ok):(zX E).call 154 [.int .i64 n] h=some [(.bool false,h)]:=by
 refine F154_flat (s:=true) hok rfl (P154_0_of ?_)
 refine P154_1_of ?_
 simp [zA,zBL,zAD,zT]
theorem call94 {a b:Int} {h:AH} (hok:h.ok):(zX E).call 94 [.int .i64 a,.int .i64 b] h=some [(.int .i64 (if a<b then -1 else if b<a then 1 else 0),h)]:=by
 have hf:=zAa h
 refine F94_flat (s:=true) hok rfl (P94_0_of ?_)
 refine P94_1_of ?_
 simp only [zA,zR,call154 hf,zO]
 refine P94_2_of ?_
 simp only [zA,zR,call154 hf,zO]
 refine P94_3_of ?_
 simp only [zA,zAA]
 refine P94_7_of ?_
 simp only [zA,zAA]
 refine P94_9_of ?_
 simp only [zA,zb,zAK]
 refine ⟨fun h1=>P94_10_of ?_,fun h1=>P94_11_of ?_⟩
 ·simp [zA,zAD,zT,h1]
 simp only [zA,zAI,zAK]
 refine ⟨fun h2=>P94_12_of ?_,fun h2=>P94_13_of ?_⟩
 ·simp [zA,zAD,zT,h1,h2]
 ·simp [zA,zAD,zT,h1,h2]
inductive Arr (h:AH) (z:Nat):Value->List (List Value)->Prop
 | nil (a:Option Addr) (c:Nat):Arr h z (.slice a 0 c) []
 | row {b o c:Nat} {vs:List Value} {ty es:Nat} {ro:Bool} {els:List (List Value)} (hb:h.get b=some (.row vs ty es ro)) (hlt:b<h.next) (hl:o+els.length*z<=vs.length)
   (hz:∀ i e,els[i]?=some e->e.length=z/\(vs.drop (o+i*z)).take z=e):Arr h z (.slice (some ⟨b,o,none⟩) els.length c) els
theorem Arr.ext {h k:AH} {z:Nat} {v:Value} {els:List (List Value)} (a:Arr h z v els) (e:Ext h k):Arr k z v els:=by
 cases a with
 | nil a c=>exact .nil a c
 | row hb hlt hl hz=>exact .row ((e.get _ hlt).trans hb) (Nat.lt_of_lt_of_le hlt e.next) hl hz
def zl (p:Nat->Bool):Nat->Nat->Int
 | 0,_=>-1
 | n+1,i=>if p i then (i:Int) else zl p n (i+1)
theorem zA9 {p:Nat->Bool}:∀ (n i:Nat),(∀ j,i<=j->j<i+n->p j=false) ↔ zl p n i<0
 | 0,i=>by simp [zl];intro j h1 h2;omega
 | n+1,i=>by
  simp only [zl]
  constructor
  ·intro h
   rw [h i (Nat.le_refl _) (by omega)]
   simp only [Bool.false_eq_true,if_false]
   exact (zA9 n (i+1)).1 fun j h1 h2=>h j (by omega) (by omega)
  ·intro h j h1 h2
   cases hp:p i with
   | true=>rw [hp] at h;simp at h;omega
   | false=>
    rw [hp] at h
    simp only [Bool.false_eq_true,if_false] at h
    by_cases e:j=i
    ·rw [e,hp]
    ·exact (zA9 n (i+1)).2 h j (by omega) (by omega)
theorem add1 {i n:Nat} (hi:i<n) (hn:n<=9223372036854775807):in64 ((i:Int)+1):=by unfold in64;omega
theorem call220 {h0:AH} {v f:Value} {els:List (List Value)} {p:Nat->Bool} (ha:Arr h0 2 v els) (hn:els.length<=9223372036854775807)
  (hf:∀ k,Ext h0 k->∀ i e,els[i]?=some e->zV (zX E) (some f) (some [.agg ⟨e⟩]) k=some [(.bool (p i),k)]) {k:AH} (hk:Ext h0 k) :
  (zX E).call 220 [v,f] k=some [(.int .i64 (zl p els.length 0),k)]:=by
 refine F220_flat (s:=true) hk.ok rfl (P220_0_of ?_)
 refine P220_1_of ?_
 have loop:∀ (m i:Nat),i+m=els.length->P220_2 true (KR E [.tmp 2] (fun x l=>x=.int .i64 (zl p m i)/\k.next<=l.wm)) v f (.int .i64 (els.length:Int)) (.int .i64 (i:Int)) k.fresh:=by
  intro m
  induction m with
  | zero=>
   intro i hi
   refine P220_2_of ?_
   simp only [zb,zA,zAK]
   refine ⟨fun h=>by omega,fun _=>P220_7_of ?_⟩
   simp [zA,zAD,zT,zl]
  | succ m ih=>
   intro i hi
   have ha':=ha
   cases ha' with
   | nil a c=>simp at hi
   | @row b o c vs ty es ro _ hb hlt hl hz=>
   have hin:i<els.length:=by omega
   refine P220_2_of ?_
   simp only [zb,zA,zAK]
   refine ⟨fun _=>P220_3_of ?_,fun h=>by omega⟩
   refine P220_4_of ?_
   obtain ⟨hz1,hz2⟩:=hz i els[i] (List.getElem?_eq_getElem hin)
   have hb':k.fresh.get b=some (.row vs ty es ro):=(hk.get b hlt).trans hb
   have hle:o+i*2+2<=vs.length:=by
    have:(i+1)*2<=els.length*2:=Nat.mul_le_mul_right _ (by omega)
    omega
   simp only [zA,ia_132 hin,za ta_134 hb' hle,hz2,hf _ hk.fresh i _ (List.getElem?_eq_getElem hin),zO,zBh]
   refine ⟨fun h=>P220_5_of ?_,fun h=>P220_6_of ?_⟩
   ·simp [zA,zAD,zT,zl,h]
   ·simp only [zAM _ (add1 hin hn),zA]
    have:=ih (i+1) (by omega)
    simp only [zl,h]
    simpa using this
 have h0:=loop els.length 0 (by omega)
 cases ha with
 | nil a c=>
  simp only [zA,len220_1_1]
  exact h0
 | row hb hlt hl hz=>
  simp only [zA,len220_1_1]
  exact h0
theorem call173 {h0:AH} {v f:Value} {els:List (List Value)} {p:Nat->Bool} (ha:Arr h0 2 v els) (hn:els.length<=9223372036854775807)
  (hf:∀ k,Ext h0 k->∀ i e,els[i]?=some e->zV (zX E) (some f) (some [.agg ⟨e⟩]) k=some [(.bool (p i),k)]) {k:AH} (hk:Ext h0 k) :
  (zX E).call 173 [v,f] k=some [(.bool (decide (0<=zl p els.length 0)),k)]:=by
 refine F173_flat (s:=true) hk.ok rfl (P173_0_of ?_)
 refine P173_1_of ?_
 simp only [zA,zR,call220 ha hn hf hk.fresh,zO,zAx]
 simp [zA,zAD,zT]
theorem call243 {h0:AH} {v f:Value} {els:List (List Value)} {p:Nat->Bool} (ha:Arr h0 3 v els) (hn:els.length<=9223372036854775807)
  (hf:∀ k,Ext h0 k->∀ i e,els[i]?=some e->zV (zX E) (some f) (some [.agg ⟨e⟩]) k=some [(.bool (p i),k)]) {k:AH} (hk:Ext h0 k) :
  (zX E).call 243 [v,f] k=some [(.int .i64 (zl p els.length 0),k)]:=by
 refine F243_flat (s:=true) hk.ok rfl (P243_0_of ?_)
 refine P243_1_of ?_
 have loop:∀ (m i:Nat),i+m=els.length->P243_2 true (KR E [.tmp 2] (fun x l=>x=.int .i64 (zl p m i)/\k.next<=l.wm)) v f (.int .i64 (els.length:Int)) (.int .i64 (i:Int)) k.fresh:=by
  intro m
  induction m with
  | zero=>
   intro i hi
   refine P243_2_of ?_
   simp only [zb,zA,zAK]
   refine ⟨fun h=>by omega,fun _=>P243_7_of ?_⟩
   simp [zA,zAD,zT,zl]
  | succ m ih=>
   intro i hi
   have ha':=ha
   cases ha' with
   | nil a c=>simp at hi
   | @row b o c vs ty es ro _ hb hlt hl hz=>
   have hin:i<els.length:=by omega
   refine P243_2_of ?_
   simp only [zb,zA,zAK]
   refine ⟨fun _=>P243_3_of ?_,fun h=>by omega⟩
   refine P243_4_of ?_
   obtain ⟨hz1,hz2⟩:=hz i els[i] (List.getElem?_eq_getElem hin)
   have hb':k.fresh.get b=some (.row vs ty es ro):=(hk.get b hlt).trans hb
   have hle:o+i*3+3<=vs.length:=by
    have:(i+1)*3<=els.length*3:=Nat.mul_le_mul_right _ (by omega)
    omega
   simp only [zA,ia_34 hin,za zB3 hb' hle,hz2,hf _ hk.fresh i _ (List.getElem?_eq_getElem hin),zO,zBh]
   refine ⟨fun h=>P243_5_of ?_,fun h=>P243_6_of ?_⟩
   ·simp [zA,zAD,zT,zl,h]
   ·simp only [zAM _ (add1 hin hn),zA]
    have:=ih (i+1) (by omega)
    simp only [zl,h]
    simpa using this
 have h0:=loop els.length 0 (by omega)
 cases ha with
 | nil a c=>
  simp only [zA,len243_1_1]
  exact h0
 | row hb hlt hl hz=>
  simp only [zA,len243_1_1]
  exact h0
theorem call215 {h0:AH} {v f:Value} {els:List (List Value)} {p:Nat->Bool} (ha:Arr h0 3 v els) (hn:els.length<=9223372036854775807)
  (hf:∀ k,Ext h0 k->∀ i e,els[i]?=some e->zV (zX E) (some f) (some [.agg ⟨e⟩]) k=some [(.bool (p i),k)]) {k:AH} (hk:Ext h0 k) :
  (zX E).call 215 [v,f] k=some [(.bool (decide (0<=zl p els.length 0)),k)]:=by
 refine F215_flat (s:=true) hk.ok rfl (P215_0_of ?_)
 refine P215_1_of ?_
 simp only [zA,zR,call243 ha hn hf hk.fresh,zO,zAx]
 simp [zA,zAD,zT]
inductive GT where
 | mk (k n:Int) (l:List GT)
mutual
inductive RT (h:AH):Value->List GT->Prop
 | mk {v:Value} {els:List (List Value)} {ts:List GT} (ha:Arr h 3 v els) (hn:els.length<=9223372036854775807) (hc:RC h els ts):RT h v ts
inductive RC (h:AH):List (List Value)->List GT->Prop
 | nil:RC h [] []
 | cons {k n:Int} {v:Value} {l:List GT} {els:List (List Value)} {ts:List GT} (hv:RT h v l) (hs:RC h els ts):RC h ([.int .i64 k,.int .i64 n,v]::els) (.mk k n l::ts)
end
mutual
theorem RT.ext {h k:AH} (e:Ext h k):∀ {v:Value} {ts:List GT},RT h v ts->RT k v ts
 | _,_,.mk ha hn hc=>.mk (ha.ext e) hn (RC.ext e hc)
theorem RC.ext {h k:AH} (e:Ext h k):∀ {els:List (List Value)} {ts:List GT},RC h els ts->RC k els ts
 | _,_,.nil=>.nil
 | _,_,.cons hv hs=>.cons (RT.ext e hv) (RC.ext e hs)
end
theorem RC.at {h:AH}:∀ {els:List (List Value)} {ts:List GT},RC h els ts->∀ (i:Nat) (e:List Value),els[i]?=some e->∃ (k n:Int) (v:Value) (l:List GT),e=[.int .i64 k,.int .i64 n,v]/\RT h v l/\ts[i]?=some (GT.mk k n l)
 | _,_,.nil,i,e,h=>by simp at h
 | _,_,.cons hv hs,0,e,h=>by simp at h;exact ⟨_,_,_,_,h.symm,hv,rfl⟩
 | _,_,.cons hv hs,i+1,e,h=>by simp only [List.getElem?_cons_succ] at h;obtain ⟨k,n,v,l,a,b,c⟩:=RC.at hs i e h;exact ⟨k,n,v,l,a,b,by simpa using c⟩
theorem RC.length {h:AH}:∀ {els:List (List Value)} {ts:List GT},RC h els ts->els.length=ts.length
 | _,_,.nil=>rfl
 | _,_,.cons _ hs=>by simp [RC.length hs]
theorem RT.slice {h:AH} {v:Value} {ts:List GT} (r:RT h v ts):∃ a c,v=.slice a ts.length c:=by
 cases r with
 | mk ha hn hc=>
  have:=RC.length hc
  cases ha with
  | nil a c=>simp at this;exact ⟨a,c,by rw [← this]⟩
  | row=>rw [← this];exact ⟨_,_,rfl⟩
theorem Arr.load {h:AH} {z:Nat} {v:Value} {els:List (List Value)} (ha:Arr h z v els) {i:Nat} {e:List Value} (hi:els[i]?=some e) :
  ∃ b o c vs ty es ro,v=.slice (some ⟨b,o,none⟩) els.length c/\h.get b=some (.row vs ty es ro)/\b<h.next/\o+i*z+z<=vs.length/\(vs.drop (o+i*z)).take z=e/\e.length=z:=by
 cases ha with
 | nil a c=>simp at hi
 | @row b o c vs ty es ro _ hb hlt hl hz=>
  have hlt':i<els.length:=(List.getElem?_eq_some_iff.1 hi).1
  refine ⟨b,o,c,vs,ty,es,ro,rfl,hb,hlt,?_,(hz i e hi).2,(hz i e hi).1⟩
  have:(i+1)*z<=els.length*z:=Nat.mul_le_mul_right _ (by omega)
  rw [Nat.add_mul] at this
  omega
abbrev row2 (a d:Int) (ty:TypeId):AObj:=.row [.int .i64 a,.int .i64 d] ty 0 false
theorem max268 (a b:Int) (h:AH):zM E (zm [(19,.int .i64 a),(20,.int .i64 b)]) (zr B268 [1,1,0] 6) h=some (.int .i64 (if b > a then b else a)):=by kernel_rfl
theorem upd2 {h:AH} {b:Nat} {a d x:Int} {ty:TypeId} (hb:h.get b=some (row2 a d ty)):zh E 3 h (some (.pointer (some ⟨b,0,none⟩))) (some (.int .i64 x))=one (undef,h.upd b (some (row2 x d ty))):=by
 rw [zw (P:=E) ts_3 hb (cells_int _ _) rfl (by simp) rfl];rfl
theorem upd2' {h:AH} {b:Nat} {a d x:Int} {ty:TypeId} (hb:h.get b=some (row2 a d ty)):zh E 3 h (some (.pointer (some ⟨b,1,none⟩))) (some (.int .i64 x))=one (undef,h.upd b (some (row2 a x ty))):=by
 rw [zw (P:=E) ts_3 hb (cells_int _ _) rfl (by simp) rfl];rfl
mutual
def cntT:GT->Int->Int×Int->Int×Int
 | .mk _ _ l,deep,s=>cntL l deep (zB1 .i64 (s.1+1),if deep > s.2 then deep else s.2)
def cntL:List GT->Int->Int×Int->Int×Int
 | [],_,s=>s
 | t::ts,deep,s=>if 2000<s.1\/200<s.2 then s else cntL ts deep (cntT t (zB1 .i64 (deep+1)) s)
end
def Counts (k0:AH) (b:Nat) (ty:TypeId) (s:Int×Int) (k:AH):Prop:=Chg k0 b k/\k.wm<=b/\k.get b=some (row2 s.1 s.2 ty)
theorem zDF {h:AH} {v:Value} {ts:List GT} (r:RT h v ts):zn v=true:=by obtain ⟨a,c,rfl⟩:=r.slice;rfl
mutual
theorem call268 {h0:AH}:∀ {v:Value} {ts:List GT},RT h0 v ts->∀ {k:AH} {b:Nat} {a d kk nn deep:Int} {ty:TypeId},Ext h0 k->h0.next<=b->b<k.next->k.get b=some (row2 a d ty)->
  Ev true ((zX E).call 268 [.pointer (some ⟨b,0,none⟩),.agg #[.int .i64 kk,.int .i64 nn,v],.int .i64 deep] k) fun x=>Counts k b ty (cntT (.mk kk nn ts) deep (a,d)) x.2
 | v,ts,.mk (els:=els) ha hn hc,k,b,a,d,kk,nn,deep,ty,hk,hb0,hbk,hb=>by
  refine F268_some (Rp:=fun _ k'=>Counts k b ty (cntT (.mk kk nn ts) deep (a,d)) k') (P268_0_of ?_)
  have hrt:RT h0 v ts:=.mk ha hn hc
  simp only [zd,zL,zS]
  refine P268_1_of ?_
  have e1:=(Chg.refl (zAa k) b).new (.row [.int .i64 kk,.int .i64 nn,v] 173 0 false)
  have g1:(k.fresh.new (.row [.int .i64 kk,.int .i64 nn,v] 173 0 false)).get b=some (row2 a d ty):=by rw [zK (by simp;omega)];exact hb
  have l1:=zD (P:=E) zAQ (o:=0) g1
  simp only [lnth] at l1
  simp only [zA,zBQ,fa_306_0,Nat.add_zero,l1,bf_addw,upd2 g1,zL]
  refine P268_2_of ?_
  have e2:=e1.upd (some (row2 (zB1 .i64 (a+1)) d ty))
  generalize hk2:(k.fresh.new (.row [.int .i64 kk,.int .i64 nn,v] 173 0 false)).upd b (some (row2 (zB1 .i64 (a+1)) d ty))=k2 at e2
  have g2:k2.get b=some (row2 (zB1 .i64 (a+1)) d ty):=by rw [← hk2,zQ]
  have t2:k2.get k.next=some (.row [.int .i64 kk,.int .i64 nn,v] 173 0 false):=by rw [← hk2,zU (by omega)];exact zI _ _
  have l2:=zD (P:=E) zAQ (o:=1) g2
  simp only [lnth] at l2
  simp only [zA,zBQ,fa_306_1,Nat.zero_add,l2,max268,upd2' g2,zL]
  refine P268_3_of ?_
  rw [show cntT (.mk kk nn ts) deep (a,d)=cntL ts deep (zB1 .i64 (a+1),if deep > d then deep else d) from rfl]
  generalize (if deep > d then deep else d)=d'
  have e3:=e2.upd (some (row2 (zB1 .i64 (a+1)) d' ty))
  generalize hk3:k2.upd b (some (row2 (zB1 .i64 (a+1)) d' ty))=k3 at e3
  have g3:k3.get b=some (row2 (zB1 .i64 (a+1)) d' ty):=by rw [← hk3,zQ]
  have t3:k3.get k.next=some (.row [.int .i64 kk,.int .i64 nn,v] 173 0 false):=by rw [← hk3,zU (by omega)];exact t2
  have w3:k3.wm<=b:=by rw [← hk3];exact (zCx _ _ _).2
  have l3:=zD (P:=E) zDB (o:=2) t3
  simp only [lnth] at l3
  obtain ⟨sa,sc,hv⟩:=hrt.slice
  have hlen:=RC.length hc
  subst hv
  simp only [zAU,Nat.zero_add,l3,zA,zZ,len268_3_2]
  refine loop268 hc (i:=0) (all:=els) (by simp) ha hn hlen hk hb0 hbk e3 g3 w3 fun ex k' hex hc'=>?_
  simp only [kR_0,hex,true_and]
  have hw':=hc'.2.1
  refine ⟨.inr (by omega),hc'.1.of_fresh,?_,hc'.2.2⟩
  show cond (Nat.ble k.wm k'.wm) k.wm k'.wm<=b
  cases hcc:Nat.ble k.wm k'.wm with
  | true=>rw [ble_true] at hcc;simp only [cond_true];omega
  | false=>simp only [cond_false];omega
theorem loop268 {h0:AH}:∀ {els:List (List Value)} {ts:List GT},RC h0 els ts->∀ {i:Nat} {all:List (List Value)} {sa:Option Addr} {len sc:Nat},all.drop i=els->Arr h0 3 (.slice sa len sc) all->all.length<=9223372036854775807->all.length=len->
  ∀ {k0 k:AH} {b:Nat} {a d deep:Int} {ty:TypeId} {K:KF},Ext h0 k0->h0.next<=b->b<k0.next->Chg k0.fresh b k->k.get b=some (row2 a d ty)->k.wm<=b->
  (∀ ex k',zCs ex=true->Counts k0.fresh b ty (cntL ts deep (a,d)) k'->K ex [] k')->P268_4 true K (.pointer (some ⟨b,0,none⟩)) (.int .i64 deep) (.slice sa len sc) (.int .i64 (len:Int)) (.int .i64 (i:Int)) k
 | els,ts,hc,i,all,sa,len,sc,hd,ha,hn,hlen,k0,k,b,a,d,deep,ty,K,h1,h2,h3,h4,h5,h6,hK=>by
  refine P268_4_of ?_
  simp only [zb,zA,zAK]
  refine ⟨fun hi=>P268_5_of ?_,fun hni=>?_⟩
  rotate_left
  ·have:els=[]:=by rw [← hd];exact List.drop_eq_nil_of_le (by omega)
   have hts:ts=[]:=by have:=RC.length hc;rw [‹els=[]›] at this;simpa using this.symm
   rw [hts] at hK
   exact hK _ _ rfl ⟨h4,h6,h5⟩
  have hil:i<all.length:=by omega
  match els,ts,hc,hd with
  | _,_,.nil,hd=>
   have:=congrArg List.length hd
   simp at this
   omega
  | _,_,.cons (k:=tk) (n:=tn) (v:=tv) hv hs,hd=>
   have hi':all[i]?=some [.int .i64 tk,.int .i64 tn,tv]:=by
    have:=congrArg (·[0]?) hd
    simpa [List.getElem?_drop] using this
   obtain ⟨b',o,c,vs,ty',es,ro,hv',hb',hlt,hle,hz,_⟩:=ha.load hi'
   simp only [Value.slice.injEq] at hv'
   obtain ⟨hsa,hl',hsc⟩:=hv'
   subst hsa
   have e0:Ext h0 k:=Chg.ext h1.fresh h2 h4
   have gb':k.get b'=some (.row vs ty' es ro):=(e0.get _ hlt).trans hb'
   have hkk:k0.next<=k.next:=h4.next
   simp only [ia_34 (show i<len by omega),zA,za zB3 gb' hle,hz,z_173,zd,zL,zS]
   have gk:=zI k (.row [.int .i64 0,.int .i64 0,.slice none 0 0] 173 0 false)
   rw [zw (P:=E) ts_173 gk (zS _) rfl (by simp) (by simp [zn];exact zDF hv)]
   simp only [zL]
   have hlp:lput [Value.int .i64 0,.int .i64 0,.slice none 0 0] 0 [.int .i64 tk,.int .i64 tn,tv]=[.int .i64 tk,.int .i64 tn,tv]:=rfl
   rw [hlp]
   have e5:=(h4.new (.row [.int .i64 0,.int .i64 0,.slice none 0 0] 173 0 false)).updNew (c:=k.next) (by simpa using h4.next) (some (.row [.int .i64 tk,.int .i64 tn,tv] 173 0 false))
   have w5:((k.new (.row [.int .i64 0,.int .i64 0,.slice none 0 0] 173 0 false)).upd k.next (some (.row [.int .i64 tk,.int .i64 tn,tv] 173 0 false))).wm<=b:=Nat.le_trans (zCx _ _ _).1 h6
   generalize hk5:(k.new (.row [.int .i64 0,.int .i64 0,.slice none 0 0] 173 0 false)).upd k.next (some (.row [.int .i64 tk,.int .i64 tn,tv] 173 0 false))=k5 at e5 w5
   have n5:k5.next=k.next+1:=by rw [← hk5];rfl
   have g5:k5.get b=some (row2 a d ty):=by rw [← hk5,zU (by omega),zK (by omega)];exact h5
   have t5:k5.get k.next=some (.row [.int .i64 tk,.int .i64 tn,tv] 173 0 false):=by rw [← hk5,zQ]
   refine P268_6_of ?_
   have l0:=zD (P:=E) zAQ (o:=0) g5
   have l1:=zD (P:=E) zAQ (o:=1) g5
   simp only [lnth] at l0 l1
   simp only [zA,zBQ,fa_306_0,Nat.add_zero,l0,zAI,zN]
   have next:¬ (2000:Int)<a->¬ (200:Int)<d->P268_7 true K (.pointer (some ⟨b,0,none⟩)) (.int .i64 deep) (.pointer (some ⟨k.next,0,none⟩)) (.slice (some ⟨b',o,none⟩) len sc) (.int .i64 (len:Int)) (.int .i64 (i:Int)) k5:=by
    intro hn1 hn2
    refine P268_7_of ?_
    have l5:=za (P:=E) zB3 (o:=0) t5 (by simp)
    simp only [zA,l5,bf_addw,zR]
    refine (call268 hv (k:=k5) (a:=a) (d:=d) (ty:=ty) (Chg.ext h1.fresh h2 e5) h2 (by omega) g5).mono fun x hx=>?_
    obtain ⟨c1,wx,c2⟩:=hx
    refine P268_8_of ?_
    simp only [zAM _ (add1 hil hn),zA]
    have:=loop268 hs (i:=i+1) (all:=all) (by rw [← List.drop_drop,hd];rfl) ha hn hlen h1 h2 h3 (deep:=deep) (e5.trans c1) c2 wx (by simpa [cntL,hn1,hn2] using hK)
    exact this
   by_cases hgt:(2000:Int)<a
   ·simp only [hgt,decide_true,show ((true==false)=false) from rfl,cond_false,zA,zJ,cond_true,z7]
    exact hK _ _ rfl ⟨e5,w5,by simpa [cntL,hgt] using g5⟩
   ·simp only [hgt,decide_false,show ((false==false)=true) from rfl,cond_true,zA,zBQ,fa_306_1,Nat.zero_add,l1,zAI,zJ,cond_false,zAK]
    exact ⟨fun h2=>hK _ _ rfl ⟨e5,w5,by simpa [cntL,h2] using g5⟩,fun h2=>next hgt h2⟩
end
theorem call269 {k:AH} {b:Nat} {a d:Int} {ty:TypeId} (hok:k.ok) (hb:k.get b=some (row2 a d ty)):(zX E).call 269 [.pointer (some ⟨b,0,none⟩)] k=some [(.bool (decide (2000<a\/200<d)),k)]:=by
 refine F269_flat (s:=true) hok rfl (P269_0_of ?_)
 refine P269_1_of ?_
 have hb':k.fresh.get b=some (row2 a d ty):=hb
 have l0:=zD (P:=E) zAQ (o:=0) hb'
 have l1:=zD (P:=E) zAQ (o:=1) hb'
 simp only [lnth] at l0 l1
 simp only [zA,zBQ,fa_306_0,Nat.add_zero,l0,zAI,zN]
 by_cases hgt:(2000:Int)<a
 ·simp [hgt,zA,zJ,zAD,zT]
 ·by_cases hd:(200:Int)<d
  ·simp [hgt,hd,zA,zJ,zAD,zT,zBQ,fa_306_1,l1,zAI]
  ·simp [hgt,hd,zA,zJ,zAD,zT,zBQ,fa_306_1,l1,zAI]
def sizeT (t:GT):Int×Int:=if 2000<(cntT t 1 (0,0)).1\/200<(cntT t 1 (0,0)).2 then (2001,201) else cntT t 1 (0,0)
theorem call244 {h0 k:AH} {kk nn:Int} {v:Value} {l:List GT} (hr:RT h0 v l) (hk:Ext h0 k) :
  (zX E).call 244 [.agg #[.int .i64 kk,.int .i64 nn,v]] k=some [(.tuple #[.int .i64 (sizeT (.mk kk nn l)).1,.int .i64 (sizeT (.mk kk nn l)).2],k)]:=by
 refine F244_flat1 hk.ok rfl (P244_0_of ?_)
 simp only [zd,zL,zS,zA]
 refine P244_1_of ?_
 simp only [z_306,zd,zL,zS]
 refine P244_2_of ?_
 have e1:=(hk.fresh.new (.row [.int .i64 kk,.int .i64 nn,v] 173 0 false)).new (.row [.int .i64 0,.int .i64 0] 306 0 false)
 have t1:((k.fresh.new (.row [.int .i64 kk,.int .i64 nn,v] 173 0 false)).new (.row [.int .i64 0,.int .i64 0] 306 0 false)).get k.next=some (.row [.int .i64 kk,.int .i64 nn,v] 173 0 false):=by
  rw [zK (by simp)];exact zI k.fresh _
 have g1:((k.fresh.new (.row [.int .i64 kk,.int .i64 nn,v] 173 0 false)).new (.row [.int .i64 0,.int .i64 0] 306 0 false)).get (k.next+1)=some (row2 0 0 306):=zI (k.fresh.new _) _
 have n1:((k.fresh.new (.row [.int .i64 kk,.int .i64 nn,v] 173 0 false)).new (.row [.int .i64 0,.int .i64 0] 306 0 false)).next=k.next+2:=rfl
 have w1:((k.fresh.new (.row [.int .i64 kk,.int .i64 nn,v] 173 0 false)).new (.row [.int .i64 0,.int .i64 0] 306 0 false)).wm=k.next+UNK:=rfl
 simp only [zZ,AH.next_new]
 generalize ((k.fresh.new (.row [.int .i64 kk,.int .i64 nn,v] 173 0 false)).new (.row [.int .i64 0,.int .i64 0] 306 0 false))=k1 at e1 t1 g1 n1 w1
 have lt:=za (P:=E) zB3 (o:=0) t1 (by simp)
 have hkn:=hk.next
 simp only [lt,zA,zR]
 refine (call268 hr (k:=k1) (b:=k.next+1) e1 (by omega) (by omega) g1).mono fun x hx=>?_
 obtain ⟨c1,_,c2⟩:=hx
 refine P244_3_of ?_
 simp only [zR,call269 c1.ok c2,zO,zAK]
 have hwm:k.next<=x.2.wm:=c1.wm k.next (by omega) (by omega) (by omega)
 have l0:=zD (P:=E) zAQ (o:=0) c2
 have l1:=zD (P:=E) zAQ (o:=1) c2
 simp only [lnth] at l0 l1
 refine ⟨fun hov=>P244_4_of ?_,fun hov=>P244_5_of ?_⟩
 ·simp [zA,kR_2,zT,sizeT,hov,hwm]
 ·simp only [zA,fa_306_0,fa_306_1,Nat.add_zero,Nat.zero_add,l0,l1,kR_2,zT,true_and,sizeT,hov,if_false]
  exact hwm
mutual
def okT:GT->Bool
 | .mk k n l=>decide (k=2)&&decide (0<=n)&&decide (n<256)&&decide (l.length<=8)&&okL l
def okL:List GT->Bool
 | []=>true
 | t::ts=>okT t&&okL ts
end
theorem okL_iff:∀ {ts:List GT},okL ts=true ↔ ∀ (i:Nat) (t:GT),ts[i]?=some t->okT t=true
 | []=>by simp [okL]
 | t::ts=>by
  simp only [okL,Bool.and_eq_true,okL_iff (ts:=ts)]
  constructor
  ·rintro ⟨a,b⟩ i u hu
   cases i with
   | zero=>simp at hu;rw [← hu];exact a
   | succ i=>exact b i u (by simpa using hu)
  ·intro h
   exact ⟨h 0 t rfl,fun i u hu=>h (i+1) u (by simpa using hu)⟩
def pNot (ts:List GT) (f:GT->Bool) (i:Nat):Bool:=match ts[i]? with
 | some t=>!f t
 | none=>false
theorem idx_ok {ts:List GT}:decide (0<=zl (pNot ts okT) ts.length 0)=!okL ts:=by
 have h:=zA9 (p:=pNot ts okT) ts.length 0
 cases hb:okL ts with
 | true=>
  have:zl (pNot ts okT) ts.length 0<0:=h.1 fun j _ hj=>by
   unfold pNot
   cases ht:ts[j]? with
   | none=>rfl
   | some t=>simp [okL_iff.1 hb j t ht]
  rw [decide_eq_false (by omega)];rfl
 | false=>
  have:¬ zl (pNot ts okT) ts.length 0<0:=by
   intro hneg
   have:=h.2 hneg
   have hall:okL ts=true:=okL_iff.2 fun i t ht=>by
    have hi:=(List.getElem?_eq_some_iff.1 ht).1
    have:=this i (Nat.zero_le _) (by omega)
    simpa [pNot,ht] using this
   rw [hall] at hb;cases hb
  rw [decide_eq_true (by omega)];rfl
abbrev clos (f:FuncId) (b:Nat):Value:=.func (.func f) #[] #[.pointer (some ⟨b,0,none⟩)]
def Spec245 (h0:AH) (kk nn:Int) (v:Value) (l:List GT):Prop:=∀ (k:AH) (b:Nat),Ext h0 k->b<k.next->k.get b=some (.row [clos 245 b] 247 0 false)->
 (zX E).call 245 [.agg #[.int .i64 kk,.int .i64 nn,v],.pointer (some ⟨b,0,none⟩)] k=some [(.bool (okT (.mk kk nn l)),k)]
theorem call246 {h0:AH} {kk nn:Int} {v:Value} {l:List GT} (hs:Spec245 h0 kk nn v l) {k:AH} {b:Nat} (hk:Ext h0 k) (hbk:b<k.next) (hb:k.get b=some (.row [clos 245 b] 247 0 false)) :
  (zX E).call 246 [.agg #[.int .i64 kk,.int .i64 nn,v],.pointer (some ⟨b,0,none⟩)] k=some [(.bool (!okT (.mk kk nn l)),k)]:=by
 refine F246_flat (s:=true) hk.ok rfl (P246_0_of ?_)
 simp only [zd,zL,zS,zA]
 refine P246_1_of ?_
 have e1:=hk.fresh.new (.row [.int .i64 kk,.int .i64 nn,v] 173 0 false)
 have t1:=zI k.fresh (.row [.int .i64 kk,.int .i64 nn,v] 173 0 false)
 have g1:(k.fresh.new (.row [.int .i64 kk,.int .i64 nn,v] 173 0 false)).get b=some (.row [clos 245 b] 247 0 false):=by rw [zK (by simp;omega)];exact hb
 have lt:=za (P:=E) zB3 (o:=0) t1 (by simp)
 have lc:=zD (P:=E) ta_247 (o:=0) g1
 simp only [lnth] at lc
 simp only [List.drop_zero,List.take] at lt
 simp only [zZ] at lt
 simp only [zZ,lt,lc,zA,zCl]
 have:=hs _ _ e1 (by simp;omega) g1
 simp only [List.nil_append,List.cons_append,this,zO,zp,zA,zAD,zT]
 simp [wm_new]
mutual
theorem spec245 {h0:AH}:∀ {v:Value} {l:List GT},RT h0 v l->∀ (kk nn:Int),Spec245 h0 kk nn v l
 | v,l,.mk (els:=els) ha hn hc,kk,nn=>by
  intro k b hk hbk hb
  have hrt:RT h0 v l:=.mk ha hn hc
  have hch:=specs245 hc
  have hlen:=RC.length hc
  obtain ⟨sa,sc,hv⟩:=hrt.slice
  subst hv
  refine F245_flat (s:=true) hk.ok rfl (P245_0_of ?_)
  simp only [zd,zL,zS,zA]
  refine P245_1_of ?_
  have e1:=hk.fresh.new (.row [.int .i64 kk,.int .i64 nn,.slice sa l.length sc] 173 0 false)
  have t1:=zI k.fresh (.row [.int .i64 kk,.int .i64 nn,.slice sa l.length sc] 173 0 false)
  have g1:(k.fresh.new (.row [.int .i64 kk,.int .i64 nn,.slice sa l.length sc] 173 0 false)).get b=some (.row [clos 245 b] 247 0 false):=by rw [zK (by simp;omega)];exact hb
  have w1:(k.fresh.new (.row [.int .i64 kk,.int .i64 nn,.slice sa l.length sc] 173 0 false)).wm=k.next+UNK:=rfl
  have n1:(k.fresh.new (.row [.int .i64 kk,.int .i64 nn,.slice sa l.length sc] 173 0 false)).next=k.next+1:=rfl
  simp only [zZ] at t1 ⊢
  generalize k.fresh.new (.row [.int .i64 kk,.int .i64 nn,.slice sa l.length sc] 173 0 false)=k1 at e1 t1 g1 w1 n1
  have l0:=zD (P:=E) zAQ (o:=0) t1
  have l1:=zD (P:=E) zAQ (o:=1) t1
  have l2:=zD (P:=E) zDB (o:=2) t1
  simp only [lnth] at l0 l1 l2
  have hcf:(zX E).call 215 [.slice sa l.length sc,.func (.func 246) #[] #[.pointer (some ⟨b,0,none⟩)]] k1=some [(.bool (decide (0<=zl (pNot l okT) els.length 0)),k1)]:=by
   refine call215 (h0:=k1) (ha.ext e1) hn (fun k2 hk2 i e he=>?_) (Ext.refl e1.ok)
   obtain ⟨ck,cn,cv,cl,q1,q2,q3,q4⟩:=hch i e he
   subst q1
   have:=call246 q4 (e1.trans hk2) (Nat.lt_of_lt_of_le (by omega:b<k1.next) hk2.next) ((hk2.get b (by omega)).trans g1)
   simp only [zCl,List.nil_append,List.cons_append,pNot,q3]
   exact this
  rw [hlen,idx_ok] at hcf
  simp only [fa_173_0,fa_173_1,zAU,Nat.add_zero,Nat.zero_add,l0,zA,zAV,zN,zJ,okT]
  by_cases c1:kk=2
  ·by_cases c2:0<=nn
   ·by_cases c3:nn<256
    ·by_cases c4:l.length<=8
     ·have c4':(l.length:Int)<=8:=by omega
      simp [c1,c2,c3,c4,c4',l1,l2,zA,zAx,zb,bf_leq,len245_1_16,zJ,zN,zY,zAR,zR,hcf,zO,zp,zAD,zT,w1]
     ·have c4':¬ (l.length:Int)<=8:=by omega
      simp [c1,c2,c3,c4,c4',l1,l2,zA,zAx,zb,bf_leq,len245_1_16,zJ,zN,zY,zL,zAD,zT,w1]
    ·simp [c1,c2,c3,l1,zA,zAx,zb,zJ,zN,zY,zL,zAD,zT,w1]
   ·simp [c1,c2,l1,zA,zAx,zJ,zN,zY,zL,zAD,zT,w1]
  ·simp [c1,zA,zJ,zN,zY,zL,zAD,zT,w1]
theorem specs245 {h0:AH}:∀ {els:List (List Value)} {ts:List GT},RC h0 els ts->∀ (i:Nat) (e:List Value),els[i]?=some e->
  ∃ (k n:Int) (v:Value) (l:List GT),e=[.int .i64 k,.int .i64 n,v]/\RT h0 v l/\ts[i]?=some (.mk k n l)/\Spec245 h0 k n v l
 | _,_,.nil,i,e,h=>by simp at h
 | _,_,.cons hv hs,0,e,h=>by simp at h;exact ⟨_,_,_,_,h.symm,hv,rfl,spec245 hv _ _⟩
 | _,_,.cons hv hs,i+1,e,h=>by
  simp only [List.getElem?_cons_succ] at h
  obtain ⟨k,n,v,l,a,b,c,d⟩:=specs245 hs i e h
  exact ⟨k,n,v,l,a,b,by simpa using c,d⟩
end
def isVal (t:GT):Bool:=decide ((sizeT t).1<=2000)&&okT t
theorem call217 {h0 k:AH} {kk nn:Int} {v:Value} {l:List GT} (hr:RT h0 v l) (hk:Ext h0 k) :
  (zX E).call 217 [.agg #[.int .i64 kk,.int .i64 nn,v]] k=some [(.bool (isVal (.mk kk nn l)),k)]:=by
 refine F217_flat (s:=true) hk.ok rfl (P217_0_of ?_)
 simp only [zd,zL,zS,zA]
 refine P217_1_of ?_
 have e1:=hk.fresh.new (.row [.int .i64 kk,.int .i64 nn,v] 173 0 false)
 have t1:=zI k.fresh (.row [.int .i64 kk,.int .i64 nn,v] 173 0 false)
 have w1:(k.fresh.new (.row [.int .i64 kk,.int .i64 nn,v] 173 0 false)).wm=k.next+UNK:=rfl
 have n1:(k.fresh.new (.row [.int .i64 kk,.int .i64 nn,v] 173 0 false)).next=k.next+1:=rfl
 simp only [zZ] at t1 ⊢
 generalize k.fresh.new (.row [.int .i64 kk,.int .i64 nn,v] 173 0 false)=k1 at e1 t1 w1 n1
 have lt:=za (P:=E) zB3 (o:=0) t1 (by simp)
 simp only [List.drop_zero,List.take] at lt
 simp only [lt,zA,zR,call244 hr e1,zO,zAJ,lnth]
 refine P217_2_of ?_
 simp only [zA,zAI,zAK]
 refine ⟨fun hov=>P217_3_of ?_,fun hov=>P217_4_of ?_⟩
 ·simp only [zA,zAD,zT,true_and,isVal]
  refine ⟨?_,by omega⟩
  rw [decide_eq_false (by omega)];rfl
 ·simp only [z_247,zd,zL,cells_func]
  refine P217_5_of ?_
  have g0:=zI k1 (.row [.nilFunc] 247 0 false)
  simp only [zf,zAR,zA]
  rw [zw (P:=E) ts_247 (cs:=[clos 245 k1.next]) g0 rfl rfl (by simp) rfl]
  simp only [zL]
  refine P217_6_of ?_
  have e2:=(e1.new (.row [.nilFunc] 247 0 false)).upd (b:=k1.next) e1.next (some (.row (lput [.nilFunc] 0 [clos 245 k1.next]) 247 0 false))
  have g2:((k1.new (.row [.nilFunc] 247 0 false)).upd k1.next (some (.row (lput [.nilFunc] 0 [clos 245 k1.next]) 247 0 false))).get k1.next=some (.row [clos 245 k1.next] 247 0 false):=zQ _ _ _
  have t2:((k1.new (.row [.nilFunc] 247 0 false)).upd k1.next (some (.row (lput [.nilFunc] 0 [clos 245 k1.next]) 247 0 false))).get k.next=some (.row [.int .i64 kk,.int .i64 nn,v] 173 0 false):=by
   rw [zU (by omega),zK (by omega)];exact t1
  have w2:k.next<=((k1.new (.row [.nilFunc] 247 0 false)).upd k1.next (some (.row (lput [.nilFunc] 0 [clos 245 k1.next]) 247 0 false))).wm:=z5 (by rw [wm_new];omega) (by omega)
  have n2:((k1.new (.row [.nilFunc] 247 0 false)).upd k1.next (some (.row (lput [.nilFunc] 0 [clos 245 k1.next]) 247 0 false))).next=k1.next+1:=rfl
  generalize ((k1.new (.row [.nilFunc] 247 0 false)).upd k1.next (some (.row (lput [.nilFunc] 0 [clos 245 k1.next]) 247 0 false)))=k2 at e2 g2 t2 w2 n2
  have lc:=zD (P:=E) ta_247 (o:=0) g2
  have lt2:=za (P:=E) zB3 (o:=0) t2 (by simp)
  simp only [lnth,List.drop_zero,List.take] at lc lt2
  simp only [lc,lt2,zA,zCl,List.nil_append,List.cons_append,spec245 hr kk nn _ _ e2 (by omega) g2,zO,zAD,zT,true_and]
  refine ⟨?_,w2⟩
  unfold isVal
  rw [decide_eq_true (by omega)];rfl
end Go.Proofs
