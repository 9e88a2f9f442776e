import Derived.Test.YthmnhjcmefjgjaaGreatDoorXAN
import Derived.Test.YthmnhjcmefjgjaaGreatDoorXAO
set_option linter.all false
set_option linter.unusedSectionVars false
set_option autoImplicit true
set_option relaxedAutoImplicit true
namespace Go.Proofs
open Go Go.AM
set_option maxRecDepth 100000
variable {s:Bool} {K:KF} {h:AH} {a:Option Addr} {n c:Nat} {v0 v1 v2 v3 v4 v5 v6 v7 v8 v9 v10 v11 v12 v14 v15 v16 v17 v18 v20 v21 v22 v24 v65 v66 v67 v111 v112 v113 v143 v144 v145:Value}
noncomputable def B28:Code:=zT Tryz.f28
noncomputable def C28 (s:Bool):Cx:=⟨E,s,none,B28,[([0],[0,1]),([1,0],[2,3])],[4],[]⟩
def P28_0 (s:Bool) (K:KF) (v0 v1:Value) (h:AH):Prop:=PI (C28 s) K 0 [v0,v1] h
def P28_1 (s:Bool) (K:KF) (v2 v3:Value) (h:AH):Prop:=PI (C28 s) K 1 [v2,v3] h
theorem P28_0_of (H :
 Ev s (zU 36 h (some v0)) fun x0=>
 Ev s (zU 36 x0.2 (some v1)) fun x1=>
 EvO (α:=Value) (some (.bool false)) fun x2=>
 P28_1 s K x0.1 x1.1 x1.2):P28_0 s K v0 v1 h:=zB H
theorem P28_1_of (H :
 EvO (zG E 36 h (some v2)) fun x0=>
 EvO (zG E 36 h (some v3)) fun x1=>
 Ev s (za (zV E) (some (.func (.func 88) #[] #[])) (some [x0,x1]) h) fun x2=>
 EvO (zE E .eql 3 x2.1 (.int .i64 0)) fun x3=>
 EvO (some x3) fun x4=>
 K .ret [x4] x2.2):P28_1 s K v2 v3 h:=zB H
theorem F28_ev {s:Bool} {v0 v1:Value} {h:AH} {Rp:Value->AH->Prop} (H:P28_0 s (KR E [.tmp 4] Rp) v0 v1 h) :
 Ev s (R.andThen (evC E (zV E) none (zT Tryz.f28) ⟨⟨Tryz.f28.ntmps,zw [v0,v1] 0 .e⟩,h,[]⟩) (zc E Tryz.f28)) fun x=>Rp x.1 x.2:=
 zf (C:=C28 s) rfl rfl ⟨rfl,rfl,by kernel_rfl,rfl⟩ (by kernel_rfl) (by kernel_rfl) ((by kernel_rfl:z5 (C28 s) (KR E Tryz.f28.results.toList Rp) 30 (rs B28 60 (.at [])) (zj (zAw 0 [v0,v1])) h=(P28_0 s (KR E [.tmp 4] Rp) v0 v1 h)).mpr H)
theorem F28_get:E.tab.fn.get 28=some Tryz.f28:=by kernel_rfl
theorem F28_body:Tryz.f28.body=some B28:=by kernel_rfl
theorem F28_sum (l:List Value) (h:AH):E.sum 28 l h=none:=by kernel_rfl
theorem F28_flatE {v0 v1:Value} {h:AH} {Rp:Value->Prop} (hok:h.ok) (H:P28_0 true (KR E [.tmp 4] (fun x k=>(zg x=true/\Rp x)/\h.next<=k.wm)) v0 v1 h.fresh):∃ v,Rp v/\(zV E).call 28 [v0,v1] h=some [(v,h)]:=
 zAT hok F28_get F28_body (F28_sum _ _) (by kernel_rfl) (F28_ev (Rp:=fun x k=>(zg x=true/\Rp x)/\h.next<=k.wm) H)
noncomputable def B88:Code:=zT Tryz.f88
noncomputable def C88 (s:Bool):Cx:=⟨E,s,none,B88,[([0],[0,1]),([1,0,0],[2,3]),([1,0,1,0],[2,3,5]),([1,0,1,1,0,0],[5]),([1,1,0],[2,3])],[4],[]⟩
def P88_0 (s:Bool) (K:KF) (v0 v1:Value) (h:AH):Prop:=PI (C88 s) K 0 [v0,v1] h
def P88_1 (s:Bool) (K:KF) (v2 v3:Value) (h:AH):Prop:=PI (C88 s) K 1 [v2,v3] h
def P88_2 (s:Bool) (K:KF) (v2 v3 v5:Value) (h:AH):Prop:=PI (C88 s) K 2 [v2,v3,v5] h
def P88_3 (s:Bool) (K:KF) (v5:Value) (h:AH):Prop:=PI (C88 s) K 3 [v5] h
def P88_4 (s:Bool) (K:KF) (v2 v3:Value) (h:AH):Prop:=PI (C88 s) K 4 [v2,v3] h
theorem P88_0_of (H :
 Ev s (zU 36 h (some v0)) fun x0=>
 Ev s (zU 36 x0.2 (some v1)) fun x1=>
 EvO (α:=Value) (some (.int .i64 0)) fun x2=>
 P88_1 s K x0.1 x1.1 x1.2):P88_0 s K v0 v1 h:=zB H
theorem P88_1_of (H :
 EvO (zC E 36 0 (some v2)) fun x0=>
 EvO (zG E 3 h (some x0)) fun x1=>
 EvO (zC E 36 0 (some v3)) fun x2=>
 EvO (zG E 3 h (some x2)) fun x3=>
 Ev s (za (zV E) (some (.func (.func 94) #[] #[])) (some [x1,x3]) h) fun x4=>
 EvO (some x4.1) fun x5=>
 P88_2 s K v2 v3 x5 x4.2):P88_1 s K v2 v3 h:=zB H
theorem P88_2_of (H :
 EvO (some v5) fun x0=>
 EvO (zE E .neq 3 x0 (.int .i64 0)) fun x1=>
 BrK (some x1) (P88_3 s K v5 h) (P88_4 s K v2 v3 h)):P88_2 s K v2 v3 v5 h:=zB H
theorem P88_3_of (H :
 EvO (some v5) fun x0=>
 EvO (some x0) fun x1=>
 K .ret [x1] h):P88_3 s K v5 h:=zB H
theorem P88_4_of (H :
 EvO (zC E 36 1 (some v2)) fun x0=>
 EvO (zG E 34 h (some x0)) fun x1=>
 EvO (zC E 36 1 (some v3)) fun x2=>
 EvO (zG E 34 h (some x2)) fun x3=>
 Ev s (za (zV E) (some (.func (.func 140) #[] #[])) (some [x1,x3]) h) fun x4=>
 EvO (some x4.1) fun x5=>
 K .ret [x5] x4.2):P88_4 s K v2 v3 h:=zB H
theorem F88_ev {s:Bool} {v0 v1:Value} {h:AH} {Rp:Value->AH->Prop} (H:P88_0 s (KR E [.tmp 4] Rp) v0 v1 h) :
 Ev s (R.andThen (evC E (zV E) none (zT Tryz.f88) ⟨⟨Tryz.f88.ntmps,zw [v0,v1] 0 .e⟩,h,[]⟩) (zc E Tryz.f88)) fun x=>Rp x.1 x.2:=
 zf (C:=C88 s) rfl rfl ⟨rfl,rfl,by kernel_rfl,rfl⟩ (by kernel_rfl) (by kernel_rfl) ((by kernel_rfl:z5 (C88 s) (KR E Tryz.f88.results.toList Rp) 30 (rs B88 60 (.at [])) (zj (zAw 0 [v0,v1])) h=(P88_0 s (KR E [.tmp 4] Rp) v0 v1 h)).mpr H)
theorem F88_get:E.tab.fn.get 88=some Tryz.f88:=by kernel_rfl
theorem F88_body:Tryz.f88.body=some B88:=by kernel_rfl
theorem F88_sum (l:List Value) (h:AH):E.sum 88 l h=none:=by kernel_rfl
theorem F88_flatE {v0 v1:Value} {h:AH} {Rp:Value->Prop} (hok:h.ok) (H:P88_0 true (KR E [.tmp 4] (fun x k=>(zg x=true/\Rp x)/\h.next<=k.wm)) v0 v1 h.fresh):∃ v,Rp v/\(zV E).call 88 [v0,v1] h=some [(v,h)]:=
 zAT hok F88_get F88_body (F88_sum _ _) (by kernel_rfl) (F88_ev (Rp:=fun x k=>(zg x=true/\Rp x)/\h.next<=k.wm) H)
noncomputable def B140:Code:=zT Tryz.f140
noncomputable def C140 (s:Bool):Cx:=⟨E,s,none,B140,[([0],[0,1]),([1,0,0],[0,1]),([1,0,1,0,0,0,0],[0,1,5]),([1,0,1,0,0,1,0,0,0],[0,1,5]),([1,0,1,0,0,1,0,0,1,0],[0,1,5,6]),([1,0,1,0,0,1,0,0,1,1,0,0],[6]),([1,0,1,0,0,1,1],[0,1,5]),([1,1,0],[0,1])],[4],[]⟩
def P140_0 (s:Bool) (K:KF) (v0 v1:Value) (h:AH):Prop:=PI (C140 s) K 0 [v0,v1] h
def P140_1 (s:Bool) (K:KF) (v0 v1:Value) (h:AH):Prop:=PI (C140 s) K 1 [v0,v1] h
def P140_2 (s:Bool) (K:KF) (v0 v1 v5:Value) (h:AH):Prop:=PI (C140 s) K 2 [v0,v1,v5] h
def P140_3 (s:Bool) (K:KF) (v0 v1 v5:Value) (h:AH):Prop:=PI (C140 s) K 3 [v0,v1,v5] h
def P140_4 (s:Bool) (K:KF) (v0 v1 v5 v6:Value) (h:AH):Prop:=PI (C140 s) K 4 [v0,v1,v5,v6] h
def P140_5 (s:Bool) (K:KF) (v6:Value) (h:AH):Prop:=PI (C140 s) K 5 [v6] h
def P140_6 (s:Bool) (K:KF) (v0 v1 v5:Value) (h:AH):Prop:=PI (C140 s) K 6 [v0,v1,v5] h
def P140_7 (s:Bool) (K:KF) (v0 v1:Value) (h:AH):Prop:=PI (C140 s) K 7 [v0,v1] h
theorem P140_0_of (H :
 EvO (α:=Value) (some (.int .i64 0)) fun x0=>
 P140_1 s K v0 v1 h):P140_0 s K v0 v1 h:=zB H
theorem P140_1_of (H :
 EvO (α:=Value) (some (.int .i64 0)) fun x0=>
 P140_2 s K v0 v1 x0 h):P140_1 s K v0 v1 h:=zB H
theorem P140_2_of (H :
 EvO (some v5) fun x0=>
 EvO (some v0) fun x1=>
 EvO (zN E (zj [(8,x1)]) (zy B140 [1,0,1,0,0,0,0] 2) h) fun x2=>
 EvO (zE E .lss 3 x0 x2) fun x3=>
 EvO (some x3) fun x4=>
 EvO (gdB x4 true (some v5)) fun x5=>
 EvO (gdB x4 true (some v1)) fun x6=>
 EvO (gdB x4 true (zN E (zj [(13,x6)]) (zy B140 [1,0,1,0,0,0,0] 7) h)) fun x7=>
 EvO (gdB x4 true (zE E .lss 3 x5 x7)) fun x8=>
 EvO (z9 (some x4) (some x8) (some (.bool false))) fun x9=>
 BrK (some x9) (P140_3 s K v0 v1 v5 h) (P140_7 s K v0 v1 h)):P140_2 s K v0 v1 v5 h:=zB H
theorem len140_2_2:zN E (zj [(8,.slice a n c)]) (zy B140 [1,0,1,0,0,0,0] 2) h=some (.int .i64 (n:Int)):=by cases a <;> kernel_rfl
theorem len140_2_7:zN E (zj [(13,.slice a n c)]) (zy B140 [1,0,1,0,0,0,0] 7) h=some (.int .i64 (n:Int)):=by cases a <;> kernel_rfl
theorem P140_3_of (H :
 EvO (some v0) fun x0=>
 EvO (some v5) fun x1=>
 EvO (zH E 34 (some x0) (some x1)) fun x2=>
 EvO (zG E 173 h (some x2)) fun x3=>
 EvO (some v1) fun x4=>
 EvO (some v5) fun x5=>
 EvO (zH E 34 (some x4) (some x5)) fun x6=>
 EvO (zG E 173 h (some x6)) fun x7=>
 Ev s (za (zV E) (some (.func (.func 188) #[] #[])) (some [x3,x7]) h) fun x8=>
 EvO (some x8.1) fun x9=>
 P140_4 s K v0 v1 v5 x9 x8.2):P140_3 s K v0 v1 v5 h:=zB H
theorem P140_4_of (H :
 EvO (some v6) fun x0=>
 EvO (zE E .neq 3 x0 (.int .i64 0)) fun x1=>
 BrK (some x1) (P140_5 s K v6 h) (P140_6 s K v0 v1 v5 h)):P140_4 s K v0 v1 v5 v6 h:=zB H
theorem P140_5_of (H :
 EvO (some v6) fun x0=>
 EvO (some x0) fun x1=>
 K .ret [x1] h):P140_5 s K v6 h:=zB H
theorem P140_6_of (H :
 EvO (some v5) fun x0=>
 EvO (zE E .add 3 x0 (.int .i64 1)) fun x1=>
 EvO (some x1) fun x2=>
 P140_2 s K v0 v1 x2 h):P140_6 s K v0 v1 v5 h:=zB H
theorem P140_7_of (H :
 EvO (some v0) fun x0=>
 EvO (zN E (zj [(31,x0)]) (zy B140 [1,1,0] 1) h) fun x1=>
 EvO (some v1) fun x2=>
 EvO (zN E (zj [(33,x2)]) (zy B140 [1,1,0] 3) h) fun x3=>
 Ev s (za (zV E) (some (.func (.func 94) #[] #[])) (some [x1,x3]) h) fun x4=>
 EvO (some x4.1) fun x5=>
 K .ret [x5] x4.2):P140_7 s K v0 v1 h:=zB H
theorem len140_7_1:zN E (zj [(31,.slice a n c)]) (zy B140 [1,1,0] 1) h=some (.int .i64 (n:Int)):=by cases a <;> kernel_rfl
theorem len140_7_3:zN E (zj [(33,.slice a n c)]) (zy B140 [1,1,0] 3) h=some (.int .i64 (n:Int)):=by cases a <;> kernel_rfl
theorem F140_ev {s:Bool} {v0 v1:Value} {h:AH} {Rp:Value->AH->Prop} (H:P140_0 s (KR E [.tmp 4] Rp) v0 v1 h) :
 Ev s (R.andThen (evC E (zV E) none (zT Tryz.f140) ⟨⟨Tryz.f140.ntmps,zw [v0,v1] 0 .e⟩,h,[]⟩) (zc E Tryz.f140)) fun x=>Rp x.1 x.2:=
 zf (C:=C140 s) rfl rfl ⟨rfl,rfl,by kernel_rfl,rfl⟩ (by kernel_rfl) (by kernel_rfl) ((by kernel_rfl:z5 (C140 s) (KR E Tryz.f140.results.toList Rp) 30 (rs B140 60 (.at [])) (zj (zAw 0 [v0,v1])) h=(P140_0 s (KR E [.tmp 4] Rp) v0 v1 h)).mpr H)
theorem F140_get:E.tab.fn.get 140=some Tryz.f140:=by kernel_rfl
theorem F140_body:Tryz.f140.body=some B140:=by kernel_rfl
theorem F140_sum (l:List Value) (h:AH):E.sum 140 l h=none:=by kernel_rfl
theorem F140_flatE {v0 v1:Value} {h:AH} {Rp:Value->Prop} (hok:h.ok) (H:P140_0 true (KR E [.tmp 4] (fun x k=>(zg x=true/\Rp x)/\h.next<=k.wm)) v0 v1 h.fresh):∃ v,Rp v/\(zV E).call 140 [v0,v1] h=some [(v,h)]:=
 zAT hok F140_get F140_body (F140_sum _ _) (by kernel_rfl) (F140_ev (Rp:=fun x k=>(zg x=true/\Rp x)/\h.next<=k.wm) H)
noncomputable def B188:Code:=zT Tryz.f188
noncomputable def C188 (s:Bool):Cx:=⟨E,s,none,B188,[([0],[0,1]),([1,0],[2,3]),([1,1,0,0],[2,3,5]),([1,1,0,1,0],[2,3]),([1,1,1,0,0],[2,3,5]),([1,1,1,0,1,0],[2,3]),([1,1,1,1,0,0],[2,3,5]),([1,1,1,1,0,1,0,0,0,0],[2,3,5,6]),([1,1,1,1,0,1,0,0,1,0,0],[2,3,6]),([1,1,1,1,0,1,0,0,1,1],[2,3,5,6]),([1,1,1,1,1,0],[5])],[4],[]⟩
def P188_0 (s:Bool) (K:KF) (v0 v1:Value) (h:AH):Prop:=PI (C188 s) K 0 [v0,v1] h
def P188_1 (s:Bool) (K:KF) (v2 v3:Value) (h:AH):Prop:=PI (C188 s) K 1 [v2,v3] h
def P188_2 (s:Bool) (K:KF) (v2 v3 v5:Value) (h:AH):Prop:=PI (C188 s) K 2 [v2,v3,v5] h
def P188_3 (s:Bool) (K:KF) (v2 v3:Value) (h:AH):Prop:=PI (C188 s) K 3 [v2,v3] h
def P188_4 (s:Bool) (K:KF) (v2 v3 v5:Value) (h:AH):Prop:=PI (C188 s) K 4 [v2,v3,v5] h
def P188_5 (s:Bool) (K:KF) (v2 v3:Value) (h:AH):Prop:=PI (C188 s) K 5 [v2,v3] h
def P188_6 (s:Bool) (K:KF) (v2 v3 v5:Value) (h:AH):Prop:=PI (C188 s) K 6 [v2,v3,v5] h
def P188_7 (s:Bool) (K:KF) (v2 v3 v5 v6:Value) (h:AH):Prop:=PI (C188 s) K 7 [v2,v3,v5,v6] h
def P188_8 (s:Bool) (K:KF) (v2 v3 v6:Value) (h:AH):Prop:=PI (C188 s) K 8 [v2,v3,v6] h
def P188_9 (s:Bool) (K:KF) (v2 v3 v5 v6:Value) (h:AH):Prop:=PI (C188 s) K 9 [v2,v3,v5,v6] h
def P188_10 (s:Bool) (K:KF) (v5:Value) (h:AH):Prop:=PI (C188 s) K 10 [v5] h
theorem P188_0_of (H :
 Ev s (zU 173 h (some v0)) fun x0=>
 Ev s (zU 173 x0.2 (some v1)) fun x1=>
 EvO (α:=Value) (some (.int .i64 0)) fun x2=>
 P188_1 s K x0.1 x1.1 x1.2):P188_0 s K v0 v1 h:=zB H
theorem P188_1_of (H :
 EvO (zC E 173 0 (some v2)) fun x0=>
 EvO (zG E 3 h (some x0)) fun x1=>
 EvO (zC E 173 0 (some v3)) fun x2=>
 EvO (zG E 3 h (some x2)) fun x3=>
 Ev s (za (zV E) (some (.func (.func 232) #[] #[])) (some [x1,x3]) h) fun x4=>
 EvO (some x4.1) fun x5=>
 P188_2 s K v2 v3 x5 x4.2):P188_1 s K v2 v3 h:=zB H
theorem P188_2_of (H :
 EvO (some v5) fun x0=>
 EvO (zE E .eql 3 x0 (.int .i64 0)) fun x1=>
 BrK (some x1) (P188_3 s K v2 v3 h) (P188_4 s K v2 v3 v5 h)):P188_2 s K v2 v3 v5 h:=zB H
theorem P188_3_of (H :
 EvO (zC E 173 1 (some v2)) fun x0=>
 EvO (zG E 3 h (some x0)) fun x1=>
 EvO (zC E 173 1 (some v3)) fun x2=>
 EvO (zG E 3 h (some x2)) fun x3=>
 Ev s (za (zV E) (some (.func (.func 232) #[] #[])) (some [x1,x3]) h) fun x4=>
 EvO (some x4.1) fun x5=>
 P188_4 s K v2 v3 x5 x4.2):P188_3 s K v2 v3 h:=zB H
theorem P188_4_of (H :
 EvO (some v5) fun x0=>
 EvO (zE E .eql 3 x0 (.int .i64 0)) fun x1=>
 BrK (some x1) (P188_5 s K v2 v3 h) (P188_6 s K v2 v3 v5 h)):P188_4 s K v2 v3 v5 h:=zB H
theorem P188_5_of (H :
 EvO (zC E 173 2 (some v2)) fun x0=>
 EvO (zG E 34 h (some x0)) fun x1=>
 EvO (zN E (zj [(22,x1)]) (zy B188 [1,1,1,0,1,0] 2) h) fun x2=>
 EvO (zC E 173 2 (some v3)) fun x3=>
 EvO (zG E 34 h (some x3)) fun x4=>
 EvO (zN E (zj [(25,x4)]) (zy B188 [1,1,1,0,1,0] 5) h) fun x5=>
 Ev s (za (zV E) (some (.func (.func 232) #[] #[])) (some [x2,x5]) h) fun x6=>
 EvO (some x6.1) fun x7=>
 P188_6 s K v2 v3 x7 x6.2):P188_5 s K v2 v3 h:=zB H
theorem len188_5_2:zN E (zj [(22,.slice a n c)]) (zy B188 [1,1,1,0,1,0] 2) h=some (.int .i64 (n:Int)):=by cases a <;> kernel_rfl
theorem len188_5_5:zN E (zj [(25,.slice a n c)]) (zy B188 [1,1,1,0,1,0] 5) h=some (.int .i64 (n:Int)):=by cases a <;> kernel_rfl
theorem P188_6_of (H :
 EvO (α:=Value) (some (.int .i64 0)) fun x0=>
 P188_7 s K v2 v3 v5 x0 h):P188_6 s K v2 v3 v5 h:=zB H
theorem P188_7_of (H :
 EvO (some v6) fun x0=>
 EvO (zC E 173 2 (some v2)) fun x1=>
 EvO (zG E 34 h (some x1)) fun x2=>
 EvO (zN E (zj [(30,x2)]) (zy B188 [1,1,1,1,0,1,0,0,0,0] 3) h) fun x3=>
 EvO (zE E .lss 3 x0 x3) fun x4=>
 EvO (some x4) fun x5=>
 EvO (gdB x5 true (some v5)) fun x6=>
 EvO (gdB x5 true (zE E .eql 3 x6 (.int .i64 0))) fun x7=>
 EvO (z9 (some x5) (some x7) (some (.bool false))) fun x8=>
 BrK (some x8) (P188_8 s K v2 v3 v6 h) (P188_10 s K v5 h)):P188_7 s K v2 v3 v5 v6 h:=zB H
theorem len188_7_3:zN E (zj [(30,.slice a n c)]) (zy B188 [1,1,1,1,0,1,0,0,0,0] 3) h=some (.int .i64 (n:Int)):=by cases a <;> kernel_rfl
theorem P188_8_of (H :
 EvO (zC E 173 2 (some v2)) fun x0=>
 EvO (zG E 34 h (some x0)) fun x1=>
 EvO (some v6) fun x2=>
 EvO (zH E 34 (some x1) (some x2)) fun x3=>
 EvO (zG E 173 h (some x3)) fun x4=>
 EvO (zC E 173 2 (some v3)) fun x5=>
 EvO (zG E 34 h (some x5)) fun x6=>
 EvO (some v6) fun x7=>
 EvO (zH E 34 (some x6) (some x7)) fun x8=>
 EvO (zG E 173 h (some x8)) fun x9=>
 Ev s (za (zV E) (some (.func (.func 188) #[] #[])) (some [x4,x9]) h) fun x10=>
 EvO (some x10.1) fun x11=>
 P188_9 s K v2 v3 x11 v6 x10.2):P188_8 s K v2 v3 v6 h:=zB H
theorem P188_9_of (H :
 EvO (some v6) fun x0=>
 EvO (zE E .add 3 x0 (.int .i64 1)) fun x1=>
 EvO (some x1) fun x2=>
 P188_7 s K v2 v3 v5 x2 h):P188_9 s K v2 v3 v5 v6 h:=zB H
theorem P188_10_of (H :
 EvO (some v5) fun x0=>
 EvO (some x0) fun x1=>
 K .ret [x1] h):P188_10 s K v5 h:=zB H
theorem F188_ev {s:Bool} {v0 v1:Value} {h:AH} {Rp:Value->AH->Prop} (H:P188_0 s (KR E [.tmp 4] Rp) v0 v1 h) :
 Ev s (R.andThen (evC E (zV E) none (zT Tryz.f188) ⟨⟨Tryz.f188.ntmps,zw [v0,v1] 0 .e⟩,h,[]⟩) (zc E Tryz.f188)) fun x=>Rp x.1 x.2:=
 zf (C:=C188 s) rfl rfl ⟨rfl,rfl,by kernel_rfl,rfl⟩ (by kernel_rfl) (by kernel_rfl) ((by kernel_rfl:z5 (C188 s) (KR E Tryz.f188.results.toList Rp) 30 (rs B188 60 (.at [])) (zj (zAw 0 [v0,v1])) h=(P188_0 s (KR E [.tmp 4] Rp) v0 v1 h)).mpr H)
theorem F188_get:E.tab.fn.get 188=some Tryz.f188:=by kernel_rfl
theorem F188_body:Tryz.f188.body=some B188:=by kernel_rfl
theorem F188_sum (l:List Value) (h:AH):E.sum 188 l h=none:=by kernel_rfl
theorem F188_flat {s:Bool} {v0 v1:Value} {h:AH} {v:Value} (hok:h.ok) (hv:zm v=true) (H:P188_0 s (KR E [.tmp 4] (fun x k=>x=v/\h.next<=k.wm)) v0 v1 h.fresh):(zV E).call 188 [v0,v1] h=some [(v,h)]:=
 zk (s:=s) hok F188_get F188_body (F188_sum _ _) (by kernel_rfl) hv (F188_ev (Rp:=fun x k=>x=v/\h.next<=k.wm) H)
noncomputable def B232:Code:=zT Tryz.f232
noncomputable def C232 (s:Bool):Cx:=⟨E,s,none,B232,[([0],[0,1]),([1,0,0],[0,1]),([1,0,1,0,0],[]),([1,1,0,0],[0,1]),([1,1,0,1,0,0],[]),([1,1,1,0],[])],[4],[]⟩
def P232_0 (s:Bool) (K:KF) (v0 v1:Value) (h:AH):Prop:=PI (C232 s) K 0 [v0,v1] h
def P232_1 (s:Bool) (K:KF) (v0 v1:Value) (h:AH):Prop:=PI (C232 s) K 1 [v0,v1] h
def P232_2 (s:Bool) (K:KF) (h:AH):Prop:=PI (C232 s) K 2 [] h
def P232_3 (s:Bool) (K:KF) (v0 v1:Value) (h:AH):Prop:=PI (C232 s) K 3 [v0,v1] h
def P232_4 (s:Bool) (K:KF) (h:AH):Prop:=PI (C232 s) K 4 [] h
def P232_5 (s:Bool) (K:KF) (h:AH):Prop:=PI (C232 s) K 5 [] h
theorem P232_0_of (H :
 EvO (α:=Value) (some (.int .i64 0)) fun x0=>
 P232_1 s K v0 v1 h):P232_0 s K v0 v1 h:=zB H
theorem P232_1_of (H :
 EvO (some v0) fun x0=>
 EvO (some v1) fun x1=>
 EvO (zE E .lss 3 x0 x1) fun x2=>
 BrK (some x2) (P232_2 s K  h) (P232_3 s K v0 v1 h)):P232_1 s K v0 v1 h:=zB H
theorem P232_2_of (H :
 EvO (α:=Value) (some (.int .i64 (-1))) fun x0=>
 K .ret [x0] h):P232_2 s K h:=zB H
theorem P232_3_of (H :
 EvO (some v0) fun x0=>
 EvO (some v1) fun x1=>
 EvO (zE E .gtr 3 x0 x1) fun x2=>
 BrK (some x2) (P232_4 s K  h) (P232_5 s K  h)):P232_3 s K v0 v1 h:=zB H
theorem P232_4_of (H :
 EvO (α:=Value) (some (.int .i64 1)) fun x0=>
 K .ret [x0] h):P232_4 s K h:=zB H
theorem P232_5_of (H :
 EvO (α:=Value) (some (.int .i64 0)) fun x0=>
 K .ret [x0] h):P232_5 s K h:=zB H
theorem F232_ev {s:Bool} {v0 v1:Value} {h:AH} {Rp:Value->AH->Prop} (H:P232_0 s (KR E [.tmp 4] Rp) v0 v1 h) :
 Ev s (R.andThen (evC E (zV E) none (zT Tryz.f232) ⟨⟨Tryz.f232.ntmps,zw [v0,v1] 0 .e⟩,h,[]⟩) (zc E Tryz.f232)) fun x=>Rp x.1 x.2:=
 zf (C:=C232 s) rfl rfl ⟨rfl,rfl,by kernel_rfl,rfl⟩ (by kernel_rfl) (by kernel_rfl) ((by kernel_rfl:z5 (C232 s) (KR E Tryz.f232.results.toList Rp) 30 (rs B232 60 (.at [])) (zj (zAw 0 [v0,v1])) h=(P232_0 s (KR E [.tmp 4] Rp) v0 v1 h)).mpr H)
theorem F232_get:E.tab.fn.get 232=some Tryz.f232:=by kernel_rfl
theorem F232_body:Tryz.f232.body=some B232:=by kernel_rfl
theorem F232_sum (l:List Value) (h:AH):E.sum 232 l h=none:=by kernel_rfl
theorem F232_flat {s:Bool} {v0 v1:Value} {h:AH} {v:Value} (hok:h.ok) (hv:zm v=true) (H:P232_0 s (KR E [.tmp 4] (fun x k=>x=v/\h.next<=k.wm)) v0 v1 h.fresh):(zV E).call 232 [v0,v1] h=some [(v,h)]:=
 zk (s:=s) hok F232_get F232_body (F232_sum _ _) (by kernel_rfl) hv (F232_ev (Rp:=fun x k=>x=v/\h.next<=k.wm) H)
noncomputable def B264:Code:=zT Tryz.f264
noncomputable def C264 (s:Bool):Cx:=⟨E,s,none,B264,[([0],[0]),([1,0],[1]),([1,1,0],[1,4])],[2],[]⟩
def P264_0 (s:Bool) (K:KF) (v0:Value) (h:AH):Prop:=PI (C264 s) K 0 [v0] h
def P264_1 (s:Bool) (K:KF) (v1:Value) (h:AH):Prop:=PI (C264 s) K 1 [v1] h
def P264_2 (s:Bool) (K:KF) (v1 v4:Value) (h:AH):Prop:=PI (C264 s) K 2 [v1,v4] h
theorem P264_0_of (H :
 Ev s (zU 173 h (some v0)) fun x0=>
 EvO (α:=Value) (some (.bool false)) fun x1=>
 P264_1 s K x0.1 x0.2):P264_0 s K v0 h:=zB H
theorem P264_1_of (H :
 EvO (zG E 173 h (some v1)) fun x0=>
 Ev s (za (zV E) (some (.func (.func 280) #[] #[])) (some [x0,(.int .i64 2000),(.int .i64 1)]) h) fun x1=>
 EvO (some x1.1) fun x2=>
 EvO (zAH 0 (some x2)) fun x3=>
 EvO (zAH 1 (some x2)) fun x4=>
 EvO (some x3) fun x5=>
 EvO (some x4) fun x6=>
 P264_2 s K v1 x6 x1.2):P264_1 s K v1 h:=zB H
theorem P264_2_of (H :
 EvO (some v4) fun x0=>
 EvO (some x0) fun x1=>
 EvO (gdB x1 true (zG E 173 h (some v1))) fun x2=>
 Ev s (gdW x1 true (za (zV E) (some (.func (.func 281) #[] #[])) (some [x2]) h) h) fun x3=>
 EvO (z9 (some x1) (some x3.1) (some (.bool false))) fun x4=>
 EvO (some x4) fun x5=>
 K .ret [x5] x3.2):P264_2 s K v1 v4 h:=zB H
theorem F264_ev {s:Bool} {v0:Value} {h:AH} {Rp:Value->AH->Prop} (H:P264_0 s (KR E [.tmp 2] Rp) v0 h) :
 Ev s (R.andThen (evC E (zV E) none (zT Tryz.f264) ⟨⟨Tryz.f264.ntmps,zw [v0] 0 .e⟩,h,[]⟩) (zc E Tryz.f264)) fun x=>Rp x.1 x.2:=
 zf (C:=C264 s) rfl rfl ⟨rfl,rfl,by kernel_rfl,rfl⟩ (by kernel_rfl) (by kernel_rfl) ((by kernel_rfl:z5 (C264 s) (KR E Tryz.f264.results.toList Rp) 30 (rs B264 60 (.at [])) (zj (zAw 0 [v0])) h=(P264_0 s (KR E [.tmp 2] Rp) v0 h)).mpr H)
theorem F264_get:E.tab.fn.get 264=some Tryz.f264:=by kernel_rfl
theorem F264_body:Tryz.f264.body=some B264:=by kernel_rfl
theorem F264_sum (l:List Value) (h:AH):E.sum 264 l h=none:=by kernel_rfl
theorem F264_flatE {v0:Value} {h:AH} {Rp:Value->Prop} (hok:h.ok) (H:P264_0 true (KR E [.tmp 2] (fun x k=>(zg x=true/\Rp x)/\h.next<=k.wm)) v0 h.fresh):∃ v,Rp v/\(zV E).call 264 [v0] h=some [(v,h)]:=
 zAT hok F264_get F264_body (F264_sum _ _) (by kernel_rfl) (F264_ev (Rp:=fun x k=>(zg x=true/\Rp x)/\h.next<=k.wm) H)
noncomputable def B231:Code:=zT Tryz.f231
noncomputable def C231 (s:Bool):Cx:=⟨E,s,none,B231,[([0],[0]),([1,0,0],[1]),([1,0,1,0,0],[]),([1,1,0],[])],[2],[]⟩
def P231_0 (s:Bool) (K:KF) (v0:Value) (h:AH):Prop:=PI (C231 s) K 0 [v0] h
def P231_1 (s:Bool) (K:KF) (v1:Value) (h:AH):Prop:=PI (C231 s) K 1 [v1] h
def P231_2 (s:Bool) (K:KF) (h:AH):Prop:=PI (C231 s) K 2 [] h
def P231_3 (s:Bool) (K:KF) (h:AH):Prop:=PI (C231 s) K 3 [] h
theorem P231_0_of (H :
 Ev s (zU 173 h (some v0)) fun x0=>
 EvO (α:=Value) (some (.int .i64 0)) fun x1=>
 P231_1 s K x0.1 x0.2):P231_0 s K v0 h:=zB H
theorem P231_1_of (H :
 EvO (zG E 173 h (some v1)) fun x0=>
 Ev s (za (zV E) (some (.func (.func 264) #[] #[])) (some [x0]) h) fun x1=>
 EvO (zAf .not x1.1) fun x2=>
 BrK (some x2) (P231_2 s K  x1.2) (P231_3 s K  x1.2)):P231_1 s K v1 h:=zB H
theorem P231_2_of (H :
 EvO (α:=Value) (some (.int .i64 4)) fun x0=>
 K .ret [x0] h):P231_2 s K h:=zB H
theorem P231_3_of (H :
 EvO (α:=Value) (some (.int .i64 0)) fun x0=>
 K .ret [x0] h):P231_3 s K h:=zB H
theorem F231_ev {s:Bool} {v0:Value} {h:AH} {Rp:Value->AH->Prop} (H:P231_0 s (KR E [.tmp 2] Rp) v0 h) :
 Ev s (R.andThen (evC E (zV E) none (zT Tryz.f231) ⟨⟨Tryz.f231.ntmps,zw [v0] 0 .e⟩,h,[]⟩) (zc E Tryz.f231)) fun x=>Rp x.1 x.2:=
 zf (C:=C231 s) rfl rfl ⟨rfl,rfl,by kernel_rfl,rfl⟩ (by kernel_rfl) (by kernel_rfl) ((by kernel_rfl:z5 (C231 s) (KR E Tryz.f231.results.toList Rp) 30 (rs B231 60 (.at [])) (zj (zAw 0 [v0])) h=(P231_0 s (KR E [.tmp 2] Rp) v0 h)).mpr H)
theorem F231_get:E.tab.fn.get 231=some Tryz.f231:=by kernel_rfl
theorem F231_body:Tryz.f231.body=some B231:=by kernel_rfl
theorem F231_sum (l:List Value) (h:AH):E.sum 231 l h=none:=by kernel_rfl
theorem F231_flatE {v0:Value} {h:AH} {Rp:Value->Prop} (hok:h.ok) (H:P231_0 true (KR E [.tmp 2] (fun x k=>(zg x=true/\Rp x)/\h.next<=k.wm)) v0 h.fresh):∃ v,Rp v/\(zV E).call 231 [v0] h=some [(v,h)]:=
 zAT hok F231_get F231_body (F231_sum _ _) (by kernel_rfl) (F231_ev (Rp:=fun x k=>(zg x=true/\Rp x)/\h.next<=k.wm) H)
noncomputable def B280:Code:=zT Tryz.f280
noncomputable def C280 (s:Bool):Cx:=⟨E,s,none,B280,[([0],[0,1,2]),([1,0],[1,2,3]),([1,1,0,0],[1,2,3]),([1,1,0,1,0,0],[1]),([1,1,1,0,0],[1,2,3]),([1,1,1,0,1,0,0,0,0],[1,2,3,8]),([1,1,1,0,1,0,0,1,0,0,0],[1,2,3,8]),([1,1,1,0,1,0,0,1,0,0,1,0],[2,3,8,9,10]),([1,1,1,0,1,0,0,1,0,0,1,1,0],[1,2,3,8,10]),([1,1,1,0,1,0,0,1,0,0,1,1,1,0,0],[1]),([1,1,1,0,1,0,0,1,1],[1,2,3,8]),([1,1,1,1,0],[1])],[6,7],[]⟩
def P280_0 (s:Bool) (K:KF) (v0 v1 v2:Value) (h:AH):Prop:=PI (C280 s) K 0 [v0,v1,v2] h
def P280_1 (s:Bool) (K:KF) (v1 v2 v3:Value) (h:AH):Prop:=PI (C280 s) K 1 [v1,v2,v3] h
def P280_2 (s:Bool) (K:KF) (v1 v2 v3:Value) (h:AH):Prop:=PI (C280 s) K 2 [v1,v2,v3] h
def P280_3 (s:Bool) (K:KF) (v1:Value) (h:AH):Prop:=PI (C280 s) K 3 [v1] h
def P280_4 (s:Bool) (K:KF) (v1 v2 v3:Value) (h:AH):Prop:=PI (C280 s) K 4 [v1,v2,v3] h
def P280_5 (s:Bool) (K:KF) (v1 v2 v3 v8:Value) (h:AH):Prop:=PI (C280 s) K 5 [v1,v2,v3,v8] h
def P280_6 (s:Bool) (K:KF) (v1 v2 v3 v8:Value) (h:AH):Prop:=PI (C280 s) K 6 [v1,v2,v3,v8] h
def P280_7 (s:Bool) (K:KF) (v2 v3 v8 v9 v10:Value) (h:AH):Prop:=PI (C280 s) K 7 [v2,v3,v8,v9,v10] h
def P280_8 (s:Bool) (K:KF) (v1 v2 v3 v8 v10:Value) (h:AH):Prop:=PI (C280 s) K 8 [v1,v2,v3,v8,v10] h
def P280_9 (s:Bool) (K:KF) (v1:Value) (h:AH):Prop:=PI (C280 s) K 9 [v1] h
def P280_10 (s:Bool) (K:KF) (v1 v2 v3 v8:Value) (h:AH):Prop:=PI (C280 s) K 10 [v1,v2,v3,v8] h
def P280_11 (s:Bool) (K:KF) (v1:Value) (h:AH):Prop:=PI (C280 s) K 11 [v1] h
theorem P280_0_of (H :
 Ev s (zU 173 h (some v0)) fun x0=>
 EvO (α:=Value) (some (.int .i64 0)) fun x1=>
 EvO (α:=Value) (some (.bool false)) fun x2=>
 P280_1 s K v1 v2 x0.1 x0.2):P280_0 s K v0 v1 v2 h:=zB H
theorem P280_1_of (H :
 EvO (some v1) fun x0=>
 EvO (zE E .sub 3 x0 (.int .i64 1)) fun x1=>
 EvO (some x1) fun x2=>
 P280_2 s K x2 v2 v3 h):P280_1 s K v1 v2 v3 h:=zB H
theorem P280_2_of (H :
 EvO (some v1) fun x0=>
 EvO (zE E .lss 3 x0 (.int .i64 0)) fun x1=>
 EvO (some x1) fun x2=>
 EvO (gdB x2 false (some v2)) fun x3=>
 EvO (gdB x2 false (zE E .gtr 3 x3 (.int .i64 200))) fun x4=>
 EvO (z9 (some x2) (some (.bool true)) (some x4)) fun x5=>
 BrK (some x5) (P280_3 s K v1 h) (P280_4 s K v1 v2 v3 h)):P280_2 s K v1 v2 v3 h:=zB H
theorem P280_3_of (H :
 EvO (some v1) fun x0=>
 EvO (some x0) fun x1=>
 EvO (α:=Value) (some (.bool false)) fun x2=>
 K .ret [x1,x2] h):P280_3 s K v1 h:=zB H
theorem P280_4_of (H :
 EvO (α:=Value) (some (.int .i64 0)) fun x0=>
 P280_5 s K v1 v2 v3 x0 h):P280_4 s K v1 v2 v3 h:=zB H
theorem P280_5_of (H :
 EvO (some v8) fun x0=>
 EvO (zC E 173 2 (some v3)) fun x1=>
 EvO (zG E 34 h (some x1)) fun x2=>
 EvO (zN E (zj [(22,x2)]) (zy B280 [1,1,1,0,1,0,0,0,0] 3) h) fun x3=>
 EvO (zE E .lss 3 x0 x3) fun x4=>
 BrK (some x4) (P280_6 s K v1 v2 v3 v8 h) (P280_11 s K v1 h)):P280_5 s K v1 v2 v3 v8 h:=zB H
theorem len280_5_3:zN E (zj [(22,.slice a n c)]) (zy B280 [1,1,1,0,1,0,0,0,0] 3) h=some (.int .i64 (n:Int)):=by cases a <;> kernel_rfl
theorem P280_6_of (H :
 EvO (zC E 173 2 (some v3)) fun x0=>
 EvO (zG E 34 h (some x0)) fun x1=>
 EvO (some v8) fun x2=>
 EvO (zH E 34 (some x1) (some x2)) fun x3=>
 EvO (zG E 173 h (some x3)) fun x4=>
 EvO (some v1) fun x5=>
 EvO (some v2) fun x6=>
 EvO (zE E .add 3 x6 (.int .i64 1)) fun x7=>
 Ev s (za (zV E) (some (.func (.func 280) #[] #[])) (some [x4,x5,x7]) h) fun x8=>
 EvO (some x8.1) fun x9=>
 EvO (zAH 0 (some x9)) fun x10=>
 EvO (zAH 1 (some x9)) fun x11=>
 EvO (some x10) fun x12=>
 EvO (some x11) fun x13=>
 P280_7 s K v2 v3 v8 x12 x13 x8.2):P280_6 s K v1 v2 v3 v8 h:=zB H
theorem P280_7_of (H :
 EvO (some v9) fun x0=>
 EvO (some x0) fun x1=>
 P280_8 s K x1 v2 v3 v8 v10 h):P280_7 s K v2 v3 v8 v9 v10 h:=zB H
theorem P280_8_of (H :
 EvO (some v10) fun x0=>
 EvO (zAf .not x0) fun x1=>
 BrK (some x1) (P280_9 s K v1 h) (P280_10 s K v1 v2 v3 v8 h)):P280_8 s K v1 v2 v3 v8 v10 h:=zB H
theorem P280_9_of (H :
 EvO (some v1) fun x0=>
 EvO (some x0) fun x1=>
 EvO (α:=Value) (some (.bool false)) fun x2=>
 K .ret [x1,x2] h):P280_9 s K v1 h:=zB H
theorem P280_10_of (H :
 EvO (some v8) fun x0=>
 EvO (zE E .add 3 x0 (.int .i64 1)) fun x1=>
 EvO (some x1) fun x2=>
 P280_5 s K v1 v2 v3 x2 h):P280_10 s K v1 v2 v3 v8 h:=zB H
theorem P280_11_of (H :
 EvO (some v1) fun x0=>
 EvO (some x0) fun x1=>
 EvO (α:=Value) (some (.bool true)) fun x2=>
 K .ret [x1,x2] h):P280_11 s K v1 h:=zB H
theorem F280_ev {s:Bool} {v0 v1 v2:Value} {h:AH} {Rp:Value->AH->Prop} (H:P280_0 s (KR E [.tmp 6,.tmp 7] Rp) v0 v1 v2 h) :
 Ev s (R.andThen (evC E (zV E) none (zT Tryz.f280) ⟨⟨Tryz.f280.ntmps,zw [v0,v1,v2] 0 .e⟩,h,[]⟩) (zc E Tryz.f280)) fun x=>Rp x.1 x.2:=
 zf (C:=C280 s) rfl rfl ⟨rfl,rfl,by kernel_rfl,rfl⟩ (by kernel_rfl) (by kernel_rfl) ((by kernel_rfl:z5 (C280 s) (KR E Tryz.f280.results.toList Rp) 30 (rs B280 60 (.at [])) (zj (zAw 0 [v0,v1,v2])) h=(P280_0 s (KR E [.tmp 6,.tmp 7] Rp) v0 v1 v2 h)).mpr H)
theorem F280_get:E.tab.fn.get 280=some Tryz.f280:=by kernel_rfl
theorem F280_body:Tryz.f280.body=some B280:=by kernel_rfl
theorem F280_sum (l:List Value) (h:AH):E.sum 280 l h=none:=by kernel_rfl
theorem F280_flatE {v0 v1 v2:Value} {h:AH} {Rp:Value->Prop} (hok:h.ok) (H:P280_0 true (KR E [.tmp 6,.tmp 7] (fun x k=>(zg x=true/\Rp x)/\h.next<=k.wm)) v0 v1 v2 h.fresh):∃ v,Rp v/\(zV E).call 280 [v0,v1,v2] h=some [(v,h)]:=
 zAT hok F280_get F280_body (F280_sum _ _) (by kernel_rfl) (F280_ev (Rp:=fun x k=>(zg x=true/\Rp x)/\h.next<=k.wm) H)
noncomputable def B281:Code:=zT Tryz.f281
noncomputable def C281 (s:Bool):Cx:=⟨E,s,none,B281,[([0],[0]),([1,0,0],[1]),([1,0,1,0,0],[]),([1,1,0,0],[1]),([1,1,0,1,0,0,0,0],[1,3]),([1,1,0,1,0,0,1,0,0,0],[1,3]),([1,1,0,1,0,0,1,0,0,1,0,0],[]),([1,1,0,1,0,0,1,1],[1,3]),([1,1,1,0],[])],[2],[]⟩
def P281_0 (s:Bool) (K:KF) (v0:Value) (h:AH):Prop:=PI (C281 s) K 0 [v0] h
def P281_1 (s:Bool) (K:KF) (v1:Value) (h:AH):Prop:=PI (C281 s) K 1 [v1] h
def P281_2 (s:Bool) (K:KF) (h:AH):Prop:=PI (C281 s) K 2 [] h
def P281_3 (s:Bool) (K:KF) (v1:Value) (h:AH):Prop:=PI (C281 s) K 3 [v1] h
def P281_4 (s:Bool) (K:KF) (v1 v3:Value) (h:AH):Prop:=PI (C281 s) K 4 [v1,v3] h
def P281_5 (s:Bool) (K:KF) (v1 v3:Value) (h:AH):Prop:=PI (C281 s) K 5 [v1,v3] h
def P281_6 (s:Bool) (K:KF) (h:AH):Prop:=PI (C281 s) K 6 [] h
def P281_7 (s:Bool) (K:KF) (v1 v3:Value) (h:AH):Prop:=PI (C281 s) K 7 [v1,v3] h
def P281_8 (s:Bool) (K:KF) (h:AH):Prop:=PI (C281 s) K 8 [] h
theorem P281_0_of (H :
 Ev s (zU 173 h (some v0)) fun x0=>
 EvO (α:=Value) (some (.bool false)) fun x1=>
 P281_1 s K x0.1 x0.2):P281_0 s K v0 h:=zB H
theorem P281_1_of (H :
 EvO (zC E 173 1 (some v1)) fun x0=>
 EvO (zG E 3 h (some x0)) fun x1=>
 EvO (zE E .lss 3 x1 (.int .i64 0)) fun x2=>
 EvO (some x2) fun x3=>
 EvO (gdB x3 false (zC E 173 0 (some v1))) fun x4=>
 EvO (gdB x3 false (zG E 3 h (some x4))) fun x5=>
 EvO (gdB x3 false (zE E .neq 3 x5 (.int .i64 1))) fun x6=>
 EvO (gdB x3 false (some x6)) fun x7=>
 EvO (gdB x7 true (zC E 173 0 (some v1))) fun x8=>
 EvO (gdB x7 true (zG E 3 h (some x8))) fun x9=>
 EvO (gdB x7 true (zE E .neq 3 x9 (.int .i64 2))) fun x10=>
 EvO (gdB x3 false (z9 (some x7) (some x10) (some (.bool false)))) fun x11=>
 EvO (z9 (some x3) (some (.bool true)) (some x11)) fun x12=>
 EvO (some x12) fun x13=>
 EvO (gdB x13 false (zC E 173 0 (some v1))) fun x14=>
 EvO (gdB x13 false (zG E 3 h (some x14))) fun x15=>
 EvO (gdB x13 false (zE E .eql 3 x15 (.int .i64 1))) fun x16=>
 EvO (gdB x13 false (some x16)) fun x17=>
 EvO (gdB x17 true (zC E 173 2 (some v1))) fun x18=>
 EvO (gdB x17 true (zG E 34 h (some x18))) fun x19=>
 EvO (gdB x17 true (zN E (zj [(23,x19)]) (zy B281 [1,0,0] 20) h)) fun x20=>
 EvO (gdB x17 true (zE E .gtr 3 x20 (.int .i64 0))) fun x21=>
 EvO (gdB x13 false (z9 (some x17) (some x21) (some (.bool false)))) fun x22=>
 EvO (z9 (some x13) (some (.bool true)) (some x22)) fun x23=>
 EvO (some x23) fun x24=>
 EvO (gdB x24 false (zC E 173 2 (some v1))) fun x25=>
 EvO (gdB x24 false (zG E 34 h (some x25))) fun x26=>
 EvO (gdB x24 false (zN E (zj [(30,x26)]) (zy B281 [1,0,0] 27) h)) fun x27=>
 EvO (gdB x24 false (zE E .gtr 3 x27 (.int .i64 8))) fun x28=>
 EvO (z9 (some x24) (some (.bool true)) (some x28)) fun x29=>
 BrK (some x29) (P281_2 s K  h) (P281_3 s K v1 h)):P281_1 s K v1 h:=zB H
theorem len281_1_20:zN E (zj [(23,.slice a n c)]) (zy B281 [1,0,0] 20) h=some (.int .i64 (n:Int)):=by cases a <;> kernel_rfl
theorem len281_1_27:zN E (zj [(30,.slice a n c)]) (zy B281 [1,0,0] 27) h=some (.int .i64 (n:Int)):=by cases a <;> kernel_rfl
theorem P281_2_of (H :
 EvO (α:=Value) (some (.bool false)) fun x0=>
 K .ret [x0] h):P281_2 s K h:=zB H
theorem P281_3_of (H :
 EvO (α:=Value) (some (.int .i64 0)) fun x0=>
 P281_4 s K v1 x0 h):P281_3 s K v1 h:=zB H
theorem P281_4_of (H :
 EvO (some v3) fun x0=>
 EvO (zC E 173 2 (some v1)) fun x1=>
 EvO (zG E 34 h (some x1)) fun x2=>
 EvO (zN E (zj [(36,x2)]) (zy B281 [1,1,0,1,0,0,0,0] 3) h) fun x3=>
 EvO (zE E .lss 3 x0 x3) fun x4=>
 BrK (some x4) (P281_5 s K v1 v3 h) (P281_8 s K  h)):P281_4 s K v1 v3 h:=zB H
theorem len281_4_3:zN E (zj [(36,.slice a n c)]) (zy B281 [1,1,0,1,0,0,0,0] 3) h=some (.int .i64 (n:Int)):=by cases a <;> kernel_rfl
theorem P281_5_of (H :
 EvO (zC E 173 2 (some v1)) fun x0=>
 EvO (zG E 34 h (some x0)) fun x1=>
 EvO (some v3) fun x2=>
 EvO (zH E 34 (some x1) (some x2)) fun x3=>
 EvO (zG E 173 h (some x3)) fun x4=>
 Ev s (za (zV E) (some (.func (.func 281) #[] #[])) (some [x4]) h) fun x5=>
 EvO (zAf .not x5.1) fun x6=>
 BrK (some x6) (P281_6 s K  x5.2) (P281_7 s K v1 v3 x5.2)):P281_5 s K v1 v3 h:=zB H
theorem P281_6_of (H :
 EvO (α:=Value) (some (.bool false)) fun x0=>
 K .ret [x0] h):P281_6 s K h:=zB H
theorem P281_7_of (H :
 EvO (some v3) fun x0=>
 EvO (zE E .add 3 x0 (.int .i64 1)) fun x1=>
 EvO (some x1) fun x2=>
 P281_4 s K v1 x2 h):P281_7 s K v1 v3 h:=zB H
theorem P281_8_of (H :
 EvO (α:=Value) (some (.bool true)) fun x0=>
 K .ret [x0] h):P281_8 s K h:=zB H
theorem F281_ev {s:Bool} {v0:Value} {h:AH} {Rp:Value->AH->Prop} (H:P281_0 s (KR E [.tmp 2] Rp) v0 h) :
 Ev s (R.andThen (evC E (zV E) none (zT Tryz.f281) ⟨⟨Tryz.f281.ntmps,zw [v0] 0 .e⟩,h,[]⟩) (zc E Tryz.f281)) fun x=>Rp x.1 x.2:=
 zf (C:=C281 s) rfl rfl ⟨rfl,rfl,by kernel_rfl,rfl⟩ (by kernel_rfl) (by kernel_rfl) ((by kernel_rfl:z5 (C281 s) (KR E Tryz.f281.results.toList Rp) 30 (rs B281 60 (.at [])) (zj (zAw 0 [v0])) h=(P281_0 s (KR E [.tmp 2] Rp) v0 h)).mpr H)
theorem F281_get:E.tab.fn.get 281=some Tryz.f281:=by kernel_rfl
theorem F281_body:Tryz.f281.body=some B281:=by kernel_rfl
theorem F281_sum (l:List Value) (h:AH):E.sum 281 l h=none:=by kernel_rfl
theorem F281_flatE {v0:Value} {h:AH} {Rp:Value->Prop} (hok:h.ok) (H:P281_0 true (KR E [.tmp 2] (fun x k=>(zg x=true/\Rp x)/\h.next<=k.wm)) v0 h.fresh):∃ v,Rp v/\(zV E).call 281 [v0] h=some [(v,h)]:=
 zAT hok F281_get F281_body (F281_sum _ _) (by kernel_rfl) (F281_ev (Rp:=fun x k=>(zg x=true/\Rp x)/\h.next<=k.wm) H)
noncomputable def B187:Code:=zT Tryz.f187
noncomputable def C187 (s:Bool):Cx:=⟨E,s,none,B187,[([0],[0]),([1,0],[1])],[2],[]⟩
def P187_0 (s:Bool) (K:KF) (v0:Value) (h:AH):Prop:=PI (C187 s) K 0 [v0] h
def P187_1 (s:Bool) (K:KF) (v1:Value) (h:AH):Prop:=PI (C187 s) K 1 [v1] h
theorem P187_0_of (H :
 Ev s (zU 173 h (some v0)) fun x0=>
 EvO (α:=Value) (some (.bool false)) fun x1=>
 P187_1 s K x0.1 x0.2):P187_0 s K v0 h:=zB H
theorem P187_1_of (H :
 EvO (zG E 173 h (some v1)) fun x0=>
 Ev s (za (zV E) (some (.func (.func 230) #[] #[])) (some [x0]) h) fun x1=>
 EvO (some x1.1) fun x2=>
 EvO (gdB x2 true (zG E 173 x1.2 (some v1))) fun x3=>
 Ev s (gdW x2 true (za (zV E) (some (.func (.func 231) #[] #[])) (some [x3]) x1.2) x1.2) fun x4=>
 EvO (gdB x2 true (zE E .eql 29 x4.1 (.int .i64 0))) fun x5=>
 EvO (z9 (some x2) (some x5) (some (.bool false))) fun x6=>
 EvO (some x6) fun x7=>
 K .ret [x7] x4.2):P187_1 s K v1 h:=zB H
theorem F187_ev {s:Bool} {v0:Value} {h:AH} {Rp:Value->AH->Prop} (H:P187_0 s (KR E [.tmp 2] Rp) v0 h) :
 Ev s (R.andThen (evC E (zV E) none (zT Tryz.f187) ⟨⟨Tryz.f187.ntmps,zw [v0] 0 .e⟩,h,[]⟩) (zc E Tryz.f187)) fun x=>Rp x.1 x.2:=
 zf (C:=C187 s) rfl rfl ⟨rfl,rfl,by kernel_rfl,rfl⟩ (by kernel_rfl) (by kernel_rfl) ((by kernel_rfl:z5 (C187 s) (KR E Tryz.f187.results.toList Rp) 30 (rs B187 60 (.at [])) (zj (zAw 0 [v0])) h=(P187_0 s (KR E [.tmp 2] Rp) v0 h)).mpr H)
theorem F187_get:E.tab.fn.get 187=some Tryz.f187:=by kernel_rfl
theorem F187_body:Tryz.f187.body=some B187:=by kernel_rfl
theorem F187_sum (l:List Value) (h:AH):E.sum 187 l h=none:=by kernel_rfl
theorem F187_flatE {v0:Value} {h:AH} {Rp:Value->Prop} (hok:h.ok) (H:P187_0 true (KR E [.tmp 2] (fun x k=>(zg x=true/\Rp x)/\h.next<=k.wm)) v0 h.fresh):∃ v,Rp v/\(zV E).call 187 [v0] h=some [(v,h)]:=
 zAT hok F187_get F187_body (F187_sum _ _) (by kernel_rfl) (F187_ev (Rp:=fun x k=>(zg x=true/\Rp x)/\h.next<=k.wm) H)
noncomputable def B230:Code:=zT Tryz.f230
noncomputable def C230 (s:Bool):Cx:=⟨E,s,none,B230,[([0],[0]),([1,0,0],[1]),([1,0,1,0,0],[]),([1,1,0,0],[1]),([1,1,0,1,0,0,0,0],[1,3]),([1,1,0,1,0,0,1,0,0,0],[1,3]),([1,1,0,1,0,0,1,0,0,1,0],[1,3,4]),([1,1,0,1,0,0,1,0,0,1,1,0,0],[]),([1,1,0,1,0,0,1,1],[1,3]),([1,1,1,0],[])],[2],[]⟩
def P230_0 (s:Bool) (K:KF) (v0:Value) (h:AH):Prop:=PI (C230 s) K 0 [v0] h
def P230_1 (s:Bool) (K:KF) (v1:Value) (h:AH):Prop:=PI (C230 s) K 1 [v1] h
def P230_2 (s:Bool) (K:KF) (h:AH):Prop:=PI (C230 s) K 2 [] h
def P230_3 (s:Bool) (K:KF) (v1:Value) (h:AH):Prop:=PI (C230 s) K 3 [v1] h
def P230_4 (s:Bool) (K:KF) (v1 v3:Value) (h:AH):Prop:=PI (C230 s) K 4 [v1,v3] h
def P230_5 (s:Bool) (K:KF) (v1 v3:Value) (h:AH):Prop:=PI (C230 s) K 5 [v1,v3] h
def P230_6 (s:Bool) (K:KF) (v1 v3 v4:Value) (h:AH):Prop:=PI (C230 s) K 6 [v1,v3,v4] h
def P230_7 (s:Bool) (K:KF) (h:AH):Prop:=PI (C230 s) K 7 [] h
def P230_8 (s:Bool) (K:KF) (v1 v3:Value) (h:AH):Prop:=PI (C230 s) K 8 [v1,v3] h
def P230_9 (s:Bool) (K:KF) (h:AH):Prop:=PI (C230 s) K 9 [] h
theorem P230_0_of (H :
 Ev s (zU 173 h (some v0)) fun x0=>
 EvO (α:=Value) (some (.bool false)) fun x1=>
 P230_1 s K x0.1 x0.2):P230_0 s K v0 h:=zB H
theorem P230_1_of (H :
 EvO (zC E 173 0 (some v1)) fun x0=>
 EvO (zG E 3 h (some x0)) fun x1=>
 EvO (zE E .neq 3 x1 (.int .i64 2)) fun x2=>
 EvO (some x2) fun x3=>
 EvO (gdB x3 false (zC E 173 1 (some v1))) fun x4=>
 EvO (gdB x3 false (zG E 3 h (some x4))) fun x5=>
 EvO (gdB x3 false (zE E .lss 3 x5 (.int .i64 0))) fun x6=>
 EvO (z9 (some x3) (some (.bool true)) (some x6)) fun x7=>
 EvO (some x7) fun x8=>
 EvO (gdB x8 false (zC E 173 1 (some v1))) fun x9=>
 EvO (gdB x8 false (zG E 3 h (some x9))) fun x10=>
 EvO (gdB x8 false (zE E .gtr 3 x10 (.int .i64 255))) fun x11=>
 EvO (z9 (some x8) (some (.bool true)) (some x11)) fun x12=>
 EvO (some x12) fun x13=>
 EvO (gdB x13 false (zC E 173 2 (some v1))) fun x14=>
 EvO (gdB x13 false (zG E 34 h (some x14))) fun x15=>
 EvO (gdB x13 false (zN E (zj [(20,x15)]) (zy B230 [1,0,0] 16) h)) fun x16=>
 EvO (gdB x13 false (zE E .gtr 3 x16 (.int .i64 8))) fun x17=>
 EvO (z9 (some x13) (some (.bool true)) (some x17)) fun x18=>
 BrK (some x18) (P230_2 s K  h) (P230_3 s K v1 h)):P230_1 s K v1 h:=zB H
theorem len230_1_16:zN E (zj [(20,.slice a n c)]) (zy B230 [1,0,0] 16) h=some (.int .i64 (n:Int)):=by cases a <;> kernel_rfl
theorem P230_2_of (H :
 EvO (α:=Value) (some (.bool false)) fun x0=>
 K .ret [x0] h):P230_2 s K h:=zB H
theorem P230_3_of (H :
 EvO (α:=Value) (some (.int .i64 0)) fun x0=>
 P230_4 s K v1 x0 h):P230_3 s K v1 h:=zB H
theorem P230_4_of (H :
 EvO (some v3) fun x0=>
 EvO (zC E 173 2 (some v1)) fun x1=>
 EvO (zG E 34 h (some x1)) fun x2=>
 EvO (zN E (zj [(26,x2)]) (zy B230 [1,1,0,1,0,0,0,0] 3) h) fun x3=>
 EvO (zE E .lss 3 x0 x3) fun x4=>
 BrK (some x4) (P230_5 s K v1 v3 h) (P230_9 s K  h)):P230_4 s K v1 v3 h:=zB H
theorem len230_4_3:zN E (zj [(26,.slice a n c)]) (zy B230 [1,1,0,1,0,0,0,0] 3) h=some (.int .i64 (n:Int)):=by cases a <;> kernel_rfl
theorem P230_5_of (H :
 EvO (zC E 173 2 (some v1)) fun x0=>
 EvO (zG E 34 h (some x0)) fun x1=>
 EvO (some v3) fun x2=>
 EvO (zH E 34 (some x1) (some x2)) fun x3=>
 EvO (zG E 173 h (some x3)) fun x4=>
 Ev s (za (zV E) (some (.func (.func 230) #[] #[])) (some [x4]) h) fun x5=>
 EvO (some x5.1) fun x6=>
 P230_6 s K v1 v3 x6 x5.2):P230_5 s K v1 v3 h:=zB H
theorem P230_6_of (H :
 EvO (some v4) fun x0=>
 EvO (zAf .not x0) fun x1=>
 BrK (some x1) (P230_7 s K  h) (P230_8 s K v1 v3 h)):P230_6 s K v1 v3 v4 h:=zB H
theorem P230_7_of (H :
 EvO (α:=Value) (some (.bool false)) fun x0=>
 K .ret [x0] h):P230_7 s K h:=zB H
theorem P230_8_of (H :
 EvO (some v3) fun x0=>
 EvO (zE E .add 3 x0 (.int .i64 1)) fun x1=>
 EvO (some x1) fun x2=>
 P230_4 s K v1 x2 h):P230_8 s K v1 v3 h:=zB H
theorem P230_9_of (H :
 EvO (α:=Value) (some (.bool true)) fun x0=>
 K .ret [x0] h):P230_9 s K h:=zB H
theorem F230_ev {s:Bool} {v0:Value} {h:AH} {Rp:Value->AH->Prop} (H:P230_0 s (KR E [.tmp 2] Rp) v0 h) :
 Ev s (R.andThen (evC E (zV E) none (zT Tryz.f230) ⟨⟨Tryz.f230.ntmps,zw [v0] 0 .e⟩,h,[]⟩) (zc E Tryz.f230)) fun x=>Rp x.1 x.2:=
 zf (C:=C230 s) rfl rfl ⟨rfl,rfl,by kernel_rfl,rfl⟩ (by kernel_rfl) (by kernel_rfl) ((by kernel_rfl:z5 (C230 s) (KR E Tryz.f230.results.toList Rp) 30 (rs B230 60 (.at [])) (zj (zAw 0 [v0])) h=(P230_0 s (KR E [.tmp 2] Rp) v0 h)).mpr H)
theorem F230_get:E.tab.fn.get 230=some Tryz.f230:=by kernel_rfl
theorem F230_body:Tryz.f230.body=some B230:=by kernel_rfl
theorem F230_sum (l:List Value) (h:AH):E.sum 230 l h=none:=by kernel_rfl
theorem F230_flatE {v0:Value} {h:AH} {Rp:Value->Prop} (hok:h.ok) (H:P230_0 true (KR E [.tmp 2] (fun x k=>(zg x=true/\Rp x)/\h.next<=k.wm)) v0 h.fresh):∃ v,Rp v/\(zV E).call 230 [v0] h=some [(v,h)]:=
 zAT hok F230_get F230_body (F230_sum _ _) (by kernel_rfl) (F230_ev (Rp:=fun x k=>(zg x=true/\Rp x)/\h.next<=k.wm) H)
noncomputable def B138:Code:=zT Tryz.f138
noncomputable def C138 (s:Bool):Cx:=⟨E,s,none,B138,[([0],[0]),([1,0,0],[1]),([1,0,1,0,0],[]),([1,1,0,0],[1]),([1,1,0,1,0,0],[]),([1,1,1,0,0],[1]),([1,1,1,0,1,0,0,0,0],[1,3]),([1,1,1,0,1,0,0,1,0,0,0],[1,3]),([1,1,1,0,1,0,0,1,0,0,1,0],[1,3,4]),([1,1,1,0,1,0,0,1,0,0,1,1,0,0],[]),([1,1,1,0,1,0,0,1,1],[1,3]),([1,1,1,1,0],[])],[2],[]⟩
def P138_0 (s:Bool) (K:KF) (v0:Value) (h:AH):Prop:=PI (C138 s) K 0 [v0] h
def P138_1 (s:Bool) (K:KF) (v1:Value) (h:AH):Prop:=PI (C138 s) K 1 [v1] h
def P138_2 (s:Bool) (K:KF) (h:AH):Prop:=PI (C138 s) K 2 [] h
def P138_3 (s:Bool) (K:KF) (v1:Value) (h:AH):Prop:=PI (C138 s) K 3 [v1] h
def P138_4 (s:Bool) (K:KF) (h:AH):Prop:=PI (C138 s) K 4 [] h
def P138_5 (s:Bool) (K:KF) (v1:Value) (h:AH):Prop:=PI (C138 s) K 5 [v1] h
def P138_6 (s:Bool) (K:KF) (v1 v3:Value) (h:AH):Prop:=PI (C138 s) K 6 [v1,v3] h
def P138_7 (s:Bool) (K:KF) (v1 v3:Value) (h:AH):Prop:=PI (C138 s) K 7 [v1,v3] h
def P138_8 (s:Bool) (K:KF) (v1 v3 v4:Value) (h:AH):Prop:=PI (C138 s) K 8 [v1,v3,v4] h
def P138_9 (s:Bool) (K:KF) (h:AH):Prop:=PI (C138 s) K 9 [] h
def P138_10 (s:Bool) (K:KF) (v1 v3:Value) (h:AH):Prop:=PI (C138 s) K 10 [v1,v3] h
def P138_11 (s:Bool) (K:KF) (h:AH):Prop:=PI (C138 s) K 11 [] h
theorem P138_0_of (H :
 Ev s (zU 36 h (some v0)) fun x0=>
 EvO (α:=Value) (some (.bool false)) fun x1=>
 P138_1 s K x0.1 x0.2):P138_0 s K v0 h:=zB H
theorem P138_1_of (H :
 EvO (zC E 36 0 (some v1)) fun x0=>
 EvO (zG E 3 h (some x0)) fun x1=>
 EvO (zE E .lss 3 x1 (.int .i64 (-3))) fun x2=>
 EvO (some x2) fun x3=>
 EvO (gdB x3 false (zC E 36 0 (some v1))) fun x4=>
 EvO (gdB x3 false (zG E 3 h (some x4))) fun x5=>
 EvO (gdB x3 false (zE E .gtr 3 x5 (.int .i64 31))) fun x6=>
 EvO (z9 (some x3) (some (.bool true)) (some x6)) fun x7=>
 EvO (some x7) fun x8=>
 EvO (gdB x8 false (zC E 36 1 (some v1))) fun x9=>
 EvO (gdB x8 false (zG E 34 h (some x9))) fun x10=>
 EvO (gdB x8 false (zN E (zj [(15,x10)]) (zy B138 [1,0,0] 11) h)) fun x11=>
 EvO (gdB x8 false (zE E .gtr 3 x11 (.int .i64 8))) fun x12=>
 EvO (z9 (some x8) (some (.bool true)) (some x12)) fun x13=>
 BrK (some x13) (P138_2 s K  h) (P138_3 s K v1 h)):P138_1 s K v1 h:=zB H
theorem len138_1_11:zN E (zj [(15,.slice a n c)]) (zy B138 [1,0,0] 11) h=some (.int .i64 (n:Int)):=by cases a <;> kernel_rfl
theorem P138_2_of (H :
 EvO (α:=Value) (some (.bool false)) fun x0=>
 K .ret [x0] h):P138_2 s K h:=zB H
theorem P138_3_of (H :
 EvO (zC E 36 0 (some v1)) fun x0=>
 EvO (zG E 3 h (some x0)) fun x1=>
 EvO (zE E .eql 3 x1 (.int .i64 (-3))) fun x2=>
 EvO (some x2) fun x3=>
 EvO (gdB x3 false (zC E 36 0 (some v1))) fun x4=>
 EvO (gdB x3 false (zG E 3 h (some x4))) fun x5=>
 EvO (gdB x3 false (zE E .eql 3 x5 (.int .i64 (-1)))) fun x6=>
 EvO (z9 (some x3) (some (.bool true)) (some x6)) fun x7=>
 EvO (some x7) fun x8=>
 EvO (gdB x8 true (zC E 36 1 (some v1))) fun x9=>
 EvO (gdB x8 true (zG E 34 h (some x9))) fun x10=>
 EvO (gdB x8 true (zN E (zj [(29,x10)]) (zy B138 [1,1,0,0] 11) h)) fun x11=>
 EvO (gdB x8 true (zE E .gtr 3 x11 (.int .i64 0))) fun x12=>
 EvO (z9 (some x8) (some x12) (some (.bool false))) fun x13=>
 BrK (some x13) (P138_4 s K  h) (P138_5 s K v1 h)):P138_3 s K v1 h:=zB H
theorem len138_3_11:zN E (zj [(29,.slice a n c)]) (zy B138 [1,1,0,0] 11) h=some (.int .i64 (n:Int)):=by cases a <;> kernel_rfl
theorem P138_4_of (H :
 EvO (α:=Value) (some (.bool false)) fun x0=>
 K .ret [x0] h):P138_4 s K h:=zB H
theorem P138_5_of (H :
 EvO (α:=Value) (some (.int .i64 0)) fun x0=>
 P138_6 s K v1 x0 h):P138_5 s K v1 h:=zB H
theorem P138_6_of (H :
 EvO (some v3) fun x0=>
 EvO (zC E 36 1 (some v1)) fun x1=>
 EvO (zG E 34 h (some x1)) fun x2=>
 EvO (zN E (zj [(35,x2)]) (zy B138 [1,1,1,0,1,0,0,0,0] 3) h) fun x3=>
 EvO (zE E .lss 3 x0 x3) fun x4=>
 BrK (some x4) (P138_7 s K v1 v3 h) (P138_11 s K  h)):P138_6 s K v1 v3 h:=zB H
theorem len138_6_3:zN E (zj [(35,.slice a n c)]) (zy B138 [1,1,1,0,1,0,0,0,0] 3) h=some (.int .i64 (n:Int)):=by cases a <;> kernel_rfl
theorem P138_7_of (H :
 EvO (zC E 36 1 (some v1)) fun x0=>
 EvO (zG E 34 h (some x0)) fun x1=>
 EvO (some v3) fun x2=>
 EvO (zH E 34 (some x1) (some x2)) fun x3=>
 EvO (zG E 173 h (some x3)) fun x4=>
 Ev s (za (zV E) (some (.func (.func 187) #[] #[])) (some [x4]) h) fun x5=>
 EvO (some x5.1) fun x6=>
 P138_8 s K v1 v3 x6 x5.2):P138_7 s K v1 v3 h:=zB H
theorem P138_8_of (H :
 EvO (some v4) fun x0=>
 EvO (zAf .not x0) fun x1=>
 BrK (some x1) (P138_9 s K  h) (P138_10 s K v1 v3 h)):P138_8 s K v1 v3 v4 h:=zB H
theorem P138_9_of (H :
 EvO (α:=Value) (some (.bool false)) fun x0=>
 K .ret [x0] h):P138_9 s K h:=zB H
theorem P138_10_of (H :
 EvO (some v3) fun x0=>
 EvO (zE E .add 3 x0 (.int .i64 1)) fun x1=>
 EvO (some x1) fun x2=>
 P138_6 s K v1 x2 h):P138_10 s K v1 v3 h:=zB H
theorem P138_11_of (H :
 EvO (α:=Value) (some (.bool true)) fun x0=>
 K .ret [x0] h):P138_11 s K h:=zB H
theorem F138_ev {s:Bool} {v0:Value} {h:AH} {Rp:Value->AH->Prop} (H:P138_0 s (KR E [.tmp 2] Rp) v0 h) :
 Ev s (R.andThen (evC E (zV E) none (zT Tryz.f138) ⟨⟨Tryz.f138.ntmps,zw [v0] 0 .e⟩,h,[]⟩) (zc E Tryz.f138)) fun x=>Rp x.1 x.2:=
 zf (C:=C138 s) rfl rfl ⟨rfl,rfl,by kernel_rfl,rfl⟩ (by kernel_rfl) (by kernel_rfl) ((by kernel_rfl:z5 (C138 s) (KR E Tryz.f138.results.toList Rp) 30 (rs B138 60 (.at [])) (zj (zAw 0 [v0])) h=(P138_0 s (KR E [.tmp 2] Rp) v0 h)).mpr H)
theorem F138_get:E.tab.fn.get 138=some Tryz.f138:=by kernel_rfl
theorem F138_body:Tryz.f138.body=some B138:=by kernel_rfl
theorem F138_sum (l:List Value) (h:AH):E.sum 138 l h=none:=by kernel_rfl
theorem F138_flatE {v0:Value} {h:AH} {Rp:Value->Prop} (hok:h.ok) (H:P138_0 true (KR E [.tmp 2] (fun x k=>(zg x=true/\Rp x)/\h.next<=k.wm)) v0 h.fresh):∃ v,Rp v/\(zV E).call 138 [v0] h=some [(v,h)]:=
 zAT hok F138_get F138_body (F138_sum _ _) (by kernel_rfl) (F138_ev (Rp:=fun x k=>(zg x=true/\Rp x)/\h.next<=k.wm) H)
noncomputable def B139:Code:=zT Tryz.f139
noncomputable def C139 (s:Bool):Cx:=⟨E,s,none,B139,[([0],[0,1]),([1,0,0],[2,3]),([1,0,1,0,0],[2,3]),([1,1,0,0],[2,3]),([1,1,0,1,0,0],[2,3]),([1,1,1,0],[2,3])],[4],[]⟩
def P139_0 (s:Bool) (K:KF) (v0 v1:Value) (h:AH):Prop:=PI (C139 s) K 0 [v0,v1] h
def P139_1 (s:Bool) (K:KF) (v2 v3:Value) (h:AH):Prop:=PI (C139 s) K 1 [v2,v3] h
def P139_2 (s:Bool) (K:KF) (v2 v3:Value) (h:AH):Prop:=PI (C139 s) K 2 [v2,v3] h
def P139_3 (s:Bool) (K:KF) (v2 v3:Value) (h:AH):Prop:=PI (C139 s) K 3 [v2,v3] h
def P139_4 (s:Bool) (K:KF) (v2 v3:Value) (h:AH):Prop:=PI (C139 s) K 4 [v2,v3] h
def P139_5 (s:Bool) (K:KF) (v2 v3:Value) (h:AH):Prop:=PI (C139 s) K 5 [v2,v3] h
theorem P139_0_of (H :
 Ev s (zU 52 h (some v0)) fun x0=>
 Ev s (zU 52 x0.2 (some v1)) fun x1=>
 EvO (α:=Value) (some (.bool false)) fun x2=>
 P139_1 s K x0.1 x1.1 x1.2):P139_0 s K v0 v1 h:=zB H
theorem P139_1_of (H :
 EvO (zC E 52 0 (some v2)) fun x0=>
 EvO (zG E 3 h (some x0)) fun x1=>
 EvO (zC E 52 0 (some v3)) fun x2=>
 EvO (zG E 3 h (some x2)) fun x3=>
 EvO (zE E .neq 3 x1 x3) fun x4=>
 BrK (some x4) (P139_2 s K v2 v3 h) (P139_3 s K v2 v3 h)):P139_1 s K v2 v3 h:=zB H
theorem P139_2_of (H :
 EvO (zC E 52 0 (some v2)) fun x0=>
 EvO (zG E 3 h (some x0)) fun x1=>
 EvO (zC E 52 0 (some v3)) fun x2=>
 EvO (zG E 3 h (some x2)) fun x3=>
 EvO (zE E .lss 3 x1 x3) fun x4=>
 EvO (some x4) fun x5=>
 K .ret [x5] h):P139_2 s K v2 v3 h:=zB H
theorem P139_3_of (H :
 EvO (zC E 52 1 (some v2)) fun x0=>
 EvO (zG E 3 h (some x0)) fun x1=>
 EvO (zC E 52 1 (some v3)) fun x2=>
 EvO (zG E 3 h (some x2)) fun x3=>
 EvO (zE E .neq 3 x1 x3) fun x4=>
 BrK (some x4) (P139_4 s K v2 v3 h) (P139_5 s K v2 v3 h)):P139_3 s K v2 v3 h:=zB H
theorem P139_4_of (H :
 EvO (zC E 52 1 (some v2)) fun x0=>
 EvO (zG E 3 h (some x0)) fun x1=>
 EvO (zC E 52 1 (some v3)) fun x2=>
 EvO (zG E 3 h (some x2)) fun x3=>
 EvO (zE E .lss 3 x1 x3) fun x4=>
 EvO (some x4) fun x5=>
 K .ret [x5] h):P139_4 s K v2 v3 h:=zB H
theorem P139_5_of (H :
 EvO (zC E 52 2 (some v2)) fun x0=>
 EvO (zG E 3 h (some x0)) fun x1=>
 EvO (zC E 52 2 (some v3)) fun x2=>
 EvO (zG E 3 h (some x2)) fun x3=>
 EvO (zE E .lss 3 x1 x3) fun x4=>
 EvO (some x4) fun x5=>
 K .ret [x5] h):P139_5 s K v2 v3 h:=zB H
theorem F139_ev {s:Bool} {v0 v1:Value} {h:AH} {Rp:Value->AH->Prop} (H:P139_0 s (KR E [.tmp 4] Rp) v0 v1 h) :
 Ev s (R.andThen (evC E (zV E) none (zT Tryz.f139) ⟨⟨Tryz.f139.ntmps,zw [v0,v1] 0 .e⟩,h,[]⟩) (zc E Tryz.f139)) fun x=>Rp x.1 x.2:=
 zf (C:=C139 s) rfl rfl ⟨rfl,rfl,by kernel_rfl,rfl⟩ (by kernel_rfl) (by kernel_rfl) ((by kernel_rfl:z5 (C139 s) (KR E Tryz.f139.results.toList Rp) 30 (rs B139 60 (.at [])) (zj (zAw 0 [v0,v1])) h=(P139_0 s (KR E [.tmp 4] Rp) v0 v1 h)).mpr H)
theorem F139_get:E.tab.fn.get 139=some Tryz.f139:=by kernel_rfl
theorem F139_body:Tryz.f139.body=some B139:=by kernel_rfl
theorem F139_sum (l:List Value) (h:AH):E.sum 139 l h=none:=by kernel_rfl
theorem F139_flatE {v0 v1:Value} {h:AH} {Rp:Value->Prop} (hok:h.ok) (H:P139_0 true (KR E [.tmp 4] (fun x k=>(zg x=true/\Rp x)/\h.next<=k.wm)) v0 v1 h.fresh):∃ v,Rp v/\(zV E).call 139 [v0,v1] h=some [(v,h)]:=
 zAT hok F139_get F139_body (F139_sum _ _) (by kernel_rfl) (F139_ev (Rp:=fun x k=>(zg x=true/\Rp x)/\h.next<=k.wm) H)
noncomputable def B85:Code:=zT Tryz.f85
noncomputable def C85 (s:Bool):Cx:=⟨E,s,none,B85,[([0],[0]),([1,0,0],[1]),([1,0,1,0,0],[]),([1,1,0,0],[1]),([1,1,0,1,0,0,0,0],[1,3]),([1,1,0,1,0,0,1,0,0,0],[1,3]),([1,1,0,1,0,0,1,0,0,1,0,0],[1,3,4]),([1,1,0,1,0,0,1,0,0,1,0,1,0,0],[]),([1,1,0,1,0,0,1,0,0,1,1,0],[1,3]),([1,1,0,1,0,0,1,0,0,1,1,1,0,0],[]),([1,1,0,1,0,0,1,1],[1,3]),([1,1,1,0,0],[1]),([1,1,1,0,1,0,0,0,0],[1,5]),([1,1,1,0,1,0,0,1,0,0,0],[1,5]),([1,1,1,0,1,0,0,1,0,0,1,0,0],[1,5,6]),([1,1,1,0,1,0,0,1,0,0,1,0,1,0,0],[]),([1,1,1,0,1,0,0,1,0,0,1,1,0],[1,5,6]),([1,1,1,0,1,0,0,1,0,0,1,1,1,0,0],[]),([1,1,1,0,1,0,0,1,1],[1,5]),([1,1,1,1,0],[])],[2],[]⟩
def P85_0 (s:Bool) (K:KF) (v0:Value) (h:AH):Prop:=PI (C85 s) K 0 [v0] h
def P85_1 (s:Bool) (K:KF) (v1:Value) (h:AH):Prop:=PI (C85 s) K 1 [v1] h
def P85_2 (s:Bool) (K:KF) (h:AH):Prop:=PI (C85 s) K 2 [] h
def P85_3 (s:Bool) (K:KF) (v1:Value) (h:AH):Prop:=PI (C85 s) K 3 [v1] h
def P85_4 (s:Bool) (K:KF) (v1 v3:Value) (h:AH):Prop:=PI (C85 s) K 4 [v1,v3] h
def P85_5 (s:Bool) (K:KF) (v1 v3:Value) (h:AH):Prop:=PI (C85 s) K 5 [v1,v3] h
def P85_6 (s:Bool) (K:KF) (v1 v3 v4:Value) (h:AH):Prop:=PI (C85 s) K 6 [v1,v3,v4] h
def P85_7 (s:Bool) (K:KF) (h:AH):Prop:=PI (C85 s) K 7 [] h
def P85_8 (s:Bool) (K:KF) (v1 v3:Value) (h:AH):Prop:=PI (C85 s) K 8 [v1,v3] h
def P85_9 (s:Bool) (K:KF) (h:AH):Prop:=PI (C85 s) K 9 [] h
def P85_10 (s:Bool) (K:KF) (v1 v3:Value) (h:AH):Prop:=PI (C85 s) K 10 [v1,v3] h
def P85_11 (s:Bool) (K:KF) (v1:Value) (h:AH):Prop:=PI (C85 s) K 11 [v1] h
def P85_12 (s:Bool) (K:KF) (v1 v5:Value) (h:AH):Prop:=PI (C85 s) K 12 [v1,v5] h
def P85_13 (s:Bool) (K:KF) (v1 v5:Value) (h:AH):Prop:=PI (C85 s) K 13 [v1,v5] h
def P85_14 (s:Bool) (K:KF) (v1 v5 v6:Value) (h:AH):Prop:=PI (C85 s) K 14 [v1,v5,v6] h
def P85_15 (s:Bool) (K:KF) (h:AH):Prop:=PI (C85 s) K 15 [] h
def P85_16 (s:Bool) (K:KF) (v1 v5 v6:Value) (h:AH):Prop:=PI (C85 s) K 16 [v1,v5,v6] h
def P85_17 (s:Bool) (K:KF) (h:AH):Prop:=PI (C85 s) K 17 [] h
def P85_18 (s:Bool) (K:KF) (v1 v5:Value) (h:AH):Prop:=PI (C85 s) K 18 [v1,v5] h
def P85_19 (s:Bool) (K:KF) (h:AH):Prop:=PI (C85 s) K 19 [] h
theorem P85_0_of (H :
 Ev s (zU 25 h (some v0)) fun x0=>
 EvO (α:=Value) (some (.bool false)) fun x1=>
 P85_1 s K x0.1 x0.2):P85_0 s K v0 h:=zB H
theorem P85_1_of (H :
 EvO (zC E 25 0 (some v1)) fun x0=>
 EvO (zG E 3 h (some x0)) fun x1=>
 EvO (zE E .lss 3 x1 (.int .i64 1)) fun x2=>
 EvO (some x2) fun x3=>
 EvO (gdB x3 false (zC E 25 0 (some v1))) fun x4=>
 EvO (gdB x3 false (zG E 3 h (some x4))) fun x5=>
 EvO (gdB x3 false (zE E .gtr 3 x5 (.int .i64 20000))) fun x6=>
 EvO (z9 (some x3) (some (.bool true)) (some x6)) fun x7=>
 EvO (some x7) fun x8=>
 EvO (gdB x8 false (zC E 25 1 (some v1))) fun x9=>
 EvO (gdB x8 false (zG E 22 h (some x9))) fun x10=>
 EvO (gdB x8 false (zN E (zj [(17,x10)]) (zy B85 [1,0,0] 11) h)) fun x11=>
 EvO (gdB x8 false (zE E .gtr 3 x11 (.int .i64 4000))) fun x12=>
 EvO (z9 (some x8) (some (.bool true)) (some x12)) fun x13=>
 EvO (some x13) fun x14=>
 EvO (gdB x14 false (zC E 25 2 (some v1))) fun x15=>
 EvO (gdB x14 false (zG E 23 h (some x15))) fun x16=>
 EvO (gdB x14 false (zN E (zj [(23,x16)]) (zy B85 [1,0,0] 17) h)) fun x17=>
 EvO (gdB x14 false (zE E .gtr 3 x17 (.int .i64 100000))) fun x18=>
 EvO (z9 (some x14) (some (.bool true)) (some x18)) fun x19=>
 BrK (some x19) (P85_2 s K  h) (P85_3 s K v1 h)):P85_1 s K v1 h:=zB H
theorem len85_1_11:zN E (zj [(17,.slice a n c)]) (zy B85 [1,0,0] 11) h=some (.int .i64 (n:Int)):=by cases a <;> kernel_rfl
theorem len85_1_17:zN E (zj [(23,.slice a n c)]) (zy B85 [1,0,0] 17) h=some (.int .i64 (n:Int)):=by cases a <;> kernel_rfl
theorem P85_2_of (H :
 EvO (α:=Value) (some (.bool false)) fun x0=>
 K .ret [x0] h):P85_2 s K h:=zB H
theorem P85_3_of (H :
 EvO (α:=Value) (some (.int .i64 0)) fun x0=>
 P85_4 s K v1 x0 h):P85_3 s K v1 h:=zB H
theorem P85_4_of (H :
 EvO (some v3) fun x0=>
 EvO (zC E 25 1 (some v1)) fun x1=>
 EvO (zG E 22 h (some x1)) fun x2=>
 EvO (zN E (zj [(29,x2)]) (zy B85 [1,1,0,1,0,0,0,0] 3) h) fun x3=>
 EvO (zE E .lss 3 x0 x3) fun x4=>
 BrK (some x4) (P85_5 s K v1 v3 h) (P85_11 s K v1 h)):P85_4 s K v1 v3 h:=zB H
theorem len85_4_3:zN E (zj [(29,.slice a n c)]) (zy B85 [1,1,0,1,0,0,0,0] 3) h=some (.int .i64 (n:Int)):=by cases a <;> kernel_rfl
theorem P85_5_of (H :
 EvO (zC E 25 1 (some v1)) fun x0=>
 EvO (zG E 22 h (some x0)) fun x1=>
 EvO (some v3) fun x2=>
 EvO (zH E 22 (some x1) (some x2)) fun x3=>
 EvO (zG E 36 h (some x3)) fun x4=>
 Ev s (za (zV E) (some (.func (.func 138) #[] #[])) (some [x4]) h) fun x5=>
 EvO (some x5.1) fun x6=>
 P85_6 s K v1 v3 x6 x5.2):P85_5 s K v1 v3 h:=zB H
theorem P85_6_of (H :
 EvO (some v4) fun x0=>
 EvO (zAf .not x0) fun x1=>
 BrK (some x1) (P85_7 s K  h) (P85_8 s K v1 v3 h)):P85_6 s K v1 v3 v4 h:=zB H
theorem P85_7_of (H :
 EvO (α:=Value) (some (.bool false)) fun x0=>
 K .ret [x0] h):P85_7 s K h:=zB H
theorem P85_8_of (H :
 EvO (some v3) fun x0=>
 EvO (zE E .gtr 3 x0 (.int .i64 0)) fun x1=>
 EvO (some x1) fun x2=>
 EvO (gdB x2 true (zC E 25 1 (some v1))) fun x3=>
 EvO (gdB x2 true (zG E 22 h (some x3))) fun x4=>
 EvO (gdB x2 true (some v3)) fun x5=>
 EvO (gdB x2 true (zE E .sub 3 x5 (.int .i64 1))) fun x6=>
 EvO (gdB x2 true (zH E 22 (some x4) (some x6))) fun x7=>
 EvO (gdB x2 true (zG E 36 h (some x7))) fun x8=>
 EvO (gdB x2 true (zC E 25 1 (some v1))) fun x9=>
 EvO (gdB x2 true (zG E 22 h (some x9))) fun x10=>
 EvO (gdB x2 true (some v3)) fun x11=>
 EvO (gdB x2 true (zH E 22 (some x10) (some x11))) fun x12=>
 EvO (gdB x2 true (zG E 36 h (some x12))) fun x13=>
 Ev s (gdW x2 true (za (zV E) (some (.func (.func 88) #[] #[])) (some [x8,x13]) h) h) fun x14=>
 EvO (gdB x2 true (zE E .geq 3 x14.1 (.int .i64 0))) fun x15=>
 EvO (z9 (some x2) (some x15) (some (.bool false))) fun x16=>
 BrK (some x16) (P85_9 s K  x14.2) (P85_10 s K v1 v3 x14.2)):P85_8 s K v1 v3 h:=zB H
theorem P85_9_of (H :
 EvO (α:=Value) (some (.bool false)) fun x0=>
 K .ret [x0] h):P85_9 s K h:=zB H
theorem P85_10_of (H :
 EvO (some v3) fun x0=>
 EvO (zE E .add 3 x0 (.int .i64 1)) fun x1=>
 EvO (some x1) fun x2=>
 P85_4 s K v1 x2 h):P85_10 s K v1 v3 h:=zB H
theorem P85_11_of (H :
 EvO (α:=Value) (some (.int .i64 0)) fun x0=>
 P85_12 s K v1 x0 h):P85_11 s K v1 h:=zB H
theorem P85_12_of (H :
 EvO (some v5) fun x0=>
 EvO (zC E 25 2 (some v1)) fun x1=>
 EvO (zG E 23 h (some x1)) fun x2=>
 EvO (zN E (zj [(61,x2)]) (zy B85 [1,1,1,0,1,0,0,0,0] 3) h) fun x3=>
 EvO (zE E .lss 3 x0 x3) fun x4=>
 BrK (some x4) (P85_13 s K v1 v5 h) (P85_19 s K  h)):P85_12 s K v1 v5 h:=zB H
theorem len85_12_3:zN E (zj [(61,.slice a n c)]) (zy B85 [1,1,1,0,1,0,0,0,0] 3) h=some (.int .i64 (n:Int)):=by cases a <;> kernel_rfl
theorem P85_13_of (H :
 EvO (zC E 25 2 (some v1)) fun x0=>
 EvO (zG E 23 h (some x0)) fun x1=>
 EvO (some v5) fun x2=>
 EvO (zH E 23 (some x1) (some x2)) fun x3=>
 EvO (zG E 52 h (some x3)) fun x4=>
 Ev s (zU 52 h (zAC E 52)) fun x5=>
 Ev s (zu E 52 x5.2 (some x5.1) (some x4)) fun x6=>
 P85_14 s K v1 v5 x5.1 x6.2):P85_13 s K v1 v5 h:=zB H
theorem P85_14_of (H :
 EvO (zC E 52 0 (some v6)) fun x0=>
 EvO (zG E 3 h (some x0)) fun x1=>
 EvO (zE E .lss 3 x1 (.int .i64 0)) fun x2=>
 EvO (some x2) fun x3=>
 EvO (gdB x3 false (zC E 52 0 (some v6))) fun x4=>
 EvO (gdB x3 false (zG E 3 h (some x4))) fun x5=>
 EvO (gdB x3 false (zC E 25 0 (some v1))) fun x6=>
 EvO (gdB x3 false (zG E 3 h (some x6))) fun x7=>
 EvO (gdB x3 false (zE E .geq 3 x5 x7)) fun x8=>
 EvO (z9 (some x3) (some (.bool true)) (some x8)) fun x9=>
 EvO (some x9) fun x10=>
 EvO (gdB x10 false (zC E 52 2 (some v6))) fun x11=>
 EvO (gdB x10 false (zG E 3 h (some x11))) fun x12=>
 EvO (gdB x10 false (zE E .lss 3 x12 (.int .i64 0))) fun x13=>
 EvO (z9 (some x10) (some (.bool true)) (some x13)) fun x14=>
 EvO (some x14) fun x15=>
 EvO (gdB x15 false (zC E 52 2 (some v6))) fun x16=>
 EvO (gdB x15 false (zG E 3 h (some x16))) fun x17=>
 EvO (gdB x15 false (zC E 25 0 (some v1))) fun x18=>
 EvO (gdB x15 false (zG E 3 h (some x18))) fun x19=>
 EvO (gdB x15 false (zE E .geq 3 x17 x19)) fun x20=>
 EvO (z9 (some x15) (some (.bool true)) (some x20)) fun x21=>
 EvO (some x21) fun x22=>
 EvO (gdB x22 false (zC E 52 1 (some v6))) fun x23=>
 EvO (gdB x22 false (zG E 3 h (some x23))) fun x24=>
 EvO (gdB x22 false (zE E .lss 3 x24 (.int .i64 0))) fun x25=>
 EvO (z9 (some x22) (some (.bool true)) (some x25)) fun x26=>
 EvO (some x26) fun x27=>
 EvO (gdB x27 false (zC E 52 1 (some v6))) fun x28=>
 EvO (gdB x27 false (zG E 3 h (some x28))) fun x29=>
 EvO (gdB x27 false (zC E 25 1 (some v1))) fun x30=>
 EvO (gdB x27 false (zG E 22 h (some x30))) fun x31=>
 EvO (gdB x27 false (zN E (zj [(102,x31)]) (zy B85 [1,1,1,0,1,0,0,1,0,0,1,0,0] 32) h)) fun x32=>
 EvO (gdB x27 false (zE E .geq 3 x29 x32)) fun x33=>
 EvO (z9 (some x27) (some (.bool true)) (some x33)) fun x34=>
 BrK (some x34) (P85_15 s K  h) (P85_16 s K v1 v5 v6 h)):P85_14 s K v1 v5 v6 h:=zB H
theorem len85_14_32:zN E (zj [(102,.slice a n c)]) (zy B85 [1,1,1,0,1,0,0,1,0,0,1,0,0] 32) h=some (.int .i64 (n:Int)):=by cases a <;> kernel_rfl
theorem P85_15_of (H :
 EvO (α:=Value) (some (.bool false)) fun x0=>
 K .ret [x0] h):P85_15 s K h:=zB H
theorem P85_16_of (H :
 EvO (some v5) fun x0=>
 EvO (zE E .gtr 3 x0 (.int .i64 0)) fun x1=>
 EvO (some x1) fun x2=>
 EvO (gdB x2 true (zC E 25 2 (some v1))) fun x3=>
 EvO (gdB x2 true (zG E 23 h (some x3))) fun x4=>
 EvO (gdB x2 true (some v5)) fun x5=>
 EvO (gdB x2 true (zE E .sub 3 x5 (.int .i64 1))) fun x6=>
 EvO (gdB x2 true (zH E 23 (some x4) (some x6))) fun x7=>
 EvO (gdB x2 true (zG E 52 h (some x7))) fun x8=>
 EvO (gdB x2 true (zG E 52 h (some v6))) fun x9=>
 Ev s (gdW x2 true (za (zV E) (some (.func (.func 139) #[] #[])) (some [x8,x9]) h) h) fun x10=>
 EvO (gdB x2 true (zAf .not x10.1)) fun x11=>
 EvO (z9 (some x2) (some x11) (some (.bool false))) fun x12=>
 BrK (some x12) (P85_17 s K  x10.2) (P85_18 s K v1 v5 x10.2)):P85_16 s K v1 v5 v6 h:=zB H
theorem P85_17_of (H :
 EvO (α:=Value) (some (.bool false)) fun x0=>
 K .ret [x0] h):P85_17 s K h:=zB H
theorem P85_18_of (H :
 EvO (some v5) fun x0=>
 EvO (zE E .add 3 x0 (.int .i64 1)) fun x1=>
 EvO (some x1) fun x2=>
 P85_12 s K v1 x2 h):P85_18 s K v1 v5 h:=zB H
theorem P85_19_of (H :
 EvO (α:=Value) (some (.bool true)) fun x0=>
 K .ret [x0] h):P85_19 s K h:=zB H
theorem F85_ev {s:Bool} {v0:Value} {h:AH} {Rp:Value->AH->Prop} (H:P85_0 s (KR E [.tmp 2] Rp) v0 h) :
 Ev s (R.andThen (evC E (zV E) none (zT Tryz.f85) ⟨⟨Tryz.f85.ntmps,zw [v0] 0 .e⟩,h,[]⟩) (zc E Tryz.f85)) fun x=>Rp x.1 x.2:=
 zf (C:=C85 s) rfl rfl ⟨rfl,rfl,by kernel_rfl,rfl⟩ (by kernel_rfl) (by kernel_rfl) ((by kernel_rfl:z5 (C85 s) (KR E Tryz.f85.results.toList Rp) 30 (rs B85 60 (.at [])) (zj (zAw 0 [v0])) h=(P85_0 s (KR E [.tmp 2] Rp) v0 h)).mpr H)
theorem F85_get:E.tab.fn.get 85=some Tryz.f85:=by kernel_rfl
theorem F85_body:Tryz.f85.body=some B85:=by kernel_rfl
theorem F85_sum (l:List Value) (h:AH):E.sum 85 l h=none:=by kernel_rfl
theorem F85_flatE {v0:Value} {h:AH} {Rp:Value->Prop} (hok:h.ok) (H:P85_0 true (KR E [.tmp 2] (fun x k=>(zg x=true/\Rp x)/\h.next<=k.wm)) v0 h.fresh):∃ v,Rp v/\(zV E).call 85 [v0] h=some [(v,h)]:=
 zAT hok F85_get F85_body (F85_sum _ _) (by kernel_rfl) (F85_ev (Rp:=fun x k=>(zg x=true/\Rp x)/\h.next<=k.wm) H)
noncomputable def B23:Code:=zT Tryz.f23
noncomputable def C23 (s:Bool):Cx:=⟨E,s,none,B23,[([0],[0]),([1,0],[1]),([1,1,0,0],[3]),([1,1,0,1,0,0],[]),([1,1,1,0],[])],[2],[]⟩
def P23_0 (s:Bool) (K:KF) (v0:Value) (h:AH):Prop:=PI (C23 s) K 0 [v0] h
def P23_1 (s:Bool) (K:KF) (v1:Value) (h:AH):Prop:=PI (C23 s) K 1 [v1] h
def P23_2 (s:Bool) (K:KF) (v3:Value) (h:AH):Prop:=PI (C23 s) K 2 [v3] h
def P23_3 (s:Bool) (K:KF) (h:AH):Prop:=PI (C23 s) K 3 [] h
def P23_4 (s:Bool) (K:KF) (h:AH):Prop:=PI (C23 s) K 4 [] h
theorem P23_0_of (H :
 Ev s (zU 25 h (some v0)) fun x0=>
 EvO (α:=Value) (some (.int .i64 0)) fun x1=>
 P23_1 s K x0.1 x0.2):P23_0 s K v0 h:=zB H
theorem P23_1_of (H :
 EvO (zG E 25 h (some v1)) fun x0=>
 Ev s (za (zV E) (some (.func (.func 85) #[] #[])) (some [x0]) h) fun x1=>
 EvO (some x1.1) fun x2=>
 P23_2 s K x2 x1.2):P23_1 s K v1 h:=zB H
theorem P23_2_of (H :
 EvO (some v3) fun x0=>
 EvO (zAf .not x0) fun x1=>
 BrK (some x1) (P23_3 s K  h) (P23_4 s K  h)):P23_2 s K v3 h:=zB H
theorem P23_3_of (H :
 EvO (α:=Value) (some (.int .i64 8)) fun x0=>
 K .ret [x0] h):P23_3 s K h:=zB H
theorem P23_4_of (H :
 EvO (α:=Value) (some (.int .i64 0)) fun x0=>
 K .ret [x0] h):P23_4 s K h:=zB H
theorem F23_ev {s:Bool} {v0:Value} {h:AH} {Rp:Value->AH->Prop} (H:P23_0 s (KR E [.tmp 2] Rp) v0 h) :
 Ev s (R.andThen (evC E (zV E) none (zT Tryz.f23) ⟨⟨Tryz.f23.ntmps,zw [v0] 0 .e⟩,h,[]⟩) (zc E Tryz.f23)) fun x=>Rp x.1 x.2:=
 zf (C:=C23 s) rfl rfl ⟨rfl,rfl,by kernel_rfl,rfl⟩ (by kernel_rfl) (by kernel_rfl) ((by kernel_rfl:z5 (C23 s) (KR E Tryz.f23.results.toList Rp) 30 (rs B23 60 (.at [])) (zj (zAw 0 [v0])) h=(P23_0 s (KR E [.tmp 2] Rp) v0 h)).mpr H)
theorem F23_get:E.tab.fn.get 23=some Tryz.f23:=by kernel_rfl
theorem F23_body:Tryz.f23.body=some B23:=by kernel_rfl
theorem F23_sum (l:List Value) (h:AH):E.sum 23 l h=none:=by kernel_rfl
theorem F23_flatE {v0:Value} {h:AH} {Rp:Value->Prop} (hok:h.ok) (H:P23_0 true (KR E [.tmp 2] (fun x k=>(zg x=true/\Rp x)/\h.next<=k.wm)) v0 h.fresh):∃ v,Rp v/\(zV E).call 23 [v0] h=some [(v,h)]:=
 zAT hok F23_get F23_body (F23_sum _ _) (by kernel_rfl) (F23_ev (Rp:=fun x k=>(zg x=true/\Rp x)/\h.next<=k.wm) H)
noncomputable def B24:Code:=zT Tryz.f24
noncomputable def C24 (s:Bool):Cx:=⟨E,s,none,B24,[([0],[0]),([1,0],[1]),([1,1,0,0],[1,3]),([1,1,0,1,0,0,0,0],[1,3,4]),([1,1,0,1,0,0,1,0,0,0],[1,3,4]),([1,1,0,1,0,0,1,0,0,1],[1,3,4,5]),([1,1,0,1,0,0,1,1],[1,3,4]),([1,1,1,0],[3])],[2],[]⟩
def P24_0 (s:Bool) (K:KF) (v0:Value) (h:AH):Prop:=PI (C24 s) K 0 [v0] h
def P24_1 (s:Bool) (K:KF) (v1:Value) (h:AH):Prop:=PI (C24 s) K 1 [v1] h
def P24_2 (s:Bool) (K:KF) (v1 v3:Value) (h:AH):Prop:=PI (C24 s) K 2 [v1,v3] h
def P24_3 (s:Bool) (K:KF) (v1 v3 v4:Value) (h:AH):Prop:=PI (C24 s) K 3 [v1,v3,v4] h
def P24_4 (s:Bool) (K:KF) (v1 v3 v4:Value) (h:AH):Prop:=PI (C24 s) K 4 [v1,v3,v4] h
def P24_5 (s:Bool) (K:KF) (v1 v3 v4 v5:Value) (h:AH):Prop:=PI (C24 s) K 5 [v1,v3,v4,v5] h
def P24_6 (s:Bool) (K:KF) (v1 v3 v4:Value) (h:AH):Prop:=PI (C24 s) K 6 [v1,v3,v4] h
def P24_7 (s:Bool) (K:KF) (v3:Value) (h:AH):Prop:=PI (C24 s) K 7 [v3] h
theorem P24_0_of (H :
 Ev s (zU 25 h (some v0)) fun x0=>
 EvO (α:=Value) (some (.slice none 0 0)) fun x1=>
 P24_1 s K x0.1 x0.2):P24_0 s K v0 h:=zB H
theorem P24_1_of (H :
 EvO (zC E 25 0 (some v1)) fun x0=>
 EvO (zG E 3 h (some x0)) fun x1=>
 Ev s (zAk E 49 (some x1) (some x1) h) fun x2=>
 EvO (some x2.1) fun x3=>
 P24_2 s K v1 x3 x2.2):P24_1 s K v1 h:=zB H
theorem P24_2_of (H :
 EvO (α:=Value) (some (.int .i64 0)) fun x0=>
 P24_3 s K v1 v3 x0 h):P24_2 s K v1 v3 h:=zB H
theorem P24_3_of (H :
 EvO (some v4) fun x0=>
 EvO (zC E 25 2 (some v1)) fun x1=>
 EvO (zG E 23 h (some x1)) fun x2=>
 EvO (zN E (zj [(11,x2)]) (zy B24 [1,1,0,1,0,0,0,0] 3) h) fun x3=>
 EvO (zE E .lss 3 x0 x3) fun x4=>
 BrK (some x4) (P24_4 s K v1 v3 v4 h) (P24_7 s K v3 h)):P24_3 s K v1 v3 v4 h:=zB H
theorem len24_3_3:zN E (zj [(11,.slice a n c)]) (zy B24 [1,1,0,1,0,0,0,0] 3) h=some (.int .i64 (n:Int)):=by cases a <;> kernel_rfl
theorem P24_4_of (H :
 EvO (zC E 25 2 (some v1)) fun x0=>
 EvO (zG E 23 h (some x0)) fun x1=>
 EvO (some v4) fun x2=>
 EvO (zH E 23 (some x1) (some x2)) fun x3=>
 EvO (zG E 52 h (some x3)) fun x4=>
 Ev s (zU 52 h (zAC E 52)) fun x5=>
 Ev s (zu E 52 x5.2 (some x5.1) (some x4)) fun x6=>
 P24_5 s K v1 v3 v4 x5.1 x6.2):P24_4 s K v1 v3 v4 h:=zB H
theorem P24_5_of (H :
 EvO (some v3) fun x0=>
 EvO (zC E 52 0 (some v5)) fun x1=>
 EvO (zG E 3 h (some x1)) fun x2=>
 EvO (some v3) fun x3=>
 EvO (zC E 52 0 (some v5)) fun x4=>
 EvO (zG E 3 h (some x4)) fun x5=>
 EvO (zH E 49 (some x3) (some x5)) fun x6=>
 EvO (zG E 23 h (some x6)) fun x7=>
 EvO (zG E 52 h (some v5)) fun x8=>
 Ev s (zh E 23 1 (some [(0,x8)]) h) fun x9=>
 EvO (zG E 23 x9.2 (some x6)) fun u9_7=>veq 100 u9_7 x7=true ∧
 (EvO (zG E 3 x9.2 (some x4)) fun u9_5=>veq 100 u9_5 x5=true ∧
 (EvO (zG E 3 x9.2 (some x1)) fun u9_2=>veq 100 u9_2 x2=true ∧
 (Ev s (zAO E .append [23,23] (some [x7,x9.1]) x9.2) fun x10=>
 EvO (zG E 3 x10.2 (some x1)) fun u10_2=>veq 100 u10_2 x2=true ∧
 (EvO (zH E 49 (some x0) (some x2)) fun x11=>
 Ev s (zu E 23 x10.2 (some x11) (some x10.1)) fun x12=>
 P24_6 s K v1 v3 v4 x12.2))))):P24_5 s K v1 v3 v4 v5 h:=zB H
theorem P24_6_of (H :
 EvO (some v4) fun x0=>
 EvO (zE E .add 3 x0 (.int .i64 1)) fun x1=>
 EvO (some x1) fun x2=>
 P24_3 s K v1 v3 x2 h):P24_6 s K v1 v3 v4 h:=zB H
theorem P24_7_of (H :
 EvO (some v3) fun x0=>
 EvO (some x0) fun x1=>
 K .ret [x1] h):P24_7 s K v3 h:=zB H
theorem F24_ev {s:Bool} {v0:Value} {h:AH} {Rp:Value->AH->Prop} (H:P24_0 s (KR E [.tmp 2] Rp) v0 h) :
 Ev s (R.andThen (evC E (zV E) none (zT Tryz.f24) ⟨⟨Tryz.f24.ntmps,zw [v0] 0 .e⟩,h,[]⟩) (zc E Tryz.f24)) fun x=>Rp x.1 x.2:=
 zf (C:=C24 s) rfl rfl ⟨rfl,rfl,by kernel_rfl,rfl⟩ (by kernel_rfl) (by kernel_rfl) ((by kernel_rfl:z5 (C24 s) (KR E Tryz.f24.results.toList Rp) 30 (rs B24 60 (.at [])) (zj (zAw 0 [v0])) h=(P24_0 s (KR E [.tmp 2] Rp) v0 h)).mpr H)
theorem F24_get:E.tab.fn.get 24=some Tryz.f24:=by kernel_rfl
theorem F24_body:Tryz.f24.body=some B24:=by kernel_rfl
theorem F24_sum (l:List Value) (h:AH):E.sum 24 l h=none:=by kernel_rfl
theorem F24_some {v0:Value} {h:AH} {Rp:Value->AH->Prop} (H:P24_0 true (KR E [.tmp 2] (fun x k=>(zg x=false\/k.wm<h.next)/\Rp x ⟨k.t,k.next,cond (Nat.ble h.wm k.wm) h.wm k.wm⟩)) v0 h.fresh):Ev true ((zV E).call 24 [v0] h) fun x=>Rp x.1 x.2:=
 zBw F24_get F24_body (F24_sum _ _) (by kernel_rfl) (F24_ev (Rp:=fun x k=>(zg x=false\/k.wm<h.next)/\Rp x ⟨k.t,k.next,cond (Nat.ble h.wm k.wm) h.wm k.wm⟩) H)
noncomputable def B27:Code:=zT Tryz.f27
noncomputable def C27 (s:Bool):Cx:=⟨E,s,none,B27,[([0],[0,1]),([1,0],[0,1])],[4],[]⟩
def P27_0 (s:Bool) (K:KF) (v0 v1:Value) (h:AH):Prop:=PI (C27 s) K 0 [v0,v1] h
def P27_1 (s:Bool) (K:KF) (v0 v1:Value) (h:AH):Prop:=PI (C27 s) K 1 [v0,v1] h
theorem P27_0_of (H :
 EvO (α:=Value) (some (.bool false)) fun x0=>
 P27_1 s K v0 v1 h):P27_0 s K v0 v1 h:=zB H
theorem P27_1_of (H :
 EvO (some v0) fun x0=>
 EvO (some v1) fun x1=>
 Ev s (za (zV E) (some (.func (.func 87) #[] #[])) (some [x0,x1]) h) fun x2=>
 EvO (zE E .geq 3 x2.1 (.int .i64 0)) fun x3=>
 EvO (some x3) fun x4=>
 K .ret [x4] x2.2):P27_1 s K v0 v1 h:=zB H
theorem F27_ev {s:Bool} {v0 v1:Value} {h:AH} {Rp:Value->AH->Prop} (H:P27_0 s (KR E [.tmp 4] Rp) v0 v1 h) :
 Ev s (R.andThen (evC E (zV E) none (zT Tryz.f27) ⟨⟨Tryz.f27.ntmps,zw [v0,v1] 0 .e⟩,h,[]⟩) (zc E Tryz.f27)) fun x=>Rp x.1 x.2:=
 zf (C:=C27 s) rfl rfl ⟨rfl,rfl,by kernel_rfl,rfl⟩ (by kernel_rfl) (by kernel_rfl) ((by kernel_rfl:z5 (C27 s) (KR E Tryz.f27.results.toList Rp) 30 (rs B27 60 (.at [])) (zj (zAw 0 [v0,v1])) h=(P27_0 s (KR E [.tmp 4] Rp) v0 v1 h)).mpr H)
theorem F27_get:E.tab.fn.get 27=some Tryz.f27:=by kernel_rfl
theorem F27_body:Tryz.f27.body=some B27:=by kernel_rfl
theorem F27_sum (l:List Value) (h:AH):E.sum 27 l h=none:=by kernel_rfl
theorem F27_flat {s:Bool} {v0 v1:Value} {h:AH} {v:Value} (hok:h.ok) (hv:zm v=true) (H:P27_0 s (KR E [.tmp 4] (fun x k=>x=v/\h.next<=k.wm)) v0 v1 h.fresh):(zV E).call 27 [v0,v1] h=some [(v,h)]:=
 zk (s:=s) hok F27_get F27_body (F27_sum _ _) (by kernel_rfl) hv (F27_ev (Rp:=fun x k=>x=v/\h.next<=k.wm) H)
noncomputable def B87:Code:=zT Tryz.f87
noncomputable def C87 (s:Bool):Cx:=⟨E,s,none,B87,[([0],[0,1]),([1,0,0],[0,1]),([1,0,1,0,0,0],[0,1,7,8]),([1,0,1,0,0,1,1,0,0,0],[0,1,7,8]),([1,0,1,0,0,1,1,0,0,1,0],[0,1,5,7,8]),([1,0,1,0,0,1,1,0,0,1,1,0,0],[5]),([1,0,1,0,0,1,1,1],[0,1,7,8]),([1,1,0],[])],[4],[]⟩
def P87_0 (s:Bool) (K:KF) (v0 v1:Value) (h:AH):Prop:=PI (C87 s) K 0 [v0,v1] h
def P87_1 (s:Bool) (K:KF) (v0 v1:Value) (h:AH):Prop:=PI (C87 s) K 1 [v0,v1] h
def P87_2 (s:Bool) (K:KF) (v0 v1 v7 v8:Value) (h:AH):Prop:=PI (C87 s) K 2 [v0,v1,v7,v8] h
def P87_3 (s:Bool) (K:KF) (v0 v1 v7 v8:Value) (h:AH):Prop:=PI (C87 s) K 3 [v0,v1,v7,v8] h
def P87_4 (s:Bool) (K:KF) (v0 v1 v5 v7 v8:Value) (h:AH):Prop:=PI (C87 s) K 4 [v0,v1,v5,v7,v8] h
def P87_5 (s:Bool) (K:KF) (v5:Value) (h:AH):Prop:=PI (C87 s) K 5 [v5] h
def P87_6 (s:Bool) (K:KF) (v0 v1 v7 v8:Value) (h:AH):Prop:=PI (C87 s) K 6 [v0,v1,v7,v8] h
def P87_7 (s:Bool) (K:KF) (h:AH):Prop:=PI (C87 s) K 7 [] h
theorem P87_0_of (H :
 EvO (α:=Value) (some (.int .i64 0)) fun x0=>
 P87_1 s K v0 v1 h):P87_0 s K v0 v1 h:=zB H
theorem P87_1_of (H :
 EvO (some v0) fun x0=>
 EvO (zN E (zj [(6,x0)]) (zy B87 [1,0,0] 1) h) fun x1=>
 EvO (α:=Value) (some (.int .i64 0)) fun x2=>
 P87_2 s K v0 v1 x1 x2 h):P87_1 s K v0 v1 h:=zB H
theorem len87_1_1:zN E (zj [(6,.slice a n c)]) (zy B87 [1,0,0] 1) h=some (.int .i64 (n:Int)):=by cases a <;> kernel_rfl
theorem P87_2_of (H :
 EvO (zE E .lss 3 v8 v7) fun x0=>
 BrK (some x0) (P87_3 s K v0 v1 v7 v8 h) (P87_7 s K  h)):P87_2 s K v0 v1 v7 v8 h:=zB H
theorem P87_3_of (H :
 EvO (some v8) fun x0=>
 EvO (some x0) fun x1=>
 P87_4 s K v0 v1 x1 v7 v8 h):P87_3 s K v0 v1 v7 v8 h:=zB H
theorem P87_4_of (H :
 EvO (some v1) fun x0=>
 EvO (some v0) fun x1=>
 EvO (some v5) fun x2=>
 EvO (zH E 47 (some x1) (some x2)) fun x3=>
 EvO (zG E 3 h (some x3)) fun x4=>
 EvO (zE E .eql 3 x0 x4) fun x5=>
 BrK (some x5) (P87_5 s K v5 h) (P87_6 s K v0 v1 v7 v8 h)):P87_4 s K v0 v1 v5 v7 v8 h:=zB H
theorem P87_5_of (H :
 EvO (some v5) fun x0=>
 EvO (some x0) fun x1=>
 K .ret [x1] h):P87_5 s K v5 h:=zB H
theorem P87_6_of (H :
 EvO (zE E .add 3 v8 (.int .i64 1)) fun x0=>
 EvO (some x0) fun x1=>
 P87_2 s K v0 v1 v7 x1 h):P87_6 s K v0 v1 v7 v8 h:=zB H
theorem P87_7_of (H :
 EvO (α:=Value) (some (.int .i64 (-1))) fun x0=>
 K .ret [x0] h):P87_7 s K h:=zB H
theorem F87_ev {s:Bool} {v0 v1:Value} {h:AH} {Rp:Value->AH->Prop} (H:P87_0 s (KR E [.tmp 4] Rp) v0 v1 h) :
 Ev s (R.andThen (evC E (zV E) none (zT Tryz.f87) ⟨⟨Tryz.f87.ntmps,zw [v0,v1] 0 .e⟩,h,[]⟩) (zc E Tryz.f87)) fun x=>Rp x.1 x.2:=
 zf (C:=C87 s) rfl rfl ⟨rfl,rfl,by kernel_rfl,rfl⟩ (by kernel_rfl) (by kernel_rfl) ((by kernel_rfl:z5 (C87 s) (KR E Tryz.f87.results.toList Rp) 30 (rs B87 60 (.at [])) (zj (zAw 0 [v0,v1])) h=(P87_0 s (KR E [.tmp 4] Rp) v0 v1 h)).mpr H)
theorem F87_get:E.tab.fn.get 87=some Tryz.f87:=by kernel_rfl
theorem F87_body:Tryz.f87.body=some B87:=by kernel_rfl
theorem F87_sum (l:List Value) (h:AH):E.sum 87 l h=none:=by kernel_rfl
theorem F87_flat {s:Bool} {v0 v1:Value} {h:AH} {v:Value} (hok:h.ok) (hv:zm v=true) (H:P87_0 s (KR E [.tmp 4] (fun x k=>x=v/\h.next<=k.wm)) v0 v1 h.fresh):(zV E).call 87 [v0,v1] h=some [(v,h)]:=
 zk (s:=s) hok F87_get F87_body (F87_sum _ _) (by kernel_rfl) hv (F87_ev (Rp:=fun x k=>x=v/\h.next<=k.wm) H)
noncomputable def B19:Code:=zT Tryz.f19
noncomputable def C19 (s:Bool):Cx:=⟨E,s,none,B19,[([0],[0]),([1,0],[0])],[2],[]⟩
def P19_0 (s:Bool) (K:KF) (v0:Value) (h:AH):Prop:=PI (C19 s) K 0 [v0] h
def P19_1 (s:Bool) (K:KF) (v0:Value) (h:AH):Prop:=PI (C19 s) K 1 [v0] h
theorem P19_0_of (H :
 EvO (α:=Value) (some (.bool false)) fun x0=>
 P19_1 s K v0 h):P19_0 s K v0 h:=zB H
theorem P19_1_of (H :
 EvO (some v0) fun x0=>
 Ev s (za (zV E) (some (.func (.func 74) #[] #[])) (some [x0,(.func (.func 75) #[] #[])]) h) fun x1=>
 EvO (zAf .not x1.1) fun x2=>
 EvO (some x2) fun x3=>
 K .ret [x3] x1.2):P19_1 s K v0 h:=zB H
theorem F19_ev {s:Bool} {v0:Value} {h:AH} {Rp:Value->AH->Prop} (H:P19_0 s (KR E [.tmp 2] Rp) v0 h) :
 Ev s (R.andThen (evC E (zV E) none (zT Tryz.f19) ⟨⟨Tryz.f19.ntmps,zw [v0] 0 .e⟩,h,[]⟩) (zc E Tryz.f19)) fun x=>Rp x.1 x.2:=
 zf (C:=C19 s) rfl rfl ⟨rfl,rfl,by kernel_rfl,rfl⟩ (by kernel_rfl) (by kernel_rfl) ((by kernel_rfl:z5 (C19 s) (KR E Tryz.f19.results.toList Rp) 30 (rs B19 60 (.at [])) (zj (zAw 0 [v0])) h=(P19_0 s (KR E [.tmp 2] Rp) v0 h)).mpr H)
theorem F19_get:E.tab.fn.get 19=some Tryz.f19:=by kernel_rfl
theorem F19_body:Tryz.f19.body=some B19:=by kernel_rfl
theorem F19_sum (l:List Value) (h:AH):E.sum 19 l h=none:=by kernel_rfl
theorem F19_flat {s:Bool} {v0:Value} {h:AH} {v:Value} (hok:h.ok) (hv:zm v=true) (H:P19_0 s (KR E [.tmp 2] (fun x k=>x=v/\h.next<=k.wm)) v0 h.fresh):(zV E).call 19 [v0] h=some [(v,h)]:=
 zk (s:=s) hok F19_get F19_body (F19_sum _ _) (by kernel_rfl) hv (F19_ev (Rp:=fun x k=>x=v/\h.next<=k.wm) H)
noncomputable def B74:Code:=zT Tryz.f74
noncomputable def C74 (s:Bool):Cx:=⟨E,s,none,B74,[([0],[0,1]),([1,0],[0,1])],[4],[]⟩
def P74_0 (s:Bool) (K:KF) (v0 v1:Value) (h:AH):Prop:=PI (C74 s) K 0 [v0,v1] h
def P74_1 (s:Bool) (K:KF) (v0 v1:Value) (h:AH):Prop:=PI (C74 s) K 1 [v0,v1] h
theorem P74_0_of (H :
 EvO (α:=Value) (some (.bool false)) fun x0=>
 P74_1 s K v0 v1 h):P74_0 s K v0 v1 h:=zB H
theorem P74_1_of (H :
 EvO (some v0) fun x0=>
 EvO (some v1) fun x1=>
 Ev s (za (zV E) (some (.func (.func 126) #[] #[])) (some [x0,x1]) h) fun x2=>
 EvO (zE E .geq 3 x2.1 (.int .i64 0)) fun x3=>
 EvO (some x3) fun x4=>
 K .ret [x4] x2.2):P74_1 s K v0 v1 h:=zB H
theorem F74_ev {s:Bool} {v0 v1:Value} {h:AH} {Rp:Value->AH->Prop} (H:P74_0 s (KR E [.tmp 4] Rp) v0 v1 h) :
 Ev s (R.andThen (evC E (zV E) none (zT Tryz.f74) ⟨⟨Tryz.f74.ntmps,zw [v0,v1] 0 .e⟩,h,[]⟩) (zc E Tryz.f74)) fun x=>Rp x.1 x.2:=
 zf (C:=C74 s) rfl rfl ⟨rfl,rfl,by kernel_rfl,rfl⟩ (by kernel_rfl) (by kernel_rfl) ((by kernel_rfl:z5 (C74 s) (KR E Tryz.f74.results.toList Rp) 30 (rs B74 60 (.at [])) (zj (zAw 0 [v0,v1])) h=(P74_0 s (KR E [.tmp 4] Rp) v0 v1 h)).mpr H)
theorem F74_get:E.tab.fn.get 74=some Tryz.f74:=by kernel_rfl
theorem F74_body:Tryz.f74.body=some B74:=by kernel_rfl
theorem F74_sum (l:List Value) (h:AH):E.sum 74 l h=none:=by kernel_rfl
theorem F74_flat {s:Bool} {v0 v1:Value} {h:AH} {v:Value} (hok:h.ok) (hv:zm v=true) (H:P74_0 s (KR E [.tmp 4] (fun x k=>x=v/\h.next<=k.wm)) v0 v1 h.fresh):(zV E).call 74 [v0,v1] h=some [(v,h)]:=
 zk (s:=s) hok F74_get F74_body (F74_sum _ _) (by kernel_rfl) hv (F74_ev (Rp:=fun x k=>x=v/\h.next<=k.wm) H)
noncomputable def B75:Code:=zT Tryz.f75
noncomputable def C75 (s:Bool):Cx:=⟨E,s,none,B75,[([0],[0]),([1,0],[1])],[2],[]⟩
def P75_0 (s:Bool) (K:KF) (v0:Value) (h:AH):Prop:=PI (C75 s) K 0 [v0] h
def P75_1 (s:Bool) (K:KF) (v1:Value) (h:AH):Prop:=PI (C75 s) K 1 [v1] h
theorem P75_0_of (H :
 Ev s (zU 32 h (some v0)) fun x0=>
 EvO (α:=Value) (some (.bool false)) fun x1=>
 P75_1 s K x0.1 x0.2):P75_0 s K v0 h:=zB H
theorem P75_1_of (H :
 EvO (zC E 32 1 (some v1)) fun x0=>
 EvO (zG E 26 h (some x0)) fun x1=>
 EvO (zN E (zj [(4,x1)]) (zy B75 [1,0] 2) h) fun x2=>
 EvO (zE E .gtr 3 x2 (.int .i64 4000)) fun x3=>
 EvO (some x3) fun x4=>
 K .ret [x4] h):P75_1 s K v1 h:=zB H
theorem len75_1_2:zN E (zj [(4,.slice a n c)]) (zy B75 [1,0] 2) h=some (.int .i64 (n:Int)):=by cases a <;> kernel_rfl
theorem F75_ev {s:Bool} {v0:Value} {h:AH} {Rp:Value->AH->Prop} (H:P75_0 s (KR E [.tmp 2] Rp) v0 h) :
 Ev s (R.andThen (evC E (zV E) none (zT Tryz.f75) ⟨⟨Tryz.f75.ntmps,zw [v0] 0 .e⟩,h,[]⟩) (zc E Tryz.f75)) fun x=>Rp x.1 x.2:=
 zf (C:=C75 s) rfl rfl ⟨rfl,rfl,by kernel_rfl,rfl⟩ (by kernel_rfl) (by kernel_rfl) ((by kernel_rfl:z5 (C75 s) (KR E Tryz.f75.results.toList Rp) 30 (rs B75 60 (.at [])) (zj (zAw 0 [v0])) h=(P75_0 s (KR E [.tmp 2] Rp) v0 h)).mpr H)
theorem F75_get:E.tab.fn.get 75=some Tryz.f75:=by kernel_rfl
theorem F75_body:Tryz.f75.body=some B75:=by kernel_rfl
theorem F75_sum (l:List Value) (h:AH):E.sum 75 l h=none:=by kernel_rfl
theorem F75_flat {s:Bool} {v0:Value} {h:AH} {v:Value} (hok:h.ok) (hv:zm v=true) (H:P75_0 s (KR E [.tmp 2] (fun x k=>x=v/\h.next<=k.wm)) v0 h.fresh):(zV E).call 75 [v0] h=some [(v,h)]:=
 zk (s:=s) hok F75_get F75_body (F75_sum _ _) (by kernel_rfl) hv (F75_ev (Rp:=fun x k=>x=v/\h.next<=k.wm) H)
noncomputable def B126:Code:=zT Tryz.f126
noncomputable def C126 (s:Bool):Cx:=⟨E,s,none,B126,[([0],[0,1]),([1,0,0],[0,1]),([1,0,1,0,0,0],[0,1,7,8]),([1,0,1,0,0,1,1,0,0,0],[0,1,7,8]),([1,0,1,0,0,1,1,0,0,1,0],[0,1,5,7,8]),([1,0,1,0,0,1,1,0,0,1,1,0,0],[5]),([1,0,1,0,0,1,1,1],[0,1,7,8]),([1,1,0],[])],[4],[]⟩
def P126_0 (s:Bool) (K:KF) (v0 v1:Value) (h:AH):Prop:=PI (C126 s) K 0 [v0,v1] h
def P126_1 (s:Bool) (K:KF) (v0 v1:Value) (h:AH):Prop:=PI (C126 s) K 1 [v0,v1] h
def P126_2 (s:Bool) (K:KF) (v0 v1 v7 v8:Value) (h:AH):Prop:=PI (C126 s) K 2 [v0,v1,v7,v8] h
def P126_3 (s:Bool) (K:KF) (v0 v1 v7 v8:Value) (h:AH):Prop:=PI (C126 s) K 3 [v0,v1,v7,v8] h
def P126_4 (s:Bool) (K:KF) (v0 v1 v5 v7 v8:Value) (h:AH):Prop:=PI (C126 s) K 4 [v0,v1,v5,v7,v8] h
def P126_5 (s:Bool) (K:KF) (v5:Value) (h:AH):Prop:=PI (C126 s) K 5 [v5] h
def P126_6 (s:Bool) (K:KF) (v0 v1 v7 v8:Value) (h:AH):Prop:=PI (C126 s) K 6 [v0,v1,v7,v8] h
def P126_7 (s:Bool) (K:KF) (h:AH):Prop:=PI (C126 s) K 7 [] h
theorem P126_0_of (H :
 EvO (α:=Value) (some (.int .i64 0)) fun x0=>
 P126_1 s K v0 v1 h):P126_0 s K v0 v1 h:=zB H
theorem P126_1_of (H :
 EvO (some v0) fun x0=>
 EvO (zN E (zj [(6,x0)]) (zy B126 [1,0,0] 1) h) fun x1=>
 EvO (α:=Value) (some (.int .i64 0)) fun x2=>
 P126_2 s K v0 v1 x1 x2 h):P126_1 s K v0 v1 h:=zB H
theorem len126_1_1:zN E (zj [(6,.slice a n c)]) (zy B126 [1,0,0] 1) h=some (.int .i64 (n:Int)):=by cases a <;> kernel_rfl
theorem P126_2_of (H :
 EvO (zE E .lss 3 v8 v7) fun x0=>
 BrK (some x0) (P126_3 s K v0 v1 v7 v8 h) (P126_7 s K  h)):P126_2 s K v0 v1 v7 v8 h:=zB H
theorem P126_3_of (H :
 EvO (some v8) fun x0=>
 EvO (some x0) fun x1=>
 P126_4 s K v0 v1 x1 v7 v8 h):P126_3 s K v0 v1 v7 v8 h:=zB H
theorem P126_4_of (H :
 EvO (some v1) fun x0=>
 EvO (some v0) fun x1=>
 EvO (some v5) fun x2=>
 EvO (zH E 83 (some x1) (some x2)) fun x3=>
 EvO (zG E 32 h (some x3)) fun x4=>
 Ev s (za (zV E) (some x0) (some [x4]) h) fun x5=>
 BrK (some x5.1) (P126_5 s K v5 x5.2) (P126_6 s K v0 v1 v7 v8 x5.2)):P126_4 s K v0 v1 v5 v7 v8 h:=zB H
theorem P126_5_of (H :
 EvO (some v5) fun x0=>
 EvO (some x0) fun x1=>
 K .ret [x1] h):P126_5 s K v5 h:=zB H
theorem P126_6_of (H :
 EvO (zE E .add 3 v8 (.int .i64 1)) fun x0=>
 EvO (some x0) fun x1=>
 P126_2 s K v0 v1 v7 x1 h):P126_6 s K v0 v1 v7 v8 h:=zB H
theorem P126_7_of (H :
 EvO (α:=Value) (some (.int .i64 (-1))) fun x0=>
 K .ret [x0] h):P126_7 s K h:=zB H
theorem F126_ev {s:Bool} {v0 v1:Value} {h:AH} {Rp:Value->AH->Prop} (H:P126_0 s (KR E [.tmp 4] Rp) v0 v1 h) :
 Ev s (R.andThen (evC E (zV E) none (zT Tryz.f126) ⟨⟨Tryz.f126.ntmps,zw [v0,v1] 0 .e⟩,h,[]⟩) (zc E Tryz.f126)) fun x=>Rp x.1 x.2:=
 zf (C:=C126 s) rfl rfl ⟨rfl,rfl,by kernel_rfl,rfl⟩ (by kernel_rfl) (by kernel_rfl) ((by kernel_rfl:z5 (C126 s) (KR E Tryz.f126.results.toList Rp) 30 (rs B126 60 (.at [])) (zj (zAw 0 [v0,v1])) h=(P126_0 s (KR E [.tmp 4] Rp) v0 v1 h)).mpr H)
theorem F126_get:E.tab.fn.get 126=some Tryz.f126:=by kernel_rfl
theorem F126_body:Tryz.f126.body=some B126:=by kernel_rfl
theorem F126_sum (l:List Value) (h:AH):E.sum 126 l h=none:=by kernel_rfl
theorem F126_flat {s:Bool} {v0 v1:Value} {h:AH} {v:Value} (hok:h.ok) (hv:zm v=true) (H:P126_0 s (KR E [.tmp 4] (fun x k=>x=v/\h.next<=k.wm)) v0 v1 h.fresh):(zV E).call 126 [v0,v1] h=some [(v,h)]:=
 zk (s:=s) hok F126_get F126_body (F126_sum _ _) (by kernel_rfl) hv (F126_ev (Rp:=fun x k=>x=v/\h.next<=k.wm) H)
noncomputable def B5:Code:=zT Tryz.f5
noncomputable def C5 (s:Bool):Cx:=⟨E,s,none,B5,[([0],[0,1,2,3]),([1,0,0],[3,4,5,6]),([1,0,1,0,0],[]),([1,1,0,0],[3,4,5,6]),([1,1,0,1,0,0],[]),([1,1,1,0],[3,4,5,6]),([1,1,1,1,0],[3,4,5,6,9,10]),([1,1,1,1,1,0,0],[3,4,5,6,9,10,11,12]),([1,1,1,1,1,0,1,0,0,0],[4,5,6,9,10,11,12,65,66,67]),([1,1,1,1,1,0,1,0,0,1,1,0,0,0],[4,5,6,9,10,11,12,65,66,67]),([1,1,1,1,1,0,1,0,0,1,1,0,0,1,0,0],[4,5,6,9,10,11,12,14,65,66,67]),([1,1,1,1,1,0,1,0,0,1,1,0,0,1,0,1,0,0],[]),([1,1,1,1,1,0,1,0,0,1,1,0,0,1,1,0],[4,5,6,9,10,11,12,14,65,66,67]),([1,1,1,1,1,0,1,0,0,1,1,0,0,1,1,1,0],[4,5,6,9,10,12,15,65,66,67]),([1,1,1,1,1,0,1,0,0,1,1,0,0,1,1,1,1,0],[4,5,6,9,10,12,15,16,65,66,67]),([1,1,1,1,1,0,1,0,0,1,1,0,0,1,1,1,1,1,0],[4,5,6,9,10,12,15,16,17,65,66,67]),([1,1,1,1,1,0,1,0,0,1,1,0,0,1,1,1,1,1,1,0,0],[4,5,6,9,10,12,15,16,17,18,65,66,67]),([1,1,1,1,1,0,1,0,0,1,1,0,0,1,1,1,1,1,1,0,1,0,0,0],[4,5,6,9,10,15,16,17,18,65,66,67,111,112,113]),([1,1,1,1,1,0,1,0,0,1,1,0,0,1,1,1,1,1,1,0,1,0,0,1,1,0,0,0],[4,5,6,9,10,15,16,17,18,65,66,67,111,112,113]),([1,1,1,1,1,0,1,0,0,1,1,0,0,1,1,1,1,1,1,0,1,0,0,1,1,0,0,1,0],[4,5,6,9,10,15,16,17,18,20,65,66,67,111,112,113]),([1,1,1,1,1,0,1,0,0,1,1,0,0,1,1,1,1,1,1,0,1,0,0,1,1,0,0,1,1,0],[4,5,6,9,10,15,16,17,18,21,65,66,67,111,112,113]),([1,1,1,1,1,0,1,0,0,1,1,0,0,1,1,1,1,1,1,0,1,0,0,1,1,0,0,1,1,1,0,0,0,0],[4,5,6,9,10,15,16,17,18,21,22,65,66,67,111,112,113]),([1,1,1,1,1,0,1,0,0,1,1,0,0,1,1,1,1,1,1,0,1,0,0,1,1,0,0,1,1,1,0,0,1,0,0,0,0],[4,5,6,9,10,15,16,17,18,21,22,65,66,67,111,112,113]),([1,1,1,1,1,0,1,0,0,1,1,0,0,1,1,1,1,1,1,0,1,0,0,1,1,0,0,1,1,1,0,0,1,0,0,0,1,0],[4,5,6,9,10,15,16,17,18,21,22,65,66,67,111,112,113]),([1,1,1,1,1,0,1,0,0,1,1,0,0,1,1,1,1,1,1,0,1,0,0,1,1,0,0,1,1,1,0,0,1,0,0,1,0],[4,5,6,9,10,15,16,17,18,21,22,65,66,67,111,112,113]),([1,1,1,1,1,0,1,0,0,1,1,0,0,1,1,1,1,1,1,0,1,0,0,1,1,0,0,1,1,1,0,0,1,0,0,1,1,0,0,0],[4,5,6,9,10,15,16,17,18,21,22,65,66,67,111,112,113,143,144,145]),([1,1,1,1,1,0,1,0,0,1,1,0,0,1,1,1,1,1,1,0,1,0,0,1,1,0,0,1,1,1,0,0,1,0,0,1,1,0,0,1,1,0,0,0],[4,5,6,9,10,15,16,17,18,21,22,65,66,67,111,112,113,143,144,145]),([1,1,1,1,1,0,1,0,0,1,1,0,0,1,1,1,1,1,1,0,1,0,0,1,1,0,0,1,1,1,0,0,1,0,0,1,1,0,0,1,1,0,0,1,0,0],[4,5,6,9,10,15,16,17,18,21,22,24,65,66,67,111,112,113,143,144,145]),([1,1,1,1,1,0,1,0,0,1,1,0,0,1,1,1,1,1,1,0,1,0,0,1,1,0,0,1,1,1,0,0,1,0,0,1,1,0,0,1,1,0,0,1,0,1,0],[4,5,6,9,10,15,16,17,18,21,22,24,65,66,67,111,112,113,143,144,145]),([1,1,1,1,1,0,1,0,0,1,1,0,0,1,1,1,1,1,1,0,1,0,0,1,1,0,0,1,1,1,0,0,1,0,0,1,1,0,0,1,1,0,0,1,1,0],[4,5,6,9,10,15,16,17,18,21,22,24,65,66,67,111,112,113,143,144,145]),([1,1,1,1,1,0,1,0,0,1,1,0,0,1,1,1,1,1,1,0,1,0,0,1,1,0,0,1,1,1,0,0,1,0,0,1,1,0,0,1,1,0,0,1,1,1,0],[4,5,6,9,10,15,16,17,18,21,22,24,65,66,67,111,112,113,143,144,145]),([1,1,1,1,1,0,1,0,0,1,1,0,0,1,1,1,1,1,1,0,1,0,0,1,1,0,0,1,1,1,0,0,1,0,0,1,1,0,0,1,1,1],[4,5,6,9,10,15,16,17,18,21,22,65,66,67,111,112,113,143,144,145]),([1,1,1,1,1,0,1,0,0,1,1,0,0,1,1,1,1,1,1,0,1,0,0,1,1,0,0,1,1,1,0,0,1,1],[4,5,6,9,10,15,16,17,18,21,22,65,66,67,111,112,113]),([1,1,1,1,1,0,1,0,0,1,1,0,0,1,1,1,1,1,1,0,1,0,0,1,1,1],[4,5,6,9,10,15,16,17,18,65,66,67,111,112,113]),([1,1,1,1,1,0,1,0,0,1,1,0,0,1,1,1,1,1,1,1,0,0],[4,5,6,9,10,15,16,65,66,67]),([1,1,1,1,1,0,1,0,0,1,1,0,0,1,1,1,1,1,1,1,0,1,0,0],[]),([1,1,1,1,1,0,1,0,0,1,1,0,0,1,1,1,1,1,1,1,1],[4,5,6,9,10,15,16,65,66,67]),([1,1,1,1,1,0,1,0,0,1,1,1],[4,5,6,9,10,11,12,65,66,67]),([1,1,1,1,1,1,0],[])],[8],[]⟩
def P5_0 (s:Bool) (K:KF) (v0 v1 v2 v3:Value) (h:AH):Prop:=PI (C5 s) K 0 [v0,v1,v2,v3] h
def P5_1 (s:Bool) (K:KF) (v3 v4 v5 v6:Value) (h:AH):Prop:=PI (C5 s) K 1 [v3,v4,v5,v6] h
def P5_2 (s:Bool) (K:KF) (h:AH):Prop:=PI (C5 s) K 2 [] h
def P5_3 (s:Bool) (K:KF) (v3 v4 v5 v6:Value) (h:AH):Prop:=PI (C5 s) K 3 [v3,v4,v5,v6] h
def P5_4 (s:Bool) (K:KF) (h:AH):Prop:=PI (C5 s) K 4 [] h
def P5_5 (s:Bool) (K:KF) (v3 v4 v5 v6:Value) (h:AH):Prop:=PI (C5 s) K 5 [v3,v4,v5,v6] h
def P5_6 (s:Bool) (K:KF) (v3 v4 v5 v6 v9 v10:Value) (h:AH):Prop:=PI (C5 s) K 6 [v3,v4,v5,v6,v9,v10] h
def P5_7 (s:Bool) (K:KF) (v3 v4 v5 v6 v9 v10 v11 v12:Value) (h:AH):Prop:=PI (C5 s) K 7 [v3,v4,v5,v6,v9,v10,v11,v12] h
def P5_8 (s:Bool) (K:KF) (v4 v5 v6 v9 v10 v11 v12 v65 v66 v67:Value) (h:AH):Prop:=PI (C5 s) K 8 [v4,v5,v6,v9,v10,v11,v12,v65,v66,v67] h
def P5_9 (s:Bool) (K:KF) (v4 v5 v6 v9 v10 v11 v12 v65 v66 v67:Value) (h:AH):Prop:=PI (C5 s) K 9 [v4,v5,v6,v9,v10,v11,v12,v65,v66,v67] h
def P5_10 (s:Bool) (K:KF) (v4 v5 v6 v9 v10 v11 v12 v14 v65 v66 v67:Value) (h:AH):Prop:=PI (C5 s) K 10 [v4,v5,v6,v9,v10,v11,v12,v14,v65,v66,v67] h
def P5_11 (s:Bool) (K:KF) (h:AH):Prop:=PI (C5 s) K 11 [] h
def P5_12 (s:Bool) (K:KF) (v4 v5 v6 v9 v10 v11 v12 v14 v65 v66 v67:Value) (h:AH):Prop:=PI (C5 s) K 12 [v4,v5,v6,v9,v10,v11,v12,v14,v65,v66,v67] h
def P5_13 (s:Bool) (K:KF) (v4 v5 v6 v9 v10 v12 v15 v65 v66 v67:Value) (h:AH):Prop:=PI (C5 s) K 13 [v4,v5,v6,v9,v10,v12,v15,v65,v66,v67] h
def P5_14 (s:Bool) (K:KF) (v4 v5 v6 v9 v10 v12 v15 v16 v65 v66 v67:Value) (h:AH):Prop:=PI (C5 s) K 14 [v4,v5,v6,v9,v10,v12,v15,v16,v65,v66,v67] h
def P5_15 (s:Bool) (K:KF) (v4 v5 v6 v9 v10 v12 v15 v16 v17 v65 v66 v67:Value) (h:AH):Prop:=PI (C5 s) K 15 [v4,v5,v6,v9,v10,v12,v15,v16,v17,v65,v66,v67] h
def P5_16 (s:Bool) (K:KF) (v4 v5 v6 v9 v10 v12 v15 v16 v17 v18 v65 v66 v67:Value) (h:AH):Prop:=PI (C5 s) K 16 [v4,v5,v6,v9,v10,v12,v15,v16,v17,v18,v65,v66,v67] h
def P5_17 (s:Bool) (K:KF) (v4 v5 v6 v9 v10 v15 v16 v17 v18 v65 v66 v67 v111 v112 v113:Value) (h:AH):Prop:=PI (C5 s) K 17 [v4,v5,v6,v9,v10,v15,v16,v17,v18,v65,v66,v67,v111,v112,v113] h
def P5_18 (s:Bool) (K:KF) (v4 v5 v6 v9 v10 v15 v16 v17 v18 v65 v66 v67 v111 v112 v113:Value) (h:AH):Prop:=PI (C5 s) K 18 [v4,v5,v6,v9,v10,v15,v16,v17,v18,v65,v66,v67,v111,v112,v113] h
def P5_19 (s:Bool) (K:KF) (v4 v5 v6 v9 v10 v15 v16 v17 v18 v20 v65 v66 v67 v111 v112 v113:Value) (h:AH):Prop:=PI (C5 s) K 19 [v4,v5,v6,v9,v10,v15,v16,v17,v18,v20,v65,v66,v67,v111,v112,v113] h
def P5_20 (s:Bool) (K:KF) (v4 v5 v6 v9 v10 v15 v16 v17 v18 v21 v65 v66 v67 v111 v112 v113:Value) (h:AH):Prop:=PI (C5 s) K 20 [v4,v5,v6,v9,v10,v15,v16,v17,v18,v21,v65,v66,v67,v111,v112,v113] h
def P5_21 (s:Bool) (K:KF) (v4 v5 v6 v9 v10 v15 v16 v17 v18 v21 v22 v65 v66 v67 v111 v112 v113:Value) (h:AH):Prop:=PI (C5 s) K 21 [v4,v5,v6,v9,v10,v15,v16,v17,v18,v21,v22,v65,v66,v67,v111,v112,v113] h
def P5_22 (s:Bool) (K:KF) (v4 v5 v6 v9 v10 v15 v16 v17 v18 v21 v22 v65 v66 v67 v111 v112 v113:Value) (h:AH):Prop:=PI (C5 s) K 22 [v4,v5,v6,v9,v10,v15,v16,v17,v18,v21,v22,v65,v66,v67,v111,v112,v113] h
def P5_23 (s:Bool) (K:KF) (v4 v5 v6 v9 v10 v15 v16 v17 v18 v21 v22 v65 v66 v67 v111 v112 v113:Value) (h:AH):Prop:=PI (C5 s) K 23 [v4,v5,v6,v9,v10,v15,v16,v17,v18,v21,v22,v65,v66,v67,v111,v112,v113] h
def P5_24 (s:Bool) (K:KF) (v4 v5 v6 v9 v10 v15 v16 v17 v18 v21 v22 v65 v66 v67 v111 v112 v113:Value) (h:AH):Prop:=PI (C5 s) K 24 [v4,v5,v6,v9,v10,v15,v16,v17,v18,v21,v22,v65,v66,v67,v111,v112,v113] h
def P5_25 (s:Bool) (K:KF) (v4 v5 v6 v9 v10 v15 v16 v17 v18 v21 v22 v65 v66 v67 v111 v112 v113 v143 v144 v145:Value) (h:AH):Prop:=PI (C5 s) K 25 [v4,v5,v6,v9,v10,v15,v16,v17,v18,v21,v22,v65,v66,v67,v111,v112,v113,v143,v144,v145] h
def P5_26 (s:Bool) (K:KF) (v4 v5 v6 v9 v10 v15 v16 v17 v18 v21 v22 v65 v66 v67 v111 v112 v113 v143 v144 v145:Value) (h:AH):Prop:=PI (C5 s) K 26 [v4,v5,v6,v9,v10,v15,v16,v17,v18,v21,v22,v65,v66,v67,v111,v112,v113,v143,v144,v145] h
def P5_27 (s:Bool) (K:KF) (v4 v5 v6 v9 v10 v15 v16 v17 v18 v21 v22 v24 v65 v66 v67 v111 v112 v113 v143 v144 v145:Value) (h:AH):Prop:=PI (C5 s) K 27 [v4,v5,v6,v9,v10,v15,v16,v17,v18,v21,v22,v24,v65,v66,v67,v111,v112,v113,v143,v144,v145] h
def P5_28 (s:Bool) (K:KF) (v4 v5 v6 v9 v10 v15 v16 v17 v18 v21 v22 v24 v65 v66 v67 v111 v112 v113 v143 v144 v145:Value) (h:AH):Prop:=PI (C5 s) K 28 [v4,v5,v6,v9,v10,v15,v16,v17,v18,v21,v22,v24,v65,v66,v67,v111,v112,v113,v143,v144,v145] h
def P5_29 (s:Bool) (K:KF) (v4 v5 v6 v9 v10 v15 v16 v17 v18 v21 v22 v24 v65 v66 v67 v111 v112 v113 v143 v144 v145:Value) (h:AH):Prop:=PI (C5 s) K 29 [v4,v5,v6,v9,v10,v15,v16,v17,v18,v21,v22,v24,v65,v66,v67,v111,v112,v113,v143,v144,v145] h
def P5_30 (s:Bool) (K:KF) (v4 v5 v6 v9 v10 v15 v16 v17 v18 v21 v22 v24 v65 v66 v67 v111 v112 v113 v143 v144 v145:Value) (h:AH):Prop:=PI (C5 s) K 30 [v4,v5,v6,v9,v10,v15,v16,v17,v18,v21,v22,v24,v65,v66,v67,v111,v112,v113,v143,v144,v145] h
def P5_31 (s:Bool) (K:KF) (v4 v5 v6 v9 v10 v15 v16 v17 v18 v21 v22 v65 v66 v67 v111 v112 v113 v143 v144 v145:Value) (h:AH):Prop:=PI (C5 s) K 31 [v4,v5,v6,v9,v10,v15,v16,v17,v18,v21,v22,v65,v66,v67,v111,v112,v113,v143,v144,v145] h
def P5_32 (s:Bool) (K:KF) (v4 v5 v6 v9 v10 v15 v16 v17 v18 v21 v22 v65 v66 v67 v111 v112 v113:Value) (h:AH):Prop:=PI (C5 s) K 32 [v4,v5,v6,v9,v10,v15,v16,v17,v18,v21,v22,v65,v66,v67,v111,v112,v113] h
def P5_33 (s:Bool) (K:KF) (v4 v5 v6 v9 v10 v15 v16 v17 v18 v65 v66 v67 v111 v112 v113:Value) (h:AH):Prop:=PI (C5 s) K 33 [v4,v5,v6,v9,v10,v15,v16,v17,v18,v65,v66,v67,v111,v112,v113] h
def P5_34 (s:Bool) (K:KF) (v4 v5 v6 v9 v10 v15 v16 v65 v66 v67:Value) (h:AH):Prop:=PI (C5 s) K 34 [v4,v5,v6,v9,v10,v15,v16,v65,v66,v67] h
def P5_35 (s:Bool) (K:KF) (h:AH):Prop:=PI (C5 s) K 35 [] h
def P5_36 (s:Bool) (K:KF) (v4 v5 v6 v9 v10 v15 v16 v65 v66 v67:Value) (h:AH):Prop:=PI (C5 s) K 36 [v4,v5,v6,v9,v10,v15,v16,v65,v66,v67] h
def P5_37 (s:Bool) (K:KF) (v4 v5 v6 v9 v10 v11 v12 v65 v66 v67:Value) (h:AH):Prop:=PI (C5 s) K 37 [v4,v5,v6,v9,v10,v11,v12,v65,v66,v67] h
def P5_38 (s:Bool) (K:KF) (h:AH):Prop:=PI (C5 s) K 38 [] h
theorem P5_0_of (H :
 Ev s (zU 25 h (some v0)) fun x0=>
 Ev s (zU 25 x0.2 (some v1)) fun x1=>
 Ev s (zU 32 x1.2 (some v2)) fun x2=>
 EvO (α:=Value) (some (.bool false)) fun x3=>
 P5_1 s K v3 x0.1 x1.1 x2.1 x2.2):P5_0 s K v0 v1 v2 v3 h:=zB H
theorem P5_1_of (H :
 Ev s (za (zV E) (some (.func (.func 13) #[] #[])) (some []) h) fun x0=>
 EvO (zAf .not x0.1) fun x1=>
 BrK (some x1) (P5_2 s K  x0.2) (P5_3 s K v3 v4 v5 v6 x0.2)):P5_1 s K v3 v4 v5 v6 h:=zB H
theorem P5_3_of (H :
 EvO (zG E 25 h (some v4)) fun x0=>
 EvO (zG E 25 h (some v5)) fun x1=>
 Ev s (zh E 82 2 (some [(0,x0),(1,x1)]) h) fun x2=>
 Ev s (za (zV E) (some (.func (.func 14) #[] #[])) (some [x2.1]) x2.2) fun x3=>
 EvO (zAf .not x3.1) fun x4=>
 EvO (some x4) fun x5=>
 EvO (gdB x5 false (zG E 32 x3.2 (some v6))) fun x6=>
 Ev s (gdW x5 false (zh E 83 1 (some [(0,x6)]) x3.2) x3.2) fun x7=>
 Ev s (gdW x5 false (za (zV E) (some (.func (.func 19) #[] #[])) (some [x7.1]) x7.2) x7.2) fun x8=>
 EvO (gdB x5 false (zAf .not x8.1)) fun x9=>
 EvO (z9 (some x5) (some (.bool true)) (some x9)) fun x10=>
 EvO (some x10) fun x11=>
 EvO (gdB x11 false (some v3)) fun x12=>
 EvO (gdB x11 false (zN E (zj [(39,x12)]) (zy B5 [1,1,0,0] 13) x8.2)) fun x13=>
 EvO (gdB x11 false (zE E .gtr 3 x13 (.int .i64 20))) fun x14=>
 EvO (z9 (some x11) (some (.bool true)) (some x14)) fun x15=>
 EvO (some x15) fun x16=>
 EvO (gdB x16 false (zG E 25 x8.2 (some v4))) fun x17=>
 EvO (gdB x16 false (zG E 25 x8.2 (some v5))) fun x18=>
 EvO (gdB x16 false (zG E 32 x8.2 (some v6))) fun x19=>
 Ev s (gdW x16 false (za (zV E) (some (.func (.func 15) #[] #[])) (some [x17,x18,x19]) x8.2) x8.2) fun x20=>
 EvO (gdB x16 false (zE E .neq 29 x20.1 (.int .i64 0))) fun x21=>
 EvO (z9 (some x16) (some (.bool true)) (some x21)) fun x22=>
 EvO (some x22) fun x23=>
 EvO (gdB x23 false (zG E 25 x20.2 (some v4))) fun x24=>
 Ev s (gdW x23 false (za (zV E) (some (.func (.func 23) #[] #[])) (some [x24]) x20.2) x20.2) fun x25=>
 EvO (gdB x23 false (zE E .neq 29 x25.1 (.int .i64 0))) fun x26=>
 EvO (z9 (some x23) (some (.bool true)) (some x26)) fun x27=>
 EvO (some x27) fun x28=>
 EvO (gdB x28 false (zG E 25 x25.2 (some v5))) fun x29=>
 Ev s (gdW x28 false (za (zV E) (some (.func (.func 23) #[] #[])) (some [x29]) x25.2) x25.2) fun x30=>
 EvO (gdB x28 false (zE E .neq 29 x30.1 (.int .i64 0))) fun x31=>
 EvO (z9 (some x28) (some (.bool true)) (some x31)) fun x32=>
 BrK (some x32) (P5_4 s K  x30.2) (P5_5 s K v3 v4 v5 v6 x30.2)):P5_3 s K v3 v4 v5 v6 h:=zB H
theorem len5_3_13:zN E (zj [(39,.slice a n c)]) (zy B5 [1,1,0,0] 13) h=some (.int .i64 (n:Int)):=by cases a <;> kernel_rfl
theorem P5_4_of (H :
 EvO (α:=Value) (some (.bool true)) fun x0=>
 K .ret [x0] h):P5_4 s K h:=zB H
theorem P5_5_of (H :
 EvO (zG E 25 h (some v4)) fun x0=>
 EvO (zG E 25 h (some v5)) fun x2=>
 Ev s (za (zV E) (some (.func (.func 24) #[] #[])) (some [x0]) h) fun x1=>
 EvO (zG E 25 x1.2 (some v5)) fun u1_2=>veq 100 u1_2 x2=true ∧
 (Ev s (za (zV E) (some (.func (.func 24) #[] #[])) (some [x2]) x1.2) fun x3=>
 EvO (some x1.1) fun x4=>
 EvO (some x3.1) fun x5=>
 P5_6 s K v3 v4 v5 v6 x4 x5 x3.2)):P5_5 s K v3 v4 v5 v6 h:=zB H
theorem P5_6_of (H :
 Ev s (zh E 47 1 (some [(0,(.int .i64 0))]) h) fun x0=>
 EvO (α:=Value) (some (.int .i64 0)) fun x1=>
 EvO (some x0.1) fun x2=>
 P5_7 s K v3 v4 v5 v6 v9 v10 x1 x2 x0.2):P5_6 s K v3 v4 v5 v6 v9 v10 h:=zB H
theorem P5_7_of (H :
 EvO (some v3) fun x0=>
 EvO (zN E (zj [(65,x0)]) (zy B5 [1,1,1,1,1,0,0] 1) h) fun x1=>
 EvO (α:=Value) (some (.int .i64 0)) fun x2=>
 P5_8 s K v4 v5 v6 v9 v10 v11 v12 x0 x1 x2 h):P5_7 s K v3 v4 v5 v6 v9 v10 v11 v12 h:=zB H
theorem len5_7_1:zN E (zj [(65,.slice a n c)]) (zy B5 [1,1,1,1,1,0,0] 1) h=some (.int .i64 (n:Int)):=by cases a <;> kernel_rfl
theorem P5_8_of (H :
 EvO (zE E .lss 3 v67 v66) fun x0=>
 BrK (some x0) (P5_9 s K v4 v5 v6 v9 v10 v11 v12 v65 v66 v67 h) (P5_38 s K  h)):P5_8 s K v4 v5 v6 v9 v10 v11 v12 v65 v66 v67 h:=zB H
theorem P5_9_of (H :
 EvO (zH E 47 (some v65) (some v67)) fun x0=>
 EvO (zG E 3 h (some x0)) fun x1=>
 EvO (some x1) fun x2=>
 P5_10 s K v4 v5 v6 v9 v10 v11 v12 x2 v65 v66 v67 h):P5_9 s K v4 v5 v6 v9 v10 v11 v12 v65 v66 v67 h:=zB H
theorem P5_10_of (H :
 EvO (some v9) fun x0=>
 EvO (some v11) fun x1=>
 EvO (zH E 49 (some x0) (some x1)) fun x2=>
 EvO (zG E 23 h (some x2)) fun x3=>
 EvO (zN E (zj [(74,x3)]) (zy B5 [1,1,1,1,1,0,1,0,0,1,1,0,0,1,0,0] 4) h) fun x4=>
 EvO (zE E .eql 3 x4 (.int .i64 0)) fun x5=>
 BrK (some x5) (P5_11 s K  h) (P5_12 s K v4 v5 v6 v9 v10 v11 v12 v14 v65 v66 v67 h)):P5_10 s K v4 v5 v6 v9 v10 v11 v12 v14 v65 v66 v67 h:=zB H
theorem len5_10_4:zN E (zj [(74,.slice a n c)]) (zy B5 [1,1,1,1,1,0,1,0,0,1,1,0,0,1,0,0] 4) h=some (.int .i64 (n:Int)):=by cases a <;> kernel_rfl
theorem P5_11_of (H :
 EvO (α:=Value) (some (.bool true)) fun x0=>
 K .ret [x0] h):P5_11 s K h:=zB H
theorem P5_12_of (H :
 EvO (some v9) fun x0=>
 EvO (some v11) fun x1=>
 EvO (zH E 49 (some x0) (some x1)) fun x2=>
 EvO (zG E 23 h (some x2)) fun x3=>
 EvO (some v14) fun x4=>
 EvO (some v9) fun x5=>
 EvO (some v11) fun x6=>
 EvO (zH E 49 (some x5) (some x6)) fun x7=>
 EvO (zG E 23 h (some x7)) fun x8=>
 EvO (zN E (zj [(85,x8)]) (zy B5 [1,1,1,1,1,0,1,0,0,1,1,0,0,1,1,0] 9) h) fun x9=>
 EvO (zAQ E (zj [(81,x4),(86,x9)]) (zy B5 [1,1,1,1,1,0,1,0,0,1,1,0,0,1,1,0] 10)) fun x10=>
 EvO (some v9) fun x11=>
 EvO (some v11) fun x12=>
 EvO (zH E 49 (some x11) (some x12)) fun x13=>
 EvO (zG E 23 h (some x13)) fun x14=>
 EvO (zN E (zj [(91,x14)]) (zy B5 [1,1,1,1,1,0,1,0,0,1,1,0,0,1,1,0] 15) h) fun x15=>
 EvO (zE E .add 3 x10 x15) fun x16=>
 EvO (some v9) fun x17=>
 EvO (some v11) fun x18=>
 EvO (zH E 49 (some x17) (some x18)) fun x19=>
 EvO (zG E 23 h (some x19)) fun x20=>
 EvO (zN E (zj [(97,x20)]) (zy B5 [1,1,1,1,1,0,1,0,0,1,1,0,0,1,1,0] 21) h) fun x21=>
 EvO (zAQ E (zj [(93,x16),(98,x21)]) (zy B5 [1,1,1,1,1,0,1,0,0,1,1,0,0,1,1,0] 22)) fun x22=>
 EvO (zH E 23 (some x3) (some x22)) fun x23=>
 EvO (zG E 52 h (some x23)) fun x24=>
 Ev s (zU 52 h (zAC E 52)) fun x25=>
 EvO (zG E 52 x25.2 (some x23)) fun u25_24=>veq 100 u25_24 x24=true ∧
 (EvO (zN E (zj [(97,x20)]) (zy B5 [1,1,1,1,1,0,1,0,0,1,1,0,0,1,1,0] 21) x25.2) fun u25_21=>veq 100 u25_21 x21=true ∧
 (EvO (zG E 23 x25.2 (some x19)) fun u25_20=>veq 100 u25_20 x20=true ∧
 (EvO (zN E (zj [(91,x14)]) (zy B5 [1,1,1,1,1,0,1,0,0,1,1,0,0,1,1,0] 15) x25.2) fun u25_15=>veq 100 u25_15 x15=true ∧
 (EvO (zG E 23 x25.2 (some x13)) fun u25_14=>veq 100 u25_14 x14=true ∧
 (EvO (zN E (zj [(85,x8)]) (zy B5 [1,1,1,1,1,0,1,0,0,1,1,0,0,1,1,0] 9) x25.2) fun u25_9=>veq 100 u25_9 x9=true ∧
 (EvO (zG E 23 x25.2 (some x7)) fun u25_8=>veq 100 u25_8 x8=true ∧
 (EvO (zG E 23 x25.2 (some x2)) fun u25_3=>veq 100 u25_3 x3=true ∧
 (Ev s (zu E 52 x25.2 (some x25.1) (some x24)) fun x26=>
 P5_13 s K v4 v5 v6 v9 v10 v12 x25.1 v65 v66 v67 x26.2))))))))):P5_12 s K v4 v5 v6 v9 v10 v11 v12 v14 v65 v66 v67 h:=zB H
theorem len5_12_9:zN E (zj [(85,.slice a n c)]) (zy B5 [1,1,1,1,1,0,1,0,0,1,1,0,0,1,1,0] 9) h=some (.int .i64 (n:Int)):=by cases a <;> kernel_rfl
theorem len5_12_15:zN E (zj [(91,.slice a n c)]) (zy B5 [1,1,1,1,1,0,1,0,0,1,1,0,0,1,1,0] 15) h=some (.int .i64 (n:Int)):=by cases a <;> kernel_rfl
theorem len5_12_21:zN E (zj [(97,.slice a n c)]) (zy B5 [1,1,1,1,1,0,1,0,0,1,1,0,0,1,1,0] 21) h=some (.int .i64 (n:Int)):=by cases a <;> kernel_rfl
theorem P5_13_of (H :
 Ev s (zU 47 h (zAC E 47)) fun x0=>
 P5_14 s K v4 v5 v6 v9 v10 v12 v15 x0.1 v65 v66 v67 x0.2):P5_13 s K v4 v5 v6 v9 v10 v12 v15 v65 v66 v67 h:=zB H
theorem P5_14_of (H :
 EvO (zAp (.func 25) (some []) (some [v6,v15,v16])) fun x0=>
 EvO (some x0) fun x1=>
 P5_15 s K v4 v5 v6 v9 v10 v12 v15 v16 x1 v65 v66 v67 h):P5_14 s K v4 v5 v6 v9 v10 v12 v15 v16 v65 v66 v67 h:=zB H
theorem P5_15_of (H :
 EvO (zC E 25 1 (some v4)) fun x0=>
 EvO (zG E 22 h (some x0)) fun x1=>
 EvO (zC E 52 1 (some v15)) fun x2=>
 EvO (zG E 3 h (some x2)) fun x3=>
 EvO (zH E 22 (some x1) (some x3)) fun x4=>
 EvO (zC E 36 0 (some x4)) fun x5=>
 EvO (zG E 3 h (some x5)) fun x6=>
 EvO (zE E .eql 3 x6 (.int .i64 (-1))) fun x7=>
 EvO (some x7) fun x8=>
 P5_16 s K v4 v5 v6 v9 v10 v12 v15 v16 v17 x8 v65 v66 v67 h):P5_15 s K v4 v5 v6 v9 v10 v12 v15 v16 v17 v65 v66 v67 h:=zB H
theorem P5_16_of (H :
 EvO (some v12) fun x0=>
 EvO (zN E (zj [(111,x0)]) (zy B5 [1,1,1,1,1,0,1,0,0,1,1,0,0,1,1,1,1,1,1,0,0] 1) h) fun x1=>
 EvO (α:=Value) (some (.int .i64 0)) fun x2=>
 P5_17 s K v4 v5 v6 v9 v10 v15 v16 v17 v18 v65 v66 v67 x0 x1 x2 h):P5_16 s K v4 v5 v6 v9 v10 v12 v15 v16 v17 v18 v65 v66 v67 h:=zB H
theorem len5_16_1:zN E (zj [(111,.slice a n c)]) (zy B5 [1,1,1,1,1,0,1,0,0,1,1,0,0,1,1,1,1,1,1,0,0] 1) h=some (.int .i64 (n:Int)):=by cases a <;> kernel_rfl
theorem P5_17_of (H :
 EvO (zE E .lss 3 v113 v112) fun x0=>
 BrK (some x0) (P5_18 s K v4 v5 v6 v9 v10 v15 v16 v17 v18 v65 v66 v67 v111 v112 v113 h) (P5_34 s K v4 v5 v6 v9 v10 v15 v16 v65 v66 v67 h)):P5_17 s K v4 v5 v6 v9 v10 v15 v16 v17 v18 v65 v66 v67 v111 v112 v113 h:=zB H
theorem P5_18_of (H :
 EvO (zH E 47 (some v111) (some v113)) fun x0=>
 EvO (zG E 3 h (some x0)) fun x1=>
 EvO (some x1) fun x2=>
 P5_19 s K v4 v5 v6 v9 v10 v15 v16 v17 v18 x2 v65 v66 v67 v111 v112 v113 h):P5_18 s K v4 v5 v6 v9 v10 v15 v16 v17 v18 v65 v66 v67 v111 v112 v113 h:=zB H
theorem P5_19_of (H :
 EvO (some v20) fun x0=>
 Ev s (zh E 47 1 (some [(0,x0)]) h) fun x1=>
 EvO (some x1.1) fun x2=>
 P5_20 s K v4 v5 v6 v9 v10 v15 v16 v17 v18 x2 v65 v66 v67 v111 v112 v113 x1.2):P5_19 s K v4 v5 v6 v9 v10 v15 v16 v17 v18 v20 v65 v66 v67 v111 v112 v113 h:=zB H
theorem P5_20_of (H :
 EvO (α:=Value) (some (.int .i64 0)) fun x0=>
 P5_21 s K v4 v5 v6 v9 v10 v15 v16 v17 v18 v21 x0 v65 v66 v67 v111 v112 v113 h):P5_20 s K v4 v5 v6 v9 v10 v15 v16 v17 v18 v21 v65 v66 v67 v111 v112 v113 h:=zB H
theorem P5_21_of (H :
 EvO (some v22) fun x0=>
 EvO (some v21) fun x1=>
 EvO (zN E (zj [(120,x1)]) (zy B5 [1,1,1,1,1,0,1,0,0,1,1,0,0,1,1,1,1,1,1,0,1,0,0,1,1,0,0,1,1,1,0,0,0,0] 2) h) fun x2=>
 EvO (zE E .lss 3 x0 x2) fun x3=>
 BrK (some x3) (P5_22 s K v4 v5 v6 v9 v10 v15 v16 v17 v18 v21 v22 v65 v66 v67 v111 v112 v113 h) (P5_33 s K v4 v5 v6 v9 v10 v15 v16 v17 v18 v65 v66 v67 v111 v112 v113 h)):P5_21 s K v4 v5 v6 v9 v10 v15 v16 v17 v18 v21 v22 v65 v66 v67 v111 v112 v113 h:=zB H
theorem len5_21_2:zN E (zj [(120,.slice a n c)]) (zy B5 [1,1,1,1,1,0,1,0,0,1,1,0,0,1,1,1,1,1,1,0,1,0,0,1,1,0,0,1,1,1,0,0,0,0] 2) h=some (.int .i64 (n:Int)):=by cases a <;> kernel_rfl
theorem P5_22_of (H :
 EvO (some v18) fun x0=>
 EvO (some x0) fun x1=>
 EvO (gdB x1 true (zC E 32 0 (some v6))) fun x2=>
 EvO (gdB x1 true (zG E 3 h (some x2))) fun x3=>
 EvO (gdB x1 true (zE E .eql 3 x3 (.int .i64 2))) fun x4=>
 EvO (z9 (some x1) (some x4) (some (.bool false))) fun x5=>
 BrK (some x5) (P5_23 s K v4 v5 v6 v9 v10 v15 v16 v17 v18 v21 v22 v65 v66 v67 v111 v112 v113 h) (P5_24 s K v4 v5 v6 v9 v10 v15 v16 v17 v18 v21 v22 v65 v66 v67 v111 v112 v113 h)):P5_22 s K v4 v5 v6 v9 v10 v15 v16 v17 v18 v21 v22 v65 v66 v67 v111 v112 v113 h:=zB H
theorem P5_23_of (H :
 EvO (some v17) fun x0=>
 EvO (some v21) fun x1=>
 EvO (some v22) fun x2=>
 EvO (zH E 47 (some x1) (some x2)) fun x3=>
 EvO (zG E 3 h (some x3)) fun x4=>
 Ev s (za (zV E) (some x0) (some [x4]) h) fun x5=>
 P5_24 s K v4 v5 v6 v9 v10 v15 v16 v17 v18 v21 v22 v65 v66 v67 v111 v112 v113 x5.2):P5_23 s K v4 v5 v6 v9 v10 v15 v16 v17 v18 v21 v22 v65 v66 v67 v111 v112 v113 h:=zB H
theorem P5_24_of (H :
 EvO (some v10) fun x0=>
 EvO (some v21) fun x1=>
 EvO (some v22) fun x2=>
 EvO (zH E 47 (some x1) (some x2)) fun x3=>
 EvO (zG E 3 h (some x3)) fun x4=>
 EvO (zH E 49 (some x0) (some x4)) fun x5=>
 EvO (zG E 23 h (some x5)) fun x6=>
 EvO (zN E (zj [(143,x6)]) (zy B5 [1,1,1,1,1,0,1,0,0,1,1,0,0,1,1,1,1,1,1,0,1,0,0,1,1,0,0,1,1,1,0,0,1,0,0,1,0] 7) h) fun x7=>
 EvO (α:=Value) (some (.int .i64 0)) fun x8=>
 P5_25 s K v4 v5 v6 v9 v10 v15 v16 v17 v18 v21 v22 v65 v66 v67 v111 v112 v113 x6 x7 x8 h):P5_24 s K v4 v5 v6 v9 v10 v15 v16 v17 v18 v21 v22 v65 v66 v67 v111 v112 v113 h:=zB H
theorem len5_24_7:zN E (zj [(143,.slice a n c)]) (zy B5 [1,1,1,1,1,0,1,0,0,1,1,0,0,1,1,1,1,1,1,0,1,0,0,1,1,0,0,1,1,1,0,0,1,0,0,1,0] 7) h=some (.int .i64 (n:Int)):=by cases a <;> kernel_rfl
theorem P5_25_of (H :
 EvO (zE E .lss 3 v145 v144) fun x0=>
 BrK (some x0) (P5_26 s K v4 v5 v6 v9 v10 v15 v16 v17 v18 v21 v22 v65 v66 v67 v111 v112 v113 v143 v144 v145 h) (P5_32 s K v4 v5 v6 v9 v10 v15 v16 v17 v18 v21 v22 v65 v66 v67 v111 v112 v113 h)):P5_25 s K v4 v5 v6 v9 v10 v15 v16 v17 v18 v21 v22 v65 v66 v67 v111 v112 v113 v143 v144 v145 h:=zB H
theorem P5_26_of (H :
 EvO (zH E 23 (some v143) (some v145)) fun x0=>
 EvO (zG E 52 h (some x0)) fun x1=>
 Ev s (zU 52 h (zAC E 52)) fun x2=>
 Ev s (zu E 52 x2.2 (some x2.1) (some x1)) fun x3=>
 P5_27 s K v4 v5 v6 v9 v10 v15 v16 v17 v18 v21 v22 x2.1 v65 v66 v67 v111 v112 v113 v143 v144 v145 x3.2):P5_26 s K v4 v5 v6 v9 v10 v15 v16 v17 v18 v21 v22 v65 v66 v67 v111 v112 v113 v143 v144 v145 h:=zB H
theorem P5_27_of (H :
 EvO (zC E 25 1 (some v5)) fun x0=>
 EvO (zG E 22 h (some x0)) fun x1=>
 EvO (zC E 52 1 (some v24)) fun x2=>
 EvO (zG E 3 h (some x2)) fun x3=>
 EvO (zH E 22 (some x1) (some x3)) fun x4=>
 EvO (zG E 36 h (some x4)) fun x5=>
 EvO (zC E 25 1 (some v4)) fun x6=>
 EvO (zG E 22 h (some x6)) fun x7=>
 EvO (zC E 52 1 (some v15)) fun x8=>
 EvO (zG E 3 h (some x8)) fun x9=>
 EvO (zH E 22 (some x7) (some x9)) fun x10=>
 EvO (zG E 36 h (some x10)) fun x11=>
 Ev s (za (zV E) (some (.func (.func 28) #[] #[])) (some [x5,x11]) h) fun x12=>
 BrK (some x12.1) (P5_28 s K v4 v5 v6 v9 v10 v15 v16 v17 v18 v21 v22 v24 v65 v66 v67 v111 v112 v113 v143 v144 v145 x12.2) (P5_29 s K v4 v5 v6 v9 v10 v15 v16 v17 v18 v21 v22 v24 v65 v66 v67 v111 v112 v113 v143 v144 v145 x12.2)):P5_27 s K v4 v5 v6 v9 v10 v15 v16 v17 v18 v21 v22 v24 v65 v66 v67 v111 v112 v113 v143 v144 v145 h:=zB H
theorem P5_28_of (H :
 EvO (some v17) fun x0=>
 EvO (zC E 52 2 (some v24)) fun x1=>
 EvO (zG E 3 h (some x1)) fun x2=>
 Ev s (za (zV E) (some x0) (some [x2]) h) fun x3=>
 P5_29 s K v4 v5 v6 v9 v10 v15 v16 v17 v18 v21 v22 v24 v65 v66 v67 v111 v112 v113 v143 v144 v145 x3.2):P5_28 s K v4 v5 v6 v9 v10 v15 v16 v17 v18 v21 v22 v24 v65 v66 v67 v111 v112 v113 v143 v144 v145 h:=zB H
theorem P5_29_of (H :
 EvO (zC E 32 0 (some v6)) fun x0=>
 EvO (zG E 3 h (some x0)) fun x1=>
 EvO (zE E .eql 3 x1 (.int .i64 2)) fun x2=>
 EvO (some x2) fun x3=>
 EvO (gdB x3 true (zC E 25 1 (some v5))) fun x4=>
 EvO (gdB x3 true (zG E 22 h (some x4))) fun x5=>
 EvO (gdB x3 true (zC E 52 1 (some v24))) fun x6=>
 EvO (gdB x3 true (zG E 3 h (some x6))) fun x7=>
 EvO (gdB x3 true (zH E 22 (some x5) (some x7))) fun x8=>
 EvO (gdB x3 true (zC E 36 0 (some x8))) fun x9=>
 EvO (gdB x3 true (zG E 3 h (some x9))) fun x10=>
 EvO (gdB x3 true (zE E .eql 3 x10 (.int .i64 (-1)))) fun x11=>
 EvO (z9 (some x3) (some x11) (some (.bool false))) fun x12=>
 EvO (some x12) fun x13=>
 EvO (gdB x13 true (some v21)) fun x14=>
 EvO (gdB x13 true (zC E 52 2 (some v24))) fun x15=>
 EvO (gdB x13 true (zG E 3 h (some x15))) fun x16=>
 Ev s (gdW x13 true (za (zV E) (some (.func (.func 27) #[] #[])) (some [x14,x16]) h) h) fun x17=>
 EvO (gdB x13 true (zAf .not x17.1)) fun x18=>
 EvO (z9 (some x13) (some x18) (some (.bool false))) fun x19=>
 BrK (some x19) (P5_30 s K v4 v5 v6 v9 v10 v15 v16 v17 v18 v21 v22 v24 v65 v66 v67 v111 v112 v113 v143 v144 v145 x17.2) (P5_31 s K v4 v5 v6 v9 v10 v15 v16 v17 v18 v21 v22 v65 v66 v67 v111 v112 v113 v143 v144 v145 x17.2)):P5_29 s K v4 v5 v6 v9 v10 v15 v16 v17 v18 v21 v22 v24 v65 v66 v67 v111 v112 v113 v143 v144 v145 h:=zB H
theorem P5_30_of (H :
 EvO (some v21) fun x0=>
 EvO (zC E 52 2 (some v24)) fun x1=>
 EvO (zG E 3 h (some x1)) fun x2=>
 Ev s (zh E 47 1 (some [(0,x2)]) h) fun x3=>
 Ev s (zAO E .append [47,47] (some [x0,x3.1]) x3.2) fun x4=>
 EvO (some x4.1) fun x5=>
 P5_31 s K v4 v5 v6 v9 v10 v15 v16 v17 v18 x5 v22 v65 v66 v67 v111 v112 v113 v143 v144 v145 x4.2):P5_30 s K v4 v5 v6 v9 v10 v15 v16 v17 v18 v21 v22 v24 v65 v66 v67 v111 v112 v113 v143 v144 v145 h:=zB H
theorem P5_31_of (H :
 EvO (zE E .add 3 v145 (.int .i64 1)) fun x0=>
 EvO (some x0) fun x1=>
 P5_25 s K v4 v5 v6 v9 v10 v15 v16 v17 v18 v21 v22 v65 v66 v67 v111 v112 v113 v143 v144 x1 h):P5_31 s K v4 v5 v6 v9 v10 v15 v16 v17 v18 v21 v22 v65 v66 v67 v111 v112 v113 v143 v144 v145 h:=zB H
theorem P5_32_of (H :
 EvO (some v22) fun x0=>
 EvO (zE E .add 3 x0 (.int .i64 1)) fun x1=>
 EvO (some x1) fun x2=>
 P5_21 s K v4 v5 v6 v9 v10 v15 v16 v17 v18 v21 x2 v65 v66 v67 v111 v112 v113 h):P5_32 s K v4 v5 v6 v9 v10 v15 v16 v17 v18 v21 v22 v65 v66 v67 v111 v112 v113 h:=zB H
theorem P5_33_of (H :
 EvO (zE E .add 3 v113 (.int .i64 1)) fun x0=>
 EvO (some x0) fun x1=>
 P5_17 s K v4 v5 v6 v9 v10 v15 v16 v17 v18 v65 v66 v67 v111 v112 x1 h):P5_33 s K v4 v5 v6 v9 v10 v15 v16 v17 v18 v65 v66 v67 v111 v112 v113 h:=zB H
theorem P5_34_of (H :
 EvO (zG E 47 h (some v16)) fun x0=>
 EvO (zN E (zj [(193,x0)]) (zy B5 [1,1,1,1,1,0,1,0,0,1,1,0,0,1,1,1,1,1,1,1,0,0] 1) h) fun x1=>
 EvO (zE E .eql 3 x1 (.int .i64 0)) fun x2=>
 BrK (some x2) (P5_35 s K  h) (P5_36 s K v4 v5 v6 v9 v10 v15 v16 v65 v66 v67 h)):P5_34 s K v4 v5 v6 v9 v10 v15 v16 v65 v66 v67 h:=zB H
theorem len5_34_1:zN E (zj [(193,.slice a n c)]) (zy B5 [1,1,1,1,1,0,1,0,0,1,1,0,0,1,1,1,1,1,1,1,0,0] 1) h=some (.int .i64 (n:Int)):=by cases a <;> kernel_rfl
theorem P5_36_of (H :
 EvO (zC E 52 2 (some v15)) fun x0=>
 EvO (zG E 3 h (some x0)) fun x1=>
 EvO (zG E 47 h (some v16)) fun x2=>
 EvO (some x1) fun x3=>
 EvO (some x2) fun x4=>
 P5_37 s K v4 v5 v6 v9 v10 x3 x4 v65 v66 v67 h):P5_36 s K v4 v5 v6 v9 v10 v15 v16 v65 v66 v67 h:=zB H
theorem P5_37_of (H :
 EvO (zE E .add 3 v67 (.int .i64 1)) fun x0=>
 EvO (some x0) fun x1=>
 P5_8 s K v4 v5 v6 v9 v10 v11 v12 v65 v66 x1 h):P5_37 s K v4 v5 v6 v9 v10 v11 v12 v65 v66 v67 h:=zB H
theorem P5_38_of (H :
 EvO (α:=Value) (some (.bool true)) fun x0=>
 K .ret [x0] h):P5_38 s K h:=zB H
theorem F5_ev {s:Bool} {v0 v1 v2 v3:Value} {h:AH} {Rp:Value->AH->Prop} (H:P5_0 s (KR E [.tmp 8] Rp) v0 v1 v2 v3 h) :
 Ev s (R.andThen (evC E (zV E) none (zT Tryz.f5) ⟨⟨Tryz.f5.ntmps,zw [v0,v1,v2,v3] 0 .e⟩,h,[]⟩) (zc E Tryz.f5)) fun x=>Rp x.1 x.2:=
 zf (C:=C5 s) rfl rfl ⟨rfl,rfl,by kernel_rfl,rfl⟩ (by kernel_rfl) (by kernel_rfl) ((by kernel_rfl:z5 (C5 s) (KR E Tryz.f5.results.toList Rp) 30 (rs B5 60 (.at [])) (zj (zAw 0 [v0,v1,v2,v3])) h=(P5_0 s (KR E [.tmp 8] Rp) v0 v1 v2 v3 h)).mpr H)
theorem F5_get:E.tab.fn.get 5=some Tryz.f5:=by kernel_rfl
theorem F5_body:Tryz.f5.body=some B5:=by kernel_rfl
theorem F5_sum (l:List Value) (h:AH):E.sum 5 l h=none:=by kernel_rfl
theorem F5_flat {s:Bool} {v0 v1 v2 v3:Value} {h:AH} {v:Value} (hok:h.ok) (hv:zm v=true) (H:P5_0 s (KR E [.tmp 8] (fun x k=>x=v/\h.next<=k.wm)) v0 v1 v2 v3 h.fresh):(zV E).call 5 [v0,v1,v2,v3] h=some [(v,h)]:=
 zk (s:=s) hok F5_get F5_body (F5_sum _ _) (by kernel_rfl) hv (F5_ev (Rp:=fun x k=>x=v/\h.next<=k.wm) H)
noncomputable def B25:Code:=zT Tryz.f25
noncomputable def C25 (s:Bool):Cx:=⟨E,s,none,B25,[([0],[0,1,2,3]),([1,0],[0,3])],[],[]⟩
def P25_0 (s:Bool) (K:KF) (v0 v1 v2 v3:Value) (h:AH):Prop:=PI (C25 s) K 0 [v0,v1,v2,v3] h
def P25_1 (s:Bool) (K:KF) (v0 v3:Value) (h:AH):Prop:=PI (C25 s) K 1 [v0,v3] h
theorem P25_0_of (H :
 EvO (zC E 32 1 (some v1)) fun x0=>
 EvO (zG E 26 h (some x0)) fun x1=>
 EvO (zC E 52 2 (some v2)) fun x2=>
 EvO (zG E 3 h (some x2)) fun x3=>
 EvO (some v0) fun x4=>
 EvO (zAu E 54 (some [(0,x3),(1,x4)])) fun x5=>
 Ev s (za (zV E) (some (.func (.func 26) #[] #[])) (some [x1,x5]) h) fun x6=>
 EvO (some x6.1) fun x7=>
 EvO (gdB x7 true (zG E 47 x6.2 (some v3))) fun x8=>
 EvO (gdB x7 true (some v0)) fun x9=>
 Ev s (gdW x7 true (za (zV E) (some (.func (.func 27) #[] #[])) (some [x8,x9]) x6.2) x6.2) fun x10=>
 EvO (gdB x7 true (zAf .not x10.1)) fun x11=>
 EvO (z9 (some x7) (some x11) (some (.bool false))) fun x12=>
 BrK (some x12) (P25_1 s K v0 v3 x10.2) (K .normal [] x10.2)):P25_0 s K v0 v1 v2 v3 h:=zB H
theorem P25_1_of (H :
 EvO (zG E 47 h (some v3)) fun x0=>
 EvO (some v0) fun x1=>
 Ev s (zh E 47 1 (some [(0,x1)]) h) fun x2=>
 Ev s (zAO E .append [47,47] (some [x0,x2.1]) x2.2) fun x3=>
 Ev s (zu E 47 x3.2 (some v3) (some x3.1)) fun x4=>
 K .normal [] x4.2):P25_1 s K v0 v3 h:=zB H
theorem F25_ev {s:Bool} {v0 v1 v2 v3:Value} {h:AH} {Rp:Value->AH->Prop} (H:P25_0 s (KR E [] Rp) v0 v1 v2 v3 h) :
 Ev s (R.andThen (evC E (zV E) none (zT Tryz.f25) ⟨⟨Tryz.f25.ntmps,zw [v0,v1,v2,v3] 0 .e⟩,h,[]⟩) (zc E Tryz.f25)) fun x=>Rp x.1 x.2:=
 zf (C:=C25 s) rfl rfl ⟨rfl,rfl,by kernel_rfl,rfl⟩ (by kernel_rfl) (by kernel_rfl) ((by kernel_rfl:z5 (C25 s) (KR E Tryz.f25.results.toList Rp) 30 (rs B25 60 (.at [])) (zj (zAw 0 [v0,v1,v2,v3])) h=(P25_0 s (KR E [] Rp) v0 v1 v2 v3 h)).mpr H)
theorem F25_get:E.tab.fn.get 25=some Tryz.f25:=by kernel_rfl
theorem F25_body:Tryz.f25.body=some B25:=by kernel_rfl
theorem F25_sum (l:List Value) (h:AH):E.sum 25 l h=none:=by kernel_rfl
theorem F25_flat1 {v0 v1 v2 v3:Value} {h:AH} {v:Value} (hok:h.ok) (hv:zg v=true) (H:P25_0 true (KR E [] (fun x k=>x=v/\h.next<=k.wm)) v0 v1 v2 v3 h.fresh):(zV E).call 25 [v0,v1,v2,v3] h=some [(v,h)]:=
 zCx hok F25_get F25_body (F25_sum _ _) (by kernel_rfl) hv (F25_ev (Rp:=fun x k=>x=v/\h.next<=k.wm) H)
theorem F25_some {v0 v1 v2 v3:Value} {h:AH} {Rp:Value->AH->Prop} (H:P25_0 true (KR E [] (fun x k=>(zg x=false\/k.wm<h.next)/\Rp x ⟨k.t,k.next,cond (Nat.ble h.wm k.wm) h.wm k.wm⟩)) v0 v1 v2 v3 h.fresh):Ev true ((zV E).call 25 [v0,v1,v2,v3] h) fun x=>Rp x.1 x.2:=
 zBw F25_get F25_body (F25_sum _ _) (by kernel_rfl) (F25_ev (Rp:=fun x k=>(zg x=false\/k.wm<h.next)/\Rp x ⟨k.t,k.next,cond (Nat.ble h.wm k.wm) h.wm k.wm⟩) H)
noncomputable def B26:Code:=zT Tryz.f26
noncomputable def C26 (s:Bool):Cx:=⟨E,s,none,B26,[([0],[0,1]),([1,0],[0,3])],[4],[]⟩
def P26_0 (s:Bool) (K:KF) (v0 v1:Value) (h:AH):Prop:=PI (C26 s) K 0 [v0,v1] h
def P26_1 (s:Bool) (K:KF) (v0 v3:Value) (h:AH):Prop:=PI (C26 s) K 1 [v0,v3] h
theorem P26_0_of (H :
 Ev s (zU 54 h (some v1)) fun x0=>
 EvO (α:=Value) (some (.bool false)) fun x1=>
 P26_1 s K v0 x0.1 x0.2):P26_0 s K v0 v1 h:=zB H
theorem P26_1_of (H :
 EvO (some v0) fun x0=>
 EvO (zG E 54 h (some v3)) fun x1=>
 Ev s (za (zV E) (some (.func (.func 86) #[] #[])) (some [x0,x1]) h) fun x2=>
 EvO (zE E .geq 3 x2.1 (.int .i64 0)) fun x3=>
 EvO (some x3) fun x4=>
 K .ret [x4] x2.2):P26_1 s K v0 v3 h:=zB H
theorem F26_ev {s:Bool} {v0 v1:Value} {h:AH} {Rp:Value->AH->Prop} (H:P26_0 s (KR E [.tmp 4] Rp) v0 v1 h) :
 Ev s (R.andThen (evC E (zV E) none (zT Tryz.f26) ⟨⟨Tryz.f26.ntmps,zw [v0,v1] 0 .e⟩,h,[]⟩) (zc E Tryz.f26)) fun x=>Rp x.1 x.2:=
 zf (C:=C26 s) rfl rfl ⟨rfl,rfl,by kernel_rfl,rfl⟩ (by kernel_rfl) (by kernel_rfl) ((by kernel_rfl:z5 (C26 s) (KR E Tryz.f26.results.toList Rp) 30 (rs B26 60 (.at [])) (zj (zAw 0 [v0,v1])) h=(P26_0 s (KR E [.tmp 4] Rp) v0 v1 h)).mpr H)
theorem F26_get:E.tab.fn.get 26=some Tryz.f26:=by kernel_rfl
theorem F26_body:Tryz.f26.body=some B26:=by kernel_rfl
theorem F26_sum (l:List Value) (h:AH):E.sum 26 l h=none:=by kernel_rfl
theorem F26_flat {s:Bool} {v0 v1:Value} {h:AH} {v:Value} (hok:h.ok) (hv:zm v=true) (H:P26_0 s (KR E [.tmp 4] (fun x k=>x=v/\h.next<=k.wm)) v0 v1 h.fresh):(zV E).call 26 [v0,v1] h=some [(v,h)]:=
 zk (s:=s) hok F26_get F26_body (F26_sum _ _) (by kernel_rfl) hv (F26_ev (Rp:=fun x k=>x=v/\h.next<=k.wm) H)
noncomputable def B86:Code:=zT Tryz.f86
noncomputable def C86 (s:Bool):Cx:=⟨E,s,none,B86,[([0],[0,1]),([1,0,0],[0,3]),([1,0,1,0,0,0],[0,3,7,8]),([1,0,1,0,0,1,1,0,0,0],[0,3,7,8]),([1,0,1,0,0,1,1,0,0,1,0],[0,3,5,7,8]),([1,0,1,0,0,1,1,0,0,1,1,0,0],[5]),([1,0,1,0,0,1,1,1],[0,3,7,8]),([1,1,0],[])],[4],[]⟩
def P86_0 (s:Bool) (K:KF) (v0 v1:Value) (h:AH):Prop:=PI (C86 s) K 0 [v0,v1] h
def P86_1 (s:Bool) (K:KF) (v0 v3:Value) (h:AH):Prop:=PI (C86 s) K 1 [v0,v3] h
def P86_2 (s:Bool) (K:KF) (v0 v3 v7 v8:Value) (h:AH):Prop:=PI (C86 s) K 2 [v0,v3,v7,v8] h
def P86_3 (s:Bool) (K:KF) (v0 v3 v7 v8:Value) (h:AH):Prop:=PI (C86 s) K 3 [v0,v3,v7,v8] h
def P86_4 (s:Bool) (K:KF) (v0 v3 v5 v7 v8:Value) (h:AH):Prop:=PI (C86 s) K 4 [v0,v3,v5,v7,v8] h
def P86_5 (s:Bool) (K:KF) (v5:Value) (h:AH):Prop:=PI (C86 s) K 5 [v5] h
def P86_6 (s:Bool) (K:KF) (v0 v3 v7 v8:Value) (h:AH):Prop:=PI (C86 s) K 6 [v0,v3,v7,v8] h
def P86_7 (s:Bool) (K:KF) (h:AH):Prop:=PI (C86 s) K 7 [] h
theorem P86_0_of (H :
 Ev s (zU 54 h (some v1)) fun x0=>
 EvO (α:=Value) (some (.int .i64 0)) fun x1=>
 P86_1 s K v0 x0.1 x0.2):P86_0 s K v0 v1 h:=zB H
theorem P86_1_of (H :
 EvO (some v0) fun x0=>
 EvO (zN E (zj [(6,x0)]) (zy B86 [1,0,0] 1) h) fun x1=>
 EvO (α:=Value) (some (.int .i64 0)) fun x2=>
 P86_2 s K v0 v3 x1 x2 h):P86_1 s K v0 v3 h:=zB H
theorem len86_1_1:zN E (zj [(6,.slice a n c)]) (zy B86 [1,0,0] 1) h=some (.int .i64 (n:Int)):=by cases a <;> kernel_rfl
theorem P86_2_of (H :
 EvO (zE E .lss 3 v8 v7) fun x0=>
 BrK (some x0) (P86_3 s K v0 v3 v7 v8 h) (P86_7 s K  h)):P86_2 s K v0 v3 v7 v8 h:=zB H
theorem P86_3_of (H :
 EvO (some v8) fun x0=>
 EvO (some x0) fun x1=>
 P86_4 s K v0 v3 x1 v7 v8 h):P86_3 s K v0 v3 v7 v8 h:=zB H
theorem P86_4_of (H :
 EvO (zG E 54 h (some v3)) fun x0=>
 EvO (some v0) fun x1=>
 EvO (some v5) fun x2=>
 EvO (zH E 26 (some x1) (some x2)) fun x3=>
 EvO (zG E 54 h (some x3)) fun x4=>
 EvO (zE E .eql 54 x0 x4) fun x5=>
 BrK (some x5) (P86_5 s K v5 h) (P86_6 s K v0 v3 v7 v8 h)):P86_4 s K v0 v3 v5 v7 v8 h:=zB H
theorem P86_5_of (H :
 EvO (some v5) fun x0=>
 EvO (some x0) fun x1=>
 K .ret [x1] h):P86_5 s K v5 h:=zB H
theorem P86_6_of (H :
 EvO (zE E .add 3 v8 (.int .i64 1)) fun x0=>
 EvO (some x0) fun x1=>
 P86_2 s K v0 v3 v7 x1 h):P86_6 s K v0 v3 v7 v8 h:=zB H
theorem P86_7_of (H :
 EvO (α:=Value) (some (.int .i64 (-1))) fun x0=>
 K .ret [x0] h):P86_7 s K h:=zB H
theorem F86_ev {s:Bool} {v0 v1:Value} {h:AH} {Rp:Value->AH->Prop} (H:P86_0 s (KR E [.tmp 4] Rp) v0 v1 h) :
 Ev s (R.andThen (evC E (zV E) none (zT Tryz.f86) ⟨⟨Tryz.f86.ntmps,zw [v0,v1] 0 .e⟩,h,[]⟩) (zc E Tryz.f86)) fun x=>Rp x.1 x.2:=
 zf (C:=C86 s) rfl rfl ⟨rfl,rfl,by kernel_rfl,rfl⟩ (by kernel_rfl) (by kernel_rfl) ((by kernel_rfl:z5 (C86 s) (KR E Tryz.f86.results.toList Rp) 30 (rs B86 60 (.at [])) (zj (zAw 0 [v0,v1])) h=(P86_0 s (KR E [.tmp 4] Rp) v0 v1 h)).mpr H)
theorem F86_get:E.tab.fn.get 86=some Tryz.f86:=by kernel_rfl
theorem F86_body:Tryz.f86.body=some B86:=by kernel_rfl
theorem F86_sum (l:List Value) (h:AH):E.sum 86 l h=none:=by kernel_rfl
theorem F86_flat {s:Bool} {v0 v1:Value} {h:AH} {v:Value} (hok:h.ok) (hv:zm v=true) (H:P86_0 s (KR E [.tmp 4] (fun x k=>x=v/\h.next<=k.wm)) v0 v1 h.fresh):(zV E).call 86 [v0,v1] h=some [(v,h)]:=
 zk (s:=s) hok F86_get F86_body (F86_sum _ _) (by kernel_rfl) hv (F86_ev (Rp:=fun x k=>x=v/\h.next<=k.wm) H)
end Go.Proofs
namespace Go.Proofs
open Go Go.AM
set_option maxRecDepth 100000
theorem nwF (k:AH) (x:AObj):∃ m,k.fresh.new x=m/\m.next=k.next+1/\m.get k.next=some x/\Own k m/\∀ b,b<k.next->m.get b=k.get b:=
 ⟨_,rfl,rfl,zF k.fresh x,(Own.fresh k).new x,fun b hb=>by rw [zI (by simp;omega)];rfl⟩
theorem nw {k l:AH} (o:Own k l) (x:AObj):∃ m,l.new x=m/\m.next=l.next+1/\m.get l.next=some x/\Own k m/\∀ b,b<l.next->m.get b=l.get b:=
 ⟨_,rfl,rfl,zF l x,o.new x,fun b hb=>zI (by omega)⟩
theorem up {k l:AH} (o:Own k l) {b:Nat} (hb:k.next<=b) (x:AObj):∃ m,l.upd b (some x)=m/\m.next=l.next/\m.get b=some x/\Own k m/\∀ c,c≠b->m.get c=l.get c:=
 ⟨_,rfl,rfl,zR _ _ _,o.upd hb _,fun c hc=>zQ hc⟩
theorem idx_agg {T et z:Nat} (hT:und E T=some (.slice et)) (hz:zAV E et=some z) (hta:tAS E et=some (true,z)) {h k:AH} {v:Value} {els:List (List Value)} (ha:Arr h z v els) (e:Ext h k) {i:Nat} {x:List Value} (hi:els[i]?=some x) :
  ∃ p,zH E T (some v) (some (.int .i64 (i:Int)))=some p/\zG E et k (some p)=some (.agg ⟨x⟩):=by
 obtain ⟨b,o,c,vs,ty,es,ro,rfl,hb,hlt,hle,hx,hl⟩:=ha.load hi
 have hil:i<els.length:=(List.getElem?_eq_some_iff.1 hi).1
 refine ⟨_,zAF hT hz hil,?_⟩
 rw [zW hta ((e.get b hlt).trans hb) hle,hx]
theorem idx34 {h k:AH} {v:Value} {els:List (List Value)} (ha:Arr h 3 v els) (e:Ext h k) {i:Nat} {x:List Value} (hi:els[i]?=some x) :
  ∃ p,zH E 34 (some v) (some (.int .i64 (i:Int)))=some p/\zG E 173 k (some p)=some (.agg ⟨x⟩):=idx_agg und_34 ts_173 zBq ha e hi
theorem idx22 {h k:AH} {v:Value} {els:List (List Value)} (ha:Arr h 2 v els) (e:Ext h k) {i:Nat} {x:List Value} (hi:els[i]?=some x) :
  ∃ p,zH E 22 (some v) (some (.int .i64 (i:Int)))=some p/\zG E 36 k (some p)=some (.agg ⟨x⟩):=idx_agg und_22 ts_36 ta_36 ha e hi
theorem idx23 {h k:AH} {v:Value} {els:List (List Value)} (ha:Arr h 3 v els) (e:Ext h k) {i:Nat} {x:List Value} (hi:els[i]?=some x) :
  ∃ p,zH E 23 (some v) (some (.int .i64 (i:Int)))=some p/\zG E 52 k (some p)=some (.agg ⟨x⟩):=idx_agg und_23 ts_52 ta_52 ha e hi
def ordI (a b:Int):Int:=if a<b then -1 else if b<a then 1 else 0
theorem call232 {k:AH} {a b:Int} (hok:k.ok):(zV E).call 232 [.int .i64 a,.int .i64 b] k=some [(.int .i64 (ordI a b),k)]:=by
 refine F232_flat (s:=true) hok rfl (P232_0_of ?_)
 simp only [zA]
 refine P232_1_of ?_
 simp only [zA,zd,zAL]
 refine ⟨fun h1=>P232_2_of ?_,fun h1=>P232_3_of ?_⟩
 ·simp [zA,zAN,zX,ordI,h1]
 simp only [zA,zAM,zAL]
 refine ⟨fun h2=>P232_4_of ?_,fun h2=>P232_5_of ?_⟩
 ·simp [zA,zAN,zX,ordI,h1,h2]
 ·simp [zA,zAN,zX,ordI,h1,h2]
mutual
def cmpR:GT->GT->Int
 | .mk k n l,.mk k' n' l'=>if ordI k k'=0 then (if ordI n n'=0 then (if ordI l.length l'.length=0 then cmpRL l l' else ordI l.length l'.length) else ordI n n') else ordI k k'
def cmpRL:List GT->List GT->Int
 | t::ts,u::us=>if cmpR t u=0 then cmpRL ts us else cmpR t u
 | [],_=>0
 | _::_,[]=>0
end
theorem ordI_self (a:Int):ordI a a=0:=by simp [ordI]
mutual
theorem cmpR_self:∀ t:GT,cmpR t t=0
 | .mk k n l=>by simp only [cmpR,ordI_self,if_true];exact cmpRL_self l
theorem cmpRL_self:∀ l:List GT,cmpRL l l=0
 | []=>rfl
 | t::ts=>by simp only [cmpRL,cmpR_self t,if_true];exact cmpRL_self ts
end
def Spec188 (h0:AH) (kk nn:Int) (v:Value) (l:List GT):Prop:=∀ (k:AH) (kk' nn':Int) (v':Value) (l':List GT),RT h0 v' l'->Ext h0 k->
 (zV E).call 188 [.agg #[.int .i64 kk,.int .i64 nn,v],.agg #[.int .i64 kk',.int .i64 nn',v']] k=some [(.int .i64 (cmpR (.mk kk nn l) (.mk kk' nn' l')),k)]
theorem ordI_len {a b:Nat} (h:ordI (a:Int) (b:Int)=0):a=b:=by
 unfold ordI at h
 split at h
 ·cases h
 ·split at h
  ·cases h
  ·omega
mutual
theorem spec188 {h0:AH}:∀ {v:Value} {l:List GT},RT h0 v l->∀ (kk nn:Int),Spec188 h0 kk nn v l
 | v,l,.mk (els:=els) ha hn hc,kk,nn=>by
  intro k kk' nn' v' l' hr' hk
  have hrt:RT h0 v l:=.mk ha hn hc
  have hch:=specs188 hc
  have hlen:=RC.length hc
  obtain ⟨sa,sc,rfl⟩:=hrt.slice
  obtain ⟨sa',sc',rfl⟩:=hr'.slice
  refine F188_flat (s:=true) hk.ok rfl (P188_0_of ?_)
  obtain ⟨k1,e1,n1,t1,o1,f1⟩:=nwF k (.row [.int .i64 kk,.int .i64 nn,.slice sa l.length sc] 173 0 false)
  obtain ⟨k2,e2,n2,t2,o2,f2⟩:=nw o1 (.row [.int .i64 kk',.int .i64 nn',.slice sa' l'.length sc'] 173 0 false)
  simp only [ze,zL,zS,zA,e1,e2,zb]
  have g1:=(f2 k.next (by omega)).trans t1
  have l0:=zD (P:=E) zAS (o:=0) g1
  have l1:=zD (P:=E) zAS (o:=1) g1
  have l2:=zD (P:=E) zC2 (o:=2) g1
  have m0:=zD (P:=E) zAS (o:=0) t2
  have m1:=zD (P:=E) zAS (o:=1) t2
  have m2:=zD (P:=E) zC2 (o:=2) t2
  simp only [lnth] at l0 l1 l2 m0 m1 m2
  have ex2:=hk.trans o2.ext
  have stop:∀ c:Int,P188_10 true (KR E [.tmp 4] fun x m=>x=.int .i64 c/\k.next<=m.wm) (.int .i64 c) k2:=by
   intro c
   refine P188_10_of ?_
   simp only [zA,zAN,zX,true_and];exact o2.wm
  have quit:∀ (c i:Int),c≠0->P188_7 true (KR E [.tmp 4] fun x m=>x=.int .i64 c/\k.next<=m.wm) (.pointer (some ⟨k.next,0,none⟩)) (.pointer (some ⟨k1.next,0,none⟩)) (.int .i64 c) (.int .i64 i) k2:=by
   intro c i hc0
   refine P188_7_of ?_
   simp only [zAW,Nat.zero_add,l2,zA,len188_7_3,zd,zM,zAU,hc0,decide_false]
   by_cases hi:i<(l.length:Int)
   ·simp only [hi,decide_true,beq_self_eq_true,cond_true,zA,zK,zM,zAU,hc0,decide_false,zAE];exact stop c
   ·simp only [hi,decide_false,show (false==true)=false from rfl,cond_false,zA,zK,zAE];exact stop c
  have loop:∀ (m i:Nat),i+m=l.length->l.length=l'.length->P188_7 true (KR E [.tmp 4] fun x m=>x=.int .i64 (cmpRL (l.drop i) (l'.drop i))/\k.next<=m.wm) (.pointer (some ⟨k.next,0,none⟩)) (.pointer (some ⟨k1.next,0,none⟩)) (.int .i64 0) (.int .i64 (i:Int)) k2:=by
   intro m
   induction m with
   | zero=>
    intro i hi hl
    have:l.drop i=[]:=List.drop_eq_nil_of_le (by omega)
    rw [this]
    refine P188_7_of ?_
    simp only [zAW,Nat.zero_add,l2,zA,len188_7_3,zd,show decide ((i:Int)<(l.length:Int))=false from decide_eq_false (by omega),zM,show (false==true)=false from rfl,cond_false,zK,zAE]
    exact stop 0
   | succ m ih=>
    intro i hi hl
    have hil:i<l.length:=by omega
    have hil':i<l'.length:=by omega
    refine P188_7_of ?_
    simp only [zAW,Nat.zero_add,l2,zA,len188_7_3,zd,show decide ((i:Int)<(l.length:Int))=true from decide_eq_true (by omega),zM,beq_self_eq_true,cond_true,zAU,decide_true,zK,zAK]
    refine P188_8_of ?_
    cases hr' with
    | @mk _ els' _ ha' hn' hc'=>
     have hlen':=RC.length hc'
     obtain ⟨x,hx⟩:∃ x,els[i]?=some x:=⟨_,List.getElem?_eq_getElem (by omega)⟩
     obtain ⟨y,hy⟩:∃ y,els'[i]?=some y:=⟨_,List.getElem?_eq_getElem (by omega)⟩
     obtain ⟨p1,q1,w1⟩:=idx34 ha ex2 hx
     obtain ⟨p2,q2,w2⟩:=idx34 ha' ex2 hy
     obtain ⟨ck,cn,cv,cl,rfl,r1,r2,r3⟩:=hch i x hx
     obtain ⟨dk,dn,dv,dl,rfl,s1,s2⟩:=RC.at hc' i y hy
     have hcall:=r3 k2 dk dn dv dl s1 ex2
     have e3:l.drop i=GT.mk ck cn cl::l.drop (i+1):=by rw [List.drop_eq_getElem_cons hil,(List.getElem?_eq_some_iff.1 r2).2]
     have e4:l'.drop i=GT.mk dk dn dl::l'.drop (i+1):=by rw [List.drop_eq_getElem_cons hil',(List.getElem?_eq_some_iff.1 s2).2]
     simp only [zAW,Nat.zero_add,l2,m2,zA,q1,w1,q2,w2,zZ,hcall,zO]
     refine P188_9_of ?_
     simp only [zA,zAJ _ (add1 hil (by omega))]
     rw [e3,e4]
     simp only [cmpRL]
     by_cases hz:cmpR (GT.mk ck cn cl) (GT.mk dk dn dl)=0
     ·rw [if_pos hz,hz];exact ih (i+1) (by omega) hl
     ·rw [if_neg hz];exact quit _ _ hz
  refine P188_1_of ?_
  simp only [fa_173_0,Nat.add_zero,l0,m0,zA,zZ,call232 o2.ext.ok,zO]
  refine P188_2_of ?_
  simp only [zA,zAU,zAL,cmpR]
  refine ⟨fun h1=>?_,fun h1=>?_⟩
  rotate_left
  ·rw [if_neg h1]
   refine P188_4_of ?_
   simp only [zA,zAU,h1,decide_false,zAE]
   refine P188_6_of ?_
   simp only [zA]
   exact quit _ _ h1
  rw [if_pos h1]
  refine P188_3_of ?_
  simp only [fa_173_1,Nat.zero_add,l1,m1,zA,zZ,call232 o2.ext.ok,zO]
  refine P188_4_of ?_
  simp only [zA,zAU,zAL]
  refine ⟨fun h2=>?_,fun h2=>?_⟩
  rotate_left
  ·rw [if_neg h2]
   refine P188_6_of ?_
   simp only [zA]
   exact quit _ _ h2
  rw [if_pos h2]
  refine P188_5_of ?_
  simp only [zAW,Nat.zero_add,l2,m2,zA,len188_5_2,len188_5_5,zZ,call232 o2.ext.ok,zO]
  refine P188_6_of ?_
  simp only [zA]
  by_cases h3:ordI (l.length:Int) (l'.length:Int)=0
  ·rw [if_pos h3,h3]
   have:=loop l.length 0 (by omega) (ordI_len h3)
   simpa using this
  ·rw [if_neg h3];exact quit _ _ h3
theorem specs188 {h0:AH}:∀ {els:List (List Value)} {ts:List GT},RC h0 els ts->∀ (i:Nat) (e:List Value),els[i]?=some e->
  ∃ (k n:Int) (v:Value) (l:List GT),e=[.int .i64 k,.int .i64 n,v]/\RT h0 v l/\ts[i]?=some (.mk k n l)/\Spec188 h0 k n v l
 | _,_,.nil,i,e,h=>by simp at h
 | _,_,.cons hv hs,0,e,h=>by simp at h;exact ⟨_,_,_,_,h.symm,hv,rfl,spec188 hv _ _⟩
 | _,_,.cons hv hs,i+1,e,h=>by
  simp only [List.getElem?_cons_succ] at h
  obtain ⟨k,n,v,l,a,b,c,d⟩:=specs188 hs i e h
  exact ⟨k,n,v,l,a,b,by simpa using c,d⟩
end
def CmpOut (b:Prop) (x:Value):Prop:=∃ c:Int,x=.int .i64 c/\(b->c=0)
theorem spec188' {h0 k:AH} {e e':List Value} {els els':List (List Value)} {ts ts':List GT} (hc:RC h0 els ts) (hc':RC h0 els' ts') {i:Nat} (he:els[i]?=some e) (he':els'[i]?=some e') (hk:Ext h0 k) :
  ∃ t u,ts[i]?=some t/\ts'[i]?=some u/\(zV E).call 188 [.agg ⟨e⟩,.agg ⟨e'⟩] k=some [(.int .i64 (cmpR t u),k)]:=by
 obtain ⟨ck,cn,cv,cl,rfl,r1,r2,r3⟩:=specs188 hc i e he
 obtain ⟨dk,dn,dv,dl,rfl,s1,s2⟩:=RC.at hc' i e' he'
 exact ⟨_,_,r2,s2,r3 k dk dn dv dl s1 hk⟩
theorem c3_self (a:Int):c3 a a=0:=by simp [c3]
theorem call140 {h0 k:AH} {v v':Value} {l l':List GT} (hr:RT h0 v l) (hr':RT h0 v' l') (hk:Ext h0 k):∃ x,CmpOut (l=l') x/\(zV E).call 140 [v,v'] k=some [(x,k)]:=by
 have hs:=hr.slice
 have hs':=hr'.slice
 cases hr with
 | @mk _ els _ ha hn hc=>
 cases hr' with
 | @mk _ els' _ ha' hn' hc'=>
 have hlen:=RC.length hc
 have hlen':=RC.length hc'
 obtain ⟨sa,sc,rfl⟩:=hs
 obtain ⟨sa',sc',rfl⟩:=hs'
 refine F140_flatE hk.ok (P140_0_of ?_)
 simp only [zA]
 refine P140_1_of ?_
 simp only [zA]
 have hkf:=hk.fresh
 have fin:P140_7 true (KR E [.tmp 2] fun x m=>(zg x=true/\CmpOut (l=l') x)/\k.next<=m.wm) (.slice sa l.length sc) (.slice sa' l'.length sc') k.fresh:=by
  refine P140_7_of ?_
  simp only [zA,len140_7_1,len140_7_3,zZ,call94 hkf.ok,zO,zAN,zX,true_and]
  exact ⟨⟨rfl,_,rfl,fun h=>by rw [h];exact c3_self _⟩,by rw [zAx];omega⟩
 have loop:∀ (m i:Nat),i+m=l.length->P140_2 true (KR E [.tmp 2] fun x m=>(zg x=true/\CmpOut (l=l') x)/\k.next<=m.wm) (.slice sa l.length sc) (.slice sa' l'.length sc') (.int .i64 (i:Int)) k.fresh:=by
  intro m
  induction m with
  | zero=>
   intro i hi
   refine P140_2_of ?_
   simp only [zA,len140_2_2,zd,show decide ((i:Int)<(l.length:Int))=false from decide_eq_false (by omega),zM,show (false==true)=false from rfl,cond_false,zK,zAE]
   exact fin
  | succ m ih=>
   intro i hi
   refine P140_2_of ?_
   simp only [zA,len140_2_2,zd,show decide ((i:Int)<(l.length:Int))=true from decide_eq_true (by omega),zM,beq_self_eq_true,cond_true,len140_2_7,zK,zAL]
   refine ⟨fun hi'=>P140_3_of ?_,fun _=>fin⟩
   have hi':i<l'.length:=by omega
   obtain ⟨x,hx⟩:∃ x,els[i]?=some x:=⟨_,List.getElem?_eq_getElem (by omega)⟩
   obtain ⟨y,hy⟩:∃ y,els'[i]?=some y:=⟨_,List.getElem?_eq_getElem (by omega)⟩
   obtain ⟨p1,q1,w1⟩:=idx34 ha hkf hx
   obtain ⟨p2,q2,w2⟩:=idx34 ha' hkf hy
   obtain ⟨t,u,ht,hu,hcall⟩:=spec188' hc hc' hx hy hkf
   simp only [zA,q1,w1,q2,w2,zZ,hcall,zO]
   refine P140_4_of ?_
   simp only [zA,zBY,brK_n]
   refine ⟨fun hne=>P140_5_of ?_,fun he=>P140_6_of ?_⟩
   ·simp only [zA,zAN,zX,true_and]
    refine ⟨⟨rfl,_,rfl,fun h=>?_⟩,by rw [zAx];omega⟩
    rw [h] at ht
    rw [ht] at hu
    cases hu
    exact absurd (cmpR_self t) hne
   ·simp only [zA,zAJ _ (add1 (show i<l.length by omega) (by omega))]
    exact ih (i+1) (by omega)
 have:=loop l.length 0 (by omega)
 exact this
theorem call88 {h0 k:AH} {g g':Int} {v v':Value} {l l':List GT} (hr:RT h0 v l) (hr':RT h0 v' l') (hk:Ext h0 k) :
  ∃ x,CmpOut ((g,l)=(g',l')) x/\(zV E).call 88 [.agg ⟨[.int .i64 g,v]⟩,.agg ⟨[.int .i64 g',v']⟩] k=some [(x,k)]:=by
 refine F88_flatE hk.ok (P88_0_of ?_)
 obtain ⟨k1,e1,n1,t1,o1,f1⟩:=nwF k (.row [.int .i64 g,v] 36 0 false)
 obtain ⟨k2,e2,n2,t2,o2,f2⟩:=nw o1 (.row [.int .i64 g',v'] 36 0 false)
 simp only [ze,zL,zS,zA,e1,e2,zb]
 have g1:=(f2 k.next (by omega)).trans t1
 have l0:=zD (P:=E) zAS (o:=0) g1
 have l1:=zD (P:=E) zC2 (o:=1) g1
 have m0:=zD (P:=E) zAS (o:=0) t2
 have m1:=zD (P:=E) zC2 (o:=1) t2
 simp only [lnth] at l0 l1 m0 m1
 have ex2:=hk.trans o2.ext
 refine P88_1_of ?_
 simp only [zA7,Nat.add_zero,l0,m0,zA,zZ,call94 ex2.ok,zO]
 refine P88_2_of ?_
 simp only [zA,zBY,brK_n]
 refine ⟨fun hne=>P88_3_of ?_,fun he=>P88_4_of ?_⟩
 ·simp only [zA,zAN,zX,true_and]
  refine ⟨⟨rfl,_,rfl,fun h=>?_⟩,o2.wm⟩
  simp only [Prod.mk.injEq] at h
  rw [h.1] at hne
  exact absurd (c3_self g') hne
 ·obtain ⟨x,⟨c,rfl,hx⟩,hcall⟩:=call140 hr hr' ex2
  simp only [zBh,Nat.zero_add,l1,m1,zA,zZ,hcall,zO,zAN,zX,true_and]
  exact ⟨⟨rfl,_,rfl,fun h=>hx (Prod.mk.inj h).2⟩,o2.wm⟩
theorem call28 {h0 k:AH} {g g':Int} {v v':Value} {l l':List GT} (hr:RT h0 v l) (hr':RT h0 v' l') (hk:Ext h0 k) :
  ∃ b:Bool,((g,l)=(g',l')->b=true)/\(zV E).call 28 [.agg ⟨[.int .i64 g,v]⟩,.agg ⟨[.int .i64 g',v']⟩] k=some [(.bool b,k)]:=by
 obtain ⟨x,⟨b,rfl,hb⟩,hx⟩:=F28_flatE (h:=k) (v0:=.agg ⟨[.int .i64 g,v]⟩) (v1:=.agg ⟨[.int .i64 g',v']⟩) (Rp:=fun x=>∃ b:Bool,x=.bool b/\((g,l)=(g',l')->b=true)) hk.ok (P28_0_of (by
  obtain ⟨k1,e1,n1,t1,o1,f1⟩:=nwF k (.row [.int .i64 g,v] 36 0 false)
  obtain ⟨k2,e2,n2,t2,o2,f2⟩:=nw o1 (.row [.int .i64 g',v'] 36 0 false)
  simp only [ze,zL,zS,zA,e1,e2,zb]
  refine P28_1_of ?_
  have g1:=(f2 k.next (by omega)).trans t1
  have a1:=zW (P:=E) ta_36 (o:=0) g1 (by simp)
  have a2:=zW (P:=E) ta_36 (o:=0) t2 (by simp)
  simp only [List.drop_zero,List.take] at a1 a2
  have ex2:=hk.trans o2.ext
  obtain ⟨x,⟨c,rfl,hx⟩,hcall⟩:=call88 (g:=g) (g':=g') hr hr' ex2
  simp only [a1,a2,zA,zZ,hcall,zO,zAU,zAN,zX,true_and]
  exact ⟨⟨rfl,_,rfl,fun h=>by rw [hx h];rfl⟩,o2.wm⟩))
 exact ⟨b,hb,hx⟩
end Go.Proofs
