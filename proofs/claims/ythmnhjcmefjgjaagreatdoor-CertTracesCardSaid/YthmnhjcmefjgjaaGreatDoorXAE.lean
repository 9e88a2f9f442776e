import Derived.Test.YthmnhjcmefjgjaaGreatDoorXAD
set_option linter.all false
set_option linter.unusedSectionVars false
set_option autoImplicit true
set_option relaxedAutoImplicit true
namespace Go.Proofs
open Go Go.AM
set_option maxRecDepth 100000
variable {s:Bool} {K:KF} {h:AH} {a:Option Addr} {n c:Nat} {b d e f g i j k l m o p q r t u w x y z A B C D F G J L M N O Q S U V W X Y Z v v0 v1 v2 v3 v4 v5 v6 v7 v8 v9 v10 v11 v12 v13 v14 v16 v17 v18 v19 v22 v23 v24 v25 v26 v27 v29 v30 v31 v32 v34 v35 v36 v50 v51 v52 v56 v57 v58 v64 v65 v66:Value} {h1:AH} {Rp:Value->AH->Prop}
noncomputable def B14:Code:=bodyOf Tryz.f14
noncomputable def C14 (s:Bool):Cx:=⟨E,s,none,B14,[([0],[0]),([1,0],[0]),([1,1,0,0],[0,3]),([1,1,0,1,0,0,0],[3,8,9,10]),([1,1,0,1,0,0,1,1,0,0,0],[3,8,9,10]),([1,1,0,1,0,0,1,1,0,0,1,0,0],[3,5,8,9,10]),([1,1,0,1,0,0,1,1,0,0,1,0,1,0,0],[]),([1,1,0,1,0,0,1,1,0,0,1,1,0],[3,5,8,9,10]),([1,1,0,1,0,0,1,1,0,0,1,1,1,0,0,0],[3,8,9,10,30,31,32]),([1,1,0,1,0,0,1,1,0,0,1,1,1,0,0,1,1,0,0,0],[3,8,9,10,30,31,32]),([1,1,0,1,0,0,1,1,0,0,1,1,1,0,0,1,1,0,0,1,0],[3,7,8,9,10,30,31,32]),([1,1,0,1,0,0,1,1,0,0,1,1,1,0,0,1,1,0,0,1,1,0,0],[]),([1,1,0,1,0,0,1,1,0,0,1,1,1,0,0,1,1,1],[3,8,9,10,30,31,32]),([1,1,0,1,0,0,1,1,1],[3,8,9,10]),([1,1,1,0],[])],[2],[]⟩
abbrev P14_3 (s:Bool) (K:KF) (d e f b:Value) (h:AH):Prop:=PI (C14 s) K 3 [d,e,f,b] h
abbrev P14_6 (s:Bool) (K:KF) (h:AH):Prop:=PI (C14 s) K 6 [] h
abbrev P14_8 (s:Bool) (K:KF) (g i j b d e f:Value) (h:AH):Prop:=PI (C14 s) K 8 [g,i,j,b,d,e,f] h
theorem P14_0_of (H :
 PI (C14 s) K 1 [b] h):PI (C14 s) K 0 [b] h:=step_of H
theorem P14_1_of (H :
 Ev s (wNewRow 3 h (zeroV E 3)) fun b=>
 Ev s (wStore E 3 b.2 b.1 (some (.int .i64 2000))) fun e=>
 PI (C14 s) K 2 [d,b.1] e.2):PI (C14 s) K 1 [d] h:=step_of H
theorem P14_2_of (H :
 EvO (evRead E (tmOf [(8,b)]) (opAt B14 [1,1,0,0] 1) h) fun e=>
 PI (C14 s) K 3 [d,b,e,(.int .i64 0)] h):PI (C14 s) K 2 [b,d] h:=step_of H
theorem len14_2_1:evRead E (tmOf [(8,.slice a n c)]) (opAt B14 [1,1,0,0] 1) h=some (.int .i64 (n:Int)):=by cases a <;> kernel_rfl
theorem P14_3_of (H :
 EvO (binFast E .lss 3 b d) fun g=>
 BrK g (PI (C14 s) K 4 [e,f,d,b] h) (PI (C14 s) K 14 [] h)):PI (C14 s) K 3 [e,f,d,b] h:=step_of H
theorem P14_4_of (H :
 EvO (pIndexAddr E 82 e b) fun i=>
 EvO (rLoad E 25 h i) fun j=>
 Ev s (wNewRow 25 h (zeroV E 25)) fun d=>
 Ev s (wStore E 25 d.2 d.1 j) fun k=>
 PI (C14 s) K 5 [f,d.1,e,g,b] k.2):PI (C14 s) K 4 [f,e,g,b] h:=step_of H
theorem P14_5_of (H :
 EvO (pFieldAddr E 25 0 e) fun q=>
 EvO (rLoad E 3 h q) fun r=>
 EvO (binFast E .gtr 3 r (.int .i64 60)) fun b=>
 EvO (gdB b false (pFieldAddr E 25 2 e)) fun t=>
 EvO (gdB b false (rLoad E 23 h t)) fun u=>
 EvO (gdB b false (evRead E (tmOf [(19,u)]) (opAt B14 [1,1,0,1,0,0,1,1,0,0,1,0,0] 6) h)) fun w=>
 EvO (gdB b false (binFast E .gtr 3 w (.int .i64 300))) fun x=>
 EvO (pickV b (some (.bool true)) x) fun d=>
 EvO (gdB d false (pFieldAddr E 25 1 e)) fun g=>
 EvO (gdB d false (rLoad E 22 h g)) fun i=>
 EvO (gdB d false (evRead E (tmOf [(25,i)]) (opAt B14 [1,1,0,1,0,0,1,1,0,0,1,0,0] 12) h)) fun j=>
 EvO (gdB d false (binFast E .gtr 3 j (.int .i64 60))) fun k=>
 EvO (pickV d (some (.bool true)) k) fun l=>
 BrK l (PI (C14 s) K 6 [] h) (PI (C14 s) K 7 [m,e,o,p,f] h)):PI (C14 s) K 5 [m,e,o,p,f] h:=step_of H
theorem len14_5_6:evRead E (tmOf [(19,.slice a n c)]) (opAt B14 [1,1,0,1,0,0,1,1,0,0,1,0,0] 6) h=some (.int .i64 (n:Int)):=by cases a <;> kernel_rfl
theorem len14_5_12:evRead E (tmOf [(25,.slice a n c)]) (opAt B14 [1,1,0,1,0,0,1,1,0,0,1,0,0] 12) h=some (.int .i64 (n:Int)):=by cases a <;> kernel_rfl
theorem P14_6_of (H :
 K .ret [(.bool false)] h):PI (C14 s) K 6 [] h:=step_of H
theorem P14_7_of (H :
 EvO (pFieldAddr E 25 1 f) fun j=>
 EvO (rLoad E 22 h j) fun d=>
 EvO (evRead E (tmOf [(30,d)]) (opAt B14 [1,1,0,1,0,0,1,1,0,0,1,1,0] 2) h) fun k=>
 PI (C14 s) K 8 [e,g,i,b,d,k,(.int .i64 0)] h):PI (C14 s) K 7 [e,f,g,i,b] h:=step_of H
theorem len14_7_2:evRead E (tmOf [(30,.slice a n c)]) (opAt B14 [1,1,0,1,0,0,1,1,0,0,1,1,0] 2) h=some (.int .i64 (n:Int)):=by cases a <;> kernel_rfl
theorem P14_8_of (H :
 EvO (binFast E .lss 3 e d) fun k=>
 BrK k (PI (C14 s) K 9 [g,i,j,b,f,d,e] h) (PI (C14 s) K 13 [g,i,j,b] h)):PI (C14 s) K 8 [g,i,j,b,f,d,e] h:=step_of H
theorem P14_9_of (H :
 EvO (pIndexAddr E 22 b d) fun l=>
 EvO (rLoad E 36 h l) fun m=>
 Ev s (wNewRow 36 h (zeroV E 36)) fun g=>
 Ev s (wStore E 36 g.2 g.1 m) fun o=>
 PI (C14 s) K 10 [i,g.1,j,k,e,b,f,d] o.2):PI (C14 s) K 9 [i,j,k,e,b,f,d] h:=step_of H
theorem P14_10_of (H :
 EvO (pFieldAddr E 36 1 j) fun m=>
 EvO (rLoad E 34 h m) fun o=>
 Ev s (wCallV (recI E) (some (.func (.func 69) #[] #[])) (some [o,i,(.int .i64 1)]) h) fun g=>
 EvO (unFast .not g.1) fun p=>
 BrK p (PI (C14 s) K 11 [] g.2) (PI (C14 s) K 12 [i,k,l,b,d,e,f] g.2)):PI (C14 s) K 10 [i,j,k,l,b,d,e,f] h:=step_of H
theorem P14_11_of (H :
 K .ret [(.bool false)] h):PI (C14 s) K 11 [] h:=step_of H
theorem P14_12_of (H :
 EvO (binFast E .add 3 f (.int .i64 1)) fun k=>
 PI (C14 s) K 8 [g,i,j,b,d,e,k] h):PI (C14 s) K 12 [g,i,j,b,d,e,f] h:=step_of H
theorem P14_13_of (H :
 EvO (binFast E .add 3 b (.int .i64 1)) fun g=>
 PI (C14 s) K 3 [d,e,f,g] h):PI (C14 s) K 13 [d,e,f,b] h:=step_of H
theorem P14_14_of (H :
 K .ret [(.bool true)] h):PI (C14 s) K 14 [] h:=step_of H
theorem F14_flatE {Rp:Value->Prop} (hok:h.ok) (H:PI (C14 true) (KR E [.tmp 2] fun x k=>(isFlat x=true/\Rp x)/\h.next<=k.wm) 0 [v0] h.fresh):∃ v,Rp v/\(recI E).call 14 [v0] h=some [(v,h)]:=flatFE Tryz.f14 hok (ev_of (C14 true) H)
noncomputable def B15:Code:=bodyOf Tryz.f15
noncomputable def C15 (s:Bool):Cx:=⟨E,s,none,B15,[([0],[0,1,2]),([1,0,0],[3,4,5]),([1,0,1,0],[3,4,5,7]),([1,0,1,1,0,0],[7]),([1,1,0,0],[3,4,5]),([1,1,0,1,0],[3,4,5,8]),([1,1,0,1,1,0,0],[8]),([1,1,1,0,0],[3,4,5]),([1,1,1,0,1,0,0],[]),([1,1,1,1,0],[])],[6],[]⟩
theorem P15_0_of (H :
 Ev s (wNewRow 25 h f) fun b=>
 Ev s (wNewRow 25 b.2 g) fun d=>
 Ev s (wNewRow 32 d.2 i) fun e=>
 PI (C15 s) K 1 [b.1,d.1,e.1] e.2):PI (C15 s) K 0 [f,g,i] h:=step_of H
theorem P15_1_of (H :
 EvO (rLoad E 25 h b) fun i=>
 EvO (rLoad E 25 h d) fun j=>
 Ev s (wBuildSlice E 82 2 (some [(0,i),(1,j)]) h) fun e=>
 Ev s (wCallV (recI E) (some (.func (.func 70) #[] #[])) [e.1] e.2) fun f=>
 PI (C15 s) K 2 [b,d,g,f.1] f.2):PI (C15 s) K 1 [b,d,g] h:=step_of H
theorem P15_2_of (H :
 EvO (binFast E .neq 29 b (.int .i64 0)) fun g=>
 BrK g (PI (C15 s) K 3 [b] h) (PI (C15 s) K 4 [d,e,f] h)):PI (C15 s) K 2 [d,e,f,b] h:=step_of H
theorem P15_3_of (H :
 K .ret [b] h):PI (C15 s) K 3 [b] h:=step_of H
theorem P15_4_of (H :
 EvO (rLoad E 32 h b) fun i=>
 Ev s (wBuildSlice E 83 1 (some [(0,i)]) h) fun d=>
 Ev s (wCallV (recI E) (some (.func (.func 71) #[] #[])) [d.1] d.2) fun e=>
 PI (C15 s) K 5 [f,g,b,e.1] e.2):PI (C15 s) K 4 [f,g,b] h:=step_of H
theorem P15_5_of (H :
 EvO (binFast E .neq 29 b (.int .i64 0)) fun g=>
 BrK g (PI (C15 s) K 6 [b] h) (PI (C15 s) K 7 [d,e,f] h)):PI (C15 s) K 5 [d,e,f,b] h:=step_of H
theorem P15_6_of (H :
 K .ret [b] h):PI (C15 s) K 6 [b] h:=step_of H
theorem P15_7_of (H :
 EvO (rLoad E 25 h d) fun g=>
 EvO (rLoad E 25 h e) fun i=>
 EvO (rLoad E 32 h f) fun j=>
 Ev s (wCallV (recI E) (some (.func (.func 72) #[] #[])) [g,i,j] h) fun b=>
 EvO (unFast .not b.1) fun k=>
 BrK k (PI (C15 s) K 8 [] b.2) (PI (C15 s) K 9 [] b.2)):PI (C15 s) K 7 [d,e,f] h:=step_of H
theorem P15_8_of (H :
 K .ret [(.int .i64 360)] h):PI (C15 s) K 8 [] h:=step_of H
theorem P15_9_of (H :
 K .ret [(.int .i64 0)] h):PI (C15 s) K 9 [] h:=step_of H
theorem F15_flat (hok:h.ok) (hv:isScalar v=true) (H:PI (C15 s) (KR E [.tmp 6] fun x k=>x=v/\h.next<=k.wm) 0 [v0,v1,v2] h.fresh):(recI E).call 15 [v0,v1,v2] h=some [(v,h)]:=flatF Tryz.f15 hok hv (ev_of (C15 s) H)
noncomputable def B69:Code:=bodyOf Tryz.f69
noncomputable def C69 (s:Bool):Cx:=⟨E,s,none,B69,[([0],[0,1,2]),([1,0,0],[0,1,2]),([1,0,1,0,0,0],[1,2,9,10,11]),([1,0,1,0,0,1,1,0,0,0],[1,2,9,10,11]),([1,0,1,0,0,1,1,0,0,1,0],[1,2,8,9,10,11]),([1,0,1,0,0,1,1,0,0,1,1,0],[1,2,8,9,10,11]),([1,0,1,0,0,1,1,0,0,1,1,1,0,0],[]),([1,0,1,0,0,1,1,1],[1,2,9,10,11]),([1,1,0],[])],[6],[]⟩
abbrev P69_2 (s:Bool) (K:KF) (e f g b d:Value) (h:AH):Prop:=PI (C69 s) K 2 [e,f,g,b,d] h
abbrev P69_6 (s:Bool) (K:KF) (h:AH):Prop:=PI (C69 s) K 6 [] h
theorem P69_0_of (H :
 PI (C69 s) K 1 [b,d,e] h):PI (C69 s) K 0 [b,d,e] h:=step_of H
theorem P69_1_of (H :
 EvO (evRead E (tmOf [(9,b)]) (opAt B69 [1,0,0] 1) h) fun f=>
 PI (C69 s) K 2 [d,e,b,f,(.int .i64 0)] h):PI (C69 s) K 1 [b,d,e] h:=step_of H
theorem len69_1_1:evRead E (tmOf [(9,.slice a n c)]) (opAt B69 [1,0,0] 1) h=some (.int .i64 (n:Int)):=by cases a <;> kernel_rfl
theorem P69_2_of (H :
 EvO (binFast E .lss 3 d b) fun i=>
 BrK i (PI (C69 s) K 3 [e,f,g,b,d] h) (PI (C69 s) K 8 [] h)):PI (C69 s) K 2 [e,f,g,b,d] h:=step_of H
theorem P69_3_of (H :
 EvO (pIndexAddr E 34 f b) fun j=>
 EvO (rLoad E 173 h j) fun k=>
 Ev s (wNewRow 173 h (zeroV E 173)) fun e=>
 Ev s (wStore E 173 e.2 e.1 k) fun l=>
 PI (C69 s) K 4 [g,i,e.1,f,d,b] l.2):PI (C69 s) K 3 [g,i,f,d,b] h:=step_of H
theorem P69_4_of (H :
 EvO (pNilCheck b) fun j=>
 EvO (rLoad E 3 h j) fun k=>
 EvO (binFast E .sub 3 k (.int .i64 1)) fun l=>
 EvO (pNilCheck b) fun m=>
 Ev s (wStore E 3 h m l) fun o=>
 PI (C69 s) K 5 [b,f,g,i,d,e] o.2):PI (C69 s) K 4 [b,f,g,i,d,e] h:=step_of H
theorem P69_5_of (H :
 EvO (pNilCheck e) fun u=>
 EvO (rLoad E 3 h u) fun w=>
 EvO (binFast E .lss 3 w (.int .i64 0)) fun q=>
 EvO (gdB q false i) fun x=>
 EvO (gdB q false (binFast E .gtr 3 x (.int .i64 100))) fun y=>
 EvO (pickV q (some (.bool true)) y) fun b=>
 EvO (gdB b false (pFieldAddr E 173 2 r)) fun z=>
 EvO (gdB b false (rLoad E 34 h z)) fun j=>
 EvO (gdB b false e) fun k=>
 EvO (gdB b false i) fun l=>
 EvO (gdB b false (binFast E .add 3 l (.int .i64 1))) fun m=>
 Ev s (gdW b false (wCallV (recI E) (some (.func (.func 69) #[] #[])) [j,k,m] h) h) fun d=>
 EvO (gdB b false (unFast .not d.1)) fun o=>
 EvO (pickV b (some (.bool true)) o) fun p=>
 BrK p (PI (C69 s) K 6 [] d.2) (PI (C69 s) K 7 [e,i,t,f,g] d.2)):PI (C69 s) K 5 [e,i,r,t,f,g] h:=step_of H
theorem P69_6_of (H :
 K .ret [(.bool false)] h):PI (C69 s) K 6 [] h:=step_of H
theorem P69_7_of (H :
 EvO (binFast E .add 3 d (.int .i64 1)) fun i=>
 PI (C69 s) K 2 [e,f,g,b,i] h):PI (C69 s) K 7 [e,f,g,b,d] h:=step_of H
theorem P69_8_of (H :
 K .ret [(.bool true)] h):PI (C69 s) K 8 [] h:=step_of H
theorem F69_flat (hok:h.ok) (hv:isScalar v=true) (H:PI (C69 s) (KR E [.tmp 6] fun x k=>x=v/\h.next<=k.wm) 0 [v0,v1,v2] h.fresh):(recI E).call 69 [v0,v1,v2] h=some [(v,h)]:=flatF Tryz.f69 hok hv (ev_of (C69 s) H)
theorem F69_some (H:PI (C69 true) (KR E [.tmp 6] fun x k=>(isFlat x=false\/k.wm<h.next)/\Rp x ⟨k.t,k.next,cond (Nat.ble h.wm k.wm) h.wm k.wm⟩) 0 [v0,v1,v2] h.fresh):Ev true ((recI E).call 69 [v0,v1,v2] h) fun x=>Rp x.1 x.2:=someF Tryz.f69 (ev_of (C69 true) H)
noncomputable def B70:Code:=bodyOf Tryz.f70
noncomputable def C70 (s:Bool):Cx:=⟨E,s,none,B70,[([0],[0]),([1,0,0],[0]),([1,0,1,0,0,0],[5,6,7]),([1,0,1,0,0,1,1,0,0,0],[5,6,7]),([1,0,1,0,0,1,1,0,0,1,0],[4,5,6,7]),([1,0,1,0,0,1,1,0,0,1,1,0,0],[]),([1,0,1,0,0,1,1,1],[5,6,7]),([1,1,0],[])],[2],[]⟩
abbrev P70_2 (s:Bool) (K:KF) (b d e:Value) (h:AH):Prop:=PI (C70 s) K 2 [b,d,e] h
theorem P70_0_of (H :
 PI (C70 s) K 1 [b] h):PI (C70 s) K 0 [b] h:=step_of H
theorem P70_1_of (H :
 EvO (evRead E (tmOf [(5,b)]) (opAt B70 [1,0,0] 1) h) fun d=>
 PI (C70 s) K 2 [b,d,(.int .i64 0)] h):PI (C70 s) K 1 [b] h:=step_of H
theorem len70_1_1:evRead E (tmOf [(5,.slice a n c)]) (opAt B70 [1,0,0] 1) h=some (.int .i64 (n:Int)):=by cases a <;> kernel_rfl
theorem P70_2_of (H :
 EvO (binFast E .lss 3 d b) fun f=>
 BrK f (PI (C70 s) K 3 [e,b,d] h) (PI (C70 s) K 7 [] h)):PI (C70 s) K 2 [e,b,d] h:=step_of H
theorem P70_3_of (H :
 EvO (pIndexAddr E 82 d e) fun g=>
 EvO (rLoad E 25 h g) fun i=>
 Ev s (wNewRow 25 h (zeroV E 25)) fun b=>
 Ev s (wStore E 25 b.2 b.1 i) fun j=>
 PI (C70 s) K 4 [b.1,d,f,e] j.2):PI (C70 s) K 3 [d,f,e] h:=step_of H
theorem P70_4_of (H :
 EvO (rLoad E 25 h d) fun i=>
 Ev s (wCallV (recI E) (some (.func (.func 121) #[] #[])) [i] h) fun b=>
 EvO (binFast E .neq 29 b.1 (.int .i64 0)) fun j=>
 BrK j (PI (C70 s) K 5 [] b.2) (PI (C70 s) K 6 [e,f,g] b.2)):PI (C70 s) K 4 [d,e,f,g] h:=step_of H
theorem P70_5_of (H :
 K .ret [(.int .i64 8)] h):PI (C70 s) K 5 [] h:=step_of H
theorem P70_6_of (H :
 EvO (binFast E .add 3 e (.int .i64 1)) fun f=>
 PI (C70 s) K 2 [b,d,f] h):PI (C70 s) K 6 [b,d,e] h:=step_of H
theorem P70_7_of (H :
 K .ret [(.int .i64 0)] h):PI (C70 s) K 7 [] h:=step_of H
theorem F70_flat (hok:h.ok) (hv:isScalar v=true) (H:PI (C70 s) (KR E [.tmp 2] fun x k=>x=v/\h.next<=k.wm) 0 [v0] h.fresh):(recI E).call 70 [v0] h=some [(v,h)]:=flatF Tryz.f70 hok hv (ev_of (C70 s) H)
noncomputable def B71:Code:=bodyOf Tryz.f71
noncomputable def C71 (s:Bool):Cx:=⟨E,s,none,B71,[([0],[0]),([1,0,0],[0]),([1,0,1,0,0,0],[7,8,9]),([1,0,1,0,0,1,1,0,0,0],[7,8,9]),([1,0,1,0,0,1,1,0,0,1,0,0],[4,7,8,9]),([1,0,1,0,0,1,1,0,0,1,0,1,0,0],[]),([1,0,1,0,0,1,1,0,0,1,1,0,0],[4,7,8,9]),([1,0,1,0,0,1,1,0,0,1,1,0,1,0,0],[]),([1,0,1,0,0,1,1,0,0,1,1,1,0],[4,7,8,9]),([1,0,1,0,0,1,1,0,0,1,1,1,1,0,0,0],[4,7,8,9,22,23,24]),([1,0,1,0,0,1,1,0,0,1,1,1,1,0,0,1,1,0,0,0],[4,7,8,9,22,23,24]),([1,0,1,0,0,1,1,0,0,1,1,1,1,0,0,1,1,0,0,1,0],[4,5,6,7,8,9,22,23,24]),([1,0,1,0,0,1,1,0,0,1,1,1,1,0,0,1,1,0,0,1,1,0,0],[]),([1,0,1,0,0,1,1,0,0,1,1,1,1,0,0,1,1,1],[4,7,8,9,22,23,24]),([1,0,1,0,0,1,1,1],[7,8,9]),([1,1,0],[])],[2],[]⟩
abbrev P71_2 (s:Bool) (K:KF) (b d e:Value) (h:AH):Prop:=PI (C71 s) K 2 [b,d,e] h
abbrev P71_9 (s:Bool) (K:KF) (f g i j b d e:Value) (h:AH):Prop:=PI (C71 s) K 9 [f,g,i,j,b,d,e] h
abbrev P71_12 (s:Bool) (K:KF) (h:AH):Prop:=PI (C71 s) K 12 [] h
abbrev P71_13 (s:Bool) (K:KF) (f g i j b d e:Value) (h:AH):Prop:=PI (C71 s) K 13 [f,g,i,j,b,d,e] h
theorem P71_0_of (H :
 PI (C71 s) K 1 [b] h):PI (C71 s) K 0 [b] h:=step_of H
theorem P71_1_of (H :
 EvO (evRead E (tmOf [(7,b)]) (opAt B71 [1,0,0] 1) h) fun d=>
 PI (C71 s) K 2 [b,d,(.int .i64 0)] h):PI (C71 s) K 1 [b] h:=step_of H
theorem len71_1_1:evRead E (tmOf [(7,.slice a n c)]) (opAt B71 [1,0,0] 1) h=some (.int .i64 (n:Int)):=by cases a <;> kernel_rfl
theorem P71_2_of (H :
 EvO (binFast E .lss 3 d b) fun f=>
 BrK f (PI (C71 s) K 3 [e,b,d] h) (PI (C71 s) K 15 [] h)):PI (C71 s) K 2 [e,b,d] h:=step_of H
theorem P71_3_of (H :
 EvO (pIndexAddr E 83 d e) fun g=>
 EvO (rLoad E 32 h g) fun i=>
 Ev s (wNewRow 32 h (zeroV E 32)) fun b=>
 Ev s (wStore E 32 b.2 b.1 i) fun j=>
 PI (C71 s) K 4 [b.1,d,f,e] j.2):PI (C71 s) K 3 [d,f,e] h:=step_of H
theorem P71_4_of (H :
 EvO (pFieldAddr E 32 0 d) fun i=>
 EvO (rLoad E 3 h i) fun j=>
 Ev s (wCallV (recI E) (some (.func (.func 105) #[] #[])) [j] h) fun b=>
 EvO (unFast .not b.1) fun k=>
 BrK k (PI (C71 s) K 5 [] b.2) (PI (C71 s) K 6 [d,e,f,g] b.2)):PI (C71 s) K 4 [d,e,f,g] h:=step_of H
theorem P71_5_of (H :
 K .ret [(.int .i64 361)] h):PI (C71 s) K 5 [] h:=step_of H
theorem P71_6_of (H :
 EvO (pFieldAddr E 32 1 b) fun g=>
 EvO (rLoad E 26 h g) fun i=>
 EvO (evRead E (tmOf [(18,i)]) (opAt B71 [1,0,1,0,0,1,1,0,0,1,1,0,0] 2) h) fun j=>
 EvO (binFast E .gtr 3 j (.int .i64 200000)) fun k=>
 BrK k (PI (C71 s) K 7 [] h) (PI (C71 s) K 8 [b,d,e,f] h)):PI (C71 s) K 6 [b,d,e,f] h:=step_of H
theorem len71_6_2:evRead E (tmOf [(18,.slice a n c)]) (opAt B71 [1,0,1,0,0,1,1,0,0,1,1,0,0] 2) h=some (.int .i64 (n:Int)):=by cases a <;> kernel_rfl
theorem P71_7_of (H :
 K .ret [(.int .i64 360)] h):PI (C71 s) K 7 [] h:=step_of H
theorem P71_8_of (H :
 EvO (pFieldAddr E 32 1 b) fun i=>
 EvO (rLoad E 26 h i) fun d=>
 EvO (evRead E (tmOf [(22,d)]) (opAt B71 [1,0,1,0,0,1,1,0,0,1,1,1,0] 2) h) fun j=>
 PI (C71 s) K 9 [b,e,f,g,d,j,(.int .i64 0)] h):PI (C71 s) K 8 [b,e,f,g] h:=step_of H
theorem len71_8_2:evRead E (tmOf [(22,.slice a n c)]) (opAt B71 [1,0,1,0,0,1,1,0,0,1,1,1,0] 2) h=some (.int .i64 (n:Int)):=by cases a <;> kernel_rfl
theorem P71_9_of (H :
 EvO (binFast E .lss 3 d b) fun k=>
 BrK k (PI (C71 s) K 10 [j,f,g,i,e,b,d] h) (PI (C71 s) K 14 [f,g,i] h)):PI (C71 s) K 9 [j,f,g,i,e,b,d] h:=step_of H
theorem P71_10_of (H :
 EvO (pIndexAddr E 26 d b) fun l=>
 EvO (rLoad E 54 h l) fun m=>
 Ev s (wNewRow 54 h (zeroV E 54)) fun f=>
 Ev s (wStore E 54 f.2 f.1 m) fun o=>
 PI (C71 s) K 11 [g,b,f.1,i,j,k,d,e,b] o.2):PI (C71 s) K 10 [g,i,j,k,d,e,b] h:=step_of H
theorem P71_11_of (H :
 EvO (pIndexAddr E 54 k (some (.int .i64 0))) fun F=>
 EvO (rLoad E 3 h F) fun G=>
 EvO (binFast E .lss 3 G (.int .i64 0)) fun f=>
 EvO (gdB f false (pIndexAddr E 54 k (some (.int .i64 1)))) fun J=>
 EvO (gdB f false (rLoad E 3 h J)) fun L=>
 EvO (gdB f false (binFast E .lss 3 L (.int .i64 0))) fun M=>
 EvO (pickV f (some (.bool true)) M) fun e=>
 EvO (gdB e false A) fun N=>
 EvO (gdB e false (binFast E .gtr 3 N (.int .i64 0))) fun l=>
 EvO (gdB e false l) fun b=>
 EvO (gdB b true (pFieldAddr E 32 1 z)) fun m=>
 EvO (gdB b true (rLoad E 26 h m)) fun o=>
 EvO (gdB b true A) fun p=>
 EvO (gdB b true (binFast E .sub 3 p (.int .i64 1))) fun q=>
 EvO (gdB b true (pIndexAddr E 26 o q)) fun r=>
 EvO (gdB b true (rLoad E 54 h r)) fun t=>
 EvO (gdB b true (rLoad E 54 h k)) fun u=>
 Ev s (gdW b true (wCallV (recI E) (some (.func (.func 122) #[] #[])) [t,u] h) h) fun d=>
 EvO (gdB b true (binFast E .geq 3 d.1 (.int .i64 0))) fun w=>
 EvO (gdB e false (pickV b w (some (.bool false)))) fun x=>
 EvO (pickV e (some (.bool true)) x) fun y=>
 BrK y (PI (C71 s) K 12 [] d.2) (PI (C71 s) K 13 [z,B,C,D,g,i,j] d.2)):PI (C71 s) K 11 [z,A,k,B,C,D,g,i,j] h:=step_of H
theorem P71_12_of (H :
 K .ret [(.int .i64 360)] h):PI (C71 s) K 12 [] h:=step_of H
theorem P71_13_of (H :
 EvO (binFast E .add 3 e (.int .i64 1)) fun k=>
 PI (C71 s) K 9 [f,g,i,j,b,d,k] h):PI (C71 s) K 13 [f,g,i,j,b,d,e] h:=step_of H
theorem P71_14_of (H :
 EvO (binFast E .add 3 e (.int .i64 1)) fun f=>
 PI (C71 s) K 2 [b,d,f] h):PI (C71 s) K 14 [b,d,e] h:=step_of H
theorem P71_15_of (H :
 K .ret [(.int .i64 0)] h):PI (C71 s) K 15 [] h:=step_of H
theorem F71_flat (hok:h.ok) (hv:isScalar v=true) (H:PI (C71 s) (KR E [.tmp 2] fun x k=>x=v/\h.next<=k.wm) 0 [v0] h.fresh):(recI E).call 71 [v0] h=some [(v,h)]:=flatF Tryz.f71 hok hv (ev_of (C71 s) H)
noncomputable def B72:Code:=bodyOf Tryz.f72
noncomputable def C72 (s:Bool):Cx:=⟨E,s,none,B72,[([0],[0,1,2]),([1,0],[3,4,5]),([1,1,0],[3,4,5,7]),([1,1,1,0,0],[3,4,5,8]),([1,1,1,0,1,0,0,0],[3,4,5,8,25,26,27]),([1,1,1,0,1,0,0,1,1,0,0,0],[3,4,5,8,25,26,27]),([1,1,1,0,1,0,0,1,1,0,0,1,0,0],[3,4,5,8,10,25,26,27]),([1,1,1,0,1,0,0,1,1,0,0,1,0,1,0,0],[]),([1,1,1,0,1,0,0,1,1,0,0,1,1],[3,4,5,8,10,25,26,27]),([1,1,1,0,1,0,0,1,1,1],[3,4,5,8,25,26,27]),([1,1,1,1,0],[5,8]),([1,1,1,1,1,0],[8,11])],[6],[]⟩
abbrev P72_3 (s:Bool) (K:KF) (b d e f:Value) (h:AH):Prop:=PI (C72 s) K 3 [b,d,e,f] h
abbrev P72_4 (s:Bool) (K:KF) (f g i j b d e:Value) (h:AH):Prop:=PI (C72 s) K 4 [f,g,i,j,b,d,e] h
abbrev P72_7 (s:Bool) (K:KF) (h:AH):Prop:=PI (C72 s) K 7 [] h
abbrev P72_10 (s:Bool) (K:KF) (b d:Value) (h:AH):Prop:=PI (C72 s) K 10 [b,d] h
abbrev P72_11 (s:Bool) (K:KF) (d b:Value) (h:AH):Prop:=PI (C72 s) K 11 [d,b] h
theorem P72_0_of (H :
 Ev s (wNewRow 25 h f) fun b=>
 Ev s (wNewRow 25 b.2 g) fun d=>
 Ev s (wNewRow 32 d.2 i) fun e=>
 PI (C72 s) K 1 [b.1,d.1,e.1] e.2):PI (C72 s) K 0 [f,g,i] h:=step_of H
theorem P72_1_of (H :
 EvO (rLoad E 25 h b) fun i=>
 EvO (rLoad E 25 h d) fun j=>
 Ev s (wBuildSlice E 82 2 (some [(0,i),(1,j)]) h) fun e=>
 Ev s (wCallV (recI E) (some (.func (.func 90) #[] #[])) [e.1] e.2) fun f=>
 PI (C72 s) K 2 [b,d,g,f.1] f.2):PI (C72 s) K 1 [b,d,g] h:=step_of H
theorem P72_2_of (H :
 EvO (pIndexAddr E 126 u (some (.int .i64 0))) fun l=>
 EvO (rLoad E 128 h l) fun j=>
 EvO (pIndexAddr E 126 u (some (.int .i64 1))) fun m=>
 EvO (rLoad E 128 h m) fun k=>
 s=false/\(Ev s (one ((.map (some (h).next):Value),(h).new (.map [] 0))) fun i=>
 EvO (rLoad E 128 i.2 m) fun e=>veq 100 e k=true ∧
 (EvO (rLoad E 128 i.2 l) fun d=>veq 100 d j=true ∧
 (EvO (pBuild E 176 (some [(0,j),(1,k),(2,i.1)])) fun o=>
 Ev s (wNewRow 176 i.2 (zeroV E 176)) fun b=>
 EvO (rLoad E 128 b.2 m) fun g=>veq 100 g k=true ∧
 (EvO (rLoad E 128 b.2 l) fun f=>veq 100 f j=true ∧
 (Ev s (wStore E 176 b.2 b.1 o) fun p=>
 PI (C72 s) K 3 [q,r,t,b.1] p.2)))))/\(Ev s (wNewRow 176 h (zeroV E 176)) fun b=>
 EvO (rLoad E 128 b.2 m) fun g=>veq 100 g k=true ∧
 (EvO (rLoad E 128 b.2 l) fun f=>veq 100 f j=true ∧
 (Ev s (one ((.map (some (b.2).next):Value),(b.2).new (.map [] 0))) fun i=>
 EvO (rLoad E 128 i.2 m) fun e=>veq 100 e k=true ∧
 (EvO (rLoad E 128 i.2 l) fun d=>veq 100 d j=true ∧
 (EvO (pBuild E 176 (some [(0,j),(1,k),(2,i.1)])) fun o=>
 Ev s (wStore E 176 i.2 b.1 o) fun p=>
 PI (C72 s) K 3 [q,r,t,b.1] p.2)))))):PI (C72 s) K 2 [q,r,t,u] h:=step_of H
theorem P72_3_of (H :
 EvO (pFieldAddr E 32 1 b) fun i=>
 EvO (rLoad E 26 h i) fun d=>
 EvO (evRead E (tmOf [(25,d)]) (opAt B72 [1,1,1,0,0] 2) h) fun j=>
 PI (C72 s) K 4 [e,f,b,g,d,j,(.int .i64 0)] h):PI (C72 s) K 3 [e,f,b,g] h:=step_of H
theorem len72_3_2:evRead E (tmOf [(25,.slice a n c)]) (opAt B72 [1,1,1,0,0] 2) h=some (.int .i64 (n:Int)):=by cases a <;> kernel_rfl
theorem P72_4_of (H :
 EvO (binFast E .lss 3 d b) fun k=>
 BrK k (PI (C72 s) K 5 [i,j,f,g,e,b,d] h) (PI (C72 s) K 10 [f,g] h)):PI (C72 s) K 4 [i,j,f,g,e,b,d] h:=step_of H
theorem P72_5_of (H :
 EvO (pIndexAddr E 26 b d) fun l=>
 EvO (rLoad E 54 h l) fun m=>
 Ev s (wNewRow 54 h (zeroV E 54)) fun f=>
 Ev s (wStore E 54 f.2 f.1 m) fun o=>
 PI (C72 s) K 6 [g,i,j,k,f.1,b,e,d] o.2):PI (C72 s) K 5 [g,i,j,k,b,e,d] h:=step_of H
theorem P72_6_of (H :
 EvO (pIndexAddr E 54 b (some (.int .i64 0))) fun p=>
 EvO (rLoad E 3 h p) fun q=>
 EvO (pFieldAddr E 25 0 k) fun r=>
 EvO (rLoad E 3 h r) fun t=>
 EvO (binFast E .geq 3 q t) fun d=>
 EvO (gdB d false (pIndexAddr E 54 b (some (.int .i64 1)))) fun u=>
 EvO (gdB d false (rLoad E 3 h u)) fun w=>
 EvO (gdB d false (pFieldAddr E 25 0 l)) fun x=>
 EvO (gdB d false (rLoad E 3 h x)) fun y=>
 EvO (gdB d false (binFast E .geq 3 w y)) fun i=>
 EvO (pickV d (some (.bool true)) i) fun j=>
 BrK j (PI (C72 s) K 7 [] h) (PI (C72 s) K 8 [k,l,m,o,b,e,f,g] h)):PI (C72 s) K 6 [k,l,m,o,b,e,f,g] h:=step_of H
theorem P72_7_of (H :
 K .ret [(.bool false)] h):PI (C72 s) K 7 [] h:=step_of H
theorem P72_8_of (H :
 EvO (pFieldAddr E 176 2 g) fun l=>
 EvO (rLoad E 174 h l) fun m=>
 EvO (rLoad E 54 h b) fun o=>
 Ev s (wMapUpdate E 174 m o (some (.bool true)) h) fun p=>
 PI (C72 s) K 9 [i,j,k,g,d,e,f] p.2):PI (C72 s) K 8 [i,j,k,g,b,d,e,f] h:=step_of H
theorem P72_9_of (H :
 EvO (binFast E .add 3 e (.int .i64 1)) fun k=>
 PI (C72 s) K 4 [f,g,i,j,b,d,k] h):PI (C72 s) K 9 [f,g,i,j,b,d,e] h:=step_of H
theorem P72_10_of (H :
 EvO (pFieldAddr E 32 0 m) fun i=>
 EvO (rLoad E 3 h i) fun g=>
 s=false/\(Ev s (wCallV (recI E) (some (.func (.func 79) #[] #[])) (some []) h) fun f=>
 EvO (rLoad E 3 f.2 i) fun b=>veq 100 b g=true ∧
 (EvO (pIndex E 113 f.1 g) fun j=>
 Ev s (wNewRow 112 f.2 (zeroV E 112)) fun e=>
 EvO (rLoad E 3 e.2 i) fun d=>veq 100 d g=true ∧
 (Ev s (wStore E 112 e.2 e.1 j) fun k=>
 PI (C72 s) K 11 [l,e.1] k.2)))/\(Ev s (wNewRow 112 h (zeroV E 112)) fun e=>
 EvO (rLoad E 3 e.2 i) fun d=>veq 100 d g=true ∧
 (Ev s (wCallV (recI E) (some (.func (.func 79) #[] #[])) (some []) e.2) fun f=>
 EvO (rLoad E 3 f.2 i) fun b=>veq 100 b g=true ∧
 (EvO (pIndex E 113 f.1 g) fun j=>
 Ev s (wStore E 112 f.2 e.1 j) fun k=>
 PI (C72 s) K 11 [l,e.1] k.2)))):PI (C72 s) K 10 [m,l] h:=step_of H
theorem P72_11_of (H :
 EvO (rLoad E 176 h l) fun p=>
 Ev s (wCallV (recI E) (some (.func (.func 123) #[] #[])) (some [p,(.int .i64 0),(.int .i64 0)]) h) fun d=>
 EvO (gdB d.1 true (rLoad E 176 d.2 l)) fun q=>
 EvO (gdB d.1 true (pBuild E 178 (some [(0,q)]))) fun r=>
 EvO (gdB d.1 true (rLoad E 112 d.2 f)) fun t=>
 Ev s (gdW d.1 true (wCallV (recI E) (some (.func (.func 124) #[] #[])) [r,t] d.2) d.2) fun k=>
 EvO (pickV d.1 k.1 (some (.bool false))) fun g=>
 EvO (gdB g true (rLoad E 176 k.2 l)) fun u=>
 EvO (gdB g true (rLoad E 112 k.2 f)) fun i=>
 Ev s (gdW g true (wCallV (recI E) (some (.func (.func 125) #[] #[])) [u] k.2) k.2) fun e=>
 EvO (gdB g true (rLoad E 112 e.2 f)) fun b=>veq 100 b i=true ∧
 (EvO (gdB g true (pBuild E 178 (some [(0,e.1)]))) fun m=>
 Ev s (gdW g true (wCallV (recI E) (some (.func (.func 124) #[] #[])) [m,i] e.2) e.2) fun j=>
 EvO (pickV g j.1 (some (.bool false))) fun o=>
 K .ret [o] j.2)):PI (C72 s) K 11 [l,f] h:=step_of H
theorem F72_flat (hok:h.ok) (hv:isScalar v=true) (H:PI (C72 s) (KR E [.tmp 6] fun x k=>x=v/\h.next<=k.wm) 0 [v0,v1,v2] h.fresh):(recI E).call 72 [v0,v1,v2] h=some [(v,h)]:=flatF Tryz.f72 hok hv (ev_of (C72 s) H)
noncomputable def B79:Code:=bodyOf Tryz.f79
noncomputable def C79 (s:Bool):Cx:=⟨E,s,none,B79,[([0],[]),([1,0],[0])],[0],[]⟩
theorem P79_0_of (H :
 Ev s (wNewRow 113 h (zeroV E 113)) fun b=>
 PI (C79 s) K 1 [b.1] b.2):PI (C79 s) K 0 [] h:=step_of H
theorem P79_1_of (H :
 EvO (pBuild E 112 (some [(0,(.func (.func 128) #[] #[])),(1,(.func (.func 129) #[] #[])),(2,(.string ⟨#[115,116,114,111,110,103]⟩))])) fun d=>
 EvO (pBuild E 112 (some [(0,(.func (.func 130) #[] #[])),(1,(.func (.func 131) #[] #[])),(2,(.string ⟨#[98,114,97,110,99,104,105,110,103]⟩))])) fun e=>
 EvO (pBuild E 113 (some [(1,d),(2,e)])) fun f=>
 Ev s (wStore E 113 h b f) fun g=>
 K .ret [b] g.2):PI (C79 s) K 1 [b] h:=step_of H
theorem F79_flat1 (hok:h.ok) (hv:isFlat v=true) (H:PI (C79 true) (KR E [.cell 0 113] fun x k=>x=v/\h.next<=k.wm) 0 [] h.fresh):(recI E).call 79 [] h=some [(v,h)]:=flatF1 Tryz.f79 hok hv (ev_of (C79 true) H)
noncomputable def B90:Code:=bodyOf Tryz.f90
noncomputable def C90 (s:Bool):Cx:=⟨E,s,none,B90,[([0],[0]),([1,0],[0]),([1,1,0,0],[0,3]),([1,1,0,1,0,0,0],[0,3,17,18,19]),([1,1,0,1,0,0,1,1,0,0,0],[0,3,17,18,19]),([1,1,0,1,0,0,1,1,0,0,1,0],[0,3,5,17,18,19]),([1,1,0,1,0,0,1,1,0,0,1,1,0,0,0],[0,3,17,18,19,24,25,26]),([1,1,0,1,0,0,1,1,0,0,1,1,0,0,1,1,0,0,0],[0,3,17,18,19,24,25,26]),([1,1,0,1,0,0,1,1,0,0,1,1,0,0,1,1,0,0,1],[0,3,7,17,18,19,24,25,26]),([1,1,0,1,0,0,1,1,0,0,1,1,0,0,1,1,1],[0,3,17,18,19,24,25,26]),([1,1,0,1,0,0,1,1,1],[0,3,17,18,19]),([1,1,1,0],[0,3]),([1,1,1,1,0,0],[0,3,8]),([1,1,1,1,0,1,0,0,0],[3,8,34,35,36]),([1,1,1,1,0,1,0,0,1,1,0,0,0],[3,8,34,35,36]),([1,1,1,1,0,1,0,0,1,1,0,0,1,0],[3,8,10,34,35,36]),([1,1,1,1,0,1,0,0,1,1,0,0,1,1,0],[3,8,10,11,34,35,36]),([1,1,1,1,0,1,0,0,1,1,0,0,1,1,1,0,0],[3,8,10,11,12,34,35,36]),([1,1,1,1,0,1,0,0,1,1,0,0,1,1,1,0,1,0,0,0],[3,8,10,11,12,34,35,36,50,51,52]),([1,1,1,1,0,1,0,0,1,1,0,0,1,1,1,0,1,0,0,1,1,0,0,0],[3,8,10,11,12,34,35,36,50,51,52]),([1,1,1,1,0,1,0,0,1,1,0,0,1,1,1,0,1,0,0,1,1,0,0,1],[3,8,10,11,12,13,14,34,35,36,50,51,52]),([1,1,1,1,0,1,0,0,1,1,0,0,1,1,1,0,1,0,0,1,1,1],[3,8,10,11,12,34,35,36,50,51,52]),([1,1,1,1,0,1,0,0,1,1,0,0,1,1,1,1,0,0],[3,8,10,11,12,34,35,36]),([1,1,1,1,0,1,0,0,1,1,0,0,1,1,1,1,0,1,0,0,0],[3,8,11,12,34,35,36,64,65,66]),([1,1,1,1,0,1,0,0,1,1,0,0,1,1,1,1,0,1,0,0,1,1,0,0,0],[3,8,11,12,34,35,36,64,65,66]),([1,1,1,1,0,1,0,0,1,1,0,0,1,1,1,1,0,1,0,0,1,1,0,0,1],[3,8,11,12,16,34,35,36,64,65,66]),([1,1,1,1,0,1,0,0,1,1,0,0,1,1,1,1,0,1,0,0,1,1,1],[3,8,11,12,34,35,36,64,65,66]),([1,1,1,1,0,1,0,0,1,1,0,0,1,1,1,1,1],[3,8,11,34,35,36]),([1,1,1,1,0,1,0,0,1,1,1],[3,8,34,35,36]),([1,1,1,1,1,0],[8])],[2],[]⟩
abbrev P90_3 (s:Bool) (K:KF) (f g b d e:Value) (h:AH):Prop:=PI (C90 s) K 3 [f,g,b,d,e] h
abbrev P90_6 (s:Bool) (K:KF) (j k b d e f g i:Value) (h:AH):Prop:=PI (C90 s) K 6 [j,k,b,d,e,f,g,i] h
abbrev P90_11 (s:Bool) (K:KF) (b d:Value) (h:AH):Prop:=PI (C90 s) K 11 [b,d] h
abbrev P90_13 (s:Bool) (K:KF) (f g b d e:Value) (h:AH):Prop:=PI (C90 s) K 13 [f,g,b,d,e] h
abbrev P90_18 (s:Bool) (K:KF) (m o b d e f g i j k l:Value) (h:AH):Prop:=PI (C90 s) K 18 [m,o,b,d,e,f,g,i,j,k,l] h
abbrev P90_22 (s:Bool) (K:KF) (j k b d e f g i:Value) (h:AH):Prop:=PI (C90 s) K 22 [j,k,b,d,e,f,g,i] h
abbrev P90_23 (s:Bool) (K:KF) (l m b d e f g i j k:Value) (h:AH):Prop:=PI (C90 s) K 23 [l,m,b,d,e,f,g,i,j,k] h
abbrev P90_27 (s:Bool) (K:KF) (g i b d e f:Value) (h:AH):Prop:=PI (C90 s) K 27 [g,i,b,d,e,f] h
theorem P90_0_of (H :
 PI (C90 s) K 1 [b] h):PI (C90 s) K 0 [b] h:=step_of H
theorem P90_1_of (H :
 Ev s (wNewRow 197 h (zeroV E 197)) fun b=>
 PI (C90 s) K 2 [d,b.1] b.2):PI (C90 s) K 1 [d] h:=step_of H
theorem P90_2_of (H :
 EvO (evRead E (tmOf [(17,b)]) (opAt B90 [1,1,0,0] 1) h) fun e=>
 PI (C90 s) K 3 [b,d,b,e,(.int .i64 0)] h):PI (C90 s) K 2 [b,d] h:=step_of H
theorem len90_2_1:evRead E (tmOf [(17,.slice a n c)]) (opAt B90 [1,1,0,0] 1) h=some (.int .i64 (n:Int)):=by cases a <;> kernel_rfl
theorem P90_3_of (H :
 EvO (binFast E .lss 3 d b) fun i=>
 BrK i (PI (C90 s) K 4 [f,g,e,b,d] h) (PI (C90 s) K 11 [f,g] h)):PI (C90 s) K 3 [f,g,e,b,d] h:=step_of H
theorem P90_4_of (H :
 EvO (pIndexAddr E 82 b d) fun j=>
 EvO (rLoad E 25 h j) fun k=>
 Ev s (wNewRow 25 h (zeroV E 25)) fun f=>
 Ev s (wStore E 25 f.2 f.1 k) fun l=>
 PI (C90 s) K 5 [g,i,f.1,b,e,d] l.2):PI (C90 s) K 4 [g,i,b,e,d] h:=step_of H
theorem P90_5_of (H :
 EvO (pFieldAddr E 25 1 j) fun k=>
 EvO (rLoad E 22 h k) fun f=>
 EvO (evRead E (tmOf [(24,f)]) (opAt B90 [1,1,0,1,0,0,1,1,0,0,1,0] 2) h) fun l=>
 PI (C90 s) K 6 [g,i,b,d,e,f,l,(.int .i64 0)] h):PI (C90 s) K 5 [g,i,j,b,d,e] h:=step_of H
theorem len90_5_2:evRead E (tmOf [(24,.slice a n c)]) (opAt B90 [1,1,0,1,0,0,1,1,0,0,1,0] 2) h=some (.int .i64 (n:Int)):=by cases a <;> kernel_rfl
theorem P90_6_of (H :
 EvO (binFast E .lss 3 g f) fun l=>
 BrK l (PI (C90 s) K 7 [j,k,b,d,e,i,f,g] h) (PI (C90 s) K 10 [j,k,b,d,e] h)):PI (C90 s) K 6 [j,k,b,d,e,i,f,g] h:=step_of H
theorem P90_7_of (H :
 EvO (pIndexAddr E 22 b d) fun m=>
 EvO (rLoad E 36 h m) fun o=>
 Ev s (wNewRow 36 h (zeroV E 36)) fun j=>
 Ev s (wStore E 36 j.2 j.1 o) fun p=>
 PI (C90 s) K 8 [k,l,j.1,e,f,g,b,i,d] p.2):PI (C90 s) K 7 [k,l,e,f,g,b,i,d] h:=step_of H
theorem P90_8_of (H :
 EvO (rLoad E 36 h l) fun m=>
 Ev s (wCallV (recI E) (some (.func (.func 143) #[] #[])) [j,m] h) fun o=>
 PI (C90 s) K 9 [k,j,b,d,e,f,g,i] o.2):PI (C90 s) K 8 [k,j,l,b,d,e,f,g,i] h:=step_of H
theorem P90_9_of (H :
 EvO (binFast E .add 3 i (.int .i64 1)) fun l=>
 PI (C90 s) K 6 [j,k,b,d,e,f,g,l] h):PI (C90 s) K 9 [j,k,b,d,e,f,g,i] h:=step_of H
theorem P90_10_of (H :
 EvO (binFast E .add 3 e (.int .i64 1)) fun i=>
 PI (C90 s) K 3 [f,g,b,d,i] h):PI (C90 s) K 10 [f,g,b,d,e] h:=step_of H
theorem P90_11_of (H :
 PI (C90 s) K 12 [b,d,(.slice none 0 0)] h):PI (C90 s) K 11 [b,d] h:=step_of H
theorem P90_12_of (H :
 EvO (evRead E (tmOf [(34,b)]) (opAt B90 [1,1,1,1,0,0] 1) h) fun f=>
 PI (C90 s) K 13 [d,e,b,f,(.int .i64 0)] h):PI (C90 s) K 12 [b,d,e] h:=step_of H
theorem len90_12_1:evRead E (tmOf [(34,.slice a n c)]) (opAt B90 [1,1,1,1,0,0] 1) h=some (.int .i64 (n:Int)):=by cases a <;> kernel_rfl
theorem P90_13_of (H :
 EvO (binFast E .lss 3 d b) fun i=>
 BrK i (PI (C90 s) K 14 [g,f,e,b,d] h) (PI (C90 s) K 29 [f] h)):PI (C90 s) K 13 [g,f,e,b,d] h:=step_of H
theorem P90_14_of (H :
 EvO (pIndexAddr E 82 b d) fun j=>
 EvO (rLoad E 25 h j) fun k=>
 Ev s (wNewRow 25 h (zeroV E 25)) fun f=>
 Ev s (wStore E 25 f.2 f.1 k) fun l=>
 PI (C90 s) K 15 [g,i,f.1,b,e,d] l.2):PI (C90 s) K 14 [g,i,b,e,d] h:=step_of H
theorem P90_15_of (H :
 EvO (pFieldAddr E 25 0 b) fun m=>
 EvO (rLoad E 3 h m) fun g=>
 Ev s (wMakeSlice E 129 g g h) fun i=>
 EvO (pBuild E 131 (some [(0,i.1)])) fun o=>
 Ev s (wNewRow 131 i.2 o) fun j=>
 PI (C90 s) K 16 [k,l,b,j.1,d,e,f] j.2):PI (C90 s) K 15 [k,l,b,d,e,f] h:=step_of H
theorem P90_16_of (H :
 EvO (pFieldAddr E 25 1 b) fun m=>
 EvO (rLoad E 22 h m) fun o=>
 EvO (evRead E (tmOf [(46,o)]) (opAt B90 [1,1,1,1,0,1,0,0,1,1,0,0,1,1,0] 2) h) fun i=>
 Ev s (wMakeSlice E 47 i i h) fun j=>
 PI (C90 s) K 17 [k,l,b,d,j.1,e,f,g] j.2):PI (C90 s) K 16 [k,l,b,d,e,f,g] h:=step_of H
theorem len90_16_2:evRead E (tmOf [(46,.slice a n c)]) (opAt B90 [1,1,1,1,0,1,0,0,1,1,0,0,1,1,0] 2) h=some (.int .i64 (n:Int)):=by cases a <;> kernel_rfl
theorem P90_17_of (H :
 EvO (pFieldAddr E 25 1 b) fun m=>
 EvO (rLoad E 22 h m) fun j=>
 EvO (evRead E (tmOf [(50,j)]) (opAt B90 [1,1,1,1,0,1,0,0,1,1,0,0,1,1,1,0,0] 2) h) fun o=>
 PI (C90 s) K 18 [k,l,b,d,e,f,g,i,j,o,(.int .i64 0)] h):PI (C90 s) K 17 [k,l,b,d,e,f,g,i] h:=step_of H
theorem len90_17_2:evRead E (tmOf [(50,.slice a n c)]) (opAt B90 [1,1,1,1,0,1,0,0,1,1,0,0,1,1,1,0,0] 2) h=some (.int .i64 (n:Int)):=by cases a <;> kernel_rfl
theorem P90_18_of (H :
 EvO (binFast E .lss 3 k j) fun p=>
 BrK p (PI (C90 s) K 19 [m,o,b,d,e,f,g,i,l,j,k] h) (PI (C90 s) K 22 [m,o,b,d,e,f,g,i] h)):PI (C90 s) K 18 [m,o,b,d,e,f,g,i,l,j,k] h:=step_of H
theorem P90_19_of (H :
 EvO (pIndexAddr E 22 d b) fun q=>
 EvO (rLoad E 36 h q) fun r=>
 Ev s (wNewRow 36 h (zeroV E 36)) fun m=>
 Ev s (wStore E 36 m.2 m.1 r) fun t=>
 PI (C90 s) K 20 [o,p,e,f,g,b,m.1,i,j,k,d,l,b] t.2):PI (C90 s) K 19 [o,p,e,f,g,i,j,k,d,l,b] h:=step_of H
theorem P90_20_of (H :
 EvO (rLoad E 36 h g) fun t=>
 Ev s (wCallV (recI E) (some (.func (.func 143) #[] #[])) [p,t] h) fun q=>
 EvO (pIndexAddr E 47 b f) fun u=>
 Ev s (wStore E 3 q.2 u q.1) fun w=>
 PI (C90 s) K 21 [p,r,d,e,b,i,j,k,l,m,o] w.2):PI (C90 s) K 20 [p,r,d,e,b,f,g,i,j,k,l,m,o] h:=step_of H
theorem P90_21_of (H :
 EvO (binFast E .add 3 l (.int .i64 1)) fun p=>
 PI (C90 s) K 18 [m,o,b,d,e,f,g,i,j,k,p] h):PI (C90 s) K 21 [m,o,b,d,e,f,g,i,j,k,l] h:=step_of H
theorem P90_22_of (H :
 EvO (pFieldAddr E 25 2 b) fun m=>
 EvO (rLoad E 23 h m) fun j=>
 EvO (evRead E (tmOf [(64,j)]) (opAt B90 [1,1,1,1,0,1,0,0,1,1,0,0,1,1,1,1,0,0] 2) h) fun o=>
 PI (C90 s) K 23 [k,l,d,e,f,g,i,j,o,(.int .i64 0)] h):PI (C90 s) K 22 [k,l,b,d,e,f,g,i] h:=step_of H
theorem len90_22_2:evRead E (tmOf [(64,.slice a n c)]) (opAt B90 [1,1,1,1,0,1,0,0,1,1,0,0,1,1,1,1,0,0] 2) h=some (.int .i64 (n:Int)):=by cases a <;> kernel_rfl
theorem P90_23_of (H :
 EvO (binFast E .lss 3 i g) fun o=>
 BrK o (PI (C90 s) K 24 [l,m,b,j,d,e,f,k,g,i] h) (PI (C90 s) K 27 [l,m,b,d,e,f] h)):PI (C90 s) K 23 [l,m,b,j,d,e,f,k,g,i] h:=step_of H
theorem P90_24_of (H :
 EvO (pIndexAddr E 23 b d) fun p=>
 EvO (rLoad E 52 h p) fun q=>
 Ev s (wNewRow 52 h (zeroV E 52)) fun l=>
 Ev s (wStore E 52 l.2 l.1 q) fun r=>
 PI (C90 s) K 25 [m,o,e,f,l.1,g,i,j,b,k,d] r.2):PI (C90 s) K 24 [m,o,e,f,g,i,j,b,k,d] h:=step_of H
theorem P90_25_of (H :
 EvO (pNilCheck o) fun x1=>
 EvO (pFieldAddr E 131 0 x1) fun L=>
 EvO (rLoad E 129 h L) fun S=>
 EvO (pFieldAddr E 52 0 f) fun U=>
 EvO (rLoad E 3 h U) fun V=>
 EvO (pNilCheck o) fun x7=>
 EvO (pFieldAddr E 131 0 x7) fun W=>
 EvO (rLoad E 129 h W) fun X=>
 EvO (pFieldAddr E 52 0 f) fun q=>
 EvO (rLoad E 3 h q) fun r=>
 EvO (pIndexAddr E 129 X r) fun t=>
 EvO (rLoad E 132 h t) fun u=>
 EvO (pFieldAddr E 52 1 f) fun C=>
 EvO (rLoad E 3 h C) fun D=>
 EvO (pIndexAddr E 47 p D) fun F=>
 EvO (rLoad E 3 h F) fun G=>
 EvO (pFieldAddr E 52 2 f) fun J=>
 EvO (rLoad E 3 h J) fun M=>
 EvO (pBuild E 134 (some [(0,G),(1,M)])) fun N=>
 Ev s (wBuildSlice E 132 1 (some [(0,N)]) h) fun b=>
 EvO (rLoad E 132 b.2 t) fun e=>veq 100 e u=true ∧
 (EvO (rLoad E 3 b.2 q) fun d=>veq 100 d r=true ∧
 (EvO (rLoad E 129 b.2 W) fun k=>veq 100 k X=true ∧
 (EvO (rLoad E 3 b.2 U) fun j=>veq 100 j V=true ∧
 (EvO (rLoad E 129 b.2 L) fun i=>veq 100 i S=true ∧
 (Ev s (wBuiltinO E .append [132,132] [u,b.1] b.2) fun g=>
 EvO (rLoad E 3 g.2 U) fun m=>veq 100 m V=true ∧
 (EvO (rLoad E 129 g.2 L) fun l=>veq 100 l S=true ∧
 (EvO (pIndexAddr E 129 S V) fun O=>
 Ev s (wStore E 132 g.2 O g.1) fun Q=>
 PI (C90 s) K 26 [Y,Z,o,p,w,x,y,z,A,B] Q.2)))))))):PI (C90 s) K 25 [Y,Z,o,p,f,w,x,y,z,A,B] h:=step_of H
theorem P90_26_of (H :
 EvO (binFast E .add 3 k (.int .i64 1)) fun o=>
 PI (C90 s) K 23 [l,m,b,d,e,f,g,i,j,o] h):PI (C90 s) K 26 [l,m,b,d,e,f,g,i,j,k] h:=step_of H
theorem P90_27_of (H :
 Ev s (wBuildSlice E 126 1 (some [(0,b)]) h) fun g=>
 Ev s (wBuiltinO E .append [126,126] [k,g.1] g.2) fun i=>
 PI (C90 s) K 28 [j,i.1,d,e,f] i.2):PI (C90 s) K 27 [j,k,b,d,e,f] h:=step_of H
theorem P90_28_of (H :
 EvO (binFast E .add 3 e (.int .i64 1)) fun i=>
 PI (C90 s) K 13 [f,g,b,d,i] h):PI (C90 s) K 28 [f,g,b,d,e] h:=step_of H
theorem P90_29_of (H :
 K .ret [b] h):PI (C90 s) K 29 [b] h:=step_of H
theorem F90_some (H:PI (C90 true) (KR E [.tmp 2] fun x k=>(isFlat x=false\/k.wm<h.next)/\Rp x ⟨k.t,k.next,cond (Nat.ble h.wm k.wm) h.wm k.wm⟩) 0 [v0] h.fresh):Ev true ((recI E).call 90 [v0] h) fun x=>Rp x.1 x.2:=someF Tryz.f90 (ev_of (C90 true) H)
noncomputable def B94:Code:=bodyOf Tryz.f94
noncomputable def C94 (s:Bool):Cx:=⟨E,s,none,B94,[([0],[0,1]),([1,0],[0,1]),([1,1,0],[0,1,5]),([1,1,1,0,0],[0,1,5,6]),([1,1,1,0,1,0,0,0],[6]),([1,1,1,0,1,0,0,1,0,0],[]),([1,1,1,0,1,0,1,0],[]),([1,1,1,1,0,0],[0,1,6]),([1,1,1,1,0,1,0,0],[]),([1,1,1,1,1,0,0],[0,1]),([1,1,1,1,1,0,1,0,0],[]),([1,1,1,1,1,1,0,0],[0,1]),([1,1,1,1,1,1,0,1,0,0],[]),([1,1,1,1,1,1,1,0],[])],[4],[]⟩
theorem P94_0_of (H :
 PI (C94 s) K 1 [b,d] h):PI (C94 s) K 0 [b,d] h:=step_of H
theorem P94_1_of (H :
 Ev s (wCallV (recI E) (some (.func (.func 154) #[] #[])) [b] h) fun d=>
 PI (C94 s) K 2 [b,e,d.1] d.2):PI (C94 s) K 1 [b,e] h:=step_of H
theorem P94_2_of (H :
 Ev s (wCallV (recI E) (some (.func (.func 154) #[] #[])) [b] h) fun d=>
 PI (C94 s) K 3 [e,b,f,d.1] d.2):PI (C94 s) K 2 [e,b,f] h:=step_of H
theorem P94_3_of (H :
 BrK f (PI (C94 s) K 4 [b] h) (PI (C94 s) K 7 [d,e,b] h)):PI (C94 s) K 3 [d,e,f,b] h:=step_of H
theorem P94_7_of (H :
 BrK e (PI (C94 s) K 8 [] h) (PI (C94 s) K 9 [b,d] h)):PI (C94 s) K 7 [b,d,e] h:=step_of H
theorem P94_9_of (H :
 EvO (binFast E .lss 3 b d) fun e=>
 BrK e (PI (C94 s) K 10 [] h) (PI (C94 s) K 11 [b,d] h)):PI (C94 s) K 9 [b,d] h:=step_of H
theorem P94_10_of (H :
 K .ret [(.int .i64 (-1))] h):PI (C94 s) K 10 [] h:=step_of H
theorem P94_11_of (H :
 EvO (binFast E .gtr 3 b d) fun e=>
 BrK e (PI (C94 s) K 12 [] h) (PI (C94 s) K 13 [] h)):PI (C94 s) K 11 [b,d] h:=step_of H
theorem P94_12_of (H :
 K .ret [(.int .i64 1)] h):PI (C94 s) K 12 [] h:=step_of H
theorem P94_13_of (H :
 K .ret [(.int .i64 0)] h):PI (C94 s) K 13 [] h:=step_of H
theorem F94_flat (hok:h.ok) (hv:isScalar v=true) (H:PI (C94 s) (KR E [.tmp 4] fun x k=>x=v/\h.next<=k.wm) 0 [v0,v1] h.fresh):(recI E).call 94 [v0,v1] h=some [(v,h)]:=flatF Tryz.f94 hok hv (ev_of (C94 s) H)
noncomputable def B105:Code:=bodyOf Tryz.f105
noncomputable def C105 (s:Bool):Cx:=⟨E,s,none,B105,[([0],[0]),([1,0],[0])],[2],[]⟩
theorem P105_0_of (H :
 PI (C105 s) K 1 [b] h):PI (C105 s) K 0 [b] h:=step_of H
theorem P105_1_of (H :
 EvO (binFast E .eql 3 d (.int .i64 1)) fun b=>
 EvO (gdB b false d) fun e=>
 EvO (gdB b false (binFast E .eql 3 e (.int .i64 2))) fun f=>
 EvO (pickV b (some (.bool true)) f) fun g=>
 K .ret [g] h):PI (C105 s) K 1 [d] h:=step_of H
theorem F105_flat (hok:h.ok) (hv:isScalar v=true) (H:PI (C105 s) (KR E [.tmp 2] fun x k=>x=v/\h.next<=k.wm) 0 [v0] h.fresh):(recI E).call 105 [v0] h=some [(v,h)]:=flatF Tryz.f105 hok hv (ev_of (C105 s) H)
noncomputable def B121:Code:=bodyOf Tryz.f121
noncomputable def C121 (s:Bool):Cx:=⟨E,s,none,B121,[([0],[0]),([1,0,0],[1]),([1,0,1,0,0],[]),([1,1,0,0],[1]),([1,1,0,1,0,0,0],[1,29,30,31]),([1,1,0,1,0,0,1,1,0,0,0],[1,29,30,31]),([1,1,0,1,0,0,1,1,0,0,1,0],[1,3,4,29,30,31]),([1,1,0,1,0,0,1,1,0,0,1,1,0,0],[]),([1,1,0,1,0,0,1,1,1],[1,29,30,31]),([1,1,1,0],[1]),([1,1,1,1,0,0],[1,5]),([1,1,1,1,0,1,0,0,0],[1,5,56,57,58]),([1,1,1,1,0,1,0,0,1,1,0,0,0],[1,5,56,57,58]),([1,1,1,1,0,1,0,0,1,1,0,0,1,0],[1,5,6,7,56,57,58]),([1,1,1,1,0,1,0,0,1,1,0,0,1,1,0,0],[]),([1,1,1,1,0,1,0,0,1,1,1],[1,5,56,57,58]),([1,1,1,1,1,0],[])],[2],[]⟩
abbrev P121_2 (s:Bool) (K:KF) (h:AH):Prop:=PI (C121 s) K 2 [] h
abbrev P121_3 (s:Bool) (K:KF) (b:Value) (h:AH):Prop:=PI (C121 s) K 3 [b] h
abbrev P121_4 (s:Bool) (K:KF) (f b d e:Value) (h:AH):Prop:=PI (C121 s) K 4 [f,b,d,e] h
abbrev P121_7 (s:Bool) (K:KF) (h:AH):Prop:=PI (C121 s) K 7 [] h
abbrev P121_8 (s:Bool) (K:KF) (f b d e:Value) (h:AH):Prop:=PI (C121 s) K 8 [f,b,d,e] h
abbrev P121_11 (s:Bool) (K:KF) (f g b d e:Value) (h:AH):Prop:=PI (C121 s) K 11 [f,g,b,d,e] h
abbrev P121_14 (s:Bool) (K:KF) (h:AH):Prop:=PI (C121 s) K 14 [] h
abbrev P121_15 (s:Bool) (K:KF) (f g b d e:Value) (h:AH):Prop:=PI (C121 s) K 15 [f,g,b,d,e] h
theorem P121_0_of (H :
 Ev s (wNewRow 25 h d) fun b=>
 PI (C121 s) K 1 [b.1] b.2):PI (C121 s) K 0 [d] h:=step_of H
theorem P121_1_of (H :
 EvO (pFieldAddr E 25 0 d) fun q=>
 EvO (rLoad E 3 h q) fun r=>
 EvO (binFast E .lss 3 r (.int .i64 1)) fun f=>
 EvO (gdB f false (pFieldAddr E 25 0 d)) fun t=>
 EvO (gdB f false (rLoad E 3 h t)) fun u=>
 EvO (gdB f false (binFast E .gtr 3 u (.int .i64 20000))) fun w=>
 EvO (pickV f (some (.bool true)) w) fun e=>
 EvO (gdB e false (pFieldAddr E 25 1 d)) fun x=>
 EvO (gdB e false (rLoad E 22 h x)) fun g=>
 EvO (gdB e false (evRead E (tmOf [(18,g)]) (opAt B121 [1,0,0] 11) h)) fun i=>
 EvO (gdB e false (binFast E .gtr 3 i (.int .i64 4000))) fun j=>
 EvO (pickV e (some (.bool true)) j) fun b=>
 EvO (gdB b false (pFieldAddr E 25 2 d)) fun k=>
 EvO (gdB b false (rLoad E 23 h k)) fun l=>
 EvO (gdB b false (evRead E (tmOf [(24,l)]) (opAt B121 [1,0,0] 17) h)) fun m=>
 EvO (gdB b false (binFast E .gtr 3 m (.int .i64 100000))) fun o=>
 EvO (pickV b (some (.bool true)) o) fun p=>
 BrK p (PI (C121 s) K 2 [] h) (PI (C121 s) K 3 [d] h)):PI (C121 s) K 1 [d] h:=step_of H
theorem len121_1_11:evRead E (tmOf [(18,.slice a n c)]) (opAt B121 [1,0,0] 11) h=some (.int .i64 (n:Int)):=by cases a <;> kernel_rfl
theorem len121_1_17:evRead E (tmOf [(24,.slice a n c)]) (opAt B121 [1,0,0] 17) h=some (.int .i64 (n:Int)):=by cases a <;> kernel_rfl
theorem P121_2_of (H :
 K .ret [(.int .i64 8)] h):PI (C121 s) K 2 [] h:=step_of H
theorem P121_3_of (H :
 EvO (pFieldAddr E 25 1 b) fun e=>
 EvO (rLoad E 22 h e) fun d=>
 EvO (evRead E (tmOf [(29,d)]) (opAt B121 [1,1,0,0] 2) h) fun f=>
 PI (C121 s) K 4 [b,d,f,(.int .i64 0)] h):PI (C121 s) K 3 [b] h:=step_of H
theorem len121_3_2:evRead E (tmOf [(29,.slice a n c)]) (opAt B121 [1,1,0,0] 2) h=some (.int .i64 (n:Int)):=by cases a <;> kernel_rfl
theorem P121_4_of (H :
 EvO (binFast E .lss 3 d b) fun g=>
 BrK g (PI (C121 s) K 5 [f,e,b,d] h) (PI (C121 s) K 9 [f] h)):PI (C121 s) K 4 [f,e,b,d] h:=step_of H
theorem P121_5_of (H :
 EvO (pIndexAddr E 22 d b) fun i=>
 EvO (rLoad E 36 h i) fun j=>
 Ev s (wNewRow 36 h (zeroV E 36)) fun f=>
 Ev s (wStore E 36 f.2 f.1 j) fun k=>
 PI (C121 s) K 6 [g,b,f.1,d,e,b] k.2):PI (C121 s) K 5 [g,d,e,b] h:=step_of H
theorem P121_6_of (H :
 EvO (rLoad E 36 h w) fun x=>
 Ev s (wCallV (recI E) (some (.func (.func 167) #[] #[])) [x] h) fun e=>
 EvO (binFast E .neq 29 e.1 (.int .i64 0)) fun f=>
 EvO (gdB f false u) fun y=>
 EvO (gdB f false (binFast E .gtr 3 y (.int .i64 0))) fun z=>
 EvO (gdB f false z) fun b=>
 EvO (gdB b true (pFieldAddr E 25 1 t)) fun A=>
 EvO (gdB b true (rLoad E 22 e.2 A)) fun B=>
 EvO (gdB b true u) fun C=>
 EvO (gdB b true (binFast E .sub 3 C (.int .i64 1))) fun k=>
 EvO (gdB b true (pIndexAddr E 22 B k)) fun l=>
 EvO (gdB b true (rLoad E 36 e.2 l)) fun m=>
 EvO (gdB b true (rLoad E 36 e.2 w)) fun o=>
 Ev s (gdW b true (wCallV (recI E) (some (.func (.func 168) #[] #[])) [m,o] e.2) e.2) fun d=>
 EvO (gdB b true (binFast E .geq 3 d.1 (.int .i64 0))) fun p=>
 EvO (gdB f false (pickV b p (some (.bool false)))) fun q=>
 EvO (pickV f (some (.bool true)) q) fun r=>
 BrK r (PI (C121 s) K 7 [] d.2) (PI (C121 s) K 8 [t,g,i,j] d.2)):PI (C121 s) K 6 [t,u,w,g,i,j] h:=step_of H
theorem P121_7_of (H :
 K .ret [(.int .i64 8)] h):PI (C121 s) K 7 [] h:=step_of H
theorem P121_8_of (H :
 EvO (binFast E .add 3 e (.int .i64 1)) fun g=>
 PI (C121 s) K 4 [f,b,d,g] h):PI (C121 s) K 8 [f,b,d,e] h:=step_of H
theorem P121_9_of (H :
 PI (C121 s) K 10 [b,(.func (.func 169) #[] #[])] h):PI (C121 s) K 9 [b] h:=step_of H
theorem P121_10_of (H :
 EvO (pFieldAddr E 25 2 b) fun f=>
 EvO (rLoad E 23 h f) fun d=>
 EvO (evRead E (tmOf [(56,d)]) (opAt B121 [1,1,1,1,0,0] 2) h) fun g=>
 PI (C121 s) K 11 [b,e,d,g,(.int .i64 0)] h):PI (C121 s) K 10 [b,e] h:=step_of H
theorem len121_10_2:evRead E (tmOf [(56,.slice a n c)]) (opAt B121 [1,1,1,1,0,0] 2) h=some (.int .i64 (n:Int)):=by cases a <;> kernel_rfl
theorem P121_11_of (H :
 EvO (binFast E .lss 3 d b) fun i=>
 BrK i (PI (C121 s) K 12 [f,g,e,b,d] h) (PI (C121 s) K 16 [] h)):PI (C121 s) K 11 [f,g,e,b,d] h:=step_of H
theorem P121_12_of (H :
 EvO (pIndexAddr E 23 d b) fun j=>
 EvO (rLoad E 52 h j) fun k=>
 Ev s (wNewRow 52 h (zeroV E 52)) fun f=>
 Ev s (wStore E 52 f.2 f.1 k) fun l=>
 PI (C121 s) K 13 [g,i,b,f.1,d,e,b] l.2):PI (C121 s) K 12 [g,i,d,e,b] h:=step_of H
theorem P121_13_of (H :
 EvO (pFieldAddr E 52 0 o) fun Z=>
 EvO (rLoad E 3 h Z) fun x2=>
 EvO (pFieldAddr E 25 0 k) fun x3=>
 EvO (rLoad E 3 h x3) fun x4=>
 Ev s (wCallV (recI E) m [x2,x4] h) fun l=>
 EvO (unFast .not l.1) fun i=>
 EvO (gdB i false m) fun x8=>
 EvO (gdB i false (pFieldAddr E 52 2 o)) fun x9=>
 EvO (gdB i false (rLoad E 3 l.2 x9)) fun t=>
 EvO (gdB i false (pFieldAddr E 25 0 k)) fun u=>
 EvO (gdB i false (rLoad E 3 l.2 u)) fun w=>
 Ev s (gdW i false (wCallV (recI E) x8 [t,w] l.2) l.2) fun e=>
 EvO (gdB i false (unFast .not e.1)) fun x=>
 EvO (pickV i (some (.bool true)) x) fun d=>
 EvO (gdB d false m) fun y=>
 EvO (gdB d false (pFieldAddr E 52 1 o)) fun z=>
 EvO (gdB d false (rLoad E 3 e.2 z)) fun A=>
 EvO (gdB d false (pFieldAddr E 25 1 k)) fun B=>
 EvO (gdB d false (rLoad E 22 e.2 B)) fun C=>
 EvO (gdB d false (evRead E (tmOf [(84,C)]) (opAt B121 [1,1,1,1,0,1,0,0,1,1,0,0,1,0] 22) e.2)) fun D=>
 Ev s (gdW d false (wCallV (recI E) y [A,D] e.2) e.2) fun f=>
 EvO (gdB d false (unFast .not f.1)) fun F=>
 EvO (pickV d (some (.bool true)) F) fun g=>
 EvO (gdB g false Y) fun G=>
 EvO (gdB g false (binFast E .gtr 3 G (.int .i64 0))) fun J=>
 EvO (gdB g false J) fun b=>
 EvO (gdB b true (pFieldAddr E 25 2 k)) fun L=>
 EvO (gdB b true (rLoad E 23 f.2 L)) fun M=>
 EvO (gdB b true Y) fun N=>
 EvO (gdB b true (binFast E .sub 3 N (.int .i64 1))) fun O=>
 EvO (gdB b true (pIndexAddr E 23 M O)) fun Q=>
 EvO (gdB b true (rLoad E 52 f.2 Q)) fun S=>
 EvO (gdB b true (rLoad E 52 f.2 o)) fun U=>
 Ev s (gdW b true (wCallV (recI E) (some (.func (.func 170) #[] #[])) [S,U] f.2) f.2) fun j=>
 EvO (gdB b true (binFast E .geq 3 j.1 (.int .i64 0))) fun V=>
 EvO (gdB g false (pickV b V (some (.bool false)))) fun W=>
 EvO (pickV g (some (.bool true)) W) fun X=>
 BrK X (PI (C121 s) K 14 [] j.2) (PI (C121 s) K 15 [k,m,p,q,r] j.2)):PI (C121 s) K 13 [k,m,Y,o,p,q,r] h:=step_of H
theorem len121_13_22:evRead E (tmOf [(84,.slice a n c)]) (opAt B121 [1,1,1,1,0,1,0,0,1,1,0,0,1,0] 22) h=some (.int .i64 (n:Int)):=by cases a <;> kernel_rfl
theorem P121_14_of (H :
 K .ret [(.int .i64 8)] h):PI (C121 s) K 14 [] h:=step_of H
theorem P121_15_of (H :
 EvO (binFast E .add 3 e (.int .i64 1)) fun i=>
 PI (C121 s) K 11 [f,g,b,d,i] h):PI (C121 s) K 15 [f,g,b,d,e] h:=step_of H
theorem P121_16_of (H :
 K .ret [(.int .i64 0)] h):PI (C121 s) K 16 [] h:=step_of H
theorem F121_flat (hok:h.ok) (hv:isScalar v=true) (H:PI (C121 s) (KR E [.tmp 2] fun x k=>x=v/\h.next<=k.wm) 0 [v0] h.fresh):(recI E).call 121 [v0] h=some [(v,h)]:=flatF Tryz.f121 hok hv (ev_of (C121 s) H)
noncomputable def B122:Code:=bodyOf Tryz.f122
noncomputable def C122 (s:Bool):Cx:=⟨E,s,none,B122,[([0],[0,1]),([1,0],[2,3])],[4],[]⟩
theorem P122_0_of (H :
 Ev s (wNewRow 54 h e) fun b=>
 Ev s (wNewRow 54 b.2 f) fun d=>
 PI (C122 s) K 1 [b.1,d.1] d.2):PI (C122 s) K 0 [e,f] h:=step_of H
theorem P122_1_of (H :
 EvO (pIndexAddr E 54 i (some (.int .i64 0))) fun q=>
 EvO (rLoad E 3 h q) fun r=>
 EvO (pIndexAddr E 54 j (some (.int .i64 0))) fun t=>
 EvO (rLoad E 3 h t) fun u=>
 EvO (pIndexAddr E 54 i (some (.int .i64 1))) fun k=>
 EvO (rLoad E 3 h k) fun l=>
 EvO (pIndexAddr E 54 j (some (.int .i64 1))) fun m=>
 EvO (rLoad E 3 h m) fun o=>
 Ev s (wCallV (recI E) (some (.func (.func 94) #[] #[])) [r,u] h) fun g=>
 EvO (rLoad E 3 g.2 m) fun d=>veq 100 d o=true ∧
 (EvO (rLoad E 3 g.2 k) fun b=>veq 100 b l=true ∧
 (Ev s (wCallV (recI E) (some (.func (.func 94) #[] #[])) [l,o] g.2) fun p=>
 Ev s (wBuildSlice E 47 2 (some [(0,g.1),(1,p.1)]) p.2) fun e=>
 Ev s (wCallV (recI E) (some (.func (.func 171) #[] #[])) [e.1] e.2) fun f=>
 K .ret [f.1] f.2))):PI (C122 s) K 1 [i,j] h:=step_of H
theorem F122_flat (hok:h.ok) (hv:isScalar v=true) (H:PI (C122 s) (KR E [.tmp 4] fun x k=>x=v/\h.next<=k.wm) 0 [v0,v1] h.fresh):(recI E).call 122 [v0,v1] h=some [(v,h)]:=flatF Tryz.f122 hok hv (ev_of (C122 s) H)
noncomputable def B123:Code:=bodyOf Tryz.f123
noncomputable def C123 (s:Bool):Cx:=⟨E,s,none,B123,[([0],[0,1,2]),([1,0],[1,2,3])],[6],[]⟩
theorem P123_0_of (H :
 Ev s (wNewRow 176 h d) fun b=>
 PI (C123 s) K 1 [e,f,b.1] b.2):PI (C123 s) K 0 [d,e,f] h:=step_of H
theorem P123_1_of (H :
 EvO (pFieldAddr E 176 2 e) fun f=>
 EvO (rLoad E 174 h f) fun g=>
 EvO (pBuild E 54 (some [(0,b),(1,d)])) fun i=>
 EvO (rLookup E 174 false g i h) fun j=>
 K .ret [j] h):PI (C123 s) K 1 [b,d,e] h:=step_of H
theorem F123_flat (hok:h.ok) (hv:isScalar v=true) (H:PI (C123 s) (KR E [.tmp 6] fun x k=>x=v/\h.next<=k.wm) 0 [v0,v1,v2] h.fresh):(recI E).call 123 [v0,v1,v2] h=some [(v,h)]:=flatF Tryz.f123 hok hv (ev_of (C123 s) H)
noncomputable def B124:Code:=bodyOf Tryz.f124
noncomputable def C124 (s:Bool):Cx:=⟨E,s,none,B124,[([0],[0,1]),([1,0,0],[2,3]),([1,0,1,0,0,0],[2,3,11]),([1,0,1,0,0,1,1,0,0],[2,3,11]),([1,0,1,0,0,1,1,0,1,0],[2,3,5,11]),([1,0,1,0,0,1,1,0,1,1,0,0,0],[2,3,5,11,25,26,27]),([1,0,1,0,0,1,1,0,1,1,0,0,1,1,0,0,0],[2,3,5,11,25,26,27]),([1,0,1,0,0,1,1,0,1,1,0,0,1,1,0,0,1,0],[2,3,5,7,11,25,26,27]),([1,0,1,0,0,1,1,0,1,1,0,0,1,1,0,0,1,1,0,0],[]),([1,0,1,0,0,1,1,0,1,1,0,0,1,1,1],[2,3,5,11,25,26,27]),([1,1,0],[])],[4],[]⟩
abbrev P124_2 (s:Bool) (K:KF) (d e b:Value) (h:AH):Prop:=PI (C124 s) K 2 [d,e,b] h
abbrev P124_5 (s:Bool) (K:KF) (g i j b d e f:Value) (h:AH):Prop:=PI (C124 s) K 5 [g,i,j,b,d,e,f] h
theorem P124_0_of (H :
 Ev s (wNewRow 178 h e) fun b=>
 Ev s (wNewRow 112 b.2 f) fun d=>
 PI (C124 s) K 1 [b.1,d.1] d.2):PI (C124 s) K 0 [e,f] h:=step_of H
theorem P124_1_of (H :
 EvO (pFieldAddr E 178 0 b) fun f=>
 EvO (pFieldAddr E 176 2 f) fun g=>
 EvO (rLoad E 174 h g) fun i=>
 Ev s (wRange i h) fun d=>
 PI (C124 s) K 2 [b,e,d.1] d.2):PI (C124 s) K 1 [b,e] h:=step_of H
theorem P124_2_of (H :
 Ev s (wNext false b h) fun d=>
 EvO (pExtract 0 d.1) fun g=>
 BrK g (PI (C124 s) K 3 [e,f,b] d.2) (PI (C124 s) K 10 [] d.2)):PI (C124 s) K 2 [e,f,b] h:=step_of H
theorem P124_3_of (H :
 EvO (rEntry b h) fun g=>
 EvO (pExtract 0 g) fun i=>
 Ev s (wNewRow 54 h (zeroV E 54)) fun d=>
 Ev s (wStore E 54 d.2 d.1 i) fun j=>
 PI (C124 s) K 4 [e,f,d.1,b] j.2):PI (C124 s) K 3 [e,f,b] h:=step_of H
theorem P124_4_of (H :
 EvO (pFieldAddr E 178 0 e) fun j=>
 EvO (pFieldAddr E 176 0 j) fun k=>
 EvO (rLoad E 128 h k) fun l=>
 EvO (pNilCheck l) fun m=>
 EvO (pFieldAddr E 131 0 m) fun o=>
 EvO (rLoad E 129 h o) fun p=>
 EvO (pIndexAddr E 54 f (some (.int .i64 0))) fun q=>
 EvO (rLoad E 3 h q) fun r=>
 EvO (pIndexAddr E 129 p r) fun t=>
 EvO (rLoad E 132 h t) fun g=>
 EvO (evRead E (tmOf [(25,g)]) (opAt B124 [1,0,1,0,0,1,1,0,1,0] 10) h) fun d=>
 PI (C124 s) K 5 [e,i,f,b,g,d,(.int .i64 0)] h):PI (C124 s) K 4 [e,i,f,b] h:=step_of H
theorem len124_4_10:evRead E (tmOf [(25,.slice a n c)]) (opAt B124 [1,0,1,0,0,1,1,0,1,0] 10) h=some (.int .i64 (n:Int)):=by cases a <;> kernel_rfl
theorem P124_5_of (H :
 EvO (binFast E .lss 3 e d) fun k=>
 BrK k (PI (C124 s) K 6 [g,i,j,b,f,d,e] h) (PI (C124 s) K 2 [g,i,b] h)):PI (C124 s) K 5 [g,i,j,b,f,d,e] h:=step_of H
theorem P124_6_of (H :
 EvO (pIndexAddr E 132 b d) fun l=>
 EvO (rLoad E 134 h l) fun m=>
 Ev s (wNewRow 134 h (zeroV E 134)) fun g=>
 Ev s (wStore E 134 g.2 g.1 m) fun o=>
 PI (C124 s) K 7 [i,j,k,g.1,e,b,f,d] o.2):PI (C124 s) K 6 [i,j,k,e,b,f,d] h:=step_of H
theorem P124_7_of (H :
 EvO (pFieldAddr E 112 0 k) fun m=>
 EvO (rLoad E 109 h m) fun o=>
 EvO (rLoad E 178 h j) fun p=>
 EvO (pIndexAddr E 54 g (some (.int .i64 0))) fun q=>
 EvO (rLoad E 3 h q) fun r=>
 EvO (pIndexAddr E 54 g (some (.int .i64 1))) fun t=>
 EvO (rLoad E 3 h t) fun u=>
 EvO (rLoad E 134 h l) fun w=>
 Ev s (wCallV (recI E) o [p,r,u,w] h) fun i=>
 EvO (unFast .not i.1) fun x=>
 BrK x (PI (C124 s) K 8 [] i.2) (PI (C124 s) K 9 [j,k,g,b,d,e,f] i.2)):PI (C124 s) K 7 [j,k,g,l,b,d,e,f] h:=step_of H
theorem P124_8_of (H :
 K .ret [(.bool false)] h):PI (C124 s) K 8 [] h:=step_of H
theorem P124_9_of (H :
 EvO (binFast E .add 3 f (.int .i64 1)) fun k=>
 PI (C124 s) K 5 [g,i,j,b,d,e,k] h):PI (C124 s) K 9 [g,i,j,b,d,e,f] h:=step_of H
theorem P124_10_of (H :
 K .ret [(.bool true)] h):PI (C124 s) K 10 [] h:=step_of H
theorem F124_flat (hok:h.ok) (hv:isScalar v=true) (H:PI (C124 s) (KR E [.tmp 4] fun x k=>x=v/\h.next<=k.wm) 0 [v0,v1] h.fresh):(recI E).call 124 [v0,v1] h=some [(v,h)]:=flatF Tryz.f124 hok hv (ev_of (C124 s) H)
noncomputable def B125:Code:=bodyOf Tryz.f125
noncomputable def C125 (s:Bool):Cx:=⟨E,s,none,B125,[([0],[0]),([1,0],[1,2]),([1,1,0,0],[1,2,3]),([1,1,0,1,0,0,0],[2,3,13]),([1,1,0,1,0,0,1,1,0,0],[2,3,13]),([1,1,0,1,0,0,1,1,0,1],[2,3,4,13]),([1,1,1,0],[2,3])],[2],[]⟩
abbrev P125_3 (s:Bool) (K:KF) (d e b:Value) (h:AH):Prop:=PI (C125 s) K 3 [d,e,b] h
def Q125_0 (s:Bool) (K:KF) (v0:Value) (h:AH):Prop:=
 Ev s (wNewRow 176 h v0) fun x0=>
 Ev s (wNewRow 176 x0.2 (zeroV E 176)) fun x1=>
 PI (C125 s) K 1 [x0.1,x1.1] x1.2
theorem P125_0_of (H:Q125_0 s K b h):PI (C125 s) K 0 [b] h:=step_of H
def Q125_1 (s:Bool) (K:KF) (v1 v2:Value) (h:AH):Prop:=
 EvO (pFieldAddr E 176 1 v1) fun x0=>
 EvO (rLoad E 128 h x0) fun x1=>
 EvO (pFieldAddr E 176 0 v1) fun x2=>
 EvO (rLoad E 128 h x2) fun x3=>
 Ev s (one ((.map (some (h).next):Value),(h).new (.map [] 0))) fun x4=>
 EvO (pBuild E 176 (some [(0,x1),(1,x3),(2,x4.1)])) fun x5=>
 Ev s (wNewRow 176 x4.2 (zeroV E 176)) fun x6=>
 Ev s (wStore E 176 x6.2 x6.1 x5) fun x7=>
 PI (C125 s) K 2 [v1,v2,x6.1] x7.2
theorem P125_1_of (H:Q125_1 s K b d h):PI (C125 s) K 1 [b,d] h:=step_of H
def Q125_2 (s:Bool) (K:KF) (v1 v2 v3:Value) (h:AH):Prop:=
 EvO (pFieldAddr E 176 2 v1) fun x0=>
 EvO (rLoad E 174 h x0) fun x1=>
 Ev s (wRange x1 h) fun x2=>
 PI (C125 s) K 3 [v2,v3,x2.1] x2.2
theorem P125_2_of (H:Q125_2 s K b d e h):PI (C125 s) K 2 [b,d,e] h:=step_of H
def Q125_3 (s:Bool) (K:KF) (v2 v3 v13:Value) (h:AH):Prop:=
 Ev s (wNext false v13 h) fun x0=>
 EvO (pExtract 0 x0.1) fun x1=>
 BrK x1 (PI (C125 s) K 4 [v2,v3,v13] x0.2) (PI (C125 s) K 6 [v2,v3] x0.2)
theorem P125_3_of (H:Q125_3 s K d e b h):PI (C125 s) K 3 [d,e,b] h:=step_of H
def Q125_4 (s:Bool) (K:KF) (v2 v3 v13:Value) (h:AH):Prop:=
 EvO (rEntry v13 h) fun x0=>
 EvO (pExtract 0 x0) fun x1=>
 Ev s (wNewRow 54 h (zeroV E 54)) fun x2=>
 Ev s (wStore E 54 x2.2 x2.1 x1) fun x3=>
 PI (C125 s) K 5 [v2,v3,x2.1,v13] x3.2
theorem P125_4_of (H:Q125_4 s K d e b h):PI (C125 s) K 4 [d,e,b] h:=step_of H
def Q125_5 (s:Bool) (K:KF) (v2 v3 v4 v13:Value) (h:AH):Prop:=
 EvO (pFieldAddr E 176 2 v3) fun x0=>
 EvO (rLoad E 174 h x0) fun x1=>
 EvO (pIndexAddr E 54 v4 (some (.int .i64 1))) fun x2=>
 EvO (rLoad E 3 h x2) fun x3=>
 EvO (pIndexAddr E 54 v4 (some (.int .i64 0))) fun x4=>
 EvO (rLoad E 3 h x4) fun x5=>
 EvO (pBuild E 54 (some [(0,x3),(1,x5)])) fun x6=>
 Ev s (wMapUpdate E 174 x1 x6 (some (.bool true)) h) fun x7=>
 PI (C125 s) K 3 [v2,v3,v13] x7.2
theorem P125_5_of (H:Q125_5 s K d e f b h):PI (C125 s) K 5 [d,e,f,b] h:=step_of H
def Q125_6 (s:Bool) (K:KF) (v2 v3:Value) (h:AH):Prop:=
 EvO (rLoad E 176 h v3) fun x0=>
 Ev s (wStore E 176 h v2 x0) fun x1=>
 K .ret [v2] x1.2
theorem P125_6_of (H:Q125_6 s K b d h):PI (C125 s) K 6 [b,d] h:=step_of H
theorem F125_ev (H:PI (C125 s) (KR E [.cell 2 176] Rp) 0 [v0] h):EvC E s Tryz.f125 [v0] h Rp:=ev_of (C125 s) H
theorem F125_get:E.tab.fn.get 125=some Tryz.f125:=by kernel_rfl
theorem F125_body:Tryz.f125.body=some B125:=by kernel_rfl
theorem F125_sum (l:List Value) (h:AH):E.sum 125 l h=none:=by kernel_rfl
noncomputable def B128:Code:=bodyOf Tryz.f128
noncomputable def C128 (s:Bool):Cx:=⟨E,s,none,B128,[([0],[0,2,3]),([1,0],[2,4,7])],[8],[]⟩
theorem P128_0_of (H :
 Ev s (wNewRow 178 h e) fun b=>
 Ev s (wNewRow 134 b.2 g) fun d=>
 PI (C128 s) K 1 [f,b.1,d.1] d.2):PI (C128 s) K 0 [e,f,g] h:=step_of H
theorem P128_1_of (H :
 EvO (pFieldAddr E 178 0 d) fun g=>
 EvO (pFieldAddr E 176 1 g) fun i=>
 EvO (rLoad E 128 h i) fun j=>
 EvO (pNilCheck j) fun k=>
 EvO (pFieldAddr E 131 0 k) fun l=>
 EvO (rLoad E 129 h l) fun m=>
 EvO (pIndexAddr E 129 m e) fun o=>
 EvO (rLoad E 132 h o) fun p=>
 EvO (pMakeFunc (.func 174) (some []) [f,d]) fun q=>
 Ev s (wCallV (recI E) (some (.func (.func 173) #[] #[])) [p,q] h) fun b=>
 K .ret [b.1] b.2):PI (C128 s) K 1 [e,d,f] h:=step_of H
theorem F128_flat (hok:h.ok) (hv:isScalar v=true) (H:PI (C128 s) (KR E [.tmp 8] fun x k=>x=v/\h.next<=k.wm) 0 [v0,v2,v3] h.fresh):(recI E).call 128 [v0,v1,v2,v3] h=some [(v,h)]:=flatF Tryz.f128 hok hv (ev_of (C128 s) H)
noncomputable def B130:Code:=bodyOf Tryz.f130
theorem F130_get:E.tab.fn.get 130=some Tryz.f130:=by kernel_rfl
theorem F130_body:Tryz.f130.body=some B130:=by kernel_rfl
theorem F130_sum (l:List Value) (h:AH):E.sum 130 l h=none:=by kernel_rfl
noncomputable def B143:Code:=bodyOf Tryz.f143
noncomputable def C143 (s:Bool):Cx:=⟨E,s,none,B143,[([0],[0,1]),([1,0,0],[0,3]),([1,0,1,0,0],[]),([1,1,0],[0,3]),([1,1,1,0,0],[0,3,5,6]),([1,1,1,0,1,0],[0,3,5]),([1,1,1,1,0],[5])],[4],[]⟩
abbrev P143_0 (s:Bool) (K:KF) (b d:Value) (h:AH):Prop:=PI (C143 s) K 0 [b,d] h
abbrev P143_1 (s:Bool) (K:KF) (b d:Value) (h:AH):Prop:=PI (C143 s) K 1 [b,d] h
abbrev P143_4 (s:Bool) (K:KF) (b d e f:Value) (h:AH):Prop:=PI (C143 s) K 4 [b,d,e,f] h
abbrev P143_6 (s:Bool) (K:KF) (b:Value) (h:AH):Prop:=PI (C143 s) K 6 [b] h
theorem P143_0_of (H :
 Ev s (wNewRow 36 h e) fun b=>
 PI (C143 s) K 1 [d,b.1] b.2):PI (C143 s) K 0 [d,e] h:=step_of H
theorem P143_1_of (H :
 EvO (pFieldAddr E 36 0 b) fun e=>
 EvO (rLoad E 3 h e) fun f=>
 EvO (binFast E .eql 3 f (.int .i64 (-1))) fun g=>
 BrK g (PI (C143 s) K 2 [] h) (PI (C143 s) K 3 [d,b] h)):PI (C143 s) K 1 [d,b] h:=step_of H
theorem P143_2_of (H :
 K .ret [(.int .i64 0)] h):PI (C143 s) K 2 [] h:=step_of H
theorem P143_3_of (H :
 EvO (pNilCheck d) fun f=>
 EvO (pFieldAddr E 197 0 f) fun g=>
 EvO (rLoad E 22 h g) fun i=>
 EvO (rLoad E 36 h e) fun j=>
 Ev s (wCallV (recI E) (some (.func (.func 190) #[] #[])) (some [i,j,(.func (.func 168) #[] #[])]) h) fun b=>
 EvO (pExtract 0 b.1) fun k=>
 EvO (pExtract 1 b.1) fun l=>
 PI (C143 s) K 4 [d,e,k,l] b.2):PI (C143 s) K 3 [d,e] h:=step_of H
theorem P143_4_of (H :
 EvO (unFast .not f) fun g=>
 BrK g (PI (C143 s) K 5 [d,e,b] h) (PI (C143 s) K 6 [b] h)):PI (C143 s) K 4 [d,e,b,f] h:=step_of H
theorem P143_5_of (H :
 EvO (pNilCheck g) fun o=>
 EvO (pFieldAddr E 197 0 o) fun j=>
 EvO (rLoad E 22 h j) fun k=>
 EvO (rLoad E 36 h m) fun p=>
 Ev s (wBuildSlice E 22 1 (some [(0,p)]) h) fun f=>
 EvO (rLoad E 22 f.2 j) fun b=>veq 100 b k=true ∧
 (Ev s (wCallV (recI E) (some (.func (.func 191) #[] #[])) [k,i,f.1] f.2) fun l=>
 EvO (pNilCheck g) fun q=>
 EvO (pFieldAddr E 197 0 q) fun d=>
 Ev s (wStore E 22 l.2 d l.1) fun e=>
 PI (C143 s) K 6 [i] e.2)):PI (C143 s) K 5 [g,m,i] h:=step_of H
theorem P143_6_of (H :
 EvO (binFast E .add 3 b (.int .i64 1)) fun d=>
 K .ret [d] h):PI (C143 s) K 6 [b] h:=step_of H
theorem F143_flat1 (hok:h.ok) (hv:isFlat v=true) (H:PI (C143 true) (KR E [.tmp 4] fun x k=>x=v/\h.next<=k.wm) 0 [v0,v1] h.fresh):(recI E).call 143 [v0,v1] h=some [(v,h)]:=flatF1 Tryz.f143 hok hv (ev_of (C143 true) H)
theorem F143_some (H:PI (C143 true) (KR E [.tmp 4] fun x k=>(isFlat x=false\/k.wm<h.next)/\Rp x ⟨k.t,k.next,cond (Nat.ble h.wm k.wm) h.wm k.wm⟩) 0 [v0,v1] h.fresh):Ev true ((recI E).call 143 [v0,v1] h) fun x=>Rp x.1 x.2:=someF Tryz.f143 (ev_of (C143 true) H)
noncomputable def B154:Code:=bodyOf Tryz.f154
noncomputable def C154 (s:Bool):Cx:=⟨E,s,none,B154,[([0],[0]),([1,0],[0])],[2],[]⟩
theorem P154_0_of (H :
 PI (C154 s) K 1 [b] h):PI (C154 s) K 0 [b] h:=step_of H
theorem P154_1_of (H :
 EvO (binFast E .neq 3 b b) fun d=>
 K .ret [d] h):PI (C154 s) K 1 [b] h:=step_of H
theorem F154_flat (hok:h.ok) (hv:isScalar v=true) (H:PI (C154 s) (KR E [.tmp 2] fun x k=>x=v/\h.next<=k.wm) 0 [v0] h.fresh):(recI E).call 154 [v0] h=some [(v,h)]:=flatF Tryz.f154 hok hv (ev_of (C154 s) H)
noncomputable def B167:Code:=bodyOf Tryz.f167
noncomputable def C167 (s:Bool):Cx:=⟨E,s,none,B167,[([0],[0]),([1,0],[1]),([1,1,0,0],[1,3]),([1,1,0,1,0,0],[]),([1,1,1,0],[])],[2],[]⟩
abbrev P167_2 (s:Bool) (K:KF) (b d:Value) (h:AH):Prop:=PI (C167 s) K 2 [b,d] h
abbrev P167_3 (s:Bool) (K:KF) (h:AH):Prop:=PI (C167 s) K 3 [] h
abbrev P167_4 (s:Bool) (K:KF) (h:AH):Prop:=PI (C167 s) K 4 [] h
theorem P167_0_of (H :
 Ev s (wNewRow 36 h d) fun b=>
 PI (C167 s) K 1 [b.1] b.2):PI (C167 s) K 0 [d] h:=step_of H
theorem P167_1_of (H :
 EvO (pFieldAddr E 36 0 d) fun e=>
 EvO (rLoad E 3 h e) fun f=>
 EvO (binFast E .eql 3 f (.int .i64 (-3))) fun b=>
 EvO (gdB b false (pFieldAddr E 36 0 d)) fun g=>
 EvO (gdB b false (rLoad E 3 h g)) fun i=>
 EvO (gdB b false (binFast E .eql 3 i (.int .i64 (-1)))) fun j=>
 EvO (pickV b (some (.bool true)) j) fun k=>
 PI (C167 s) K 2 [d,k] h):PI (C167 s) K 1 [d] h:=step_of H
theorem P167_2_of (H :
 EvO (pFieldAddr E 36 0 g) fun A=>
 EvO (rLoad E 3 h A) fun B=>
 EvO (binFast E .lss 3 B (.int .i64 (-3))) fun j=>
 EvO (gdB j false (pFieldAddr E 36 0 g)) fun C=>
 EvO (gdB j false (rLoad E 3 h C)) fun D=>
 EvO (gdB j false (binFast E .geq 3 D (.int .i64 32))) fun F=>
 EvO (pickV j (some (.bool true)) F) fun i=>
 EvO (gdB i false (pFieldAddr E 36 1 g)) fun G=>
 EvO (gdB i false (rLoad E 34 h G)) fun k=>
 EvO (gdB i false (evRead E (tmOf [(22,k)]) (opAt B167 [1,1,0,0] 11) h)) fun l=>
 EvO (gdB i false (binFast E .gtr 3 l (.int .i64 8))) fun m=>
 EvO (pickV i (some (.bool true)) m) fun d=>
 EvO (gdB d false z) fun o=>
 EvO (gdB d false o) fun b=>
 EvO (gdB b true (pFieldAddr E 36 1 g)) fun p=>
 EvO (gdB b true (rLoad E 34 h p)) fun q=>
 EvO (gdB b true (evRead E (tmOf [(30,q)]) (opAt B167 [1,1,0,0] 19) h)) fun r=>
 EvO (gdB b true (binFast E .gtr 3 r (.int .i64 0))) fun t=>
 EvO (gdB d false (pickV b t (some (.bool false)))) fun u=>
 EvO (pickV d (some (.bool true)) u) fun e=>
 EvO (gdB e false (pFieldAddr E 36 1 g)) fun w=>
 EvO (gdB e false (rLoad E 34 h w)) fun x=>
 Ev s (gdW e false (wCallV (recI E) (some (.func (.func 215) #[] #[])) (some [x,(.func (.func 216) #[] #[])]) h) h) fun f=>
 EvO (pickV e (some (.bool true)) f.1) fun y=>
 BrK y (PI (C167 s) K 3 [] f.2) (PI (C167 s) K 4 [] f.2)):PI (C167 s) K 2 [g,z] h:=step_of H
theorem len167_2_11:evRead E (tmOf [(22,.slice a n c)]) (opAt B167 [1,1,0,0] 11) h=some (.int .i64 (n:Int)):=by cases a <;> kernel_rfl
theorem len167_2_19:evRead E (tmOf [(30,.slice a n c)]) (opAt B167 [1,1,0,0] 19) h=some (.int .i64 (n:Int)):=by cases a <;> kernel_rfl
theorem P167_3_of (H :
 K .ret [(.int .i64 170)] h):PI (C167 s) K 3 [] h:=step_of H
theorem P167_4_of (H :
 K .ret [(.int .i64 0)] h):PI (C167 s) K 4 [] h:=step_of H
theorem F167_flat (hok:h.ok) (hv:isScalar v=true) (H:PI (C167 s) (KR E [.tmp 2] fun x k=>x=v/\h.next<=k.wm) 0 [v0] h.fresh):(recI E).call 167 [v0] h=some [(v,h)]:=flatF Tryz.f167 hok hv (ev_of (C167 s) H)
noncomputable def B168:Code:=bodyOf Tryz.f168
noncomputable def C168 (s:Bool):Cx:=⟨E,s,none,B168,[([0],[0,1]),([1,0],[2,3])],[4],[]⟩
theorem P168_0_of (H :
 Ev s (wNewRow 36 h e) fun b=>
 Ev s (wNewRow 36 b.2 f) fun d=>
 PI (C168 s) K 1 [b.1,d.1] d.2):PI (C168 s) K 0 [e,f] h:=step_of H
theorem P168_1_of (H :
 EvO (pFieldAddr E 36 0 i) fun q=>
 EvO (rLoad E 3 h q) fun r=>
 EvO (pFieldAddr E 36 0 j) fun t=>
 EvO (rLoad E 3 h t) fun u=>
 EvO (pFieldAddr E 36 1 i) fun k=>
 EvO (rLoad E 34 h k) fun l=>
 EvO (pFieldAddr E 36 1 j) fun m=>
 EvO (rLoad E 34 h m) fun o=>
 Ev s (wCallV (recI E) (some (.func (.func 94) #[] #[])) [r,u] h) fun g=>
 EvO (rLoad E 34 g.2 m) fun d=>veq 100 d o=true ∧
 (EvO (rLoad E 34 g.2 k) fun b=>veq 100 b l=true ∧
 (Ev s (wCallV (recI E) (some (.func (.func 218) #[] #[])) (some [l,o,(.func (.func 219) #[] #[])]) g.2) fun p=>
 Ev s (wBuildSlice E 47 2 (some [(0,g.1),(1,p.1)]) p.2) fun e=>
 Ev s (wCallV (recI E) (some (.func (.func 171) #[] #[])) [e.1] e.2) fun f=>
 K .ret [f.1] f.2))):PI (C168 s) K 1 [i,j] h:=step_of H
theorem F168_flat (hok:h.ok) (hv:isScalar v=true) (H:PI (C168 s) (KR E [.tmp 4] fun x k=>x=v/\h.next<=k.wm) 0 [v0,v1] h.fresh):(recI E).call 168 [v0,v1] h=some [(v,h)]:=flatF Tryz.f168 hok hv (ev_of (C168 s) H)
noncomputable def B169:Code:=bodyOf Tryz.f169
noncomputable def C169 (s:Bool):Cx:=⟨E,s,none,B169,[([0],[0,1]),([1,0],[0,1])],[4],[]⟩
theorem P169_0_of (H :
 PI (C169 s) K 1 [b,d] h):PI (C169 s) K 0 [b,d] h:=step_of H
theorem P169_1_of (H :
 EvO (binFast E .geq 3 d (.int .i64 0)) fun b=>
 EvO (gdB b true d) fun f=>
 EvO (gdB b true e) fun g=>
 EvO (gdB b true (binFast E .lss 3 f g)) fun i=>
 EvO (pickV b i (some (.bool false))) fun j=>
 K .ret [j] h):PI (C169 s) K 1 [d,e] h:=step_of H
theorem F169_flat (hok:h.ok) (hv:isScalar v=true) (H:PI (C169 s) (KR E [.tmp 4] fun x k=>x=v/\h.next<=k.wm) 0 [v0,v1] h.fresh):(recI E).call 169 [v0,v1] h=some [(v,h)]:=flatF Tryz.f169 hok hv (ev_of (C169 s) H)
noncomputable def B170:Code:=bodyOf Tryz.f170
noncomputable def C170 (s:Bool):Cx:=⟨E,s,none,B170,[([0],[0,1]),([1,0],[2,3])],[4],[]⟩
theorem P170_0_of (H :
 Ev s (wNewRow 52 h e) fun b=>
 Ev s (wNewRow 52 b.2 f) fun d=>
 PI (C170 s) K 1 [b.1,d.1] d.2):PI (C170 s) K 0 [e,f] h:=step_of H
theorem P170_1_of (H :
 EvO (pFieldAddr E 52 0 u) fun B=>
 EvO (rLoad E 3 h B) fun C=>
 EvO (pFieldAddr E 52 0 w) fun D=>
 EvO (rLoad E 3 h D) fun F=>
 EvO (pFieldAddr E 52 1 u) fun x=>
 EvO (rLoad E 3 h x) fun y=>
 EvO (pFieldAddr E 52 1 w) fun z=>
 EvO (rLoad E 3 h z) fun A=>
 EvO (pFieldAddr E 52 2 u) fun g=>
 EvO (rLoad E 3 h g) fun i=>
 EvO (pFieldAddr E 52 2 w) fun j=>
 EvO (rLoad E 3 h j) fun k=>
 Ev s (wCallV (recI E) (some (.func (.func 94) #[] #[])) [C,F] h) fun l=>
 EvO (rLoad E 3 l.2 j) fun d=>veq 100 d k=true ∧
 (EvO (rLoad E 3 l.2 g) fun b=>veq 100 b i=true ∧
 (EvO (rLoad E 3 l.2 z) fun o=>veq 100 o A=true ∧
 (EvO (rLoad E 3 l.2 x) fun m=>veq 100 m y=true ∧
 (Ev s (wCallV (recI E) (some (.func (.func 94) #[] #[])) [y,A] l.2) fun t=>
 EvO (rLoad E 3 t.2 j) fun f=>veq 100 f k=true ∧
 (EvO (rLoad E 3 t.2 g) fun e=>veq 100 e i=true ∧
 (Ev s (wCallV (recI E) (some (.func (.func 94) #[] #[])) [i,k] t.2) fun p=>
 Ev s (wBuildSlice E 47 3 (some [(0,l.1),(1,t.1),(2,p.1)]) p.2) fun q=>
 Ev s (wCallV (recI E) (some (.func (.func 171) #[] #[])) [q.1] q.2) fun r=>
 K .ret [r.1] r.2))))))):PI (C170 s) K 1 [u,w] h:=step_of H
theorem F170_flat (hok:h.ok) (hv:isScalar v=true) (H:PI (C170 s) (KR E [.tmp 4] fun x k=>x=v/\h.next<=k.wm) 0 [v0,v1] h.fresh):(recI E).call 170 [v0,v1] h=some [(v,h)]:=flatF Tryz.f170 hok hv (ev_of (C170 s) H)
noncomputable def B171:Code:=bodyOf Tryz.f171
noncomputable def C171 (s:Bool):Cx:=⟨E,s,none,B171,[([0],[0]),([1,0],[0]),([1,1,0,0],[0,3]),([1,1,0,1,0,0,0],[3,6,7,8]),([1,1,0,1,0,0,1,1,0,0,0],[3,6,7,8]),([1,1,0,1,0,0,1,1,0,0,1,0],[3,5,6,7,8]),([1,1,0,1,0,0,1,1,0,0,1,1,0,0],[5]),([1,1,0,1,0,0,1,1,1],[3,6,7,8]),([1,1,1,0],[3])],[2],[]⟩
abbrev P171_3 (s:Bool) (K:KF) (b d e f:Value) (h:AH):Prop:=PI (C171 s) K 3 [b,d,e,f] h
theorem P171_0_of (H :
 PI (C171 s) K 1 [b] h):PI (C171 s) K 0 [b] h:=step_of H
theorem P171_1_of (H :
 PI (C171 s) K 2 [b,(.int .i64 0)] h):PI (C171 s) K 1 [b] h:=step_of H
theorem P171_2_of (H :
 EvO (evRead E (tmOf [(6,b)]) (opAt B171 [1,1,0,0] 1) h) fun e=>
 PI (C171 s) K 3 [d,b,e,(.int .i64 0)] h):PI (C171 s) K 2 [b,d] h:=step_of H
theorem len171_2_1:evRead E (tmOf [(6,.slice a n c)]) (opAt B171 [1,1,0,0] 1) h=some (.int .i64 (n:Int)):=by cases a <;> kernel_rfl
theorem P171_3_of (H :
 EvO (binFast E .lss 3 e d) fun g=>
 BrK g (PI (C171 s) K 4 [b,f,d,e] h) (PI (C171 s) K 8 [b] h)):PI (C171 s) K 3 [b,f,d,e] h:=step_of H
theorem P171_4_of (H :
 EvO (pIndexAddr E 47 b d) fun g=>
 EvO (rLoad E 3 h g) fun i=>
 PI (C171 s) K 5 [e,i,b,f,d] h):PI (C171 s) K 4 [e,b,f,d] h:=step_of H
theorem P171_5_of (H :
 EvO (binFast E .neq 3 d b) fun i=>
 BrK i (PI (C171 s) K 6 [d] h) (PI (C171 s) K 7 [b,e,f,g] h)):PI (C171 s) K 5 [b,d,e,f,g] h:=step_of H
theorem P171_6_of (H :
 K .ret [b] h):PI (C171 s) K 6 [b] h:=step_of H
theorem P171_7_of (H :
 EvO (binFast E .add 3 f (.int .i64 1)) fun g=>
 PI (C171 s) K 3 [b,d,e,g] h):PI (C171 s) K 7 [b,d,e,f] h:=step_of H
theorem P171_8_of (H :
 K .ret [b] h):PI (C171 s) K 8 [b] h:=step_of H
theorem F171_flat (hok:h.ok) (hv:isScalar v=true) (H:PI (C171 s) (KR E [.tmp 2] fun x k=>x=v/\h.next<=k.wm) 0 [v0] h.fresh):(recI E).call 171 [v0] h=some [(v,h)]:=flatF Tryz.f171 hok hv (ev_of (C171 s) H)
noncomputable def B173:Code:=bodyOf Tryz.f173
noncomputable def C173 (s:Bool):Cx:=⟨E,s,none,B173,[([0],[0,1]),([1,0],[0,1])],[4],[]⟩
theorem P173_0_of (H :
 PI (C173 s) K 1 [b,d] h):PI (C173 s) K 0 [b,d] h:=step_of H
theorem P173_1_of (H :
 Ev s (wCallV (recI E) (some (.func (.func 220) #[] #[])) [d,e] h) fun b=>
 EvO (binFast E .geq 3 b.1 (.int .i64 0)) fun f=>
 K .ret [f] b.2):PI (C173 s) K 1 [d,e] h:=step_of H
theorem F173_flat (hok:h.ok) (hv:isScalar v=true) (H:PI (C173 s) (KR E [.tmp 4] fun x k=>x=v/\h.next<=k.wm) 0 [v0,v1] h.fresh):(recI E).call 173 [v0,v1] h=some [(v,h)]:=flatF Tryz.f173 hok hv (ev_of (C173 s) H)
noncomputable def B174:Code:=bodyOf Tryz.f174
noncomputable def C174 (s:Bool):Cx:=⟨E,s,none,B174,[([0],[0,1,2]),([1,0],[1,2,3])],[4],[]⟩
theorem P174_0_of (H :
 Ev s (wNewRow 134 h d) fun b=>
 PI (C174 s) K 1 [e,f,b.1] b.2):PI (C174 s) K 0 [d,e,f] h:=step_of H
theorem P174_1_of (H :
 EvO (pFieldAddr E 134 0 j) fun l=>
 EvO (rLoad E 3 h l) fun m=>
 EvO (pFieldAddr E 134 0 i) fun o=>
 EvO (rLoad E 3 h o) fun p=>
 EvO (binFast E .eql 3 m p) fun b=>
 EvO (gdB b true (pFieldAddr E 178 0 k)) fun q=>
 EvO (gdB b true (rLoad E 176 h q)) fun r=>
 EvO (gdB b true (pFieldAddr E 134 1 i)) fun t=>
 EvO (gdB b true (rLoad E 3 h t)) fun u=>
 EvO (gdB b true (pFieldAddr E 134 1 j)) fun e=>
 EvO (gdB b true (rLoad E 3 h e)) fun f=>
 Ev s (gdW b true (wCallV (recI E) (some (.func (.func 123) #[] #[])) [r,u,f] h) h) fun d=>
 EvO (pickV b d.1 (some (.bool false))) fun g=>
 K .ret [g] d.2):PI (C174 s) K 1 [i,k,j] h:=step_of H
theorem F174_flat (hok:h.ok) (hv:isScalar v=true) (H:PI (C174 s) (KR E [.tmp 4] fun x k=>x=v/\h.next<=k.wm) 0 [v0,v1,v2] h.fresh):(recI E).call 174 [v0,v1,v2] h=some [(v,h)]:=flatF Tryz.f174 hok hv (ev_of (C174 s) H)
noncomputable def B178:Code:=bodyOf Tryz.f178
noncomputable def C178 (s:Bool):Cx:=⟨E,s,none,B178,[([0],[0,1]),([1,0],[2,3])],[4],[]⟩
theorem P178_0_of (H :
 Ev s (wNewRow 128 h e) fun b=>
 Ev s (wNewRow 3 b.2 f) fun d=>
 PI (C178 s) K 1 [b.1,d.1] d.2):PI (C178 s) K 0 [e,f] h:=step_of H
theorem P178_1_of (H :
 EvO (pMakeFunc (.func 222) (some []) [d,b]) fun e=>
 K .ret [e] h):PI (C178 s) K 1 [b,d] h:=step_of H
theorem F178_some (H:PI (C178 true) (KR E [.tmp 4] fun x k=>(isFlat x=false\/k.wm<h.next)/\Rp x ⟨k.t,k.next,cond (Nat.ble h.wm k.wm) h.wm k.wm⟩) 0 [v0,v1] h.fresh):Ev true ((recI E).call 178 [v0,v1] h) fun x=>Rp x.1 x.2:=someF Tryz.f178 (ev_of (C178 true) H)
noncomputable def B190:Code:=bodyOf Tryz.f190
noncomputable def C190 (s:Bool):Cx:=⟨E,s,none,B190,[([0],[0,1,2]),([1,0],[0,2,4]),([1,1,0],[0,2,4,8]),([1,1,1,0,0,0,0,0],[0,2,4,8,9,10]),([1,1,1,0,0,0,1,0,0],[0,2,4,8,9,10]),([1,1,1,0,0,0,1,0,1,0],[0,2,4,8,9,10,11]),([1,1,1,0,0,0,1,0,1,1,0],[0,2,4,8,10,11]),([1,1,1,0,0,0,1,0,1,1,1],[0,2,4,8,9,11]),([1,1,1,1,0],[0,2,4,8,9])],[6,7],[]⟩
abbrev P190_3 (s:Bool) (K:KF) (d e f g i b:Value) (h:AH):Prop:=PI (C190 s) K 3 [d,e,f,g,i,b] h
theorem P190_0_of (H :
 Ev s (wNewRow 36 h e) fun b=>
 PI (C190 s) K 1 [d,f,b.1] b.2):PI (C190 s) K 0 [d,e,f] h:=step_of H
theorem P190_1_of (H :
 EvO (evRead E (tmOf [(12,b)]) (opAt B190 [1,0] 1) h) fun f=>
 PI (C190 s) K 2 [b,d,e,f] h):PI (C190 s) K 1 [b,d,e] h:=step_of H
theorem len190_1_1:evRead E (tmOf [(12,.slice a n c)]) (opAt B190 [1,0] 1) h=some (.int .i64 (n:Int)):=by cases a <;> kernel_rfl
theorem P190_2_of (H :
 PI (C190 s) K 3 [d,e,f,b,(.int .i64 0),b] h):PI (C190 s) K 2 [d,e,f,b] h:=step_of H
theorem P190_3_of (H :
 EvO (binFast E .lss 3 d b) fun j=>
 BrK j (PI (C190 s) K 4 [e,f,g,i,d,b] h) (PI (C190 s) K 8 [e,f,g,i,d] h)):PI (C190 s) K 3 [e,f,g,i,d,b] h:=step_of H
theorem P190_4_of (H :
 EvO (binFast E .add 3 d b) fun j=>
 EvO (evRead E (tmOf [(20,j)]) (opAt B190 [1,1,1,0,0,0,1,0,0] 3) h) fun k=>
 EvO (evPure E (tmOf [(21,k)]) (opAt B190 [1,1,1,0,0,0,1,0,0] 4)) fun l=>
 EvO (evRead E (tmOf [(22,l)]) (opAt B190 [1,1,1,0,0,0,1,0,0] 5) h) fun m=>
 PI (C190 s) K 5 [e,f,g,i,d,b,m] h):PI (C190 s) K 4 [e,f,g,i,d,b] h:=step_of H
theorem P190_5_of (H :
 EvO (pIndexAddr E 22 d b) fun l=>
 EvO (rLoad E 36 h l) fun m=>
 EvO (rLoad E 36 h g) fun o=>
 Ev s (wCallV (recI E) f [m,o] h) fun i=>
 EvO (binFast E .lss 3 i.1 (.int .i64 0)) fun p=>
 BrK p (PI (C190 s) K 6 [d,f,g,j,e,b] i.2) (PI (C190 s) K 7 [d,f,g,j,k,b] i.2)):PI (C190 s) K 5 [d,f,g,j,k,e,b] h:=step_of H
theorem P190_6_of (H :
 EvO (binFast E .add 3 d (.int .i64 1)) fun j=>
 PI (C190 s) K 3 [e,f,g,i,j,b] h):PI (C190 s) K 6 [e,f,g,i,b,d] h:=step_of H
theorem P190_7_of (H :
 PI (C190 s) K 3 [d,e,f,g,i,b] h):PI (C190 s) K 7 [d,e,f,g,i,b] h:=step_of H
def Q190_8 (s:Bool) (K:KF) (v0 v2 v4 v8 v9:Value) (h:AH):Prop:=
 EvO (binFast E .lss 3 v9 v8) fun x3=>
 EvO (gdB x3 true v2) fun x5=>
 EvO (gdB x3 true v0) fun x6=>
 EvO (gdB x3 true v9) fun x7=>
 EvO (gdB x3 true (pIndexAddr E 22 x6 x7)) fun x8=>
 EvO (gdB x3 true (rLoad E 36 h x8)) fun x9=>
 EvO (gdB x3 true (rLoad E 36 h v4)) fun x10=>
 Ev s (gdW x3 true (wCallV (recI E) x5 [x9,x10] h) h) fun x11=>
 EvO (gdB x3 true (binFast E .eql 3 x11.1 (.int .i64 0))) fun x12=>
 EvO (pickV x3 x12 (some (.bool false))) fun x13=>
 K .ret [v9,x13] x11.2
theorem P190_8_of (H:Q190_8 s K b d e f g h):PI (C190 s) K 8 [b,d,e,f,g] h:=step_of H
theorem F190_flatE {Rp:Value->Prop} (hok:h.ok) (H:PI (C190 true) (KR E [.tmp 6,.tmp 7] fun x k=>(isFlat x=true/\Rp x)/\h.next<=k.wm) 0 [v0,v1,v2] h.fresh):∃ v,Rp v/\(recI E).call 190 [v0,v1,v2] h=some [(v,h)]:=flatFE Tryz.f190 hok (ev_of (C190 true) H)
noncomputable def B191:Code:=bodyOf Tryz.f191
noncomputable def C191 (s:Bool):Cx:=⟨E,s,none,B191,[([0],[0,1,2]),([1,0],[0,1,2]),([1,1,0],[0,1,2]),([1,1,1,0,0],[0,1,2,7]),([1,1,1,0,1,0,0],[0]),([1,1,1,1,0],[0,1,2,7]),([1,1,1,1,1,0,0],[0,1,2,7,8]),([1,1,1,1,1,0,1,0,0],[0,2]),([1,1,1,1,1,1,0,0],[0,1,2,7,8]),([1,1,1,1,1,1,0,1,0,0],[0,1,2,7,8]),([1,1,1,1,1,1,0,1,0,1,0],[0,1,2,7,9]),([1,1,1,1,1,1,0,1,0,1,1,0],[0,1,7,9]),([1,1,1,1,1,1,0,1,0,1,1,1,0],[9]),([1,1,1,1,1,1,1,0],[0,1,2,7,8]),([1,1,1,1,1,1,1,1,0,0],[0,1,2,7,8]),([1,1,1,1,1,1,1,1,0,1,0,0],[0,1,2,7]),([1,1,1,1,1,1,1,1,0,1,0,1,0],[0,1,2]),([1,1,1,1,1,1,1,1,0,1,0,1,1,0],[0]),([1,1,1,1,1,1,1,1,1,0],[0,1,2,7,8]),([1,1,1,1,1,1,1,1,1,1,0],[0,1,7]),([1,1,1,1,1,1,1,1,1,1,1,0],[0])],[6],[]⟩
abbrev P191_0 (s:Bool) (K:KF) (b d e:Value) (h:AH):Prop:=PI (C191 s) K 0 [b,d,e] h
theorem P191_0_of (H :
 PI (C191 s) K 1 [b,d,e] h):PI (C191 s) K 0 [b,d,e] h:=step_of H
theorem P191_1_of (H :
 EvO (evPure E (tmOf [(10,b),(11,d)]) (opAt B191 [1,0] 2)) fun f=>
 PI (C191 s) K 2 [b,d,e] h):PI (C191 s) K 1 [b,d,e] h:=step_of H
theorem P191_2_of (H :
 EvO (evRead E (tmOf [(13,b)]) (opAt B191 [1,1,0] 1) h) fun f=>
 PI (C191 s) K 3 [d,e,b,f] h):PI (C191 s) K 2 [d,e,b] h:=step_of H
theorem len191_2_1:evRead E (tmOf [(13,.slice a n c)]) (opAt B191 [1,1,0] 1) h=some (.int .i64 (n:Int)):=by cases a <;> kernel_rfl
theorem P191_3_of (H :
 EvO (binFast E .eql 3 d (.int .i64 0)) fun g=>
 BrK g (PI (C191 s) K 4 [b] h) (PI (C191 s) K 5 [b,e,f,d] h)):PI (C191 s) K 3 [b,e,f,d] h:=step_of H
theorem P191_5_of (H :
 EvO (evRead E (tmOf [(18,b)]) (opAt B191 [1,1,1,1,0] 1) h) fun g=>
 PI (C191 s) K 6 [b,d,e,f,g] h):PI (C191 s) K 5 [b,d,e,f] h:=step_of H
theorem len191_5_1:evRead E (tmOf [(18,.slice a n c)]) (opAt B191 [1,1,1,1,0] 1) h=some (.int .i64 (n:Int)):=by cases a <;> kernel_rfl
theorem P191_6_of (H :
 EvO (binFast E .eql 3 d f) fun i=>
 BrK i (PI (C191 s) K 7 [b,e] h) (PI (C191 s) K 8 [b,d,e,g,f] h)):PI (C191 s) K 6 [b,d,e,g,f] h:=step_of H
theorem P191_7_of (H :
 Ev s (wBuiltinO E .append [22,22] [d,e] h) fun b=>
 K .ret [b.1] b.2):PI (C191 s) K 7 [d,e] h:=step_of H
theorem F191_ev (H:PI (C191 s) (KR E [.tmp 6] Rp) 0 [v0,v1,v2] h):EvC E s Tryz.f191 [v0,v1,v2] h Rp:=ev_of (C191 s) H
theorem F191_get:E.tab.fn.get 191=some Tryz.f191:=by kernel_rfl
theorem F191_body:Tryz.f191.body=some B191:=by kernel_rfl
noncomputable def B215:Code:=bodyOf Tryz.f215
noncomputable def C215 (s:Bool):Cx:=⟨E,s,none,B215,[([0],[0,1]),([1,0],[0,1])],[4],[]⟩
theorem P215_0_of (H :
 PI (C215 s) K 1 [b,d] h):PI (C215 s) K 0 [b,d] h:=step_of H
theorem P215_1_of (H :
 Ev s (wCallV (recI E) (some (.func (.func 243) #[] #[])) [d,e] h) fun b=>
 EvO (binFast E .geq 3 b.1 (.int .i64 0)) fun f=>
 K .ret [f] b.2):PI (C215 s) K 1 [d,e] h:=step_of H
theorem F215_flat (hok:h.ok) (hv:isScalar v=true) (H:PI (C215 s) (KR E [.tmp 4] fun x k=>x=v/\h.next<=k.wm) 0 [v0,v1] h.fresh):(recI E).call 215 [v0,v1] h=some [(v,h)]:=flatF Tryz.f215 hok hv (ev_of (C215 s) H)
noncomputable def B216:Code:=bodyOf Tryz.f216
noncomputable def C216 (s:Bool):Cx:=⟨E,s,none,B216,[([0],[0]),([1,0],[1])],[2],[]⟩
theorem P216_0_of (H :
 Ev s (wNewRow 173 h d) fun b=>
 PI (C216 s) K 1 [b.1] b.2):PI (C216 s) K 0 [d] h:=step_of H
theorem P216_1_of (H :
 EvO (rLoad E 173 h d) fun e=>
 Ev s (wCallV (recI E) (some (.func (.func 217) #[] #[])) [e] h) fun b=>
 EvO (unFast .not b.1) fun f=>
 K .ret [f] b.2):PI (C216 s) K 1 [d] h:=step_of H
theorem F216_flat (hok:h.ok) (hv:isScalar v=true) (H:PI (C216 s) (KR E [.tmp 2] fun x k=>x=v/\h.next<=k.wm) 0 [v0] h.fresh):(recI E).call 216 [v0] h=some [(v,h)]:=flatF Tryz.f216 hok hv (ev_of (C216 s) H)
noncomputable def B217:Code:=bodyOf Tryz.f217
noncomputable def C217 (s:Bool):Cx:=⟨E,s,none,B217,[([0],[0]),([1,0,0],[1]),([1,0,1,0],[1,3]),([1,0,1,1,0,0],[]),([1,1,0],[1]),([1,1,1,0],[1,5]),([1,1,1,1,0],[1,5])],[2],[]⟩
theorem P217_0_of (H :
 Ev s (wNewRow 173 h d) fun b=>
 PI (C217 s) K 1 [b.1] b.2):PI (C217 s) K 0 [d] h:=step_of H
theorem P217_1_of (H :
 EvO (rLoad E 173 h d) fun e=>
 Ev s (wCallV (recI E) (some (.func (.func 244) #[] #[])) [e] h) fun b=>
 EvO (pExtract 0 b.1) fun f=>
 EvO (pExtract 1 b.1) fun g=>
 PI (C217 s) K 2 [d,f] b.2):PI (C217 s) K 1 [d] h:=step_of H
theorem P217_2_of (H :
 EvO (binFast E .gtr 3 d (.int .i64 2000)) fun e=>
 BrK e (PI (C217 s) K 3 [] h) (PI (C217 s) K 4 [b] h)):PI (C217 s) K 2 [b,d] h:=step_of H
theorem P217_3_of (H :
 K .ret [(.bool false)] h):PI (C217 s) K 3 [] h:=step_of H
theorem P217_4_of (H :
 Ev s (wNewRow 247 h (zeroV E 247)) fun b=>
 PI (C217 s) K 5 [d,b.1] b.2):PI (C217 s) K 4 [d] h:=step_of H
theorem P217_5_of (H :
 EvO (pMakeFunc (.func 245) (some []) [b]) fun e=>
 Ev s (wStore E 247 h b e) fun f=>
 PI (C217 s) K 6 [d,b] f.2):PI (C217 s) K 5 [d,b] h:=step_of H
theorem P217_6_of (H :
 EvO (rLoad E 247 h e) fun f=>
 EvO (rLoad E 173 h d) fun g=>
 Ev s (wCallV (recI E) f [g] h) fun b=>
 K .ret [b.1] b.2):PI (C217 s) K 6 [d,e] h:=step_of H
theorem F217_flat (hok:h.ok) (hv:isScalar v=true) (H:PI (C217 s) (KR E [.tmp 2] fun x k=>x=v/\h.next<=k.wm) 0 [v0] h.fresh):(recI E).call 217 [v0] h=some [(v,h)]:=flatF Tryz.f217 hok hv (ev_of (C217 s) H)
noncomputable def B218:Code:=bodyOf Tryz.f218
noncomputable def C218 (s:Bool):Cx:=⟨E,s,none,B218,[([0],[0,1,2]),([1,0],[0,1,2])],[6],[]⟩
theorem P218_0_of (H :
 PI (C218 s) K 1 [b,d,e] h):PI (C218 s) K 0 [b,d,e] h:=step_of H
theorem P218_1_of (H :
 Ev s (wCallV (recI E) (some (.func (.func 247) #[] #[])) [d,e,f] h) fun b=>
 K .ret [b.1] b.2):PI (C218 s) K 1 [d,e,f] h:=step_of H
theorem F218_flat (hok:h.ok) (hv:isScalar v=true) (H:PI (C218 s) (KR E [.tmp 6] fun x k=>x=v/\h.next<=k.wm) 0 [v0,v1,v2] h.fresh):(recI E).call 218 [v0,v1,v2] h=some [(v,h)]:=flatF Tryz.f218 hok hv (ev_of (C218 s) H)
noncomputable def B219:Code:=bodyOf Tryz.f219
noncomputable def C219 (s:Bool):Cx:=⟨E,s,none,B219,[([0],[0,1]),([1,0,0],[2,3]),([1,0,1,0],[2,3,5]),([1,0,1,1,0,0],[5]),([1,1,0],[2,3])],[4],[]⟩
abbrev P219_3 (s:Bool) (K:KF) (b:Value) (h:AH):Prop:=PI (C219 s) K 3 [b] h
abbrev P219_4 (s:Bool) (K:KF) (b d:Value) (h:AH):Prop:=PI (C219 s) K 4 [b,d] h
theorem P219_0_of (H :
 Ev s (wNewRow 173 h e) fun b=>
 Ev s (wNewRow 173 b.2 f) fun d=>
 PI (C219 s) K 1 [b.1,d.1] d.2):PI (C219 s) K 0 [e,f] h:=step_of H
theorem P219_1_of (H :
 EvO (pFieldAddr E 173 0 B) fun L=>
 EvO (rLoad E 3 h L) fun M=>
 EvO (pFieldAddr E 173 0 C) fun N=>
 EvO (rLoad E 3 h N) fun O=>
 EvO (pFieldAddr E 173 1 B) fun D=>
 EvO (rLoad E 3 h D) fun F=>
 EvO (pFieldAddr E 173 1 C) fun G=>
 EvO (rLoad E 3 h G) fun J=>
 EvO (pFieldAddr E 173 2 B) fun p=>
 EvO (rLoad E 34 h p) fun b=>
 EvO (evRead E (tmOf [(17,b)]) (opAt B219 [1,0,0] 12) h) fun q=>
 EvO (pFieldAddr E 173 2 C) fun r=>
 EvO (rLoad E 34 h r) fun d=>
 EvO (evRead E (tmOf [(20,d)]) (opAt B219 [1,0,0] 15) h) fun t=>
 Ev s (wCallV (recI E) (some (.func (.func 94) #[] #[])) [M,O] h) fun e=>
 EvO (evRead E (tmOf [(20,d)]) (opAt B219 [1,0,0] 15) e.2) fun j=>veq 100 j t=true ∧
 (EvO (rLoad E 34 e.2 r) fun i=>veq 100 i d=true ∧
 (EvO (evRead E (tmOf [(17,b)]) (opAt B219 [1,0,0] 12) e.2) fun g=>veq 100 g q=true ∧
 (EvO (rLoad E 34 e.2 p) fun f=>veq 100 f b=true ∧
 (EvO (rLoad E 3 e.2 G) fun x=>veq 100 x J=true ∧
 (EvO (rLoad E 3 e.2 D) fun w=>veq 100 w F=true ∧
 (Ev s (wCallV (recI E) (some (.func (.func 94) #[] #[])) [F,J] e.2) fun u=>
 EvO (evRead E (tmOf [(20,d)]) (opAt B219 [1,0,0] 15) u.2) fun o=>veq 100 o t=true ∧
 (EvO (rLoad E 34 u.2 r) fun m=>veq 100 m d=true ∧
 (EvO (evRead E (tmOf [(17,b)]) (opAt B219 [1,0,0] 12) u.2) fun l=>veq 100 l q=true ∧
 (EvO (rLoad E 34 u.2 p) fun k=>veq 100 k b=true ∧
 (Ev s (wCallV (recI E) (some (.func (.func 94) #[] #[])) [q,t] u.2) fun y=>
 Ev s (wBuildSlice E 47 3 (some [(0,e.1),(1,u.1),(2,y.1)]) y.2) fun z=>
 Ev s (wCallV (recI E) (some (.func (.func 171) #[] #[])) [z.1] z.2) fun A=>
 PI (C219 s) K 2 [B,C,A.1] A.2))))))))))):PI (C219 s) K 1 [B,C] h:=step_of H
theorem len219_1_12:evRead E (tmOf [(17,.slice a n c)]) (opAt B219 [1,0,0] 12) h=some (.int .i64 (n:Int)):=by cases a <;> kernel_rfl
theorem len219_1_15:evRead E (tmOf [(20,.slice a n c)]) (opAt B219 [1,0,0] 15) h=some (.int .i64 (n:Int)):=by cases a <;> kernel_rfl
theorem P219_2_of (H :
 EvO (binFast E .neq 3 b (.int .i64 0)) fun f=>
 BrK f (PI (C219 s) K 3 [b] h) (PI (C219 s) K 4 [d,e] h)):PI (C219 s) K 2 [d,e,b] h:=step_of H
theorem P219_3_of (H :
 K .ret [b] h):PI (C219 s) K 3 [b] h:=step_of H
theorem P219_4_of (H :
 EvO (pFieldAddr E 173 2 d) fun f=>
 EvO (rLoad E 34 h f) fun g=>
 EvO (pFieldAddr E 173 2 e) fun i=>
 EvO (rLoad E 34 h i) fun j=>
 Ev s (wCallV (recI E) (some (.func (.func 247) #[] #[])) (some [g,j,(.func (.func 219) #[] #[])]) h) fun b=>
 K .ret [b.1] b.2):PI (C219 s) K 4 [d,e] h:=step_of H
theorem F219_flat (hok:h.ok) (hv:isScalar v=true) (H:PI (C219 s) (KR E [.tmp 4] fun x k=>x=v/\h.next<=k.wm) 0 [v0,v1] h.fresh):(recI E).call 219 [v0,v1] h=some [(v,h)]:=flatF Tryz.f219 hok hv (ev_of (C219 s) H)
noncomputable def B220:Code:=bodyOf Tryz.f220
noncomputable def C220 (s:Bool):Cx:=⟨E,s,none,B220,[([0],[0,1]),([1,0,0],[0,1]),([1,0,1,0,0,0],[0,1,7,8]),([1,0,1,0,0,1,1,0,0,0],[0,1,7,8]),([1,0,1,0,0,1,1,0,0,1,0],[0,1,5,7,8]),([1,0,1,0,0,1,1,0,0,1,1,0,0],[5]),([1,0,1,0,0,1,1,1],[0,1,7,8]),([1,1,0],[])],[4],[]⟩
abbrev P220_2 (s:Bool) (K:KF) (b d e f:Value) (h:AH):Prop:=PI (C220 s) K 2 [b,d,e,f] h
theorem P220_0_of (H :
 PI (C220 s) K 1 [b,d] h):PI (C220 s) K 0 [b,d] h:=step_of H
theorem P220_1_of (H :
 EvO (evRead E (tmOf [(6,b)]) (opAt B220 [1,0,0] 1) h) fun e=>
 PI (C220 s) K 2 [b,d,e,(.int .i64 0)] h):PI (C220 s) K 1 [b,d] h:=step_of H
theorem len220_1_1:evRead E (tmOf [(6,.slice a n c)]) (opAt B220 [1,0,0] 1) h=some (.int .i64 (n:Int)):=by cases a <;> kernel_rfl
theorem P220_2_of (H :
 EvO (binFast E .lss 3 d b) fun g=>
 BrK g (PI (C220 s) K 3 [e,f,b,d] h) (PI (C220 s) K 7 [] h)):PI (C220 s) K 2 [e,f,b,d] h:=step_of H
theorem P220_3_of (H :
 PI (C220 s) K 4 [d,e,b,f,b] h):PI (C220 s) K 3 [d,e,f,b] h:=step_of H
theorem P220_4_of (H :
 EvO (pIndexAddr E 132 d f) fun j=>
 EvO (rLoad E 134 h j) fun k=>
 Ev s (wCallV (recI E) e [k] h) fun b=>
 BrK b.1 (PI (C220 s) K 5 [f] b.2) (PI (C220 s) K 6 [d,e,g,i] b.2)):PI (C220 s) K 4 [d,e,f,g,i] h:=step_of H
theorem P220_5_of (H :
 K .ret [b] h):PI (C220 s) K 5 [b] h:=step_of H
theorem P220_6_of (H :
 EvO (binFast E .add 3 f (.int .i64 1)) fun g=>
 PI (C220 s) K 2 [b,d,e,g] h):PI (C220 s) K 6 [b,d,e,f] h:=step_of H
theorem P220_7_of (H :
 K .ret [(.int .i64 (-1))] h):PI (C220 s) K 7 [] h:=step_of H
theorem F220_flat (hok:h.ok) (hv:isScalar v=true) (H:PI (C220 s) (KR E [.tmp 4] fun x k=>x=v/\h.next<=k.wm) 0 [v0,v1] h.fresh):(recI E).call 220 [v0,v1] h=some [(v,h)]:=flatF Tryz.f220 hok hv (ev_of (C220 s) H)
noncomputable def B243:Code:=bodyOf Tryz.f243
noncomputable def C243 (s:Bool):Cx:=⟨E,s,none,B243,[([0],[0,1]),([1,0,0],[0,1]),([1,0,1,0,0,0],[0,1,7,8]),([1,0,1,0,0,1,1,0,0,0],[0,1,7,8]),([1,0,1,0,0,1,1,0,0,1,0],[0,1,5,7,8]),([1,0,1,0,0,1,1,0,0,1,1,0,0],[5]),([1,0,1,0,0,1,1,1],[0,1,7,8]),([1,1,0],[])],[4],[]⟩
abbrev P243_2 (s:Bool) (K:KF) (b d e f:Value) (h:AH):Prop:=PI (C243 s) K 2 [b,d,e,f] h
theorem P243_0_of (H :
 PI (C243 s) K 1 [b,d] h):PI (C243 s) K 0 [b,d] h:=step_of H
theorem P243_1_of (H :
 EvO (evRead E (tmOf [(6,b)]) (opAt B243 [1,0,0] 1) h) fun e=>
 PI (C243 s) K 2 [b,d,e,(.int .i64 0)] h):PI (C243 s) K 1 [b,d] h:=step_of H
theorem len243_1_1:evRead E (tmOf [(6,.slice a n c)]) (opAt B243 [1,0,0] 1) h=some (.int .i64 (n:Int)):=by cases a <;> kernel_rfl
theorem P243_2_of (H :
 EvO (binFast E .lss 3 d b) fun g=>
 BrK g (PI (C243 s) K 3 [e,f,b,d] h) (PI (C243 s) K 7 [] h)):PI (C243 s) K 2 [e,f,b,d] h:=step_of H
theorem P243_3_of (H :
 PI (C243 s) K 4 [d,e,b,f,b] h):PI (C243 s) K 3 [d,e,f,b] h:=step_of H
theorem P243_4_of (H :
 EvO (pIndexAddr E 34 d f) fun j=>
 EvO (rLoad E 173 h j) fun k=>
 Ev s (wCallV (recI E) e [k] h) fun b=>
 BrK b.1 (PI (C243 s) K 5 [f] b.2) (PI (C243 s) K 6 [d,e,g,i] b.2)):PI (C243 s) K 4 [d,e,f,g,i] h:=step_of H
theorem P243_5_of (H :
 K .ret [b] h):PI (C243 s) K 5 [b] h:=step_of H
theorem P243_6_of (H :
 EvO (binFast E .add 3 f (.int .i64 1)) fun g=>
 PI (C243 s) K 2 [b,d,e,g] h):PI (C243 s) K 6 [b,d,e,f] h:=step_of H
theorem P243_7_of (H :
 K .ret [(.int .i64 (-1))] h):PI (C243 s) K 7 [] h:=step_of H
theorem F243_flat (hok:h.ok) (hv:isScalar v=true) (H:PI (C243 s) (KR E [.tmp 4] fun x k=>x=v/\h.next<=k.wm) 0 [v0,v1] h.fresh):(recI E).call 243 [v0,v1] h=some [(v,h)]:=flatF Tryz.f243 hok hv (ev_of (C243 s) H)
noncomputable def B244:Code:=bodyOf Tryz.f244
noncomputable def C244 (s:Bool):Cx:=⟨E,s,none,B244,[([0],[0]),([1,0],[1]),([1,1,0,0],[1,4]),([1,1,0,1,0],[4]),([1,1,0,1,1,0,0],[]),([1,1,1,0],[4])],[2,3],[]⟩
theorem P244_0_of (H :
 Ev s (wNewRow 173 h d) fun b=>
 PI (C244 s) K 1 [b.1] b.2):PI (C244 s) K 0 [d] h:=step_of H
theorem P244_1_of (H :
 Ev s (wNewRow 306 h (zeroV E 306)) fun b=>
 PI (C244 s) K 2 [d,b.1] b.2):PI (C244 s) K 1 [d] h:=step_of H
theorem P244_2_of (H :
 EvO (rLoad E 173 h d) fun e=>
 Ev s (wCallV (recI E) (some (.func (.func 268) #[] #[])) (some [b,e,(.int .i64 1)]) h) fun f=>
 PI (C244 s) K 3 [b] f.2):PI (C244 s) K 2 [d,b] h:=step_of H
theorem P244_3_of (H :
 Ev s (wCallV (recI E) (some (.func (.func 269) #[] #[])) [d] h) fun b=>
 BrK b.1 (PI (C244 s) K 4 [] b.2) (PI (C244 s) K 5 [d] b.2)):PI (C244 s) K 3 [d] h:=step_of H
theorem P244_4_of (H :
 K .ret [(.int .i64 2001),(.int .i64 201)] h):PI (C244 s) K 4 [] h:=step_of H
theorem P244_5_of (H :
 EvO (pFieldAddr E 306 0 b) fun d=>
 EvO (rLoad E 3 h d) fun e=>
 EvO (pFieldAddr E 306 1 b) fun f=>
 EvO (rLoad E 3 h f) fun g=>
 K .ret [e,g] h):PI (C244 s) K 5 [b] h:=step_of H
theorem F244_flat1 (hok:h.ok) (hv:isFlat v=true) (H:PI (C244 true) (KR E [.tmp 2,.tmp 3] fun x k=>x=v/\h.next<=k.wm) 0 [v0] h.fresh):(recI E).call 244 [v0] h=some [(v,h)]:=flatF1 Tryz.f244 hok hv (ev_of (C244 true) H)
noncomputable def B245:Code:=bodyOf Tryz.f245
noncomputable def C245 (s:Bool):Cx:=⟨E,s,none,B245,[([0],[0,1]),([1,0],[1,2])],[3],[]⟩
theorem P245_0_of (H :
 Ev s (wNewRow 173 h d) fun b=>
 PI (C245 s) K 1 [e,b.1] b.2):PI (C245 s) K 0 [d,e] h:=step_of H
theorem P245_1_of (H :
 EvO (pFieldAddr E 173 0 e) fun y=>
 EvO (rLoad E 3 h y) fun z=>
 EvO (binFast E .eql 3 z (.int .i64 2)) fun g=>
 EvO (gdB g true (pFieldAddr E 173 1 e)) fun A=>
 EvO (gdB g true (rLoad E 3 h A)) fun B=>
 EvO (gdB g true (binFast E .geq 3 B (.int .i64 0))) fun C=>
 EvO (pickV g C (some (.bool false))) fun i=>
 EvO (gdB i true (pFieldAddr E 173 1 e)) fun D=>
 EvO (gdB i true (rLoad E 3 h D)) fun j=>
 EvO (gdB i true (binFast E .lss 3 j (.int .i64 256))) fun k=>
 EvO (pickV i k (some (.bool false))) fun d=>
 EvO (gdB d true (pFieldAddr E 173 2 e)) fun l=>
 EvO (gdB d true (rLoad E 34 h l)) fun m=>
 EvO (gdB d true (evRead E (tmOf [(19,m)]) (opAt B245 [1,0] 16) h)) fun o=>
 EvO (gdB d true (binFast E .leq 3 o (.int .i64 8))) fun p=>
 EvO (pickV d p (some (.bool false))) fun b=>
 EvO (gdB b true (pFieldAddr E 173 2 e)) fun q=>
 EvO (gdB b true (rLoad E 34 h q)) fun r=>
 EvO (gdB b true (pMakeFunc (.func 246) (some []) [x])) fun t=>
 Ev s (gdW b true (wCallV (recI E) (some (.func (.func 215) #[] #[])) [r,t] h) h) fun f=>
 EvO (gdB b true (unFast .not f.1)) fun u=>
 EvO (pickV b u (some (.bool false))) fun w=>
 K .ret [w] f.2):PI (C245 s) K 1 [x,e] h:=step_of H
theorem len245_1_16:evRead E (tmOf [(19,.slice a n c)]) (opAt B245 [1,0] 16) h=some (.int .i64 (n:Int)):=by cases a <;> kernel_rfl
theorem F245_flat (hok:h.ok) (hv:isScalar v=true) (H:PI (C245 s) (KR E [.tmp 3] fun x k=>x=v/\h.next<=k.wm) 0 [v0,v1] h.fresh):(recI E).call 245 [v0,v1] h=some [(v,h)]:=flatF Tryz.f245 hok hv (ev_of (C245 s) H)
noncomputable def B246:Code:=bodyOf Tryz.f246
noncomputable def C246 (s:Bool):Cx:=⟨E,s,none,B246,[([0],[0,1]),([1,0],[1,2])],[3],[]⟩
theorem P246_0_of (H :
 Ev s (wNewRow 173 h d) fun b=>
 PI (C246 s) K 1 [e,b.1] b.2):PI (C246 s) K 0 [d,e] h:=step_of H
theorem P246_1_of (H :
 EvO (rLoad E 247 h d) fun f=>
 EvO (rLoad E 173 h e) fun g=>
 Ev s (wCallV (recI E) f [g] h) fun b=>
 EvO (unFast .not b.1) fun i=>
 K .ret [i] b.2):PI (C246 s) K 1 [d,e] h:=step_of H
theorem F246_flat (hok:h.ok) (hv:isScalar v=true) (H:PI (C246 s) (KR E [.tmp 3] fun x k=>x=v/\h.next<=k.wm) 0 [v0,v1] h.fresh):(recI E).call 246 [v0,v1] h=some [(v,h)]:=flatF Tryz.f246 hok hv (ev_of (C246 s) H)
noncomputable def B247:Code:=bodyOf Tryz.f247
noncomputable def C247 (s:Bool):Cx:=⟨E,s,none,B247,[([0],[0,1,2]),([1,0,0],[0,1,2]),([1,0,1,0,0,0],[0,1,2,11,12,13]),([1,0,1,0,0,1,1,0,0,0],[0,1,2,11,12,13]),([1,0,1,0,0,1,1,0,0,1,0,0],[0,1,2,7,8,11,12,13]),([1,0,1,0,0,1,1,0,0,1,0,1,0,0],[]),([1,0,1,0,0,1,1,0,0,1,1,0],[0,1,2,7,8,11,12,13]),([1,0,1,0,0,1,1,0,0,1,1,1,0],[0,1,2,8,9,11,12,13]),([1,0,1,0,0,1,1,0,0,1,1,1,1,0],[0,1,2,10,11,12,13]),([1,0,1,0,0,1,1,0,0,1,1,1,1,1,0,0],[10]),([1,0,1,0,0,1,1,1],[0,1,2,11,12,13]),([1,1,0,0],[0,1]),([1,1,0,1,0,0],[]),([1,1,1,0],[])],[6],[]⟩
abbrev P247_2 (s:Bool) (K:KF) (f g i b d e:Value) (h:AH):Prop:=PI (C247 s) K 2 [f,g,i,b,d,e] h
theorem P247_0_of (H :
 PI (C247 s) K 1 [b,d,e] h):PI (C247 s) K 0 [b,d,e] h:=step_of H
theorem P247_1_of (H :
 EvO (evRead E (tmOf [(11,b)]) (opAt B247 [1,0,0] 1) h) fun f=>
 PI (C247 s) K 2 [b,d,e,b,f,(.int .i64 0)] h):PI (C247 s) K 1 [b,d,e] h:=step_of H
theorem len247_1_1:evRead E (tmOf [(11,.slice a n c)]) (opAt B247 [1,0,0] 1) h=some (.int .i64 (n:Int)):=by cases a <;> kernel_rfl
theorem P247_2_of (H :
 EvO (binFast E .lss 3 d b) fun j=>
 BrK j (PI (C247 s) K 3 [f,g,i,e,b,d] h) (PI (C247 s) K 11 [f,g] h)):PI (C247 s) K 2 [f,g,i,e,b,d] h:=step_of H
theorem P247_3_of (H :
 EvO (pIndexAddr E 34 d b) fun k=>
 EvO (rLoad E 173 h k) fun l=>
 Ev s (wNewRow 173 h (zeroV E 173)) fun f=>
 Ev s (wStore E 173 f.2 f.1 l) fun m=>
 PI (C247 s) K 4 [g,i,j,b,f.1,d,e,b] m.2):PI (C247 s) K 3 [g,i,j,d,e,b] h:=step_of H
theorem P247_4_of (H :
 EvO (evRead E (tmOf [(19,f)]) (opAt B247 [1,0,1,0,0,1,1,0,0,1,0,0] 2) h) fun l=>
 EvO (binFast E .geq 3 g l) fun m=>
 BrK m (PI (C247 s) K 5 [] h) (PI (C247 s) K 6 [i,f,j,g,k,b,d,e] h)):PI (C247 s) K 4 [i,f,j,g,k,b,d,e] h:=step_of H
theorem len247_4_2:evRead E (tmOf [(19,.slice a n c)]) (opAt B247 [1,0,1,0,0,1,1,0,0,1,0,0] 2) h=some (.int .i64 (n:Int)):=by cases a <;> kernel_rfl
theorem P247_5_of (H :
 K .ret [(.int .i64 1)] h):PI (C247 s) K 5 [] h:=step_of H
theorem P247_6_of (H :
 EvO (pIndexAddr E 34 g k) fun m=>
 EvO (rLoad E 173 h m) fun o=>
 Ev s (wNewRow 173 h (zeroV E 173)) fun f=>
 Ev s (wStore E 173 f.2 f.1 o) fun p=>
 PI (C247 s) K 7 [i,g,j,l,f.1,b,d,e] p.2):PI (C247 s) K 6 [i,g,j,k,l,b,d,e] h:=step_of H
theorem P247_7_of (H :
 EvO (rLoad E 173 h k) fun m=>
 EvO (rLoad E 173 h l) fun o=>
 Ev s (wCallV (recI E) f [m,o] h) fun g=>
 PI (C247 s) K 8 [i,j,f,g.1,b,d,e] g.2):PI (C247 s) K 7 [i,j,f,k,l,b,d,e] h:=step_of H
theorem P247_8_of (H :
 EvO (binFast E .neq 3 b (.int .i64 0)) fun k=>
 BrK k (PI (C247 s) K 9 [b] h) (PI (C247 s) K 10 [g,i,j,d,e,f] h)):PI (C247 s) K 8 [g,i,j,b,d,e,f] h:=step_of H
theorem P247_9_of (H :
 K .ret [b] h):PI (C247 s) K 9 [b] h:=step_of H
theorem P247_10_of (H :
 EvO (binFast E .add 3 e (.int .i64 1)) fun j=>
 PI (C247 s) K 2 [f,g,i,b,d,j] h):PI (C247 s) K 10 [f,g,i,b,d,e] h:=step_of H
theorem P247_11_of (H :
 EvO (evRead E (tmOf [(34,b)]) (opAt B247 [1,1,0,0] 1) h) fun e=>
 EvO (evRead E (tmOf [(36,d)]) (opAt B247 [1,1,0,0] 3) h) fun f=>
 EvO (binFast E .lss 3 e f) fun g=>
 BrK g (PI (C247 s) K 12 [] h) (PI (C247 s) K 13 [] h)):PI (C247 s) K 11 [b,d] h:=step_of H
theorem len247_11_1:evRead E (tmOf [(34,.slice a n c)]) (opAt B247 [1,1,0,0] 1) h=some (.int .i64 (n:Int)):=by cases a <;> kernel_rfl
theorem len247_11_3:evRead E (tmOf [(36,.slice a n c)]) (opAt B247 [1,1,0,0] 3) h=some (.int .i64 (n:Int)):=by cases a <;> kernel_rfl
theorem P247_12_of (H :
 K .ret [(.int .i64 (-1))] h):PI (C247 s) K 12 [] h:=step_of H
theorem P247_13_of (H :
 K .ret [(.int .i64 0)] h):PI (C247 s) K 13 [] h:=step_of H
theorem F247_flat (hok:h.ok) (hv:isScalar v=true) (H:PI (C247 s) (KR E [.tmp 6] fun x k=>x=v/\h.next<=k.wm) 0 [v0,v1,v2] h.fresh):(recI E).call 247 [v0,v1,v2] h=some [(v,h)]:=flatF Tryz.f247 hok hv (ev_of (C247 s) H)
noncomputable def B268:Code:=bodyOf Tryz.f268
noncomputable def C268 (s:Bool):Cx:=⟨E,s,none,B268,[([0],[0,1,2]),([1,0],[0,2,4]),([1,1,0],[0,2,4]),([1,1,1,0],[0,2,4]),([1,1,1,1,0,0,0],[0,2,25,26,27]),([1,1,1,1,0,0,1,1,0,0,0],[0,2,25,26,27]),([1,1,1,1,0,0,1,1,0,0,1,0,0],[0,2,7,25,26,27]),([1,1,1,1,0,0,1,1,0,0,1,1],[0,2,7,25,26,27]),([1,1,1,1,0,0,1,1,1],[0,2,25,26,27])],[],[]⟩
abbrev P268_4 (s:Bool) (K:KF) (f g b d e:Value) (h:AH):Prop:=PI (C268 s) K 4 [f,g,b,d,e] h
abbrev P268_7 (s:Bool) (K:KF) (f g i b d e:Value) (h:AH):Prop:=PI (C268 s) K 7 [f,g,i,b,d,e] h
theorem P268_0_of (H :
 Ev s (wNewRow 173 h e) fun b=>
 PI (C268 s) K 1 [d,f,b.1] b.2):PI (C268 s) K 0 [d,e,f] h:=step_of H
theorem P268_1_of (H :
 EvO (pNilCheck b) fun f=>
 EvO (pFieldAddr E 306 0 f) fun g=>
 EvO (rLoad E 3 h g) fun i=>
 EvO (binFast E .add 3 i (.int .i64 1)) fun j=>
 EvO (pNilCheck b) fun k=>
 EvO (pFieldAddr E 306 0 k) fun l=>
 Ev s (wStore E 3 h l j) fun m=>
 PI (C268 s) K 2 [b,d,e] m.2):PI (C268 s) K 1 [b,d,e] h:=step_of H
theorem P268_2_of (H :
 EvO (pNilCheck b) fun f=>
 EvO (pFieldAddr E 306 1 f) fun g=>
 EvO (rLoad E 3 h g) fun i=>
 EvO (evRead E (tmOf [(19,i),(20,d)]) (opAt B268 [1,1,0] 6) h) fun j=>
 EvO (pNilCheck b) fun k=>
 EvO (pFieldAddr E 306 1 k) fun l=>
 Ev s (wStore E 3 h l j) fun m=>
 PI (C268 s) K 3 [b,d,e] m.2):PI (C268 s) K 2 [b,d,e] h:=step_of H
theorem P268_3_of (H :
 EvO (pFieldAddr E 173 2 f) fun g=>
 EvO (rLoad E 34 h g) fun b=>
 EvO (evRead E (tmOf [(25,b)]) (opAt B268 [1,1,1,0] 2) h) fun i=>
 PI (C268 s) K 4 [d,e,b,i,(.int .i64 0)] h):PI (C268 s) K 3 [d,e,f] h:=step_of H
theorem len268_3_2:evRead E (tmOf [(25,.slice a n c)]) (opAt B268 [1,1,1,0] 2) h=some (.int .i64 (n:Int)):=by cases a <;> kernel_rfl
theorem P268_4_of (H :
 EvO (binFast E .lss 3 d b) fun i=>
 BrK i (PI (C268 s) K 5 [f,g,e,b,d] h) (K .normal [] h)):PI (C268 s) K 4 [f,g,e,b,d] h:=step_of H
theorem P268_5_of (H :
 EvO (pIndexAddr E 34 b d) fun j=>
 EvO (rLoad E 173 h j) fun k=>
 Ev s (wNewRow 173 h (zeroV E 173)) fun f=>
 Ev s (wStore E 173 f.2 f.1 k) fun l=>
 PI (C268 s) K 6 [g,i,f.1,b,e,d] l.2):PI (C268 s) K 5 [g,i,b,e,d] h:=step_of H
theorem P268_6_of (H :
 EvO (pNilCheck d) fun m=>
 EvO (pFieldAddr E 306 0 m) fun o=>
 EvO (rLoad E 3 h o) fun p=>
 EvO (binFast E .gtr 3 p (.int .i64 2000)) fun b=>
 EvO (gdB b false d) fun q=>
 EvO (gdB b false (pNilCheck q)) fun r=>
 EvO (gdB b false (pFieldAddr E 306 1 r)) fun t=>
 EvO (gdB b false (rLoad E 3 h t)) fun u=>
 EvO (gdB b false (binFast E .gtr 3 u (.int .i64 200))) fun i=>
 EvO (pickV b (some (.bool true)) i) fun j=>
 BrK j (K .ret [] h) (PI (C268 s) K 7 [d,k,l,e,f,g] h)):PI (C268 s) K 6 [d,k,l,e,f,g] h:=step_of H
theorem P268_7_of (H :
 EvO (rLoad E 173 h i) fun j=>
 EvO (binFast E .add 3 g (.int .i64 1)) fun k=>
 Ev s (wCallV (recI E) (some (.func (.func 268) #[] #[])) [f,j,k] h) fun l=>
 PI (C268 s) K 8 [f,g,b,d,e] l.2):PI (C268 s) K 7 [f,g,i,b,d,e] h:=step_of H
theorem P268_8_of (H :
 EvO (binFast E .add 3 e (.int .i64 1)) fun i=>
 PI (C268 s) K 4 [f,g,b,d,i] h):PI (C268 s) K 8 [f,g,b,d,e] h:=step_of H
theorem F268_some (H:PI (C268 true) (KR E [] fun x k=>(isFlat x=false\/k.wm<h.next)/\Rp x ⟨k.t,k.next,cond (Nat.ble h.wm k.wm) h.wm k.wm⟩) 0 [v0,v1,v2] h.fresh):Ev true ((recI E).call 268 [v0,v1,v2] h) fun x=>Rp x.1 x.2:=someF Tryz.f268 (ev_of (C268 true) H)
noncomputable def B269:Code:=bodyOf Tryz.f269
noncomputable def C269 (s:Bool):Cx:=⟨E,s,none,B269,[([0],[0]),([1,0],[0])],[2],[]⟩
theorem P269_0_of (H :
 PI (C269 s) K 1 [b] h):PI (C269 s) K 0 [b] h:=step_of H
theorem P269_1_of (H :
 EvO (pNilCheck f) fun g=>
 EvO (pFieldAddr E 306 0 g) fun i=>
 EvO (rLoad E 3 h i) fun j=>
 EvO (binFast E .gtr 3 j (.int .i64 2000)) fun b=>
 EvO (gdB b false f) fun k=>
 EvO (gdB b false (pNilCheck k)) fun l=>
 EvO (gdB b false (pFieldAddr E 306 1 l)) fun m=>
 EvO (gdB b false (rLoad E 3 h m)) fun o=>
 EvO (gdB b false (binFast E .gtr 3 o (.int .i64 200))) fun d=>
 EvO (pickV b (some (.bool true)) d) fun e=>
 K .ret [e] h):PI (C269 s) K 1 [f] h:=step_of H
theorem F269_flat (hok:h.ok) (hv:isScalar v=true) (H:PI (C269 s) (KR E [.tmp 2] fun x k=>x=v/\h.next<=k.wm) 0 [v0] h.fresh):(recI E).call 269 [v0] h=some [(v,h)]:=flatF Tryz.f269 hok hv (ev_of (C269 s) H)
end Go.Proofs
namespace Go.Proofs
open Go Go.AM
set_option maxRecDepth 100000
variable {s:Bool} {K:KF} {h:AH} {a:Option Addr} {n c:Nat} {b d e f g i j k l m o p q r t u w x y z A B C D F G J L M N O Q S U V W X Y Z v v0 v1 v2 v3 v4 v5 v6 v7 v8 v9 v15 v36 v37 v38:Value} {h1:AH} {Rp:Value->AH->Prop}
noncomputable def B222:Code:=bodyOf Tryz.f222
noncomputable def C222 (s:Bool):Cx:=⟨E,s,none,B222,[([0],[0,1,2]),([1,0],[0,1,2,4]),([1,1,0],[0,2,4,5]),([1,1,1,0,0,0,0],[0,2,4,5,6]),([1,1,1,0,0,1,0,0,0,0],[0,2,4,5,6]),([1,1,1,0,0,1,0,0,1,0],[0,2,4,5,6]),([1,1,1,0,0,1,0,0,1,1,0,0,0],[0,2,4,5,6,36,37,38]),([1,1,1,0,0,1,0,0,1,1,0,0,1,1,0,0,0],[0,2,4,5,6,36,37,38]),([1,1,1,0,0,1,0,0,1,1,0,0,1,1,0,0,1,0],[0,2,4,5,6,8,36,37,38]),([1,1,1,0,0,1,0,0,1,1,0,0,1,1,0,0,1,1,0,0],[0,2,4,5,6,8,36,37,38]),([1,1,1,0,0,1,0,0,1,1,0,0,1,1,0,0,1,1,0,1],[0,2,4,5,6,8,36,37,38]),([1,1,1,0,0,1,0,0,1,1,0,0,1,1,1],[0,2,4,5,6,36,37,38]),([1,1,1,0,0,1,1],[0,2,4,5,6])],[],[]⟩
abbrev P222_3 (s:Bool) (K:KF) (b d e f g:Value) (h:AH):Prop:=PI (C222 s) K 3 [b,d,e,f,g] h
abbrev P222_4 (s:Bool) (K:KF) (b d e f g:Value) (h:AH):Prop:=PI (C222 s) K 4 [b,d,e,f,g] h
abbrev P222_6 (s:Bool) (K:KF) (f g i j k b d e:Value) (h:AH):Prop:=PI (C222 s) K 6 [f,g,i,j,k,b,d,e] h
abbrev P222_11 (s:Bool) (K:KF) (f g i j k b d e:Value) (h:AH):Prop:=PI (C222 s) K 11 [f,g,i,j,k,b,d,e] h
theorem P222_0_of (H :
 Ev s (one ((.map (some (h).next):Value),(h).new (.map [] 0))) fun b=>
 EvO (rLoad E 3 b.2 d) fun g=>
 Ev s (wMapUpdate E 273 b.1 g (some (.bool true)) b.2) fun i=>
 PI (C222 s) K 1 [e,d,f,b.1] i.2):PI (C222 s) K 0 [e,d,f] h:=step_of H
theorem P222_1_of (H :
 EvO (rLoad E 3 h e) fun i=>
 Ev s (wBuildSlice E 47 1 (some [(0,i)]) h) fun b=>
 PI (C222 s) K 2 [d,f,g,b.1] b.2):PI (C222 s) K 1 [d,e,f,g] h:=step_of H
theorem P222_2_of (H :
 PI (C222 s) K 3 [b,d,e,f,(.int .i64 0)] h):PI (C222 s) K 2 [b,d,e,f] h:=step_of H
theorem P222_3_of (H :
 EvO (evRead E (tmOf [(15,b)]) (opAt B222 [1,1,1,0,0,0,0] 2) h) fun i=>
 EvO (binFast E .lss 3 d i) fun j=>
 BrK j (PI (C222 s) K 4 [e,f,g,b,d] h) (K .normal [] h)):PI (C222 s) K 3 [e,f,g,b,d] h:=step_of H
theorem len222_3_2:evRead E (tmOf [(15,.slice a n c)]) (opAt B222 [1,1,1,0,0,0,0] 2) h=some (.int .i64 (n:Int)):=by cases a <;> kernel_rfl
theorem P222_4_of (H :
 EvO (pIndexAddr E 47 e f) fun j=>
 EvO (rLoad E 3 h j) fun k=>
 Ev s (wCallV (recI E) d [k] h) fun b=>
 EvO (unFast .not b.1) fun l=>
 BrK l (K .ret [] b.2) (PI (C222 s) K 5 [d,g,i,e,f] b.2)):PI (C222 s) K 4 [d,g,i,e,f] h:=step_of H
theorem P222_5_of (H :
 EvO (rLoad E 128 h d) fun k=>
 EvO (pNilCheck k) fun l=>
 EvO (pFieldAddr E 131 0 l) fun m=>
 EvO (rLoad E 129 h m) fun o=>
 EvO (pIndexAddr E 47 e f) fun p=>
 EvO (rLoad E 3 h p) fun q=>
 EvO (pIndexAddr E 129 o q) fun r=>
 EvO (rLoad E 132 h r) fun g=>
 EvO (evRead E (tmOf [(36,g)]) (opAt B222 [1,1,1,0,0,1,0,0,1,0] 10) h) fun b=>
 PI (C222 s) K 6 [i,d,j,e,f,g,b,(.int .i64 0)] h):PI (C222 s) K 5 [i,d,j,e,f] h:=step_of H
theorem len222_5_10:evRead E (tmOf [(36,.slice a n c)]) (opAt B222 [1,1,1,0,0,1,0,0,1,0] 10) h=some (.int .i64 (n:Int)):=by cases a <;> kernel_rfl
theorem P222_6_of (H :
 EvO (binFast E .lss 3 d b) fun l=>
 BrK l (PI (C222 s) K 7 [f,g,i,j,k,e,b,d] h) (PI (C222 s) K 12 [f,g,i,j,k] h)):PI (C222 s) K 6 [f,g,i,j,k,e,b,d] h:=step_of H
theorem P222_7_of (H :
 EvO (pIndexAddr E 132 b d) fun m=>
 EvO (rLoad E 134 h m) fun o=>
 Ev s (wNewRow 134 h (zeroV E 134)) fun f=>
 Ev s (wStore E 134 f.2 f.1 o) fun p=>
 PI (C222 s) K 8 [g,i,j,k,l,f.1,b,e,d] p.2):PI (C222 s) K 7 [g,i,j,k,l,b,e,d] h:=step_of H
theorem P222_8_of (H :
 EvO (pFieldAddr E 134 0 i) fun o=>
 EvO (rLoad E 3 h o) fun p=>
 EvO (binFast E .eql 3 p (.int .i64 0)) fun b=>
 EvO (gdB b true g) fun q=>
 EvO (gdB b true (pFieldAddr E 134 1 i)) fun r=>
 EvO (gdB b true (rLoad E 3 h r)) fun t=>
 EvO (gdB b true (rLookup E 273 false q t h)) fun u=>
 EvO (gdB b true (unFast .not u)) fun w=>
 EvO (pickV b w (some (.bool false))) fun x=>
 BrK x (PI (C222 s) K 9 [j,k,g,l,m,i,d,e,f] h) (PI (C222 s) K 11 [j,k,g,l,m,d,e,f] h)):PI (C222 s) K 8 [j,k,g,l,m,i,d,e,f] h:=step_of H
theorem P222_9_of (H :
 EvO (pFieldAddr E 134 1 g) fun m=>
 EvO (rLoad E 3 h m) fun o=>
 Ev s (wMapUpdate E 273 f o (some (.bool true)) h) fun p=>
 PI (C222 s) K 10 [i,j,f,k,l,g,b,d,e] p.2):PI (C222 s) K 9 [i,j,f,k,l,g,b,d,e] h:=step_of H
theorem P222_10_of (H :
 EvO (pFieldAddr E 134 1 o) fun p=>
 EvO (rLoad E 3 h p) fun q=>
 Ev s (wBuildSlice E 47 1 (some [(0,q)]) h) fun f=>
 Ev s (wBuiltinO E .append [47,47] [l,f.1] f.2) fun g=>
 PI (C222 s) K 11 [i,j,k,g.1,m,b,d,e] g.2):PI (C222 s) K 10 [i,j,k,l,m,o,b,d,e] h:=step_of H
theorem P222_11_of (H :
 EvO (binFast E .add 3 e (.int .i64 1)) fun l=>
 PI (C222 s) K 6 [f,g,i,j,k,b,d,l] h):PI (C222 s) K 11 [f,g,i,j,k,b,d,e] h:=step_of H
theorem P222_12_of (H :
 EvO (binFast E .add 3 g (.int .i64 1)) fun i=>
 PI (C222 s) K 3 [b,d,e,f,i] h):PI (C222 s) K 12 [b,d,e,f,g] h:=step_of H
theorem F222_some (H:PI (C222 true) (KR E [] fun x k=>(isFlat x=false\/k.wm<h.next)/\Rp x ⟨k.t,k.next,cond (Nat.ble h.wm k.wm) h.wm k.wm⟩) 0 [v0,v1,v2] h.fresh):Ev true ((recI E).call 222 [v0,v1,v2] h) fun x=>Rp x.1 x.2:=someF Tryz.f222 (ev_of (C222 true) H)
noncomputable def B130a:Code:=sub B130 [0]
noncomputable def C130a (s:Bool):Cx:=⟨E,s,none,B130a,[([],[0,1,2,3])],[2,4,5,7,8],[]⟩
theorem P130a_0_of (H :
 Ev s (wNewRow 178 h g) fun b=>
 Ev s (wNewRow 3 b.2 i) fun d=>
 Ev s (wNewRow 134 d.2 k) fun e=>
 Ev s (wNewRow 4 e.2 (zeroV E 4)) fun f=>
 K .normal [j,b.1,d.1,e.1,f.1] f.2):PI (C130a s) K 0 [g,i,j,k] h:=step_of H
theorem F130a_ev {s:Bool} {v0 v1 v2 v3:Value} {T:Tm} {h:AH} {K:KF} (hT:∀ x∈[(0,v0),(1,v1),(2,v2),(3,v3)],T.get x.1=x.2) (H:PI (C130a s) K 0 [v0,v1,v2,v3] h) :
 Ev s (evC E (recI E) none B130a ⟨T,h,[]⟩) (finQ (C130a s ) K):=
 enter_ok (C:=C130a s ) (by kernel_rfl) (by kernel_rfl) hT ((by kernel_rfl:contK (C130a s ) K 30 (rs B130a 60 (.at [])) (tmOf [(0,v0),(1,v1),(2,v2),(3,v3)]) h=(PI (C130a s) K 0 [v0,v1,v2,v3] h)).mpr H)
noncomputable def B130b:Code:=sub B130 [1,0,0]
noncomputable def C130b (s:Bool):Cx:=⟨E,s,none,B130b,[([],[2,4,5,7,8])],[4,5,7,8,14],[]⟩
theorem P130b_0_of (H :
 EvO (pFieldAddr E 178 0 b) fun j=>
 EvO (pFieldAddr E 176 1 j) fun k=>
 EvO (rLoad E 128 h k) fun l=>
 Ev s (wCallV (recI E) (some (.func (.func 178) #[] #[])) [l,e] h) fun d=>
 K .normal [b,f,g,i,d.1] d.2):PI (C130b s) K 0 [e,b,f,g,i] h:=step_of H
theorem F130b_ev {s:Bool} {v2 v4 v5 v7 v8:Value} {T:Tm} {h:AH} {K:KF} (hT:∀ x∈[(2,v2),(4,v4),(5,v5),(7,v7),(8,v8)],T.get x.1=x.2) (H:PI (C130b s) K 0 [v2,v4,v5,v7,v8] h) :
 Ev s (evC E (recI E) none B130b ⟨T,h,[]⟩) (finQ (C130b s ) K):=
 enter_ok (C:=C130b s ) (by kernel_rfl) (by kernel_rfl) hT ((by kernel_rfl:contK (C130b s ) K 30 (rs B130b 60 (.at [])) (tmOf [(2,v2),(4,v4),(5,v5),(7,v7),(8,v8)]) h=(PI (C130b s) K 0 [v2,v4,v5,v7,v8] h)).mpr H)
noncomputable def B130c:Code:=rfBody (sub B130 [1,0,1,0])
noncomputable def C130c (s:Bool) (ll:Nat):Cx:=⟨E,s,some ll,B130c,[([0,0],[4,5,7,8,9]),([0,1,0,0],[8])],[],[]⟩
abbrev P130c_1 (s:Bool) (ll:Nat) (K:KF) (v8:Value) (h:AH):Prop:=PI (C130c s ll) K 1 [v8] h
theorem P130c_0_of {ll:Nat} (H :
 EvO (pFieldAddr E 178 0 i) fun C=>
 EvO (rLoad E 176 h C) fun D=>
 EvO (rLoad E 3 h A) fun F=>
 Ev s (wCallV (recI E) (some (.func (.func 123) #[] #[])) [D,F,k] h) fun e=>
 EvO (gdB e.1 true (pFieldAddr E 134 0 j)) fun G=>
 EvO (gdB e.1 true (rLoad E 3 e.2 G)) fun J=>
 EvO (gdB e.1 true (binFast E .eql 3 J (.int .i64 0))) fun L=>
 EvO (gdB e.1 true L) fun g=>
 EvO (gdB g true (pFieldAddr E 178 0 i)) fun l=>
 EvO (gdB g true (rLoad E 176 e.2 l)) fun m=>
 EvO (gdB g true (pFieldAddr E 134 1 j)) fun o=>
 EvO (gdB g true (rLoad E 3 e.2 o)) fun p=>
 EvO (gdB g true k) fun q=>
 Ev s (gdW g true (wCallV (recI E) (some (.func (.func 123) #[] #[])) [m,p,q] e.2) e.2) fun b=>
 EvO (gdB e.1 true (pickV g b.1 (some (.bool false)))) fun r=>
 EvO (gdB e.1 true r) fun d=>
 EvO (gdB d false (rLoad E 178 b.2 i)) fun t=>
 EvO (gdB d false (rLoad E 3 b.2 A)) fun u=>
 EvO (gdB d false k) fun w=>
 EvO (gdB d false (rLoad E 134 b.2 j)) fun x=>
 Ev s (gdW d false (wCallV (recI E) (some (.func (.func 128) #[] #[])) [t,u,w,x] b.2) b.2) fun f=>
 EvO (gdB e.1 true (pickV d (some (.bool true)) f.1)) fun y=>
 EvO (pickV e.1 y (some (.bool false))) fun z=>
 BrK z (PI (C130c s ll) K 1 [B] f.2) (K .normal [] f.2)):PI (C130c s ll) K 0 [i,A,j,B,k] h:=step_of H
theorem P130c_1_of {ll:Nat} (H :
 Ev s (wStore E 4 h b (some (.bool true))) fun d=>
 K .ret [] d.2):PI (C130c s ll) K 1 [b] h:=step_of H
theorem F130c_ev {s:Bool} {ll:Nat} {v4 v5 v7 v8 v9:Value} {T:Tm} {h:AH} {K:KF} (hT:∀ x∈[(4,v4),(5,v5),(7,v7),(8,v8),(9,v9)],T.get x.1=x.2) (H:PI (C130c s ll) K 0 [v4,v5,v7,v8,v9] h) :
 Ev s (evC E (recI E) (some ll) B130c ⟨T,h,[]⟩) (finQ (C130c s ll ) K):=
 enter_ok (C:=C130c s ll ) (by kernel_rfl) (by kernel_rfl) hT ((by kernel_rfl:contK (C130c s ll ) K 30 (rs B130c 60 (.at [])) (tmOf [(4,v4),(5,v5),(7,v7),(8,v8),(9,v9)]) h=(PI (C130c s ll) K 0 [v4,v5,v7,v8,v9] h)).mpr H)
noncomputable def B130d:Code:=rfAs (sub B130 [1,0,1,0])
noncomputable def C130d (s:Bool) (ll:Nat):Cx:=⟨E,s,some ll,B130d,[([],[4,5,7,8,15])],[4,5,7,8,9],[]⟩
theorem P130d_0_of {ll:Nat} (H :
 K .normal [d,e,f,g,b] h):PI (C130d s ll) K 0 [d,e,f,g,b] h:=step_of H
theorem F130d_ev {s:Bool} {ll:Nat} {v4 v5 v7 v8 v15:Value} {T:Tm} {h:AH} {K:KF} (hT:∀ x∈[(4,v4),(5,v5),(7,v7),(8,v8),(15,v15)],T.get x.1=x.2) (H:PI (C130d s ll) K 0 [v4,v5,v7,v8,v15] h) :
 Ev s (evC E (recI E) (some ll) B130d ⟨T,h,[]⟩) (finQ (C130d s ll ) K):=
 enter_ok (C:=C130d s ll ) (by kernel_rfl) (by kernel_rfl) hT ((by kernel_rfl:contK (C130d s ll ) K 30 (rs B130d 60 (.at [])) (tmOf [(4,v4),(5,v5),(7,v7),(8,v8),(15,v15)]) h=(PI (C130d s ll) K 0 [v4,v5,v7,v8,v15] h)).mpr H)
noncomputable def B130e:Code:=sub B130 [1,1,0]
def Q130e_0 (s:Bool) (K:KF) (v8:Value) (h:AH):Prop:=
 Ev s (wStore E 4 h v8 (some (.bool false))) fun x0=>
 K .normal [v8] x0.2
end Go.Proofs
namespace Go.Proofs
open Go Go.AM
set_option maxRecDepth 100000
theorem und_49:und E 49=some (.slice 23):=by kernel_rfl
theorem elt_49:elemT E 49=some 23:=by kernel_rfl
theorem ia_49 {b o len c k:Nat} (h:k<len):pIndexAddr E 49 (some (.slice (some ⟨b,o,none⟩) len c)) (some (.int .i64 (k:Int)))=some (.pointer (some ⟨b,o+k*1,none⟩)):=indexSlice_of und_49 (by kernel_rfl) h
end Go.Proofs
