import Derived.Test.YthmnhjcmefjgjaaGreatDoorXAE
set_option linter.all false
set_option linter.unusedSectionVars false
set_option autoImplicit true
set_option relaxedAutoImplicit true
namespace Go.Proofs
open Go Go.AM
set_option maxRecDepth 100000
variable {s:Bool} {K:KF} {h:AH} {a:Option Addr} {n c:Nat} {b d e f g i j k l m o p q r t u w x y z A B C D F G J L M N O Q S U V W X Y Z v v0 v1 v2 v3 v4 v5 v6 v7 v8 v9 v10 v11 v12 v14 v15 v16 v17 v18 v20 v21 v22 v24 v65 v66 v67 v111 v112 v113 v143 v144 v145:Value} {h1:AH} {Rp:Value->AH->Prop}
noncomputable def B88:Code:=bodyOf Tryz.f88
noncomputable def C88 (s:Bool):Cx:=⟨E,s,none,B88,[([0],[0,1]),([1,0,0],[2,3]),([1,0,1,0],[2,3,5]),([1,0,1,1,0,0],[5]),([1,1,0],[2,3])],[4],[]⟩
theorem P88_0_of (H :
 Ev s (wNewRow 36 h e) fun b=>
 Ev s (wNewRow 36 b.2 f) fun d=>
 PI (C88 s) K 1 [b.1,d.1] d.2):PI (C88 s) K 0 [e,f] h:=step_of H
theorem P88_1_of (H :
 EvO (pFieldAddr E 36 0 b) fun f=>
 EvO (rLoad E 3 h f) fun g=>
 EvO (pFieldAddr E 36 0 d) fun i=>
 EvO (rLoad E 3 h i) fun j=>
 Ev s (wCallV (recI E) (some (.func (.func 94) #[] #[])) [g,j] h) fun e=>
 PI (C88 s) K 2 [b,d,e.1] e.2):PI (C88 s) K 1 [b,d] h:=step_of H
theorem P88_2_of (H :
 EvO (binFast E .neq 3 b (.int .i64 0)) fun f=>
 BrK f (PI (C88 s) K 3 [b] h) (PI (C88 s) K 4 [d,e] h)):PI (C88 s) K 2 [d,e,b] h:=step_of H
theorem P88_3_of (H :
 K .ret [b] h):PI (C88 s) K 3 [b] h:=step_of H
theorem P88_4_of (H :
 EvO (pFieldAddr E 36 1 d) fun f=>
 EvO (rLoad E 34 h f) fun g=>
 EvO (pFieldAddr E 36 1 e) fun i=>
 EvO (rLoad E 34 h i) fun j=>
 Ev s (wCallV (recI E) (some (.func (.func 140) #[] #[])) [g,j] h) fun b=>
 K .ret [b.1] b.2):PI (C88 s) K 4 [d,e] h:=step_of H
theorem F88_flat (hok:h.ok) (hv:isScalar v=true) (H:PI (C88 s) (KR E [.tmp 4] fun x k=>x=v/\h.next<=k.wm) 0 [v0,v1] h.fresh):(recI E).call 88 [v0,v1] h=some [(v,h)]:=flatF Tryz.f88 hok hv (ev_of (C88 s) H)
noncomputable def B140:Code:=bodyOf Tryz.f140
noncomputable def C140 (s:Bool):Cx:=⟨E,s,none,B140,[([0],[0,1]),([1,0,0],[0,1]),([1,0,1,0,0,0,0],[0,1,5]),([1,0,1,0,0,1,0,0,0],[0,1,5]),([1,0,1,0,0,1,0,0,1,0],[0,1,5,6]),([1,0,1,0,0,1,0,0,1,1,0,0],[6]),([1,0,1,0,0,1,1],[0,1,5]),([1,1,0],[0,1])],[4],[]⟩
abbrev P140_2 (s:Bool) (K:KF) (b d e:Value) (h:AH):Prop:=PI (C140 s) K 2 [b,d,e] h
abbrev P140_7 (s:Bool) (K:KF) (b d:Value) (h:AH):Prop:=PI (C140 s) K 7 [b,d] h
theorem P140_0_of (H :
 PI (C140 s) K 1 [b,d] h):PI (C140 s) K 0 [b,d] h:=step_of H
theorem P140_1_of (H :
 PI (C140 s) K 2 [b,d,(.int .i64 0)] h):PI (C140 s) K 1 [b,d] h:=step_of H
theorem P140_2_of (H :
 EvO (evRead E (tmOf [(8,d)]) (opAt B140 [1,0,1,0,0,0,0] 2) h) fun g=>
 EvO (binFast E .lss 3 f g) fun b=>
 EvO (gdB b true f) fun i=>
 EvO (gdB b true e) fun j=>
 EvO (gdB b true (evRead E (tmOf [(13,j)]) (opAt B140 [1,0,1,0,0,0,0] 7) h)) fun k=>
 EvO (gdB b true (binFast E .lss 3 i k)) fun l=>
 EvO (pickV b l (some (.bool false))) fun m=>
 BrK m (PI (C140 s) K 3 [d,e,f] h) (PI (C140 s) K 7 [d,e] h)):PI (C140 s) K 2 [d,e,f] h:=step_of H
theorem len140_2_2:evRead E (tmOf [(8,.slice a n c)]) (opAt B140 [1,0,1,0,0,0,0] 2) h=some (.int .i64 (n:Int)):=by cases a <;> kernel_rfl
theorem len140_2_7:evRead E (tmOf [(13,.slice a n c)]) (opAt B140 [1,0,1,0,0,0,0] 7) h=some (.int .i64 (n:Int)):=by cases a <;> kernel_rfl
theorem P140_3_of (H :
 EvO (pIndexAddr E 34 d b) fun g=>
 EvO (rLoad E 173 h g) fun i=>
 EvO (pIndexAddr E 34 e b) fun j=>
 EvO (rLoad E 173 h j) fun k=>
 Ev s (wCallV (recI E) (some (.func (.func 188) #[] #[])) [i,k] h) fun f=>
 PI (C140 s) K 4 [d,e,b,f.1] f.2):PI (C140 s) K 3 [d,e,b] h:=step_of H
theorem P140_4_of (H :
 EvO (binFast E .neq 3 b (.int .i64 0)) fun g=>
 BrK g (PI (C140 s) K 5 [b] h) (PI (C140 s) K 6 [d,e,f] h)):PI (C140 s) K 4 [d,e,f,b] h:=step_of H
theorem P140_5_of (H :
 K .ret [b] h):PI (C140 s) K 5 [b] h:=step_of H
theorem P140_6_of (H :
 EvO (binFast E .add 3 e (.int .i64 1)) fun f=>
 PI (C140 s) K 2 [b,d,f] h):PI (C140 s) K 6 [b,d,e] h:=step_of H
theorem P140_7_of (H :
 EvO (evRead E (tmOf [(31,d)]) (opAt B140 [1,1,0] 1) h) fun f=>
 EvO (evRead E (tmOf [(33,e)]) (opAt B140 [1,1,0] 3) h) fun g=>
 Ev s (wCallV (recI E) (some (.func (.func 94) #[] #[])) [f,g] h) fun b=>
 K .ret [b.1] b.2):PI (C140 s) K 7 [d,e] h:=step_of H
theorem len140_7_1:evRead E (tmOf [(31,.slice a n c)]) (opAt B140 [1,1,0] 1) h=some (.int .i64 (n:Int)):=by cases a <;> kernel_rfl
theorem len140_7_3:evRead E (tmOf [(33,.slice a n c)]) (opAt B140 [1,1,0] 3) h=some (.int .i64 (n:Int)):=by cases a <;> kernel_rfl
theorem F140_flat (hok:h.ok) (hv:isScalar v=true) (H:PI (C140 s) (KR E [.tmp 4] fun x k=>x=v/\h.next<=k.wm) 0 [v0,v1] h.fresh):(recI E).call 140 [v0,v1] h=some [(v,h)]:=flatF Tryz.f140 hok hv (ev_of (C140 s) H)
noncomputable def B188:Code:=bodyOf Tryz.f188
noncomputable def C188 (s:Bool):Cx:=⟨E,s,none,B188,[([0],[0,1]),([1,0],[2,3]),([1,1,0,0],[2,3,5]),([1,1,0,1,0],[2,3]),([1,1,1,0,0],[2,3,5]),([1,1,1,0,1,0],[2,3]),([1,1,1,1,0,0],[2,3,5]),([1,1,1,1,0,1,0,0,0,0],[2,3,5,6]),([1,1,1,1,0,1,0,0,1,0,0],[2,3,6]),([1,1,1,1,0,1,0,0,1,1],[2,3,5,6]),([1,1,1,1,1,0],[5])],[4],[]⟩
abbrev P188_7 (s:Bool) (K:KF) (b d e f:Value) (h:AH):Prop:=PI (C188 s) K 7 [b,d,e,f] h
abbrev P188_10 (s:Bool) (K:KF) (b:Value) (h:AH):Prop:=PI (C188 s) K 10 [b] h
theorem P188_0_of (H :
 Ev s (wNewRow 173 h e) fun b=>
 Ev s (wNewRow 173 b.2 f) fun d=>
 PI (C188 s) K 1 [b.1,d.1] d.2):PI (C188 s) K 0 [e,f] h:=step_of H
theorem P188_1_of (H :
 EvO (pFieldAddr E 173 0 b) fun f=>
 EvO (rLoad E 3 h f) fun g=>
 EvO (pFieldAddr E 173 0 d) fun i=>
 EvO (rLoad E 3 h i) fun j=>
 Ev s (wCallV (recI E) (some (.func (.func 232) #[] #[])) [g,j] h) fun e=>
 PI (C188 s) K 2 [b,d,e.1] e.2):PI (C188 s) K 1 [b,d] h:=step_of H
theorem P188_2_of (H :
 EvO (binFast E .eql 3 e (.int .i64 0)) fun f=>
 BrK f (PI (C188 s) K 3 [b,d] h) (PI (C188 s) K 4 [b,d,e] h)):PI (C188 s) K 2 [b,d,e] h:=step_of H
theorem P188_3_of (H :
 EvO (pFieldAddr E 173 1 b) fun f=>
 EvO (rLoad E 3 h f) fun g=>
 EvO (pFieldAddr E 173 1 d) fun i=>
 EvO (rLoad E 3 h i) fun j=>
 Ev s (wCallV (recI E) (some (.func (.func 232) #[] #[])) [g,j] h) fun e=>
 PI (C188 s) K 4 [b,d,e.1] e.2):PI (C188 s) K 3 [b,d] h:=step_of H
theorem P188_4_of (H :
 EvO (binFast E .eql 3 e (.int .i64 0)) fun f=>
 BrK f (PI (C188 s) K 5 [b,d] h) (PI (C188 s) K 6 [b,d,e] h)):PI (C188 s) K 4 [b,d,e] h:=step_of H
theorem P188_5_of (H :
 EvO (pFieldAddr E 173 2 b) fun f=>
 EvO (rLoad E 34 h f) fun g=>
 EvO (evRead E (tmOf [(22,g)]) (opAt B188 [1,1,1,0,1,0] 2) h) fun i=>
 EvO (pFieldAddr E 173 2 d) fun j=>
 EvO (rLoad E 34 h j) fun k=>
 EvO (evRead E (tmOf [(25,k)]) (opAt B188 [1,1,1,0,1,0] 5) h) fun l=>
 Ev s (wCallV (recI E) (some (.func (.func 232) #[] #[])) [i,l] h) fun e=>
 PI (C188 s) K 6 [b,d,e.1] e.2):PI (C188 s) K 5 [b,d] h:=step_of H
theorem len188_5_2:evRead E (tmOf [(22,.slice a n c)]) (opAt B188 [1,1,1,0,1,0] 2) h=some (.int .i64 (n:Int)):=by cases a <;> kernel_rfl
theorem len188_5_5:evRead E (tmOf [(25,.slice a n c)]) (opAt B188 [1,1,1,0,1,0] 5) h=some (.int .i64 (n:Int)):=by cases a <;> kernel_rfl
theorem P188_6_of (H :
 PI (C188 s) K 7 [b,d,e,(.int .i64 0)] h):PI (C188 s) K 6 [b,d,e] h:=step_of H
theorem P188_7_of (H :
 EvO (pFieldAddr E 173 2 d) fun i=>
 EvO (rLoad E 34 h i) fun j=>
 EvO (evRead E (tmOf [(30,j)]) (opAt B188 [1,1,1,1,0,1,0,0,0,0] 3) h) fun k=>
 EvO (binFast E .lss 3 f k) fun b=>
 EvO (gdB b true e) fun l=>
 EvO (gdB b true (binFast E .eql 3 l (.int .i64 0))) fun m=>
 EvO (pickV b m (some (.bool false))) fun o=>
 BrK o (PI (C188 s) K 8 [d,g,f] h) (PI (C188 s) K 10 [e] h)):PI (C188 s) K 7 [d,g,e,f] h:=step_of H
theorem len188_7_3:evRead E (tmOf [(30,.slice a n c)]) (opAt B188 [1,1,1,1,0,1,0,0,0,0] 3) h=some (.int .i64 (n:Int)):=by cases a <;> kernel_rfl
theorem P188_8_of (H :
 EvO (pFieldAddr E 173 2 e) fun g=>
 EvO (rLoad E 34 h g) fun i=>
 EvO (pIndexAddr E 34 i d) fun j=>
 EvO (rLoad E 173 h j) fun k=>
 EvO (pFieldAddr E 173 2 f) fun l=>
 EvO (rLoad E 34 h l) fun m=>
 EvO (pIndexAddr E 34 m d) fun o=>
 EvO (rLoad E 173 h o) fun p=>
 Ev s (wCallV (recI E) (some (.func (.func 188) #[] #[])) [k,p] h) fun b=>
 PI (C188 s) K 9 [e,f,b.1,d] b.2):PI (C188 s) K 8 [e,f,d] h:=step_of H
theorem P188_9_of (H :
 EvO (binFast E .add 3 f (.int .i64 1)) fun g=>
 PI (C188 s) K 7 [b,d,e,g] h):PI (C188 s) K 9 [b,d,e,f] h:=step_of H
theorem P188_10_of (H :
 K .ret [b] h):PI (C188 s) K 10 [b] h:=step_of H
theorem F188_flat (hok:h.ok) (hv:isScalar v=true) (H:PI (C188 s) (KR E [.tmp 4] fun x k=>x=v/\h.next<=k.wm) 0 [v0,v1] h.fresh):(recI E).call 188 [v0,v1] h=some [(v,h)]:=flatF Tryz.f188 hok hv (ev_of (C188 s) H)
noncomputable def B232:Code:=bodyOf Tryz.f232
noncomputable def C232 (s:Bool):Cx:=⟨E,s,none,B232,[([0],[0,1]),([1,0,0],[0,1]),([1,0,1,0,0],[]),([1,1,0,0],[0,1]),([1,1,0,1,0,0],[]),([1,1,1,0],[])],[4],[]⟩
theorem P232_0_of (H :
 PI (C232 s) K 1 [b,d] h):PI (C232 s) K 0 [b,d] h:=step_of H
theorem P232_1_of (H :
 EvO (binFast E .lss 3 b d) fun e=>
 BrK e (PI (C232 s) K 2 [] h) (PI (C232 s) K 3 [b,d] h)):PI (C232 s) K 1 [b,d] h:=step_of H
theorem P232_2_of (H :
 K .ret [(.int .i64 (-1))] h):PI (C232 s) K 2 [] h:=step_of H
theorem P232_3_of (H :
 EvO (binFast E .gtr 3 b d) fun e=>
 BrK e (PI (C232 s) K 4 [] h) (PI (C232 s) K 5 [] h)):PI (C232 s) K 3 [b,d] h:=step_of H
theorem P232_4_of (H :
 K .ret [(.int .i64 1)] h):PI (C232 s) K 4 [] h:=step_of H
theorem P232_5_of (H :
 K .ret [(.int .i64 0)] h):PI (C232 s) K 5 [] h:=step_of H
theorem F232_flat (hok:h.ok) (hv:isScalar v=true) (H:PI (C232 s) (KR E [.tmp 4] fun x k=>x=v/\h.next<=k.wm) 0 [v0,v1] h.fresh):(recI E).call 232 [v0,v1] h=some [(v,h)]:=flatF Tryz.f232 hok hv (ev_of (C232 s) H)
noncomputable def B264:Code:=bodyOf Tryz.f264
noncomputable def C264 (s:Bool):Cx:=⟨E,s,none,B264,[([0],[0]),([1,0],[1]),([1,1,0],[1,4])],[2],[]⟩
theorem P264_0_of (H :
 Ev s (wNewRow 173 h d) fun b=>
 PI (C264 s) K 1 [b.1] b.2):PI (C264 s) K 0 [d] h:=step_of H
theorem P264_1_of (H :
 EvO (rLoad E 173 h d) fun e=>
 Ev s (wCallV (recI E) (some (.func (.func 280) #[] #[])) (some [e,(.int .i64 2000),(.int .i64 1)]) h) fun b=>
 EvO (pExtract 0 b.1) fun g=>
 EvO (pExtract 1 b.1) fun f=>
 PI (C264 s) K 2 [d,f] b.2):PI (C264 s) K 1 [d] h:=step_of H
theorem P264_2_of (H :
 EvO (gdB b true (rLoad E 173 h e)) fun f=>
 Ev s (gdW b true (wCallV (recI E) (some (.func (.func 281) #[] #[])) [f] h) h) fun d=>
 EvO (pickV b d.1 (some (.bool false))) fun g=>
 K .ret [g] d.2):PI (C264 s) K 2 [e,b] h:=step_of H
theorem F264_flatE {Rp:Value->Prop} (hok:h.ok) (H:PI (C264 true) (KR E [.tmp 2] fun x k=>(isFlat x=true/\Rp x)/\h.next<=k.wm) 0 [v0] h.fresh):∃ v,Rp v/\(recI E).call 264 [v0] h=some [(v,h)]:=flatFE Tryz.f264 hok (ev_of (C264 true) H)
noncomputable def B231:Code:=bodyOf Tryz.f231
noncomputable def C231 (s:Bool):Cx:=⟨E,s,none,B231,[([0],[0]),([1,0,0],[1]),([1,0,1,0,0],[]),([1,1,0],[])],[2],[]⟩
theorem P231_0_of (H :
 Ev s (wNewRow 173 h d) fun b=>
 PI (C231 s) K 1 [b.1] b.2):PI (C231 s) K 0 [d] h:=step_of H
theorem P231_1_of (H :
 EvO (rLoad E 173 h d) fun e=>
 Ev s (wCallV (recI E) (some (.func (.func 264) #[] #[])) [e] h) fun b=>
 EvO (unFast .not b.1) fun f=>
 BrK f (PI (C231 s) K 2 [] b.2) (PI (C231 s) K 3 [] b.2)):PI (C231 s) K 1 [d] h:=step_of H
theorem P231_2_of (H :
 K .ret [(.int .i64 4)] h):PI (C231 s) K 2 [] h:=step_of H
theorem P231_3_of (H :
 K .ret [(.int .i64 0)] h):PI (C231 s) K 3 [] h:=step_of H
theorem F231_flatE {Rp:Value->Prop} (hok:h.ok) (H:PI (C231 true) (KR E [.tmp 2] fun x k=>(isFlat x=true/\Rp x)/\h.next<=k.wm) 0 [v0] h.fresh):∃ v,Rp v/\(recI E).call 231 [v0] h=some [(v,h)]:=flatFE Tryz.f231 hok (ev_of (C231 true) H)
noncomputable def B280:Code:=bodyOf Tryz.f280
noncomputable def C280 (s:Bool):Cx:=⟨E,s,none,B280,[([0],[0,1,2]),([1,0],[1,2,3]),([1,1,0,0],[1,2,3]),([1,1,0,1,0,0],[1]),([1,1,1,0,0],[1,2,3]),([1,1,1,0,1,0,0,0,0],[1,2,3,8]),([1,1,1,0,1,0,0,1,0,0,0],[1,2,3,8]),([1,1,1,0,1,0,0,1,0,0,1,0],[2,3,8,9,10]),([1,1,1,0,1,0,0,1,0,0,1,1,0],[1,2,3,8,10]),([1,1,1,0,1,0,0,1,0,0,1,1,1,0,0],[1]),([1,1,1,0,1,0,0,1,1],[1,2,3,8]),([1,1,1,1,0],[1])],[6,7],[]⟩
abbrev P280_3 (s:Bool) (K:KF) (b:Value) (h:AH):Prop:=PI (C280 s) K 3 [b] h
abbrev P280_4 (s:Bool) (K:KF) (b d e:Value) (h:AH):Prop:=PI (C280 s) K 4 [b,d,e] h
abbrev P280_5 (s:Bool) (K:KF) (b d e f:Value) (h:AH):Prop:=PI (C280 s) K 5 [b,d,e,f] h
abbrev P280_9 (s:Bool) (K:KF) (b:Value) (h:AH):Prop:=PI (C280 s) K 9 [b] h
abbrev P280_11 (s:Bool) (K:KF) (b:Value) (h:AH):Prop:=PI (C280 s) K 11 [b] h
theorem P280_0_of (H :
 Ev s (wNewRow 173 h d) fun b=>
 PI (C280 s) K 1 [e,f,b.1] b.2):PI (C280 s) K 0 [d,e,f] h:=step_of H
theorem P280_1_of (H :
 EvO (binFast E .sub 3 b (.int .i64 1)) fun f=>
 PI (C280 s) K 2 [f,d,e] h):PI (C280 s) K 1 [b,d,e] h:=step_of H
theorem P280_2_of (H :
 EvO (binFast E .lss 3 b (.int .i64 0)) fun d=>
 EvO (gdB d false e) fun g=>
 EvO (gdB d false (binFast E .gtr 3 g (.int .i64 200))) fun i=>
 EvO (pickV d (some (.bool true)) i) fun j=>
 BrK j (PI (C280 s) K 3 [b] h) (PI (C280 s) K 4 [b,e,f] h)):PI (C280 s) K 2 [b,e,f] h:=step_of H
theorem P280_3_of (H :
 K .ret [b,(.bool false)] h):PI (C280 s) K 3 [b] h:=step_of H
theorem P280_4_of (H :
 PI (C280 s) K 5 [b,d,e,(.int .i64 0)] h):PI (C280 s) K 4 [b,d,e] h:=step_of H
theorem P280_5_of (H :
 EvO (pFieldAddr E 173 2 d) fun g=>
 EvO (rLoad E 34 h g) fun i=>
 EvO (evRead E (tmOf [(22,i)]) (opAt B280 [1,1,1,0,1,0,0,0,0] 3) h) fun j=>
 EvO (binFast E .lss 3 e j) fun k=>
 BrK k (PI (C280 s) K 6 [b,f,d,e] h) (PI (C280 s) K 11 [b] h)):PI (C280 s) K 5 [b,f,d,e] h:=step_of H
theorem len280_5_3:evRead E (tmOf [(22,.slice a n c)]) (opAt B280 [1,1,1,0,1,0,0,0,0] 3) h=some (.int .i64 (n:Int)):=by cases a <;> kernel_rfl
theorem P280_6_of (H :
 EvO (pFieldAddr E 173 2 g) fun k=>
 EvO (rLoad E 34 h k) fun l=>
 EvO (pIndexAddr E 34 l i) fun m=>
 EvO (rLoad E 173 h m) fun o=>
 EvO (binFast E .add 3 f (.int .i64 1)) fun p=>
 Ev s (wCallV (recI E) (some (.func (.func 280) #[] #[])) [o,j,p] h) fun e=>
 EvO (pExtract 0 e.1) fun b=>
 EvO (pExtract 1 e.1) fun d=>
 PI (C280 s) K 7 [f,g,i,b,d] e.2):PI (C280 s) K 6 [j,f,g,i] h:=step_of H
theorem P280_7_of (H :
 PI (C280 s) K 8 [g,d,e,f,b] h):PI (C280 s) K 7 [d,e,f,g,b] h:=step_of H
theorem P280_8_of (H :
 EvO (unFast .not b) fun i=>
 BrK i (PI (C280 s) K 9 [d] h) (PI (C280 s) K 10 [d,e,f,g] h)):PI (C280 s) K 8 [d,e,f,g,b] h:=step_of H
theorem P280_9_of (H :
 K .ret [b,(.bool false)] h):PI (C280 s) K 9 [b] h:=step_of H
theorem P280_10_of (H :
 EvO (binFast E .add 3 f (.int .i64 1)) fun g=>
 PI (C280 s) K 5 [b,d,e,g] h):PI (C280 s) K 10 [b,d,e,f] h:=step_of H
theorem P280_11_of (H :
 K .ret [b,(.bool true)] h):PI (C280 s) K 11 [b] h:=step_of H
theorem F280_flatE {Rp:Value->Prop} (hok:h.ok) (H:PI (C280 true) (KR E [.tmp 6,.tmp 7] fun x k=>(isFlat x=true/\Rp x)/\h.next<=k.wm) 0 [v0,v1,v2] h.fresh):∃ v,Rp v/\(recI E).call 280 [v0,v1,v2] h=some [(v,h)]:=flatFE Tryz.f280 hok (ev_of (C280 true) H)
noncomputable def B281:Code:=bodyOf Tryz.f281
noncomputable def C281 (s:Bool):Cx:=⟨E,s,none,B281,[([0],[0]),([1,0,0],[1]),([1,0,1,0,0],[]),([1,1,0,0],[1]),([1,1,0,1,0,0,0,0],[1,3]),([1,1,0,1,0,0,1,0,0,0],[1,3]),([1,1,0,1,0,0,1,0,0,1,0,0],[]),([1,1,0,1,0,0,1,1],[1,3]),([1,1,1,0],[])],[2],[]⟩
abbrev P281_2 (s:Bool) (K:KF) (h:AH):Prop:=PI (C281 s) K 2 [] h
abbrev P281_3 (s:Bool) (K:KF) (b:Value) (h:AH):Prop:=PI (C281 s) K 3 [b] h
abbrev P281_4 (s:Bool) (K:KF) (b d:Value) (h:AH):Prop:=PI (C281 s) K 4 [b,d] h
abbrev P281_6 (s:Bool) (K:KF) (h:AH):Prop:=PI (C281 s) K 6 [] h
abbrev P281_8 (s:Bool) (K:KF) (h:AH):Prop:=PI (C281 s) K 8 [] h
theorem P281_0_of (H :
 Ev s (wNewRow 173 h d) fun b=>
 PI (C281 s) K 1 [b.1] b.2):PI (C281 s) K 0 [d] h:=step_of H
theorem P281_1_of (H :
 EvO (pFieldAddr E 173 1 f) fun B=>
 EvO (rLoad E 3 h B) fun C=>
 EvO (binFast E .lss 3 C (.int .i64 0)) fun g=>
 EvO (gdB g false (pFieldAddr E 173 0 f)) fun D=>
 EvO (gdB g false (rLoad E 3 h D)) fun F=>
 EvO (gdB g false (binFast E .neq 3 F (.int .i64 1))) fun G=>
 EvO (gdB g false G) fun i=>
 EvO (gdB i true (pFieldAddr E 173 0 f)) fun J=>
 EvO (gdB i true (rLoad E 3 h J)) fun L=>
 EvO (gdB i true (binFast E .neq 3 L (.int .i64 2))) fun j=>
 EvO (gdB g false (pickV i j (some (.bool false)))) fun k=>
 EvO (pickV g (some (.bool true)) k) fun b=>
 EvO (gdB b false (pFieldAddr E 173 0 f)) fun l=>
 EvO (gdB b false (rLoad E 3 h l)) fun m=>
 EvO (gdB b false (binFast E .eql 3 m (.int .i64 1))) fun o=>
 EvO (gdB b false o) fun d=>
 EvO (gdB d true (pFieldAddr E 173 2 f)) fun p=>
 EvO (gdB d true (rLoad E 34 h p)) fun q=>
 EvO (gdB d true (evRead E (tmOf [(23,q)]) (opAt B281 [1,0,0] 20) h)) fun r=>
 EvO (gdB d true (binFast E .gtr 3 r (.int .i64 0))) fun t=>
 EvO (gdB b false (pickV d t (some (.bool false)))) fun u=>
 EvO (pickV b (some (.bool true)) u) fun e=>
 EvO (gdB e false (pFieldAddr E 173 2 f)) fun w=>
 EvO (gdB e false (rLoad E 34 h w)) fun x=>
 EvO (gdB e false (evRead E (tmOf [(30,x)]) (opAt B281 [1,0,0] 27) h)) fun y=>
 EvO (gdB e false (binFast E .gtr 3 y (.int .i64 8))) fun z=>
 EvO (pickV e (some (.bool true)) z) fun A=>
 BrK A (PI (C281 s) K 2 [] h) (PI (C281 s) K 3 [f] h)):PI (C281 s) K 1 [f] h:=step_of H
theorem len281_1_20:evRead E (tmOf [(23,.slice a n c)]) (opAt B281 [1,0,0] 20) h=some (.int .i64 (n:Int)):=by cases a <;> kernel_rfl
theorem len281_1_27:evRead E (tmOf [(30,.slice a n c)]) (opAt B281 [1,0,0] 27) h=some (.int .i64 (n:Int)):=by cases a <;> kernel_rfl
theorem P281_2_of (H :
 K .ret [(.bool false)] h):PI (C281 s) K 2 [] h:=step_of H
theorem P281_3_of (H :
 PI (C281 s) K 4 [b,(.int .i64 0)] h):PI (C281 s) K 3 [b] h:=step_of H
theorem P281_4_of (H :
 EvO (pFieldAddr E 173 2 b) fun e=>
 EvO (rLoad E 34 h e) fun f=>
 EvO (evRead E (tmOf [(36,f)]) (opAt B281 [1,1,0,1,0,0,0,0] 3) h) fun g=>
 EvO (binFast E .lss 3 d g) fun i=>
 BrK i (PI (C281 s) K 5 [b,d] h) (PI (C281 s) K 8 [] h)):PI (C281 s) K 4 [b,d] h:=step_of H
theorem len281_4_3:evRead E (tmOf [(36,.slice a n c)]) (opAt B281 [1,1,0,1,0,0,0,0] 3) h=some (.int .i64 (n:Int)):=by cases a <;> kernel_rfl
theorem P281_5_of (H :
 EvO (pFieldAddr E 173 2 d) fun f=>
 EvO (rLoad E 34 h f) fun g=>
 EvO (pIndexAddr E 34 g e) fun i=>
 EvO (rLoad E 173 h i) fun j=>
 Ev s (wCallV (recI E) (some (.func (.func 281) #[] #[])) [j] h) fun b=>
 EvO (unFast .not b.1) fun k=>
 BrK k (PI (C281 s) K 6 [] b.2) (PI (C281 s) K 7 [d,e] b.2)):PI (C281 s) K 5 [d,e] h:=step_of H
theorem P281_6_of (H :
 K .ret [(.bool false)] h):PI (C281 s) K 6 [] h:=step_of H
theorem P281_7_of (H :
 EvO (binFast E .add 3 d (.int .i64 1)) fun e=>
 PI (C281 s) K 4 [b,e] h):PI (C281 s) K 7 [b,d] h:=step_of H
theorem P281_8_of (H :
 K .ret [(.bool true)] h):PI (C281 s) K 8 [] h:=step_of H
theorem F281_flatE {Rp:Value->Prop} (hok:h.ok) (H:PI (C281 true) (KR E [.tmp 2] fun x k=>(isFlat x=true/\Rp x)/\h.next<=k.wm) 0 [v0] h.fresh):∃ v,Rp v/\(recI E).call 281 [v0] h=some [(v,h)]:=flatFE Tryz.f281 hok (ev_of (C281 true) H)
noncomputable def B187:Code:=bodyOf Tryz.f187
noncomputable def C187 (s:Bool):Cx:=⟨E,s,none,B187,[([0],[0]),([1,0],[1])],[2],[]⟩
theorem P187_0_of (H :
 Ev s (wNewRow 173 h d) fun b=>
 PI (C187 s) K 1 [b.1] b.2):PI (C187 s) K 0 [d] h:=step_of H
theorem P187_1_of (H :
 EvO (rLoad E 173 h d) fun f=>
 Ev s (wCallV (recI E) (some (.func (.func 230) #[] #[])) [f] h) fun b=>
 EvO (gdB b.1 true (rLoad E 173 b.2 d)) fun g=>
 Ev s (gdW b.1 true (wCallV (recI E) (some (.func (.func 231) #[] #[])) [g] b.2) b.2) fun e=>
 EvO (gdB b.1 true (binFast E .eql 29 e.1 (.int .i64 0))) fun i=>
 EvO (pickV b.1 i (some (.bool false))) fun j=>
 K .ret [j] e.2):PI (C187 s) K 1 [d] h:=step_of H
theorem F187_flatE {Rp:Value->Prop} (hok:h.ok) (H:PI (C187 true) (KR E [.tmp 2] fun x k=>(isFlat x=true/\Rp x)/\h.next<=k.wm) 0 [v0] h.fresh):∃ v,Rp v/\(recI E).call 187 [v0] h=some [(v,h)]:=flatFE Tryz.f187 hok (ev_of (C187 true) H)
noncomputable def B230:Code:=bodyOf Tryz.f230
noncomputable def C230 (s:Bool):Cx:=⟨E,s,none,B230,[([0],[0]),([1,0,0],[1]),([1,0,1,0,0],[]),([1,1,0,0],[1]),([1,1,0,1,0,0,0,0],[1,3]),([1,1,0,1,0,0,1,0,0,0],[1,3]),([1,1,0,1,0,0,1,0,0,1,0],[1,3,4]),([1,1,0,1,0,0,1,0,0,1,1,0,0],[]),([1,1,0,1,0,0,1,1],[1,3]),([1,1,1,0],[])],[2],[]⟩
abbrev P230_2 (s:Bool) (K:KF) (h:AH):Prop:=PI (C230 s) K 2 [] h
abbrev P230_3 (s:Bool) (K:KF) (b:Value) (h:AH):Prop:=PI (C230 s) K 3 [b] h
abbrev P230_4 (s:Bool) (K:KF) (b d:Value) (h:AH):Prop:=PI (C230 s) K 4 [b,d] h
abbrev P230_7 (s:Bool) (K:KF) (h:AH):Prop:=PI (C230 s) K 7 [] h
abbrev P230_9 (s:Bool) (K:KF) (h:AH):Prop:=PI (C230 s) K 9 [] h
theorem P230_0_of (H :
 Ev s (wNewRow 173 h d) fun b=>
 PI (C230 s) K 1 [b.1] b.2):PI (C230 s) K 0 [d] h:=step_of H
theorem P230_1_of (H :
 EvO (pFieldAddr E 173 0 d) fun p=>
 EvO (rLoad E 3 h p) fun q=>
 EvO (binFast E .neq 3 q (.int .i64 2)) fun e=>
 EvO (gdB e false (pFieldAddr E 173 1 d)) fun r=>
 EvO (gdB e false (rLoad E 3 h r)) fun t=>
 EvO (gdB e false (binFast E .lss 3 t (.int .i64 0))) fun u=>
 EvO (pickV e (some (.bool true)) u) fun f=>
 EvO (gdB f false (pFieldAddr E 173 1 d)) fun w=>
 EvO (gdB f false (rLoad E 3 h w)) fun g=>
 EvO (gdB f false (binFast E .gtr 3 g (.int .i64 255))) fun i=>
 EvO (pickV f (some (.bool true)) i) fun b=>
 EvO (gdB b false (pFieldAddr E 173 2 d)) fun j=>
 EvO (gdB b false (rLoad E 34 h j)) fun k=>
 EvO (gdB b false (evRead E (tmOf [(20,k)]) (opAt B230 [1,0,0] 16) h)) fun l=>
 EvO (gdB b false (binFast E .gtr 3 l (.int .i64 8))) fun m=>
 EvO (pickV b (some (.bool true)) m) fun o=>
 BrK o (PI (C230 s) K 2 [] h) (PI (C230 s) K 3 [d] h)):PI (C230 s) K 1 [d] h:=step_of H
theorem len230_1_16:evRead E (tmOf [(20,.slice a n c)]) (opAt B230 [1,0,0] 16) h=some (.int .i64 (n:Int)):=by cases a <;> kernel_rfl
theorem P230_2_of (H :
 K .ret [(.bool false)] h):PI (C230 s) K 2 [] h:=step_of H
theorem P230_3_of (H :
 PI (C230 s) K 4 [b,(.int .i64 0)] h):PI (C230 s) K 3 [b] h:=step_of H
theorem P230_4_of (H :
 EvO (pFieldAddr E 173 2 b) fun e=>
 EvO (rLoad E 34 h e) fun f=>
 EvO (evRead E (tmOf [(26,f)]) (opAt B230 [1,1,0,1,0,0,0,0] 3) h) fun g=>
 EvO (binFast E .lss 3 d g) fun i=>
 BrK i (PI (C230 s) K 5 [b,d] h) (PI (C230 s) K 9 [] h)):PI (C230 s) K 4 [b,d] h:=step_of H
theorem len230_4_3:evRead E (tmOf [(26,.slice a n c)]) (opAt B230 [1,1,0,1,0,0,0,0] 3) h=some (.int .i64 (n:Int)):=by cases a <;> kernel_rfl
theorem P230_5_of (H :
 EvO (pFieldAddr E 173 2 b) fun f=>
 EvO (rLoad E 34 h f) fun g=>
 EvO (pIndexAddr E 34 g d) fun i=>
 EvO (rLoad E 173 h i) fun j=>
 Ev s (wCallV (recI E) (some (.func (.func 230) #[] #[])) [j] h) fun e=>
 PI (C230 s) K 6 [b,d,e.1] e.2):PI (C230 s) K 5 [b,d] h:=step_of H
theorem P230_6_of (H :
 EvO (unFast .not e) fun f=>
 BrK f (PI (C230 s) K 7 [] h) (PI (C230 s) K 8 [b,d] h)):PI (C230 s) K 6 [b,d,e] h:=step_of H
theorem P230_7_of (H :
 K .ret [(.bool false)] h):PI (C230 s) K 7 [] h:=step_of H
theorem P230_8_of (H :
 EvO (binFast E .add 3 d (.int .i64 1)) fun e=>
 PI (C230 s) K 4 [b,e] h):PI (C230 s) K 8 [b,d] h:=step_of H
theorem P230_9_of (H :
 K .ret [(.bool true)] h):PI (C230 s) K 9 [] h:=step_of H
theorem F230_flatE {Rp:Value->Prop} (hok:h.ok) (H:PI (C230 true) (KR E [.tmp 2] fun x k=>(isFlat x=true/\Rp x)/\h.next<=k.wm) 0 [v0] h.fresh):∃ v,Rp v/\(recI E).call 230 [v0] h=some [(v,h)]:=flatFE Tryz.f230 hok (ev_of (C230 true) H)
noncomputable def B138:Code:=bodyOf Tryz.f138
noncomputable def C138 (s:Bool):Cx:=⟨E,s,none,B138,[([0],[0]),([1,0,0],[1]),([1,0,1,0,0],[]),([1,1,0,0],[1]),([1,1,0,1,0,0],[]),([1,1,1,0,0],[1]),([1,1,1,0,1,0,0,0,0],[1,3]),([1,1,1,0,1,0,0,1,0,0,0],[1,3]),([1,1,1,0,1,0,0,1,0,0,1,0],[1,3,4]),([1,1,1,0,1,0,0,1,0,0,1,1,0,0],[]),([1,1,1,0,1,0,0,1,1],[1,3]),([1,1,1,1,0],[])],[2],[]⟩
abbrev P138_2 (s:Bool) (K:KF) (h:AH):Prop:=PI (C138 s) K 2 [] h
abbrev P138_3 (s:Bool) (K:KF) (b:Value) (h:AH):Prop:=PI (C138 s) K 3 [b] h
abbrev P138_4 (s:Bool) (K:KF) (h:AH):Prop:=PI (C138 s) K 4 [] h
abbrev P138_5 (s:Bool) (K:KF) (b:Value) (h:AH):Prop:=PI (C138 s) K 5 [b] h
abbrev P138_6 (s:Bool) (K:KF) (b d:Value) (h:AH):Prop:=PI (C138 s) K 6 [b,d] h
abbrev P138_9 (s:Bool) (K:KF) (h:AH):Prop:=PI (C138 s) K 9 [] h
abbrev P138_11 (s:Bool) (K:KF) (h:AH):Prop:=PI (C138 s) K 11 [] h
theorem P138_0_of (H :
 Ev s (wNewRow 36 h d) fun b=>
 PI (C138 s) K 1 [b.1] b.2):PI (C138 s) K 0 [d] h:=step_of H
theorem P138_1_of (H :
 EvO (pFieldAddr E 36 0 d) fun k=>
 EvO (rLoad E 3 h k) fun l=>
 EvO (binFast E .lss 3 l (.int .i64 (-3))) fun e=>
 EvO (gdB e false (pFieldAddr E 36 0 d)) fun m=>
 EvO (gdB e false (rLoad E 3 h m)) fun o=>
 EvO (gdB e false (binFast E .gtr 3 o (.int .i64 31))) fun p=>
 EvO (pickV e (some (.bool true)) p) fun b=>
 EvO (gdB b false (pFieldAddr E 36 1 d)) fun q=>
 EvO (gdB b false (rLoad E 34 h q)) fun f=>
 EvO (gdB b false (evRead E (tmOf [(15,f)]) (opAt B138 [1,0,0] 11) h)) fun g=>
 EvO (gdB b false (binFast E .gtr 3 g (.int .i64 8))) fun i=>
 EvO (pickV b (some (.bool true)) i) fun j=>
 BrK j (PI (C138 s) K 2 [] h) (PI (C138 s) K 3 [d] h)):PI (C138 s) K 1 [d] h:=step_of H
theorem len138_1_11:evRead E (tmOf [(15,.slice a n c)]) (opAt B138 [1,0,0] 11) h=some (.int .i64 (n:Int)):=by cases a <;> kernel_rfl
theorem P138_2_of (H :
 K .ret [(.bool false)] h):PI (C138 s) K 2 [] h:=step_of H
theorem P138_3_of (H :
 EvO (pFieldAddr E 36 0 d) fun k=>
 EvO (rLoad E 3 h k) fun l=>
 EvO (binFast E .eql 3 l (.int .i64 (-3))) fun e=>
 EvO (gdB e false (pFieldAddr E 36 0 d)) fun m=>
 EvO (gdB e false (rLoad E 3 h m)) fun o=>
 EvO (gdB e false (binFast E .eql 3 o (.int .i64 (-1)))) fun p=>
 EvO (pickV e (some (.bool true)) p) fun b=>
 EvO (gdB b true (pFieldAddr E 36 1 d)) fun q=>
 EvO (gdB b true (rLoad E 34 h q)) fun f=>
 EvO (gdB b true (evRead E (tmOf [(29,f)]) (opAt B138 [1,1,0,0] 11) h)) fun g=>
 EvO (gdB b true (binFast E .gtr 3 g (.int .i64 0))) fun i=>
 EvO (pickV b i (some (.bool false))) fun j=>
 BrK j (PI (C138 s) K 4 [] h) (PI (C138 s) K 5 [d] h)):PI (C138 s) K 3 [d] h:=step_of H
theorem len138_3_11:evRead E (tmOf [(29,.slice a n c)]) (opAt B138 [1,1,0,0] 11) h=some (.int .i64 (n:Int)):=by cases a <;> kernel_rfl
theorem P138_4_of (H :
 K .ret [(.bool false)] h):PI (C138 s) K 4 [] h:=step_of H
theorem P138_5_of (H :
 PI (C138 s) K 6 [b,(.int .i64 0)] h):PI (C138 s) K 5 [b] h:=step_of H
theorem P138_6_of (H :
 EvO (pFieldAddr E 36 1 b) fun e=>
 EvO (rLoad E 34 h e) fun f=>
 EvO (evRead E (tmOf [(35,f)]) (opAt B138 [1,1,1,0,1,0,0,0,0] 3) h) fun g=>
 EvO (binFast E .lss 3 d g) fun i=>
 BrK i (PI (C138 s) K 7 [b,d] h) (PI (C138 s) K 11 [] h)):PI (C138 s) K 6 [b,d] h:=step_of H
theorem len138_6_3:evRead E (tmOf [(35,.slice a n c)]) (opAt B138 [1,1,1,0,1,0,0,0,0] 3) h=some (.int .i64 (n:Int)):=by cases a <;> kernel_rfl
theorem P138_7_of (H :
 EvO (pFieldAddr E 36 1 b) fun f=>
 EvO (rLoad E 34 h f) fun g=>
 EvO (pIndexAddr E 34 g d) fun i=>
 EvO (rLoad E 173 h i) fun j=>
 Ev s (wCallV (recI E) (some (.func (.func 187) #[] #[])) [j] h) fun e=>
 PI (C138 s) K 8 [b,d,e.1] e.2):PI (C138 s) K 7 [b,d] h:=step_of H
theorem P138_8_of (H :
 EvO (unFast .not e) fun f=>
 BrK f (PI (C138 s) K 9 [] h) (PI (C138 s) K 10 [b,d] h)):PI (C138 s) K 8 [b,d,e] h:=step_of H
theorem P138_9_of (H :
 K .ret [(.bool false)] h):PI (C138 s) K 9 [] h:=step_of H
theorem P138_10_of (H :
 EvO (binFast E .add 3 d (.int .i64 1)) fun e=>
 PI (C138 s) K 6 [b,e] h):PI (C138 s) K 10 [b,d] h:=step_of H
theorem P138_11_of (H :
 K .ret [(.bool true)] h):PI (C138 s) K 11 [] h:=step_of H
theorem F138_flatE {Rp:Value->Prop} (hok:h.ok) (H:PI (C138 true) (KR E [.tmp 2] fun x k=>(isFlat x=true/\Rp x)/\h.next<=k.wm) 0 [v0] h.fresh):∃ v,Rp v/\(recI E).call 138 [v0] h=some [(v,h)]:=flatFE Tryz.f138 hok (ev_of (C138 true) H)
noncomputable def B139:Code:=bodyOf Tryz.f139
noncomputable def C139 (s:Bool):Cx:=⟨E,s,none,B139,[([0],[0,1]),([1,0,0],[2,3]),([1,0,1,0,0],[2,3]),([1,1,0,0],[2,3]),([1,1,0,1,0,0],[2,3]),([1,1,1,0],[2,3])],[4],[]⟩
theorem P139_0_of (H :
 Ev s (wNewRow 52 h e) fun b=>
 Ev s (wNewRow 52 b.2 f) fun d=>
 PI (C139 s) K 1 [b.1,d.1] d.2):PI (C139 s) K 0 [e,f] h:=step_of H
theorem P139_1_of (H :
 EvO (pFieldAddr E 52 0 b) fun e=>
 EvO (rLoad E 3 h e) fun f=>
 EvO (pFieldAddr E 52 0 d) fun g=>
 EvO (rLoad E 3 h g) fun i=>
 EvO (binFast E .neq 3 f i) fun j=>
 BrK j (PI (C139 s) K 2 [b,d] h) (PI (C139 s) K 3 [b,d] h)):PI (C139 s) K 1 [b,d] h:=step_of H
theorem P139_2_of (H :
 EvO (pFieldAddr E 52 0 b) fun e=>
 EvO (rLoad E 3 h e) fun f=>
 EvO (pFieldAddr E 52 0 d) fun g=>
 EvO (rLoad E 3 h g) fun i=>
 EvO (binFast E .lss 3 f i) fun j=>
 K .ret [j] h):PI (C139 s) K 2 [b,d] h:=step_of H
theorem P139_3_of (H :
 EvO (pFieldAddr E 52 1 b) fun e=>
 EvO (rLoad E 3 h e) fun f=>
 EvO (pFieldAddr E 52 1 d) fun g=>
 EvO (rLoad E 3 h g) fun i=>
 EvO (binFast E .neq 3 f i) fun j=>
 BrK j (PI (C139 s) K 4 [b,d] h) (PI (C139 s) K 5 [b,d] h)):PI (C139 s) K 3 [b,d] h:=step_of H
theorem P139_4_of (H :
 EvO (pFieldAddr E 52 1 b) fun e=>
 EvO (rLoad E 3 h e) fun f=>
 EvO (pFieldAddr E 52 1 d) fun g=>
 EvO (rLoad E 3 h g) fun i=>
 EvO (binFast E .lss 3 f i) fun j=>
 K .ret [j] h):PI (C139 s) K 4 [b,d] h:=step_of H
theorem P139_5_of (H :
 EvO (pFieldAddr E 52 2 b) fun e=>
 EvO (rLoad E 3 h e) fun f=>
 EvO (pFieldAddr E 52 2 d) fun g=>
 EvO (rLoad E 3 h g) fun i=>
 EvO (binFast E .lss 3 f i) fun j=>
 K .ret [j] h):PI (C139 s) K 5 [b,d] h:=step_of H
theorem F139_flat (hok:h.ok) (hv:isScalar v=true) (H:PI (C139 s) (KR E [.tmp 4] fun x k=>x=v/\h.next<=k.wm) 0 [v0,v1] h.fresh):(recI E).call 139 [v0,v1] h=some [(v,h)]:=flatF Tryz.f139 hok hv (ev_of (C139 s) H)
noncomputable def B85:Code:=bodyOf Tryz.f85
noncomputable def C85 (s:Bool):Cx:=⟨E,s,none,B85,[([0],[0]),([1,0,0],[1]),([1,0,1,0,0],[]),([1,1,0,0],[1]),([1,1,0,1,0,0,0,0],[1,3]),([1,1,0,1,0,0,1,0,0,0],[1,3]),([1,1,0,1,0,0,1,0,0,1,0,0],[1,3,4]),([1,1,0,1,0,0,1,0,0,1,0,1,0,0],[]),([1,1,0,1,0,0,1,0,0,1,1,0],[1,3]),([1,1,0,1,0,0,1,0,0,1,1,1,0,0],[]),([1,1,0,1,0,0,1,1],[1,3]),([1,1,1,0,0],[1]),([1,1,1,0,1,0,0,0,0],[1,5]),([1,1,1,0,1,0,0,1,0,0,0],[1,5]),([1,1,1,0,1,0,0,1,0,0,1,0,0],[1,5,6]),([1,1,1,0,1,0,0,1,0,0,1,0,1,0,0],[]),([1,1,1,0,1,0,0,1,0,0,1,1,0],[1,5,6]),([1,1,1,0,1,0,0,1,0,0,1,1,1,0,0],[]),([1,1,1,0,1,0,0,1,1],[1,5]),([1,1,1,1,0],[])],[2],[]⟩
abbrev P85_2 (s:Bool) (K:KF) (h:AH):Prop:=PI (C85 s) K 2 [] h
abbrev P85_3 (s:Bool) (K:KF) (b:Value) (h:AH):Prop:=PI (C85 s) K 3 [b] h
abbrev P85_4 (s:Bool) (K:KF) (b d:Value) (h:AH):Prop:=PI (C85 s) K 4 [b,d] h
abbrev P85_7 (s:Bool) (K:KF) (h:AH):Prop:=PI (C85 s) K 7 [] h
abbrev P85_9 (s:Bool) (K:KF) (h:AH):Prop:=PI (C85 s) K 9 [] h
abbrev P85_10 (s:Bool) (K:KF) (b d:Value) (h:AH):Prop:=PI (C85 s) K 10 [b,d] h
abbrev P85_12 (s:Bool) (K:KF) (b d:Value) (h:AH):Prop:=PI (C85 s) K 12 [b,d] h
abbrev P85_15 (s:Bool) (K:KF) (h:AH):Prop:=PI (C85 s) K 15 [] h
abbrev P85_16 (s:Bool) (K:KF) (b d e:Value) (h:AH):Prop:=PI (C85 s) K 16 [b,d,e] h
abbrev P85_18 (s:Bool) (K:KF) (b d:Value) (h:AH):Prop:=PI (C85 s) K 18 [b,d] h
theorem P85_0_of (H :
 Ev s (wNewRow 25 h d) fun b=>
 PI (C85 s) K 1 [b.1] b.2):PI (C85 s) K 0 [d] h:=step_of H
theorem P85_1_of (H :
 EvO (pFieldAddr E 25 0 d) fun q=>
 EvO (rLoad E 3 h q) fun r=>
 EvO (binFast E .lss 3 r (.int .i64 1)) fun f=>
 EvO (gdB f false (pFieldAddr E 25 0 d)) fun t=>
 EvO (gdB f false (rLoad E 3 h t)) fun u=>
 EvO (gdB f false (binFast E .gtr 3 u (.int .i64 20000))) fun w=>
 EvO (pickV f (some (.bool true)) w) fun e=>
 EvO (gdB e false (pFieldAddr E 25 1 d)) fun x=>
 EvO (gdB e false (rLoad E 22 h x)) fun g=>
 EvO (gdB e false (evRead E (tmOf [(17,g)]) (opAt B85 [1,0,0] 11) h)) fun i=>
 EvO (gdB e false (binFast E .gtr 3 i (.int .i64 4000))) fun j=>
 EvO (pickV e (some (.bool true)) j) fun b=>
 EvO (gdB b false (pFieldAddr E 25 2 d)) fun k=>
 EvO (gdB b false (rLoad E 23 h k)) fun l=>
 EvO (gdB b false (evRead E (tmOf [(23,l)]) (opAt B85 [1,0,0] 17) h)) fun m=>
 EvO (gdB b false (binFast E .gtr 3 m (.int .i64 100000))) fun o=>
 EvO (pickV b (some (.bool true)) o) fun p=>
 BrK p (PI (C85 s) K 2 [] h) (PI (C85 s) K 3 [d] h)):PI (C85 s) K 1 [d] h:=step_of H
theorem len85_1_11:evRead E (tmOf [(17,.slice a n c)]) (opAt B85 [1,0,0] 11) h=some (.int .i64 (n:Int)):=by cases a <;> kernel_rfl
theorem len85_1_17:evRead E (tmOf [(23,.slice a n c)]) (opAt B85 [1,0,0] 17) h=some (.int .i64 (n:Int)):=by cases a <;> kernel_rfl
theorem P85_2_of (H :
 K .ret [(.bool false)] h):PI (C85 s) K 2 [] h:=step_of H
theorem P85_3_of (H :
 PI (C85 s) K 4 [b,(.int .i64 0)] h):PI (C85 s) K 3 [b] h:=step_of H
theorem P85_4_of (H :
 EvO (pFieldAddr E 25 1 b) fun e=>
 EvO (rLoad E 22 h e) fun f=>
 EvO (evRead E (tmOf [(29,f)]) (opAt B85 [1,1,0,1,0,0,0,0] 3) h) fun g=>
 EvO (binFast E .lss 3 d g) fun i=>
 BrK i (PI (C85 s) K 5 [b,d] h) (PI (C85 s) K 11 [b] h)):PI (C85 s) K 4 [b,d] h:=step_of H
theorem len85_4_3:evRead E (tmOf [(29,.slice a n c)]) (opAt B85 [1,1,0,1,0,0,0,0] 3) h=some (.int .i64 (n:Int)):=by cases a <;> kernel_rfl
theorem P85_5_of (H :
 EvO (pFieldAddr E 25 1 b) fun f=>
 EvO (rLoad E 22 h f) fun g=>
 EvO (pIndexAddr E 22 g d) fun i=>
 EvO (rLoad E 36 h i) fun j=>
 Ev s (wCallV (recI E) (some (.func (.func 138) #[] #[])) [j] h) fun e=>
 PI (C85 s) K 6 [b,d,e.1] e.2):PI (C85 s) K 5 [b,d] h:=step_of H
theorem P85_6_of (H :
 EvO (unFast .not e) fun f=>
 BrK f (PI (C85 s) K 7 [] h) (PI (C85 s) K 8 [b,d] h)):PI (C85 s) K 6 [b,d,e] h:=step_of H
theorem P85_7_of (H :
 K .ret [(.bool false)] h):PI (C85 s) K 7 [] h:=step_of H
theorem P85_8_of (H :
 EvO (binFast E .gtr 3 e (.int .i64 0)) fun b=>
 EvO (gdB b true (pFieldAddr E 25 1 f)) fun o=>
 EvO (gdB b true (rLoad E 22 h o)) fun p=>
 EvO (gdB b true e) fun q=>
 EvO (gdB b true (binFast E .sub 3 q (.int .i64 1))) fun r=>
 EvO (gdB b true (pIndexAddr E 22 p r)) fun t=>
 EvO (gdB b true (rLoad E 36 h t)) fun u=>
 EvO (gdB b true (pFieldAddr E 25 1 f)) fun w=>
 EvO (gdB b true (rLoad E 22 h w)) fun g=>
 EvO (gdB b true e) fun i=>
 EvO (gdB b true (pIndexAddr E 22 g i)) fun j=>
 EvO (gdB b true (rLoad E 36 h j)) fun k=>
 Ev s (gdW b true (wCallV (recI E) (some (.func (.func 88) #[] #[])) [u,k] h) h) fun d=>
 EvO (gdB b true (binFast E .geq 3 d.1 (.int .i64 0))) fun l=>
 EvO (pickV b l (some (.bool false))) fun m=>
 BrK m (PI (C85 s) K 9 [] d.2) (PI (C85 s) K 10 [f,e] d.2)):PI (C85 s) K 8 [f,e] h:=step_of H
theorem P85_9_of (H :
 K .ret [(.bool false)] h):PI (C85 s) K 9 [] h:=step_of H
theorem P85_10_of (H :
 EvO (binFast E .add 3 d (.int .i64 1)) fun e=>
 PI (C85 s) K 4 [b,e] h):PI (C85 s) K 10 [b,d] h:=step_of H
theorem P85_11_of (H :
 PI (C85 s) K 12 [b,(.int .i64 0)] h):PI (C85 s) K 11 [b] h:=step_of H
theorem P85_12_of (H :
 EvO (pFieldAddr E 25 2 b) fun e=>
 EvO (rLoad E 23 h e) fun f=>
 EvO (evRead E (tmOf [(61,f)]) (opAt B85 [1,1,1,0,1,0,0,0,0] 3) h) fun g=>
 EvO (binFast E .lss 3 d g) fun i=>
 BrK i (PI (C85 s) K 13 [b,d] h) (PI (C85 s) K 19 [] h)):PI (C85 s) K 12 [b,d] h:=step_of H
theorem len85_12_3:evRead E (tmOf [(61,.slice a n c)]) (opAt B85 [1,1,1,0,1,0,0,0,0] 3) h=some (.int .i64 (n:Int)):=by cases a <;> kernel_rfl
theorem P85_13_of (H :
 EvO (pFieldAddr E 25 2 d) fun f=>
 EvO (rLoad E 23 h f) fun g=>
 EvO (pIndexAddr E 23 g e) fun i=>
 EvO (rLoad E 52 h i) fun j=>
 Ev s (wNewRow 52 h (zeroV E 52)) fun b=>
 Ev s (wStore E 52 b.2 b.1 j) fun k=>
 PI (C85 s) K 14 [d,e,b.1] k.2):PI (C85 s) K 13 [d,e] h:=step_of H
theorem P85_14_of (H :
 EvO (pFieldAddr E 52 0 f) fun J=>
 EvO (rLoad E 3 h J) fun L=>
 EvO (binFast E .lss 3 L (.int .i64 0)) fun g=>
 EvO (gdB g false (pFieldAddr E 52 0 f)) fun M=>
 EvO (gdB g false (rLoad E 3 h M)) fun N=>
 EvO (gdB g false (pFieldAddr E 25 0 i)) fun O=>
 EvO (gdB g false (rLoad E 3 h O)) fun Q=>
 EvO (gdB g false (binFast E .geq 3 N Q)) fun S=>
 EvO (pickV g (some (.bool true)) S) fun j=>
 EvO (gdB j false (pFieldAddr E 52 2 f)) fun k=>
 EvO (gdB j false (rLoad E 3 h k)) fun l=>
 EvO (gdB j false (binFast E .lss 3 l (.int .i64 0))) fun m=>
 EvO (pickV j (some (.bool true)) m) fun d=>
 EvO (gdB d false (pFieldAddr E 52 2 f)) fun o=>
 EvO (gdB d false (rLoad E 3 h o)) fun p=>
 EvO (gdB d false (pFieldAddr E 25 0 i)) fun q=>
 EvO (gdB d false (rLoad E 3 h q)) fun r=>
 EvO (gdB d false (binFast E .geq 3 p r)) fun t=>
 EvO (pickV d (some (.bool true)) t) fun e=>
 EvO (gdB e false (pFieldAddr E 52 1 f)) fun u=>
 EvO (gdB e false (rLoad E 3 h u)) fun w=>
 EvO (gdB e false (binFast E .lss 3 w (.int .i64 0))) fun x=>
 EvO (pickV e (some (.bool true)) x) fun b=>
 EvO (gdB b false (pFieldAddr E 52 1 f)) fun y=>
 EvO (gdB b false (rLoad E 3 h y)) fun z=>
 EvO (gdB b false (pFieldAddr E 25 1 i)) fun A=>
 EvO (gdB b false (rLoad E 22 h A)) fun B=>
 EvO (gdB b false (evRead E (tmOf [(102,B)]) (opAt B85 [1,1,1,0,1,0,0,1,0,0,1,0,0] 32) h)) fun C=>
 EvO (gdB b false (binFast E .geq 3 z C)) fun D=>
 EvO (pickV b (some (.bool true)) D) fun F=>
 BrK F (PI (C85 s) K 15 [] h) (PI (C85 s) K 16 [i,G,f] h)):PI (C85 s) K 14 [i,G,f] h:=step_of H
theorem len85_14_32:evRead E (tmOf [(102,.slice a n c)]) (opAt B85 [1,1,1,0,1,0,0,1,0,0,1,0,0] 32) h=some (.int .i64 (n:Int)):=by cases a <;> kernel_rfl
theorem P85_15_of (H :
 K .ret [(.bool false)] h):PI (C85 s) K 15 [] h:=step_of H
theorem P85_16_of (H :
 EvO (binFast E .gtr 3 e (.int .i64 0)) fun b=>
 EvO (gdB b true (pFieldAddr E 25 2 i)) fun k=>
 EvO (gdB b true (rLoad E 23 h k)) fun l=>
 EvO (gdB b true e) fun m=>
 EvO (gdB b true (binFast E .sub 3 m (.int .i64 1))) fun o=>
 EvO (gdB b true (pIndexAddr E 23 l o)) fun p=>
 EvO (gdB b true (rLoad E 52 h p)) fun q=>
 EvO (gdB b true (rLoad E 52 h j)) fun r=>
 Ev s (gdW b true (wCallV (recI E) (some (.func (.func 139) #[] #[])) [q,r] h) h) fun d=>
 EvO (gdB b true (unFast .not d.1)) fun f=>
 EvO (pickV b f (some (.bool false))) fun g=>
 BrK g (PI (C85 s) K 17 [] d.2) (PI (C85 s) K 18 [i,e] d.2)):PI (C85 s) K 16 [i,e,j] h:=step_of H
theorem P85_17_of (H :
 K .ret [(.bool false)] h):PI (C85 s) K 17 [] h:=step_of H
theorem P85_18_of (H :
 EvO (binFast E .add 3 d (.int .i64 1)) fun e=>
 PI (C85 s) K 12 [b,e] h):PI (C85 s) K 18 [b,d] h:=step_of H
theorem P85_19_of (H :
 K .ret [(.bool true)] h):PI (C85 s) K 19 [] h:=step_of H
theorem F85_flatE {Rp:Value->Prop} (hok:h.ok) (H:PI (C85 true) (KR E [.tmp 2] fun x k=>(isFlat x=true/\Rp x)/\h.next<=k.wm) 0 [v0] h.fresh):∃ v,Rp v/\(recI E).call 85 [v0] h=some [(v,h)]:=flatFE Tryz.f85 hok (ev_of (C85 true) H)
noncomputable def B23:Code:=bodyOf Tryz.f23
noncomputable def C23 (s:Bool):Cx:=⟨E,s,none,B23,[([0],[0]),([1,0],[1]),([1,1,0,0],[3]),([1,1,0,1,0,0],[]),([1,1,1,0],[])],[2],[]⟩
theorem P23_0_of (H :
 Ev s (wNewRow 25 h d) fun b=>
 PI (C23 s) K 1 [b.1] b.2):PI (C23 s) K 0 [d] h:=step_of H
theorem P23_1_of (H :
 EvO (rLoad E 25 h d) fun e=>
 Ev s (wCallV (recI E) (some (.func (.func 85) #[] #[])) [e] h) fun b=>
 PI (C23 s) K 2 [b.1] b.2):PI (C23 s) K 1 [d] h:=step_of H
theorem P23_2_of (H :
 EvO (unFast .not b) fun d=>
 BrK d (PI (C23 s) K 3 [] h) (PI (C23 s) K 4 [] h)):PI (C23 s) K 2 [b] h:=step_of H
theorem P23_3_of (H :
 K .ret [(.int .i64 8)] h):PI (C23 s) K 3 [] h:=step_of H
theorem P23_4_of (H :
 K .ret [(.int .i64 0)] h):PI (C23 s) K 4 [] h:=step_of H
theorem F23_flatE {Rp:Value->Prop} (hok:h.ok) (H:PI (C23 true) (KR E [.tmp 2] fun x k=>(isFlat x=true/\Rp x)/\h.next<=k.wm) 0 [v0] h.fresh):∃ v,Rp v/\(recI E).call 23 [v0] h=some [(v,h)]:=flatFE Tryz.f23 hok (ev_of (C23 true) H)
noncomputable def B24:Code:=bodyOf Tryz.f24
noncomputable def C24 (s:Bool):Cx:=⟨E,s,none,B24,[([0],[0]),([1,0],[1]),([1,1,0,0],[1,3]),([1,1,0,1,0,0,0,0],[1,3,4]),([1,1,0,1,0,0,1,0,0,0],[1,3,4]),([1,1,0,1,0,0,1,0,0,1],[1,3,4,5]),([1,1,0,1,0,0,1,1],[1,3,4]),([1,1,1,0],[3])],[2],[]⟩
abbrev P24_3 (s:Bool) (K:KF) (b d e:Value) (h:AH):Prop:=PI (C24 s) K 3 [b,d,e] h
theorem P24_0_of (H :
 Ev s (wNewRow 25 h d) fun b=>
 PI (C24 s) K 1 [b.1] b.2):PI (C24 s) K 0 [d] h:=step_of H
theorem P24_1_of (H :
 EvO (pFieldAddr E 25 0 b) fun f=>
 EvO (rLoad E 3 h f) fun d=>
 Ev s (wMakeSlice E 49 d d h) fun e=>
 PI (C24 s) K 2 [b,e.1] e.2):PI (C24 s) K 1 [b] h:=step_of H
theorem P24_2_of (H :
 PI (C24 s) K 3 [b,d,(.int .i64 0)] h):PI (C24 s) K 2 [b,d] h:=step_of H
theorem P24_3_of (H :
 EvO (pFieldAddr E 25 2 b) fun f=>
 EvO (rLoad E 23 h f) fun g=>
 EvO (evRead E (tmOf [(11,g)]) (opAt B24 [1,1,0,1,0,0,0,0] 3) h) fun i=>
 EvO (binFast E .lss 3 e i) fun j=>
 BrK j (PI (C24 s) K 4 [b,d,e] h) (PI (C24 s) K 7 [d] h)):PI (C24 s) K 3 [b,d,e] h:=step_of H
theorem len24_3_3:evRead E (tmOf [(11,.slice a n c)]) (opAt B24 [1,1,0,1,0,0,0,0] 3) h=some (.int .i64 (n:Int)):=by cases a <;> kernel_rfl
theorem P24_4_of (H :
 EvO (pFieldAddr E 25 2 d) fun g=>
 EvO (rLoad E 23 h g) fun i=>
 EvO (pIndexAddr E 23 i e) fun j=>
 EvO (rLoad E 52 h j) fun k=>
 Ev s (wNewRow 52 h (zeroV E 52)) fun b=>
 Ev s (wStore E 52 b.2 b.1 k) fun l=>
 PI (C24 s) K 5 [d,f,e,b.1] l.2):PI (C24 s) K 4 [d,f,e] h:=step_of H
theorem P24_5_of (H :
 EvO (pFieldAddr E 52 0 k) fun l=>
 EvO (rLoad E 3 h l) fun p=>
 EvO (pFieldAddr E 52 0 k) fun q=>
 EvO (rLoad E 3 h q) fun r=>
 EvO (pIndexAddr E 49 j r) fun t=>
 EvO (rLoad E 23 h t) fun u=>
 EvO (rLoad E 52 h k) fun y=>
 Ev s (wBuildSlice E 23 1 (some [(0,y)]) h) fun i=>
 EvO (rLoad E 23 i.2 t) fun g=>veq 100 g u=true ∧
 (EvO (rLoad E 3 i.2 q) fun f=>veq 100 f r=true ∧
 (EvO (rLoad E 3 i.2 l) fun e=>veq 100 e p=true ∧
 (Ev s (wBuiltinO E .append [23,23] [u,i.1] i.2) fun d=>
 EvO (rLoad E 3 d.2 l) fun b=>veq 100 b p=true ∧
 (EvO (pIndexAddr E 49 j p) fun m=>
 Ev s (wStore E 23 d.2 m d.1) fun o=>
 PI (C24 s) K 6 [w,j,x] o.2))))):PI (C24 s) K 5 [w,j,x,k] h:=step_of H
theorem P24_6_of (H :
 EvO (binFast E .add 3 e (.int .i64 1)) fun f=>
 PI (C24 s) K 3 [b,d,f] h):PI (C24 s) K 6 [b,d,e] h:=step_of H
theorem P24_7_of (H :
 K .ret [b] h):PI (C24 s) K 7 [b] h:=step_of H
theorem F24_some (H:PI (C24 true) (KR E [.tmp 2] fun x k=>(isFlat x=false\/k.wm<h.next)/\Rp x ⟨k.t,k.next,cond (Nat.ble h.wm k.wm) h.wm k.wm⟩) 0 [v0] h.fresh):Ev true ((recI E).call 24 [v0] h) fun x=>Rp x.1 x.2:=someF Tryz.f24 (ev_of (C24 true) H)
noncomputable def B27:Code:=bodyOf Tryz.f27
noncomputable def C27 (s:Bool):Cx:=⟨E,s,none,B27,[([0],[0,1]),([1,0],[0,1])],[4],[]⟩
theorem P27_0_of (H :
 PI (C27 s) K 1 [b,d] h):PI (C27 s) K 0 [b,d] h:=step_of H
theorem P27_1_of (H :
 Ev s (wCallV (recI E) (some (.func (.func 87) #[] #[])) [d,e] h) fun b=>
 EvO (binFast E .geq 3 b.1 (.int .i64 0)) fun f=>
 K .ret [f] b.2):PI (C27 s) K 1 [d,e] h:=step_of H
theorem F27_flat (hok:h.ok) (hv:isScalar v=true) (H:PI (C27 s) (KR E [.tmp 4] fun x k=>x=v/\h.next<=k.wm) 0 [v0,v1] h.fresh):(recI E).call 27 [v0,v1] h=some [(v,h)]:=flatF Tryz.f27 hok hv (ev_of (C27 s) H)
noncomputable def B87:Code:=bodyOf Tryz.f87
noncomputable def C87 (s:Bool):Cx:=⟨E,s,none,B87,[([0],[0,1]),([1,0,0],[0,1]),([1,0,1,0,0,0],[0,1,7,8]),([1,0,1,0,0,1,1,0,0,0],[0,1,7,8]),([1,0,1,0,0,1,1,0,0,1,0],[0,1,5,7,8]),([1,0,1,0,0,1,1,0,0,1,1,0,0],[5]),([1,0,1,0,0,1,1,1],[0,1,7,8]),([1,1,0],[])],[4],[]⟩
abbrev P87_2 (s:Bool) (K:KF) (b d e f:Value) (h:AH):Prop:=PI (C87 s) K 2 [b,d,e,f] h
theorem P87_0_of (H :
 PI (C87 s) K 1 [b,d] h):PI (C87 s) K 0 [b,d] h:=step_of H
theorem P87_1_of (H :
 EvO (evRead E (tmOf [(6,b)]) (opAt B87 [1,0,0] 1) h) fun e=>
 PI (C87 s) K 2 [b,d,e,(.int .i64 0)] h):PI (C87 s) K 1 [b,d] h:=step_of H
theorem len87_1_1:evRead E (tmOf [(6,.slice a n c)]) (opAt B87 [1,0,0] 1) h=some (.int .i64 (n:Int)):=by cases a <;> kernel_rfl
theorem P87_2_of (H :
 EvO (binFast E .lss 3 d b) fun g=>
 BrK g (PI (C87 s) K 3 [e,f,b,d] h) (PI (C87 s) K 7 [] h)):PI (C87 s) K 2 [e,f,b,d] h:=step_of H
theorem P87_3_of (H :
 PI (C87 s) K 4 [d,e,b,f,b] h):PI (C87 s) K 3 [d,e,f,b] h:=step_of H
theorem P87_4_of (H :
 EvO (pIndexAddr E 47 b e) fun i=>
 EvO (rLoad E 3 h i) fun j=>
 EvO (binFast E .eql 3 d j) fun k=>
 BrK k (PI (C87 s) K 5 [e] h) (PI (C87 s) K 6 [b,d,f,g] h)):PI (C87 s) K 4 [b,d,e,f,g] h:=step_of H
theorem P87_5_of (H :
 K .ret [b] h):PI (C87 s) K 5 [b] h:=step_of H
theorem P87_6_of (H :
 EvO (binFast E .add 3 f (.int .i64 1)) fun g=>
 PI (C87 s) K 2 [b,d,e,g] h):PI (C87 s) K 6 [b,d,e,f] h:=step_of H
theorem P87_7_of (H :
 K .ret [(.int .i64 (-1))] h):PI (C87 s) K 7 [] h:=step_of H
theorem F87_flat (hok:h.ok) (hv:isScalar v=true) (H:PI (C87 s) (KR E [.tmp 4] fun x k=>x=v/\h.next<=k.wm) 0 [v0,v1] h.fresh):(recI E).call 87 [v0,v1] h=some [(v,h)]:=flatF Tryz.f87 hok hv (ev_of (C87 s) H)
noncomputable def B19:Code:=bodyOf Tryz.f19
noncomputable def C19 (s:Bool):Cx:=⟨E,s,none,B19,[([0],[0]),([1,0],[0])],[2],[]⟩
theorem P19_0_of (H :
 PI (C19 s) K 1 [b] h):PI (C19 s) K 0 [b] h:=step_of H
theorem P19_1_of (H :
 Ev s (wCallV (recI E) (some (.func (.func 74) #[] #[])) (some [d,(.func (.func 75) #[] #[])]) h) fun b=>
 EvO (unFast .not b.1) fun e=>
 K .ret [e] b.2):PI (C19 s) K 1 [d] h:=step_of H
theorem F19_flat (hok:h.ok) (hv:isScalar v=true) (H:PI (C19 s) (KR E [.tmp 2] fun x k=>x=v/\h.next<=k.wm) 0 [v0] h.fresh):(recI E).call 19 [v0] h=some [(v,h)]:=flatF Tryz.f19 hok hv (ev_of (C19 s) H)
noncomputable def B74:Code:=bodyOf Tryz.f74
noncomputable def C74 (s:Bool):Cx:=⟨E,s,none,B74,[([0],[0,1]),([1,0],[0,1])],[4],[]⟩
theorem P74_0_of (H :
 PI (C74 s) K 1 [b,d] h):PI (C74 s) K 0 [b,d] h:=step_of H
theorem P74_1_of (H :
 Ev s (wCallV (recI E) (some (.func (.func 126) #[] #[])) [d,e] h) fun b=>
 EvO (binFast E .geq 3 b.1 (.int .i64 0)) fun f=>
 K .ret [f] b.2):PI (C74 s) K 1 [d,e] h:=step_of H
theorem F74_flat (hok:h.ok) (hv:isScalar v=true) (H:PI (C74 s) (KR E [.tmp 4] fun x k=>x=v/\h.next<=k.wm) 0 [v0,v1] h.fresh):(recI E).call 74 [v0,v1] h=some [(v,h)]:=flatF Tryz.f74 hok hv (ev_of (C74 s) H)
noncomputable def B75:Code:=bodyOf Tryz.f75
noncomputable def C75 (s:Bool):Cx:=⟨E,s,none,B75,[([0],[0]),([1,0],[1])],[2],[]⟩
theorem P75_0_of (H :
 Ev s (wNewRow 32 h d) fun b=>
 PI (C75 s) K 1 [b.1] b.2):PI (C75 s) K 0 [d] h:=step_of H
theorem P75_1_of (H :
 EvO (pFieldAddr E 32 1 b) fun d=>
 EvO (rLoad E 26 h d) fun e=>
 EvO (evRead E (tmOf [(4,e)]) (opAt B75 [1,0] 2) h) fun f=>
 EvO (binFast E .gtr 3 f (.int .i64 4000)) fun g=>
 K .ret [g] h):PI (C75 s) K 1 [b] h:=step_of H
theorem len75_1_2:evRead E (tmOf [(4,.slice a n c)]) (opAt B75 [1,0] 2) h=some (.int .i64 (n:Int)):=by cases a <;> kernel_rfl
theorem F75_flat (hok:h.ok) (hv:isScalar v=true) (H:PI (C75 s) (KR E [.tmp 2] fun x k=>x=v/\h.next<=k.wm) 0 [v0] h.fresh):(recI E).call 75 [v0] h=some [(v,h)]:=flatF Tryz.f75 hok hv (ev_of (C75 s) H)
noncomputable def B126:Code:=bodyOf Tryz.f126
noncomputable def C126 (s:Bool):Cx:=⟨E,s,none,B126,[([0],[0,1]),([1,0,0],[0,1]),([1,0,1,0,0,0],[0,1,7,8]),([1,0,1,0,0,1,1,0,0,0],[0,1,7,8]),([1,0,1,0,0,1,1,0,0,1,0],[0,1,5,7,8]),([1,0,1,0,0,1,1,0,0,1,1,0,0],[5]),([1,0,1,0,0,1,1,1],[0,1,7,8]),([1,1,0],[])],[4],[]⟩
abbrev P126_2 (s:Bool) (K:KF) (b d e f:Value) (h:AH):Prop:=PI (C126 s) K 2 [b,d,e,f] h
theorem P126_0_of (H :
 PI (C126 s) K 1 [b,d] h):PI (C126 s) K 0 [b,d] h:=step_of H
theorem P126_1_of (H :
 EvO (evRead E (tmOf [(6,b)]) (opAt B126 [1,0,0] 1) h) fun e=>
 PI (C126 s) K 2 [b,d,e,(.int .i64 0)] h):PI (C126 s) K 1 [b,d] h:=step_of H
theorem len126_1_1:evRead E (tmOf [(6,.slice a n c)]) (opAt B126 [1,0,0] 1) h=some (.int .i64 (n:Int)):=by cases a <;> kernel_rfl
theorem P126_2_of (H :
 EvO (binFast E .lss 3 d b) fun g=>
 BrK g (PI (C126 s) K 3 [e,f,b,d] h) (PI (C126 s) K 7 [] h)):PI (C126 s) K 2 [e,f,b,d] h:=step_of H
theorem P126_3_of (H :
 PI (C126 s) K 4 [d,e,b,f,b] h):PI (C126 s) K 3 [d,e,f,b] h:=step_of H
theorem P126_4_of (H :
 EvO (pIndexAddr E 83 d f) fun j=>
 EvO (rLoad E 32 h j) fun k=>
 Ev s (wCallV (recI E) e [k] h) fun b=>
 BrK b.1 (PI (C126 s) K 5 [f] b.2) (PI (C126 s) K 6 [d,e,g,i] b.2)):PI (C126 s) K 4 [d,e,f,g,i] h:=step_of H
theorem P126_5_of (H :
 K .ret [b] h):PI (C126 s) K 5 [b] h:=step_of H
theorem P126_6_of (H :
 EvO (binFast E .add 3 f (.int .i64 1)) fun g=>
 PI (C126 s) K 2 [b,d,e,g] h):PI (C126 s) K 6 [b,d,e,f] h:=step_of H
theorem P126_7_of (H :
 K .ret [(.int .i64 (-1))] h):PI (C126 s) K 7 [] h:=step_of H
theorem F126_flat (hok:h.ok) (hv:isScalar v=true) (H:PI (C126 s) (KR E [.tmp 4] fun x k=>x=v/\h.next<=k.wm) 0 [v0,v1] h.fresh):(recI E).call 126 [v0,v1] h=some [(v,h)]:=flatF Tryz.f126 hok hv (ev_of (C126 s) H)
end Go.Proofs
namespace Go.Proofs
open Go Go.AM
set_option maxRecDepth 100000
theorem ts_49:tsize E 49=some 1:=by kernel_rfl
theorem ta_49:tAS E 49=some (false,1):=by kernel_rfl
theorem z_49:zeroV E 49=some (.slice none 0 0):=by kernel_rfl
theorem und_85:und E 85=some (.slice 9):=by kernel_rfl
theorem elt_85:elemT E 85=some 9:=by kernel_rfl
theorem ts_9:tsize E 9=some 1:=by kernel_rfl
theorem ta_9:tAS E 9=some (false,1):=by kernel_rfl
theorem ts_85:tsize E 85=some 1:=by kernel_rfl
theorem ta_85:tAS E 85=some (false,1):=by kernel_rfl
theorem z_85:zeroV E 85=some (.slice none 0 0):=by kernel_rfl
theorem ts_164:tsize E 164=some 1:=by kernel_rfl
theorem ta_164:tAS E 164=some (false,1):=by kernel_rfl
theorem z_164:zeroV E 164=some .nilFunc:=by kernel_rfl
theorem ts_165:tsize E 165=some 1:=by kernel_rfl
theorem ta_165:tAS E 165=some (false,1):=by kernel_rfl
theorem z_165:zeroV E 165=some .nilFunc:=by kernel_rfl
theorem ts_221:tsize E 221=some 1:=by kernel_rfl
theorem ta_221:tAS E 221=some (false,1):=by kernel_rfl
theorem z_221:zeroV E 221=some .nilFunc:=by kernel_rfl
variable {s:Bool} {K:KF} {h:AH} {a:Option Addr} {n c:Nat} {b d e f g i j k l m o p q r t u w x y z A B C D F G J L M N O Q S U V W X Y Z v v0 v1 v2 v3 v4 v5 v6 v7 v8 v9 v12 v13 v14 v15 v16 v17 v18 v22 v23 v24 v30 v31 v32 v40 v41 v42 v49 v50 v51:Value} {h1:AH} {Rp:Value->AH->Prop}
noncomputable def B114:Code:=bodyOf Tryz.f114
noncomputable def C114 (s:Bool):Cx:=⟨E,s,none,B114,[([0],[0]),([1,0],[1]),([1,1,0],[1,3]),([1,1,1,0],[1,3]),([1,1,1,1,0,0],[1,3,4]),([1,1,1,1,0,1,0,0,0],[3,4,14,15,16]),([1,1,1,1,0,1,0,0,1,1,0,0,0],[3,4,14,15,16]),([1,1,1,1,0,1,0,0,1,1,0,0,1],[3,4,6,14,15,16]),([1,1,1,1,0,1,0,0,1,1,1],[3,4,14,15,16]),([1,1,1,1,1,0],[4])],[2],[]⟩
theorem P114_0_of (H :
 Ev s (wNewRow 36 h d) fun b=>
 PI (C114 s) K 1 [b.1] b.2):PI (C114 s) K 0 [d] h:=step_of H
theorem P114_1_of (H :
 Ev s (wNewRow 221 h (zeroV E 221)) fun b=>
 PI (C114 s) K 2 [d,b.1] b.2):PI (C114 s) K 1 [d] h:=step_of H
theorem P114_2_of (H :
 EvO (pMakeFunc (.func 161) (some []) [b]) fun e=>
 Ev s (wStore E 221 h b e) fun f=>
 PI (C114 s) K 3 [d,b] f.2):PI (C114 s) K 2 [d,b] h:=step_of H
theorem P114_3_of (H :
 EvO (pFieldAddr E 36 0 b) fun e=>
 EvO (rLoad E 3 h e) fun f=>
 EvO (binFast E .add 3 (.int .i64 100) f) fun g=>
 EvO (evRead E (tmOf [(10,g)]) (opAt B114 [1,1,1,0] 3) h) fun i=>
 EvO (evRead E (tmOf [(11,i)]) (opAt B114 [1,1,1,0] 4) h) fun j=>
 PI (C114 s) K 4 [b,d,j] h):PI (C114 s) K 3 [b,d] h:=step_of H
theorem P114_4_of (H :
 EvO (pFieldAddr E 36 1 d) fun g=>
 EvO (rLoad E 34 h g) fun b=>
 EvO (evRead E (tmOf [(14,b)]) (opAt B114 [1,1,1,1,0,0] 2) h) fun i=>
 PI (C114 s) K 5 [e,f,b,i,(.int .i64 0)] h):PI (C114 s) K 4 [d,e,f] h:=step_of H
theorem len114_4_2:evRead E (tmOf [(14,.slice a n c)]) (opAt B114 [1,1,1,1,0,0] 2) h=some (.int .i64 (n:Int)):=by cases a <;> kernel_rfl
theorem P114_5_of (H :
 EvO (binFast E .lss 3 d b) fun i=>
 BrK i (PI (C114 s) K 6 [g,f,e,b,d] h) (PI (C114 s) K 9 [f] h)):PI (C114 s) K 5 [g,f,e,b,d] h:=step_of H
theorem P114_6_of (H :
 EvO (pIndexAddr E 34 b d) fun j=>
 EvO (rLoad E 173 h j) fun k=>
 Ev s (wNewRow 173 h (zeroV E 173)) fun f=>
 Ev s (wStore E 173 f.2 f.1 k) fun l=>
 PI (C114 s) K 7 [g,i,f.1,b,e,d] l.2):PI (C114 s) K 6 [g,i,b,e,d] h:=step_of H
theorem P114_7_of (H :
 EvO (rLoad E 221 h f) fun k=>
 EvO (rLoad E 173 h j) fun l=>
 Ev s (wCallV (recI E) k [l] h) fun g=>
 EvO (evPure E (tmOf [(23,g.1)]) (opAt B114 [1,1,1,1,0,1,0,0,1,1,0,0,1] 4)) fun m=>
 EvO (evPure E (tmOf [(20,i),(24,m)]) (opAt B114 [1,1,1,1,0,1,0,0,1,1,0,0,1] 5)) fun o=>
 PI (C114 s) K 8 [f,o,b,d,e] g.2):PI (C114 s) K 7 [f,i,j,b,d,e] h:=step_of H
theorem P114_8_of (H :
 EvO (binFast E .add 3 e (.int .i64 1)) fun i=>
 PI (C114 s) K 5 [f,g,b,d,i] h):PI (C114 s) K 8 [f,g,b,d,e] h:=step_of H
theorem P114_9_of (H :
 K .ret [b] h):PI (C114 s) K 9 [b] h:=step_of H
theorem F114_flat1 (hok:h.ok) (hv:isFlat v=true) (H:PI (C114 true) (KR E [.tmp 2] fun x k=>x=v/\h.next<=k.wm) 0 [v0] h.fresh):(recI E).call 114 [v0] h=some [(v,h)]:=flatF1 Tryz.f114 hok hv (ev_of (C114 true) H)
noncomputable def B161:Code:=bodyOf Tryz.f161
noncomputable def C161 (s:Bool):Cx:=⟨E,s,none,B161,[([0],[0,1]),([1,0],[1,2]),([1,1,0,0],[1,2,4]),([1,1,0,1,0,0,0],[1,4,15,16,17]),([1,1,0,1,0,0,1,1,0,0,0],[1,4,15,16,17]),([1,1,0,1,0,0,1,1,0,0,1],[1,4,6,15,16,17]),([1,1,0,1,0,0,1,1,1],[1,4,15,16,17]),([1,1,1,0],[4])],[3],[]⟩
theorem P161_0_of (H :
 Ev s (wNewRow 173 h d) fun b=>
 PI (C161 s) K 1 [e,b.1] b.2):PI (C161 s) K 0 [d,e] h:=step_of H
theorem P161_1_of (H :
 EvO (pFieldAddr E 173 1 b) fun e=>
 EvO (rLoad E 3 h e) fun f=>
 EvO (evPure E (tmOf [(8,f)]) (opAt B161 [1,0] 2)) fun g=>
 EvO (binFast E .add 3 (.int .i64 33) g) fun i=>
 EvO (evRead E (tmOf [(10,i)]) (opAt B161 [1,0] 4) h) fun j=>
 EvO (evRead E (tmOf [(11,j)]) (opAt B161 [1,0] 5) h) fun k=>
 EvO (evPure E (tmOf [(12,k)]) (opAt B161 [1,0] 6)) fun l=>
 PI (C161 s) K 2 [d,b,l] h):PI (C161 s) K 1 [d,b] h:=step_of H
theorem P161_2_of (H :
 EvO (pFieldAddr E 173 2 e) fun g=>
 EvO (rLoad E 34 h g) fun b=>
 EvO (evRead E (tmOf [(15,b)]) (opAt B161 [1,1,0,0] 2) h) fun i=>
 PI (C161 s) K 3 [d,f,b,i,(.int .i64 0)] h):PI (C161 s) K 2 [d,e,f] h:=step_of H
theorem len161_2_2:evRead E (tmOf [(15,.slice a n c)]) (opAt B161 [1,1,0,0] 2) h=some (.int .i64 (n:Int)):=by cases a <;> kernel_rfl
theorem P161_3_of (H :
 EvO (binFast E .lss 3 d b) fun i=>
 BrK i (PI (C161 s) K 4 [g,f,e,b,d] h) (PI (C161 s) K 7 [f] h)):PI (C161 s) K 3 [g,f,e,b,d] h:=step_of H
theorem P161_4_of (H :
 EvO (pIndexAddr E 34 b d) fun j=>
 EvO (rLoad E 173 h j) fun k=>
 Ev s (wNewRow 173 h (zeroV E 173)) fun f=>
 Ev s (wStore E 173 f.2 f.1 k) fun l=>
 PI (C161 s) K 5 [g,i,f.1,b,e,d] l.2):PI (C161 s) K 4 [g,i,b,e,d] h:=step_of H
theorem P161_5_of (H :
 EvO (rLoad E 221 h f) fun k=>
 EvO (rLoad E 173 h j) fun l=>
 Ev s (wCallV (recI E) k [l] h) fun g=>
 EvO (evPure E (tmOf [(21,i),(24,g.1)]) (opAt B161 [1,1,0,1,0,0,1,1,0,0,1] 4)) fun m=>
 PI (C161 s) K 6 [f,m,b,d,e] g.2):PI (C161 s) K 5 [f,i,j,b,d,e] h:=step_of H
theorem P161_6_of (H :
 EvO (binFast E .add 3 e (.int .i64 1)) fun i=>
 PI (C161 s) K 3 [f,g,b,d,i] h):PI (C161 s) K 6 [f,g,b,d,e] h:=step_of H
theorem P161_7_of (H :
 EvO (evPure E (tmOf [(27,b)]) (opAt B161 [1,1,1,0] 1)) fun d=>
 K .ret [d] h):PI (C161 s) K 7 [b] h:=step_of H
theorem F161_flat1 (hok:h.ok) (hv:isFlat v=true) (H:PI (C161 true) (KR E [.tmp 3] fun x k=>x=v/\h.next<=k.wm) 0 [v0,v1] h.fresh):(recI E).call 161 [v0,v1] h=some [(v,h)]:=flatF1 Tryz.f161 hok hv (ev_of (C161 true) H)
noncomputable def B112:Code:=bodyOf Tryz.f112
noncomputable def C112 (s:Bool):Cx:=⟨E,s,none,B112,[([0],[0]),([1,0,0],[0]),([1,0,1,0,0],[]),([1,1,0],[0])],[2],[]⟩
theorem P112_0_of (H :
 PI (C112 s) K 1 [b] h):PI (C112 s) K 0 [b] h:=step_of H
theorem P112_1_of (H :
 EvO (evPure E (tmOf [(3,b)]) (opAt B112 [1,0,0] 1)) fun d=>
 BrK d (PI (C112 s) K 2 [] h) (PI (C112 s) K 3 [b] h)):PI (C112 s) K 1 [b] h:=step_of H
theorem P112_3_of (H :
 Ev s (wBuildSlice E 47 0 (some []) h) fun b=>
 Ev s (wBuiltinO E .append [47,47] [b.1,e] b.2) fun d=>
 K .ret [d.1] d.2):PI (C112 s) K 3 [e] h:=step_of H
theorem F112_some (H:PI (C112 true) (KR E [.tmp 2] fun x k=>(isFlat x=false\/k.wm<h.next)/\Rp x ⟨k.t,k.next,cond (Nat.ble h.wm k.wm) h.wm k.wm⟩) 0 [v0] h.fresh):Ev true ((recI E).call 112 [v0] h) fun x=>Rp x.1 x.2:=someF Tryz.f112 (ev_of (C112 true) H)
noncomputable def B111:Code:=bodyOf Tryz.f111
noncomputable def C111 (s:Bool):Cx:=⟨E,s,none,B111,[([0],[0,1,2]),([1,0],[0,1,2]),([1,1,0,0],[0,1,2]),([1,1,0,1,0,0,0,0],[0,1,2,5]),([1,1,0,1,0,0,1,0,0,0],[0,1,2,5]),([1,1,0,1,0,0,1,0,0,1,0,0,0],[0,1,2,5,22,23,24]),([1,1,0,1,0,0,1,0,0,1,0,0,1,1,0,0,0],[0,1,2,5,22,23,24]),([1,1,0,1,0,0,1,0,0,1,0,0,1,1,0,0,1,0],[0,1,2,5,7,22,23,24]),([1,1,0,1,0,0,1,0,0,1,0,0,1,1,0,0,1,1,0],[0,1,2,5,7,22,23,24]),([1,1,0,1,0,0,1,0,0,1,0,0,1,1,1],[0,1,2,5,22,23,24]),([1,1,0,1,0,0,1,1],[0,1,2,5]),([1,1,1,0],[0])],[4],[]⟩
theorem P111_0_of (H :
 PI (C111 s) K 1 [b,d,e] h):PI (C111 s) K 0 [b,d,e] h:=step_of H
theorem P111_1_of (H :
 Ev s (wCallV (recI E) (some (.func (.func 112) #[] #[])) [d] h) fun b=>
 PI (C111 s) K 2 [b.1,e,f] b.2):PI (C111 s) K 1 [d,e,f] h:=step_of H
theorem P111_2_of (H :
 PI (C111 s) K 3 [b,d,e,(.int .i64 0)] h):PI (C111 s) K 2 [b,d,e] h:=step_of H
theorem P111_3_of (H :
 EvO (evRead E (tmOf [(11,b)]) (opAt B111 [1,1,0,1,0,0,0,0] 2) h) fun g=>
 EvO (binFast E .lss 3 d g) fun i=>
 BrK i (PI (C111 s) K 4 [b,e,f,d] h) (PI (C111 s) K 11 [b] h)):PI (C111 s) K 3 [b,e,f,d] h:=step_of H
theorem len111_3_2:evRead E (tmOf [(11,.slice a n c)]) (opAt B111 [1,1,0,1,0,0,0,0] 2) h=some (.int .i64 (n:Int)):=by cases a <;> kernel_rfl
theorem P111_4_of (H :
 EvO (rLoad E 49 h d) fun i=>
 EvO (pIndexAddr E 47 b e) fun j=>
 EvO (rLoad E 3 h j) fun k=>
 EvO (pIndexAddr E 49 i k) fun l=>
 EvO (rLoad E 23 h l) fun f=>
 EvO (evRead E (tmOf [(22,f)]) (opAt B111 [1,1,0,1,0,0,1,0,0,0] 7) h) fun m=>
 PI (C111 s) K 5 [b,d,g,e,f,m,(.int .i64 0)] h):PI (C111 s) K 4 [b,d,g,e] h:=step_of H
theorem len111_4_7:evRead E (tmOf [(22,.slice a n c)]) (opAt B111 [1,1,0,1,0,0,1,0,0,0] 7) h=some (.int .i64 (n:Int)):=by cases a <;> kernel_rfl
theorem P111_5_of (H :
 EvO (binFast E .lss 3 d b) fun k=>
 BrK k (PI (C111 s) K 6 [f,g,i,j,e,b,d] h) (PI (C111 s) K 10 [f,g,i,j] h)):PI (C111 s) K 5 [f,g,i,j,e,b,d] h:=step_of H
theorem P111_6_of (H :
 EvO (pIndexAddr E 23 b d) fun l=>
 EvO (rLoad E 52 h l) fun m=>
 Ev s (wNewRow 52 h (zeroV E 52)) fun f=>
 Ev s (wStore E 52 f.2 f.1 m) fun o=>
 PI (C111 s) K 7 [g,i,j,k,f.1,b,e,d] o.2):PI (C111 s) K 6 [g,i,j,k,b,e,d] h:=step_of H
theorem P111_7_of (H :
 EvO (pFieldAddr E 25 1 j) fun t=>
 EvO (rLoad E 22 h t) fun u=>
 EvO (pFieldAddr E 52 1 k) fun w=>
 EvO (rLoad E 3 h w) fun x=>
 EvO (pIndexAddr E 22 u x) fun y=>
 EvO (pFieldAddr E 36 0 y) fun z=>
 EvO (rLoad E 3 h z) fun A=>
 EvO (binFast E .eql 3 A (.int .i64 (-1))) fun d=>
 EvO (gdB d true i) fun B=>
 EvO (gdB d true (pFieldAddr E 52 2 k)) fun l=>
 EvO (gdB d true (rLoad E 3 h l)) fun m=>
 Ev s (gdW d true (wCallV (recI E) (some (.func (.func 27) #[] #[])) [B,m] h) h) fun b=>
 EvO (gdB d true (unFast .not b.1)) fun o=>
 EvO (pickV d o (some (.bool false))) fun p=>
 BrK p (PI (C111 s) K 8 [i,q,j,r,k,e,f,g] b.2) (PI (C111 s) K 9 [i,q,j,r,e,f,g] b.2)):PI (C111 s) K 7 [i,q,j,r,k,e,f,g] h:=step_of H
theorem P111_8_of (H :
 EvO (pFieldAddr E 52 2 m) fun o=>
 EvO (rLoad E 3 h o) fun p=>
 Ev s (wBuildSlice E 47 1 (some [(0,p)]) h) fun f=>
 Ev s (wBuiltinO E .append [47,47] [i,f.1] f.2) fun g=>
 PI (C111 s) K 9 [g.1,j,k,l,b,d,e] g.2):PI (C111 s) K 8 [i,j,k,l,m,b,d,e] h:=step_of H
theorem P111_9_of (H :
 EvO (binFast E .add 3 e (.int .i64 1)) fun k=>
 PI (C111 s) K 5 [f,g,i,j,b,d,k] h):PI (C111 s) K 9 [f,g,i,j,b,d,e] h:=step_of H
theorem P111_10_of (H :
 EvO (binFast E .add 3 f (.int .i64 1)) fun g=>
 PI (C111 s) K 3 [b,d,e,g] h):PI (C111 s) K 10 [b,d,e,f] h:=step_of H
theorem P111_11_of (H :
 K .ret [b] h):PI (C111 s) K 11 [b] h:=step_of H
theorem F111_some (H:PI (C111 true) (KR E [.tmp 4] fun x k=>(isFlat x=false\/k.wm<h.next)/\Rp x ⟨k.t,k.next,cond (Nat.ble h.wm k.wm) h.wm k.wm⟩) 0 [v0,v1,v2] h.fresh):Ev true ((recI E).call 111 [v0,v1,v2] h) fun x=>Rp x.1 x.2:=someF Tryz.f111 (ev_of (C111 true) H)
noncomputable def B113:Code:=bodyOf Tryz.f113
noncomputable def C113 (s:Bool):Cx:=⟨E,s,none,B113,[([0],[0,1,2,3,4,5,6,7,8]),([1,0,0],[0,1,2,3,4,5,6,7,8]),([1,1,0],[0,1,2,4,5,6,7,8]),([1,1,1,0,0],[0,1,2,5,6,7,8]),([1,1,1,1,0],[0,1,2,5,6,7,8]),([1,1,1,1,1,0,0,0],[0,1,2,6,7,8,30,31,32]),([1,1,1,1,1,0,0,1,1,0,0,0],[0,1,2,6,7,8,30,31,32]),([1,1,1,1,1,0,0,1,1,0,0,1,0,0],[0,1,2,6,7,8,12,13,30,31,32]),([1,1,1,1,1,0,0,1,1,0,0,1,1,0],[0,1,2,6,7,8,12,13,30,31,32]),([1,1,1,1,1,0,0,1,1,0,0,1,1,1,0,0],[0,1,2,6,7,8,12,13,14,30,31,32]),([1,1,1,1,1,0,0,1,1,0,0,1,1,1,0,1,0,0,0],[0,1,2,6,7,8,12,13,14,30,31,32,40,41,42]),([1,1,1,1,1,0,0,1,1,0,0,1,1,1,0,1,0,0,1,1,0,0,0],[0,1,2,6,7,8,12,13,14,30,31,32,40,41,42]),([1,1,1,1,1,0,0,1,1,0,0,1,1,1,0,1,0,0,1,1,0,0,1,0],[0,1,2,6,7,8,12,13,14,16,30,31,32,40,41,42]),([1,1,1,1,1,0,0,1,1,0,0,1,1,1,0,1,0,0,1,1,0,0,1,1,0,0,0],[0,1,2,6,7,8,12,13,14,30,31,32,40,41,42,49,50,51]),([1,1,1,1,1,0,0,1,1,0,0,1,1,1,0,1,0,0,1,1,0,0,1,1,0,0,1,1,0,0,0],[0,1,2,6,7,8,12,13,14,30,31,32,40,41,42,49,50,51]),([1,1,1,1,1,0,0,1,1,0,0,1,1,1,0,1,0,0,1,1,0,0,1,1,0,0,1,1,0,0,1,0],[0,1,2,6,7,8,12,13,14,18,30,31,32,40,41,42,49,50,51]),([1,1,1,1,1,0,0,1,1,0,0,1,1,1,0,1,0,0,1,1,0,0,1,1,0,0,1,1,0,0,1,1,0],[0,1,2,6,7,8,12,13,14,18,30,31,32,40,41,42,49,50,51]),([1,1,1,1,1,0,0,1,1,0,0,1,1,1,0,1,0,0,1,1,0,0,1,1,0,0,1,1,1],[0,1,2,6,7,8,12,13,14,30,31,32,40,41,42,49,50,51]),([1,1,1,1,1,0,0,1,1,0,0,1,1,1,0,1,0,0,1,1,1],[0,1,2,6,7,8,12,13,14,30,31,32,40,41,42]),([1,1,1,1,1,0,0,1,1,0,0,1,1,1,1,0],[0,1,2,6,7,8,13,14,30,31,32]),([1,1,1,1,1,0,0,1,1,0,0,1,1,1,1,1,0],[0,1,2,6,7,8,13,14,30,31,32]),([1,1,1,1,1,0,0,1,1,1],[0,1,2,6,7,8,30,31,32])],[],[]⟩
theorem P113_0_of (H :
 EvO (rLoad E 3 h b) fun m=>
 EvO (binFast E .sub 3 m (.int .i64 1)) fun o=>
 Ev s (wStore E 3 h b o) fun p=>
 PI (C113 s) K 1 [d,e,f,b,g,i,j,k,l] p.2):PI (C113 s) K 0 [d,e,f,b,g,i,j,k,l] h:=step_of H
theorem P113_1_of (H :
 EvO (rLoad E 3 h f) fun m=>
 EvO (binFast E .lss 3 m (.int .i64 0)) fun o=>
 BrK o (K .ret [] h) (PI (C113 s) K 2 [b,d,e,g,i,j,k,l] h)):PI (C113 s) K 1 [b,d,e,f,g,i,j,k,l] h:=step_of H
theorem P113_2_of (H :
 EvO (rLoad E 85 h d) fun o=>
 Ev s (wBuildSlice E 85 1 (some [(0,b)]) h) fun e=>
 Ev s (wBuiltinO E .append [85,85] [o,e.1] e.2) fun f=>
 Ev s (wStore E 85 f.2 d f.1) fun p=>
 PI (C113 s) K 3 [g,b,i,j,k,l,m] p.2):PI (C113 s) K 2 [g,b,i,d,j,k,l,m] h:=step_of H
theorem P113_3_of (H :
 EvO (binFast E .eql 3 b (.int .i64 0)) fun k=>
 BrK k (K .ret [] h) (PI (C113 s) K 4 [d,e,b,f,g,i,j] h)):PI (C113 s) K 3 [d,e,b,f,g,i,j] h:=step_of H
theorem P113_4_of (H :
 EvO (pFieldAddr E 25 1 g) fun l=>
 EvO (rLoad E 22 h l) fun b=>
 EvO (evRead E (tmOf [(30,b)]) (opAt B113 [1,1,1,1,0] 2) h) fun m=>
 PI (C113 s) K 5 [d,e,f,i,j,k,b,m,(.int .i64 0)] h):PI (C113 s) K 4 [d,e,f,g,i,j,k] h:=step_of H
theorem len113_4_2:evRead E (tmOf [(30,.slice a n c)]) (opAt B113 [1,1,1,1,0] 2) h=some (.int .i64 (n:Int)):=by cases a <;> kernel_rfl
theorem P113_5_of (H :
 EvO (binFast E .lss 3 d b) fun m=>
 BrK m (PI (C113 s) K 6 [f,g,i,j,k,l,e,b,d] h) (K .normal [] h)):PI (C113 s) K 5 [f,g,i,j,k,l,e,b,d] h:=step_of H
theorem P113_6_of (H :
 EvO (pIndexAddr E 22 d b) fun o=>
 EvO (rLoad E 36 h o) fun p=>
 Ev s (wNewRow 36 h (zeroV E 36)) fun f=>
 Ev s (wStore E 36 f.2 f.1 p) fun q=>
 PI (C113 s) K 7 [g,i,j,k,l,m,b,f.1,d,e,b] q.2):PI (C113 s) K 6 [g,i,j,k,l,m,d,e,b] h:=step_of H
theorem P113_7_of (H :
 EvO (pFieldAddr E 36 0 b) fun p=>
 EvO (rLoad E 3 h p) fun q=>
 EvO (binFast E .eql 3 q (.int .i64 (-1))) fun r=>
 BrK r (PI (C113 s) K 21 [i,j,k,l,m,o,d,e,f] h) (PI (C113 s) K 8 [i,j,k,l,m,o,g,b,d,e,f] h)):PI (C113 s) K 7 [i,j,k,l,m,o,g,b,d,e,f] h:=step_of H
theorem P113_8_of (H :
 PI (C113 s) K 9 [i,j,k,l,m,o,b,d,(.slice none 0 0),e,f,g] h):PI (C113 s) K 8 [i,j,k,l,m,o,b,d,e,f,g] h:=step_of H
theorem P113_9_of (H :
 EvO (evRead E (tmOf [(40,b)]) (opAt B113 [1,1,1,1,1,0,0,1,1,0,0,1,1,1,0,0] 1) h) fun q=>
 PI (C113 s) K 10 [b,k,l,m,o,p,d,e,f,g,i,j,b,q,(.int .i64 0)] h):PI (C113 s) K 9 [b,k,l,m,o,p,d,e,f,g,i,j] h:=step_of H
theorem len113_9_1:evRead E (tmOf [(40,.slice a n c)]) (opAt B113 [1,1,1,1,1,0,0,1,1,0,0,1,1,1,0,0] 1) h=some (.int .i64 (n:Int)):=by cases a <;> kernel_rfl
theorem P113_10_of (H :
 EvO (binFast E .lss 3 j i) fun u=>
 BrK u (PI (C113 s) K 11 [m,o,p,q,r,t,k,b,d,e,f,g,l,i,j] h) (PI (C113 s) K 19 [m,o,p,q,r,t,b,d,e,f,g] h)):PI (C113 s) K 10 [m,o,p,q,r,t,k,b,d,e,f,g,l,i,j] h:=step_of H
theorem P113_11_of (H :
 EvO (pIndexAddr E 47 b d) fun u=>
 EvO (rLoad E 3 h u) fun w=>
 PI (C113 s) K 12 [m,o,p,q,r,t,e,f,g,w,i,j,k,b,l,d] h):PI (C113 s) K 11 [m,o,p,q,r,t,e,f,g,i,j,k,b,l,d] h:=step_of H
theorem P113_12_of (H :
 EvO (rLoad E 49 h o) fun x=>
 EvO (pIndexAddr E 49 x f) fun y=>
 EvO (rLoad E 23 h y) fun p=>
 EvO (evRead E (tmOf [(49,p)]) (opAt B113 [1,1,1,1,1,0,0,1,1,0,0,1,1,1,0,1,0,0,1,1,0,0,1,0] 4) h) fun z=>
 PI (C113 s) K 13 [q,r,t,o,u,w,b,d,e,g,i,j,k,l,m,p,z,(.int .i64 0)] h):PI (C113 s) K 12 [q,r,t,o,u,w,b,d,e,f,g,i,j,k,l,m] h:=step_of H
theorem len113_12_4:evRead E (tmOf [(49,.slice a n c)]) (opAt B113 [1,1,1,1,1,0,0,1,1,0,0,1,1,1,0,1,0,0,1,1,0,0,1,0] 4) h=some (.int .i64 (n:Int)):=by cases a <;> kernel_rfl
theorem P113_13_of (H :
 EvO (binFast E .lss 3 o m) fun y=>
 BrK y (PI (C113 s) K 14 [q,r,t,u,w,x,b,d,e,f,g,i,j,k,l,p,m,o] h) (PI (C113 s) K 18 [q,r,t,u,w,x,b,d,e,f,g,i,j,k,l] h)):PI (C113 s) K 13 [q,r,t,u,w,x,b,d,e,f,g,i,j,k,l,p,m,o] h:=step_of H
theorem P113_14_of (H :
 EvO (pIndexAddr E 23 b d) fun z=>
 EvO (rLoad E 52 h z) fun A=>
 Ev s (wNewRow 52 h (zeroV E 52)) fun q=>
 Ev s (wStore E 52 q.2 q.1 A) fun B=>
 PI (C113 s) K 15 [r,t,u,w,x,y,e,f,g,q.1,i,j,k,l,m,o,b,p,d] B.2):PI (C113 s) K 14 [r,t,u,w,x,y,e,f,g,i,j,k,l,m,o,b,p,d] h:=step_of H
theorem P113_15_of (H :
 EvO (pFieldAddr E 52 1 e) fun C=>
 EvO (rLoad E 3 h C) fun D=>
 EvO (binFast E .eql 3 D b) fun f=>
 EvO (gdB f true d) fun F=>
 EvO (gdB f true (pFieldAddr E 52 2 e)) fun G=>
 EvO (gdB f true (rLoad E 3 h G)) fun J=>
 Ev s (gdW f true (wCallV (recI E) (some (.func (.func 27) #[] #[])) [F,J] h) h) fun u=>
 EvO (gdB f true (unFast .not u.1)) fun L=>
 EvO (pickV f L (some (.bool false))) fun t=>
 BrK t (PI (C113 s) K 16 [w,x,y,z,A,B,b,g,d,e,i,j,k,l,m,o,p,q,r] u.2) (PI (C113 s) K 17 [w,x,y,z,A,B,b,g,d,i,j,k,l,m,o,p,q,r] u.2)):PI (C113 s) K 15 [w,x,y,z,A,B,b,g,d,e,i,j,k,l,m,o,p,q,r] h:=step_of H
theorem P113_16_of (H :
 EvO (pFieldAddr E 52 2 f) fun B=>
 EvO (rLoad E 3 h B) fun C=>
 Ev s (wBuildSlice E 47 1 (some [(0,C)]) h) fun r=>
 Ev s (wBuiltinO E .append [47,47] [e,r.1] r.2) fun t=>
 PI (C113 s) K 17 [u,w,x,y,z,A,b,d,t.1,g,i,j,k,l,m,o,p,q] t.2):PI (C113 s) K 16 [u,w,x,y,z,A,b,d,e,f,g,i,j,k,l,m,o,p,q] h:=step_of H
theorem P113_17_of (H :
 EvO (binFast E .add 3 p (.int .i64 1)) fun y=>
 PI (C113 s) K 13 [q,r,t,u,w,x,b,d,e,f,g,i,j,k,l,m,o,y] h):PI (C113 s) K 17 [q,r,t,u,w,x,b,d,e,f,g,i,j,k,l,m,o,p] h:=step_of H
theorem P113_18_of (H :
 EvO (binFast E .add 3 l (.int .i64 1)) fun u=>
 PI (C113 s) K 10 [m,o,p,q,r,t,b,d,e,f,g,i,j,k,u] h):PI (C113 s) K 18 [m,o,p,q,r,t,b,d,e,f,g,i,j,k,l] h:=step_of H
theorem P113_19_of (H :
 EvO (evRead E (tmOf [(73,b)]) (opAt B113 [1,1,1,1,1,0,0,1,1,0,0,1,1,1,1,0] 1) h) fun p=>
 EvO (binFast E .gtr 3 p (.int .i64 0)) fun q=>
 BrK q (PI (C113 s) K 20 [i,j,k,l,m,o,g,b,d,e,f] h) (PI (C113 s) K 21 [i,j,k,l,m,o,d,e,f] h)):PI (C113 s) K 19 [i,j,k,l,m,o,g,b,d,e,f] h:=step_of H
theorem len113_19_1:evRead E (tmOf [(73,.slice a n c)]) (opAt B113 [1,1,1,1,1,0,0,1,1,0,0,1,1,1,1,0] 1) h=some (.int .i64 (n:Int)):=by cases a <;> kernel_rfl
theorem P113_20_of (H :
 EvO (rLoad E 165 h g) fun o=>
 EvO (rLoad E 164 h w) fun A=>
 EvO (evPure E (tmOf [(80,t)]) (opAt B113 [1,1,1,1,1,0,0,1,1,0,0,1,1,1,1,1,0] 5)) fun B=>
 EvO (rLoad E 36 h f) fun x=>
 EvO (binFast E .sub 3 u (.int .i64 1)) fun p=>
 Ev s (wCallV (recI E) A [j] h) fun i=>
 EvO (rLoad E 36 i.2 f) fun d=>veq 100 d x=true ∧
 (EvO (rLoad E 165 i.2 g) fun b=>veq 100 b o=true ∧
 (Ev s (wCallV (recI E) (some (.func (.func 114) #[] #[])) [x] i.2) fun r=>
 EvO (rLoad E 165 r.2 g) fun e=>veq 100 e o=true ∧
 (EvO (evPure E (tmOf [(81,B),(83,r.1)]) (opAt B113 [1,1,1,1,1,0,0,1,1,0,0,1,1,1,1,1,0] 8)) fun C=>
 Ev s (wCallV (recI E) o [i.1,C,p] r.2) fun q=>
 PI (C113 s) K 21 [y,t,u,z,g,w,k,l,m] q.2)))):PI (C113 s) K 20 [y,t,u,z,g,w,f,j,k,l,m] h:=step_of H
theorem P113_21_of (H :
 EvO (binFast E .add 3 e (.int .i64 1)) fun m=>
 PI (C113 s) K 5 [f,g,i,j,k,l,b,d,m] h):PI (C113 s) K 21 [f,g,i,j,k,l,b,d,e] h:=step_of H
theorem F113_some (H:PI (C113 true) (KR E [] fun x k=>(isFlat x=false\/k.wm<h.next)/\Rp x ⟨k.t,k.next,cond (Nat.ble h.wm k.wm) h.wm k.wm⟩) 0 [v0,v1,v2,v3,v4,v5,v6,v7,v8] h.fresh):Ev true ((recI E).call 113 [v0,v1,v2,v3,v4,v5,v6,v7,v8] h) fun x=>Rp x.1 x.2:=someF Tryz.f113 (ev_of (C113 true) H)
noncomputable def B59:Code:=bodyOf Tryz.f59
noncomputable def C59 (s:Bool):Cx:=⟨E,s,none,B59,[([0],[0,1]),([1,0],[1,2]),([1,1,0],[1,2,5]),([1,1,1,0],[1,2,5,6]),([1,1,1,1,0],[1,2,5,6,7]),([1,1,1,1,1,0],[1,2,5,6,7,8]),([1,1,1,1,1,1,0],[1,2,5,6,7,8,9]),([1,1,1,1,1,1,1,0],[1,6,7,8,9]),([1,1,1,1,1,1,1,1,0,0],[7,8]),([1,1,1,1,1,1,1,1,0,1,0,0],[]),([1,1,1,1,1,1,1,1,1,0],[7]),([1,1,1,1,1,1,1,1,1,1,0],[7])],[4],[]⟩
theorem P59_0_of (H :
 Ev s (wNewRow 25 h d) fun b=>
 PI (C59 s) K 1 [e,b.1] b.2):PI (C59 s) K 0 [d,e] h:=step_of H
theorem P59_1_of (H :
 EvO (rLoad E 25 h d) fun g=>
 Ev s (wCallV (recI E) (some (.func (.func 24) #[] #[])) [g] h) fun e=>
 Ev s (wNewRow 49 e.2 (zeroV E 49)) fun b=>
 Ev s (wStore E 49 b.2 b.1 e.1) fun i=>
 PI (C59 s) K 2 [f,d,b.1] i.2):PI (C59 s) K 1 [f,d] h:=step_of H
theorem P59_2_of (H :
 EvO (pMakeFunc (.func 111) (some []) [e,d]) fun g=>
 Ev s (wNewRow 164 h (zeroV E 164)) fun b=>
 Ev s (wStore E 164 b.2 b.1 g) fun i=>
 PI (C59 s) K 3 [f,d,e,b.1] i.2):PI (C59 s) K 2 [f,d,e] h:=step_of H
theorem P59_3_of (H :
 Ev s (wNewRow 85 h (zeroV E 85)) fun b=>
 PI (C59 s) K 4 [d,e,f,g,b.1] b.2):PI (C59 s) K 3 [d,e,f,g] h:=step_of H
theorem P59_4_of (H :
 Ev s (wNewRow 3 h (zeroV E 3)) fun b=>
 Ev s (wStore E 3 b.2 b.1 (some (.int .i64 400))) fun j=>
 PI (C59 s) K 5 [d,e,f,g,i,b.1] j.2):PI (C59 s) K 4 [d,e,f,g,i] h:=step_of H
theorem P59_5_of (H :
 Ev s (wNewRow 165 h (zeroV E 165)) fun b=>
 PI (C59 s) K 6 [d,e,f,g,i,j,b.1] b.2):PI (C59 s) K 5 [d,e,f,g,i,j] h:=step_of H
theorem P59_6_of (H :
 EvO (pMakeFunc (.func 113) (some []) [f,e,i,j,b,d]) fun k=>
 Ev s (wStore E 165 h b k) fun l=>
 PI (C59 s) K 7 [g,d,e,f,b] l.2):PI (C59 s) K 6 [g,i,j,d,e,f,b] h:=step_of H
theorem P59_7_of (H :
 EvO (rLoad E 165 h g) fun i=>
 EvO (rLoad E 164 h k) fun l=>
 Ev s (wBuildSlice E 47 1 (some [(0,(.int .i64 0))]) h) fun f=>
 EvO (rLoad E 164 f.2 k) fun d=>veq 100 d l=true ∧
 (EvO (rLoad E 165 f.2 g) fun b=>veq 100 b i=true ∧
 (Ev s (wCallV (recI E) l [f.1] f.2) fun j=>
 EvO (rLoad E 165 j.2 g) fun e=>veq 100 e i=true ∧
 (Ev s (wCallV (recI E) i (some [j.1,(.string ⟨#[]⟩),m]) j.2) fun q=>
 PI (C59 s) K 8 [o,p] q.2)))):PI (C59 s) K 7 [m,k,o,p,g] h:=step_of H
theorem P59_8_of (H :
 EvO (rLoad E 3 h d) fun e=>
 EvO (binFast E .lss 3 e (.int .i64 0)) fun f=>
 BrK f (PI (C59 s) K 9 [] h) (PI (C59 s) K 10 [b] h)):PI (C59 s) K 8 [b,d] h:=step_of H
theorem P59_9_of (H :
 K .ret [(.slice none 0 0)] h):PI (C59 s) K 9 [] h:=step_of H
theorem P59_10_of (H :
 EvO (rLoad E 85 h b) fun d=>
 Ev s (wCallV (recI E) (some (.func (.func 115) #[] #[])) [d] h) fun e=>
 PI (C59 s) K 11 [b] e.2):PI (C59 s) K 10 [b] h:=step_of H
theorem P59_11_of (H :
 EvO (rLoad E 85 h b) fun d=>
 K .ret [d] h):PI (C59 s) K 11 [b] h:=step_of H
theorem F59_ev (H:PI (C59 s) (KR E [.tmp 4] Rp) 0 [v0,v1] h):EvC E s Tryz.f59 [v0,v1] h Rp:=ev_of (C59 s) H
theorem F59_get:E.tab.fn.get 59=some Tryz.f59:=by kernel_rfl
theorem F59_body:Tryz.f59.body=some B59:=by kernel_rfl
theorem F59_sum (l:List Value) (h:AH):E.sum 59 l h=none:=by kernel_rfl
noncomputable def B60:Code:=bodyOf Tryz.f60
noncomputable def C60 (s:Bool):Cx:=⟨E,s,none,B60,[([0],[0,1]),([1,0,0],[0,1]),([1,0,1,0,0],[]),([1,1,0,0],[0,1]),([1,1,0,1,0,0,0],[0,1,12,13]),([1,1,0,1,0,0,1,1,0,0,0],[0,1,12,13]),([1,1,0,1,0,0,1,1,0,0,1,0],[0,1,5,12,13]),([1,1,0,1,0,0,1,1,0,0,1,1,0,0],[]),([1,1,0,1,0,0,1,1,1],[0,1,12,13]),([1,1,1,0],[])],[4],[]⟩
theorem P60_0_of (H :
 PI (C60 s) K 1 [b,d] h):PI (C60 s) K 0 [b,d] h:=step_of H
theorem P60_1_of (H :
 EvO (evRead E (tmOf [(6,b)]) (opAt B60 [1,0,0] 1) h) fun e=>
 EvO (evRead E (tmOf [(8,d)]) (opAt B60 [1,0,0] 3) h) fun f=>
 EvO (binFast E .neq 3 e f) fun g=>
 BrK g (PI (C60 s) K 2 [] h) (PI (C60 s) K 3 [b,d] h)):PI (C60 s) K 1 [b,d] h:=step_of H
theorem len60_1_1:evRead E (tmOf [(6,.slice a n c)]) (opAt B60 [1,0,0] 1) h=some (.int .i64 (n:Int)):=by cases a <;> kernel_rfl
theorem len60_1_3:evRead E (tmOf [(8,.slice a n c)]) (opAt B60 [1,0,0] 3) h=some (.int .i64 (n:Int)):=by cases a <;> kernel_rfl
theorem P60_2_of (H :
 K .ret [(.bool false)] h):PI (C60 s) K 2 [] h:=step_of H
theorem P60_3_of (H :
 EvO (evRead E (tmOf [(11,b)]) (opAt B60 [1,1,0,0] 1) h) fun e=>
 PI (C60 s) K 4 [b,d,e,(.int .i64 0)] h):PI (C60 s) K 3 [b,d] h:=step_of H
theorem len60_3_1:evRead E (tmOf [(11,.slice a n c)]) (opAt B60 [1,1,0,0] 1) h=some (.int .i64 (n:Int)):=by cases a <;> kernel_rfl
theorem P60_4_of (H :
 EvO (binFast E .lss 3 d b) fun g=>
 BrK g (PI (C60 s) K 5 [e,f,b,d] h) (PI (C60 s) K 9 [] h)):PI (C60 s) K 4 [e,f,b,d] h:=step_of H
theorem P60_5_of (H :
 PI (C60 s) K 6 [e,f,b,d,b] h):PI (C60 s) K 5 [e,f,d,b] h:=step_of H
theorem P60_6_of (H :
 EvO (pIndexAddr E 85 e g) fun i=>
 EvO (rLoad E 9 h i) fun j=>
 EvO (pIndexAddr E 85 f g) fun k=>
 EvO (rLoad E 9 h k) fun l=>
 EvO (evPure E (tmOf [(19,j),(23,l)]) (opAt B60 [1,1,0,1,0,0,1,1,0,0,1,0] 8)) fun m=>
 BrK m (PI (C60 s) K 7 [] h) (PI (C60 s) K 8 [e,f,b,d] h)):PI (C60 s) K 6 [e,f,g,b,d] h:=step_of H
theorem P60_7_of (H :
 K .ret [(.bool false)] h):PI (C60 s) K 7 [] h:=step_of H
theorem P60_8_of (H :
 EvO (binFast E .add 3 d (.int .i64 1)) fun g=>
 PI (C60 s) K 4 [e,f,b,g] h):PI (C60 s) K 8 [e,f,b,d] h:=step_of H
theorem P60_9_of (H :
 K .ret [(.bool true)] h):PI (C60 s) K 9 [] h:=step_of H
theorem F60_flat (hok:h.ok) (hv:isScalar v=true) (H:PI (C60 s) (KR E [.tmp 4] fun x k=>x=v/\h.next<=k.wm) 0 [v0,v1] h.fresh):(recI E).call 60 [v0,v1] h=some [(v,h)]:=flatF Tryz.f60 hok hv (ev_of (C60 s) H)
noncomputable def B11:Code:=bodyOf Tryz.f11
noncomputable def C11 (s:Bool):Cx:=⟨E,s,none,B11,[([0],[0,1,2]),([1,0,0],[3,4,5]),([1,0,1,0,0],[]),([1,1,0,0],[3,4,5]),([1,1,0,1,0,0],[]),([1,1,1,0],[3,4]),([1,1,1,1,0],[7,8])],[6],[]⟩
theorem P11_0_of (H :
 Ev s (wNewRow 25 h f) fun b=>
 Ev s (wNewRow 25 b.2 g) fun d=>
 Ev s (wNewRow 32 d.2 i) fun e=>
 PI (C11 s) K 1 [b.1,d.1,e.1] e.2):PI (C11 s) K 0 [f,g,i] h:=step_of H
theorem P11_1_of (H :
 Ev s (wCallV (recI E) (some (.func (.func 13) #[] #[])) (some []) h) fun b=>
 EvO (unFast .not b.1) fun g=>
 BrK g (PI (C11 s) K 2 [] b.2) (PI (C11 s) K 3 [d,e,f] b.2)):PI (C11 s) K 1 [d,e,f] h:=step_of H
theorem P11_3_of (H :
 EvO (rLoad E 25 h l) fun D=>
 EvO (rLoad E 25 h m) fun F=>
 Ev s (wBuildSlice E 82 2 (some [(0,D),(1,F)]) h) fun C=>
 Ev s (wCallV (recI E) (some (.func (.func 14) #[] #[])) [C.1] C.2) fun o=>
 EvO (unFast .not o.1) fun k=>
 EvO (gdB k false (rLoad E 32 o.2 B)) fun G=>
 Ev s (gdW k false (wBuildSlice E 83 1 (some [(0,G)]) o.2) o.2) fun A=>
 Ev s (gdW k false (wCallV (recI E) (some (.func (.func 19) #[] #[])) [A.1] A.2) A.2) fun j=>
 EvO (gdB k false (unFast .not j.1)) fun J=>
 EvO (pickV k (some (.bool true)) J) fun b=>
 EvO (gdB b false (rLoad E 25 j.2 l)) fun p=>
 EvO (gdB b false (rLoad E 25 j.2 m)) fun q=>
 EvO (gdB b false (rLoad E 32 j.2 B)) fun r=>
 Ev s (gdW b false (wCallV (recI E) (some (.func (.func 15) #[] #[])) [p,q,r] j.2) j.2) fun d=>
 EvO (gdB b false (binFast E .neq 29 d.1 (.int .i64 0))) fun t=>
 EvO (pickV b (some (.bool true)) t) fun e=>
 EvO (gdB e false (rLoad E 25 d.2 l)) fun u=>
 Ev s (gdW e false (wCallV (recI E) (some (.func (.func 23) #[] #[])) [u] d.2) d.2) fun f=>
 EvO (gdB e false (binFast E .neq 29 f.1 (.int .i64 0))) fun w=>
 EvO (pickV e (some (.bool true)) w) fun g=>
 EvO (gdB g false (rLoad E 25 f.2 m)) fun x=>
 Ev s (gdW g false (wCallV (recI E) (some (.func (.func 23) #[] #[])) [x] f.2) f.2) fun i=>
 EvO (gdB g false (binFast E .neq 29 i.1 (.int .i64 0))) fun y=>
 EvO (pickV g (some (.bool true)) y) fun z=>
 BrK z (PI (C11 s) K 4 [] i.2) (PI (C11 s) K 5 [l,m] i.2)):PI (C11 s) K 3 [l,m,B] h:=step_of H
theorem P11_4_of (H :
 K .ret [(.bool true)] h):PI (C11 s) K 4 [] h:=step_of H
theorem P11_5_of (H :
 EvO (rLoad E 25 h i) fun j=>
 EvO (rLoad E 25 h e) fun f=>
 Ev s (wCallV (recI E) (some (.func (.func 59) #[] #[])) (some [j,(.int .i64 4)]) h) fun d=>
 EvO (rLoad E 25 d.2 e) fun b=>veq 100 b f=true ∧
 (Ev s (wCallV (recI E) (some (.func (.func 59) #[] #[])) (some [f,(.int .i64 4)]) d.2) fun g=>
 PI (C11 s) K 6 [d.1,g.1] g.2)):PI (C11 s) K 5 [i,e] h:=step_of H
theorem P11_6_of (H :
 EvO (evPure E (tmOf [(43,f)]) (opAt B11 [1,1,1,1,0] 1)) fun d=>
 EvO (gdB d false g) fun j=>
 EvO (gdB d false (evPure E (tmOf [(46,j)]) (opAt B11 [1,1,1,1,0] 4))) fun k=>
 EvO (pickV d (some (.bool true)) k) fun b=>
 EvO (gdB b false f) fun l=>
 EvO (gdB b false g) fun m=>
 Ev s (gdW b false (wCallV (recI E) (some (.func (.func 60) #[] #[])) [l,m] h) h) fun i=>
 EvO (pickV b (some (.bool true)) i.1) fun e=>
 K .ret [e] i.2):PI (C11 s) K 6 [f,g] h:=step_of H
theorem F11_flat (hok:h.ok) (hv:isScalar v=true) (H:PI (C11 s) (KR E [.tmp 6] fun x k=>x=v/\h.next<=k.wm) 0 [v0,v1,v2] h.fresh):(recI E).call 11 [v0,v1,v2] h=some [(v,h)]:=flatF Tryz.f11 hok hv (ev_of (C11 s) H)
end Go.Proofs
namespace Go.Proofs
open Go Go.AM
set_option maxRecDepth 100000
theorem call154 {n:Int} {h:AH} (hok:h.ok):(recI E).call 154 [.int .i64 n] h=some [(.bool false,h)]:=by
 refine F154_flat (s:=true) hok rfl (P154_0_of ?_)
 refine P154_1_of ?_
 simp [evO_some,bf_neq,kR_1,ne_ret]
theorem call94 {a b:Int} {h:AH} (hok:h.ok):(recI E).call 94 [.int .i64 a,.int .i64 b] h=some [(.int .i64 (if a<b then -1 else if b<a then 1 else 0),h)]:=by
 have hf:=ok_fresh h
 refine F94_flat (s:=true) hok rfl (P94_0_of ?_)
 refine P94_1_of ?_
 simp only [evO_some,wCall_0,call154 hf,ev_some]
 refine P94_2_of ?_
 simp only [evO_some,wCall_0,call154 hf,ev_some]
 refine P94_3_of ?_
 simp only [evO_some,brK_f]
 refine P94_7_of ?_
 simp only [evO_some,brK_f]
 refine P94_9_of ?_
 simp only [evO_some,bf_lss,brK_d]
 refine ⟨fun h1=>P94_10_of ?_,fun h1=>P94_11_of ?_⟩
 ·simp [evO_some,kR_1,ne_ret,h1]
 simp only [evO_some,bf_gtr,brK_d]
 refine ⟨fun h2=>P94_12_of ?_,fun h2=>P94_13_of ?_⟩
 ·simp [evO_some,kR_1,ne_ret,h1,h2]
 ·simp [evO_some,kR_1,ne_ret,h1,h2]
inductive Arr (h:AH) (z:Nat):Value->List (List Value)->Prop
 | nil (a:Option Addr) (c:Nat):Arr h z (.slice a 0 c) []
 | row {b o c:Nat} {vs:List Value} {ty es:Nat} {ro:Bool} {els:List (List Value)} (hb:h.get b=some (.row vs ty es ro)) (hlt:b<h.next) (hl:o+els.length*z<=vs.length)
   (hz:∀ i e,els[i]?=some e->e.length=z/\(vs.drop (o+i*z)).take z=e):Arr h z (.slice (some ⟨b,o,none⟩) els.length c) els
theorem Arr.ext {h k:AH} {z:Nat} {v:Value} {els:List (List Value)} (a:Arr h z v els) (e:Ext h k):Arr k z v els:=by
 cases a with
 | nil a c=>exact .nil a c
 | row hb hlt hl hz=>exact .row ((e.get _ hlt).trans hb) (Nat.lt_of_lt_of_le hlt e.next) hl hz
def idxFrom (p:Nat->Bool):Nat->Nat->Int
 | 0,_=>-1
 | n+1,i=>if p i then (i:Int) else idxFrom p n (i+1)
theorem idxFrom_neg {p:Nat->Bool}:∀ (n i:Nat),(∀ j,i<=j->j<i+n->p j=false) ↔ idxFrom p n i<0
 | 0,i=>by simp [idxFrom];intro j h1 h2;omega
 | n+1,i=>by
  simp only [idxFrom]
  constructor
  ·intro h
   rw [h i (Nat.le_refl _) (by omega)]
   simp only [Bool.false_eq_true,if_false]
   exact (idxFrom_neg n (i+1)).1 fun j h1 h2=>h j (by omega) (by omega)
  ·intro h j h1 h2
   cases hp:p i with
   | true=>rw [hp] at h;simp at h;omega
   | false=>
    rw [hp] at h
    simp only [Bool.false_eq_true,if_false] at h
    by_cases e:j=i
    ·rw [e,hp]
    ·exact (idxFrom_neg n (i+1)).2 h j (by omega) (by omega)
theorem add1 {i n:Nat} (hi:i<n) (hn:n<=9223372036854775807):in64 ((i:Int)+1):=by unfold in64;omega
theorem call220 {h0:AH} {v f:Value} {els:List (List Value)} {p:Nat->Bool} (ha:Arr h0 2 v els) (hn:els.length<=9223372036854775807)
  (hf:∀ k,Ext h0 k->∀ i e,els[i]?=some e->wCallV (recI E) (some f) (some [.agg ⟨e⟩]) k=some [(.bool (p i),k)]) {k:AH} (hk:Ext h0 k) :
  (recI E).call 220 [v,f] k=some [(.int .i64 (idxFrom p els.length 0),k)]:=by
 refine F220_flat (s:=true) hk.ok rfl (P220_0_of ?_)
 refine P220_1_of ?_
 have loop:∀ (m i:Nat),i+m=els.length->P220_2 true (KR E [.tmp 2] (fun x l=>x=.int .i64 (idxFrom p m i)/\k.next<=l.wm)) v f (.int .i64 (els.length:Int)) (.int .i64 (i:Int)) k.fresh:=by
  intro m
  induction m with
  | zero=>
   intro i hi
   refine P220_2_of ?_
   simp only [bf_lss,evO_some,brK_d]
   refine ⟨fun h=>by omega,fun _=>P220_7_of ?_⟩
   simp [evO_some,kR_1,ne_ret,idxFrom]
  | succ m ih=>
   intro i hi
   have ha':=ha
   cases ha' with
   | nil a c=>simp at hi
   | @row b o c vs ty es ro _ hb hlt hl hz=>
   have hin:i<els.length:=by omega
   refine P220_2_of ?_
   simp only [bf_lss,evO_some,brK_d]
   refine ⟨fun _=>P220_3_of ?_,fun h=>by omega⟩
   refine P220_4_of ?_
   obtain ⟨hz1,hz2⟩:=hz i els[i] (List.getElem?_eq_getElem hin)
   have hb':k.fresh.get b=some (.row vs ty es ro):=(hk.get b hlt).trans hb
   have hle:o+i*2+2<=vs.length:=by
    have:(i+1)*2<=els.length*2:=Nat.mul_le_mul_right _ (by omega)
    omega
   simp only [evO_some,ia_132 hin,load_agg ta_134 hb' hle,hz2,hf _ hk.fresh i _ (List.getElem?_eq_getElem hin),ev_some,brK_bool]
   refine ⟨fun h=>P220_5_of ?_,fun h=>P220_6_of ?_⟩
   ·simp [evO_some,kR_1,ne_ret,idxFrom,h]
   ·simp only [bf_add _ (add1 hin hn),evO_some]
    have:=ih (i+1) (by omega)
    simp only [idxFrom,h]
    simpa using this
 have h0:=loop els.length 0 (by omega)
 cases ha with
 | nil a c=>
  simp only [evO_some,len220_1_1]
  exact h0
 | row hb hlt hl hz=>
  simp only [evO_some,len220_1_1]
  exact h0
theorem call173 {h0:AH} {v f:Value} {els:List (List Value)} {p:Nat->Bool} (ha:Arr h0 2 v els) (hn:els.length<=9223372036854775807)
  (hf:∀ k,Ext h0 k->∀ i e,els[i]?=some e->wCallV (recI E) (some f) (some [.agg ⟨e⟩]) k=some [(.bool (p i),k)]) {k:AH} (hk:Ext h0 k) :
  (recI E).call 173 [v,f] k=some [(.bool (decide (0<=idxFrom p els.length 0)),k)]:=by
 refine F173_flat (s:=true) hk.ok rfl (P173_0_of ?_)
 refine P173_1_of ?_
 simp only [evO_some,wCall_0,call220 ha hn hf hk.fresh,ev_some,bf_geq]
 simp [evO_some,kR_1,ne_ret]
theorem call243 {h0:AH} {v f:Value} {els:List (List Value)} {p:Nat->Bool} (ha:Arr h0 3 v els) (hn:els.length<=9223372036854775807)
  (hf:∀ k,Ext h0 k->∀ i e,els[i]?=some e->wCallV (recI E) (some f) (some [.agg ⟨e⟩]) k=some [(.bool (p i),k)]) {k:AH} (hk:Ext h0 k) :
  (recI E).call 243 [v,f] k=some [(.int .i64 (idxFrom p els.length 0),k)]:=by
 refine F243_flat (s:=true) hk.ok rfl (P243_0_of ?_)
 refine P243_1_of ?_
 have loop:∀ (m i:Nat),i+m=els.length->P243_2 true (KR E [.tmp 2] (fun x l=>x=.int .i64 (idxFrom p m i)/\k.next<=l.wm)) v f (.int .i64 (els.length:Int)) (.int .i64 (i:Int)) k.fresh:=by
  intro m
  induction m with
  | zero=>
   intro i hi
   refine P243_2_of ?_
   simp only [bf_lss,evO_some,brK_d]
   refine ⟨fun h=>by omega,fun _=>P243_7_of ?_⟩
   simp [evO_some,kR_1,ne_ret,idxFrom]
  | succ m ih=>
   intro i hi
   have ha':=ha
   cases ha' with
   | nil a c=>simp at hi
   | @row b o c vs ty es ro _ hb hlt hl hz=>
   have hin:i<els.length:=by omega
   refine P243_2_of ?_
   simp only [bf_lss,evO_some,brK_d]
   refine ⟨fun _=>P243_3_of ?_,fun h=>by omega⟩
   refine P243_4_of ?_
   obtain ⟨hz1,hz2⟩:=hz i els[i] (List.getElem?_eq_getElem hin)
   have hb':k.fresh.get b=some (.row vs ty es ro):=(hk.get b hlt).trans hb
   have hle:o+i*3+3<=vs.length:=by
    have:(i+1)*3<=els.length*3:=Nat.mul_le_mul_right _ (by omega)
    omega
   simp only [evO_some,ia_34 hin,load_agg ta_173 hb' hle,hz2,hf _ hk.fresh i _ (List.getElem?_eq_getElem hin),ev_some,brK_bool]
   refine ⟨fun h=>P243_5_of ?_,fun h=>P243_6_of ?_⟩
   ·simp [evO_some,kR_1,ne_ret,idxFrom,h]
   ·simp only [bf_add _ (add1 hin hn),evO_some]
    have:=ih (i+1) (by omega)
    simp only [idxFrom,h]
    simpa using this
 have h0:=loop els.length 0 (by omega)
 cases ha with
 | nil a c=>
  simp only [evO_some,len243_1_1]
  exact h0
 | row hb hlt hl hz=>
  simp only [evO_some,len243_1_1]
  exact h0
theorem call215 {h0:AH} {v f:Value} {els:List (List Value)} {p:Nat->Bool} (ha:Arr h0 3 v els) (hn:els.length<=9223372036854775807)
  (hf:∀ k,Ext h0 k->∀ i e,els[i]?=some e->wCallV (recI E) (some f) (some [.agg ⟨e⟩]) k=some [(.bool (p i),k)]) {k:AH} (hk:Ext h0 k) :
  (recI E).call 215 [v,f] k=some [(.bool (decide (0<=idxFrom p els.length 0)),k)]:=by
 refine F215_flat (s:=true) hk.ok rfl (P215_0_of ?_)
 refine P215_1_of ?_
 simp only [evO_some,wCall_0,call243 ha hn hf hk.fresh,ev_some,bf_geq]
 simp [evO_some,kR_1,ne_ret]
inductive GT where
 | mk (k n:Int) (l:List GT)
mutual
inductive RT (h:AH):Value->List GT->Prop
 | mk {v:Value} {els:List (List Value)} {ts:List GT} (ha:Arr h 3 v els) (hn:els.length<=9223372036854775807) (hc:RC h els ts):RT h v ts
inductive RC (h:AH):List (List Value)->List GT->Prop
 | nil:RC h [] []
 | cons {k n:Int} {v:Value} {l:List GT} {els:List (List Value)} {ts:List GT} (hv:RT h v l) (hs:RC h els ts):RC h ([.int .i64 k,.int .i64 n,v]::els) (.mk k n l::ts)
end
mutual
theorem RT.ext {h k:AH} (e:Ext h k):∀ {v:Value} {ts:List GT},RT h v ts->RT k v ts
 | _,_,.mk ha hn hc=>.mk (ha.ext e) hn (RC.ext e hc)
theorem RC.ext {h k:AH} (e:Ext h k):∀ {els:List (List Value)} {ts:List GT},RC h els ts->RC k els ts
 | _,_,.nil=>.nil
 | _,_,.cons hv hs=>.cons (RT.ext e hv) (RC.ext e hs)
end
theorem RC.at {h:AH}:∀ {els:List (List Value)} {ts:List GT},RC h els ts->∀ (i:Nat) (e:List Value),els[i]?=some e->∃ (k n:Int) (v:Value) (l:List GT),e=[.int .i64 k,.int .i64 n,v]/\RT h v l/\ts[i]?=some (GT.mk k n l)
 | _,_,.nil,i,e,h=>by simp at h
 | _,_,.cons hv hs,0,e,h=>by simp at h;exact ⟨_,_,_,_,h.symm,hv,rfl⟩
 | _,_,.cons hv hs,i+1,e,h=>by simp only [List.getElem?_cons_succ] at h;obtain ⟨k,n,v,l,a,b,c⟩:=RC.at hs i e h;exact ⟨k,n,v,l,a,b,by simpa using c⟩
theorem RC.length {h:AH}:∀ {els:List (List Value)} {ts:List GT},RC h els ts->els.length=ts.length
 | _,_,.nil=>rfl
 | _,_,.cons _ hs=>by simp [RC.length hs]
theorem RT.slice {h:AH} {v:Value} {ts:List GT} (r:RT h v ts):∃ a c,v=.slice a ts.length c:=by
 cases r with
 | mk ha hn hc=>
  have:=RC.length hc
  cases ha with
  | nil a c=>simp at this;exact ⟨a,c,by rw [← this]⟩
  | row=>rw [← this];exact ⟨_,_,rfl⟩
theorem Arr.load {h:AH} {z:Nat} {v:Value} {els:List (List Value)} (ha:Arr h z v els) {i:Nat} {e:List Value} (hi:els[i]?=some e) :
  ∃ b o c vs ty es ro,v=.slice (some ⟨b,o,none⟩) els.length c/\h.get b=some (.row vs ty es ro)/\b<h.next/\o+i*z+z<=vs.length/\(vs.drop (o+i*z)).take z=e/\e.length=z:=by
 cases ha with
 | nil a c=>simp at hi
 | @row b o c vs ty es ro _ hb hlt hl hz=>
  have hlt':i<els.length:=(List.getElem?_eq_some_iff.1 hi).1
  refine ⟨b,o,c,vs,ty,es,ro,rfl,hb,hlt,?_,(hz i e hi).2,(hz i e hi).1⟩
  have:(i+1)*z<=els.length*z:=Nat.mul_le_mul_right _ (by omega)
  rw [Nat.add_mul] at this
  omega
abbrev row2 (a d:Int) (ty:TypeId):AObj:=.row [.int .i64 a,.int .i64 d] ty 0 false
theorem max268 (a b:Int) (h:AH):evRead E (tmOf [(19,.int .i64 a),(20,.int .i64 b)]) (opAt B268 [1,1,0] 6) h=some (.int .i64 (if b > a then b else a)):=by kernel_rfl
theorem upd2 {h:AH} {b:Nat} {a d x:Int} {ty:TypeId} (hb:h.get b=some (row2 a d ty)):wStore E 3 h (some (.pointer (some ⟨b,0,none⟩))) (some (.int .i64 x))=one (undef,h.upd b (some (row2 x d ty))):=by
 rw [store_of (P:=E) ts_3 hb (cells_int _ _) rfl (by simp) rfl];rfl
theorem upd2' {h:AH} {b:Nat} {a d x:Int} {ty:TypeId} (hb:h.get b=some (row2 a d ty)):wStore E 3 h (some (.pointer (some ⟨b,1,none⟩))) (some (.int .i64 x))=one (undef,h.upd b (some (row2 a x ty))):=by
 rw [store_of (P:=E) ts_3 hb (cells_int _ _) rfl (by simp) rfl];rfl
mutual
def cntT:GT->Int->Int×Int->Int×Int
 | .mk _ _ l,deep,s=>cntL l deep (wrapF .i64 (s.1+1),if deep > s.2 then deep else s.2)
def cntL:List GT->Int->Int×Int->Int×Int
 | [],_,s=>s
 | t::ts,deep,s=>if 2000<s.1\/200<s.2 then s else cntL ts deep (cntT t (wrapF .i64 (deep+1)) s)
end
def Counts (k0:AH) (b:Nat) (ty:TypeId) (s:Int×Int) (k:AH):Prop:=Chg k0 b k/\k.wm<=b/\k.get b=some (row2 s.1 s.2 ty)
theorem rt_leaf {h:AH} {v:Value} {ts:List GT} (r:RT h v ts):isLeaf v=true:=by obtain ⟨a,c,rfl⟩:=r.slice;rfl
mutual
theorem call268 {h0:AH}:∀ {v:Value} {ts:List GT},RT h0 v ts->∀ {k:AH} {b:Nat} {a d kk nn deep:Int} {ty:TypeId},Ext h0 k->h0.next<=b->b<k.next->k.get b=some (row2 a d ty)->
  Ev true ((recI E).call 268 [.pointer (some ⟨b,0,none⟩),.agg #[.int .i64 kk,.int .i64 nn,v],.int .i64 deep] k) fun x=>Counts k b ty (cntT (.mk kk nn ts) deep (a,d)) x.2
 | v,ts,.mk (els:=els) ha hn hc,k,b,a,d,kk,nn,deep,ty,hk,hb0,hbk,hb=>by
  refine F268_some (Rp:=fun _ k'=>Counts k b ty (cntT (.mk kk nn ts) deep (a,d)) k') (P268_0_of ?_)
  have hrt:RT h0 v ts:=.mk ha hn hc
  simp only [new_row,ev_one,cells_agg]
  refine P268_1_of ?_
  have e1:=(Chg.refl (ok_fresh k) b).new (.row [.int .i64 kk,.int .i64 nn,v] 173 0 false)
  have g1:(k.fresh.new (.row [.int .i64 kk,.int .i64 nn,v] 173 0 false)).get b=some (row2 a d ty):=by rw [get_new_ne (by simp;omega)];exact hb
  have l1:=load_leaf (P:=E) ta_3 (o:=0) g1
  simp only [lnth] at l1
  simp only [evO_some,nil_ptr,fa_306_0,Nat.add_zero,l1,bf_addw,upd2 g1,ev_one]
  refine P268_2_of ?_
  have e2:=e1.upd (some (row2 (wrapF .i64 (a+1)) d ty))
  generalize hk2:(k.fresh.new (.row [.int .i64 kk,.int .i64 nn,v] 173 0 false)).upd b (some (row2 (wrapF .i64 (a+1)) d ty))=k2 at e2
  have g2:k2.get b=some (row2 (wrapF .i64 (a+1)) d ty):=by rw [← hk2,get_upd_self]
  have t2:k2.get k.next=some (.row [.int .i64 kk,.int .i64 nn,v] 173 0 false):=by rw [← hk2,get_upd_ne (by omega)];exact get_new_self _ _
  have l2:=load_leaf (P:=E) ta_3 (o:=1) g2
  simp only [lnth] at l2
  simp only [evO_some,nil_ptr,fa_306_1,Nat.zero_add,l2,max268,upd2' g2,ev_one]
  refine P268_3_of ?_
  rw [show cntT (.mk kk nn ts) deep (a,d)=cntL ts deep (wrapF .i64 (a+1),if deep > d then deep else d) from rfl]
  generalize (if deep > d then deep else d)=d'
  have e3:=e2.upd (some (row2 (wrapF .i64 (a+1)) d' ty))
  generalize hk3:k2.upd b (some (row2 (wrapF .i64 (a+1)) d' ty))=k3 at e3
  have g3:k3.get b=some (row2 (wrapF .i64 (a+1)) d' ty):=by rw [← hk3,get_upd_self]
  have t3:k3.get k.next=some (.row [.int .i64 kk,.int .i64 nn,v] 173 0 false):=by rw [← hk3,get_upd_ne (by omega)];exact t2
  have w3:k3.wm<=b:=by rw [← hk3];exact (upd_wm _ _ _).2
  have l3:=load_leaf (P:=E) ta_34 (o:=2) t3
  simp only [lnth] at l3
  obtain ⟨sa,sc,hv⟩:=hrt.slice
  have hlen:=RC.length hc
  subst hv
  simp only [fa_173_2,Nat.zero_add,l3,evO_some,next_fresh,len268_3_2]
  refine loop268 hc (i:=0) (all:=els) (by simp) ha hn hlen hk hb0 hbk e3 g3 w3 fun ex k' hex hc'=>?_
  simp only [kR_0,hex,true_and]
  have hw':=hc'.2.1
  refine ⟨.inr (by omega),hc'.1.of_fresh,?_,hc'.2.2⟩
  show cond (Nat.ble k.wm k'.wm) k.wm k'.wm<=b
  cases hcc:Nat.ble k.wm k'.wm with
  | true=>rw [ble_true] at hcc;simp only [cond_true];omega
  | false=>simp only [cond_false];omega
theorem loop268 {h0:AH}:∀ {els:List (List Value)} {ts:List GT},RC h0 els ts->∀ {i:Nat} {all:List (List Value)} {sa:Option Addr} {len sc:Nat},all.drop i=els->Arr h0 3 (.slice sa len sc) all->all.length<=9223372036854775807->all.length=len->
  ∀ {k0 k:AH} {b:Nat} {a d deep:Int} {ty:TypeId} {K:KF},Ext h0 k0->h0.next<=b->b<k0.next->Chg k0.fresh b k->k.get b=some (row2 a d ty)->k.wm<=b->
  (∀ ex k',notExit ex=true->Counts k0.fresh b ty (cntL ts deep (a,d)) k'->K ex [] k')->P268_4 true K (.pointer (some ⟨b,0,none⟩)) (.int .i64 deep) (.slice sa len sc) (.int .i64 (len:Int)) (.int .i64 (i:Int)) k
 | els,ts,hc,i,all,sa,len,sc,hd,ha,hn,hlen,k0,k,b,a,d,deep,ty,K,h1,h2,h3,h4,h5,h6,hK=>by
  refine P268_4_of ?_
  simp only [bf_lss,evO_some,brK_d]
  refine ⟨fun hi=>P268_5_of ?_,fun hni=>?_⟩
  rotate_left
  ·have:els=[]:=by rw [← hd];exact List.drop_eq_nil_of_le (by omega)
   have hts:ts=[]:=by have:=RC.length hc;rw [‹els=[]›] at this;simpa using this.symm
   rw [hts] at hK
   exact hK _ _ rfl ⟨h4,h6,h5⟩
  have hil:i<all.length:=by omega
  match els,ts,hc,hd with
  | _,_,.nil,hd=>
   have:=congrArg List.length hd
   simp at this
   omega
  | _,_,.cons (k:=tk) (n:=tn) (v:=tv) hv hs,hd=>
   have hi':all[i]?=some [.int .i64 tk,.int .i64 tn,tv]:=by
    have:=congrArg (·[0]?) hd
    simpa [List.getElem?_drop] using this
   obtain ⟨b',o,c,vs,ty',es,ro,hv',hb',hlt,hle,hz,_⟩:=ha.load hi'
   simp only [Value.slice.injEq] at hv'
   obtain ⟨hsa,hl',hsc⟩:=hv'
   subst hsa
   have e0:Ext h0 k:=Chg.ext h1.fresh h2 h4
   have gb':k.get b'=some (.row vs ty' es ro):=(e0.get _ hlt).trans hb'
   have hkk:k0.next<=k.next:=h4.next
   simp only [ia_34 (show i<len by omega),evO_some,load_agg ta_173 gb' hle,hz,z_173,new_row,ev_one,cells_agg]
   have gk:=get_new_self k (.row [.int .i64 0,.int .i64 0,.slice none 0 0] 173 0 false)
   rw [store_of (P:=E) ts_173 gk (cells_agg _) rfl (by simp) (by simp [isLeaf];exact rt_leaf hv)]
   simp only [ev_one]
   have hlp:lput [Value.int .i64 0,.int .i64 0,.slice none 0 0] 0 [.int .i64 tk,.int .i64 tn,tv]=[.int .i64 tk,.int .i64 tn,tv]:=rfl
   rw [hlp]
   have e5:=(h4.new (.row [.int .i64 0,.int .i64 0,.slice none 0 0] 173 0 false)).updNew (c:=k.next) (by simpa using h4.next) (some (.row [.int .i64 tk,.int .i64 tn,tv] 173 0 false))
   have w5:((k.new (.row [.int .i64 0,.int .i64 0,.slice none 0 0] 173 0 false)).upd k.next (some (.row [.int .i64 tk,.int .i64 tn,tv] 173 0 false))).wm<=b:=Nat.le_trans (upd_wm _ _ _).1 h6
   generalize hk5:(k.new (.row [.int .i64 0,.int .i64 0,.slice none 0 0] 173 0 false)).upd k.next (some (.row [.int .i64 tk,.int .i64 tn,tv] 173 0 false))=k5 at e5 w5
   have n5:k5.next=k.next+1:=by rw [← hk5];rfl
   have g5:k5.get b=some (row2 a d ty):=by rw [← hk5,get_upd_ne (by omega),get_new_ne (by omega)];exact h5
   have t5:k5.get k.next=some (.row [.int .i64 tk,.int .i64 tn,tv] 173 0 false):=by rw [← hk5,get_upd_self]
   refine P268_6_of ?_
   have l0:=load_leaf (P:=E) ta_3 (o:=0) g5
   have l1:=load_leaf (P:=E) ta_3 (o:=1) g5
   simp only [lnth] at l0 l1
   simp only [evO_some,nil_ptr,fa_306_0,Nat.add_zero,l0,bf_gtr,gdB_bool]
   have next:¬ (2000:Int)<a->¬ (200:Int)<d->P268_7 true K (.pointer (some ⟨b,0,none⟩)) (.int .i64 deep) (.pointer (some ⟨k.next,0,none⟩)) (.slice (some ⟨b',o,none⟩) len sc) (.int .i64 (len:Int)) (.int .i64 (i:Int)) k5:=by
    intro hn1 hn2
    refine P268_7_of ?_
    have l5:=load_agg (P:=E) ta_173 (o:=0) t5 (by simp)
    simp only [evO_some,l5,bf_addw,wCall_0]
    refine (call268 hv (k:=k5) (a:=a) (d:=d) (ty:=ty) (Chg.ext h1.fresh h2 e5) h2 (by omega) g5).mono fun x hx=>?_
    obtain ⟨c1,wx,c2⟩:=hx
    refine P268_8_of ?_
    simp only [bf_add _ (add1 hil hn),evO_some]
    have:=loop268 hs (i:=i+1) (all:=all) (by rw [← List.drop_drop,hd];rfl) ha hn hlen h1 h2 h3 (deep:=deep) (e5.trans c1) c2 wx (by simpa [cntL,hn1,hn2] using hK)
    exact this
   by_cases hgt:(2000:Int)<a
   ·simp only [hgt,decide_true,show ((true==false)=false) from rfl,cond_false,evO_some,pick_bool,cond_true,brK_t]
    exact hK _ _ rfl ⟨e5,w5,by simpa [cntL,hgt] using g5⟩
   ·simp only [hgt,decide_false,show ((false==false)=true) from rfl,cond_true,evO_some,nil_ptr,fa_306_1,Nat.zero_add,l1,bf_gtr,pick_bool,cond_false,brK_d]
    exact ⟨fun h2=>hK _ _ rfl ⟨e5,w5,by simpa [cntL,h2] using g5⟩,fun h2=>next hgt h2⟩
end
theorem call269 {k:AH} {b:Nat} {a d:Int} {ty:TypeId} (hok:k.ok) (hb:k.get b=some (row2 a d ty)):(recI E).call 269 [.pointer (some ⟨b,0,none⟩)] k=some [(.bool (decide (2000<a\/200<d)),k)]:=by
 refine F269_flat (s:=true) hok rfl (P269_0_of ?_)
 refine P269_1_of ?_
 have hb':k.fresh.get b=some (row2 a d ty):=hb
 have l0:=load_leaf (P:=E) ta_3 (o:=0) hb'
 have l1:=load_leaf (P:=E) ta_3 (o:=1) hb'
 simp only [lnth] at l0 l1
 simp only [evO_some,nil_ptr,fa_306_0,Nat.add_zero,l0,bf_gtr,gdB_bool]
 by_cases hgt:(2000:Int)<a
 ·simp [hgt,evO_some,pick_bool,kR_1,ne_ret]
 ·by_cases hd:(200:Int)<d
  ·simp [hgt,hd,evO_some,pick_bool,kR_1,ne_ret,nil_ptr,fa_306_1,l1,bf_gtr]
  ·simp [hgt,hd,evO_some,pick_bool,kR_1,ne_ret,nil_ptr,fa_306_1,l1,bf_gtr]
def sizeT (t:GT):Int×Int:=if 2000<(cntT t 1 (0,0)).1\/200<(cntT t 1 (0,0)).2 then (2001,201) else cntT t 1 (0,0)
theorem call244 {h0 k:AH} {kk nn:Int} {v:Value} {l:List GT} (hr:RT h0 v l) (hk:Ext h0 k) :
  (recI E).call 244 [.agg #[.int .i64 kk,.int .i64 nn,v]] k=some [(.tuple #[.int .i64 (sizeT (.mk kk nn l)).1,.int .i64 (sizeT (.mk kk nn l)).2],k)]:=by
 refine F244_flat1 hk.ok rfl (P244_0_of ?_)
 simp only [new_row,ev_one,cells_agg,evO_some]
 refine P244_1_of ?_
 simp only [z_306,new_row,ev_one,cells_agg]
 refine P244_2_of ?_
 have e1:=(hk.fresh.new (.row [.int .i64 kk,.int .i64 nn,v] 173 0 false)).new (.row [.int .i64 0,.int .i64 0] 306 0 false)
 have t1:((k.fresh.new (.row [.int .i64 kk,.int .i64 nn,v] 173 0 false)).new (.row [.int .i64 0,.int .i64 0] 306 0 false)).get k.next=some (.row [.int .i64 kk,.int .i64 nn,v] 173 0 false):=by
  rw [get_new_ne (by simp)];exact get_new_self k.fresh _
 have g1:((k.fresh.new (.row [.int .i64 kk,.int .i64 nn,v] 173 0 false)).new (.row [.int .i64 0,.int .i64 0] 306 0 false)).get (k.next+1)=some (row2 0 0 306):=get_new_self (k.fresh.new _) _
 have n1:((k.fresh.new (.row [.int .i64 kk,.int .i64 nn,v] 173 0 false)).new (.row [.int .i64 0,.int .i64 0] 306 0 false)).next=k.next+2:=rfl
 have w1:((k.fresh.new (.row [.int .i64 kk,.int .i64 nn,v] 173 0 false)).new (.row [.int .i64 0,.int .i64 0] 306 0 false)).wm=k.next+UNK:=rfl
 simp only [next_fresh,AH.next_new]
 generalize ((k.fresh.new (.row [.int .i64 kk,.int .i64 nn,v] 173 0 false)).new (.row [.int .i64 0,.int .i64 0] 306 0 false))=k1 at e1 t1 g1 n1 w1
 have lt:=load_agg (P:=E) ta_173 (o:=0) t1 (by simp)
 have hkn:=hk.next
 simp only [lt,evO_some,wCall_0]
 refine (call268 hr (k:=k1) (b:=k.next+1) e1 (by omega) (by omega) g1).mono fun x hx=>?_
 obtain ⟨c1,_,c2⟩:=hx
 refine P244_3_of ?_
 simp only [wCall_0,call269 c1.ok c2,ev_some,brK_d]
 have hwm:k.next<=x.2.wm:=c1.wm k.next (by omega) (by omega) (by omega)
 have l0:=load_leaf (P:=E) ta_3 (o:=0) c2
 have l1:=load_leaf (P:=E) ta_3 (o:=1) c2
 simp only [lnth] at l0 l1
 refine ⟨fun hov=>P244_4_of ?_,fun hov=>P244_5_of ?_⟩
 ·simp [evO_some,kR_2,ne_ret,sizeT,hov,hwm]
 ·simp only [evO_some,fa_306_0,fa_306_1,Nat.add_zero,Nat.zero_add,l0,l1,kR_2,ne_ret,true_and,sizeT,hov,if_false]
  exact hwm
mutual
def okT:GT->Bool
 | .mk k n l=>decide (k=2)&&decide (0<=n)&&decide (n<256)&&decide (l.length<=8)&&okL l
def okL:List GT->Bool
 | []=>true
 | t::ts=>okT t&&okL ts
end
theorem okL_iff:∀ {ts:List GT},okL ts=true ↔ ∀ (i:Nat) (t:GT),ts[i]?=some t->okT t=true
 | []=>by simp [okL]
 | t::ts=>by
  simp only [okL,Bool.and_eq_true,okL_iff (ts:=ts)]
  constructor
  ·rintro ⟨a,b⟩ i u hu
   cases i with
   | zero=>simp at hu;rw [← hu];exact a
   | succ i=>exact b i u (by simpa using hu)
  ·intro h
   exact ⟨h 0 t rfl,fun i u hu=>h (i+1) u (by simpa using hu)⟩
def pNot (ts:List GT) (f:GT->Bool) (i:Nat):Bool:=match ts[i]? with
 | some t=>!f t
 | none=>false
theorem idx_ok {ts:List GT}:decide (0<=idxFrom (pNot ts okT) ts.length 0)=!okL ts:=by
 have h:=idxFrom_neg (p:=pNot ts okT) ts.length 0
 cases hb:okL ts with
 | true=>
  have:idxFrom (pNot ts okT) ts.length 0<0:=h.1 fun j _ hj=>by
   unfold pNot
   cases ht:ts[j]? with
   | none=>rfl
   | some t=>simp [okL_iff.1 hb j t ht]
  rw [decide_eq_false (by omega)];rfl
 | false=>
  have:¬ idxFrom (pNot ts okT) ts.length 0<0:=by
   intro hneg
   have:=h.2 hneg
   have hall:okL ts=true:=okL_iff.2 fun i t ht=>by
    have hi:=(List.getElem?_eq_some_iff.1 ht).1
    have:=this i (Nat.zero_le _) (by omega)
    simpa [pNot,ht] using this
   rw [hall] at hb;cases hb
  rw [decide_eq_true (by omega)];rfl
abbrev clos (f:FuncId) (b:Nat):Value:=.func (.func f) #[] #[.pointer (some ⟨b,0,none⟩)]
def Spec245 (h0:AH) (kk nn:Int) (v:Value) (l:List GT):Prop:=∀ (k:AH) (b:Nat),Ext h0 k->b<k.next->k.get b=some (.row [clos 245 b] 247 0 false)->
 (recI E).call 245 [.agg #[.int .i64 kk,.int .i64 nn,v],.pointer (some ⟨b,0,none⟩)] k=some [(.bool (okT (.mk kk nn l)),k)]
theorem call246 {h0:AH} {kk nn:Int} {v:Value} {l:List GT} (hs:Spec245 h0 kk nn v l) {k:AH} {b:Nat} (hk:Ext h0 k) (hbk:b<k.next) (hb:k.get b=some (.row [clos 245 b] 247 0 false)) :
  (recI E).call 246 [.agg #[.int .i64 kk,.int .i64 nn,v],.pointer (some ⟨b,0,none⟩)] k=some [(.bool (!okT (.mk kk nn l)),k)]:=by
 refine F246_flat (s:=true) hk.ok rfl (P246_0_of ?_)
 simp only [new_row,ev_one,cells_agg,evO_some]
 refine P246_1_of ?_
 have e1:=hk.fresh.new (.row [.int .i64 kk,.int .i64 nn,v] 173 0 false)
 have t1:=get_new_self k.fresh (.row [.int .i64 kk,.int .i64 nn,v] 173 0 false)
 have g1:(k.fresh.new (.row [.int .i64 kk,.int .i64 nn,v] 173 0 false)).get b=some (.row [clos 245 b] 247 0 false):=by rw [get_new_ne (by simp;omega)];exact hb
 have lt:=load_agg (P:=E) ta_173 (o:=0) t1 (by simp)
 have lc:=load_leaf (P:=E) ta_247 (o:=0) g1
 simp only [lnth] at lc
 simp only [List.drop_zero,List.take] at lt
 simp only [next_fresh] at lt
 simp only [next_fresh,lt,lc,evO_some,wCall_fn]
 have:=hs _ _ e1 (by simp;omega) g1
 simp only [List.nil_append,List.cons_append,this,ev_some,uf_not,evO_some,kR_1,ne_ret]
 simp [wm_new]
mutual
theorem spec245 {h0:AH}:∀ {v:Value} {l:List GT},RT h0 v l->∀ (kk nn:Int),Spec245 h0 kk nn v l
 | v,l,.mk (els:=els) ha hn hc,kk,nn=>by
  intro k b hk hbk hb
  have hrt:RT h0 v l:=.mk ha hn hc
  have hch:=specs245 hc
  have hlen:=RC.length hc
  obtain ⟨sa,sc,hv⟩:=hrt.slice
  subst hv
  refine F245_flat (s:=true) hk.ok rfl (P245_0_of ?_)
  simp only [new_row,ev_one,cells_agg,evO_some]
  refine P245_1_of ?_
  have e1:=hk.fresh.new (.row [.int .i64 kk,.int .i64 nn,.slice sa l.length sc] 173 0 false)
  have t1:=get_new_self k.fresh (.row [.int .i64 kk,.int .i64 nn,.slice sa l.length sc] 173 0 false)
  have g1:(k.fresh.new (.row [.int .i64 kk,.int .i64 nn,.slice sa l.length sc] 173 0 false)).get b=some (.row [clos 245 b] 247 0 false):=by rw [get_new_ne (by simp;omega)];exact hb
  have w1:(k.fresh.new (.row [.int .i64 kk,.int .i64 nn,.slice sa l.length sc] 173 0 false)).wm=k.next+UNK:=rfl
  have n1:(k.fresh.new (.row [.int .i64 kk,.int .i64 nn,.slice sa l.length sc] 173 0 false)).next=k.next+1:=rfl
  simp only [next_fresh] at t1 ⊢
  generalize k.fresh.new (.row [.int .i64 kk,.int .i64 nn,.slice sa l.length sc] 173 0 false)=k1 at e1 t1 g1 w1 n1
  have l0:=load_leaf (P:=E) ta_3 (o:=0) t1
  have l1:=load_leaf (P:=E) ta_3 (o:=1) t1
  have l2:=load_leaf (P:=E) ta_34 (o:=2) t1
  simp only [lnth] at l0 l1 l2
  have hcf:(recI E).call 215 [.slice sa l.length sc,.func (.func 246) #[] #[.pointer (some ⟨b,0,none⟩)]] k1=some [(.bool (decide (0<=idxFrom (pNot l okT) els.length 0)),k1)]:=by
   refine call215 (h0:=k1) (ha.ext e1) hn (fun k2 hk2 i e he=>?_) (Ext.refl e1.ok)
   obtain ⟨ck,cn,cv,cl,q1,q2,q3,q4⟩:=hch i e he
   subst q1
   have:=call246 q4 (e1.trans hk2) (Nat.lt_of_lt_of_le (by omega:b<k1.next) hk2.next) ((hk2.get b (by omega)).trans g1)
   simp only [wCall_fn,List.nil_append,List.cons_append,pNot,q3]
   exact this
  rw [hlen,idx_ok] at hcf
  simp only [fa_173_0,fa_173_1,fa_173_2,Nat.add_zero,Nat.zero_add,l0,evO_some,bf_eql,gdB_bool,pick_bool,okT]
  by_cases c1:kk=2
  ·by_cases c2:0<=nn
   ·by_cases c3:nn<256
    ·by_cases c4:l.length<=8
     ·have c4':(l.length:Int)<=8:=by omega
      simp [c1,c2,c3,c4,c4',l1,l2,evO_some,bf_geq,bf_lss,bf_leq,len245_1_16,pick_bool,gdB_bool,gdW_bool,pMakeFunc,wCall_0,hcf,ev_some,uf_not,kR_1,ne_ret,w1]
     ·have c4':¬ (l.length:Int)<=8:=by omega
      simp [c1,c2,c3,c4,c4',l1,l2,evO_some,bf_geq,bf_lss,bf_leq,len245_1_16,pick_bool,gdB_bool,gdW_bool,ev_one,kR_1,ne_ret,w1]
    ·simp [c1,c2,c3,l1,evO_some,bf_geq,bf_lss,pick_bool,gdB_bool,gdW_bool,ev_one,kR_1,ne_ret,w1]
   ·simp [c1,c2,l1,evO_some,bf_geq,pick_bool,gdB_bool,gdW_bool,ev_one,kR_1,ne_ret,w1]
  ·simp [c1,evO_some,pick_bool,gdB_bool,gdW_bool,ev_one,kR_1,ne_ret,w1]
theorem specs245 {h0:AH}:∀ {els:List (List Value)} {ts:List GT},RC h0 els ts->∀ (i:Nat) (e:List Value),els[i]?=some e->
  ∃ (k n:Int) (v:Value) (l:List GT),e=[.int .i64 k,.int .i64 n,v]/\RT h0 v l/\ts[i]?=some (.mk k n l)/\Spec245 h0 k n v l
 | _,_,.nil,i,e,h=>by simp at h
 | _,_,.cons hv hs,0,e,h=>by simp at h;exact ⟨_,_,_,_,h.symm,hv,rfl,spec245 hv _ _⟩
 | _,_,.cons hv hs,i+1,e,h=>by
  simp only [List.getElem?_cons_succ] at h
  obtain ⟨k,n,v,l,a,b,c,d⟩:=specs245 hs i e h
  exact ⟨k,n,v,l,a,b,by simpa using c,d⟩
end
def isVal (t:GT):Bool:=decide ((sizeT t).1<=2000)&&okT t
theorem call217 {h0 k:AH} {kk nn:Int} {v:Value} {l:List GT} (hr:RT h0 v l) (hk:Ext h0 k) :
  (recI E).call 217 [.agg #[.int .i64 kk,.int .i64 nn,v]] k=some [(.bool (isVal (.mk kk nn l)),k)]:=by
 refine F217_flat (s:=true) hk.ok rfl (P217_0_of ?_)
 simp only [new_row,ev_one,cells_agg,evO_some]
 refine P217_1_of ?_
 have e1:=hk.fresh.new (.row [.int .i64 kk,.int .i64 nn,v] 173 0 false)
 have t1:=get_new_self k.fresh (.row [.int .i64 kk,.int .i64 nn,v] 173 0 false)
 have w1:(k.fresh.new (.row [.int .i64 kk,.int .i64 nn,v] 173 0 false)).wm=k.next+UNK:=rfl
 have n1:(k.fresh.new (.row [.int .i64 kk,.int .i64 nn,v] 173 0 false)).next=k.next+1:=rfl
 simp only [next_fresh] at t1 ⊢
 generalize k.fresh.new (.row [.int .i64 kk,.int .i64 nn,v] 173 0 false)=k1 at e1 t1 w1 n1
 have lt:=load_agg (P:=E) ta_173 (o:=0) t1 (by simp)
 simp only [List.drop_zero,List.take] at lt
 simp only [lt,evO_some,wCall_0,call244 hr e1,ev_some,pExtract,lnth]
 refine P217_2_of ?_
 simp only [evO_some,bf_gtr,brK_d]
 refine ⟨fun hov=>P217_3_of ?_,fun hov=>P217_4_of ?_⟩
 ·simp only [evO_some,kR_1,ne_ret,true_and,isVal]
  refine ⟨?_,by omega⟩
  rw [decide_eq_false (by omega)];rfl
 ·simp only [z_247,new_row,ev_one,cells_func]
  refine P217_5_of ?_
  have g0:=get_new_self k1 (.row [.nilFunc] 247 0 false)
  simp only [cellsOfV,pMakeFunc,evO_some]
  rw [store_of (P:=E) ts_247 (cs:=[clos 245 k1.next]) g0 rfl rfl (by simp) rfl]
  simp only [ev_one]
  refine P217_6_of ?_
  have e2:=(e1.new (.row [.nilFunc] 247 0 false)).upd (b:=k1.next) e1.next (some (.row (lput [.nilFunc] 0 [clos 245 k1.next]) 247 0 false))
  have g2:((k1.new (.row [.nilFunc] 247 0 false)).upd k1.next (some (.row (lput [.nilFunc] 0 [clos 245 k1.next]) 247 0 false))).get k1.next=some (.row [clos 245 k1.next] 247 0 false):=get_upd_self _ _ _
  have t2:((k1.new (.row [.nilFunc] 247 0 false)).upd k1.next (some (.row (lput [.nilFunc] 0 [clos 245 k1.next]) 247 0 false))).get k.next=some (.row [.int .i64 kk,.int .i64 nn,v] 173 0 false):=by
   rw [get_upd_ne (by omega),get_new_ne (by omega)];exact t1
  have w2:k.next<=((k1.new (.row [.nilFunc] 247 0 false)).upd k1.next (some (.row (lput [.nilFunc] 0 [clos 245 k1.next]) 247 0 false))).wm:=wm_upd_le (by rw [wm_new];omega) (by omega)
  have n2:((k1.new (.row [.nilFunc] 247 0 false)).upd k1.next (some (.row (lput [.nilFunc] 0 [clos 245 k1.next]) 247 0 false))).next=k1.next+1:=rfl
  generalize ((k1.new (.row [.nilFunc] 247 0 false)).upd k1.next (some (.row (lput [.nilFunc] 0 [clos 245 k1.next]) 247 0 false)))=k2 at e2 g2 t2 w2 n2
  have lc:=load_leaf (P:=E) ta_247 (o:=0) g2
  have lt2:=load_agg (P:=E) ta_173 (o:=0) t2 (by simp)
  simp only [lnth,List.drop_zero,List.take] at lc lt2
  simp only [lc,lt2,evO_some,wCall_fn,List.nil_append,List.cons_append,spec245 hr kk nn _ _ e2 (by omega) g2,ev_some,kR_1,ne_ret,true_and]
  refine ⟨?_,w2⟩
  unfold isVal
  rw [decide_eq_true (by omega)];rfl
structure Own (k l:AH):Prop where
 ext:Ext k l
 wm:k.next<=l.wm
theorem Own.fresh (k:AH):Own k k.fresh:=⟨⟨ok_fresh k,Nat.le_refl _,fun _ _=>rfl⟩,by rw [wm_fresh];omega⟩
theorem Own.new {k l:AH} (o:Own k l) (x:AObj):Own k (l.new x):=⟨o.ext.new x,o.wm⟩
theorem Own.upd {k l:AH} (o:Own k l) {b:Nat} (hb:k.next<=b) (x:Option AObj):Own k (l.upd b x):=⟨o.ext.upd hb x,wm_upd_le o.wm hb⟩
theorem veq_int (n:Nat) (k:IntKind) (a:Int):veq n (.int k a) (.int k a)=true:=by cases n <;> (show (decide (k=k)&&decide (a=a))=true;simp)
theorem veq_slice (n:Nat) (a:Option Addr) (m c:Nat):veq n (.slice a m c) (.slice a m c)=true:=by cases n <;> (show (decide (a=a)&&Nat.beq m m&&Nat.beq c c)=true;simp [Nat.beq_refl])
def orI:List Int->Int
 | []=>0
 | a::l=>if a≠0 then a else orI l
theorem call171 {k:AH} {is:List Int} {b c:Nat} {ty es:Nat} {ro:Bool} (hn:is.length<=1000) (hok:k.ok) (hb:k.get b=some (.row (is.map (Value.int .i64)) ty es ro)) :
  (recI E).call 171 [.slice (some ⟨b,0,none⟩) is.length c] k=some [(.int .i64 (orI is),k)]:=by
 refine F171_flat (s:=true) hok rfl (P171_0_of ?_)
 refine P171_1_of ?_
 refine P171_2_of ?_
 simp only [evO_some,len171_2_1]
 have hb':k.fresh.get b=some (.row (is.map (Value.int .i64)) ty es ro):=hb
 have loop:∀ (js:List Int) (i:Nat),is.drop i=js->P171_3 true (KR E [.tmp 2] (fun x l=>x=.int .i64 (orI js)/\k.next<=l.wm)) (.int .i64 0) (.slice (some ⟨b,0,none⟩) is.length c) (.int .i64 (is.length:Int)) (.int .i64 (i:Int)) k.fresh:=by
  intro js
  induction js with
  | nil=>
   intro i hi
   have:is.length<=i:=List.drop_eq_nil_iff.1 hi
   refine P171_3_of ?_
   simp only [bf_lss,evO_some,brK_d]
   refine ⟨fun h=>by omega,fun _=>P171_8_of ?_⟩
   simp [evO_some,kR_1,ne_ret,orI]
  | cons j js ih=>
   intro i hi
   have hlt:i<is.length:=by
    rcases Nat.lt_or_ge i is.length with h|h
    ·exact h
    ·rw [List.drop_eq_nil_of_le h] at hi;cases hi
   have hj:is[i]?=some j:=by have:=congrArg (·[0]?) hi;simpa [List.getElem?_drop] using this
   refine P171_3_of ?_
   simp only [bf_lss,evO_some,brK_d]
   refine ⟨fun _=>P171_4_of ?_,fun h=>by omega⟩
   have hl:lnth (is.map (Value.int .i64)) (0+i*1)=some (.int .i64 j):=by rw [lnth_eq];simp [hj]
   simp only [ia_47 hlt,evO_some,load_leaf ta_3 hb',hl]
   refine P171_5_of ?_
   simp only [evO_some,bf_neq,brK_n]
   refine ⟨fun h=>P171_6_of ?_,fun h=>P171_7_of ?_⟩
   ·simp [evO_some,kR_1,ne_ret,orI,h]
   ·simp only [bf_add _ (add1 hlt (by omega)),evO_some]
    have:=ih (i+1) (by rw [← List.drop_drop,hi];rfl)
    simp only [orI,h,ne_eq,not_true,if_false]
    simpa using this
 exact loop is 0 rfl
theorem bs47_2 {a b:Int} {h:AH}:wBuildSlice E 47 2 (some [(0,.int .i64 a),(1,.int .i64 b)]) h=one (.slice (some ⟨h.next,0,none⟩) 2 2,h.new (.row [.int .i64 a,.int .i64 b] 3 0 false)):=by kernel_rfl
theorem bs47_3 {a b c:Int} {h:AH}:wBuildSlice E 47 3 (some [(0,.int .i64 a),(1,.int .i64 b),(2,.int .i64 c)]) h=one (.slice (some ⟨h.next,0,none⟩) 3 3,h.new (.row [.int .i64 a,.int .i64 b,.int .i64 c] 3 0 false)):=by kernel_rfl
def c3 (a b:Int):Int:=if a<b then -1 else if b<a then 1 else 0
theorem or2 {h:AH} (hok:h.ok) (a b:Int):(recI E).call 171 [.slice (some ⟨h.next,0,none⟩) 2 2] (h.new (.row [.int .i64 a,.int .i64 b] 3 0 false))=some [(.int .i64 (orI [a,b]),h.new (.row [.int .i64 a,.int .i64 b] 3 0 false))]:=
 call171 (is:=[a,b]) (by simp) (ok_new hok _) (get_new_self _ _)
theorem or3 {h:AH} (hok:h.ok) (a b c:Int):(recI E).call 171 [.slice (some ⟨h.next,0,none⟩) 3 3] (h.new (.row [.int .i64 a,.int .i64 b,.int .i64 c] 3 0 false))=some [(.int .i64 (orI [a,b,c]),h.new (.row [.int .i64 a,.int .i64 b,.int .i64 c] 3 0 false))]:=
 call171 (is:=[a,b,c]) (by simp) (ok_new hok _) (get_new_self _ _)
def cmpFrom (c:Nat->Int) (n1 n2:Nat):Nat->Nat->Int
 | 0,_=>if n1<n2 then -1 else 0
 | m+1,i=>if n2<=i then 1 else if c i≠0 then c i else cmpFrom c n1 n2 m (i+1)
theorem call247 {h0:AH} {v1 v2 f:Value} {els1 els2:List (List Value)} {cf:Nat->Int} (ha1:Arr h0 3 v1 els1) (ha2:Arr h0 3 v2 els2) (hn:els1.length<=9223372036854775807) (hlf:∀ (i:Nat) (e:List Value),els1[i]?=some e->e.all isLeaf=true) (hlf2:∀ (i:Nat) (e:List Value),els2[i]?=some e->e.all isLeaf=true)
  (hf:∀ k,Ext h0 k->∀ (i:Nat) (e1 e2:List Value),els1[i]?=some e1->els2[i]?=some e2->wCallV (recI E) (some f) (some [.agg ⟨e1⟩,.agg ⟨e2⟩]) k=some [(.int .i64 (cf i),k)]) {k:AH} (hk:Ext h0 k) :
  (recI E).call 247 [v1,v2,f] k=some [(.int .i64 (cmpFrom cf els1.length els2.length els1.length 0),k)]:=by
 have hs1:∃ a c,v1=.slice a els1.length c:=by cases ha1 with|nil a c=>exact ⟨a,c,rfl⟩|row=>exact ⟨_,_,rfl⟩
 have hs2:∃ a c,v2=.slice a els2.length c:=by cases ha2 with|nil a c=>exact ⟨a,c,rfl⟩|row=>exact ⟨_,_,rfl⟩
 obtain ⟨a1,c1,rfl⟩:=hs1
 obtain ⟨a2,c2,rfl⟩:=hs2
 refine F247_flat (s:=true) hk.ok rfl (P247_0_of ?_)
 refine P247_1_of ?_
 simp only [evO_some,len247_1_1]
 have loop:∀ (m i:Nat),i+m=els1.length->∀ l,Own k l->P247_2 true (KR E [.tmp 6] (fun x l=>x=.int .i64 (cmpFrom cf els1.length els2.length m i)/\k.next<=l.wm)) (.slice a1 els1.length c1) (.slice a2 els2.length c2) f (.slice a1 els1.length c1) (.int .i64 (els1.length:Int)) (.int .i64 (i:Int)) l:=by
  intro m
  induction m with
  | zero=>
   intro i hi l hl
   refine P247_2_of ?_
   simp only [bf_lss,evO_some,brK_d]
   refine ⟨fun h=>by omega,fun _=>P247_11_of ?_⟩
   simp only [evO_some,len247_11_1,len247_11_3,bf_lss,brK_d]
   have:=hl.wm
   refine ⟨fun h=>P247_12_of ?_,fun h=>P247_13_of ?_⟩
   ·have h':els1.length<els2.length:=by omega
    simp [evO_some,kR_1,ne_ret,cmpFrom,h',this]
   ·have h':¬ els1.length<els2.length:=by omega
    simp [evO_some,kR_1,ne_ret,cmpFrom,h',this]
  | succ m ih=>
   intro i hi l hl
   have hin:i<els1.length:=by omega
   refine P247_2_of ?_
   simp only [bf_lss,evO_some,brK_d]
   refine ⟨fun _=>P247_3_of ?_,fun h=>by omega⟩
   obtain ⟨b,o,c,vs,ty,es,ro,hv,hb,hlt,hle,hz,hzl⟩:=ha1.load (List.getElem?_eq_getElem hin)
   simp only [Value.slice.injEq] at hv
   obtain ⟨hv1,_,hv3⟩:=hv
   subst hv1
   have gb:l.get b=some (.row vs ty es ro):=(hl.ext.get b (Nat.lt_of_lt_of_le hlt hk.next)).trans ((hk.get b hlt).trans hb)
   simp only [evO_some,ia_34 hin,load_agg ta_173 gb hle,hz,z_173,new_row,ev_one,cells_agg]
   have hkl:=hl.ext.next
   rw [store_of (P:=E) ts_173 (get_new_self l _) (cells_agg _) hzl (by simp) (hlf i _ (List.getElem?_eq_getElem hin))]
   simp only [ev_one]
   refine P247_4_of ?_
   simp only [evO_some,len247_4_2,bf_geq,brK_d]
   have o1:=(hl.new (.row [.int .i64 0,.int .i64 0,.slice none 0 0] 173 0 false)).upd (b:=l.next) hkl (some (.row (lput [.int .i64 0,.int .i64 0,.slice none 0 0] 0 els1[i]) 173 0 false))
   have t1:((l.new (.row [.int .i64 0,.int .i64 0,.slice none 0 0] 173 0 false)).upd l.next (some (.row (lput [.int .i64 0,.int .i64 0,.slice none 0 0] 0 els1[i]) 173 0 false))).get l.next=some (.row (lput [.int .i64 0,.int .i64 0,.slice none 0 0] 0 els1[i]) 173 0 false):=get_upd_self _ _ _
   have n1:((l.new (.row [.int .i64 0,.int .i64 0,.slice none 0 0] 173 0 false)).upd l.next (some (.row (lput [.int .i64 0,.int .i64 0,.slice none 0 0] 0 els1[i]) 173 0 false))).next=l.next+1:=rfl
   have hput:∀ (e:List Value),e.length=3->lput [Value.int .i64 0,.int .i64 0,.slice none 0 0] 0 e=e:=by
    intro e he
    match e,he with
    | [x,y,z],_=>rfl
   rw [hput _ hzl] at o1 t1 n1
   rw [hput _ hzl]
   generalize ((l.new (.row [.int .i64 0,.int .i64 0,.slice none 0 0] 173 0 false)).upd l.next (some (.row els1[i] 173 0 false)))=l1 at o1 t1 n1
   refine ⟨fun h=>P247_5_of ?_,fun h=>P247_6_of ?_⟩
   ·have h':els2.length<=i:=by omega
    simp [evO_some,kR_1,ne_ret,cmpFrom,h',o1.wm]
   ·have hin2:i<els2.length:=by omega
    obtain ⟨b',o',c',vs',ty',es',ro',hv',hb',hlt',hle',hz',hzl'⟩:=ha2.load (List.getElem?_eq_getElem hin2)
    simp only [Value.slice.injEq] at hv'
    obtain ⟨hv1',_,hv3'⟩:=hv'
    subst hv1'
    have gb':l1.get b'=some (.row vs' ty' es' ro'):=(o1.ext.get b' (Nat.lt_of_lt_of_le hlt' hk.next)).trans ((hk.get b' hlt').trans hb')
    simp only [evO_some,ia_34 hin2,load_agg ta_173 gb' hle',hz',z_173,new_row,ev_one,cells_agg]
    rw [store_of (P:=E) ts_173 (get_new_self l1 _) (cells_agg _) hzl' (by simp) (hlf2 i _ (List.getElem?_eq_getElem hin2))]
    simp only [ev_one]
    refine P247_7_of ?_
    rw [hput _ hzl']
    have o2:=(o1.new (.row [.int .i64 0,.int .i64 0,.slice none 0 0] 173 0 false)).upd (b:=l1.next) (by omega) (some (.row els2[i] 173 0 false))
    have t2:((l1.new (.row [.int .i64 0,.int .i64 0,.slice none 0 0] 173 0 false)).upd l1.next (some (.row els2[i] 173 0 false))).get l1.next=some (.row els2[i] 173 0 false):=get_upd_self _ _ _
    have t1':((l1.new (.row [.int .i64 0,.int .i64 0,.slice none 0 0] 173 0 false)).upd l1.next (some (.row els2[i] 173 0 false))).get l.next=some (.row els1[i] 173 0 false):=by rw [get_upd_ne (by omega),get_new_ne (by omega)];exact t1
    generalize ((l1.new (.row [.int .i64 0,.int .i64 0,.slice none 0 0] 173 0 false)).upd l1.next (some (.row els2[i] 173 0 false)))=l2 at o2 t2 t1'
    have la:=load_agg (P:=E) ta_173 (o:=0) t1' (by omega)
    have lb:=load_agg (P:=E) ta_173 (o:=0) t2 (by omega)
    rw [List.drop_zero,List.take_of_length_le (by omega)] at la lb
    simp only [evO_some,la,lb,hf l2 (hk.trans o2.ext) i _ _ (List.getElem?_eq_getElem hin) (List.getElem?_eq_getElem hin2),ev_some]
    refine P247_8_of ?_
    have h':¬ els2.length<=i:=by omega
    simp only [evO_some,bf_neq,brK_n]
    refine ⟨fun hc=>P247_9_of ?_,fun hc=>P247_10_of ?_⟩
    ·simp [evO_some,kR_1,ne_ret,cmpFrom,h',hc,o2.wm]
    ·simp only [bf_add _ (add1 hin hn),evO_some]
     have:=ih (i+1) (by omega) l2 o2
     simp only [cmpFrom,h',if_false,hc,ne_eq,not_true]
     simpa using this
 exact loop els1.length 0 (by omega) _ (Own.fresh k)
theorem gdB_undef (w:Bool) (x:Option Value):gdB undef w x=some undef:=rfl
theorem gdW_undef (w:Bool) (x:R (Value×AH)) (h:AH):gdW undef w x h=one (undef,h):=rfl
mutual
def cmpT:GT->GT->Int
 | .mk k n l,.mk k' n' l'=>if orI [c3 k k',c3 n n',c3 l.length l'.length]≠0 then orI [c3 k k',c3 n n',c3 l.length l'.length] else cmpL l l'
def cmpL:List GT->List GT->Int
 | [],[]=>0
 | [],_::_=>-1
 | _::_,[]=>1
 | t::ts,u::us=>if cmpT t u≠0 then cmpT t u else cmpL ts us
end
def cmpAt (ts us:List GT) (i:Nat):Int:=match ts[i]?,us[i]? with
 | some t,some u=>cmpT t u
 | _,_=>0
theorem cmpFrom_eq (ts us:List GT):∀ (m i:Nat),i+m=ts.length->cmpFrom (cmpAt ts us) ts.length us.length m i=(if i<=us.length then cmpL (ts.drop i) (us.drop i) else if m=0 then 0 else 1)
 | 0,i,h=>by
  have ht:ts.drop i=[]:=List.drop_eq_nil_of_le (by omega)
  simp only [cmpFrom,ht]
  by_cases hi:i<=us.length
  ·rw [if_pos hi]
   cases hu:us.drop i with
   | nil=>
    have:=List.drop_eq_nil_iff.1 hu
    rw [if_neg (by omega)];rfl
   | cons u us'=>
    have:i<us.length:=by
     rcases Nat.lt_or_ge i us.length with h'|h'
     ·exact h'
     ·rw [List.drop_eq_nil_of_le h'] at hu;cases hu
    rw [if_pos (by omega)];rfl
  ·rw [if_neg hi,if_neg (by omega)];rfl
 | m+1,i,h=>by
  have hlt:i<ts.length:=by omega
  simp only [cmpFrom]
  by_cases hi:us.length<=i
  ·rw [if_pos hi]
   by_cases he:i<=us.length
   ·rw [if_pos he]
    have hu:us.drop i=[]:=List.drop_eq_nil_of_le hi
    rw [hu,List.drop_eq_getElem_cons hlt];rfl
   ·rw [if_neg he];simp
  ·rw [if_neg hi,if_pos (show i<=us.length by omega)]
   have hui:i<us.length:=by omega
   rw [List.drop_eq_getElem_cons hlt,List.drop_eq_getElem_cons hui]
   have hat:cmpAt ts us i=cmpT ts[i] us[i]:=by unfold cmpAt;rw [List.getElem?_eq_getElem hlt,List.getElem?_eq_getElem hui]
   rw [hat]
   simp only [cmpL]
   rw [cmpFrom_eq ts us m (i+1) (by omega),if_pos (show i+1<=us.length by omega)]
def Spec219 (h0:AH) (kk nn:Int) (v:Value) (l:List GT):Prop:=∀ (k:AH) (kk' nn':Int) (v':Value) (l':List GT),RT h0 v' l'->Ext h0 k->
 (recI E).call 219 [.agg #[.int .i64 kk,.int .i64 nn,v],.agg #[.int .i64 kk',.int .i64 nn',v']] k=some [(.int .i64 (cmpT (.mk kk nn l) (.mk kk' nn' l')),k)]
theorem RC.leafs {h:AH} {els:List (List Value)} {ts:List GT} (hc:RC h els ts) (i:Nat) (e:List Value) (he:els[i]?=some e):e.all isLeaf=true:=by
 obtain ⟨k,n,v,l,rfl,hv,_⟩:=RC.at hc i e he
 have:=rt_leaf hv
 simp [isLeaf];exact this
mutual
theorem spec219 {h0:AH}:∀ {v:Value} {l:List GT},RT h0 v l->∀ (kk nn:Int),Spec219 h0 kk nn v l
 | v,l,.mk (els:=els) ha hn hc,kk,nn=>by
  intro k kk' nn' v' l' hr' hk
  have hrt:RT h0 v l:=.mk ha hn hc
  have hch:=specs219 hc
  have hlen:=RC.length hc
  obtain ⟨sa,sc,hv⟩:=hrt.slice
  obtain ⟨sa',sc',hv'⟩:=hr'.slice
  subst hv
  subst hv'
  refine F219_flat (s:=true) hk.ok rfl (P219_0_of ?_)
  simp only [new_row,ev_one,cells_agg,evO_some]
  refine P219_1_of ?_
  have o1:=((Own.fresh k).new (.row [.int .i64 kk,.int .i64 nn,.slice sa l.length sc] 173 0 false)).new (.row [.int .i64 kk',.int .i64 nn',.slice sa' l'.length sc'] 173 0 false)
  have t1:((k.fresh.new (.row [.int .i64 kk,.int .i64 nn,.slice sa l.length sc] 173 0 false)).new (.row [.int .i64 kk',.int .i64 nn',.slice sa' l'.length sc'] 173 0 false)).get k.next=some (.row [.int .i64 kk,.int .i64 nn,.slice sa l.length sc] 173 0 false):=by
   rw [get_new_ne (by simp)];exact get_new_self k.fresh _
  have t2:((k.fresh.new (.row [.int .i64 kk,.int .i64 nn,.slice sa l.length sc] 173 0 false)).new (.row [.int .i64 kk',.int .i64 nn',.slice sa' l'.length sc'] 173 0 false)).get (k.next+1)=some (.row [.int .i64 kk',.int .i64 nn',.slice sa' l'.length sc'] 173 0 false):=get_new_self (k.fresh.new _) _
  have n1:((k.fresh.new (.row [.int .i64 kk,.int .i64 nn,.slice sa l.length sc] 173 0 false)).new (.row [.int .i64 kk',.int .i64 nn',.slice sa' l'.length sc'] 173 0 false)).next=k.next+2:=rfl
  simp only [next_fresh,AH.next_new]
  generalize ((k.fresh.new (.row [.int .i64 kk,.int .i64 nn,.slice sa l.length sc] 173 0 false)).new (.row [.int .i64 kk',.int .i64 nn',.slice sa' l'.length sc'] 173 0 false))=k1 at o1 t1 t2 n1
  have l0:=load_leaf (P:=E) ta_3 (o:=0) t1
  have l1:=load_leaf (P:=E) ta_3 (o:=1) t1
  have l2:=load_leaf (P:=E) ta_34 (o:=2) t1
  have m0:=load_leaf (P:=E) ta_3 (o:=0) t2
  have m1:=load_leaf (P:=E) ta_3 (o:=1) t2
  have m2:=load_leaf (P:=E) ta_34 (o:=2) t2
  simp only [lnth] at l0 l1 l2 m0 m1 m2
  simp only [fa_173_0,fa_173_1,fa_173_2,Nat.add_zero,Nat.zero_add,l0,l1,l2,m0,m1,m2,evO_some,len219_1_12,len219_1_15,wCall_0,call94 o1.ext.ok,ev_some,veq_int,veq_slice,true_and,bs47_3,ev_one]
  rw [or3 o1.ext.ok]
  simp only [ev_some,evO_some]
  refine P219_2_of ?_
  have o2:=o1.new (.row [.int .i64 (c3 kk kk'),.int .i64 (c3 nn nn'),.int .i64 (c3 l.length l'.length)] 3 0 false)
  have s1:(k1.new (.row [.int .i64 (c3 kk kk'),.int .i64 (c3 nn nn'),.int .i64 (c3 l.length l'.length)] 3 0 false)).get k.next=_:=(get_new_ne (by omega)).trans t1
  have s2:(k1.new (.row [.int .i64 (c3 kk kk'),.int .i64 (c3 nn nn'),.int .i64 (c3 l.length l'.length)] 3 0 false)).get (k.next+1)=_:=(get_new_ne (by omega)).trans t2
  simp only [evO_some,bf_neq,brK_n]
  show (_->P219_3 _ _ _ (k1.new (.row [.int .i64 (c3 kk kk'),.int .i64 (c3 nn nn'),.int .i64 (c3 l.length l'.length)] 3 0 false)))/\(_->P219_4 _ _ _ _ (k1.new (.row [.int .i64 (c3 kk kk'),.int .i64 (c3 nn nn'),.int .i64 (c3 l.length l'.length)] 3 0 false)))
  generalize (k1.new (.row [.int .i64 (c3 kk kk'),.int .i64 (c3 nn nn'),.int .i64 (c3 l.length l'.length)] 3 0 false))=k2 at o2 s1 s2
  refine ⟨fun h=>P219_3_of ?_,fun h=>P219_4_of ?_⟩
  ·have h':orI [c3 kk kk',c3 nn nn',c3 l.length l'.length]≠0:=h
   simp only [evO_some,kR_1,ne_ret,true_and,cmpT,if_pos h']
   exact ⟨rfl,o2.wm⟩
  ·have h':¬ orI [c3 kk kk',c3 nn nn',c3 l.length l'.length]≠0:=fun hc=>hc h
   have p2:=load_leaf (P:=E) ta_34 (o:=2) s1
   have q2:=load_leaf (P:=E) ta_34 (o:=2) s2
   simp only [lnth] at p2 q2
   cases hr' with
   | @mk _ els' _ ha' hn' hc'=>
    have hlen':=RC.length hc'
    have:=call247 (h0:=h0) (f:=.func (.func 219) #[] #[]) (cf:=cmpAt l l') ha ha' hn (RC.leafs hc) (RC.leafs hc') (fun k3 hk3 i e1 e2 he1 he2=>by
     obtain ⟨ck,cn,cv,cl,q1,q2',q3,q4⟩:=hch i e1 he1
     obtain ⟨dk,dn,dv,dl,r1,r2,r3⟩:=RC.at hc' i e2 he2
     subst q1
     subst r1
     have:=q4 k3 dk dn dv dl r2 hk3
     simp only [wCall_0,cmpAt,q3,r3]
     exact this) (hk.trans o2.ext)
    simp only [fa_173_2,Nat.zero_add,p2,q2,evO_some,wCall_0,this,ev_some,kR_1,ne_ret,true_and,cmpT,if_neg h']
    refine ⟨?_,o2.wm⟩
    rw [hlen,hlen',cmpFrom_eq _ _ _ _ (by omega),if_pos (Nat.zero_le _)]
    simp
theorem specs219 {h0:AH}:∀ {els:List (List Value)} {ts:List GT},RC h0 els ts->∀ (i:Nat) (e:List Value),els[i]?=some e->
  ∃ (k n:Int) (v:Value) (l:List GT),e=[.int .i64 k,.int .i64 n,v]/\RT h0 v l/\ts[i]?=some (.mk k n l)/\Spec219 h0 k n v l
 | _,_,.nil,i,e,h=>by simp at h
 | _,_,.cons hv hs,0,e,h=>by simp at h;exact ⟨_,_,_,_,h.symm,hv,rfl,spec219 hv _ _⟩
 | _,_,.cons hv hs,i+1,e,h=>by
  simp only [List.getElem?_cons_succ] at h
  obtain ⟨k,n,v,l,a,b,c,d⟩:=specs219 hs i e h
  exact ⟨k,n,v,l,a,b,by simpa using c,d⟩
end
theorem call218 {h0 k:AH} {v v':Value} {l l':List GT} (hr:RT h0 v l) (hr':RT h0 v' l') (hk:Ext h0 k):(recI E).call 218 [v,v',.func (.func 219) #[] #[]] k=some [(.int .i64 (cmpL l l'),k)]:=by
 refine F218_flat (s:=true) hk.ok rfl (P218_0_of ?_)
 refine P218_1_of ?_
 cases hr with
 | @mk _ els _ ha hn hc=>
 cases hr' with
 | @mk _ els' _ ha' hn' hc'=>
  have hlen:=RC.length hc
  have hlen':=RC.length hc'
  have:=call247 (h0:=h0) (f:=.func (.func 219) #[] #[]) (cf:=cmpAt l l') ha ha' hn (RC.leafs hc) (RC.leafs hc') (fun k3 hk3 i e1 e2 he1 he2=>by
   obtain ⟨ck,cn,cv,cl,q1,q2',q3⟩:=RC.at hc i e1 he1
   obtain ⟨dk,dn,dv,dl,r1,r2,r3⟩:=RC.at hc' i e2 he2
   subst q1
   subst r1
   have:=spec219 q2' ck cn k3 dk dn dv dl r2 hk3
   simp only [wCall_0,cmpAt,q3,r3]
   exact this) hk.fresh
  simp only [evO_some,wCall_0,this,ev_some,kR_1,ne_ret,true_and]
  refine ⟨?_,by simp⟩
  rw [hlen,hlen',cmpFrom_eq _ _ _ _ (by omega),if_pos (Nat.zero_le _)]
  simp
def cmpLab (g:Int) (l:List GT) (g':Int) (l':List GT):Int:=orI [c3 g g',cmpL l l']
theorem call168 {h0 k:AH} {g g':Int} {v v':Value} {l l':List GT} (hr:RT h0 v l) (hr':RT h0 v' l') (hk:Ext h0 k) :
  (recI E).call 168 [.agg #[.int .i64 g,v],.agg #[.int .i64 g',v']] k=some [(.int .i64 (cmpLab g l g' l'),k)]:=by
 obtain ⟨sa,sc,hv⟩:=hr.slice
 obtain ⟨sa',sc',hv'⟩:=hr'.slice
 subst hv
 subst hv'
 refine F168_flat (s:=true) hk.ok rfl (P168_0_of ?_)
 simp only [new_row,ev_one,cells_agg,evO_some]
 refine P168_1_of ?_
 have o1:=((Own.fresh k).new (.row [.int .i64 g,.slice sa l.length sc] 36 0 false)).new (.row [.int .i64 g',.slice sa' l'.length sc'] 36 0 false)
 have t1:((k.fresh.new (.row [.int .i64 g,.slice sa l.length sc] 36 0 false)).new (.row [.int .i64 g',.slice sa' l'.length sc'] 36 0 false)).get k.next=some (.row [.int .i64 g,.slice sa l.length sc] 36 0 false):=by
  rw [get_new_ne (by simp)];exact get_new_self k.fresh _
 have t2:((k.fresh.new (.row [.int .i64 g,.slice sa l.length sc] 36 0 false)).new (.row [.int .i64 g',.slice sa' l'.length sc'] 36 0 false)).get (k.next+1)=some (.row [.int .i64 g',.slice sa' l'.length sc'] 36 0 false):=get_new_self (k.fresh.new _) _
 simp only [next_fresh,AH.next_new]
 generalize ((k.fresh.new (.row [.int .i64 g,.slice sa l.length sc] 36 0 false)).new (.row [.int .i64 g',.slice sa' l'.length sc'] 36 0 false))=k1 at o1 t1 t2
 have l0:=load_leaf (P:=E) ta_3 (o:=0) t1
 have l1:=load_leaf (P:=E) ta_34 (o:=1) t1
 have m0:=load_leaf (P:=E) ta_3 (o:=0) t2
 have m1:=load_leaf (P:=E) ta_34 (o:=1) t2
 simp only [lnth] at l0 l1 m0 m1
 simp only [fa_36_0,fa_36_1,Nat.add_zero,Nat.zero_add,l0,l1,m0,m1,evO_some,wCall_0,call94 o1.ext.ok,ev_some,veq_slice,true_and,call218 hr hr' (hk.trans o1.ext),bs47_2,ev_one]
 rw [or2 o1.ext.ok]
 simp only [ev_some,kR_1,ne_ret,true_and]
 exact ⟨rfl,o1.wm⟩
theorem call216 {h0 k:AH} {kk nn:Int} {v:Value} {l:List GT} (hr:RT h0 v l) (hk:Ext h0 k):(recI E).call 216 [.agg #[.int .i64 kk,.int .i64 nn,v]] k=some [(.bool (!isVal (.mk kk nn l)),k)]:=by
 refine F216_flat (s:=true) hk.ok rfl (P216_0_of ?_)
 simp only [new_row,ev_one,cells_agg,evO_some]
 refine P216_1_of ?_
 have o1:=(Own.fresh k).new (.row [.int .i64 kk,.int .i64 nn,v] 173 0 false)
 have t1:=get_new_self k.fresh (.row [.int .i64 kk,.int .i64 nn,v] 173 0 false)
 simp only [next_fresh] at t1 ⊢
 generalize k.fresh.new (.row [.int .i64 kk,.int .i64 nn,v] 173 0 false)=k1 at o1 t1
 have lt:=load_agg (P:=E) ta_173 (o:=0) t1 (by simp)
 simp only [List.drop_zero,List.take] at lt
 simp only [lt,evO_some,wCall_0,call217 hr (hk.trans o1.ext),ev_some,uf_not,kR_1,ne_ret,true_and]
 exact o1.wm
def bare (g:Int):Bool:=decide (g=-3)||decide (g=-1)
def badLab (g:Int) (l:List GT):Bool:=decide (g < -3)||decide (32<=g)||decide (8<l.length)||(bare g&&decide (0<l.length))||decide (0<=idxFrom (pNot l isVal) l.length 0)
theorem call167 {h0 k:AH} {g:Int} {v:Value} {l:List GT} (hr:RT h0 v l) (hk:Ext h0 k):(recI E).call 167 [.agg #[.int .i64 g,v]] k=some [(.int .i64 (if badLab g l then 170 else 0),k)]:=by
 refine F167_flat (s:=true) hk.ok rfl (P167_0_of ?_)
 have hr0:=hr
 obtain ⟨sa,sc,hv⟩:=hr.slice
 subst hv
 simp only [new_row,ev_one,cells_agg,evO_some]
 refine P167_1_of ?_
 have o1:=(Own.fresh k).new (.row [.int .i64 g,.slice sa l.length sc] 36 0 false)
 have t1:=get_new_self k.fresh (.row [.int .i64 g,.slice sa l.length sc] 36 0 false)
 simp only [next_fresh] at t1 ⊢
 generalize k.fresh.new (.row [.int .i64 g,.slice sa l.length sc] 36 0 false)=k1 at o1 t1
 have l0:=load_leaf (P:=E) ta_3 (o:=0) t1
 have l1:=load_leaf (P:=E) ta_34 (o:=1) t1
 simp only [lnth] at l0 l1
 have hb:P167_2 true (KR E [.tmp 2] (fun x m=>x=.int .i64 (if badLab g l then 170 else 0)/\k.next<=m.wm)) (.pointer (some ⟨k.next,0,none⟩)) (.bool (bare g)) k1:=by
  refine P167_2_of ?_
  have hcf:(recI E).call 215 [.slice sa l.length sc,.func (.func 216) #[] #[]] k1=some [(.bool (decide (0<=idxFrom (pNot l isVal) l.length 0)),k1)]:=by
   cases hr0 with
   | @mk _ els _ ha hn hc=>
    have:=call215 (h0:=h0) (f:=.func (.func 216) #[] #[]) (p:=pNot l isVal) ha hn (fun k2 hk2 i e he=>by
     obtain ⟨ck,cn,cv,cl,q1,q2,q3⟩:=RC.at hc i e he
     subst q1
     simp only [wCall_0,pNot,q3]
     exact call216 q2 hk2) (hk.trans o1.ext)
    rw [RC.length hc] at this
    exact this
  have hend:∀ b:Bool,(BrK (some (.bool b)) (P167_3 true (KR E [.tmp 2] (fun x m=>x=.int .i64 (if b then 170 else 0)/\k.next<=m.wm)) k1) (P167_4 true (KR E [.tmp 2] (fun x m=>x=.int .i64 (if b then 170 else 0)/\k.next<=m.wm)) k1)):=by
   intro b
   cases b with
   | true=>
    rw [brK_t]
    refine P167_3_of ?_
    simp [evO_some,kR_1,ne_ret,o1.wm]
   | false=>
    rw [brK_f]
    refine P167_4_of ?_
    simp [evO_some,kR_1,ne_ret,o1.wm]
  have hE:=hend (badLab g l)
  simp only [fa_36_0,fa_36_1,Nat.add_zero,Nat.zero_add,l0,evO_some,bf_lss,gdB_bool,pick_bool]
  by_cases c1:g < -3
  ·simpa [badLab,c1,evO_some,gdB_bool,gdW_bool,gdB_undef,gdW_undef,pick_bool,ev_one] using hE
  ·by_cases c2:32<=g
   ·simpa [badLab,c1,c2,l0,fa_36_0,bf_geq,evO_some,gdB_bool,gdW_bool,gdB_undef,gdW_undef,pick_bool,ev_one] using hE
   ·by_cases c3:8<l.length
    ·have c3':(8:Int)<l.length:=by omega
     simpa [badLab,c1,c2,c3,c3',l0,l1,fa_36_0,fa_36_1,bf_geq,bf_gtr,len167_2_11,evO_some,gdB_bool,gdW_bool,gdB_undef,gdW_undef,pick_bool,ev_one] using hE
    ·have c3':¬ (8:Int)<l.length:=by omega
     by_cases c4:bare g=true
     ·by_cases c5:0<l.length
      ·have c5':(0:Int)<l.length:=by omega
       simpa [badLab,c1,c2,c3,c3',c4,c5,c5',l0,l1,fa_36_0,fa_36_1,bf_geq,bf_gtr,len167_2_11,len167_2_19,evO_some,gdB_bool,gdW_bool,gdB_undef,gdW_undef,pick_bool,ev_one,hcf,ev_some,wCall_0] using hE
      ·have c5':¬ (0:Int)<l.length:=by omega
       simpa [badLab,c1,c2,c3,c3',c4,c5,c5',l0,l1,fa_36_0,fa_36_1,bf_geq,bf_gtr,len167_2_11,len167_2_19,evO_some,gdB_bool,gdW_bool,gdB_undef,gdW_undef,pick_bool,ev_one,hcf,ev_some,wCall_0] using hE
     ·simpa [badLab,c1,c2,c3,c3',c4,l0,l1,fa_36_0,fa_36_1,bf_geq,bf_gtr,len167_2_11,len167_2_19,evO_some,gdB_bool,gdW_bool,gdB_undef,gdW_undef,pick_bool,ev_one,hcf,ev_some,wCall_0] using hE
 simp only [fa_36_0,Nat.add_zero,l0,evO_some,bf_eql,gdB_bool]
 by_cases c1:g=-3
 ·simp only [c1,decide_true,show ((true==false)=false) from rfl,cond_false,evO_some,pick_bool,cond_true]
  simpa [bare,c1] using hb
 ·by_cases c2:g=-1
  ·simp only [c1,c2,decide_true,decide_false,show ((false==false)=true) from rfl,cond_false,evO_some,pick_bool,cond_true,fa_36_0,Nat.add_zero,l0,bf_eql]
   simpa [bare,c1,c2,l0,evO_some,bf_eql] using hb
  ·simp only [c1,c2,decide_true,decide_false,show ((false==false)=true) from rfl,cond_false,evO_some,pick_bool,cond_true,fa_36_0,Nat.add_zero,l0,bf_eql]
   simpa [bare,c1,c2,l0,evO_some,bf_eql] using hb
end Go.Proofs
