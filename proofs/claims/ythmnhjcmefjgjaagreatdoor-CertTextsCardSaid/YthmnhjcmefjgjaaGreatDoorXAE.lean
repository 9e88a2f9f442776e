import Derived.Sort.AssemblyPlain
import Derived.Laws.Bits64
import Derived.ChangeArms
import Derived.DataReads
import Derived.Lib.ItoaNum
import Derived.Test.YthmnhjcmefjgjaaGreatDoorXAD
set_option linter.all false
set_option linter.unusedSectionVars false
set_option autoImplicit true
set_option relaxedAutoImplicit true
namespace Go.Proofs
open Go Go.AM
set_option maxRecDepth 100000
variable {s:Bool} {K:KF} {h:AH} {a:Option Addr} {n c:Nat} {b d e f g i j k l m o p q r t u w x y z A B C D F G J L M N O Q S U V W X Y Z v v0 v1 v2 v3 v4 v5 v6 v7 v8 v9 v10 v11 v12 v13 v24 v25 v26 v27 v37:Value} {h1:AH} {Rp:Value->AH->Prop}
noncomputable def B275:Code:=bodyOf Tryz.f275
noncomputable def C275 (s:Bool):Cx:=⟨E,s,none,B275,[([0],[0,1]),([1,0],[0,1])],[4],[]⟩
theorem P275_0_of (H :
 PI (C275 s) K 1 [b,d] h):PI (C275 s) K 0 [b,d] h:=step_of H
theorem P275_1_of (H :
 Ev s (wCallV (recI E) (some (.func (.func 284) #[] #[])) [d,e] h) fun b=>
 K .ret [b.1] b.2):PI (C275 s) K 1 [d,e] h:=step_of H
theorem F275_flat1 (hok:h.ok) (hv:isFlat v=true) (H:PI (C275 true) (KR E [.tmp 4] fun x k=>x=v/\h.next<=k.wm) 0 [v0,v1] h.fresh):(recI E).call 275 [v0,v1] h=some [(v,h)]:=flatF1 Tryz.f275 hok hv (ev_of (C275 true) H)
noncomputable def B260:Code:=bodyOf Tryz.f260
noncomputable def C260 (s:Bool):Cx:=⟨E,s,none,B260,[([0],[0,1]),([1,0],[0,1]),([1,1,0,0,0],[0,1,5]),([1,1,0,0,1,0,0],[]),([1,1,0,0,1,1,0],[0,1,5]),([1,1,0,0,1,1,1,0,0],[0,1]),([1,1,0,0,1,1,1,1,0],[0,1,5]),([1,1,0,0,1,1,1,1,1,0,0],[]),([1,1,0,0,1,1,1,1,1,1,0],[0,1,5]),([1,1,0,0,1,1,1,1,1,1,1,0,0],[0,1]),([1,1,1,0],[0,1,5]),([1,1,1,1,0],[0,1,5,6]),([1,1,1,1,1,0],[0,1,5,6,7]),([1,1,1,1,1,1,0],[0,1,5,6,7,8]),([1,1,1,1,1,1,1,0],[0,1,5,6,7,8,9]),([1,1,1,1,1,1,1,1,0,0,0,0,0],[0,1,5,6,7,8,9,10]),([1,1,1,1,1,1,1,1,0,0,0,1,0,0,0],[0,1,5,6,7,8,9,10]),([1,1,1,1,1,1,1,1,0,0,0,1,0,0,1,0,0],[0,1,5,6,7,8,9,10]),([1,1,1,1,1,1,1,1,0,0,0,1,0,0,1,0,1,0,0],[0,1,5,6,7,8,9,10,11]),([1,1,1,1,1,1,1,1,0,0,0,1,0,0,1,0,1,0,1,0,0],[]),([1,1,1,1,1,1,1,1,0,0,0,1,0,0,1,0,1,1],[0,1,5,6,7,8,9,10,11]),([1,1,1,1,1,1,1,1,0,0,0,1,0,1,0,0],[0,1,5,6,7,8,9,10]),([1,1,1,1,1,1,1,1,0,0,0,1,0,1,0,1,0,0],[8]),([1,1,1,1,1,1,1,1,0,0,0,1,0,1,1,0],[0,1,5,6,7,8,9,10]),([1,1,1,1,1,1,1,1,0,0,0,1,0,1,1,1,0],[0,1,5,6,7,8,9,10]),([1,1,1,1,1,1,1,1,0,0,0,1,0,1,1,1,1,0],[0,1,5,6,7,8,9,10]),([1,1,1,1,1,1,1,1,0,0,0,1,0,1,1,1,1,1,0,0],[0,1,8]),([1,1,1,1,1,1,1,1,0,0,0,1,0,1,1,1,1,1,0,1,0,0],[8,12]),([1,1,1,1,1,1,1,1,0,0,0,1,0,1,1,1,1,1,0,1,0,1,0,0],[8,12]),([1,1,1,1,1,1,1,1,0,0,0,1,0,1,1,1,1,1,0,1,1,0],[]),([1,1,1,1,1,1,1,1,0,0,0,1,0,1,1,1,1,1,1,0],[0,1,5,6,7,8,9,10]),([1,1,1,1,1,1,1,1,0,0,0,1,0,1,1,1,1,1,1,1,0,0],[0,1,8]),([1,1,1,1,1,1,1,1,0,0,0,1,0,1,1,1,1,1,1,1,0,1,0,0],[8,13]),([1,1,1,1,1,1,1,1,0,0,0,1,0,1,1,1,1,1,1,1,0,1,0,1,0,0],[]),([1,1,1,1,1,1,1,1,0,0,0,1,0,1,1,1,1,1,1,1,0,1,1,0],[8,13]),([1,1,1,1,1,1,1,1,1,0],[])],[4],[]⟩
theorem P260_0_of (H :
 PI (C260 s) K 1 [b,d] h):PI (C260 s) K 0 [b,d] h:=step_of H
theorem P260_1_of (H :
 EvO (evRead E (tmOf [(14,b)]) (opAt B260 [1,0] 1) h) fun e=>
 PI (C260 s) K 2 [d,b,e] h):PI (C260 s) K 1 [d,b] h:=step_of H
theorem P260_2_of (H :
 EvO (binFast E .eql 3 f (.int .i64 0)) fun b=>
 EvO (gdB b false e) fun g=>
 EvO (gdB b false d) fun i=>
 EvO (gdB b false (evPure E (tmOf [(20,g),(21,i)]) (opAt B260 [1,1,0,0,0] 5))) fun j=>
 EvO (pickV b (some (.bool true)) j) fun k=>
 BrK k (PI (C260 s) K 3 [] h) (PI (C260 s) K 4 [d,e,f] h)):PI (C260 s) K 2 [d,e,f] h:=step_of H
theorem P260_3_of (H :
 K .ret [(.int .i64 0)] h):PI (C260 s) K 3 [] h:=step_of H
theorem P260_4_of (H :
 EvO (binFast E .eql 3 e (.int .i64 1)) fun f=>
 BrK f (PI (C260 s) K 5 [b,d] h) (PI (C260 s) K 6 [b,d,e] h)):PI (C260 s) K 4 [b,d,e] h:=step_of H
theorem P260_5_of (H :
 EvO (pIndex E 9 e (some (.int .i64 0))) fun f=>
 Ev s (wCallV (recI E) (some (.func (.func 275) #[] #[])) [d,f] h) fun b=>
 K .ret [b.1] b.2):PI (C260 s) K 5 [d,e] h:=step_of H
theorem F260_flat1 (hok:h.ok) (hv:isFlat v=true) (H:PI (C260 true) (KR E [.tmp 4] fun x k=>x=v/\h.next<=k.wm) 0 [v0,v1] h.fresh):(recI E).call 260 [v0,v1] h=some [(v,h)]:=flatF1 Tryz.f260 hok hv (ev_of (C260 true) H)
noncomputable def B227:Code:=bodyOf Tryz.f227
noncomputable def C227 (s:Bool):Cx:=⟨E,s,none,B227,[([0],[0,1]),([1,0,0],[0,1]),([1,0,1,0],[0,1,7]),([1,0,1,1,0,0],[0,1,7]),([1,1,0],[0])],[4,5,6],[]⟩
theorem P227_0_of (H :
 PI (C227 s) K 1 [b,d] h):PI (C227 s) K 0 [b,d] h:=step_of H
theorem P227_1_of (H :
 Ev s (wCallV (recI E) (some (.func (.func 260) #[] #[])) [b,d] h) fun e=>
 PI (C227 s) K 2 [b,d,e.1] e.2):PI (C227 s) K 1 [b,d] h:=step_of H
theorem P227_2_of (H :
 EvO (binFast E .geq 3 d (.int .i64 0)) fun f=>
 BrK f (PI (C227 s) K 3 [b,e,d] h) (PI (C227 s) K 4 [b] h)):PI (C227 s) K 2 [b,e,d] h:=step_of H
theorem P227_3_of (H :
 EvO (evPure E (tmOf [(13,b),(14,d)]) (opAt B227 [1,0,1,1,0,0] 2)) fun f=>
 EvO (evRead E (tmOf [(18,e)]) (opAt B227 [1,0,1,1,0,0] 6) h) fun g=>
 EvO (binFast E .add 3 d g) fun i=>
 EvO (evPure E (tmOf [(16,b),(20,i)]) (opAt B227 [1,0,1,1,0,0] 8)) fun j=>
 K .ret [f,j,(.bool true)] h):PI (C227 s) K 3 [b,e,d] h:=step_of H
theorem P227_4_of (H :
 K .ret [b,(.string ⟨#[]⟩),(.bool false)] h):PI (C227 s) K 4 [b] h:=step_of H
theorem F227_flat1 (hok:h.ok) (hv:isFlat v=true) (H:PI (C227 true) (KR E [.tmp 4,.tmp 5,.tmp 6] fun x k=>x=v/\h.next<=k.wm) 0 [v0,v1] h.fresh):(recI E).call 227 [v0,v1] h=some [(v,h)]:=flatF1 Tryz.f227 hok hv (ev_of (C227 true) H)
noncomputable def B183:Code:=bodyOf Tryz.f183
noncomputable def C183 (s:Bool):Cx:=⟨E,s,none,B183,[([0],[0,1]),([1,0],[0,1])],[4,5,6],[]⟩
theorem P183_0_of (H :
 PI (C183 s) K 1 [b,d] h):PI (C183 s) K 0 [b,d] h:=step_of H
theorem P183_1_of (H :
 Ev s (wCallV (recI E) (some (.func (.func 227) #[] #[])) [d,e] h) fun b=>
 EvO (pExtract 0 b.1) fun f=>
 EvO (pExtract 1 b.1) fun g=>
 EvO (pExtract 2 b.1) fun i=>
 K .ret [f,g,i] b.2):PI (C183 s) K 1 [d,e] h:=step_of H
theorem F183_flat1 (hok:h.ok) (hv:isFlat v=true) (H:PI (C183 true) (KR E [.tmp 4,.tmp 5,.tmp 6] fun x k=>x=v/\h.next<=k.wm) 0 [v0,v1] h.fresh):(recI E).call 183 [v0,v1] h=some [(v,h)]:=flatF1 Tryz.f183 hok hv (ev_of (C183 true) H)
noncomputable def B263:Code:=bodyOf Tryz.f263
noncomputable def C263 (s:Bool):Cx:=⟨E,s,none,B263,[([0],[0,1]),([1,0],[0,1])],[4],[]⟩
theorem P263_0_of (H :
 PI (C263 s) K 1 [b,d] h):PI (C263 s) K 0 [b,d] h:=step_of H
theorem P263_1_of (H :
 Ev s (wCallV (recI E) (some (.func (.func 260) #[] #[])) [d,e] h) fun b=>
 K .ret [b.1] b.2):PI (C263 s) K 1 [d,e] h:=step_of H
theorem F263_flat1 (hok:h.ok) (hv:isFlat v=true) (H:PI (C263 true) (KR E [.tmp 4] fun x k=>x=v/\h.next<=k.wm) 0 [v0,v1] h.fresh):(recI E).call 263 [v0,v1] h=some [(v,h)]:=flatF1 Tryz.f263 hok hv (ev_of (C263 true) H)
noncomputable def B184:Code:=bodyOf Tryz.f184
noncomputable def C184 (s:Bool):Cx:=⟨E,s,none,B184,[([0],[0]),([1,0,0],[0]),([1,0,1,0,0],[]),([1,1,0],[0]),([1,1,1,0,0],[0,4]),([1,1,1,0,1,0,0,0],[0,4,24,25]),([1,1,1,0,1,0,0,1,1,0,0,0],[0,4,24,25]),([1,1,1,0,1,0,0,1,1,0,0,1,0,0],[0,4,5,24,25]),([1,1,1,0,1,0,0,1,1,0,0,1,0,1,0,0],[]),([1,1,1,0,1,0,0,1,1,0,0,1,1],[0,4,5,24,25]),([1,1,1,0,1,0,0,1,1,1],[0,4,24,25]),([1,1,1,1,0],[4])],[2,3],[]⟩
theorem P184_0_of (H :
 PI (C184 s) K 1 [b] h):PI (C184 s) K 0 [b] h:=step_of H
theorem P184_1_of (H :
 EvO (evPure E (tmOf [(6,e)]) (opAt B184 [1,0,0] 1)) fun f=>
 EvO (gdB f false e) fun o=>
 EvO (gdB f false (evRead E (tmOf [(9,o)]) (opAt B184 [1,0,0] 4) h)) fun p=>
 EvO (gdB f false (binFast E .gtr 3 p (.int .i64 7))) fun q=>
 EvO (pickV f (some (.bool true)) q) fun d=>
 EvO (gdB d false e) fun r=>
 EvO (gdB d false (pIndex E 9 r (some (.int .i64 0)))) fun t=>
 EvO (gdB d false (binFast E .eql 5 t (.int .u8 48))) fun g=>
 EvO (gdB d false g) fun b=>
 EvO (gdB b true e) fun i=>
 EvO (gdB b true (evRead E (tmOf [(18,i)]) (opAt B184 [1,0,0] 13) h)) fun j=>
 EvO (gdB b true (binFast E .gtr 3 j (.int .i64 1))) fun k=>
 EvO (gdB d false (pickV b k (some (.bool false)))) fun l=>
 EvO (pickV d (some (.bool true)) l) fun m=>
 BrK m (PI (C184 s) K 2 [] h) (PI (C184 s) K 3 [e] h)):PI (C184 s) K 1 [e] h:=step_of H
theorem P184_2_of (H :
 K .ret [(.int .i64 0),(.bool false)] h):PI (C184 s) K 2 [] h:=step_of H
theorem P184_3_of (H :
 PI (C184 s) K 4 [b,(.int .i64 0)] h):PI (C184 s) K 3 [b] h:=step_of H
theorem P184_4_of (H :
 EvO (evRead E (tmOf [(23,b)]) (opAt B184 [1,1,1,0,0] 1) h) fun e=>
 PI (C184 s) K 5 [b,d,e,(.int .i64 0)] h):PI (C184 s) K 4 [b,d] h:=step_of H
theorem P184_5_of (H :
 EvO (binFast E .lss 3 d b) fun g=>
 BrK g (PI (C184 s) K 6 [f,e,b,d] h) (PI (C184 s) K 11 [e] h)):PI (C184 s) K 5 [f,e,b,d] h:=step_of H
theorem P184_6_of (H :
 PI (C184 s) K 7 [e,f,b,d,b] h):PI (C184 s) K 6 [e,f,d,b] h:=step_of H
theorem P184_7_of (H :
 EvO (pIndex E 9 d g) fun j=>
 EvO (binFast E .lss 5 j (.int .u8 48)) fun b=>
 EvO (gdB b false d) fun k=>
 EvO (gdB b false g) fun l=>
 EvO (gdB b false (pIndex E 9 k l)) fun m=>
 EvO (gdB b false (binFast E .gtr 5 m (.int .u8 57))) fun o=>
 EvO (pickV b (some (.bool true)) o) fun p=>
 BrK p (PI (C184 s) K 8 [] h) (PI (C184 s) K 9 [d,i,g,e,f] h)):PI (C184 s) K 7 [d,i,g,e,f] h:=step_of H
theorem P184_8_of (H :
 K .ret [(.int .i64 0),(.bool false)] h):PI (C184 s) K 8 [] h:=step_of H
theorem P184_9_of (H :
 EvO (binFast E .mul 3 f (.int .i64 10)) fun i=>
 EvO (pIndex E 9 e g) fun j=>
 EvO (binFast E .sub 5 j (.int .u8 48)) fun k=>
 EvO (evRead E (tmOf [(43,k)]) (opAt B184 [1,1,1,0,1,0,0,1,1,0,0,1,1] 6) h) fun l=>
 EvO (binFast E .add 3 i l) fun m=>
 PI (C184 s) K 10 [e,m,b,d] h):PI (C184 s) K 9 [e,f,g,b,d] h:=step_of H
theorem P184_10_of (H :
 EvO (binFast E .add 3 d (.int .i64 1)) fun g=>
 PI (C184 s) K 5 [e,f,b,g] h):PI (C184 s) K 10 [e,f,b,d] h:=step_of H
theorem P184_11_of (H :
 EvO (binFast E .leq 3 b (.int .i64 1000000)) fun d=>
 K .ret [b,d] h):PI (C184 s) K 11 [b] h:=step_of H
theorem F184_flat1 (hok:h.ok) (hv:isFlat v=true) (H:PI (C184 true) (KR E [.tmp 2,.tmp 3] fun x k=>x=v/\h.next<=k.wm) 0 [v0] h.fresh):(recI E).call 184 [v0] h=some [(v,h)]:=flatF1 Tryz.f184 hok hv (ev_of (C184 true) H)
noncomputable def B228:Code:=bodyOf Tryz.f228
noncomputable def C228 (s:Bool):Cx:=⟨E,s,none,B228,[([0],[0,1]),([1,0],[0,1])],[4],[]⟩
theorem P228_0_of (H :
 PI (C228 s) K 1 [b,d] h):PI (C228 s) K 0 [b,d] h:=step_of H
theorem P228_1_of (H :
 EvO (evRead E (tmOf [(5,i)]) (opAt B228 [1,0] 1) h) fun j=>
 EvO (evRead E (tmOf [(7,d)]) (opAt B228 [1,0] 3) h) fun k=>
 EvO (binFast E .geq 3 j k) fun b=>
 EvO (gdB b true i) fun l=>
 EvO (gdB b true d) fun m=>
 EvO (gdB b true (evRead E (tmOf [(12,m)]) (opAt B228 [1,0] 8) h)) fun o=>
 EvO (gdB b true (evPure E (tmOf [(11,l),(13,o)]) (opAt B228 [1,0] 9))) fun p=>
 EvO (gdB b true d) fun e=>
 EvO (gdB b true (evPure E (tmOf [(14,p),(15,e)]) (opAt B228 [1,0] 11))) fun f=>
 EvO (pickV b f (some (.bool false))) fun g=>
 K .ret [g] h):PI (C228 s) K 1 [i,d] h:=step_of H
theorem F228_flat1 (hok:h.ok) (hv:isFlat v=true) (H:PI (C228 true) (KR E [.tmp 4] fun x k=>x=v/\h.next<=k.wm) 0 [v0,v1] h.fresh):(recI E).call 228 [v0,v1] h=some [(v,h)]:=flatF1 Tryz.f228 hok hv (ev_of (C228 true) H)
noncomputable def B185:Code:=bodyOf Tryz.f185
noncomputable def C185 (s:Bool):Cx:=⟨E,s,none,B185,[([0],[0,1]),([1,0],[0,1])],[4],[]⟩
theorem P185_0_of (H :
 PI (C185 s) K 1 [b,d] h):PI (C185 s) K 0 [b,d] h:=step_of H
theorem P185_1_of (H :
 Ev s (wCallV (recI E) (some (.func (.func 228) #[] #[])) [d,e] h) fun b=>
 K .ret [b.1] b.2):PI (C185 s) K 1 [d,e] h:=step_of H
theorem F185_flat1 (hok:h.ok) (hv:isFlat v=true) (H:PI (C185 true) (KR E [.tmp 4] fun x k=>x=v/\h.next<=k.wm) 0 [v0,v1] h.fresh):(recI E).call 185 [v0,v1] h=some [(v,h)]:=flatF1 Tryz.f185 hok hv (ev_of (C185 true) H)
noncomputable def B229:Code:=bodyOf Tryz.f229
noncomputable def C229 (s:Bool):Cx:=⟨E,s,none,B229,[([0],[0,1,2]),([1,0],[3,4,5])],[6],[]⟩
theorem P229_0_of (H :
 Ev s (wNewRow 9 h f) fun b=>
 Ev s (wNewRow 9 b.2 g) fun d=>
 Ev s (wNewRow 3 d.2 i) fun e=>
 PI (C229 s) K 1 [b.1,d.1,e.1] e.2):PI (C229 s) K 0 [f,g,i] h:=step_of H
theorem P229_1_of (H :
 EvO (pMakeFunc (.func 261) (some []) [d,b,e]) fun f=>
 K .ret [f] h):PI (C229 s) K 1 [b,d,e] h:=step_of H
theorem F229_some (H:PI (C229 true) (KR E [.tmp 6] fun x k=>(isFlat x=false\/k.wm<h.next)/\Rp x ⟨k.t,k.next,cond (Nat.ble h.wm k.wm) h.wm k.wm⟩) 0 [v0,v1,v2] h.fresh):Ev true ((recI E).call 229 [v0,v1,v2] h) fun x=>Rp x.1 x.2:=someF Tryz.f229 (ev_of (C229 true) H)
noncomputable def B186:Code:=bodyOf Tryz.f186
noncomputable def C186 (s:Bool):Cx:=⟨E,s,none,B186,[([0],[0,1]),([1,0],[0,1])],[4],[]⟩
theorem P186_0_of (H :
 PI (C186 s) K 1 [b,d] h):PI (C186 s) K 0 [b,d] h:=step_of H
theorem P186_1_of (H :
 Ev s (wCallV (recI E) (some (.func (.func 229) #[] #[])) (some [d,e,(.int .i64 0)]) h) fun b=>
 K .ret [b.1] b.2):PI (C186 s) K 1 [d,e] h:=step_of H
theorem F186_some (H:PI (C186 true) (KR E [.tmp 4] fun x k=>(isFlat x=false\/k.wm<h.next)/\Rp x ⟨k.t,k.next,cond (Nat.ble h.wm k.wm) h.wm k.wm⟩) 0 [v0,v1] h.fresh):Ev true ((recI E).call 186 [v0,v1] h) fun x=>Rp x.1 x.2:=someF Tryz.f186 (ev_of (C186 true) H)
noncomputable def B261:Code:=bodyOf Tryz.f261
noncomputable def C261 (s:Bool):Cx:=⟨E,s,none,B261,[([0,0],[0,1,2,3]),([0,1,0,0,0,0,0,0],[0,2]),([0,1,0,0,0,0,1,0,0],[0,2]),([0,1,0,0,0,0,1,0,1,0,0],[0,2,6]),([0,1,0,0,0,0,1,0,1,1],[0,2,6]),([1,0,0,0,0,0],[0,1,2,3]),([1,0,0,0,0,1,0,0],[0,1,2,3,7]),([1,0,0,0,0,1,1,0],[0,1,2,3,7]),([1,0,0,0,0,1,1,1,0,0],[0,1,2,3,7,8]),([1,0,0,0,0,1,1,1,1],[0,1,2,3,7]),([1,1],[0,2])],[],[]⟩
theorem P261_0_of (H :
 EvO (rLoad E 9 h d) fun g=>
 EvO (evRead E (tmOf [(9,g)]) (opAt B261 [0,0] 1) h) fun i=>
 EvO (binFast E .eql 3 i (.int .i64 0)) fun j=>
 BrK j (PI (C261 s) K 1 [b,e] h) (PI (C261 s) K 5 [b,d,e,f] h)):PI (C261 s) K 0 [b,d,e,f] h:=step_of H
theorem P261_5_of (H :
 EvO (rLoad E 9 h d) fun i=>
 EvO (rLoad E 9 h b) fun j=>
 Ev s (wCallV (recI E) (some (.func (.func 263) #[] #[])) [i,j] h) fun e=>
 PI (C261 s) K 6 [f,b,d,g,e.1] e.2):PI (C261 s) K 5 [f,b,d,g] h:=step_of H
theorem P261_6_of (H :
 EvO (binFast E .lss 3 e (.int .i64 0)) fun i=>
 BrK i (PI (C261 s) K 10 [b,d] h) (PI (C261 s) K 7 [b,f,d,g,e] h)):PI (C261 s) K 6 [b,f,d,g,e] h:=step_of H
theorem P261_7_of (H :
 EvO (rLoad E 9 h b) fun i=>
 EvO (rLoad E 3 h d) fun j=>
 EvO (binFast E .add 3 e j) fun k=>
 EvO (evPure E (tmOf [(34,i),(37,k)]) (opAt B261 [1,0,0,0,0,1,1,0] 4)) fun l=>
 PI (C261 s) K 8 [f,g,b,d,e,l] h):PI (C261 s) K 7 [f,g,b,d,e] h:=step_of H
theorem P261_8_of (H :
 Ev s (wCallV (recI E) d [j] h) fun b=>
 EvO (unFast .not b.1) fun k=>
 BrK k (K .ret [] b.2) (PI (C261 s) K 9 [d,e,f,g,i] b.2)):PI (C261 s) K 8 [d,e,f,g,i,j] h:=step_of H
theorem P261_9_of (H :
 EvO (rLoad E 9 h b) fun i=>
 EvO (rLoad E 9 h d) fun j=>
 EvO (evRead E (tmOf [(45,j)]) (opAt B261 [1,0,0,0,0,1,1,1,1] 3) h) fun k=>
 EvO (binFast E .add 3 g k) fun l=>
 EvO (evPure E (tmOf [(43,i),(47,l)]) (opAt B261 [1,0,0,0,0,1,1,1,1] 5)) fun m=>
 Ev s (wStore E 9 h b m) fun o=>
 PI (C261 s) K 5 [e,d,b,f] o.2):PI (C261 s) K 9 [e,d,b,f,g] h:=step_of H
theorem P261_10_of (H :
 EvO (rLoad E 9 h d) fun e=>
 Ev s (wCallV (recI E) b [e] h) fun f=>
 K .normal [] f.2):PI (C261 s) K 10 [b,d] h:=step_of H
theorem F261_ev (H:PI (C261 s) (KR E [] Rp) 0 [v0,v1,v2,v3] h):EvC E s Tryz.f261 [v0,v1,v2,v3] h Rp:=ev_of (C261 s) H
theorem F261_get:E.tab.fn.get 261=some Tryz.f261:=by kernel_rfl
theorem F261_body:Tryz.f261.body=some B261:=by kernel_rfl
theorem F261_sum (l:List Value) (h:AH):E.sum 261 l h=none:=by kernel_rfl
noncomputable def B137:Code:=bodyOf Tryz.f137
theorem F137_get:E.tab.fn.get 137=some Tryz.f137:=by kernel_rfl
theorem F137_body:Tryz.f137.body=some B137:=by kernel_rfl
theorem F137_sum (l:List Value) (h:AH):E.sum 137 l h=none:=by kernel_rfl
noncomputable def B136:Code:=bodyOf Tryz.f136
noncomputable def C136 (s:Bool):Cx:=⟨E,s,none,B136,[([0],[0,1]),([1,0],[0,1])],[3],[]⟩
theorem P136_0_of (H :
 PI (C136 s) K 1 [b,d] h):PI (C136 s) K 0 [b,d] h:=step_of H
theorem P136_1_of (H :
 EvO (rLoad E 9 h d) fun e=>
 EvO (evPure E (tmOf [(4,b),(5,e)]) (opAt B136 [1,0] 2)) fun f=>
 K .ret [f] h):PI (C136 s) K 1 [b,d] h:=step_of H
theorem F136_flat1 (hok:h.ok) (hv:isFlat v=true) (H:PI (C136 true) (KR E [.tmp 3] fun x k=>x=v/\h.next<=k.wm) 0 [v0,v1] h.fresh):(recI E).call 136 [v0,v1] h=some [(v,h)]:=flatF1 Tryz.f136 hok hv (ev_of (C136 true) H)
noncomputable def B134:Code:=bodyOf Tryz.f134
noncomputable def C134 (s:Bool):Cx:=⟨E,s,none,B134,[([0],[0,1]),([1,0,0],[0,1]),([1,0,1,0,0,0],[0,1,7,8]),([1,0,1,0,0,1,1,0,0,0],[0,1,7,8]),([1,0,1,0,0,1,1,0,0,1,0],[0,1,5,7,8]),([1,0,1,0,0,1,1,0,0,1,1,0,0],[5]),([1,0,1,0,0,1,1,1],[0,1,7,8]),([1,1,0],[])],[4],[]⟩
theorem P134_0_of (H :
 PI (C134 s) K 1 [b,d] h):PI (C134 s) K 0 [b,d] h:=step_of H
theorem P134_1_of (H :
 EvO (evRead E (tmOf [(6,b)]) (opAt B134 [1,0,0] 1) h) fun e=>
 PI (C134 s) K 2 [b,d,e,(.int .i64 0)] h):PI (C134 s) K 1 [b,d] h:=step_of H
theorem len134_1_1:evRead E (tmOf [(6,.slice a n c)]) (opAt B134 [1,0,0] 1) h=some (.int .i64 (n:Int)):=by cases a <;> kernel_rfl
theorem P134_2_of (H :
 EvO (binFast E .lss 3 d b) fun g=>
 BrK g (PI (C134 s) K 3 [e,f,b,d] h) (PI (C134 s) K 7 [] h)):PI (C134 s) K 2 [e,f,b,d] h:=step_of H
theorem P134_3_of (H :
 PI (C134 s) K 4 [d,e,b,f,b] h):PI (C134 s) K 3 [d,e,f,b] h:=step_of H
theorem P134_4_of (H :
 EvO (pIndexAddr E 85 d f) fun j=>
 EvO (rLoad E 9 h j) fun k=>
 Ev s (wCallV (recI E) e [k] h) fun b=>
 BrK b.1 (PI (C134 s) K 5 [f] b.2) (PI (C134 s) K 6 [d,e,g,i] b.2)):PI (C134 s) K 4 [d,e,f,g,i] h:=step_of H
theorem P134_5_of (H :
 K .ret [b] h):PI (C134 s) K 5 [b] h:=step_of H
theorem P134_6_of (H :
 EvO (binFast E .add 3 f (.int .i64 1)) fun g=>
 PI (C134 s) K 2 [b,d,e,g] h):PI (C134 s) K 6 [b,d,e,f] h:=step_of H
theorem P134_7_of (H :
 K .ret [(.int .i64 (-1))] h):PI (C134 s) K 7 [] h:=step_of H
theorem F134_flat1 (hok:h.ok) (hv:isFlat v=true) (H:PI (C134 true) (KR E [.tmp 4] fun x k=>x=v/\h.next<=k.wm) 0 [v0,v1] h.fresh):(recI E).call 134 [v0,v1] h=some [(v,h)]:=flatF1 Tryz.f134 hok hv (ev_of (C134 true) H)
noncomputable def B135:Code:=bodyOf Tryz.f135
noncomputable def C135 (s:Bool):Cx:=⟨E,s,none,B135,[([0],[]),([1,0],[]),([1,1,0,0],[1]),([1,1,0,1,0,0,0],[1,4,5]),([1,1,0,1,0,0,1,1,0,0,0],[1,4,5]),([1,1,0,1,0,0,1,1,0,0,1],[1,3,4,5]),([1,1,0,1,0,0,1,1,1],[1,4,5]),([1,1,1,0],[1])],[0],[]⟩
theorem P135_0_of (H :
 PI (C135 s) K 1 [] h):PI (C135 s) K 0 [] h:=step_of H
theorem P135_1_of (H :
 PI (C135 s) K 2 [(.slice none 0 0)] h):PI (C135 s) K 1 [] h:=step_of H
theorem P135_2_of (H :
 Ev s (wCallV (recI E) (some (.func (.func 79) #[] #[])) (some []) h) fun b=>
 PI (C135 s) K 3 [d,b.1,(.int .i64 0)] b.2):PI (C135 s) K 2 [d] h:=step_of H
theorem P135_3_of (H :
 EvO (binFast E .lss 3 d (.int .i64 3)) fun f=>
 BrK f (PI (C135 s) K 4 [b,e,d] h) (PI (C135 s) K 7 [b] h)):PI (C135 s) K 3 [b,e,d] h:=step_of H
theorem P135_4_of (H :
 EvO (pIndex E 113 d e) fun g=>
 Ev s (wNewRow 112 h (zeroV E 112)) fun b=>
 Ev s (wStore E 112 b.2 b.1 g) fun i=>
 PI (C135 s) K 5 [f,b.1,d,e] i.2):PI (C135 s) K 4 [f,d,e] h:=step_of H
theorem P135_5_of (H :
 EvO (pFieldAddr E 112 2 f) fun j=>
 EvO (rLoad E 9 h j) fun k=>
 Ev s (wBuildSlice E 85 1 (some [(0,k)]) h) fun b=>
 Ev s (wBuiltinO E .append [85,85] [e,b.1] b.2) fun d=>
 PI (C135 s) K 6 [d.1,g,i] d.2):PI (C135 s) K 5 [e,f,g,i] h:=step_of H
theorem P135_6_of (H :
 EvO (binFast E .add 3 e (.int .i64 1)) fun f=>
 PI (C135 s) K 3 [b,d,f] h):PI (C135 s) K 6 [b,d,e] h:=step_of H
theorem P135_7_of (H :
 K .ret [b] h):PI (C135 s) K 7 [b] h:=step_of H
theorem F135_some (H:PI (C135 true) (KR E [.tmp 0] fun x k=>(isFlat x=false\/k.wm<h.next)/\Rp x ⟨k.t,k.next,cond (Nat.ble h.wm k.wm) h.wm k.wm⟩) 0 [] h.fresh):Ev true ((recI E).call 135 [] h) fun x=>Rp x.1 x.2:=someF Tryz.f135 (ev_of (C135 true) H)
noncomputable def B127:Code:=bodyOf Tryz.f127
noncomputable def C127 (s:Bool):Cx:=⟨E,s,none,B127,[([0],[0]),([1,0],[0]),([1,1,0],[0])],[],[]⟩
theorem P127_0_of (H :
 EvO (pNilCheck b) fun d=>
 EvO (pFieldAddr E 104 0 d) fun e=>
 EvO (rLoad E 101 h e) fun f=>
 EvO (evPure E (tmOf [(5,f)]) (opAt B127 [0] 4)) fun g=>
 BrK g (PI (C127 s) K 1 [b] h) (PI (C127 s) K 2 [b] h)):PI (C127 s) K 0 [b] h:=step_of H
theorem P127_1_of (H :
 EvO (evRead E (tmOf [(8,d)]) (opAt B127 [1,0] 2) h) fun e=>
 Ev s (wCallV (recI E) (some (.func (.func 172) #[] #[])) [e] h) fun b=>
 EvO (evRead E (tmOf [(10,b.1)]) (opAt B127 [1,0] 4) b.2) fun f=>
 EvO (pNilCheck d) fun g=>
 EvO (pFieldAddr E 104 0 g) fun i=>
 Ev s (wStore E 101 b.2 i f) fun j=>
 K .normal [] j.2):PI (C127 s) K 1 [d] h:=step_of H
theorem P127_2_of (H :
 EvO (pNilCheck b) fun d=>
 EvO (pFieldAddr E 104 0 d) fun e=>
 EvO (rLoad E 101 h e) fun f=>
 EvO (evPure E (tmOf [(17,f),(18,b)]) (opAt B127 [1,1,0] 5)) fun g=>
 BrK g (False) (K .normal [] h)):PI (C127 s) K 2 [b] h:=step_of H
theorem F127_flat1 (hok:h.ok) (hv:isFlat v=true) (H:PI (C127 true) (KR E [] fun x k=>x=v/\h.next<=k.wm) 0 [v0] h.fresh):(recI E).call 127 [v0] h=some [(v,h)]:=flatF1 Tryz.f127 hok hv (ev_of (C127 true) H)
theorem F127_some (H:PI (C127 true) (KR E [] fun x k=>(isFlat x=false\/k.wm<h.next)/\Rp x ⟨k.t,k.next,cond (Nat.ble h.wm k.wm) h.wm k.wm⟩) 0 [v0] h.fresh):Ev true ((recI E).call 127 [v0] h) fun x=>Rp x.1 x.2:=someF Tryz.f127 (ev_of (C127 true) H)
noncomputable def B78:Code:=bodyOf Tryz.f78
noncomputable def C78 (s:Bool):Cx:=⟨E,s,none,B78,[([0],[0,1]),([1,0],[0,1]),([1,1,0],[0,1]),([1,1,1,0],[1])],[4,5],[]⟩
theorem P78_0_of (H :
 PI (C78 s) K 1 [b,d] h):PI (C78 s) K 0 [b,d] h:=step_of H
theorem P78_1_of (H :
 Ev s (wCallV (recI E) (some (.func (.func 127) #[] #[])) [b] h) fun e=>
 PI (C78 s) K 2 [b,d] e.2):PI (C78 s) K 1 [b,d] h:=step_of H
theorem P78_2_of (H :
 EvO (pNilCheck b) fun f=>
 EvO (pFieldAddr E 104 1 f) fun g=>
 EvO (rLoad E 102 h g) fun i=>
 Ev s (wBuiltinO E .append [102,9] [i,d] h) fun e=>
 EvO (pNilCheck b) fun j=>
 EvO (pFieldAddr E 104 1 j) fun k=>
 Ev s (wStore E 102 e.2 k e.1) fun l=>
 PI (C78 s) K 3 [d] l.2):PI (C78 s) K 2 [b,d] h:=step_of H
theorem P78_3_of (H :
 EvO (evRead E (tmOf [(17,b)]) (opAt B78 [1,1,1,0] 1) h) fun d=>
 K .ret [d,.nilIface] h):PI (C78 s) K 3 [b] h:=step_of H
theorem F78_some (H:PI (C78 true) (KR E [.tmp 4,.tmp 5] fun x k=>(isFlat x=false\/k.wm<h.next)/\Rp x ⟨k.t,k.next,cond (Nat.ble h.wm k.wm) h.wm k.wm⟩) 0 [v0,v1] h.fresh):Ev true ((recI E).call 78 [v0,v1] h) fun x=>Rp x.1 x.2:=someF Tryz.f78 (ev_of (C78 true) H)
noncomputable def B81:Code:=bodyOf Tryz.f81
noncomputable def C81 (s:Bool):Cx:=⟨E,s,none,B81,[([0],[0,1]),([1,0],[0,1]),([1,1,0],[0,1]),([1,1,1,0],[])],[4],[]⟩
theorem P81_0_of (H :
 PI (C81 s) K 1 [b,d] h):PI (C81 s) K 0 [b,d] h:=step_of H
theorem P81_1_of (H :
 Ev s (wCallV (recI E) (some (.func (.func 127) #[] #[])) [b] h) fun e=>
 PI (C81 s) K 2 [b,d] e.2):PI (C81 s) K 1 [b,d] h:=step_of H
theorem P81_2_of (H :
 EvO (pNilCheck d) fun i=>
 EvO (pFieldAddr E 104 1 i) fun j=>
 EvO (rLoad E 102 h j) fun k=>
 Ev s (wBuildSlice E 102 1 (some [(0,g)]) h) fun e=>
 Ev s (wBuiltinO E .append [102,102] [k,e.1] e.2) fun f=>
 EvO (pNilCheck d) fun l=>
 EvO (pFieldAddr E 104 1 l) fun m=>
 Ev s (wStore E 102 f.2 m f.1) fun b=>
 PI (C81 s) K 3 [] b.2):PI (C81 s) K 2 [d,g] h:=step_of H
theorem P81_3_of (H :
 K .ret [.nilIface] h):PI (C81 s) K 3 [] h:=step_of H
theorem F81_some (H:PI (C81 true) (KR E [.tmp 4] fun x k=>(isFlat x=false\/k.wm<h.next)/\Rp x ⟨k.t,k.next,cond (Nat.ble h.wm k.wm) h.wm k.wm⟩) 0 [v0,v1] h.fresh):Ev true ((recI E).call 81 [v0,v1] h) fun x=>Rp x.1 x.2:=someF Tryz.f81 (ev_of (C81 true) H)
noncomputable def B82:Code:=bodyOf Tryz.f82
noncomputable def C82 (s:Bool):Cx:=⟨E,s,none,B82,[([0],[0]),([1,0],[0])],[2],[]⟩
theorem P82_0_of (H :
 PI (C82 s) K 1 [b] h):PI (C82 s) K 0 [b] h:=step_of H
theorem P82_1_of (H :
 EvO (pNilCheck d) fun e=>
 EvO (pFieldAddr E 104 1 e) fun f=>
 EvO (rLoad E 102 h f) fun g=>
 EvO (evRead E (tmOf [(6,g)]) (opAt B82 [1,0] 4) h) fun i=>
 EvO (pNilCheck d) fun j=>
 EvO (pFieldAddr E 104 1 j) fun k=>
 EvO (rLoad E 102 h k) fun l=>
 EvO (evRead E (tmOf [(11,l)]) (opAt B82 [1,0] 9) h) fun m=>
 Ev s (wBuiltinO E .unsafeString [184,3] [i,m] h) fun b=>
 K .ret [b.1] b.2):PI (C82 s) K 1 [d] h:=step_of H
theorem len82_1_9:evRead E (tmOf [(11,.slice a n c)]) (opAt B82 [1,0] 9) h=some (.int .i64 (n:Int)):=by cases a <;> kernel_rfl
theorem F82_some (H:PI (C82 true) (KR E [.tmp 2] fun x k=>(isFlat x=false\/k.wm<h.next)/\Rp x ⟨k.t,k.next,cond (Nat.ble h.wm k.wm) h.wm k.wm⟩) 0 [v0] h.fresh):Ev true ((recI E).call 82 [v0] h) fun x=>Rp x.1 x.2:=someF Tryz.f82 (ev_of (C82 true) H)
noncomputable def B182:Code:=bodyOf Tryz.f182
noncomputable def C182 (s:Bool):Cx:=⟨E,s,none,B182,[([0,0,0,0],[0,1]),([0,0,1,0,0],[0,1]),([0,0,1,0,1,0,0],[0,1,3,4,5]),([0,0,1,0,1,1],[0,1,4])],[],[]⟩
theorem P182_0_of (H :
 EvO (rLoad E 9 h b) fun e=>
 EvO (evPure E (tmOf [(6,e)]) (opAt B182 [0,0,0,0] 1)) fun f=>
 BrK f (PI (C182 s) K 1 [d,b] h) (K .normal [] h)):PI (C182 s) K 0 [d,b] h:=step_of H
theorem P182_1_of (H :
 EvO (rLoad E 9 h d) fun f=>
 Ev s (wCallV (recI E) (some (.func (.func 183) #[] #[])) (some [f,(.string ⟨#[10]⟩)]) h) fun b=>
 EvO (pExtract 0 b.1) fun g=>
 EvO (pExtract 1 b.1) fun i=>
 EvO (pExtract 2 b.1) fun j=>
 PI (C182 s) K 2 [e,d,g,i,j] b.2):PI (C182 s) K 1 [e,d] h:=step_of H
theorem P182_2_of (H :
 Ev s (wCallV (recI E) d [f,i] h) fun b=>
 EvO (unFast .not b.1) fun j=>
 BrK j (K .ret [] b.2) (PI (C182 s) K 3 [d,e,g] b.2)):PI (C182 s) K 2 [d,e,f,g,i] h:=step_of H
theorem P182_3_of (H :
 Ev s (wStore E 9 h b e) fun f=>
 PI (C182 s) K 0 [d,b] f.2):PI (C182 s) K 3 [d,b,e] h:=step_of H
theorem F182_ev (H:PI (C182 s) (KR E [] Rp) 0 [v0,v1] h):EvC E s Tryz.f182 [v0,v1] h Rp:=ev_of (C182 s) H
theorem F182_get:E.tab.fn.get 182=some Tryz.f182:=by kernel_rfl
theorem F182_body:Tryz.f182.body=some B182:=by kernel_rfl
theorem F182_sum (l:List Value) (h:AH):E.sum 182 l h=none:=by kernel_rfl
theorem F182_flat1 (hok:h.ok) (hv:isFlat v=true) (H:PI (C182 true) (KR E [] fun x k=>x=v/\h.next<=k.wm) 0 [v0,v1] h.fresh):(recI E).call 182 [v0,v1] h=some [(v,h)]:=flatF1 Tryz.f182 hok hv (ev_of (C182 true) H)
noncomputable def B133:Code:=bodyOf Tryz.f133
noncomputable def C133 (s:Bool):Cx:=⟨E,s,none,B133,[([0],[0]),([1,0],[1])],[2],[]⟩
theorem P133_0_of (H :
 Ev s (wNewRow 9 h d) fun b=>
 PI (C133 s) K 1 [b.1] b.2):PI (C133 s) K 0 [d] h:=step_of H
theorem P133_1_of (H :
 EvO (pMakeFunc (.func 182) (some []) [b]) fun d=>
 K .ret [d] h):PI (C133 s) K 1 [b] h:=step_of H
theorem F133_some (H:PI (C133 true) (KR E [.tmp 2] fun x k=>(isFlat x=false\/k.wm<h.next)/\Rp x ⟨k.t,k.next,cond (Nat.ble h.wm k.wm) h.wm k.wm⟩) 0 [v0] h.fresh):Ev true ((recI E).call 133 [v0] h) fun x=>Rp x.1 x.2:=someF Tryz.f133 (ev_of (C133 true) H)
noncomputable def B83:Code:=bodyOf Tryz.f83
theorem F83_get:E.tab.fn.get 83=some Tryz.f83:=by kernel_rfl
theorem F83_body:Tryz.f83.body=some B83:=by kernel_rfl
theorem F83_sum (l:List Value) (h:AH):E.sum 83 l h=none:=by kernel_rfl
noncomputable def B21:Code:=bodyOf Tryz.f21
noncomputable def C21 (s:Bool):Cx:=⟨E,s,none,B21,[([0],[0]),([1,0],[0,2]),([1,1,0,0],[2,4,5]),([1,1,0,1,0,0],[2]),([1,1,1,0],[2,4])],[2,3],[]⟩
theorem P21_0_of (H :
 Ev s (wNewRow 32 h (zeroV E 32)) fun b=>
 PI (C21 s) K 1 [d,b.1] b.2):PI (C21 s) K 0 [d] h:=step_of H
theorem P21_1_of (H :
 Ev s (wCallV (recI E) (some (.func (.func 83) #[] #[])) [e] h) fun b=>
 EvO (pExtract 0 b.1) fun g=>
 EvO (pExtract 1 b.1) fun i=>
 Ev s (wNewRow 32 b.2 (zeroV E 32)) fun d=>
 Ev s (wStore E 32 d.2 d.1 g) fun j=>
 PI (C21 s) K 2 [f,d.1,i] j.2):PI (C21 s) K 1 [e,f] h:=step_of H
theorem P21_2_of (H :
 EvO (unFast .not e) fun f=>
 BrK f (PI (C21 s) K 3 [b] h) (PI (C21 s) K 4 [b,d] h)):PI (C21 s) K 2 [b,d,e] h:=step_of H
theorem P21_3_of (H :
 EvO (pBuild E 32 (some [])) fun d=>
 Ev s (wStore E 32 h b d) fun e=>
 K .ret [b,(.int .i64 363)] e.2):PI (C21 s) K 3 [b] h:=step_of H
theorem P21_4_of (H :
 EvO (rLoad E 32 h d) fun e=>
 Ev s (wStore E 32 h b e) fun f=>
 K .ret [b,(.int .i64 0)] f.2):PI (C21 s) K 4 [b,d] h:=step_of H
theorem F21_ev (H:PI (C21 s) (KR E [.cell 2 32,.tmp 3] Rp) 0 [v0] h):EvC E s Tryz.f21 [v0] h Rp:=ev_of (C21 s) H
theorem F21_get:E.tab.fn.get 21=some Tryz.f21:=by kernel_rfl
theorem F21_body:Tryz.f21.body=some B21:=by kernel_rfl
theorem F21_sum (l:List Value) (h:AH):E.sum 21 l h=none:=by kernel_rfl
noncomputable def B77:Code:=bodyOf Tryz.f77
noncomputable def C77 (s:Bool):Cx:=⟨E,s,none,B77,[([0],[0]),([1,0],[1])],[2],[]⟩
theorem P77_0_of (H :
 Ev s (wNewRow 54 h d) fun b=>
 PI (C77 s) K 1 [b.1] b.2):PI (C77 s) K 0 [d] h:=step_of H
theorem P77_1_of (H :
 EvO (pIndexAddr E 54 b (some (.int .i64 0))) fun d=>
 EvO (rLoad E 3 h d) fun e=>
 EvO (pIndexAddr E 54 b (some (.int .i64 1))) fun f=>
 EvO (rLoad E 3 h f) fun g=>
 EvO (evRead E (tmOf [(4,e),(6,g)]) (opAt B77 [1,0] 4) h) fun i=>
 EvO (binFast E .gtr 3 i (.int .i64 1000000)) fun j=>
 K .ret [j] h):PI (C77 s) K 1 [b] h:=step_of H
theorem F77_flat1 (hok:h.ok) (hv:isFlat v=true) (H:PI (C77 true) (KR E [.tmp 2] fun x k=>x=v/\h.next<=k.wm) 0 [v0] h.fresh):(recI E).call 77 [v0] h=some [(v,h)]:=flatF1 Tryz.f77 hok hv (ev_of (C77 true) H)
noncomputable def B76:Code:=bodyOf Tryz.f76
noncomputable def C76 (s:Bool):Cx:=⟨E,s,none,B76,[([0],[0,1]),([1,0],[0,1])],[4],[]⟩
theorem P76_0_of (H :
 PI (C76 s) K 1 [b,d] h):PI (C76 s) K 0 [b,d] h:=step_of H
theorem P76_1_of (H :
 Ev s (wCallV (recI E) (some (.func (.func 95) #[] #[])) [d,e] h) fun b=>
 EvO (binFast E .geq 3 b.1 (.int .i64 0)) fun f=>
 K .ret [f] b.2):PI (C76 s) K 1 [d,e] h:=step_of H
theorem F76_flat (hok:h.ok) (hv:isScalar v=true) (H:PI (C76 s) (KR E [.tmp 4] fun x k=>x=v/\h.next<=k.wm) 0 [v0,v1] h.fresh):(recI E).call 76 [v0,v1] h=some [(v,h)]:=flatF Tryz.f76 hok hv (ev_of (C76 s) H)
noncomputable def B20:Code:=bodyOf Tryz.f20
noncomputable def C20 (s:Bool):Cx:=⟨E,s,none,B20,[([0],[0]),([1,0,0],[1]),([1,0,1,0],[1,4]),([1,0,1,1,0,0],[4]),([1,1,0,0],[1]),([1,1,0,1,0,0],[]),([1,1,1,0],[1]),([1,1,1,1,0],[1,5]),([1,1,1,1,1,0],[1,5]),([1,1,1,1,1,1,0,0],[1,5,6]),([1,1,1,1,1,1,0,1,0,0,0],[5,6,25,26,27]),([1,1,1,1,1,1,0,1,0,0,1,1,0,0,0],[5,6,25,26,27]),([1,1,1,1,1,1,0,1,0,0,1,1,0,0,1,0,0],[5,6,8,25,26,27]),([1,1,1,1,1,1,0,1,0,0,1,1,0,0,1,0,1,0,0],[5,8,25,26,27]),([1,1,1,1,1,1,0,1,0,0,1,1,0,0,1,0,1,0,1],[5,6,8,25,26,27]),([1,1,1,1,1,1,0,1,0,0,1,1,0,0,1,1],[5,6,8,25,26,27]),([1,1,1,1,1,1,0,1,0,0,1,1,1],[5,6,25,26,27]),([1,1,1,1,1,1,1,0],[5]),([1,1,1,1,1,1,1,1,0],[5])],[2,3],[]⟩
theorem P20_0_of (H :
 Ev s (wNewRow 32 h d) fun b=>
 PI (C20 s) K 1 [b.1] b.2):PI (C20 s) K 0 [d] h:=step_of H
theorem P20_1_of (H :
 EvO (rLoad E 32 h b) fun f=>
 Ev s (wBuildSlice E 83 1 (some [(0,f)]) h) fun d=>
 Ev s (wCallV (recI E) (some (.func (.func 71) #[] #[])) [d.1] d.2) fun e=>
 PI (C20 s) K 2 [b,e.1] e.2):PI (C20 s) K 1 [b] h:=step_of H
theorem P20_2_of (H :
 EvO (binFast E .neq 29 b (.int .i64 0)) fun e=>
 BrK e (PI (C20 s) K 3 [b] h) (PI (C20 s) K 4 [d] h)):PI (C20 s) K 2 [d,b] h:=step_of H
theorem P20_3_of (H :
 K .ret [(.string ⟨#[]⟩),b] h):PI (C20 s) K 3 [b] h:=step_of H
theorem P20_4_of (H :
 EvO (pFieldAddr E 32 1 d) fun e=>
 EvO (rLoad E 26 h e) fun f=>
 Ev s (wCallV (recI E) (some (.func (.func 76) #[] #[])) (some [f,(.func (.func 77) #[] #[])]) h) fun b=>
 BrK b.1 (PI (C20 s) K 5 [] b.2) (PI (C20 s) K 6 [d] b.2)):PI (C20 s) K 4 [d] h:=step_of H
theorem P20_5_of (H :
 K .ret [(.string ⟨#[]⟩),(.int .i64 360)] h):PI (C20 s) K 5 [] h:=step_of H
theorem P20_6_of (H :
 Ev s (wNewRow 104 h (zeroV E 104)) fun b=>
 PI (C20 s) K 7 [d,b.1] b.2):PI (C20 s) K 6 [d] h:=step_of H
theorem P20_7_of (H :
 EvO (pFieldAddr E 32 0 e) fun g=>
 EvO (rLoad E 3 h g) fun i=>
 Ev s (wCallV (recI E) (some (.func (.func 79) #[] #[])) (some []) h) fun d=>
 EvO (rLoad E 3 d.2 g) fun b=>veq 100 b i=true ∧
 (EvO (pIndex E 113 d.1 i) fun j=>
 EvO (pField E 112 2 j) fun k=>
 Ev s (wCallV (recI E) (some (.func (.func 78) #[] #[])) [f,k] d.2) fun l=>
 PI (C20 s) K 8 [e,f] l.2)):PI (C20 s) K 7 [e,f] h:=step_of H
theorem P20_8_of (H :
 PI (C20 s) K 9 [b,d,(.int .i64 (-1))] h):PI (C20 s) K 8 [b,d] h:=step_of H
theorem P20_9_of (H :
 EvO (pFieldAddr E 32 1 d) fun g=>
 EvO (rLoad E 26 h g) fun b=>
 EvO (evRead E (tmOf [(25,b)]) (opAt B20 [1,1,1,1,1,1,0,0] 2) h) fun i=>
 PI (C20 s) K 10 [e,f,b,i,(.int .i64 0)] h):PI (C20 s) K 9 [d,e,f] h:=step_of H
theorem len20_9_2:evRead E (tmOf [(25,.slice a n c)]) (opAt B20 [1,1,1,1,1,1,0,0] 2) h=some (.int .i64 (n:Int)):=by cases a <;> kernel_rfl
theorem P20_10_of (H :
 EvO (binFast E .lss 3 d b) fun i=>
 BrK i (PI (C20 s) K 11 [f,g,e,b,d] h) (PI (C20 s) K 17 [f] h)):PI (C20 s) K 10 [f,g,e,b,d] h:=step_of H
theorem P20_11_of (H :
 EvO (pIndexAddr E 26 b d) fun j=>
 EvO (rLoad E 54 h j) fun k=>
 Ev s (wNewRow 54 h (zeroV E 54)) fun f=>
 Ev s (wStore E 54 f.2 f.1 k) fun l=>
 PI (C20 s) K 12 [g,i,f.1,b,e,d] l.2):PI (C20 s) K 11 [g,i,b,e,d] h:=step_of H
theorem P20_12_of (H :
 EvO (pIndexAddr E 54 f (some (.int .i64 0))) fun j=>
 EvO (rLoad E 3 h j) fun k=>
 EvO (binFast E .neq 3 k i) fun l=>
 BrK l (PI (C20 s) K 13 [g,f,b,d,e] h) (PI (C20 s) K 15 [g,i,f,b,d,e] h)):PI (C20 s) K 12 [g,i,f,b,d,e] h:=step_of H
theorem P20_13_of (H :
 EvO (pIndexAddr E 54 f (some (.int .i64 0))) fun i=>
 EvO (rLoad E 3 h i) fun j=>
 PI (C20 s) K 14 [g,j,f,b,d,e] h):PI (C20 s) K 13 [g,f,b,d,e] h:=step_of H
theorem P20_14_of (H :
 Ev s (wCallV (recI E) (some (.func (.func 80) #[] #[])) [g] h) fun i=>
 EvO (evPure E (tmOf [(38,i.1)]) (opAt B20 [1,1,1,1,1,1,0,1,0,0,1,1,0,0,1,0,1,0,1] 2)) fun k=>
 EvO (evPure E (tmOf [(39,k)]) (opAt B20 [1,1,1,1,1,1,0,1,0,0,1,1,0,0,1,0,1,0,1] 3)) fun l=>
 Ev s (wCallV (recI E) (some (.func (.func 78) #[] #[])) [f,l] i.2) fun m=>
 PI (C20 s) K 15 [f,g,j,b,d,e] m.2):PI (C20 s) K 14 [f,g,j,b,d,e] h:=step_of H
theorem P20_15_of (H :
 EvO (pIndexAddr E 54 j (some (.int .i64 1))) fun k=>
 EvO (rLoad E 3 h k) fun l=>
 Ev s (wCallV (recI E) (some (.func (.func 80) #[] #[])) [l] h) fun g=>
 EvO (evPure E (tmOf [(44,g.1)]) (opAt B20 [1,1,1,1,1,1,0,1,0,0,1,1,0,0,1,1] 3)) fun m=>
 Ev s (wCallV (recI E) (some (.func (.func 78) #[] #[])) [f,m] g.2) fun o=>
 PI (C20 s) K 16 [f,i,b,d,e] o.2):PI (C20 s) K 15 [f,i,j,b,d,e] h:=step_of H
theorem P20_16_of (H :
 EvO (binFast E .add 3 e (.int .i64 1)) fun i=>
 PI (C20 s) K 10 [f,g,b,d,i] h):PI (C20 s) K 16 [f,g,b,d,e] h:=step_of H
theorem P20_17_of (H :
 Ev s (wCallV (recI E) (some (.func (.func 81) #[] #[])) (some [b,(.int .u8 10)]) h) fun d=>
 PI (C20 s) K 18 [b] d.2):PI (C20 s) K 17 [b] h:=step_of H
theorem P20_18_of (H :
 Ev s (wCallV (recI E) (some (.func (.func 82) #[] #[])) [d] h) fun b=>
 K .ret [b.1,(.int .i64 0)] b.2):PI (C20 s) K 18 [d] h:=step_of H
theorem F20_flatE {Rp:Value->Prop} (hok:h.ok) (H:PI (C20 true) (KR E [.tmp 2,.tmp 3] fun x k=>(isFlat x=true/\Rp x)/\h.next<=k.wm) 0 [v0] h.fresh):∃ v,Rp v/\(recI E).call 20 [v0] h=some [(v,h)]:=flatFE Tryz.f20 hok (ev_of (C20 true) H)
noncomputable def B84:Code:=bodyOf Tryz.f84
noncomputable def C84 (s:Bool):Cx:=⟨E,s,none,B84,[([0],[0,1]),([1,0,0],[0,1]),([1,0,1,0,0],[]),([1,1,0,0],[0,1]),([1,1,0,1,0,0,0],[0,1,12,13]),([1,1,0,1,0,0,1,1,0,0,0],[0,1,12,13]),([1,1,0,1,0,0,1,1,0,0,1,0],[0,1,5,12,13]),([1,1,0,1,0,0,1,1,0,0,1,1,0,0],[]),([1,1,0,1,0,0,1,1,1],[0,1,12,13]),([1,1,1,0],[])],[4],[]⟩
theorem P84_0_of (H :
 PI (C84 s) K 1 [b,d] h):PI (C84 s) K 0 [b,d] h:=step_of H
theorem P84_1_of (H :
 EvO (evRead E (tmOf [(6,b)]) (opAt B84 [1,0,0] 1) h) fun e=>
 EvO (evRead E (tmOf [(8,d)]) (opAt B84 [1,0,0] 3) h) fun f=>
 EvO (binFast E .neq 3 e f) fun g=>
 BrK g (PI (C84 s) K 2 [] h) (PI (C84 s) K 3 [b,d] h)):PI (C84 s) K 1 [b,d] h:=step_of H
theorem len84_1_1:evRead E (tmOf [(6,.slice a n c)]) (opAt B84 [1,0,0] 1) h=some (.int .i64 (n:Int)):=by cases a <;> kernel_rfl
theorem len84_1_3:evRead E (tmOf [(8,.slice a n c)]) (opAt B84 [1,0,0] 3) h=some (.int .i64 (n:Int)):=by cases a <;> kernel_rfl
theorem P84_2_of (H :
 K .ret [(.bool false)] h):PI (C84 s) K 2 [] h:=step_of H
theorem P84_3_of (H :
 EvO (evRead E (tmOf [(11,b)]) (opAt B84 [1,1,0,0] 1) h) fun e=>
 PI (C84 s) K 4 [b,d,e,(.int .i64 0)] h):PI (C84 s) K 3 [b,d] h:=step_of H
theorem len84_3_1:evRead E (tmOf [(11,.slice a n c)]) (opAt B84 [1,1,0,0] 1) h=some (.int .i64 (n:Int)):=by cases a <;> kernel_rfl
theorem P84_4_of (H :
 EvO (binFast E .lss 3 d b) fun g=>
 BrK g (PI (C84 s) K 5 [e,f,b,d] h) (PI (C84 s) K 9 [] h)):PI (C84 s) K 4 [e,f,b,d] h:=step_of H
theorem P84_5_of (H :
 PI (C84 s) K 6 [e,f,b,d,b] h):PI (C84 s) K 5 [e,f,d,b] h:=step_of H
theorem P84_6_of (H :
 EvO (pIndexAddr E 26 e g) fun i=>
 EvO (rLoad E 54 h i) fun j=>
 EvO (pIndexAddr E 26 f g) fun k=>
 EvO (rLoad E 54 h k) fun l=>
 EvO (binFast E .neq 54 j l) fun m=>
 BrK m (PI (C84 s) K 7 [] h) (PI (C84 s) K 8 [e,f,b,d] h)):PI (C84 s) K 6 [e,f,g,b,d] h:=step_of H
theorem P84_7_of (H :
 K .ret [(.bool false)] h):PI (C84 s) K 7 [] h:=step_of H
theorem P84_8_of (H :
 EvO (binFast E .add 3 d (.int .i64 1)) fun g=>
 PI (C84 s) K 4 [e,f,b,g] h):PI (C84 s) K 8 [e,f,b,d] h:=step_of H
theorem P84_9_of (H :
 K .ret [(.bool true)] h):PI (C84 s) K 9 [] h:=step_of H
theorem F84_flat (hok:h.ok) (hv:isScalar v=true) (H:PI (C84 s) (KR E [.tmp 4] fun x k=>x=v/\h.next<=k.wm) 0 [v0,v1] h.fresh):(recI E).call 84 [v0,v1] h=some [(v,h)]:=flatF Tryz.f84 hok hv (ev_of (C84 s) H)
noncomputable def B22:Code:=bodyOf Tryz.f22
noncomputable def C22 (s:Bool):Cx:=⟨E,s,none,B22,[([0],[0,1]),([1,0],[2,3])],[4],[]⟩
theorem P22_0_of (H :
 Ev s (wNewRow 32 h e) fun b=>
 Ev s (wNewRow 32 b.2 f) fun d=>
 PI (C22 s) K 1 [b.1,d.1] d.2):PI (C22 s) K 0 [e,f] h:=step_of H
theorem P22_1_of (H :
 EvO (pFieldAddr E 32 0 f) fun i=>
 EvO (rLoad E 3 h i) fun j=>
 EvO (pFieldAddr E 32 0 g) fun k=>
 EvO (rLoad E 3 h k) fun l=>
 EvO (binFast E .eql 3 j l) fun b=>
 EvO (gdB b true (pFieldAddr E 32 1 f)) fun m=>
 EvO (gdB b true (rLoad E 26 h m)) fun o=>
 EvO (gdB b true (pFieldAddr E 32 1 g)) fun p=>
 EvO (gdB b true (rLoad E 26 h p)) fun q=>
 Ev s (gdW b true (wCallV (recI E) (some (.func (.func 84) #[] #[])) [o,q] h) h) fun d=>
 EvO (pickV b d.1 (some (.bool false))) fun e=>
 K .ret [e] d.2):PI (C22 s) K 1 [f,g] h:=step_of H
theorem F22_flat (hok:h.ok) (hv:isScalar v=true) (H:PI (C22 s) (KR E [.tmp 4] fun x k=>x=v/\h.next<=k.wm) 0 [v0,v1] h.fresh):(recI E).call 22 [v0,v1] h=some [(v,h)]:=flatF Tryz.f22 hok hv (ev_of (C22 s) H)
noncomputable def B4:Code:=bodyOf Tryz.f4
noncomputable def C4 (s:Bool):Cx:=⟨E,s,none,B4,[([0],[0,1]),([1,0,0],[1,2]),([1,0,1,0,0],[]),([1,1,0,0],[1,2]),([1,1,0,1,0,0],[]),([1,1,1,0,0],[1,2]),([1,1,1,0,1,0],[1,2,5,6]),([1,1,1,0,1,1,0,0],[1,2,5]),([1,1,1,0,1,1,0,1,0],[1,2,7,8]),([1,1,1,0,1,1,0,1,1,0,0],[]),([1,1,1,1,0],[1]),([1,1,1,1,1,0,0],[1,9,10]),([1,1,1,1,1,0,1,0,0],[10]),([1,1,1,1,1,1,0],[1,9]),([1,1,1,1,1,1,1,0],[1,11,12])],[4],[]⟩
theorem P4_0_of (H :
 Ev s (wNewRow 32 h d) fun b=>
 PI (C4 s) K 1 [e,b.1] b.2):PI (C4 s) K 0 [d,e] h:=step_of H
theorem P4_1_of (H :
 Ev s (wCallV (recI E) (some (.func (.func 13) #[] #[])) (some []) h) fun b=>
 EvO (unFast .not b.1) fun f=>
 BrK f (PI (C4 s) K 2 [] b.2) (PI (C4 s) K 3 [d,e] b.2)):PI (C4 s) K 1 [d,e] h:=step_of H
theorem P4_3_of (H :
 EvO (rLoad E 32 h f) fun i=>
 Ev s (wBuildSlice E 83 1 (some [(0,i)]) h) fun g=>
 Ev s (wCallV (recI E) (some (.func (.func 19) #[] #[])) [g.1] g.2) fun b=>
 EvO (unFast .not b.1) fun d=>
 EvO (gdB d false e) fun j=>
 EvO (gdB d false (evRead E (tmOf [(20,j)]) (opAt B4 [1,1,0,0] 6) b.2)) fun k=>
 EvO (gdB d false (binFast E .gtr 3 k (.int .i64 4000))) fun l=>
 EvO (pickV d (some (.bool true)) l) fun m=>
 BrK m (PI (C4 s) K 4 [] b.2) (PI (C4 s) K 5 [e,f] b.2)):PI (C4 s) K 3 [e,f] h:=step_of H
theorem P4_4_of (H :
 K .ret [(.bool true)] h):PI (C4 s) K 4 [] h:=step_of H
theorem P4_5_of (H :
 EvO (rLoad E 32 h d) fun f=>
 Ev s (wCallV (recI E) (some (.func (.func 20) #[] #[])) [f] h) fun b=>
 EvO (pExtract 0 b.1) fun g=>
 EvO (pExtract 1 b.1) fun i=>
 PI (C4 s) K 6 [e,d,g,i] b.2):PI (C4 s) K 5 [e,d] h:=step_of H
theorem P4_6_of (H :
 EvO (binFast E .eql 29 f (.int .i64 0)) fun g=>
 BrK g (PI (C4 s) K 7 [b,d,e] h) (PI (C4 s) K 10 [b] h)):PI (C4 s) K 6 [b,d,e,f] h:=step_of H
theorem P4_7_of (H :
 Ev s (wCallV (recI E) (some (.func (.func 21) #[] #[])) [g] h) fun b=>
 EvO (pExtract 0 b.1) fun i=>
 EvO (pExtract 1 b.1) fun j=>
 Ev s (wNewRow 32 b.2 (zeroV E 32)) fun d=>
 Ev s (wStore E 32 d.2 d.1 i) fun k=>
 PI (C4 s) K 8 [e,f,d.1,j] k.2):PI (C4 s) K 7 [e,f,g] h:=step_of H
theorem P4_8_of (H :
 EvO (binFast E .neq 29 i (.int .i64 0)) fun b=>
 EvO (gdB b false (rLoad E 32 h f)) fun j=>
 EvO (gdB b false (rLoad E 32 h g)) fun k=>
 Ev s (gdW b false (wCallV (recI E) (some (.func (.func 22) #[] #[])) [j,k] h) h) fun d=>
 EvO (gdB b false (unFast .not d.1)) fun l=>
 EvO (pickV b (some (.bool true)) l) fun m=>
 BrK m (PI (C4 s) K 9 [] d.2) (PI (C4 s) K 10 [e] d.2)):PI (C4 s) K 8 [e,f,g,i] h:=step_of H
theorem P4_10_of (H :
 Ev s (wCallV (recI E) (some (.func (.func 21) #[] #[])) [e] h) fun b=>
 EvO (pExtract 0 b.1) fun f=>
 EvO (pExtract 1 b.1) fun g=>
 Ev s (wNewRow 32 b.2 (zeroV E 32)) fun d=>
 Ev s (wStore E 32 d.2 d.1 f) fun i=>
 PI (C4 s) K 11 [e,d.1,g] i.2):PI (C4 s) K 10 [e] h:=step_of H
theorem P4_11_of (H :
 EvO (binFast E .neq 29 b (.int .i64 0)) fun f=>
 BrK f (PI (C4 s) K 12 [b] h) (PI (C4 s) K 13 [d,e] h)):PI (C4 s) K 11 [d,e,b] h:=step_of H
theorem P4_12_of (H :
 EvO (binFast E .eql 29 b (.int .i64 363)) fun d=>
 K .ret [d] h):PI (C4 s) K 12 [b] h:=step_of H
theorem P4_13_of (H :
 EvO (rLoad E 32 h e) fun f=>
 Ev s (wCallV (recI E) (some (.func (.func 20) #[] #[])) [f] h) fun b=>
 EvO (pExtract 0 b.1) fun g=>
 EvO (pExtract 1 b.1) fun i=>
 PI (C4 s) K 14 [d,g,i] b.2):PI (C4 s) K 13 [d,e] h:=step_of H
theorem P4_14_of (H :
 EvO (binFast E .eql 29 e (.int .i64 0)) fun b=>
 EvO (gdB b true d) fun g=>
 EvO (gdB b true f) fun i=>
 EvO (gdB b true (evPure E (tmOf [(61,g),(62,i)]) (opAt B4 [1,1,1,1,1,1,1,0] 5))) fun j=>
 EvO (pickV b j (some (.bool false))) fun k=>
 K .ret [k] h):PI (C4 s) K 14 [f,d,e] h:=step_of H
theorem F4_flat1 (hok:h.ok) (hv:isFlat v=true) (H:PI (C4 true) (KR E [.tmp 4] fun x k=>x=v/\h.next<=k.wm) 0 [v0,v1] h.fresh):(recI E).call 4 [v0,v1] h=some [(v,h)]:=flatF1 Tryz.f4 hok hv (ev_of (C4 true) H)
end Go.Proofs
namespace Go.Proofs
open Go Go.AM
set_option maxRecDepth 100000
theorem call154 {n:Int} {h:AH} (hok:h.ok):(recI E).call 154 [.int .i64 n] h=some [(.bool false,h)]:=by
 refine F154_flat (s:=true) hok rfl (P154_0_of ?_)
 refine P154_1_of ?_
 simp [evO_some,bf_neq,kR_1,ne_ret]
theorem call94 {a b:Int} {h:AH} (hok:h.ok):(recI E).call 94 [.int .i64 a,.int .i64 b] h=some [(.int .i64 (if a<b then -1 else if b<a then 1 else 0),h)]:=by
 have hf:=ok_fresh h
 refine F94_flat (s:=true) hok rfl (P94_0_of ?_)
 refine P94_1_of ?_
 simp only [evO_some,wCall_0,call154 hf,ev_some]
 refine P94_2_of ?_
 simp only [evO_some,wCall_0,call154 hf,ev_some]
 refine P94_3_of ?_
 simp only [evO_some,brK_f]
 refine P94_7_of ?_
 simp only [evO_some,brK_f]
 refine P94_9_of ?_
 simp only [evO_some,bf_lss,brK_d]
 refine ⟨fun h1=>P94_10_of ?_,fun h1=>P94_11_of ?_⟩
 ·simp [evO_some,kR_1,ne_ret,h1]
 simp only [evO_some,bf_gtr,brK_d]
 refine ⟨fun h2=>P94_12_of ?_,fun h2=>P94_13_of ?_⟩
 ·simp [evO_some,kR_1,ne_ret,h1,h2]
 ·simp [evO_some,kR_1,ne_ret,h1,h2]
inductive Arr (h:AH) (z:Nat):Value->List (List Value)->Prop
 | nil (a:Option Addr) (c:Nat):Arr h z (.slice a 0 c) []
 | row {b o c:Nat} {vs:List Value} {ty es:Nat} {ro:Bool} {els:List (List Value)} (hb:h.get b=some (.row vs ty es ro)) (hlt:b<h.next) (hl:o+els.length*z<=vs.length)
   (hz:∀ i e,els[i]?=some e->e.length=z/\(vs.drop (o+i*z)).take z=e):Arr h z (.slice (some ⟨b,o,none⟩) els.length c) els
theorem Arr.ext {h k:AH} {z:Nat} {v:Value} {els:List (List Value)} (a:Arr h z v els) (e:Ext h k):Arr k z v els:=by
 cases a with
 | nil a c=>exact .nil a c
 | row hb hlt hl hz=>exact .row ((e.get _ hlt).trans hb) (Nat.lt_of_lt_of_le hlt e.next) hl hz
def idxFrom (p:Nat->Bool):Nat->Nat->Int
 | 0,_=>-1
 | n+1,i=>if p i then (i:Int) else idxFrom p n (i+1)
theorem idxFrom_neg {p:Nat->Bool}:∀ (n i:Nat),(∀ j,i<=j->j<i+n->p j=false) ↔ idxFrom p n i<0
 | 0,i=>by simp [idxFrom];intro j h1 h2;omega
 | n+1,i=>by
  simp only [idxFrom]
  constructor
  ·intro h
   rw [h i (Nat.le_refl _) (by omega)]
   simp only [Bool.false_eq_true,if_false]
   exact (idxFrom_neg n (i+1)).1 fun j h1 h2=>h j (by omega) (by omega)
  ·intro h j h1 h2
   cases hp:p i with
   | true=>rw [hp] at h;simp at h;omega
   | false=>
    rw [hp] at h
    simp only [Bool.false_eq_true,if_false] at h
    by_cases e:j=i
    ·rw [e,hp]
    ·exact (idxFrom_neg n (i+1)).2 h j (by omega) (by omega)
theorem add1 {i n:Nat} (hi:i<n) (hn:n<=9223372036854775807):in64 ((i:Int)+1):=by unfold in64;omega
inductive GT where
 | mk (k n:Int) (l:List GT)
theorem Arr.load {h:AH} {z:Nat} {v:Value} {els:List (List Value)} (ha:Arr h z v els) {i:Nat} {e:List Value} (hi:els[i]?=some e) :
  ∃ b o c vs ty es ro,v=.slice (some ⟨b,o,none⟩) els.length c/\h.get b=some (.row vs ty es ro)/\b<h.next/\o+i*z+z<=vs.length/\(vs.drop (o+i*z)).take z=e/\e.length=z:=by
 cases ha with
 | nil a c=>simp at hi
 | @row b o c vs ty es ro _ hb hlt hl hz=>
  have hlt':i<els.length:=(List.getElem?_eq_some_iff.1 hi).1
  refine ⟨b,o,c,vs,ty,es,ro,rfl,hb,hlt,?_,(hz i e hi).2,(hz i e hi).1⟩
  have:(i+1)*z<=els.length*z:=Nat.mul_le_mul_right _ (by omega)
  rw [Nat.add_mul] at this
  omega
structure Own (k l:AH):Prop where
 ext:Ext k l
 wm:k.next<=l.wm
theorem Own.fresh (k:AH):Own k k.fresh:=⟨⟨ok_fresh k,Nat.le_refl _,fun _ _=>rfl⟩,by rw [wm_fresh];omega⟩
theorem Own.new {k l:AH} (o:Own k l) (x:AObj):Own k (l.new x):=⟨o.ext.new x,o.wm⟩
theorem Own.upd {k l:AH} (o:Own k l) {b:Nat} (hb:k.next<=b) (x:Option AObj):Own k (l.upd b x):=⟨o.ext.upd hb x,wm_upd_le o.wm hb⟩
theorem veq_int (n:Nat) (k:IntKind) (a:Int):veq n (.int k a) (.int k a)=true:=by cases n <;> (show (decide (k=k)&&decide (a=a))=true;simp)
theorem veq_slice (n:Nat) (a:Option Addr) (m c:Nat):veq n (.slice a m c) (.slice a m c)=true:=by cases n <;> (show (decide (a=a)&&Nat.beq m m&&Nat.beq c c)=true;simp [Nat.beq_refl])
def orI:List Int->Int
 | []=>0
 | a::l=>if a≠0 then a else orI l
theorem call171 {k:AH} {is:List Int} {b c:Nat} {ty es:Nat} {ro:Bool} (hn:is.length<=1000) (hok:k.ok) (hb:k.get b=some (.row (is.map (Value.int .i64)) ty es ro)) :
  (recI E).call 171 [.slice (some ⟨b,0,none⟩) is.length c] k=some [(.int .i64 (orI is),k)]:=by
 refine F171_flat (s:=true) hok rfl (P171_0_of ?_)
 refine P171_1_of ?_
 refine P171_2_of ?_
 simp only [evO_some,len171_2_1]
 have hb':k.fresh.get b=some (.row (is.map (Value.int .i64)) ty es ro):=hb
 have loop:∀ (js:List Int) (i:Nat),is.drop i=js->P171_3 true (KR E [.tmp 2] (fun x l=>x=.int .i64 (orI js)/\k.next<=l.wm)) (.int .i64 0) (.slice (some ⟨b,0,none⟩) is.length c) (.int .i64 (is.length:Int)) (.int .i64 (i:Int)) k.fresh:=by
  intro js
  induction js with
  | nil=>
   intro i hi
   have:is.length<=i:=List.drop_eq_nil_iff.1 hi
   refine P171_3_of ?_
   simp only [bf_lss,evO_some,brK_d]
   refine ⟨fun h=>by omega,fun _=>P171_8_of ?_⟩
   simp [evO_some,kR_1,ne_ret,orI]
  | cons j js ih=>
   intro i hi
   have hlt:i<is.length:=by
    rcases Nat.lt_or_ge i is.length with h|h
    ·exact h
    ·rw [List.drop_eq_nil_of_le h] at hi;cases hi
   have hj:is[i]?=some j:=by have:=congrArg (·[0]?) hi;simpa [List.getElem?_drop] using this
   refine P171_3_of ?_
   simp only [bf_lss,evO_some,brK_d]
   refine ⟨fun _=>P171_4_of ?_,fun h=>by omega⟩
   have hl:lnth (is.map (Value.int .i64)) (0+i*1)=some (.int .i64 j):=by rw [lnth_eq];simp [hj]
   simp only [ia_47 hlt,evO_some,load_leaf ta_3 hb',hl]
   refine P171_5_of ?_
   simp only [evO_some,bf_neq,brK_n]
   refine ⟨fun h=>P171_6_of ?_,fun h=>P171_7_of ?_⟩
   ·simp [evO_some,kR_1,ne_ret,orI,h]
   ·simp only [bf_add _ (add1 hlt (by omega)),evO_some]
    have:=ih (i+1) (by rw [← List.drop_drop,hi];rfl)
    simp only [orI,h,ne_eq,not_true,if_false]
    simpa using this
 exact loop is 0 rfl
theorem bs47_2 {a b:Int} {h:AH}:wBuildSlice E 47 2 (some [(0,.int .i64 a),(1,.int .i64 b)]) h=one (.slice (some ⟨h.next,0,none⟩) 2 2,h.new (.row [.int .i64 a,.int .i64 b] 3 0 false)):=by kernel_rfl
def c3 (a b:Int):Int:=if a<b then -1 else if b<a then 1 else 0
theorem or2 {h:AH} (hok:h.ok) (a b:Int):(recI E).call 171 [.slice (some ⟨h.next,0,none⟩) 2 2] (h.new (.row [.int .i64 a,.int .i64 b] 3 0 false))=some [(.int .i64 (orI [a,b]),h.new (.row [.int .i64 a,.int .i64 b] 3 0 false))]:=
 call171 (is:=[a,b]) (by simp) (ok_new hok _) (get_new_self _ _)
theorem gdB_undef (w:Bool) (x:Option Value):gdB undef w x=some undef:=rfl
theorem gdW_undef (w:Bool) (x:R (Value×AH)) (h:AH):gdW undef w x h=one (undef,h):=rfl
end Go.Proofs
namespace Go.Proofs
open Go Go.AM
set_option maxRecDepth 100000
set_option maxHeartbeats 2000000
structure GL where
 n:Int
 labs:List (Int×List GT)
 eds:List (Int×Int×Int)
theorem Arr.slice {h:AH} {z:Nat} {v:Value} {els:List (List Value)} (a:Arr h z v els):∃ ad c,v=.slice ad els.length c:=by
 cases a with
 | nil a c=>exact ⟨a,c,rfl⟩
 | row=>exact ⟨_,_,rfl⟩
def anyFrom (p:Nat->Bool):Nat->Nat->Bool
 | 0,_=>false
 | m+1,i=>p i||anyFrom p m (i+1)
theorem anyFrom_false {p:Nat->Bool}:∀ {m i:Nat},anyFrom p m i=false->∀ j,i<=j->j<i+m->p j=false
 | 0,i,_,j,h1,h2=>by omega
 | m+1,i,h,j,h1,h2=>by
  simp only [anyFrom,Bool.or_eq_false_iff] at h
  by_cases e:j=i
  ·rw [e];exact h.1
  ·exact anyFrom_false h.2 j (by omega) (by omega)
theorem put2:∀ (e:List Value),e.length=2->lput [Value.int .i64 0,.slice none 0 0] 0 e=e:=by
 intro e he
 match e,he with
 | [x,y],_=>rfl
theorem sub1 {i:Nat} (h:0<i) (hi:i<=9223372036854775807) (t:TypeId):binFast E .sub t (.int .i64 (i:Int)) (.int .i64 1)=some (.int .i64 ((i-1:Nat):Int)):=by
 rw [bf_sub _ (by unfold in64;omega)]
 congr 2;omega
end Go.Proofs
namespace Go.Proofs
open Go Go.AM
set_option maxRecDepth 100000
set_option maxHeartbeats 1000000
def isMan (k:Int):Bool:=decide (k=1)||decide (k=2)
theorem call105 {k:AH} {a:Int} (hok:k.ok):(recI E).call 105 [.int .i64 a] k=some [(.bool (isMan a),k)]:=by
 refine F105_flat (s:=true) hok rfl (P105_0_of ?_)
 refine P105_1_of ?_
 simp only [evO_some,bf_eql]
 by_cases c:a=1
 ·simp [c,isMan,evO_some,gdB_bool,pick_bool,kR_1,ne_ret]
 ·simp [c,isMan,evO_some,gdB_bool,pick_bool,kR_1,ne_ret,bf_eql]
def prCells (p:Int×Int):List Value:=[.int .i64 p.1,.int .i64 p.2]
def cmpP (p q:Int×Int):Int:=orI [c3 p.1 q.1,c3 p.2 q.2]
theorem ia54_0 {b o:Nat}:pIndexAddr E 54 (some (.pointer (some ⟨b,o,none⟩))) (some (.int .i64 0))=some (.pointer (some ⟨b,o+0,none⟩)):=ia_54 (k:=0) (by omega)
theorem ia54_1 {b o:Nat}:pIndexAddr E 54 (some (.pointer (some ⟨b,o,none⟩))) (some (.int .i64 1))=some (.pointer (some ⟨b,o+1,none⟩)):=ia_54 (k:=1) (by omega)
theorem call122 {k:AH} {e f:Int×Int} (hok:k.ok):(recI E).call 122 [.agg ⟨prCells e⟩,.agg ⟨prCells f⟩] k=some [(.int .i64 (cmpP e f),k)]:=by
 refine F122_flat (s:=true) hok rfl (P122_0_of ?_)
 simp only [new_row,ev_one,cells_agg,evO_some]
 refine P122_1_of ?_
 have o1:=((Own.fresh k).new (.row (prCells e) 54 0 false)).new (.row (prCells f) 54 0 false)
 have t1:((k.fresh.new (.row (prCells e) 54 0 false)).new (.row (prCells f) 54 0 false)).get k.next=some (.row (prCells e) 54 0 false):=by
  rw [get_new_ne (by simp)];exact get_new_self k.fresh _
 have t2:((k.fresh.new (.row (prCells e) 54 0 false)).new (.row (prCells f) 54 0 false)).get (k.next+1)=some (.row (prCells f) 54 0 false):=get_new_self (k.fresh.new _) _
 simp only [next_fresh,AH.next_new]
 generalize ((k.fresh.new (.row (prCells e) 54 0 false)).new (.row (prCells f) 54 0 false))=k1 at o1 t1 t2
 have l0:=load_leaf (P:=E) ta_3 (o:=0) t1
 have l1:=load_leaf (P:=E) ta_3 (o:=1) t1
 have m0:=load_leaf (P:=E) ta_3 (o:=0) t2
 have m1:=load_leaf (P:=E) ta_3 (o:=1) t2
 simp only [lnth,prCells] at l0 l1 m0 m1
 simp only [ia54_0,ia54_1,Nat.add_zero,Nat.zero_add,l0,l1,m0,m1,evO_some,wCall_0,call94 o1.ext.ok,ev_some,veq_int,true_and,bs47_2,ev_one]
 rw [or2 o1.ext.ok]
 simp only [ev_some,evO_some,kR_1,ne_ret,true_and]
 exact ⟨rfl,o1.wm⟩
structure GB where
 kind:Int
 prs:List (Int×Int)
structure RB (h:AH) (e:List Value) (B:GB):Prop where
 ex:∃ vp,e=[.int .i64 B.kind,vp]/\Arr h 2 vp (B.prs.map prCells)
theorem RB.ext {h k:AH} {e:List Value} {B:GB} (r:RB h e B) (x:Ext h k):RB k e B:=let ⟨v,a,b⟩:=r.ex;⟨v,a,b.ext x⟩
def prBadAt (ps:List (Int×Int)) (i:Nat):Bool:=match ps[i]? with
 | some p=>decide (p.1<0)||decide (p.2<0)||(decide (0<i)&&match ps[i-1]? with
  | some q=>decide (0<=cmpP q p)
  | none=>false)
 | none=>false
def lnkErr (B:GB):Int:=if isMan B.kind=false then 361 else if 200000<B.prs.length then 360 else if anyFrom (prBadAt B.prs) B.prs.length 0 then 360 else 0
def errAt (Bs:List GB) (i:Nat):Int:=match Bs[i]? with
 | some B=>lnkErr B
 | none=>0
def errFrom (Bs:List GB):Nat->Nat->Int
 | 0,_=>0
 | m+1,i=>if errAt Bs i≠0 then errAt Bs i else errFrom Bs m (i+1)
abbrev kfe (k:AH) (n:Int):KF:=KR E [.tmp 2] (fun x m=>x=.int .i64 n/\k.next<=m.wm)
theorem put2b:∀ (e:List Value),e.length=2->lput [Value.int .i64 0,.int .i64 0] 0 e=e:=by
 intro e he
 match e,he with
 | [x,y],_=>rfl
theorem call71 {h0 k:AH} {v:Value} {els:List (List Value)} {Bs:List GB} (ha:Arr h0 2 v els) (hn:els.length=Bs.length) (hle:els.length<=1000) (hr:∀ (i:Nat) (e:List Value) (B:GB),els[i]?=some e->Bs[i]?=some B->RB h0 e B) (hk:Ext h0 k) :
  (recI E).call 71 [v] k=some [(.int .i64 (errFrom Bs els.length 0),k)]:=by
 obtain ⟨ad,c,hv⟩:=ha.slice
 subst hv
 refine F71_flat (s:=true) hk.ok rfl (P71_0_of ?_)
 refine P71_1_of ?_
 simp only [evO_some,len71_1_1]
 have loop:∀ (m i:Nat),i+m=els.length->∀ l,Own k l->P71_2 true (kfe k (errFrom Bs m i)) (.slice ad els.length c) (.int .i64 (els.length:Int)) (.int .i64 (i:Int)) l:=by
  intro m
  induction m with
  | zero=>
   intro i hi l hl
   refine P71_2_of ?_
   simp only [bf_lss,evO_some,brK_d]
   refine ⟨fun h=>by omega,fun _=>P71_15_of ?_⟩
   simp [evO_some,kR_1,ne_ret,errFrom,hl.wm]
  | succ m ih=>
   intro i hi l hl
   have hin:i<els.length:=by omega
   have hin':i<Bs.length:=by omega
   refine P71_2_of ?_
   simp only [bf_lss,evO_some,brK_d]
   refine ⟨fun _=>P71_3_of ?_,fun h=>by omega⟩
   obtain ⟨b,o,c',vs,ty,es,ro,hv,hb,hlt,hle2,hz,hzl⟩:=ha.load (List.getElem?_eq_getElem hin)
   simp only [Value.slice.injEq] at hv
   obtain ⟨hv1,_,hv3⟩:=hv
   subst hv1
   obtain ⟨vp,hel,hap⟩:=(hr i _ _ (List.getElem?_eq_getElem hin) (List.getElem?_eq_getElem hin')).ex
   have hat:errAt Bs i=lnkErr Bs[i]:=by unfold errAt;rw [List.getElem?_eq_getElem hin']
   generalize hB:Bs[i]=B at hel hap hat
   obtain ⟨ap,cp,hvp⟩:=hap.slice
   rw [List.length_map] at hvp
   subst hvp
   rw [hel] at hz hzl
   have he0:Ext h0 l:=hk.trans hl.ext
   have gb:l.get b=some (.row vs ty es ro):=(he0.get b hlt).trans hb
   simp only [evO_some,ia_83 hin,load_agg ta_32 gb hle2,hz,z_32,new_row,ev_one,cells_agg]
   rw [store_of (P:=E) ts_32 (x:=.agg ⟨[.int .i64 B.kind,.slice ap B.prs.length cp]⟩) (cs:=[.int .i64 B.kind,.slice ap B.prs.length cp]) (get_new_self l _) rfl hzl (by simp) (by simp [isLeaf])]
   simp only [ev_one]
   rw [put2 _ hzl]
   have hkl:=hl.ext.next
   have o2:=(hl.new (.row [.int .i64 0,.slice none 0 0] 32 0 false)).upd (b:=l.next) hkl (some (.row [.int .i64 B.kind,.slice ap B.prs.length cp] 32 0 false))
   have t2:((l.new (.row [.int .i64 0,.slice none 0 0] 32 0 false)).upd l.next (some (.row [.int .i64 B.kind,.slice ap B.prs.length cp] 32 0 false))).get l.next=some (.row [.int .i64 B.kind,.slice ap B.prs.length cp] 32 0 false):=get_upd_self _ _ _
   have n2:((l.new (.row [.int .i64 0,.slice none 0 0] 32 0 false)).upd l.next (some (.row [.int .i64 B.kind,.slice ap B.prs.length cp] 32 0 false))).next=l.next+1:=rfl
   generalize ((l.new (.row [.int .i64 0,.slice none 0 0] 32 0 false)).upd l.next (some (.row [.int .i64 B.kind,.slice ap B.prs.length cp] 32 0 false)))=l2 at o2 t2 n2
   refine P71_4_of ?_
   have c0:=load_leaf (P:=E) ta_3 (o:=0) t2
   have c1:=load_leaf (P:=E) ta_26 (o:=1) t2
   simp only [lnth] at c0 c1
   simp only [fa_32_0,Nat.add_zero,c0,evO_some,wCall_0,call105 o2.ext.ok,ev_some,uf_not]
   cases hm:isMan B.kind with
   | false=>
    have hee:errAt Bs i=361:=by rw [hat];unfold lnkErr;rw [if_pos hm]
    simp only [Bool.not_false,brK_t]
    refine P71_5_of ?_
    simp [evO_some,kR_1,ne_ret,errFrom,hee,o2.wm]
   | true=>
    simp only [Bool.not_true,brK_f]
    refine P71_6_of ?_
    simp only [fa_32_1,Nat.zero_add,c1,evO_some,len71_6_2,bf_gtr,brK_d]
    refine ⟨fun hbig=>P71_7_of ?_,fun hbig=>P71_8_of ?_⟩
    ·have hee:errAt Bs i=360:=by rw [hat];unfold lnkErr;rw [if_neg (by rw [hm];simp),if_pos (by omega)]
     simp [evO_some,kR_1,ne_ret,errFrom,hee,o2.wm]
    ·simp only [fa_32_1,Nat.zero_add,c1,evO_some,len71_8_2]
     have hbig':B.prs.length<=200000:=by omega
     have hlk:lnkErr B=if anyFrom (prBadAt B.prs) B.prs.length 0 then 360 else 0:=by unfold lnkErr;rw [if_neg (by rw [hm];simp),if_neg (by omega)]
     have pairs:∀ (m2 j:Nat),j+m2=B.prs.length->∀ l3,Ext l2 l3->k.next<=l3.wm->
       (anyFrom (prBadAt B.prs) m2 j=true->errFrom Bs (m+1) i=360)->(anyFrom (prBadAt B.prs) m2 j=false->errFrom Bs (m+1) i=errFrom Bs m (i+1))->
       P71_9 true (kfe k (errFrom Bs (m+1) i)) (.pointer (some ⟨l.next,0,none⟩)) (.slice (some ⟨b,o,none⟩) els.length c) (.int .i64 (els.length:Int)) (.int .i64 (i:Int)) (.slice ap B.prs.length cp) (.int .i64 (B.prs.length:Int)) (.int .i64 (j:Int)) l3:=by
      intro m2
      induction m2 with
      | zero=>
       intro j hj l3 hl3 hw3 h1 h2
       refine P71_9_of ?_
       simp only [bf_lss,evO_some,brK_d]
       refine ⟨fun h=>by omega,fun _=>P71_14_of ?_⟩
       simp only [bf_add _ (add1 hin (by omega)),evO_some]
       have:=ih (i+1) (by omega) l3 ⟨o2.ext.trans hl3,hw3⟩
       rw [h2 rfl]
       simpa using this
      | succ m2 ih2=>
       intro j hj l3 hl3 hw3 h1 h2
       have hjn:j<B.prs.length:=by omega
       refine P71_9_of ?_
       simp only [bf_lss,evO_some,brK_d]
       refine ⟨fun _=>P71_10_of ?_,fun h=>by omega⟩
       have hatp:(B.prs.map prCells)[j]?=some (prCells B.prs[j]):=by simp [hjn]
       obtain ⟨b',o',c2',vs',ty',es',ro',hv',hb',hlt',hle2',hz',hzl'⟩:=hap.load hatp
       simp only [Value.slice.injEq] at hv'
       obtain ⟨hv1',_,_⟩:=hv'
       subst hv1'
       have he3:Ext h0 l3:=(hk.trans o2.ext).trans hl3
       have gb':l3.get b'=some (.row vs' ty' es' ro'):=(he3.get b' hlt').trans hb'
       simp only [evO_some,ia_26 hjn,load_agg ta_54 gb' hle2',hz',z_54,new_row,ev_one,cells_agg]
       rw [store_of (P:=E) ts_54 (x:=.agg ⟨prCells B.prs[j]⟩) (cs:=prCells B.prs[j]) (get_new_self l3 _) rfl hzl' (by simp) (by simp [prCells,isLeaf])]
       simp only [ev_one]
       rw [put2b _ hzl']
       have hkl3:=hl3.next
       have e4:=(hl3.new (.row [.int .i64 0,.int .i64 0] 54 0 false)).upd (b:=l3.next) hkl3 (some (.row (prCells B.prs[j]) 54 0 false))
       have w4:k.next<=((l3.new (.row [.int .i64 0,.int .i64 0] 54 0 false)).upd l3.next (some (.row (prCells B.prs[j]) 54 0 false))).wm:=wm_upd_le (by rw [wm_new];exact hw3) (by omega)
       have t4:((l3.new (.row [.int .i64 0,.int .i64 0] 54 0 false)).upd l3.next (some (.row (prCells B.prs[j]) 54 0 false))).get l3.next=some (.row (prCells B.prs[j]) 54 0 false):=get_upd_self _ _ _
       have g4:((l3.new (.row [.int .i64 0,.int .i64 0] 54 0 false)).upd l3.next (some (.row (prCells B.prs[j]) 54 0 false))).get b'=some (.row vs' ty' es' ro'):=by
        have q1:=hk.next
        rw [get_upd_ne (by omega),get_new_ne (by omega)];exact gb'
       generalize ((l3.new (.row [.int .i64 0,.int .i64 0] 54 0 false)).upd l3.next (some (.row (prCells B.prs[j]) 54 0 false)))=l4 at e4 w4 t4 g4
       refine P71_11_of ?_
       have ok4:=e4.ok
       have bx:l4.get l.next=some (.row [.int .i64 B.kind,.slice (some ⟨b',o',none⟩) B.prs.length cp] 32 0 false):=(e4.get _ (by omega)).trans t2
       have d0:=load_leaf (P:=E) ta_3 (o:=0) t4
       have d1:=load_leaf (P:=E) ta_3 (o:=1) t4
       have da:=load_agg (P:=E) ta_54 (o:=0) t4 (by simp [prCells])
       have dp:=load_leaf (P:=E) ta_26 (o:=1) bx
       rw [List.drop_zero,List.take_of_length_le (by simp [prCells])] at da
       simp only [lnth,prCells] at d0 d1 dp
       have hatj:B.prs[j]?=some B.prs[j]:=List.getElem?_eq_getElem hjn
       have hpb:prBadAt B.prs j=(decide (B.prs[j].1<0)||decide (B.prs[j].2<0)||(decide (0<j)&&match B.prs[j-1]? with
        | some q=>decide (0<=cmpP q B.prs[j])
        | none=>false)):=by simp only [prBadAt,hatj]
       have hend:∀ bad:Bool,prBadAt B.prs j=bad->(BrK (some (.bool bad)) (P71_12 true (kfe k (errFrom Bs (m+1) i)) l4) (P71_13 true (kfe k (errFrom Bs (m+1) i)) (.pointer (some ⟨l.next,0,none⟩)) (.slice (some ⟨b,o,none⟩) els.length c) (.int .i64 (els.length:Int)) (.int .i64 (i:Int)) (.slice (some ⟨b',o',none⟩) B.prs.length cp) (.int .i64 (B.prs.length:Int)) (.int .i64 (j:Int)) l4)):=by
        intro bad hbad
        cases bad with
        | true=>
         rw [brK_t,h1 (by simp [anyFrom,hbad])]
         refine P71_12_of ?_
         simp [evO_some,kR_1,ne_ret,w4]
        | false=>
         rw [brK_f]
         refine P71_13_of ?_
         simp only [bf_add _ (add1 hjn (by omega)),evO_some]
         have:=ih2 (j+1) (by omega) l4 e4 w4 (fun h=>h1 (by simp [anyFrom,h])) (fun h=>h2 (by simp [anyFrom,hbad,h]))
         simpa using this
       simp only [ia54_0,Nat.add_zero,d0,evO_some,bf_lss]
       by_cases p1:B.prs[j].1<0
       ·have:=hend true (by rw [hpb];simp [p1])
        simpa only [p1,decide_true,Bool.not_false,Bool.not_true,beq_self_eq_true,show (true==false)=false from rfl,show (false==true)=false from rfl,cond_true,cond_false,evO_some,ev_some,uf_not,gdB_bool,gdW_bool,gdB_undef,gdW_undef,pick_bool,ev_one] using this
       ·simp only [p1,decide_false,Bool.not_false,Bool.not_true,beq_self_eq_true,show (true==false)=false from rfl,show (false==true)=false from rfl,cond_true,cond_false,evO_some,ev_some,uf_not,gdB_bool,gdW_bool,gdB_undef,gdW_undef,pick_bool,ev_one,ia54_1,d1,bf_lss]
        by_cases p2:B.prs[j].2<0
        ·have:=hend true (by rw [hpb];simp [p2])
         simpa only [p2,decide_true,Bool.not_false,Bool.not_true,beq_self_eq_true,show (true==false)=false from rfl,show (false==true)=false from rfl,cond_true,cond_false,evO_some,ev_some,uf_not,gdB_bool,gdW_bool,gdB_undef,gdW_undef,pick_bool,ev_one] using this
        ·simp only [p2,decide_false,Bool.not_false,Bool.not_true,beq_self_eq_true,show (true==false)=false from rfl,show (false==true)=false from rfl,cond_true,cond_false,evO_some,ev_some,uf_not,gdB_bool,gdW_bool,gdB_undef,gdW_undef,pick_bool,ev_one,bf_gtr]
         by_cases p3:0<j
         ·have p3':(0:Int)<j:=by omega
          have hjn':j-1<B.prs.length:=by omega
          have hatp':(B.prs.map prCells)[j-1]?=some (prCells B.prs[j-1]):=by simp [hjn']
          obtain ⟨b5,o5,c5,vs5,ty5,es5,ro5,hv5,hb5,hlt5,hle5,hz5,hzl5⟩:=hap.load hatp'
          simp only [Value.slice.injEq] at hv5
          obtain ⟨hv15,_,_⟩:=hv5
          cases hv15
          rw [hb'] at hb5
          cases hb5
          have hee:prBadAt B.prs j=decide (0<=cmpP B.prs[j-1] B.prs[j]):=by rw [hpb,List.getElem?_eq_getElem hjn'];simp [p1,p2,p3]
          have:=hend (decide (0<=cmpP B.prs[j-1] B.prs[j])) hee
          simpa only [p3',bf_gtr,decide_true,Bool.not_false,Bool.not_true,beq_self_eq_true,show (true==false)=false from rfl,show (false==true)=false from rfl,cond_true,cond_false,evO_some,ev_some,uf_not,gdB_bool,gdW_bool,gdB_undef,gdW_undef,pick_bool,ev_one,fa_32_1,Nat.zero_add,dp,sub1 p3 (by omega:j<=9223372036854775807),ia_26 hjn',load_agg ta_54 g4 hle5,hz5,da,wCall_0,call122 ok4,bf_geq] using this
         ·have p3':¬ (0:Int)<j:=by omega
          have:=hend false (by rw [hpb];simp [p1,p2,p3])
          simpa only [p3',bf_gtr,decide_false,Bool.not_false,Bool.not_true,beq_self_eq_true,show (true==false)=false from rfl,show (false==true)=false from rfl,cond_true,cond_false,evO_some,ev_some,uf_not,gdB_bool,gdW_bool,gdB_undef,gdW_undef,pick_bool,ev_one] using this
     refine pairs B.prs.length 0 (by omega) l2 (Ext.refl o2.ext.ok) o2.wm ?_ ?_
     ·intro h
      simp [errFrom,hat,hlk,h]
     ·intro h
      simp [errFrom,hat,hlk,h]
 exact loop els.length 0 (by omega) _ (Own.fresh k)
abbrev CL:=Int×List GT
def blkOf (v:Value) (c:Nat):Prop:=∃ n cap,v=.slice (some ⟨c,0,none⟩) n cap
theorem call_sum {P:Env} {f:FuncId} {fn:Func} {c:Code} {args:List Value} {h:AH} {outs:List (Value×AH)} (hf:P.tab.fn.get f=some fn) (hb:fn.body=some c) (hs:P.sum f args h=some outs):(recI P).call f args h=some outs:=by
 rw [call_eq]
 unfold fnCall
 rw [hf]
 simp only [hb,hs]
structure Fx (P:Nat->Prop) (k k':AH):Prop where
 ok:k'.ok
 next:k.next<=k'.next
 get:∀ c,c<k.next->¬ P c->k'.get c=k.get c
 wm:∀ m,m<=k.wm->(∀ c,P c->m<=c)->m<=k.next->m<=k'.wm
theorem Fx.refl {P:Nat->Prop} {k:AH} (h:k.ok):Fx P k k:=⟨h,Nat.le_refl _,fun _ _ _=>rfl,fun _ h _ _=>h⟩
theorem Fx.trans {P P':Nat->Prop} {k l m:AH} (e:Fx P k l) (f:Fx P' l m) (hP:∀ c,P' c->P c\/k.next<=c):Fx P k m:=
 ⟨f.ok,Nat.le_trans e.next f.next,fun c hc hn=>(f.get c (Nat.lt_of_lt_of_le hc e.next) fun h=>(hP c h).elim hn fun h=>by omega).trans (e.get c hc hn),
  fun n h1 h2 h3=>f.wm n (e.wm n h1 h2 h3) (fun c hc=>(hP c hc).elim (h2 c) fun h=>Nat.le_trans h3 h) (Nat.le_trans h3 e.next)⟩
theorem Fx.new {P:Nat->Prop} {k l:AH} (e:Fx P k l) (o:AObj):Fx P k (l.new o):=
 ⟨ok_new e.ok o,Nat.le_trans e.next (by simp),fun c hc hn=>by
  have:=e.next
  rw [get_new_ne (by omega)];exact e.get c hc hn,fun n h1 h2 h3=>e.wm n h1 h2 h3⟩
theorem Fx.upd {P:Nat->Prop} {k l:AH} (e:Fx P k l) {b:Nat} (hb:P b\/k.next<=b) (o:Option AObj):Fx P k (l.upd b o):=
 ⟨ok_upd e.ok b o,e.next,fun c hc hn=>by
  rw [get_upd_ne (fun h=>by subst h;exact hb.elim hn fun h=>by omega)];exact e.get c hc hn,
  fun n h1 h2 h3=>wm_upd_le (e.wm n h1 h2 h3) (hb.elim (h2 b) fun h=>Nat.le_trans h3 h)⟩
theorem Fx.mono {P P':Nat->Prop} {k l:AH} (e:Fx P k l) (h:∀ c,P c->P' c\/k.next<=c):Fx P' k l:=
 ⟨e.ok,e.next,fun c hc hn=>e.get c hc fun hp=>(h c hp).elim hn fun h=>by omega,fun n h1 h2 h3=>e.wm n h1 (fun c hc=>(h c hc).elim (h2 c) fun h=>Nat.le_trans h3 h) h3⟩
theorem Fx.ext {P:Nat->Prop} {h k l:AH} (e:Ext h k) (f:Fx P k l) (hP:∀ c,P c->h.next<=c):Ext h l:=
 ⟨f.ok,Nat.le_trans e.next f.next,fun c hc=>(f.get c (Nat.lt_of_lt_of_le hc e.next) fun hp=>by have:=hP c hp;omega).trans (e.get c hc)⟩
theorem Fx.own {P:Nat->Prop} {h k l:AH} (e:Own h k) (f:Fx P k l) (hP:∀ c,P c->h.next<=c):Own h l:=
 ⟨f.ext e.ext hP,f.wm _ e.wm hP e.ext.next⟩
abbrev NoB:Nat->Prop:=fun _=>False
structure Elt (t e:TypeId) (z:Nat):Prop where
 el:elemT E t=some e
 un:und E t=some (.slice e)
 ti:∃ i,tinfo E e=some i/\i.size=z/\smallT i=true
theorem elt_of {t e:TypeId} {z:Nat} {b:Bool} (h1:elemT E t=some e) (h2:und E t=some (.slice e)) (h3:tAS E e=some (b,z)) (h4:(match tinfo E e with|some i=>smallT i|none=>false)=true):Elt t e z:=by
 refine ⟨h1,h2,?_⟩
 cases ht:tinfo E e with
 | none=>unfold tAS at h3;rw [ht] at h3;cases h3
 | some i=>
  refine ⟨i,rfl,?_,?_⟩
  ·unfold tAS at h3;rw [ht] at h3;simp at h3;exact h3.2
  ·rw [ht] at h4;exact h4
theorem append_nil {t e z:Nat} (H:Elt t e z) {h:AH} {c:Nat} {us:List Value} {ty es:Nat} {ro:Bool} (hc:h.get c=some (.row us ty es ro)) (hl:us.length=z) :
  wBuiltinO E .append [t,t] (some [.slice none 0 0,.slice (some ⟨c,0,none⟩) 1 1]) h=one (.slice (some ⟨h.next,0,none⟩) 1 (UNK+z),h.new (.row us e z false)):=by
 obtain ⟨ti,e1,e2,e3⟩:=H.ti
 show v2 (appendV E [t,t] (.slice none 0 0) (.slice (some ⟨c,0,none⟩) 1 1) h)=_
 simp only [appendV,H.el,H.un,isIntD,cond_false,e1,appendSrc,sliceCells,hc,e2,Nat.one_mul,ltake_eq,ldrop_eq,llen_eq,List.drop_zero]
 rw [List.take_of_length_le (by omega),hl,Nat.beq_refl]
 simp only [if_true,e3,cond_true,appendTo,show Nat.beq 1 0=false from rfl,cond_false,appendNew,v2]
 rfl
theorem append_unk {t e z:Nat} (H:Elt t e z) (hz:0<z) {h:AH} {b c n:Nat} {vs us:List Value} {ty es:Nat} {ro:Bool} (hb:h.get b=some (.row vs e z false)) (hvs:vs.length=n*z) (hn:n+1<=1000000)
  (hc:h.get c=some (.row us ty es ro)) (hl:us.length=z) (hlf:us.all isLeaf=true) :
  wBuiltinO E .append [t,t] (some [.slice (some ⟨b,0,none⟩) n (UNK+z),.slice (some ⟨c,0,none⟩) 1 1]) h=one (.slice (some ⟨h.next,0,none⟩) (n+1) (UNK+z),(h.upd b none).new (.row (vs++us) e z false)):=by
 obtain ⟨ti,e1,e2,e3⟩:=H.ti
 show v2 (appendV E [t,t] (.slice (some ⟨b,0,none⟩) n (UNK+z)) (.slice (some ⟨c,0,none⟩) 1 1) h)=_
 simp only [appendV,H.el,H.un,isIntD,cond_false,e1,appendSrc,sliceCells,hc,e2,Nat.one_mul,ltake_eq,ldrop_eq,llen_eq,List.drop_zero]
 rw [List.take_of_length_le (by omega),hl,Nat.beq_refl]
 simp only [if_true,e3,cond_true,appendTo,show Nat.beq 1 0=false from rfl,cond_false,hb]
 have h1:Nat.ble UNK (UNK+z)=true:=ble_true.2 (by omega)
 simp only [appendRow,h1,Nat.beq_refl,Bool.and_self,Bool.not_false,cond_true,appendUnk,Nat.zero_add,llen_eq]
 have h2:Nat.ble ((n+1)*z) vs.length=false:=ble_false.2 (by rw [hvs,Nat.add_mul];omega)
 have h3:Nat.beq (n*z) vs.length=true:=by rw [hvs];exact Nat.beq_refl _
 simp only [h2,cond_false,h3,cond_true,appendMove,hlf,ltake_eq,ldrop_eq,List.drop_zero]
 rw [List.take_of_length_le (by omega)]
 simp only [appendNew,ble_true.2 hn,cond_true,v2]
 rfl
abbrev ptr (b:Nat):Value:=.pointer (some ⟨b,0,none⟩)
theorem u3:und E 3=some (.int .i64):=by kernel_rfl
theorem z4:zeroV E 4=some (.bool false):=by kernel_rfl
theorem pb54 {a b:Int}:pBuild E 54 (some [(0,.int .i64 a),(1,.int .i64 b)])=some (.agg ⟨prCells (a,b)⟩):=by kernel_rfl
theorem ev_inv {α:Type} {x:R α} {Q:α->Prop} (h:Ev true x Q):∃ a,x=some [a]/\Q a:=by
 obtain ⟨l,e,_,h1,h2⟩:=h
 match l,h1 rfl with
 | [a],_=>exact ⟨a,e,h2 a (by simp)⟩
theorem all_same {α:Type} {l l':List α} (h:∀ a,a∈l ↔ a∈l') (f:α->Bool):l.all f=l'.all f:=by
 rw [Bool.eq_iff_iff,List.all_eq_true,List.all_eq_true]
 exact ⟨fun H a ha=>H a ((h a).2 ha),fun H a ha=>H a ((h a).1 ha)⟩
def manCells (kind:Int):List Value:=
 if kind=1 then [.func (.func 128) #[] #[],.func (.func 129) #[] #[],.string ⟨#[115,116,114,111,110,103]⟩]
 else [.func (.func 130) #[] #[],.func (.func 131) #[] #[],.string ⟨#[98,114,97,110,99,104,105,110,103]⟩]
def mansV:Value:=.agg ⟨[.nilFunc,.nilFunc,.string ⟨#[]⟩]++manCells 1++manCells 2⟩
theorem pbm1:pBuild E 112 (some [(0,(.func (.func 128) #[] #[])),(1,(.func (.func 129) #[] #[])),(2,(.string ⟨#[115,116,114,111,110,103]⟩))])=some (.agg ⟨manCells 1⟩):=by kernel_rfl
theorem pbm2:pBuild E 112 (some [(0,(.func (.func 130) #[] #[])),(1,(.func (.func 131) #[] #[])),(2,(.string ⟨#[98,114,97,110,99,104,105,110,103]⟩))])=some (.agg ⟨manCells 2⟩):=by kernel_rfl
theorem pbm:pBuild E 113 (some [(1,.agg ⟨manCells 1⟩),(2,.agg ⟨manCells 2⟩)])=some mansV:=by kernel_rfl
theorem pim1:pIndex E 113 (some mansV) (some (.int .i64 1))=some (.agg ⟨manCells 1⟩):=by kernel_rfl
theorem pim2:pIndex E 113 (some mansV) (some (.int .i64 2))=some (.agg ⟨manCells 2⟩):=by kernel_rfl
theorem pim {kind:Int} (h:isMan kind=true):pIndex E 113 (some mansV) (some (.int .i64 kind))=some (.agg ⟨manCells kind⟩):=by
 simp only [isMan,Bool.or_eq_true,decide_eq_true_eq] at h
 rcases h with rfl|rfl
 ·exact pim1
 ·exact pim2
theorem call79 {k:AH} (hok:k.ok):(recI E).call 79 [] k=some [(mansV,k)]:=by
 refine F79_flat1 hok (by kernel_rfl) (P79_0_of ?_)
 simp only [z_113,new_row,ev_one,cells_agg]
 refine P79_1_of ?_
 have o1:=(Own.fresh k).new (.row [.nilFunc,.nilFunc,.string ⟨#[]⟩,.nilFunc,.nilFunc,.string ⟨#[]⟩,.nilFunc,.nilFunc,.string ⟨#[]⟩] 113 0 false)
 have t1:=get_new_self k.fresh (.row [.nilFunc,.nilFunc,.string ⟨#[]⟩,.nilFunc,.nilFunc,.string ⟨#[]⟩,.nilFunc,.nilFunc,.string ⟨#[]⟩] 113 0 false)
 generalize k.fresh.new (.row [.nilFunc,.nilFunc,.string ⟨#[]⟩,.nilFunc,.nilFunc,.string ⟨#[]⟩,.nilFunc,.nilFunc,.string ⟨#[]⟩] 113 0 false)=k1 at o1 t1
 simp only [next_fresh] at t1 ⊢
 have hst:=store_of (P:=E) ts_113 (o:=0) (x:=mansV) (cs:=[.nilFunc,.nilFunc,.string ⟨#[]⟩]++manCells 1++manCells 2) t1 rfl rfl (by simp) (by rfl)
 simp only [pbm1,pbm2,pbm,evO_some,hst,ev_one,kR_c,ne_ret,true_and]
 have g1:(k1.upd k.next (some (.row (lput [.nilFunc,.nilFunc,.string ⟨#[]⟩,.nilFunc,.nilFunc,.string ⟨#[]⟩,.nilFunc,.nilFunc,.string ⟨#[]⟩] 0 ([.nilFunc,.nilFunc,.string ⟨#[]⟩]++manCells 1++manCells 2)) 113 0 false))).get k.next=some (.row ([.nilFunc,.nilFunc,.string ⟨#[]⟩]++manCells 1++manCells 2) 113 0 false):=get_upd_self _ _ _
 have la:=load_agg (P:=E) ta_113 (o:=0) g1 (by decide)
 have:loadV E 113 (ptr k.next) (k1.upd k.next (some (.row (lput [.nilFunc,.nilFunc,.string ⟨#[]⟩,.nilFunc,.nilFunc,.string ⟨#[]⟩,.nilFunc,.nilFunc,.string ⟨#[]⟩] 0 ([.nilFunc,.nilFunc,.string ⟨#[]⟩]++manCells 1++manCells 2)) 113 0 false)))=some mansV:=la
 rw [this,evO_some]
 exact ⟨rfl,wm_upd_le o1.wm (Nat.le_refl _)⟩
theorem lnk_ok {B:GB} (h:lnkErr B=0):isMan B.kind=true/\B.prs.length<=200000/\∀ p∈B.prs,0<=p.1/\0<=p.2:=by
 unfold lnkErr at h
 cases h1:isMan B.kind with
 | false=>rw [h1] at h;simp at h
 | true=>
  rw [h1] at h
  simp only [Bool.true_eq_false,if_false] at h
  by_cases h2:200000<B.prs.length
  ·rw [if_pos h2] at h;omega
  ·rw [if_neg h2] at h
   cases h3:anyFrom (prBadAt B.prs) B.prs.length 0 with
   | true=>rw [h3] at h;simp at h
   | false=>
    refine ⟨rfl,by omega,fun p hp=>?_⟩
    obtain ⟨i,hi⟩:=List.mem_iff_getElem?.1 hp
    have:=anyFrom_false h3 i (Nat.zero_le _) (by have:=(List.getElem?_eq_some_iff.1 hi).1;omega)
    unfold prBadAt at this
    rw [hi] at this
    simp only [Bool.or_eq_false_iff,decide_eq_false_iff_not] at this
    omega
theorem bs83 {a b:Value} {h:AH}:wBuildSlice E 83 1 (some [(0,.agg #[a,b])]) h=one (.slice (some ⟨h.next,0,none⟩) 1 1,h.new (.row [a,b] 32 0 false)):=by kernel_rfl
theorem Fx.back {P:Nat->Prop} {k h:AH} (f:Fx P k.fresh h):Fx P k ⟨h.t,h.next,cond (Nat.ble k.wm h.wm) k.wm h.wm⟩:=by
 refine ⟨?_,f.next,fun c hc hn=>f.get c hc hn,fun m h1 h2 h3=>?_⟩
 ·have:=f.ok
  unfold AH.ok at this
  show cond (Nat.ble k.wm h.wm) k.wm h.wm<=h.next+UNK
  cases hc:Nat.ble k.wm h.wm with
  | true=>have:=ble_true.1 hc;simp only [cond_true];omega
  | false=>simpa using this
 ·have:=f.wm m (by rw [wm_fresh];omega) h2 h3
  show m<=cond (Nat.ble k.wm h.wm) k.wm h.wm
  cases Nat.ble k.wm h.wm
  ·exact this
  ·exact h1
theorem f13_get:E.tab.fn.get 13=some Tryz.f13:=by kernel_rfl
theorem f13_body:Tryz.f13.body=some (bodyOf Tryz.f13):=by kernel_rfl
theorem call13 {k:AH}:(recI E).call 13 [] k=some [(.bool true,k)]:=call_sum f13_get f13_body (by kernel_rfl)
end Go.Proofs
namespace Go.Proofs
open Go Go.AM
set_option maxRecDepth 100000
theorem nwF (k:AH) (x:AObj):∃ m,k.fresh.new x=m/\m.next=k.next+1/\m.get k.next=some x/\Own k m/\∀ b,b<k.next->m.get b=k.get b:=
 ⟨_,rfl,rfl,get_new_self k.fresh x,(Own.fresh k).new x,fun b hb=>by rw [get_new_ne (by simp;omega)];rfl⟩
theorem nw {k l:AH} (o:Own k l) (x:AObj):∃ m,l.new x=m/\m.next=l.next+1/\m.get l.next=some x/\Own k m/\∀ b,b<l.next->m.get b=l.get b:=
 ⟨_,rfl,rfl,get_new_self l x,o.new x,fun b hb=>get_new_ne (by omega)⟩
theorem up {k l:AH} (o:Own k l) {b:Nat} (hb:k.next<=b) (x:AObj):∃ m,l.upd b (some x)=m/\m.next=l.next/\m.get b=some x/\Own k m/\∀ c,c≠b->m.get c=l.get c:=
 ⟨_,rfl,rfl,get_upd_self _ _ _,o.upd hb _,fun c hc=>get_upd_ne hc⟩
theorem idx_agg {T et z:Nat} (hT:und E T=some (.slice et)) (hz:tsize E et=some z) (hta:tAS E et=some (true,z)) {h k:AH} {v:Value} {els:List (List Value)} (ha:Arr h z v els) (e:Ext h k) {i:Nat} {x:List Value} (hi:els[i]?=some x) :
  ∃ p,pIndexAddr E T (some v) (some (.int .i64 (i:Int)))=some p/\rLoad E et k (some p)=some (.agg ⟨x⟩):=by
 obtain ⟨b,o,c,vs,ty,es,ro,rfl,hb,hlt,hle,hx,hl⟩:=ha.load hi
 have hil:i<els.length:=(List.getElem?_eq_some_iff.1 hi).1
 refine ⟨_,indexSlice_of hT hz hil,?_⟩
 rw [load_agg hta ((e.get b hlt).trans hb) hle,hx]
end Go.Proofs
namespace Go.Proofs
open Go Go.AM
set_option maxRecDepth 100000
set_option maxHeartbeats 1000000
abbrev Dt:=Array (Int×Int)
theorem rowL_len:∀ l:List (Int×Int),(l.flatMap prCells).length=l.length*2
 | []=>rfl
 | x::l=>by simp only [List.flatMap_cons,List.length_append,List.length_cons,rowL_len l];simp [prCells];omega
theorem rowL_get:∀ (l:List (Int×Int)) (i:Nat) (x:Int×Int),l[i]?=some x->((l.flatMap prCells).drop (i*2)).take 2=prCells x
 | [],i,x,h=>by simp at h
 | y::l,0,x,h=>by simp at h;subst h;rfl
 | y::l,i+1,x,h=>by
  have:=rowL_get l i x (by simpa using h)
  rw [show (i+1)*2=i*2+2 by omega]
  exact this
section
variable {b ty es:Nat} {k0 k:AH} {d0 d:Dt}
end
theorem subN {a c:Nat} (h:c<=a) (ha:a<=9223372036854775807) (t:TypeId):binFast E .sub t (.int .i64 (a:Int)) (.int .i64 (c:Int))=some (.int .i64 ((a-c:Nat):Int)):=by
 rw [bf_sub t (by unfold in64;omega)]
 congr 2;omega
abbrev sl (b n c:Nat):Value:=.slice (some ⟨b,0,none⟩) n c
section
variable {b ty es c:Nat} {k:AH} {d:Dt}
end
end Go.Proofs
namespace Go.Proofs
open Go Go.AM Go.Sort
set_option maxRecDepth 100000
set_option maxHeartbeats 1000000
theorem bf_mul (t:TypeId) {a b:Int} (h:in64 (a*b)):binFast E .mul t (.int .i64 a) (.int .i64 b)=some (.int .i64 (a*b)):=by
 show some (Value.int .i64 (wrapF .i64 (a*b)))=_
 rw [wrap_in h]
theorem ft:(false==true)=false:=rfl
section
variable {b ty es c:Nat} {k:AH} {d:Dt} {cf:Value} {cm:Int×Int->Int×Int->Int}
end
theorem get_wm {m:AH} {w b:Nat} {o:Option AObj} (h:m.get b=o):AH.get ⟨m.t,m.next,w⟩ b=o:=h
section
variable {b ty es c:Nat} {k:AH} {d:Dt} {cf:Value} {cm:Int×Int->Int×Int->Int}
end
theorem arr_flat {z:Nat} {vs:List Value}:∀ (els:List (List Value)) (o:Nat),o+els.length*z<=vs.length->(∀ (i:Nat) (e:List Value),els[i]?=some e->e.length=z/\(vs.drop (o+i*z)).take z=e)->(vs.drop o).take (els.length*z)=els.flatten
 | [],o,_,_=>by simp
 | e::es,o,h,H=>by
  have h0:=H 0 e rfl
  rw [Nat.zero_mul,Nat.add_zero] at h0
  have ih:=arr_flat (z:=z) (vs:=vs) es (o+z) (by rw [List.length_cons,Nat.add_mul] at h;omega) fun i x hx=>by
   have:=H (i+1) x (by simpa using hx)
   rw [show o+(i+1)*z=o+z+i*z by rw [Nat.add_mul];omega] at this
   exact this
  rw [List.flatten_cons,← ih,List.length_cons,show (es.length+1)*z=z+es.length*z by rw [Nat.add_mul];omega,List.take_add,List.drop_drop,h0.2]
theorem elt26:Elt 26 54 2:=elt_of (by kernel_rfl) und_26 ta_54 (by kernel_rfl)
theorem bs26_1 {h:AH} {p:Int×Int}:wBuildSlice E 26 1 (some [(0,.agg ⟨prCells p⟩)]) h=one (.slice (some ⟨h.next,0,none⟩) 1 1,h.new (.row (prCells p) 54 0 false)):=by kernel_rfl
theorem flat_prs (l:List (Int×Int)):(l.map prCells).flatten=l.flatMap prCells:=by rw [List.flatMap_def]
theorem c3_zero' {a b:Int}:c3 a b=0 ↔ a=b:=by
 unfold c3
 split
 ·constructor
  ·intro h;cases h
  ·intro h;omega
 ·split
  ·constructor
   ·intro h;cases h
   ·intro h;omega
  ·constructor
   ·intro;omega
   ·intro;rfl
theorem c3_neg' {a b:Int}:c3 a b<0 ↔ a<b:=by
 unfold c3
 split
 ·constructor <;> intro <;> omega
 ·split <;> constructor <;> intro h <;> first|omega|(exfalso;revert h;decide)
theorem cmpP_lt (x y:Int×Int):cmpP x y<0 ↔ x.1<y.1\/(x.1=y.1/\x.2<y.2):=by
 simp only [cmpP,orI]
 by_cases h:c3 x.1 y.1=0
 ·have e:=c3_zero'.1 h
  simp only [h,ne_eq,not_true_eq_false,if_false]
  by_cases h2:c3 x.2 y.2=0
  ·have e2:=c3_zero'.1 h2
   simp only [h2,ne_eq,not_true_eq_false,if_false]
   omega
  ·simp only [h2,ne_eq,not_false_eq_true,if_true]
   have:=c3_neg' (a:=x.2) (b:=y.2)
   omega
 ·have h0:x.1≠y.1:=fun e=>h (c3_zero'.2 e)
  simp only [h,ne_eq,not_false_eq_true,if_true]
  have:=c3_neg' (a:=x.1) (b:=y.1)
  omega
def TestOK (h0:AH) (cf:Value) (f:Int×Int->Bool):Prop:=∀ k' p,Ext h0 k'->wCallV (recI E) (some cf) (some [.agg ⟨prCells p⟩]) k'=some [(.bool (f p),k')]
section
variable {b ty es c:Nat} {k h0:AH} {d:Dt} {cf:Value} {f:Int×Int->Bool}
end
theorem arr_row {h:AH} {b c:Nat} {vs rest:List Value} {ty es:Nat} {ro:Bool} {l:List (Int×Int)} (hb:h.get b=some (.row vs ty es ro)) (hl:b<h.next) (hv:vs=l.flatMap prCells++rest):Arr h 2 (sl b l.length c) (l.map prCells):=by
 have:=Arr.row (els:=l.map prCells) (z:=2) (o:=0) (c:=c) hb hl (by rw [hv,List.length_append,rowL_len,List.length_map];omega) fun i e he=>by
  rw [List.getElem?_map] at he
  obtain ⟨p,hp,rfl⟩:=Option.map_eq_some_iff.1 he
  refine ⟨rfl,?_⟩
  have hi:=(List.getElem?_eq_some_iff.1 hp).1
  have h2:=rowL_get l i p hp
  rw [Nat.zero_add,hv,List.drop_append_of_le_length (by rw [rowL_len];omega),List.take_append_of_le_length (by rw [List.length_drop,rowL_len];omega)]
  exact h2
 rw [List.length_map] at this
 exact this
end Go.Proofs
namespace Go.Proofs
open Go Go.AM
structure More (w:World) (σ:Sg) (h:AH) (σ':Sg) (h':AH):Prop where
 le:Sg.le σ σ'
 ext:Ext h h'
 hr:HR w.heap.size σ' h' w
theorem More.refl {w:World} {σ:Sg} {h:AH} (H:HR w.heap.size σ h w) (ok:h.ok):More w σ h σ h:=⟨Sg.le_refl σ,Ext.refl ok,H⟩
theorem More.trans {w:World} {σ σ1 σ2:Sg} {h h1 h2:AH} (a:More w σ h σ1 h1) (b:More w σ1 h1 σ2 h2):More w σ h σ2 h2:=⟨Sg.le_trans a.le b.le,a.ext.trans b.ext,b.hr⟩
theorem More.ok {w:World} {σ σ':Sg} {h h':AH} (a:More w σ h σ' h'):h'.ok:=a.ext.ok
theorem HR.addRO {σ:Sg} {h:AH} {w:World} (H:HR w.heap.size σ h w) (hok:h.ok) {vs:List Value} {el:TypeId} {cs:Array Value} {frz:Nat×Nat} {l:AM.Loc} (hb:w.heap[l.blk]?=some (.cells cs el frz))
  (hsz:l.base+vs.length<=cs.size) (hc:∀ i v,vs[i]?=some v->∃ v',cs[l.base+i]?=some v'/\VR σ v v') :
  More w σ h (σ.ext h.next l) (h.new (.row vs el 0 true)):=by
 have hlt:l.blk<w.heap.size:=lt_of_get hb
 have le:Sg.le σ (σ.ext h.next l):=Sg.le_ext H.free
 refine ⟨le,(Ext.refl hok).new _,?_,?_,?_,?_,Nat.le_refl _,H.kept⟩
 ·intro b m e
  unfold Sg.ext at e
  split at e
  ·rename_i hb;subst hb;simp
  ·have:=H.dom _ _ e;simp;omega
 ·intro b hb
  rw [AH.get_new]
  simp at hb
  rw [if_neg (by omega)];exact H.fresh b (by omega)
 ·intro b x e
  rw [AH.get_new] at e
  by_cases hb':b=h.next
  ·subst hb'
   rw [if_pos rfl] at e
   cases e
   exact ⟨l,Sg.ext_self ..,⟨cs,el,frz,hb,hsz,fun i v hi=>(let ⟨v',a,b⟩:=hc i v hi;⟨v',a,b.mono le⟩),fun e=>(by cases e),rfl,fun _ e=>(by cases e),fun e=>absurd rfl e⟩,fun e=>(by cases e)⟩
  ·rw [if_neg hb'] at e
   obtain ⟨m,a,c,d⟩:=H.live b x e
   refine ⟨m,le _ _ a,c.mono le rfl (fun i es v lm hi hs=>?_),d⟩
   rw [AH.get_new] at hi
   have hin:i≠h.next:=by intro e;subst e;rw [H.free] at hs;cases hs
   rw [if_neg hin] at hi
   exact ⟨hi,rfl⟩
 ·have other:∀ b' o2 l2,(h.new (.row vs el 0 true)).get b'=some o2->(σ.ext h.next l) b'=some l2->l.blk=l2.blk->b'≠h.next->isRO o2=true:=by
   intro b' o2 l2 e2 s2 hblk hne
   rw [AH.get_new,if_neg hne] at e2
   unfold Sg.ext at s2
   rw [if_neg hne] at s2
   obtain ⟨m,a,c,d⟩:=H.live b' _ e2
   rw [s2] at a;cases a
   cases hro:isRO o2 with
   | true=>rfl
   | false=>have:=d hro;omega
  intro b b' o1 o2 l1 l2 e1 e2 s1 s2 hblk hne
  by_cases hb1:b=h.next
  ·subst hb1
   have e1':=e1
   rw [AH.get_new,if_pos rfl] at e1';cases e1'
   have s1':=s1
   rw [Sg.ext_self] at s1';cases s1'
   exact ⟨rfl,other _ _ _ e2 s2 hblk (fun e=>hne e.symm)⟩
  ·by_cases hb2:b'=h.next
   ·subst hb2
    have e1':=e2
    rw [AH.get_new,if_pos rfl] at e1';cases e1'
    have s1':=s2
    rw [Sg.ext_self] at s1';cases s1'
    exact ⟨other _ _ _ e1 s1 hblk.symm hb1,rfl⟩
   ·rw [AH.get_new,if_neg hb1] at e1
    rw [AH.get_new,if_neg hb2] at e2
    unfold Sg.ext at s1 s2
    rw [if_neg hb1] at s1
    rw [if_neg hb2] at s2
    exact H.inj b b' o1 o2 l1 l2 e1 e2 s1 s2 hblk hne
inductive Els {α:Type} (R:List Value->α->Prop):List (List Value)->List α->Prop
 | nil:Els R [] []
 | cons {e:List Value} {a:α} {es:List (List Value)} {aas:List α} (h:R e a) (hs:Els R es aas):Els R (e::es) (a::aas)
theorem Els.mono {α:Type} {R S:List Value->α->Prop} (H:∀ e a,R e a->S e a):∀ {es:List (List Value)} {aas:List α},Els R es aas->Els S es aas
 | _,_,.nil=>.nil
 | _,_,.cons h hs=>.cons (H _ _ h) (Els.mono H hs)
theorem flat_len {z:Nat}:∀ (els:List (List Value)),(∀ e∈els,e.length=z)->els.flatten.length=els.length*z
 | [],_=>by simp
 | e::es,H=>by
  rw [List.flatten_cons,List.length_append,H e (by simp),flat_len es fun x hx=>H x (by simp [hx]),List.length_cons,Nat.add_mul];omega
theorem flat_get {z:Nat}:∀ (els:List (List Value)),(∀ e∈els,e.length=z)->∀ k e,els[k]?=some e->(els.flatten.drop (k*z)).take z=e
 | [],_,k,e,h=>by simp at h
 | x::es,H,0,e,h=>by
  simp at h;subst h
  rw [List.flatten_cons,Nat.zero_mul,List.drop_zero]
  have:=H x (by simp)
  rw [← this,List.take_left'];rfl
 | x::es,H,k+1,e,h=>by
  rw [List.flatten_cons]
  have hx:=H x (by simp)
  rw [show (k+1)*z=x.length+k*z by rw [hx,Nat.add_mul];omega,← List.drop_drop,List.drop_left']
  ·exact flat_get es (fun y hy=>H y (by simp [hy])) k e (by simpa using h)
  ·rfl
theorem flat_at {z:Nat}:∀ (els:List (List Value)),(∀ e∈els,e.length=z)->∀ i v,els.flatten[i]?=some v->∃ k e j,els[k]?=some e/\e[j]?=some v/\i=k*z+j
 | [],_,i,v,h=>by simp at h
 | x::es,H,i,v,h=>by
  have hx:=H x (by simp)
  rw [List.flatten_cons] at h
  by_cases hi:i<x.length
  ·rw [List.getElem?_append_left hi] at h
   exact ⟨0,x,i,rfl,h,by omega⟩
  ·rw [List.getElem?_append_right (by omega)] at h
   obtain ⟨k,e,j,a,b,c⟩:=flat_at es (fun y hy=>H y (by simp [hy])) _ _ h
   exact ⟨k+1,e,j,by simpa using a,b,by rw [Nat.add_mul];omega⟩
theorem cell_get {w:World} {a:Addr} {v:Value} (h:w.cell? a=some v):∃ C el frz,w.heap[a.block]?=some (.cells C el frz)/\a.spot=none/\C[a.off]?=some v:=by
 unfold World.cell? at h
 split at h
 ·rename_i C el frz hb
  cases hs:a.spot with
  | some s=>rw [hs] at h;simp at h
  | none=>rw [hs] at h;exact ⟨C,el,frz,hb,rfl,by simpa using h⟩
 ·cases h
theorem add_off (a:Addr) (n:Nat):(a.add n).off=a.off+n:=by unfold Addr.add;split <;> simp_all
theorem add_blk (a:Addr) (n:Nat):(a.add n).block=a.block:=by unfold Addr.add;split <;> rfl
theorem row_at {w:World} {base z i:Nat} {a:Addr} {cs:List Value} (hz:0<z) (h:w.cells? base (a.add (i*z)) z=some cs) :
  ∃ C el frz,w.heap[a.block]?=some (.cells C el frz)/\cs.length=z/\(i=0->a.spot=none)/\∀ j,j<z->C[a.off+i*z+j]?=cs[j]?:=by
 obtain ⟨_,hl,hg⟩:=World.cells?_some h
 have h0:=hg 0 hz
 have hv:∃ v,cs[0]?=some v:=⟨_,List.getElem?_eq_getElem (by omega)⟩
 obtain ⟨v,hv⟩:=hv
 rw [hv] at h0
 obtain ⟨C,el,frz,hb,hs,_⟩:=cell_get h0
 rw [add_blk,add_blk] at hb
 refine ⟨C,el,frz,hb,hl,fun hi=>?_,fun j hj=>?_⟩
 ·subst hi
  simp only [Nat.zero_mul] at hs
  have e:∀ b:Addr,b.add 0=b:=fun b=>by simp [Addr.add]
  rw [e,e] at hs;exact hs
 ·have hj':=hg j hj
  obtain ⟨u,hu⟩:∃ u,cs[j]?=some u:=⟨_,List.getElem?_eq_getElem (by omega)⟩
  rw [hu] at hj' ⊢
  obtain ⟨C',el',frz',hb',_,hc'⟩:=cell_get hj'
  rw [add_blk,add_blk,hb] at hb'
  cases hb'
  rw [add_off,add_off] at hc'
  exact hc'
section
variable {H:Type} {enc:TypeId×Value->H} {P:Program} {w:World} {base:Nat} {held:Bool}
def Step (enc:TypeId×Value->H) (P:Program) (w:World) (base:Nat) (held:Bool) {α:Type} (R:AH->List Value->α->Prop) (n:Nat) (t:TypeId):Prop:=
 ∀ (cs:List Value) (x:DataW H×List MemPlace) (σ:Sg) (h:AH),h.ok->HR w.heap.size σ h w->DataW.trod enc P w base (fun _=>true) held n t cs=some x->
  ∃ σ' h' vs a,More w σ h σ' h'/\VRs σ' vs cs/\R h' vs a
theorem build_els {α:Type} {R:AH->List Value->α->Prop} (hR:∀ h k es a,Ext h k->R h es a->R k es a) {e:TypeId} {z n:Nat} (hz:0<z) (hcz:P.cellsOf e=z) {a:Addr} {C:Array Value} {el:TypeId} {frz:Nat×Nat} (hC:w.heap[a.block]?=some (.cells C el frz))
  (step:Step enc P w base held R n e):∀ (m i:Nat) (σ:Sg) (h:AH),h.ok->HR w.heap.size σ h w->
   (∀ k,k<m->∃ x,(w.cells? base (a.add ((i+k)*z)) z).bind (DataW.trod enc P w base (fun _=>true) held n e)=some x)->
   ∃ σ' h' els aas,More w σ h σ' h'/\Els (R h') els aas/\els.length=m/\∀ k u,els[k]?=some u->u.length=z/\∀ j v,u[j]?=some v->∃ v',C[a.off+(i+k)*z+j]?=some v'/\VR σ' v v':=by
 intro m
 induction m with
 | zero=>intro i σ h hok hH _;exact ⟨σ,h,[],[],.refl hH hok,.nil,rfl,fun k u hk=>by simp at hk⟩
 | succ m ih=>
  intro i σ h hok hH hr
  obtain ⟨x,hx⟩:=hr 0 (by omega)
  obtain ⟨cs,hcs,htr⟩:=Option.bind_eq_some_iff.1 hx
  obtain ⟨C',el',frz',hb,hl,_,hg⟩:=row_at hz hcs
  rw [hC] at hb
  cases hb
  obtain ⟨σ1,h1,vs,b,m1,v1,r1⟩:=step cs x σ h hok hH htr
  obtain ⟨σ2,h2,els,aas,m2,e2,l2,g2⟩:=ih (i+1) σ1 h1 m1.ok m1.hr (fun k hk=>by
   have:=hr (k+1) (by omega)
   rw [show i+1+k=i+(k+1) by omega];exact this)
  refine ⟨σ2,h2,vs::els,b::aas,m1.trans m2,.cons (hR _ _ _ _ m2.ext r1) e2,by simp [l2],fun k u hk=>?_⟩
  cases k with
  | zero=>
   simp at hk;subst hk
   refine ⟨by rw [v1.length,hl],fun j v hj=>?_⟩
   obtain ⟨v',q1,q2⟩:=v1.get hj
   have hjz:j<z:=by have:=(List.getElem?_eq_some_iff.1 q1).1;omega
   exact ⟨v',by rw [hg j hjz];exact q1,q2.mono m2.le⟩
  | succ k=>
   simp only [List.getElem?_cons_succ] at hk
   rw [show i+(k+1)=i+1+k by omega]
   exact g2 k u hk
theorem build_sliceC {α:Type} {R:AH->List Value->α->Prop} (hR:∀ h k es a,Ext h k->R h es a->R k es a) {t e:TypeId} {z n:Nat} (ht:P.underlying t=some (.slice e)) (hz:0<z) (hcz:P.cellsOf e=z)
  (step:∀ m,n=m+1->Step enc P w base held R m e) :
  ∀ (cs:List Value) (x:DataW H×List MemPlace) (σ:Sg) (h:AH),h.ok->HR w.heap.size σ h w->DataW.trod enc P w base (fun _=>true) held n t cs=some x->
   ∃ σ' h' v v' els aas,cs=[v']/\More w σ h σ' h'/\VR σ' v v'/\Arr h' z v els/\Els (R h') els aas/\els.length<=9223372036854775807/\∃ ad n c,v=.slice ad n c/\n<=c/\c<UNK:=by
 intro cs x σ h hok hH htr
 rcases DataW.trod_slice ht htr with ⟨rfl,_⟩|⟨a,len,cap,elems,rest,m,hm,rfl,_,_,hlc,hcm,hel,hE,hS,_⟩
 ·exact ⟨σ,h,.slice none 0 0,_,[],[],rfl,.refl hH hok,.sliceN 0 0,.nil _ _,.nil,by simp,_,_,_,rfl,Nat.le_refl _,by decide⟩
 have hmax:len<=9223372036854775807:=by unfold maxLen at hcm;omega
 by_cases hcap:cap=0
 ·subst hcap
  obtain rfl:len=0:=by omega
  exact ⟨σ,h,.slice (some ⟨0,0,some 0⟩) 0 0,_,[],[],rfl,.refl hH hok,.sliceS a,.nil _ _,.nil,by simp,_,_,_,rfl,Nat.le_refl _,by decide⟩
 have first:∃ cs0,w.cells? base (a.add (0*z)) z=some cs0:=by
  by_cases hl:len=0
  ·obtain ⟨s1,s2⟩:=hS rfl
   have:=s2 0 (by omega)
   rw [hl,Nat.add_zero,hcz,List.getElem?_eq_getElem (by omega)] at this
   obtain ⟨c0,q,_⟩:=Option.bind_eq_some_iff.1 this
   exact ⟨c0,q⟩
  ·have:=hE 0 (by omega)
   rw [hcz,List.getElem?_eq_getElem (by omega)] at this
   obtain ⟨c0,q,_⟩:=Option.bind_eq_some_iff.1 this
   exact ⟨c0,q⟩
 obtain ⟨cs0,hcs0⟩:=first
 obtain ⟨C,el,frz,hC,_,hsp,_⟩:=row_at hz hcs0
 have hsp:=hsp rfl
 obtain ⟨ablk,aoff,asp⟩:=a
 simp only at hsp hC
 subst hsp
 obtain ⟨σ1,h1,els,aas,m1,e1,l1,g1⟩:=build_els (a:=⟨ablk,aoff,none⟩) hR hz hcz hC (step m hm) len 0 σ h hok hH (fun k hk=>by
  have:=hE k hk
  rw [hcz,List.getElem?_eq_getElem (by omega)] at this
  rw [Nat.zero_add]
  exact ⟨_,this⟩)
 have hlen:∀ u∈els,u.length=z:=fun u hu=>by
  obtain ⟨k,hk⟩:=List.getElem?_of_mem hu
  exact (g1 k u hk).1
 have hfl:=flat_len els hlen
 have m2:=HR.addRO m1.hr m1.ok (vs:=els.flatten) (l:=⟨ablk,aoff,0,0⟩) hC (by
  by_cases h0:els.flatten.length=0
  ·rw [h0]
   simp only [Nat.add_zero]
   obtain ⟨C',_,_,hb',hl',_,hg'⟩:=row_at hz hcs0
   simp only at hb'
   rw [hC] at hb'
   cases hb'
   have:=hg' 0 hz
   simp only [Nat.zero_mul,Nat.add_zero] at this
   have h2:aoff<C.size:=by
    rcases Nat.lt_or_ge aoff C.size with h|h
    ·exact h
    ·rw [Array.getElem?_eq_none h,List.getElem?_eq_getElem (by omega)] at this;cases this
   omega
  ·have hlt:els.flatten.length-1<els.flatten.length:=by omega
   obtain ⟨k,u,j,a1,a2,a3⟩:=flat_at els hlen _ _ (List.getElem?_eq_getElem hlt)
   obtain ⟨v',q1,_⟩:=(g1 k u a1).2 j _ a2
   have:=(Array.getElem?_eq_some_iff.1 q1).1
   simp only [Nat.zero_add] at this
   simp only
   omega) (fun i v hi=>by
  obtain ⟨k,u,j,a1,a2,a3⟩:=flat_at els hlen _ _ hi
  obtain ⟨v',q1,q2⟩:=(g1 k u a1).2 j _ a2
  refine ⟨v',?_,q2⟩
  simp only [Nat.zero_add] at q1
  simp only
  rw [a3,← Nat.add_assoc];exact q1)
 refine ⟨_,_,.slice (some ⟨h1.next,0,none⟩) els.length cap,.slice (some ⟨ablk,aoff,none⟩) len cap,els,aas,rfl,m1.trans m2,?_,?_,e1.mono fun u a r=>hR _ _ _ _ m2.ext r,by omega,_,_,_,rfl,by omega,by unfold maxLen at hcm;unfold UNK;omega⟩
 ·have:=VR.slice (σ:=σ1.ext h1.next ⟨ablk,aoff,0,0⟩) (b:=h1.next) (l:=⟨ablk,aoff,0,0⟩) 0 len cap (Sg.ext_self ..) (by unfold maxLen at hcm;unfold UNK;omega)
  rw [l1]
  exact this
 ·refine .row (vs:=els.flatten) (ty:=el) (es:=0) (ro:=true) (by rw [AH.get_new,if_pos rfl]) (by simp) (by rw [hfl];omega) fun i u hu=>⟨(g1 i u hu).1,by rw [Nat.zero_add];exact flat_get els hlen i u hu⟩
theorem build_slice {α:Type} {R:AH->List Value->α->Prop} (hR:∀ h k es a,Ext h k->R h es a->R k es a) {t e:TypeId} {z n:Nat} (ht:P.underlying t=some (.slice e)) (hz:0<z) (hcz:P.cellsOf e=z)
  (step:∀ m,n=m+1->Step enc P w base held R m e) :
  ∀ (cs:List Value) (x:DataW H×List MemPlace) (σ:Sg) (h:AH),h.ok->HR w.heap.size σ h w->DataW.trod enc P w base (fun _=>true) held n t cs=some x->
   ∃ σ' h' v v' els aas,cs=[v']/\More w σ h σ' h'/\VR σ' v v'/\Arr h' z v els/\Els (R h') els aas/\els.length<=9223372036854775807:=by
 intro cs x σ h hok hH htr
 obtain ⟨σ',h',v,v',els,aas,a,b,c,d,e,f,_⟩:=build_sliceC hR ht hz hcz step cs x σ h hok hH htr
 exact ⟨σ',h',v,v',els,aas,a,b,c,d,e,f⟩
end
end Go.Proofs
namespace Go.Proofs
open Go Go.AM
set_option maxRecDepth 100000
set_option maxHeartbeats 2000000
abbrev Ed:=Int×Int×Int
def outGo:List (List Ed)->List Ed->List (List Ed)
 | EE,[]=>EE
 | EE,e::l=>outGo (EE.set e.1.toNat ((EE[e.1.toNat]?.getD [])++[e])) l
def outOf (L:GL):List (List Ed):=outGo (List.replicate L.n.toNat []) L.eds
abbrev i1 (n:Int):List Value:=[.int .i64 n]
theorem ev_eqp (a b c d:Int):eqInts E 54 [.int .i64 a,.int .i64 b] [.int .i64 c,.int .i64 d]=allInts [.int .i64 a,.int .i64 b] [.int .i64 c,.int .i64 d]:=by kernel_rfl
theorem idx83 {h k:AH} {v:Value} {els:List (List Value)} (ha:Arr h 2 v els) (e:Ext h k) {i:Nat} {x:List Value} (hi:els[i]?=some x) :
  ∃ p,pIndexAddr E 83 (some v) (some (.int .i64 (i:Int)))=some p/\rLoad E 32 k (some p)=some (.agg ⟨x⟩):=idx_agg und_83 ts_32 ta_32 ha e hi
theorem call126 {h0:AH} {v f:Value} {els:List (List Value)} {p:Nat->Bool} (ha:Arr h0 2 v els) (hn:els.length<=9223372036854775807)
  (hf:∀ k,Ext h0 k->∀ i e,els[i]?=some e->wCallV (recI E) (some f) (some [.agg ⟨e⟩]) k=some [(.bool (p i),k)]) {k:AH} (hk:Ext h0 k) :
  (recI E).call 126 [v,f] k=some [(.int .i64 (idxFrom p els.length 0),k)]:=by
 obtain ⟨ad,c,hv⟩:=ha.slice
 refine F126_flat (s:=true) hk.ok rfl (P126_0_of ?_)
 refine P126_1_of ?_
 have loop:∀ (m i:Nat),i+m=els.length->P126_2 true (KR E [.tmp 2] (fun x l=>x=.int .i64 (idxFrom p m i)/\k.next<=l.wm)) v f (.int .i64 (els.length:Int)) (.int .i64 (i:Int)) k.fresh:=by
  intro m
  induction m with
  | zero=>
   intro i hi
   refine P126_2_of ?_
   simp only [bf_lss,evO_some,brK_d]
   refine ⟨fun h=>by omega,fun _=>P126_7_of ?_⟩
   simp [evO_some,kR_1,ne_ret,idxFrom]
  | succ m ih=>
   intro i hi
   have hin:i<els.length:=by omega
   refine P126_2_of ?_
   simp only [bf_lss,evO_some,brK_d]
   refine ⟨fun _=>P126_3_of ?_,fun h=>by omega⟩
   refine P126_4_of ?_
   obtain ⟨q,q1,q2⟩:=idx83 ha hk.fresh (List.getElem?_eq_getElem hin)
   simp only [evO_some,q1,q2,hf _ hk.fresh i _ (List.getElem?_eq_getElem hin),ev_some,brK_bool]
   refine ⟨fun h=>P126_5_of ?_,fun h=>P126_6_of ?_⟩
   ·simp only [evO_some,kR_1,ne_ret,true_and,idxFrom,h,if_true];rw [wm_fresh];omega
   ·simp only [evO_some,bf_add _ (add1 hin hn),idxFrom,h,Bool.false_eq_true,if_false]
    exact ih (i+1) (by omega)
 rw [hv]
 simp only [evO_some,len126_1_1]
 rw [← hv]
 exact loop els.length 0 (by omega)
theorem call75 {h0 k:AH} {e:List Value} {B:GB} (hr:RB h0 e B) (hk:Ext h0 k):(recI E).call 75 [.agg ⟨e⟩] k=some [(.bool (decide ((4000:Int)<(B.prs.length:Int))),k)]:=by
 obtain ⟨vp,rfl,e2⟩:=hr.ex
 obtain ⟨ad,c,hv⟩:=e2.slice
 rw [List.length_map] at hv
 refine F75_flat (s:=true) hk.ok rfl (P75_0_of ?_)
 obtain ⟨k1,e1,n1,t1,o1,f1⟩:=nwF k (.row [.int .i64 B.kind,vp] 32 0 false)
 simp only [new_row,ev_one,cells_agg,evO_some,e1,next_fresh]
 have l1:=load_leaf (P:=E) ta_26 (o:=1) t1
 simp only [lnth] at l1
 rw [hv] at l1
 refine P75_1_of ?_
 simp only [fa_32_1,Nat.zero_add,l1,evO_some,len75_1_2,bf_gtr,kR_1,ne_ret,true_and]
 exact o1.wm
def longAt (Bs:List GB) (i:Nat):Bool:=match Bs[i]? with
 | some B=>decide ((4000:Int)<(B.prs.length:Int))
 | none=>false
theorem call19 {h0 k:AH} {v:Value} {els:List (List Value)} {Bs:List GB} (ha:Arr h0 2 v els) (hn:els.length=Bs.length) (hle:els.length<=9223372036854775807) (hr:∀ (i:Nat) (e:List Value) (B:GB),els[i]?=some e->Bs[i]?=some B->RB h0 e B) (hk:Ext h0 k) :
  (recI E).call 19 [v] k=some [(.bool (!decide (0<=idxFrom (longAt Bs) els.length 0)),k)]:=by
 refine F19_flat (s:=true) hk.ok rfl (P19_0_of ?_)
 refine P19_1_of ?_
 have h126:∀ k',Ext h0 k'->(recI E).call 126 [v,.func (.func 75) #[] #[]] k'=some [(.int .i64 (idxFrom (longAt Bs) els.length 0),k')]:=fun k' hk'=>call126 ha hle (fun k2 hk2 i e he=>by
  have hil:=(List.getElem?_eq_some_iff.1 he).1
  have hB:Bs[i]?=some Bs[i]:=List.getElem?_eq_getElem (by omega)
  rw [wCall_0,call75 (hr i e _ he hB) hk2]
  simp only [longAt,hB]) hk'
 have h74:(recI E).call 74 [v,.func (.func 75) #[] #[]] k.fresh=some [(.bool (decide (0<=idxFrom (longAt Bs) els.length 0)),k.fresh)]:=by
  refine F74_flat (s:=true) hk.fresh.ok rfl (P74_0_of ?_)
  refine P74_1_of ?_
  simp only [evO_some,wCall_0,h126 _ hk.fresh.fresh,ev_some,bf_geq,kR_1,ne_ret,true_and]
  rw [wm_fresh];omega
 simp only [evO_some,wCall_0,h74,ev_some,uf_not,kR_1,ne_ret,true_and]
 rw [wm_fresh];omega
end Go.Proofs
namespace Go.Proofs
open Go Go.AM Go.Sort
set_option maxRecDepth 100000
set_option maxHeartbeats 1000000
theorem bf_neqp (p q:Int×Int):binFast E .neq 54 (.agg ⟨prCells p⟩) (.agg ⟨prCells q⟩)=some (.bool (!decide (p=q))):=by
 obtain ⟨a,b⟩:=p
 obtain ⟨c,d⟩:=q
 have h:eqInts E 54 (prCells (a,b)) (prCells (c,d))=some (decide ((a,b)=(c,d))):=by
  simp only [prCells,ev_eqp,allInts]
  by_cases h1:a=c <;> by_cases h2:b=d <;> simp [h1,h2,ieq_iff,show keq IntKind.i64 IntKind.i64=true from rfl]
 unfold binFast
 simp only [h]
def dd (d:Dt):Nat->List (Int×Int)
 | 0=>[]
 | j+1=>if 0<j/\d[j]! = d[j-1]! then dd d j else dd d j++[d[j]!]
section
variable {b ty es:Nat} {k:AH} {d:Dt}
end
end Go.Proofs
namespace Go.Proofs
open Go Go.AM
set_option maxRecDepth 100000
set_option maxHeartbeats 1000000
theorem wCall_1 {f a:Nat} {args:List Value} {h:AH}:wCallV (recI E) (some (.func (.func f) #[] #[ptr a])) (some args) h=(recI E).call f (args++[ptr a]) h:=by
 rw [wCall_fn];rfl
end Go.Proofs
namespace Go.Proofs
open Go Go.AM Go.Sort
set_option maxRecDepth 100000
set_option maxHeartbeats 1000000
theorem cmpP_trans {p q r:Int×Int} (h1:cmpP p q<0) (h2:cmpP q r<0):cmpP p r<0:=by
 rw [cmpP_lt] at *;omega
def Strict (l:List (Int×Int)):Prop:=l.Pairwise fun p q=>cmpP p q<0
theorem strict_of {l:List (Int×Int)} (h:∀ (j:Nat) (p q:Int×Int),l[j]?=some p->l[j+1]?=some q->cmpP p q<0):Strict l:=by
 have:∀ (m i:Nat) (p q:Int×Int),l[i]?=some p->l[i+1+m]?=some q->cmpP p q<0:=by
  intro m
  induction m with
  | zero=>intro i p q hp hq;exact h i p q hp hq
  | succ m ih=>
   intro i p q hp hq
   have hlt:=(List.getElem?_eq_some_iff.1 hq).1
   obtain ⟨r,hr⟩:∃ r,l[i+1+m]?=some r:=⟨_,List.getElem?_eq_getElem (by omega)⟩
   exact cmpP_trans (ih i p r hp hr) (h _ r q hr hq)
 refine List.pairwise_iff_getElem.2 fun i j hi hj hij=>?_
 exact this (j-i-1) i _ _ (List.getElem?_eq_getElem hi) (by rw [show i+1+(j-i-1)=j by omega];exact List.getElem?_eq_getElem hj)
end Go.Proofs
namespace Go.Proofs
open Go Go.AM
set_option maxRecDepth 100000
set_option maxHeartbeats 1000000
abbrev Bs:=List UInt8
def digB (b:UInt8):Bool:=decide (48<=b.toNat)&&decide (b.toNat<=57)
def valD:Nat->Bs->Nat
 | a,[]=>a
 | a,b::l=>valD (a*10+(b.toNat-48)) l
def numF (w:Bs):Option Nat:=
 if w=[]\/7<w.length\/(w.head?=some 48/\1<w.length) then none else if w.all digB=true/\valD 0 w<=1000000 then some (valD 0 w) else none
def dig (n:Nat):Bs:=Lib.decDigits n
theorem dig_small {n:Nat} (h:n<10):dig n=[UInt8.ofNat (48+n)]:=by unfold dig;rw [Lib.decDigits,dif_pos h]
theorem dig_big {n:Nat} (h:¬ n<10):dig n=dig (n / 10)++[UInt8.ofNat (48+n % 10)]:=by
 show Lib.decDigits n=Lib.decDigits (n / 10)++_
 rw [Lib.decDigits,dif_neg h]
theorem valD_app:∀ (l:Bs) (a:Nat) (b:UInt8),valD a (l++[b])=valD a l*10+(b.toNat-48)
 | [],a,b=>rfl
 | x::l,a,b=>valD_app l _ b
theorem valD_ge:∀ (l:Bs) (a:Nat),a<=valD a l
 | [],a=>Nat.le_refl a
 | x::l,a=>Nat.le_trans (by omega) (valD_ge l _)
theorem ofN {d:Nat} (h:d<10):(UInt8.ofNat (48+d)).toNat=48+d:=by
 rw [UInt8.toNat_ofNat']
 omega
theorem dig_ne (n:Nat):dig n≠[]:=by
 by_cases h:n<10
 ·rw [dig_small h];simp
 ·rw [dig_big h];simp
theorem dig_all (n:Nat):∀ b∈dig n,digB b=true:=by
 induction n using Nat.strongRecOn with
 | ind n ih=>
  by_cases h:n<10
  ·rw [dig_small h]
   intro b hb
   rw [List.mem_singleton.1 hb]
   simp only [digB,ofN h,Bool.and_eq_true,decide_eq_true_eq];omega
  ·rw [dig_big h]
   intro b hb
   rcases List.mem_append.1 hb with hb|hb
   ·exact ih _ (by omega) b hb
   ·rw [List.mem_singleton.1 hb]
    simp only [digB,ofN (show n % 10<10 by omega),Bool.and_eq_true,decide_eq_true_eq];omega
theorem dig_val (n:Nat):valD 0 (dig n)=n:=by
 induction n using Nat.strongRecOn with
 | ind n ih=>
  by_cases h:n<10
  ·rw [dig_small h]
   have e:=ofN h
   have e2:valD 0 [UInt8.ofNat (48+n)]=0*10+((UInt8.ofNat (48+n)).toNat-48):=rfl
   rw [e2,e];omega
  ·rw [dig_big h,valD_app,ih _ (by omega),ofN (by omega)]
   omega
theorem dig_len:∀ (k n:Nat),n<10 ^ (k+1)->(dig n).length<=k+1
 | 0,n,h=>by rw [dig_small (by simpa using h)];simp
 | k+1,n,h=>by
  by_cases h':n<10
  ·rw [dig_small h'];simp
  ·rw [dig_big h',List.length_append]
   have:=dig_len k (n / 10) (by rw [Nat.div_lt_iff_lt_mul (by omega)];rw [Nat.pow_succ] at h;exact h)
   simp;omega
theorem dig_head (n:Nat) (h:n≠0):(dig n).head?≠some 48:=by
 induction n using Nat.strongRecOn with
 | ind n ih=>
  by_cases h':n<10
  ·rw [dig_small h']
   simp only [List.head?_cons,ne_eq,Option.some.injEq]
   intro e
   have:=congrArg UInt8.toNat e
   rw [ofN h'] at this
   simp at this
   omega
  ·rw [dig_big h',List.head?_append]
   have:=ih (n / 10) (by omega) (by omega)
   cases hd:(dig (n / 10)).head? with
   | none=>exact absurd (List.head?_eq_none_iff.1 hd) (dig_ne _)
   | some b=>rw [hd] at this;simpa using this
theorem dig_uniq:∀ (m:Nat) (w:Bs),w.length=m+1->w.all digB=true->(w.head?=some 48->w.length=1)->w=dig (valD 0 w)
 | 0,w,hl,ha,_=>by
  match w,hl with
  | [b],_=>
   simp only [List.all_cons,List.all_nil,Bool.and_true,digB,Bool.and_eq_true,decide_eq_true_eq] at ha
   have e2:valD 0 [b]=0*10+(b.toNat-48):=rfl
   generalize hx:b.toNat=x at e2 ha
   rw [e2,dig_small (by omega)]
   congr 1
   refine UInt8.toNat_inj.1 ?_
   rw [ofN (by omega)];omega
 | m+1,w,hl,ha,hh=>by
  obtain ⟨l,b,rfl⟩:∃ l b,w=l++[b]:=⟨w.dropLast,w.getLast (by intro e;rw [e] at hl;simp at hl),(List.dropLast_concat_getLast _).symm⟩
  simp only [List.length_append,List.length_cons,List.length_nil] at hl
  simp only [List.all_append,List.all_cons,List.all_nil,Bool.and_true,Bool.and_eq_true] at ha
  have hb:=ha.2
  simp only [digB,Bool.and_eq_true,decide_eq_true_eq] at hb
  match l,hl with
  | x::l,hl=>
   have hx:x≠48:=by
    rintro rfl
    have:=hh (by simp)
    simp at this
   have hx2:=ha.1
   simp only [List.all_cons,Bool.and_eq_true,digB,decide_eq_true_eq] at hx2
   have hx3:x.toNat≠48:=fun e=>hx (UInt8.toNat_inj.1 (by rw [e];rfl))
   have ih:=dig_uniq m (x::l) (by simpa using hl) ha.1 (fun h=>absurd (by simpa using h) hx)
   have hv:1<=valD 0 (x::l):=by
    have e2:valD 0 (x::l)=valD (0*10+(x.toNat-48)) l:=rfl
    rw [e2]
    refine Nat.le_trans ?_ (valD_ge l _)
    omega
   rw [valD_app,dig_big (by omega),show (valD 0 (x::l)*10+(b.toNat-48)) / 10=valD 0 (x::l) by omega,show (valD 0 (x::l)*10+(b.toNat-48)) % 10=b.toNat-48 by omega,← ih]
   congr 2
   refine UInt8.toNat_inj.1 ?_
   rw [ofN (by omega)];omega
theorem numF_iff {w:Bs} {n:Nat}:numF w=some n ↔ w=dig n/\n<=1000000:=by
 unfold numF
 constructor
 ·intro h
  split at h
  ·cases h
  ·rename_i h1
   split at h
   ·rename_i h2
    cases h
    refine ⟨?_,h2.2⟩
    have h3:w≠[]:=fun e=>h1 (.inl e)
    obtain ⟨m,hm⟩:∃ m,w.length=m+1:=⟨w.length-1,by have:=List.length_pos_iff.2 h3;omega⟩
    exact dig_uniq m w hm h2.1 fun e=>by
     by_cases h4:1<w.length
     ·exact absurd (.inr (.inr ⟨e,h4⟩)) h1
     ·omega
   ·cases h
 ·rintro ⟨rfl,hn⟩
  have hl:=dig_len 6 n (by omega)
  rw [if_neg,if_pos ⟨List.all_eq_true.2 (dig_all n),by rw [dig_val];exact hn⟩,dig_val]
  rintro (h|h|⟨h,h2⟩)
  ·exact dig_ne n h
  ·omega
  ·by_cases h0:n=0
   ·subst h0
    rw [dig_small (by omega)] at h2
    simp at h2
   ·exact dig_head n h0 h
def cutF (c:UInt8):Bs->Bs×Bs×Bool
 | []=>([],[],false)
 | b::l=>if b=c then ([],l,true) else (b::(cutF c l).1,(cutF c l).2)
theorem cutF_app {c:UInt8}:∀ {a:Bs} (b:Bs),c ∉ a->cutF c (a++c::b)=(a,b,true)
 | [],b,_=>by simp [cutF]
 | x::a,b,h=>by
  simp only [List.mem_cons,not_or] at h
  simp only [List.cons_append,cutF,if_neg (fun e:x=c=>h.1 e.symm),cutF_app b h.2]
theorem cutF_true {c:UInt8}:∀ {s:Bs},(cutF c s).2.2=true->s=(cutF c s).1++c::(cutF c s).2.1/\c ∉ (cutF c s).1
 | [],h=>by simp [cutF] at h
 | x::s,h=>by
  by_cases e:x=c
  ·simp only [cutF,if_pos e] at h ⊢
   exact ⟨by rw [e];rfl,by simp⟩
  ·simp only [cutF,if_neg e] at h ⊢
   obtain ⟨h1,h2⟩:=cutF_true h
   exact ⟨by rw [List.cons_append,← h1],by simp only [List.mem_cons,not_or];exact ⟨fun h=>e h.symm,h2⟩⟩
def splF (c:UInt8):Bs->List Bs
 | []=>[[]]
 | b::l=>if b=c then []::splF c l else match splF c l with
  | w::ws=>(b::w)::ws
  | []=>[[b]]
theorem splF_ne (c:UInt8) (s:Bs):splF c s≠[]:=by
 cases s with
 | nil=>simp [splF]
 | cons b l=>
  simp only [splF]
  split
  ·simp
  ·split <;> simp
theorem splF_one {c:UInt8}:∀ {a:Bs},c ∉ a->splF c a=[a]
 | [],_=>rfl
 | x::a,h=>by
  simp only [List.mem_cons,not_or] at h
  simp only [splF,if_neg (fun e:x=c=>h.1 e.symm),splF_one h.2]
theorem splF_app {c:UInt8}:∀ {a:Bs} (b:Bs),c ∉ a->splF c (a++c::b)=a::splF c b
 | [],b,_=>by simp [splF]
 | x::a,b,h=>by
  simp only [List.mem_cons,not_or] at h
  simp only [List.cons_append,splF,if_neg (fun e:x=c=>h.1 e.symm),splF_app b h.2]
def spc (c:UInt8):List Bs->Bs
 | []=>[]
 | [w]=>w
 | w::v::ws=>w++c::spc c (v::ws)
theorem spl_spc (c:UInt8):∀ s:Bs,spc c (splF c s)=s
 | []=>rfl
 | b::l=>by
  have ih:=spl_spc c l
  simp only [splF]
  split
  ·rename_i e
   cases h:splF c l with
   | nil=>exact absurd h (splF_ne c l)
   | cons w ws=>rw [h] at ih;simp only [spc,List.nil_append,ih,e]
  ·cases h:splF c l with
   | nil=>exact absurd h (splF_ne c l)
   | cons w ws=>
    rw [h] at ih
    cases ws with
    | nil=>simp only [spc] at ih ⊢;rw [ih]
    | cons v ws=>simp only [spc,List.cons_append] at ih ⊢;rw [ih]
theorem spc_spl {c:UInt8}:∀ {ws:List Bs},ws≠[]->(∀ w∈ws,c ∉ w)->splF c (spc c ws)=ws
 | [w],_,h=>splF_one (h w (by simp))
 | w::v::ws,_,h=>by
  simp only [spc]
  rw [splF_app _ (h w (by simp)),spc_spl (by simp) (fun x hx=>h x (by simp only [List.mem_cons] at hx ⊢;exact .inr hx))]
def allN:List Bs->Option (List Nat)
 | []=>some []
 | w::ws=>match numF w,allN ws with
  | some n,some ns=>some (n::ns)
  | _,_=>none
theorem allN_iff:∀ {ws:List Bs} {ns:List Nat},allN ws=some ns ↔ ws=ns.map dig/\∀ n∈ns,n<=1000000
 | [],ns=>by
  simp only [allN,Option.some.injEq]
  constructor
  ·rintro rfl;simp
  ·rintro ⟨h,_⟩
   exact (List.map_eq_nil_iff.1 h.symm).symm
 | w::ws,ns=>by
  simp only [allN]
  constructor
  ·intro h
   split at h
   ·rename_i n ms h1 h2
    cases h
    obtain ⟨rfl,h3⟩:=numF_iff.1 h1
    obtain ⟨rfl,h4⟩:=allN_iff.1 h2
    exact ⟨rfl,fun x hx=>(List.mem_cons.1 hx).elim (fun e=>e ▸ h3) (h4 x)⟩
   ·cases h
  ·rintro ⟨h,h2⟩
   cases ns with
   | nil=>cases h
   | cons n ns=>
    simp only [List.map_cons,List.cons.injEq] at h
    rw [numF_iff.2 ⟨h.1,h2 n (by simp)⟩,allN_iff.2 ⟨h.2,fun x hx=>h2 x (by simp [hx])⟩]
def rowF (line:Bs):Option (Nat×List Nat):=match cutF 58 line with
 | (head,32::r,true)=>match numF head,allN (splF 32 r) with
  | some s,some ts=>some (s,ts)
  | _,_=>none
 | _=>none
def rowT (g:Nat×List Nat):Bs:=dig g.1++58::g.2.flatMap fun t=>32::dig t
theorem dig_no {c:UInt8} (h:digB c=false) (n:Nat):c ∉ dig n:=fun hc=>by rw [dig_all n c hc] at h;cases h
theorem spc_dig:∀ {ts:List Nat},ts≠[]->32::spc 32 (ts.map dig)=ts.flatMap fun t=>32::dig t
 | [t],_=>by simp [spc]
 | t::u::ts,_=>by
  have:=spc_dig (ts:=u::ts) (by simp)
  simp only [List.map_cons,spc,List.flatMap_cons] at this ⊢
  rw [← this]
  simp
theorem rowF_iff {l:Bs} {g:Nat×List Nat}:rowF l=some g ↔ l=rowT g/\g.2≠[]/\g.1<=1000000/\∀ t∈g.2,t<=1000000:=by
 obtain ⟨s,ts⟩:=g
 unfold rowF
 constructor
 ·intro h
  split at h
  ·rename_i head r hc
   split at h
   ·rename_i a b h1 h2
    cases h
    obtain ⟨h3,h4⟩:=numF_iff.1 h1
    obtain ⟨h5,h6⟩:=allN_iff.1 h2
    have hne:ts≠[]:=fun e=>splF_ne 32 r (by rw [h5,e];rfl)
    obtain ⟨h7,_⟩:=cutF_true (c:=58) (s:=l) (by rw [hc])
    rw [hc] at h7
    refine ⟨?_,hne,h4,h6⟩
    simp only at h7
    rw [h7,h3]
    unfold rowT
    have h8:=spl_spc 32 r
    rw [h5] at h8
    rw [← h8,spc_dig hne]
   ·cases h
  ·cases h
 ·rintro ⟨rfl,hne,h1,h2⟩
  simp only at hne h1 h2
  have hcut:cutF 58 (rowT (s,ts))=(dig s,32::spc 32 (ts.map dig),true):=by
   unfold rowT
   rw [cutF_app _ (dig_no (by decide) s),spc_dig hne]
  rw [hcut]
  simp only
  rw [numF_iff.2 ⟨rfl,h1⟩,spc_spl (by simpa using hne) (fun w hw=>by
   obtain ⟨t,_,rfl⟩:=List.mem_map.1 hw
   exact dig_no (by decide) t),allN_iff.2 ⟨rfl,h2⟩]
abbrev sV (l:Bs):Value:=.string ⟨l.toArray⟩
theorem sz (l:Bs):(⟨l.toArray⟩:ByteArray).size=l.length:=by show l.toArray.size=_;simp
theorem tl (l:Bs):(⟨l.toArray⟩:ByteArray).toList=l:=by rw [Lib.toList_data]
theorem ex (l:Bs) (i j:Nat):(⟨l.toArray⟩:ByteArray).extract i j=⟨((l.drop i).take (j-i)).toArray⟩:=by
 apply ByteArray.ext
 apply Array.ext'
 rw [Lib.extract_data]
theorem apB (l m:Bs):(⟨l.toArray⟩:ByteArray)++⟨m.toArray⟩=⟨(l++m).toArray⟩:=by
 apply ByteArray.ext
 apply Array.ext'
 simp
theorem bound_ok {y:Nat} {i:Int} {k:IntKind} {c:BoundsCode} (h:0<=i/\i<=y):Instr.sliceBound (.int k i) y c=Sem.pure i.toNat:=by
 show (if 0<=i/\i<=y then pure i.toNat else boundsPanic k i y c)=_
 rw [if_pos h];rfl
theorem bounds_lo {n:Nat} {i:Int} {k:IntKind} (h:0<=i/\i<=n):Instr.sliceBounds false n n (some (.int k i)) none none=Sem.pure (i.toNat,n,n):=by
 show Sem.bind (Instr.sliceBound (.int k i) n .sliceB) (fun l=>Sem.pure (l,n,n))=_
 rw [bound_ok h];rfl
theorem bounds_hi {n:Nat} {i:Int} {k:IntKind} (h:0<=i/\i<=n):Instr.sliceBounds false n n none (some (.int k i)) none=Sem.pure (0,i.toNat,n):=by
 show Sem.bind (Instr.sliceBound (.int k i) n .sliceAlen) (fun h=>Sem.pure (0,h,n))=_
 rw [bound_ok h];rfl
noncomputable def runF (x:Sem Value):Option Value:=match pureRun E.prog (Sem.bind x fun v=>Sem.pure (Next.value v)) with
 | some (.value v)=>cond (isFlat v) (some v) none
 | _=>none
theorem sl_lo {l:Bs} {i:Nat} (h:i<=l.length):runF (Instr.sliceAt 9 (sV l) (some (.int .i64 (i:Int))) none none)=some (sV (l.drop i)):=by
 have h':0<=(i:Int)/\(i:Int)<=(⟨l.toArray⟩:ByteArray).size:=⟨by omega,by rw [sz];omega⟩
 have b:=bounds_lo (k:=.i64) h'
 have:runF (Instr.sliceAt 9 (sV l) (some (.int .i64 (i:Int))) none none)=runF (Sem.bind (Instr.sliceBounds false (⟨l.toArray⟩:ByteArray).size (⟨l.toArray⟩:ByteArray).size (some (.int .i64 (i:Int))) none none) fun r=>Sem.pure (.string ((⟨l.toArray⟩:ByteArray).extract r.1 r.2.1))):=by rfl
 rw [this,b]
 show some (Value.string ((⟨l.toArray⟩:ByteArray).extract i (⟨l.toArray⟩:ByteArray).size))=_
 rw [ex,sz,← List.length_drop,List.take_length]
theorem sl_hi {l:Bs} {i:Nat} (h:i<=l.length):runF (Instr.sliceAt 9 (sV l) none (some (.int .i64 (i:Int))) none)=some (sV (l.take i)):=by
 have h':0<=(i:Int)/\(i:Int)<=(⟨l.toArray⟩:ByteArray).size:=⟨by omega,by rw [sz];omega⟩
 have b:=bounds_hi (k:=.i64) h'
 have:runF (Instr.sliceAt 9 (sV l) none (some (.int .i64 (i:Int))) none)=runF (Sem.bind (Instr.sliceBounds false (⟨l.toArray⟩:ByteArray).size (⟨l.toArray⟩:ByteArray).size none (some (.int .i64 (i:Int))) none) fun r=>Sem.pure (.string ((⟨l.toArray⟩:ByteArray).extract r.1 r.2.1))):=by rfl
 rw [this,b]
 show some (Value.string ((⟨l.toArray⟩:ByteArray).extract 0 i))=_
 rw [ex,List.drop_zero,Nat.sub_zero]
theorem sl_add {l m:Bs} (h:l.length+m.length<=9223372036854775807):runF (Op.stringOp .add ⟨l.toArray⟩ ⟨m.toArray⟩)=some (sV (l++m)):=by
 have h':¬ (((⟨l.toArray⟩:ByteArray).size+(⟨m.toArray⟩:ByteArray).size:Nat):Int) > IntKind.i64.max:=by
  rw [sz,sz]
  show ¬ _ > (9223372036854775807:Int)
  omega
 have:Op.stringOp .add ⟨l.toArray⟩ ⟨m.toArray⟩=Sem.pure (.string ((⟨l.toArray⟩:ByteArray)++⟨m.toArray⟩)):=by
  show (if (((⟨l.toArray⟩:ByteArray).size+(⟨m.toArray⟩:ByteArray).size:Nat):Int) > IntKind.i64.max then _ else _)=_
  rw [if_neg h'];rfl
 rw [this,apB];rfl
theorem eqd {a b:Bs}:((⟨a.toArray⟩:ByteArray).toList==(⟨b.toArray⟩:ByteArray).toList)=decide (a=b):=by rw [tl,tl,Bool.eq_iff_iff];simp
theorem und9:und E 9=some .string:=by kernel_rfl
theorem ix9 {l:Bs} {i:Nat} (h:i<l.length):pIndex E 9 (some (sV l)) (some (.int .i64 (i:Int)))=some (.int .u8 (l[i].toNat:Int)):=by
 have e:pIndex E 9 (some (sV l)) (some (.int .i64 (i:Int)))=byteAt ⟨l.toArray⟩ (asNat (.int .i64 (i:Int))):=by simp only [pIndex,und9]
 rw [e]
 show (match lnth l i with|some b=>some (Value.int .u8 (b.toNat:Int))|none=>none)=_
 rw [lnth_eq,List.getElem?_eq_getElem h]
theorem ix9_0 {c:UInt8}:pIndex E 9 (some (sV [c])) (some (.int .i64 0))=some (.int .u8 (c.toNat:Int)):=ix9 (l:=[c]) (i:=0) (by simp)
def idxB (c:UInt8) (l:Bs):Int:=idxByte l c 0
theorem idx_cut (c:UInt8):∀ (l:Bs) (i:Nat),idxByte l c i=if (cutF c l).2.2=true then (((cutF c l).1.length+i:Nat):Int) else -1
 | [],i=>by simp [idxByte,cutF]
 | b::l,i=>by
  have ih:=idx_cut c l (i+1)
  by_cases h:b=c
  ·subst h
   simp [idxByte,cutF]
  ·have hb:Nat.beq b.toNat c.toNat=false:=beq_false fun e=>h (UInt8.toNat_inj.1 e)
   simp only [idxByte,hb,Bool.false_eq_true,if_false,ih,cutF,if_neg h,List.length_cons]
   congr 2
   omega
theorem cutF_len (c:UInt8):∀ (l:Bs),(cutF c l).2.2=true->l.take (cutF c l).1.length=(cutF c l).1/\l.drop ((cutF c l).1.length+1)=(cutF c l).2.1/\(cutF c l).1.length<l.length:=by
 intro l h
 obtain ⟨e,_⟩:=cutF_true h
 generalize (cutF c l).1=a at e
 generalize (cutF c l).2.1=b at e
 subst e
 refine ⟨by simp,?_,by simp⟩
 rw [show a++c::b=(a++[c])++b by simp,show a.length+1=(a++[c]).length by simp,List.drop_left]
theorem cutF_none (c:UInt8):∀ (l:Bs),(cutF c l).2.2=false->cutF c l=(l,[],false)
 | [],_=>rfl
 | b::l,h=>by
  by_cases e:b=c
  ·simp [cutF,e] at h
  ·simp only [cutF,if_neg e] at h ⊢
   rw [cutF_none c l h]
theorem kR_3 {t u x:Nat} {Rp:Value->AH->Prop} {ex:Ex} {v w y:Value} {h:AH}:KR E [.tmp t,.tmp u,.tmp x] Rp ex [v,w,y] h=(notExit ex=true/\Rp (.tuple #[v,w,y]) h):=by
 simp only [KR,resOf,evO_some,res1]
theorem call284 {l:Bs} {c:UInt8} {k:AH}:(recI E).call 284 [sV l,.int .u8 (c.toNat:Int)] k=some [(.int .i64 (idxB c l),k)]:=by
 have h1:(recN E 1).call 284 [sV l,.int .u8 (c.toNat:Int)] k=some [(.int .i64 (idxByte l (UInt8.ofNat (c.toNat:Int).toNat) 0),k)]:=by kernel_rfl
 rw [show UInt8.ofNat (c.toNat:Int).toNat=c by simp] at h1
 exact (recI_call E).2 ⟨1,h1⟩
theorem call275 {l:Bs} {c:UInt8} {k:AH} (hok:k.ok):(recI E).call 275 [sV l,.int .u8 (c.toNat:Int)] k=some [(.int .i64 (idxB c l),k)]:=by
 refine F275_flat1 hok rfl (P275_0_of ?_)
 refine P275_1_of ?_
 simp only [wCall_0,call284,ev_some]
 rw [kR_1]
 exact ⟨ne_ret ▸ trivial,rfl,by rw [wm_fresh];omega⟩
theorem len260 {c:UInt8} {h:AH}:evRead E (tmOf [(14,sV [c])]) (opAt B260 [1,0] 1) h=some (.int .i64 1):=by kernel_rfl
theorem eq260 {a b:Bs}:evPure E (tmOf [(20,sV a),(21,sV b)]) (opAt B260 [1,1,0,0,0] 5)=some (.bool (decide (a=b))):=by
 rw [← eqd];kernel_rfl
theorem idx_self {c:UInt8}:idxB c [c]=0:=by simp [idxB,idxByte]
theorem call260 {l:Bs} {c:UInt8} {k:AH} (hok:k.ok):(recI E).call 260 [sV l,sV [c]] k=some [(.int .i64 (idxB c l),k)]:=by
 refine F260_flat1 hok rfl (P260_0_of ?_)
 refine P260_1_of ?_
 rw [len260,evO_some]
 refine P260_2_of ?_
 simp only [bf_eql,evO_some,show decide ((1:Int)=0)=false from rfl,gdB_bool,beq_self_eq_true,cond_true,eq260,pick_bool,cond_false]
 by_cases hc:[c]=l
 ·subst hc
  simp only [decide_true,brK_t]
  refine P260_3_of ?_
  rw [kR_1]
  exact ⟨ne_ret ▸ trivial,by rw [idx_self],by rw [wm_fresh];omega⟩
 ·simp only [decide_eq_false hc,brK_f]
  refine P260_4_of ?_
  simp only [bf_eql,evO_some,decide_true,brK_t]
  refine P260_5_of ?_
  simp only [ix9_0,evO_some,wCall_0,call275 (ok_fresh k),ev_some]
  rw [kR_1]
  exact ⟨ne_ret ▸ trivial,rfl,by rw [wm_fresh];omega⟩
theorem hi227 {l:Bs} {i:Nat} (h:i<=l.length):evPure E (tmOf [(13,sV l),(14,.int .i64 (i:Int))]) (opAt B227 [1,0,1,1,0,0] 2)=some (sV (l.take i)):=by
 rw [← sl_hi h];kernel_rfl
theorem lo227 {l:Bs} {i:Nat} (h:i<=l.length):evPure E (tmOf [(16,sV l),(20,.int .i64 (i:Int))]) (opAt B227 [1,0,1,1,0,0] 8)=some (sV (l.drop i)):=by
 rw [← sl_lo h];kernel_rfl
theorem len227 {c:UInt8} {h:AH}:evRead E (tmOf [(18,sV [c])]) (opAt B227 [1,0,1,1,0,0] 6) h=some (.int .i64 1):=by kernel_rfl
abbrev cutV (c:UInt8) (l:Bs):Value:=.tuple #[sV (cutF c l).1,sV (cutF c l).2.1,.bool (cutF c l).2.2]
theorem call227 {l:Bs} {c:UInt8} {k:AH} (hok:k.ok) (hl:l.length<=1000000):(recI E).call 227 [sV l,sV [c]] k=some [(cutV c l,k)]:=by
 refine F227_flat1 hok rfl (P227_0_of ?_)
 refine P227_1_of ?_
 simp only [wCall_0,call260 (ok_fresh k),ev_some]
 refine P227_2_of ?_
 have hi:idxB c l=_:=idx_cut c l 0
 rw [hi]
 cases hc:(cutF c l).2.2 with
 | true=>
  obtain ⟨h1,h2,h3⟩:=cutF_len c l hc
  simp only [if_true,bf_geq,evO_some,Nat.add_zero,show decide ((0:Int)<=(((cutF c l).1.length:Nat):Int))=true from decide_eq_true (by omega),brK_t]
  refine P227_3_of ?_
  rw [hi227 (by omega),evO_some,len227,evO_some,bf_add _ ⟨by omega,by omega⟩,evO_some,show (((cutF c l).1.length:Nat):Int)+1=(((cutF c l).1.length+1:Nat):Int) by omega,lo227 (by omega),evO_some,kR_3,h1,h2]
  exact ⟨ne_ret ▸ trivial,by show _=Value.tuple #[_,_,.bool (cutF c l).2.2];rw [hc],by rw [wm_fresh];omega⟩
 | false=>
  simp only [Bool.false_eq_true,if_false,bf_geq,evO_some,show decide ((0:Int) ≤ -1)=false from rfl,brK_f]
  refine P227_4_of ?_
  rw [kR_3]
  refine ⟨ne_ret ▸ trivial,?_,by rw [wm_fresh];omega⟩
  show _=Value.tuple #[sV (cutF c l).1,sV (cutF c l).2.1,.bool (cutF c l).2.2]
  rw [cutF_none c l hc]
theorem ext3 {a b c:Value}:pExtract 0 (some (.tuple #[a,b,c]))=some a/\pExtract 1 (some (.tuple #[a,b,c]))=some b/\pExtract 2 (some (.tuple #[a,b,c]))=some c:=⟨rfl,rfl,rfl⟩
theorem ext2 {a b:Value}:pExtract 0 (some (.tuple #[a,b]))=some a/\pExtract 1 (some (.tuple #[a,b]))=some b:=⟨rfl,rfl⟩
theorem call183 {l:Bs} {c:UInt8} {k:AH} (hok:k.ok) (hl:l.length<=1000000):(recI E).call 183 [sV l,sV [c]] k=some [(cutV c l,k)]:=by
 refine F183_flat1 hok rfl (P183_0_of ?_)
 refine P183_1_of ?_
 simp only [wCall_0,call227 (ok_fresh k) hl,ev_some,ext3.1,ext3.2.1,ext3.2.2,evO_some]
 rw [kR_3]
 exact ⟨ne_ret ▸ trivial,rfl,by rw [wm_fresh];omega⟩
theorem call263 {l:Bs} {c:UInt8} {k:AH} (hok:k.ok):(recI E).call 263 [sV l,sV [c]] k=some [(.int .i64 (idxB c l),k)]:=by
 refine F263_flat1 hok rfl (P263_0_of ?_)
 refine P263_1_of ?_
 simp only [wCall_0,call260 (ok_fresh k),ev_some]
 rw [kR_1]
 exact ⟨ne_ret ▸ trivial,rfl,by rw [wm_fresh];omega⟩
theorem len228a {l:Bs} {h:AH}:evRead E (tmOf [(5,sV l)]) (opAt B228 [1,0] 1) h=some (.int .i64 (l.length:Int)):=by
 rw [← sz];kernel_rfl
theorem len228b {c:UInt8} {h:AH}:evRead E (tmOf [(7,sV [c])]) (opAt B228 [1,0] 3) h=some (.int .i64 1):=by kernel_rfl
theorem len228c {c:UInt8} {h:AH}:evRead E (tmOf [(12,sV [c])]) (opAt B228 [1,0] 8) h=some (.int .i64 1):=by kernel_rfl
theorem hi228 {l:Bs} (h:1<=l.length):evPure E (tmOf [(11,sV l),(13,.int .i64 1)]) (opAt B228 [1,0] 9)=some (sV (l.take 1)):=by
 rw [← sl_hi h];kernel_rfl
theorem eq228 {a b:Bs}:evPure E (tmOf [(14,sV a),(15,sV b)]) (opAt B228 [1,0] 11)=some (.bool (decide (a=b))):=by
 rw [← eqd];kernel_rfl
def hasP (c:UInt8) (l:Bs):Bool:=decide (l.head?=some c)
theorem call228 {l:Bs} {c:UInt8} {k:AH} (hok:k.ok):(recI E).call 228 [sV l,sV [c]] k=some [(.bool (hasP c l),k)]:=by
 refine F228_flat1 hok rfl (P228_0_of ?_)
 refine P228_1_of ?_
 rw [len228a,evO_some,len228b,evO_some,bf_geq,evO_some]
 cases l with
 | nil=>
  simp only [List.length_nil,show decide ((1:Int)<=((0:Nat):Int))=false from rfl,gdB_bool,show (false==true)=false from rfl,cond_false,evO_some,pick_bool]
  rw [kR_1]
  exact ⟨ne_ret ▸ trivial,rfl,by rw [wm_fresh];omega⟩
 | cons b l=>
  simp only [show decide ((1:Int)<=(((b::l).length:Nat):Int))=true from decide_eq_true (by simp;omega),gdB_bool,beq_self_eq_true,cond_true,evO_some,len228c,hi228 (l:=b::l) (by simp),eq228,pick_bool]
  rw [kR_1]
  exact ⟨ne_ret ▸ trivial,by simp [hasP],by rw [wm_fresh];omega⟩
theorem call185 {l:Bs} {c:UInt8} {k:AH} (hok:k.ok):(recI E).call 185 [sV l,sV [c]] k=some [(.bool (hasP c l),k)]:=by
 refine F185_flat1 hok rfl (P185_0_of ?_)
 refine P185_1_of ?_
 simp only [wCall_0,call228 (ok_fresh k),ev_some]
 rw [kR_1]
 exact ⟨ne_ret ▸ trivial,rfl,by rw [wm_fresh];omega⟩
def numR (w:Bs):Int×Bool:=
 if w=[]\/7<w.length\/(w.head?=some 48/\1<w.length) then (0,false) else if w.all digB=true then ((valD 0 w:Nat),decide (valD 0 w<=1000000)) else (0,false)
theorem numR_eq (w:Bs):numF w=if (numR w).2=true then some (numR w).1.toNat else none:=by
 unfold numF numR
 split
 ·simp
 ·by_cases h:w.all digB=true
  ·simp only [h,true_and,if_true]
   by_cases h2:valD 0 w<=1000000
   ·simp only [h2,if_true,decide_true,Int.toNat_natCast]
   ·simp [h2]
  ·simp [h]
theorem e184 {l:Bs}:evPure E (tmOf [(6,sV l)]) (opAt B184 [1,0,0] 1)=some (.bool (decide (l=[]))):=by
 rw [← eqd];kernel_rfl
theorem len184a {l:Bs} {h:AH}:evRead E (tmOf [(9,sV l)]) (opAt B184 [1,0,0] 4) h=some (.int .i64 (l.length:Int)):=by
 rw [← sz];kernel_rfl
theorem len184b {l:Bs} {h:AH}:evRead E (tmOf [(18,sV l)]) (opAt B184 [1,0,0] 13) h=some (.int .i64 (l.length:Int)):=by
 rw [← sz];kernel_rfl
theorem len184c {l:Bs} {h:AH}:evRead E (tmOf [(23,sV l)]) (opAt B184 [1,1,1,0,0] 1) h=some (.int .i64 (l.length:Int)):=by
 rw [← sz];kernel_rfl
theorem b8_lss (t:TypeId) (a b:Int):binFast E .lss t (.int .u8 a) (.int .u8 b)=some (.bool (decide (a<b))):=by
 show some (Value.bool (!ile b a))=_
 rw [ile_iff];congr 2
 by_cases h:a<b
 ·rw [decide_eq_true h,decide_eq_false (by omega)];rfl
 ·rw [decide_eq_false h,decide_eq_true (by omega)];rfl
theorem b8_gtr (t:TypeId) (a b:Int):binFast E .gtr t (.int .u8 a) (.int .u8 b)=some (.bool (decide (b<a))):=by
 show some (Value.bool (!ile a b))=_
 rw [ile_iff];congr 2
 by_cases h:b<a
 ·rw [decide_eq_true h,decide_eq_false (by omega)];rfl
 ·rw [decide_eq_false h,decide_eq_true (by omega)];rfl
theorem b8_eql (t:TypeId) (a b:Int):binFast E .eql t (.int .u8 a) (.int .u8 b)=some (.bool (decide (a=b))):=by
 show some (Value.bool (ieq a b))=_
 rw [ieq_iff];rfl
theorem b8_sub {n:Nat} (h:n<=9):binFast E .sub 5 (.int .u8 ((48+n:Nat):Int)) (.int .u8 48)=some (.int .u8 (n:Int)):=by
 have:n=0\/n=1\/n=2\/n=3\/n=4\/n=5\/n=6\/n=7\/n=8\/n=9:=by omega
 rcases this with rfl|rfl|rfl|rfl|rfl|rfl|rfl|rfl|rfl|rfl <;> show _=_ <;> kernel_rfl
theorem cv184 {n:Nat} {k:AH} (h:n<=9):evRead E (tmOf [(43,.int .u8 (n:Int))]) (opAt B184 [1,1,1,0,1,0,0,1,1,0,0,1,1] 6) k=some (.int .i64 (n:Int)):=by
 have:n=0\/n=1\/n=2\/n=3\/n=4\/n=5\/n=6\/n=7\/n=8\/n=9:=by omega
 rcases this with rfl|rfl|rfl|rfl|rfl|rfl|rfl|rfl|rfl|rfl <;> show _=_ <;> kernel_rfl
abbrev numV (w:Bs):Value:=.tuple #[.int .i64 (numR w).1,.bool (numR w).2]
theorem call184 {l:Bs} {k:AH} (hok:k.ok) (hl:l.length<=1000000):(recI E).call 184 [sV l] k=some [(numV l,k)]:=by
 refine F184_flat1 hok rfl (P184_0_of ?_)
 refine P184_1_of ?_
 have tf:(true==false)=false:=rfl
 have ft:(false==true)=false:=rfl
 have bad:numR l=(0,false)->PI (C184 true) (KR E [.tmp 2,.tmp 3] fun x h=>x=numV l/\k.next<=h.wm) 2 [] k.fresh:=fun e=>P184_2_of (by
  rw [kR_2]
  exact ⟨ne_ret ▸ trivial,by show _=Value.tuple #[.int .i64 (numR l).1,.bool (numR l).2];rw [e],by rw [wm_fresh];omega⟩)
 rw [e184,evO_some]
 by_cases h0:l=[]
 ·simp only [decide_eq_true h0,gdB_bool,tf,cond_false,evO_some,pick_bool,cond_true,ft,brK_t]
  exact bad (by unfold numR;rw [if_pos (.inl h0)])
 have hpos:0<l.length:=List.length_pos_iff.2 h0
 simp only [decide_eq_false h0,gdB_bool,beq_self_eq_true,cond_true,evO_some,len184a,bf_gtr,pick_bool,cond_false]
 by_cases h1:7<l.length
 ·simp only [show decide ((7:Int)<(l.length:Int))=true from decide_eq_true (by omega),gdB_bool,tf,cond_false,evO_some,pick_bool,cond_true,ft,brK_t]
  exact bad (by unfold numR;rw [if_pos (.inr (.inl h1))])
 have ix0:=ix9 (l:=l) (i:=0) hpos
 simp only [show decide ((7:Int)<(l.length:Int))=false from decide_eq_false (by omega),gdB_bool,beq_self_eq_true,cond_true,evO_some,pick_bool,cond_false]
 rw [show pIndex E 9 (some (sV l)) (some (.int .i64 0))=_ from ix0,evO_some,b8_eql,evO_some]
 have hd:l.head?=some l[0]:=by
  cases l with
  | nil=>exact absurd rfl h0
  | cons b l=>rfl
 have main:¬ (l.head?=some 48/\1<l.length)->PI (C184 true) (KR E [.tmp 2,.tmp 3] fun x h=>x=numV l/\k.next<=h.wm) 3 [sV l] k.fresh:=by
  intro h2
  have hn:numR l=if l.all digB=true then (((valD 0 l:Nat):Int),decide (valD 0 l<=1000000)) else (0,false):=by
   unfold numR
   rw [if_neg fun h=>h.elim h0 fun h=>h.elim h1 h2]
  refine P184_3_of (P184_4_of ?_)
  rw [len184c,evO_some]
  have bad8:l.all digB=false->PI (C184 true) (KR E [.tmp 2,.tmp 3] fun x h=>x=numV l/\k.next<=h.wm) 8 [] k.fresh:=fun e=>P184_8_of (by
   rw [kR_2]
   exact ⟨ne_ret ▸ trivial,by show _=Value.tuple #[.int .i64 (numR l).1,.bool (numR l).2];rw [hn,e];rfl,by rw [wm_fresh];omega⟩)
  have loop:∀ (m i a:Nat),i+m=l.length->a<10 ^ i->l.all digB=(l.drop i).all digB->valD 0 l=valD a (l.drop i)->PI (C184 true) (KR E [.tmp 2,.tmp 3] fun x h=>x=numV l/\k.next<=h.wm) 5 [sV l,.int .i64 (a:Int),.int .i64 (l.length:Int),.int .i64 (i:Int)] k.fresh:=by
   intro m
   induction m with
   | zero=>
    intro i a hi ha e1 e2
    refine P184_5_of ?_
    rw [bf_lss,evO_some,decide_eq_false (by omega),brK_f]
    refine P184_11_of ?_
    rw [bf_leq,evO_some,kR_2]
    rw [List.drop_of_length_le (by omega)] at e1 e2
    refine ⟨ne_ret ▸ trivial,?_,by rw [wm_fresh];omega⟩
    show _=Value.tuple #[.int .i64 (numR l).1,.bool (numR l).2]
    rw [hn,e1,e2]
    rw [show ([]:Bs).all digB=true from rfl,if_pos rfl,show valD a []=a from rfl]
    rw [decide_eq_decide.2 (show ((a:Int)<=1000000) ↔ (a<=1000000) by omega)]
   | succ m ih=>
    intro i a hi ha e1 e2
    have hin:i<l.length:=by omega
    have hp:10 ^ i<=10 ^ 6:=Nat.pow_le_pow_right (by omega) (by omega)
    have ixi:=ix9 (l:=l) (i:=i) hin
    rw [List.drop_eq_getElem_cons hin] at e1 e2
    refine P184_5_of ?_
    rw [bf_lss,evO_some,decide_eq_true (by omega),brK_t]
    refine P184_6_of (P184_7_of ?_)
    simp only [ixi,evO_some,b8_lss]
    generalize hb:l[i]=b at e1 e2 ixi
    simp only [List.all_cons] at e1
    by_cases c1:b.toNat<48
    ·simp only [show decide ((b.toNat:Int)<48)=true from decide_eq_true (by omega),gdB_bool,tf,cond_false,evO_some,pick_bool,cond_true,brK_t]
     exact bad8 (by rw [e1];simp [digB];omega)
    simp only [show decide ((b.toNat:Int)<48)=false from decide_eq_false (by omega),gdB_bool,beq_self_eq_true,cond_true,evO_some,ixi,b8_gtr,pick_bool,cond_false]
    by_cases c2:57<b.toNat
    ·simp only [show decide ((57:Int)<(b.toNat:Int))=true from decide_eq_true (by omega),brK_t]
     exact bad8 (by rw [e1];simp [digB];omega)
    simp only [show decide ((57:Int)<(b.toNat:Int))=false from decide_eq_false (by omega),brK_f]
    refine P184_9_of ?_
    obtain ⟨d,hd1,hd2⟩:∃ d,b.toNat=48+d/\d<=9:=⟨b.toNat-48,by omega,by omega⟩
    have hdig:digB b=true:=by simp [digB];omega
    have e3:((a*10+d:Nat):Int)=(a:Int)*10+(d:Int):=by omega
    rw [bf_mul _ ⟨by omega,by omega⟩,evO_some,ixi,evO_some,hd1,b8_sub hd2,evO_some,cv184 hd2,evO_some,bf_add _ ⟨by omega,by omega⟩,evO_some,← e3]
    refine P184_10_of ?_
    rw [bf_add _ ⟨by omega,by omega⟩,evO_some,show (i:Int)+1=((i+1:Nat):Int) by omega]
    refine ih (i+1) (a*10+d) (by omega) (by rw [Nat.pow_succ];omega) (by rw [e1,hdig,Bool.true_and]) ?_
    rw [e2]
    show valD (a*10+(b.toNat-48)) _=_
    rw [hd1,show 48+d-48=d by omega]
  exact loop l.length 0 0 (by omega) (by omega) (by rw [List.drop_zero]) (by rw [List.drop_zero])
 have h48:(l[0].toNat:Int)=48 ↔ l.head?=some 48:=by
  rw [hd]
  constructor
  ·intro e
   rw [show l[0]=48 from UInt8.toNat_inj.1 (by show l[0].toNat=48;omega)]
  ·intro e
   rw [Option.some.inj e];rfl
 by_cases h2:(l[0].toNat:Int)=48
 ·simp only [decide_eq_true h2,gdB_bool,beq_self_eq_true,cond_true,evO_some,len184b,bf_gtr,pick_bool]
  by_cases h3:1<l.length
  ·simp only [show decide ((1:Int)<(l.length:Int))=true from decide_eq_true (by omega),brK_t]
   exact bad (by unfold numR;rw [if_pos (.inr (.inr ⟨h48.1 h2,h3⟩))])
  ·simp only [show decide ((1:Int)<(l.length:Int))=false from decide_eq_false (by omega),brK_f]
   exact main fun h=>h3 h.2
 ·simp only [decide_eq_false h2,gdB_bool,ft,cond_false,evO_some,pick_bool,brK_f]
  exact main fun h=>h2 (h48.2 h.1)
end Go.Proofs
