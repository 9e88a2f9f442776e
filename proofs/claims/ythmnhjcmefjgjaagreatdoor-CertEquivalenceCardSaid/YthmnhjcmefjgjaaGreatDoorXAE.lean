import Derived.Test.YthmnhjcmefjgjaaGreatDoorXAD
set_option linter.all false
set_option linter.unusedSectionVars false
set_option autoImplicit true
set_option relaxedAutoImplicit true
namespace Go.Proofs
open Go Go.AM
set_option maxRecDepth 100000
variable {s:Bool} {K:KF} {h:AH} {a:Option Addr} {n c:Nat} {b d e f g i j k l m o p q r t u w x y z A B C D F G J L M N O Q S U V W X Y Z v v0 v1 v2 v3 v4 v5 v6 v7 v8 v9 v10 v11 v12 v13 v14 v16 v17 v18 v19 v22 v23 v24 v25 v26 v27 v29 v30 v31 v32 v34 v35 v36 v50 v51 v52 v56 v57 v58 v64 v65 v66:Value} {h1:AH} {Rp:Value->AH->Prop}
noncomputable def B14:Code:=zh Tryz.f14
noncomputable def C14 (s:Bool):Cx:=⟨E,s,none,B14,[([0],[0]),([1,0],[0]),([1,1,0,0],[0,3]),([1,1,0,1,0,0,0],[3,8,9,10]),([1,1,0,1,0,0,1,1,0,0,0],[3,8,9,10]),([1,1,0,1,0,0,1,1,0,0,1,0,0],[3,5,8,9,10]),([1,1,0,1,0,0,1,1,0,0,1,0,1,0,0],[]),([1,1,0,1,0,0,1,1,0,0,1,1,0],[3,5,8,9,10]),([1,1,0,1,0,0,1,1,0,0,1,1,1,0,0,0],[3,8,9,10,30,31,32]),([1,1,0,1,0,0,1,1,0,0,1,1,1,0,0,1,1,0,0,0],[3,8,9,10,30,31,32]),([1,1,0,1,0,0,1,1,0,0,1,1,1,0,0,1,1,0,0,1,0],[3,7,8,9,10,30,31,32]),([1,1,0,1,0,0,1,1,0,0,1,1,1,0,0,1,1,0,0,1,1,0,0],[]),([1,1,0,1,0,0,1,1,0,0,1,1,1,0,0,1,1,1],[3,8,9,10,30,31,32]),([1,1,0,1,0,0,1,1,1],[3,8,9,10]),([1,1,1,0],[])],[2],[]⟩
abbrev zql (s:Bool) (K:KF) (d e f b:Value) (h:AH):Prop:=PI (C14 s) K 3 [d,e,f,b] h
abbrev zqk (s:Bool) (K:KF) (h:AH):Prop:=PI (C14 s) K 6 [] h
abbrev zqj (s:Bool) (K:KF) (g i j b d e f:Value) (h:AH):Prop:=PI (C14 s) K 8 [g,i,j,b,d,e,f] h
def zgE (H :
 PI (C14 s) K 1 [b] h):PI (C14 s) K 0 [b] h:=zB H
def zgD (H :
 Ev s (zS 3 h (z8 E 3)) fun b=>
 Ev s (zf E 3 b.2 b.1 (some (iI 2000))) fun e=>
 PI (C14 s) K 2 [d,b.1] e.2):PI (C14 s) K 1 [d] h:=zB H
def zgC (H :
 EvO (zN E (zk [(8,b)]) (zo B14 [1,1,0,0] 1) h) fun e=>
 PI (C14 s) K 3 [d,b,e,(iI 0)] h):PI (C14 s) K 2 [b,d] h:=zB H
theorem zTs:zN E (zk [(8,.slice a n c)]) (zo B14 [1,1,0,0] 1) h=some (iI (n:Int)):=by cases a <;> kernel_rfl
def zPb (H :
 EvO (zC E .lss 3 b d) fun g=>
 BrK g (PI (C14 s) K 4 [e,f,d,b] h) (PI (C14 s) K 14 [] h)):PI (C14 s) K 3 [e,f,d,b] h:=zB H
def zgB (H :
 EvO (zE E 82 e b) fun i=>
 EvO (zG E 25 h i) fun j=>
 Ev s (zS 25 h (z8 E 25)) fun d=>
 Ev s (zf E 25 d.2 d.1 j) fun k=>
 PI (C14 s) K 5 [f,d.1,e,g,b] k.2):PI (C14 s) K 4 [f,e,g,b] h:=zB H
def zgA (H :
 EvO (zD E 25 0 e) fun q=>
 EvO (zG E 3 h q) fun r=>
 EvO (zC E .gtr 3 r (iI 60)) fun b=>
 EvO (gdB b false (zD E 25 2 e)) fun t=>
 EvO (gdB b false (zG E 23 h t)) fun u=>
 EvO (gdB b false (zN E (zk [(19,u)]) (zo B14 [1,1,0,1,0,0,1,1,0,0,1,0,0] 6) h)) fun w=>
 EvO (gdB b false (zC E .gtr 3 w (iI 300))) fun x=>
 EvO (zAB b (some (.bool true)) x) fun d=>
 EvO (gdB d false (zD E 25 1 e)) fun g=>
 EvO (gdB d false (zG E 22 h g)) fun i=>
 EvO (gdB d false (zN E (zk [(25,i)]) (zo B14 [1,1,0,1,0,0,1,1,0,0,1,0,0] 12) h)) fun j=>
 EvO (gdB d false (zC E .gtr 3 j (iI 60))) fun k=>
 EvO (zAB d (some (.bool true)) k) fun l=>
 BrK l (PI (C14 s) K 6 [] h) (PI (C14 s) K 7 [m,e,o,p,f] h)):PI (C14 s) K 5 [m,e,o,p,f] h:=zB H
theorem zTr:zN E (zk [(19,.slice a n c)]) (zo B14 [1,1,0,1,0,0,1,1,0,0,1,0,0] 6) h=some (iI (n:Int)):=by cases a <;> kernel_rfl
theorem zQN:zN E (zk [(25,.slice a n c)]) (zo B14 [1,1,0,1,0,0,1,1,0,0,1,0,0] 12) h=some (iI (n:Int)):=by cases a <;> kernel_rfl
def zf9 (H :
 K .ret [(.bool false)] h):PI (C14 s) K 6 [] h:=zB H
def zf8 (H :
 EvO (zD E 25 1 f) fun j=>
 EvO (zG E 22 h j) fun d=>
 EvO (zN E (zk [(30,d)]) (zo B14 [1,1,0,1,0,0,1,1,0,0,1,1,0] 2) h) fun k=>
 PI (C14 s) K 8 [e,g,i,b,d,k,(iI 0)] h):PI (C14 s) K 7 [e,f,g,i,b] h:=zB H
theorem zTq:zN E (zk [(30,.slice a n c)]) (zo B14 [1,1,0,1,0,0,1,1,0,0,1,1,0] 2) h=some (iI (n:Int)):=by cases a <;> kernel_rfl
def zPa (H :
 EvO (zC E .lss 3 e d) fun k=>
 BrK k (PI (C14 s) K 9 [g,i,j,b,f,d,e] h) (PI (C14 s) K 13 [g,i,j,b] h)):PI (C14 s) K 8 [g,i,j,b,f,d,e] h:=zB H
def zf7 (H :
 EvO (zE E 22 b d) fun l=>
 EvO (zG E 36 h l) fun m=>
 Ev s (zS 36 h (z8 E 36)) fun g=>
 Ev s (zf E 36 g.2 g.1 m) fun o=>
 PI (C14 s) K 10 [i,g.1,j,k,e,b,f,d] o.2):PI (C14 s) K 9 [i,j,k,e,b,f,d] h:=zB H
def zZm (H :
 EvO (zD E 36 1 j) fun m=>
 EvO (zG E 34 h m) fun o=>
 Ev s (zR (zY E) (some (.func (.func 69) #[] #[])) (some [o,i,(iI 1)]) h) fun g=>
 EvO (zAW .not g.1) fun p=>
 BrK p (PI (C14 s) K 11 [] g.2) (PI (C14 s) K 12 [i,k,l,b,d,e,f] g.2)):PI (C14 s) K 10 [i,j,k,l,b,d,e,f] h:=zB H
def zZl (H :
 K .ret [(.bool false)] h):PI (C14 s) K 11 [] h:=zB H
def zZk (H :
 EvO (zC E .add 3 f (iI 1)) fun k=>
 PI (C14 s) K 8 [g,i,j,b,d,e,k] h):PI (C14 s) K 12 [g,i,j,b,d,e,f] h:=zB H
def zZj (H :
 EvO (zC E .add 3 b (iI 1)) fun g=>
 PI (C14 s) K 3 [d,e,f,g] h):PI (C14 s) K 13 [d,e,f,b] h:=zB H
def zZi (H :
 K .ret [(.bool true)] h):PI (C14 s) K 14 [] h:=zB H
theorem zcn {Rp:Value->Prop} (aa:h.ok) (H:PI (C14 true) (KR E [.tmp 2] fun x k=>(zi x=true/\Rp x)/\h.next<=k.wm) 0 [v0] h.fresh):∃ v,Rp v/\(zY E).call 14 [v0] h=some [(v,h)]:=zDT Tryz.f14 aa (zAA (C14 true) H)
noncomputable def B15:Code:=zh Tryz.f15
noncomputable def C15 (s:Bool):Cx:=⟨E,s,none,B15,[([0],[0,1,2]),([1,0,0],[3,4,5]),([1,0,1,0],[3,4,5,7]),([1,0,1,1,0,0],[7]),([1,1,0,0],[3,4,5]),([1,1,0,1,0],[3,4,5,8]),([1,1,0,1,1,0,0],[8]),([1,1,1,0,0],[3,4,5]),([1,1,1,0,1,0,0],[]),([1,1,1,1,0],[])],[6],[]⟩
def zf6 (H :
 Ev s (zS 25 h f) fun b=>
 Ev s (zS 25 b.2 g) fun d=>
 Ev s (zS 32 d.2 i) fun e=>
 PI (C15 s) K 1 [b.1,d.1,e.1] e.2):PI (C15 s) K 0 [f,g,i] h:=zB H
def zf5 (H :
 EvO (zG E 25 h b) fun i=>
 EvO (zG E 25 h d) fun j=>
 Ev s (zd E 82 2 (some [(0,i),(1,j)]) h) fun e=>
 Ev s (zR (zY E) (some (.func (.func 70) #[] #[])) [e.1] e.2) fun f=>
 PI (C15 s) K 2 [b,d,g,f.1] f.2):PI (C15 s) K 1 [b,d,g] h:=zB H
def zf4 (H :
 EvO (zC E .neq 29 b (iI 0)) fun g=>
 BrK g (PI (C15 s) K 3 [b] h) (PI (C15 s) K 4 [d,e,f] h)):PI (C15 s) K 2 [d,e,f,b] h:=zB H
def zf3 (H :
 K .ret [b] h):PI (C15 s) K 3 [b] h:=zB H
def zf2 (H :
 EvO (zG E 32 h b) fun i=>
 Ev s (zd E 83 1 (some [(0,i)]) h) fun d=>
 Ev s (zR (zY E) (some (.func (.func 71) #[] #[])) [d.1] d.2) fun e=>
 PI (C15 s) K 5 [f,g,b,e.1] e.2):PI (C15 s) K 4 [f,g,b] h:=zB H
def zf1 (H :
 EvO (zC E .neq 29 b (iI 0)) fun g=>
 BrK g (PI (C15 s) K 6 [b] h) (PI (C15 s) K 7 [d,e,f] h)):PI (C15 s) K 5 [d,e,f,b] h:=zB H
def zf0 (H :
 K .ret [b] h):PI (C15 s) K 6 [b] h:=zB H
def zfz (H :
 EvO (zG E 25 h d) fun g=>
 EvO (zG E 25 h e) fun i=>
 EvO (zG E 32 h f) fun j=>
 Ev s (zR (zY E) (some (.func (.func 72) #[] #[])) [g,i,j] h) fun b=>
 EvO (zAW .not b.1) fun k=>
 BrK k (PI (C15 s) K 8 [] b.2) (PI (C15 s) K 9 [] b.2)):PI (C15 s) K 7 [d,e,f] h:=zB H
def zfy (H :
 K .ret [(iI 360)] h):PI (C15 s) K 8 [] h:=zB H
def zfx (H :
 K .ret [(iI 0)] h):PI (C15 s) K 9 [] h:=zB H
theorem zgn (aa:h.ok) (hv:zt v=true) (H:PI (C15 s) (KR E [.tmp 6] fun x k=>x=v/\h.next<=k.wm) 0 [v0,v1,v2] h.fresh):(zY E).call 15 [v0,v1,v2] h=some [(v,h)]:=zA3 Tryz.f15 aa hv (zAA (C15 s) H)
noncomputable def B69:Code:=zh Tryz.f69
noncomputable def C69 (s:Bool):Cx:=⟨E,s,none,B69,[([0],[0,1,2]),([1,0,0],[0,1,2]),([1,0,1,0,0,0],[1,2,9,10,11]),([1,0,1,0,0,1,1,0,0,0],[1,2,9,10,11]),([1,0,1,0,0,1,1,0,0,1,0],[1,2,8,9,10,11]),([1,0,1,0,0,1,1,0,0,1,1,0],[1,2,8,9,10,11]),([1,0,1,0,0,1,1,0,0,1,1,1,0,0],[]),([1,0,1,0,0,1,1,1],[1,2,9,10,11]),([1,1,0],[])],[6],[]⟩
abbrev zqg (s:Bool) (K:KF) (e f g b d:Value) (h:AH):Prop:=PI (C69 s) K 2 [e,f,g,b,d] h
abbrev zqf (s:Bool) (K:KF) (h:AH):Prop:=PI (C69 s) K 6 [] h
def zPV (H :
 PI (C69 s) K 1 [b,d,e] h):PI (C69 s) K 0 [b,d,e] h:=zB H
def zPU (H :
 EvO (zN E (zk [(9,b)]) (zo B69 [1,0,0] 1) h) fun f=>
 PI (C69 s) K 2 [d,e,b,f,(iI 0)] h):PI (C69 s) K 1 [b,d,e] h:=zB H
theorem zK9:zN E (zk [(9,.slice a n c)]) (zo B69 [1,0,0] 1) h=some (iI (n:Int)):=by cases a <;> kernel_rfl
def zKT (H :
 EvO (zC E .lss 3 d b) fun i=>
 BrK i (PI (C69 s) K 3 [e,f,g,b,d] h) (PI (C69 s) K 8 [] h)):PI (C69 s) K 2 [e,f,g,b,d] h:=zB H
def zfB (H :
 EvO (zE E 34 f b) fun j=>
 EvO (zG E 173 h j) fun k=>
 Ev s (zS 173 h (z8 E 173)) fun e=>
 Ev s (zf E 173 e.2 e.1 k) fun l=>
 PI (C69 s) K 4 [g,i,e.1,f,d,b] l.2):PI (C69 s) K 3 [g,i,f,d,b] h:=zB H
def zfA (H :
 EvO (zv b) fun j=>
 EvO (zG E 3 h j) fun k=>
 EvO (zC E .sub 3 k (iI 1)) fun l=>
 EvO (zv b) fun m=>
 Ev s (zf E 3 h m l) fun o=>
 PI (C69 s) K 5 [b,f,g,i,d,e] o.2):PI (C69 s) K 4 [b,f,g,i,d,e] h:=zB H
def ze9 (H :
 EvO (zv e) fun u=>
 EvO (zG E 3 h u) fun w=>
 EvO (zC E .lss 3 w (iI 0)) fun q=>
 EvO (gdB q false i) fun x=>
 EvO (gdB q false (zC E .gtr 3 x (iI 100))) fun y=>
 EvO (zAB q (some (.bool true)) y) fun b=>
 EvO (gdB b false (zD E 173 2 r)) fun z=>
 EvO (gdB b false (zG E 34 h z)) fun j=>
 EvO (gdB b false e) fun k=>
 EvO (gdB b false i) fun l=>
 EvO (gdB b false (zC E .add 3 l (iI 1))) fun m=>
 Ev s (gdW b false (zR (zY E) (some (.func (.func 69) #[] #[])) [j,k,m] h) h) fun d=>
 EvO (gdB b false (zAW .not d.1)) fun o=>
 EvO (zAB b (some (.bool true)) o) fun p=>
 BrK p (PI (C69 s) K 6 [] d.2) (PI (C69 s) K 7 [e,i,t,f,g] d.2)):PI (C69 s) K 5 [e,i,r,t,f,g] h:=zB H
def zPT (H :
 K .ret [(.bool false)] h):PI (C69 s) K 6 [] h:=zB H
def ze8 (H :
 EvO (zC E .add 3 d (iI 1)) fun i=>
 PI (C69 s) K 2 [e,f,g,b,i] h):PI (C69 s) K 7 [e,f,g,b,d] h:=zB H
def zPS (H :
 K .ret [(.bool true)] h):PI (C69 s) K 8 [] h:=zB H
theorem zgV (aa:h.ok) (hv:zt v=true) (H:PI (C69 s) (KR E [.tmp 6] fun x k=>x=v/\h.next<=k.wm) 0 [v0,v1,v2] h.fresh):(zY E).call 69 [v0,v1,v2] h=some [(v,h)]:=zA3 Tryz.f69 aa hv (zAA (C69 s) H)
theorem zgU (H:PI (C69 true) (KR E [.tmp 6] fun x k=>(zi x=false\/k.wm<h.next)/\Rp x ⟨k.t,k.next,cond (Nat.ble h.wm k.wm) h.wm k.wm⟩) 0 [v0,v1,v2] h.fresh):Ev true ((zY E).call 69 [v0,v1,v2] h) fun x=>Rp x.1 x.2:=zD5 Tryz.f69 (zAA (C69 true) H)
noncomputable def B70:Code:=zh Tryz.f70
noncomputable def C70 (s:Bool):Cx:=⟨E,s,none,B70,[([0],[0]),([1,0,0],[0]),([1,0,1,0,0,0],[5,6,7]),([1,0,1,0,0,1,1,0,0,0],[5,6,7]),([1,0,1,0,0,1,1,0,0,1,0],[4,5,6,7]),([1,0,1,0,0,1,1,0,0,1,1,0,0],[]),([1,0,1,0,0,1,1,1],[5,6,7]),([1,1,0],[])],[2],[]⟩
abbrev zqe (s:Bool) (K:KF) (b d e:Value) (h:AH):Prop:=PI (C70 s) K 2 [b,d,e] h
def ze7 (H :
 PI (C70 s) K 1 [b] h):PI (C70 s) K 0 [b] h:=zB H
def ze6 (H :
 EvO (zN E (zk [(5,b)]) (zo B70 [1,0,0] 1) h) fun d=>
 PI (C70 s) K 2 [b,d,(iI 0)] h):PI (C70 s) K 1 [b] h:=zB H
theorem zTj:zN E (zk [(5,.slice a n c)]) (zo B70 [1,0,0] 1) h=some (iI (n:Int)):=by cases a <;> kernel_rfl
def zPR (H :
 EvO (zC E .lss 3 d b) fun f=>
 BrK f (PI (C70 s) K 3 [e,b,d] h) (PI (C70 s) K 7 [] h)):PI (C70 s) K 2 [e,b,d] h:=zB H
def ze5 (H :
 EvO (zE E 82 d e) fun g=>
 EvO (zG E 25 h g) fun i=>
 Ev s (zS 25 h (z8 E 25)) fun b=>
 Ev s (zf E 25 b.2 b.1 i) fun j=>
 PI (C70 s) K 4 [b.1,d,f,e] j.2):PI (C70 s) K 3 [d,f,e] h:=zB H
def ze4 (H :
 EvO (zG E 25 h d) fun i=>
 Ev s (zR (zY E) (some (.func (.func 121) #[] #[])) [i] h) fun b=>
 EvO (zC E .neq 29 b.1 (iI 0)) fun j=>
 BrK j (PI (C70 s) K 5 [] b.2) (PI (C70 s) K 6 [e,f,g] b.2)):PI (C70 s) K 4 [d,e,f,g] h:=zB H
def ze3 (H :
 K .ret [(iI 8)] h):PI (C70 s) K 5 [] h:=zB H
def ze2 (H :
 EvO (zC E .add 3 e (iI 1)) fun f=>
 PI (C70 s) K 2 [b,d,f] h):PI (C70 s) K 6 [b,d,e] h:=zB H
def ze1 (H :
 K .ret [(iI 0)] h):PI (C70 s) K 7 [] h:=zB H
theorem zgT (aa:h.ok) (hv:zt v=true) (H:PI (C70 s) (KR E [.tmp 2] fun x k=>x=v/\h.next<=k.wm) 0 [v0] h.fresh):(zY E).call 70 [v0] h=some [(v,h)]:=zA3 Tryz.f70 aa hv (zAA (C70 s) H)
noncomputable def B71:Code:=zh Tryz.f71
noncomputable def C71 (s:Bool):Cx:=⟨E,s,none,B71,[([0],[0]),([1,0,0],[0]),([1,0,1,0,0,0],[7,8,9]),([1,0,1,0,0,1,1,0,0,0],[7,8,9]),([1,0,1,0,0,1,1,0,0,1,0,0],[4,7,8,9]),([1,0,1,0,0,1,1,0,0,1,0,1,0,0],[]),([1,0,1,0,0,1,1,0,0,1,1,0,0],[4,7,8,9]),([1,0,1,0,0,1,1,0,0,1,1,0,1,0,0],[]),([1,0,1,0,0,1,1,0,0,1,1,1,0],[4,7,8,9]),([1,0,1,0,0,1,1,0,0,1,1,1,1,0,0,0],[4,7,8,9,22,23,24]),([1,0,1,0,0,1,1,0,0,1,1,1,1,0,0,1,1,0,0,0],[4,7,8,9,22,23,24]),([1,0,1,0,0,1,1,0,0,1,1,1,1,0,0,1,1,0,0,1,0],[4,5,6,7,8,9,22,23,24]),([1,0,1,0,0,1,1,0,0,1,1,1,1,0,0,1,1,0,0,1,1,0,0],[]),([1,0,1,0,0,1,1,0,0,1,1,1,1,0,0,1,1,1],[4,7,8,9,22,23,24]),([1,0,1,0,0,1,1,1],[7,8,9]),([1,1,0],[])],[2],[]⟩
abbrev zqd (s:Bool) (K:KF) (b d e:Value) (h:AH):Prop:=PI (C71 s) K 2 [b,d,e] h
abbrev zqc (s:Bool) (K:KF) (f g i j b d e:Value) (h:AH):Prop:=PI (C71 s) K 9 [f,g,i,j,b,d,e] h
abbrev znQ (s:Bool) (K:KF) (h:AH):Prop:=PI (C71 s) K 12 [] h
abbrev znP (s:Bool) (K:KF) (f g i j b d e:Value) (h:AH):Prop:=PI (C71 s) K 13 [f,g,i,j,b,d,e] h
def ze0 (H :
 PI (C71 s) K 1 [b] h):PI (C71 s) K 0 [b] h:=zB H
def zez (H :
 EvO (zN E (zk [(7,b)]) (zo B71 [1,0,0] 1) h) fun d=>
 PI (C71 s) K 2 [b,d,(iI 0)] h):PI (C71 s) K 1 [b] h:=zB H
theorem zTi:zN E (zk [(7,.slice a n c)]) (zo B71 [1,0,0] 1) h=some (iI (n:Int)):=by cases a <;> kernel_rfl
def zPQ (H :
 EvO (zC E .lss 3 d b) fun f=>
 BrK f (PI (C71 s) K 3 [e,b,d] h) (PI (C71 s) K 15 [] h)):PI (C71 s) K 2 [e,b,d] h:=zB H
def zey (H :
 EvO (zE E 83 d e) fun g=>
 EvO (zG E 32 h g) fun i=>
 Ev s (zS 32 h (z8 E 32)) fun b=>
 Ev s (zf E 32 b.2 b.1 i) fun j=>
 PI (C71 s) K 4 [b.1,d,f,e] j.2):PI (C71 s) K 3 [d,f,e] h:=zB H
def zex (H :
 EvO (zD E 32 0 d) fun i=>
 EvO (zG E 3 h i) fun j=>
 Ev s (zR (zY E) (some (.func (.func 105) #[] #[])) [j] h) fun b=>
 EvO (zAW .not b.1) fun k=>
 BrK k (PI (C71 s) K 5 [] b.2) (PI (C71 s) K 6 [d,e,f,g] b.2)):PI (C71 s) K 4 [d,e,f,g] h:=zB H
def zew (H :
 K .ret [(iI 361)] h):PI (C71 s) K 5 [] h:=zB H
def zev (H :
 EvO (zD E 32 1 b) fun g=>
 EvO (zG E 26 h g) fun i=>
 EvO (zN E (zk [(18,i)]) (zo B71 [1,0,1,0,0,1,1,0,0,1,1,0,0] 2) h) fun j=>
 EvO (zC E .gtr 3 j (iI 200000)) fun k=>
 BrK k (PI (C71 s) K 7 [] h) (PI (C71 s) K 8 [b,d,e,f] h)):PI (C71 s) K 6 [b,d,e,f] h:=zB H
theorem zTh:zN E (zk [(18,.slice a n c)]) (zo B71 [1,0,1,0,0,1,1,0,0,1,1,0,0] 2) h=some (iI (n:Int)):=by cases a <;> kernel_rfl
def zeu (H :
 K .ret [(iI 360)] h):PI (C71 s) K 7 [] h:=zB H
def zet (H :
 EvO (zD E 32 1 b) fun i=>
 EvO (zG E 26 h i) fun d=>
 EvO (zN E (zk [(22,d)]) (zo B71 [1,0,1,0,0,1,1,0,0,1,1,1,0] 2) h) fun j=>
 PI (C71 s) K 9 [b,e,f,g,d,j,(iI 0)] h):PI (C71 s) K 8 [b,e,f,g] h:=zB H
theorem zTg:zN E (zk [(22,.slice a n c)]) (zo B71 [1,0,1,0,0,1,1,0,0,1,1,1,0] 2) h=some (iI (n:Int)):=by cases a <;> kernel_rfl
def zPP (H :
 EvO (zC E .lss 3 d b) fun k=>
 BrK k (PI (C71 s) K 10 [j,f,g,i,e,b,d] h) (PI (C71 s) K 14 [f,g,i] h)):PI (C71 s) K 9 [j,f,g,i,e,b,d] h:=zB H
def zWE (H :
 EvO (zE E 26 d b) fun l=>
 EvO (zG E 54 h l) fun m=>
 Ev s (zS 54 h (z8 E 54)) fun f=>
 Ev s (zf E 54 f.2 f.1 m) fun o=>
 PI (C71 s) K 11 [g,b,f.1,i,j,k,d,e,b] o.2):PI (C71 s) K 10 [g,i,j,k,d,e,b] h:=zB H
def zWD (H :
 EvO (zE E 54 k (some (iI 0))) fun F=>
 EvO (zG E 3 h F) fun G=>
 EvO (zC E .lss 3 G (iI 0)) fun f=>
 EvO (gdB f false (zE E 54 k (some (iI 1)))) fun J=>
 EvO (gdB f false (zG E 3 h J)) fun L=>
 EvO (gdB f false (zC E .lss 3 L (iI 0))) fun M=>
 EvO (zAB f (some (.bool true)) M) fun e=>
 EvO (gdB e false A) fun N=>
 EvO (gdB e false (zC E .gtr 3 N (iI 0))) fun l=>
 EvO (gdB e false l) fun b=>
 EvO (gdB b true (zD E 32 1 z)) fun m=>
 EvO (gdB b true (zG E 26 h m)) fun o=>
 EvO (gdB b true A) fun p=>
 EvO (gdB b true (zC E .sub 3 p (iI 1))) fun q=>
 EvO (gdB b true (zE E 26 o q)) fun r=>
 EvO (gdB b true (zG E 54 h r)) fun t=>
 EvO (gdB b true (zG E 54 h k)) fun u=>
 Ev s (gdW b true (zR (zY E) (some (.func (.func 122) #[] #[])) [t,u] h) h) fun d=>
 EvO (gdB b true (zC E .geq 3 d.1 (iI 0))) fun w=>
 EvO (gdB e false (zAB b w (some (.bool false)))) fun x=>
 EvO (zAB e (some (.bool true)) x) fun y=>
 BrK y (PI (C71 s) K 12 [] d.2) (PI (C71 s) K 13 [z,B,C,D,g,i,j] d.2)):PI (C71 s) K 11 [z,A,k,B,C,D,g,i,j] h:=zB H
def zWC (H :
 K .ret [(iI 360)] h):PI (C71 s) K 12 [] h:=zB H
def zWB (H :
 EvO (zC E .add 3 e (iI 1)) fun k=>
 PI (C71 s) K 9 [f,g,i,j,b,d,k] h):PI (C71 s) K 13 [f,g,i,j,b,d,e] h:=zB H
def zWA (H :
 EvO (zC E .add 3 e (iI 1)) fun f=>
 PI (C71 s) K 2 [b,d,f] h):PI (C71 s) K 14 [b,d,e] h:=zB H
def zV9 (H :
 K .ret [(iI 0)] h):PI (C71 s) K 15 [] h:=zB H
theorem zgS (aa:h.ok) (hv:zt v=true) (H:PI (C71 s) (KR E [.tmp 2] fun x k=>x=v/\h.next<=k.wm) 0 [v0] h.fresh):(zY E).call 71 [v0] h=some [(v,h)]:=zA3 Tryz.f71 aa hv (zAA (C71 s) H)
noncomputable def B72:Code:=zh Tryz.f72
noncomputable def C72 (s:Bool):Cx:=⟨E,s,none,B72,[([0],[0,1,2]),([1,0],[3,4,5]),([1,1,0],[3,4,5,7]),([1,1,1,0,0],[3,4,5,8]),([1,1,1,0,1,0,0,0],[3,4,5,8,25,26,27]),([1,1,1,0,1,0,0,1,1,0,0,0],[3,4,5,8,25,26,27]),([1,1,1,0,1,0,0,1,1,0,0,1,0,0],[3,4,5,8,10,25,26,27]),([1,1,1,0,1,0,0,1,1,0,0,1,0,1,0,0],[]),([1,1,1,0,1,0,0,1,1,0,0,1,1],[3,4,5,8,10,25,26,27]),([1,1,1,0,1,0,0,1,1,1],[3,4,5,8,25,26,27]),([1,1,1,1,0],[5,8]),([1,1,1,1,1,0],[8,11])],[6],[]⟩
abbrev zqb (s:Bool) (K:KF) (b d e f:Value) (h:AH):Prop:=PI (C72 s) K 3 [b,d,e,f] h
abbrev zqa (s:Bool) (K:KF) (f g i j b d e:Value) (h:AH):Prop:=PI (C72 s) K 4 [f,g,i,j,b,d,e] h
abbrev zqZ (s:Bool) (K:KF) (h:AH):Prop:=PI (C72 s) K 7 [] h
abbrev znO (s:Bool) (K:KF) (b d:Value) (h:AH):Prop:=PI (C72 s) K 10 [b,d] h
abbrev zh8 (s:Bool) (K:KF) (d b:Value) (h:AH):Prop:=PI (C72 s) K 11 [d,b] h
def zes (H :
 Ev s (zS 25 h f) fun b=>
 Ev s (zS 25 b.2 g) fun d=>
 Ev s (zS 32 d.2 i) fun e=>
 PI (C72 s) K 1 [b.1,d.1,e.1] e.2):PI (C72 s) K 0 [f,g,i] h:=zB H
def zer (H :
 EvO (zG E 25 h b) fun i=>
 EvO (zG E 25 h d) fun j=>
 Ev s (zd E 82 2 (some [(0,i),(1,j)]) h) fun e=>
 Ev s (zR (zY E) (some (.func (.func 90) #[] #[])) [e.1] e.2) fun f=>
 PI (C72 s) K 2 [b,d,g,f.1] f.2):PI (C72 s) K 1 [b,d,g] h:=zB H
def zeq (H :
 EvO (zE E 126 u (some (iI 0))) fun l=>
 EvO (zG E 128 h l) fun j=>
 EvO (zE E 126 u (some (iI 1))) fun m=>
 EvO (zG E 128 h m) fun k=>
 s=false/\(Ev s (one ((.map (some (h).next):Value),(h).new (.map [] 0))) fun i=>
 EvO (zG E 128 i.2 m) fun e=>veq 100 e k=true ∧
 (EvO (zG E 128 i.2 l) fun d=>veq 100 d j=true ∧
 (EvO (zAo E 176 (some [(0,j),(1,k),(2,i.1)])) fun o=>
 Ev s (zS 176 i.2 (z8 E 176)) fun b=>
 EvO (zG E 128 b.2 m) fun g=>veq 100 g k=true ∧
 (EvO (zG E 128 b.2 l) fun f=>veq 100 f j=true ∧
 (Ev s (zf E 176 b.2 b.1 o) fun p=>
 PI (C72 s) K 3 [q,r,t,b.1] p.2)))))/\(Ev s (zS 176 h (z8 E 176)) fun b=>
 EvO (zG E 128 b.2 m) fun g=>veq 100 g k=true ∧
 (EvO (zG E 128 b.2 l) fun f=>veq 100 f j=true ∧
 (Ev s (one ((.map (some (b.2).next):Value),(b.2).new (.map [] 0))) fun i=>
 EvO (zG E 128 i.2 m) fun e=>veq 100 e k=true ∧
 (EvO (zG E 128 i.2 l) fun d=>veq 100 d j=true ∧
 (EvO (zAo E 176 (some [(0,j),(1,k),(2,i.1)])) fun o=>
 Ev s (zf E 176 i.2 b.1 o) fun p=>
 PI (C72 s) K 3 [q,r,t,b.1] p.2)))))):PI (C72 s) K 2 [q,r,t,u] h:=zB H
def zep (H :
 EvO (zD E 32 1 b) fun i=>
 EvO (zG E 26 h i) fun d=>
 EvO (zN E (zk [(25,d)]) (zo B72 [1,1,1,0,0] 2) h) fun j=>
 PI (C72 s) K 4 [e,f,b,g,d,j,(iI 0)] h):PI (C72 s) K 3 [e,f,b,g] h:=zB H
theorem zTf:zN E (zk [(25,.slice a n c)]) (zo B72 [1,1,1,0,0] 2) h=some (iI (n:Int)):=by cases a <;> kernel_rfl
def zPO (H :
 EvO (zC E .lss 3 d b) fun k=>
 BrK k (PI (C72 s) K 5 [i,j,f,g,e,b,d] h) (PI (C72 s) K 10 [f,g] h)):PI (C72 s) K 4 [i,j,f,g,e,b,d] h:=zB H
def zeo (H :
 EvO (zE E 26 b d) fun l=>
 EvO (zG E 54 h l) fun m=>
 Ev s (zS 54 h (z8 E 54)) fun f=>
 Ev s (zf E 54 f.2 f.1 m) fun o=>
 PI (C72 s) K 6 [g,i,j,k,f.1,b,e,d] o.2):PI (C72 s) K 5 [g,i,j,k,b,e,d] h:=zB H
def zen (H :
 EvO (zE E 54 b (some (iI 0))) fun p=>
 EvO (zG E 3 h p) fun q=>
 EvO (zD E 25 0 k) fun r=>
 EvO (zG E 3 h r) fun t=>
 EvO (zC E .geq 3 q t) fun d=>
 EvO (gdB d false (zE E 54 b (some (iI 1)))) fun u=>
 EvO (gdB d false (zG E 3 h u)) fun w=>
 EvO (gdB d false (zD E 25 0 l)) fun x=>
 EvO (gdB d false (zG E 3 h x)) fun y=>
 EvO (gdB d false (zC E .geq 3 w y)) fun i=>
 EvO (zAB d (some (.bool true)) i) fun j=>
 BrK j (PI (C72 s) K 7 [] h) (PI (C72 s) K 8 [k,l,m,o,b,e,f,g] h)):PI (C72 s) K 6 [k,l,m,o,b,e,f,g] h:=zB H
def zem (H :
 K .ret [(.bool false)] h):PI (C72 s) K 7 [] h:=zB H
def zel (H :
 EvO (zD E 176 2 g) fun l=>
 EvO (zG E 174 h l) fun m=>
 EvO (zG E 54 h b) fun o=>
 Ev s (zAP E 174 m o (some (.bool true)) h) fun p=>
 PI (C72 s) K 9 [i,j,k,g,d,e,f] p.2):PI (C72 s) K 8 [i,j,k,g,b,d,e,f] h:=zB H
def zek (H :
 EvO (zC E .add 3 e (iI 1)) fun k=>
 PI (C72 s) K 4 [f,g,i,j,b,d,k] h):PI (C72 s) K 9 [f,g,i,j,b,d,e] h:=zB H
def zV8 (H :
 EvO (zD E 32 0 m) fun i=>
 EvO (zG E 3 h i) fun g=>
 s=false/\(Ev s (zR (zY E) (some (.func (.func 79) #[] #[])) (some []) h) fun f=>
 EvO (zG E 3 f.2 i) fun b=>veq 100 b g=true ∧
 (EvO (zC9 E 113 f.1 g) fun j=>
 Ev s (zS 112 f.2 (z8 E 112)) fun e=>
 EvO (zG E 3 e.2 i) fun d=>veq 100 d g=true ∧
 (Ev s (zf E 112 e.2 e.1 j) fun k=>
 PI (C72 s) K 11 [l,e.1] k.2)))/\(Ev s (zS 112 h (z8 E 112)) fun e=>
 EvO (zG E 3 e.2 i) fun d=>veq 100 d g=true ∧
 (Ev s (zR (zY E) (some (.func (.func 79) #[] #[])) (some []) e.2) fun f=>
 EvO (zG E 3 f.2 i) fun b=>veq 100 b g=true ∧
 (EvO (zC9 E 113 f.1 g) fun j=>
 Ev s (zf E 112 f.2 e.1 j) fun k=>
 PI (C72 s) K 11 [l,e.1] k.2)))):PI (C72 s) K 10 [m,l] h:=zB H
def zV7 (H :
 EvO (zG E 176 h l) fun p=>
 Ev s (zR (zY E) (some (.func (.func 123) #[] #[])) (some [p,(iI 0),(iI 0)]) h) fun d=>
 EvO (gdB d.1 true (zG E 176 d.2 l)) fun q=>
 EvO (gdB d.1 true (zAo E 178 (some [(0,q)]))) fun r=>
 EvO (gdB d.1 true (zG E 112 d.2 f)) fun t=>
 Ev s (gdW d.1 true (zR (zY E) (some (.func (.func 124) #[] #[])) [r,t] d.2) d.2) fun k=>
 EvO (zAB d.1 k.1 (some (.bool false))) fun g=>
 EvO (gdB g true (zG E 176 k.2 l)) fun u=>
 EvO (gdB g true (zG E 112 k.2 f)) fun i=>
 Ev s (gdW g true (zR (zY E) (some (.func (.func 125) #[] #[])) [u] k.2) k.2) fun e=>
 EvO (gdB g true (zG E 112 e.2 f)) fun b=>veq 100 b i=true ∧
 (EvO (gdB g true (zAo E 178 (some [(0,e.1)]))) fun m=>
 Ev s (gdW g true (zR (zY E) (some (.func (.func 124) #[] #[])) [m,i] e.2) e.2) fun j=>
 EvO (zAB g j.1 (some (.bool false))) fun o=>
 K .ret [o] j.2)):PI (C72 s) K 11 [l,f] h:=zB H
theorem zgR (aa:h.ok) (hv:zt v=true) (H:PI (C72 s) (KR E [.tmp 6] fun x k=>x=v/\h.next<=k.wm) 0 [v0,v1,v2] h.fresh):(zY E).call 72 [v0,v1,v2] h=some [(v,h)]:=zA3 Tryz.f72 aa hv (zAA (C72 s) H)
noncomputable def B79:Code:=zh Tryz.f79
noncomputable def C79 (s:Bool):Cx:=⟨E,s,none,B79,[([0],[]),([1,0],[0])],[0],[]⟩
def zef (H :
 Ev s (zS 113 h (z8 E 113)) fun b=>
 PI (C79 s) K 1 [b.1] b.2):PI (C79 s) K 0 [] h:=zB H
def zee (H :
 EvO (zAo E 112 (some [(0,(.func (.func 128) #[] #[])),(1,(.func (.func 129) #[] #[])),(2,(.string ⟨#[115,116,114,111,110,103]⟩))])) fun d=>
 EvO (zAo E 112 (some [(0,(.func (.func 130) #[] #[])),(1,(.func (.func 131) #[] #[])),(2,(.string ⟨#[98,114,97,110,99,104,105,110,103]⟩))])) fun e=>
 EvO (zAo E 113 (some [(1,d),(2,e)])) fun f=>
 Ev s (zf E 113 h b f) fun g=>
 K .ret [b] g.2):PI (C79 s) K 1 [b] h:=zB H
theorem zcG (aa:h.ok) (hv:zi v=true) (H:PI (C79 true) (KR E [.cell 0 113] fun x k=>x=v/\h.next<=k.wm) 0 [] h.fresh):(zY E).call 79 [] h=some [(v,h)]:=zIs Tryz.f79 aa hv (zAA (C79 true) H)
noncomputable def B90:Code:=zh Tryz.f90
noncomputable def C90 (s:Bool):Cx:=⟨E,s,none,B90,[([0],[0]),([1,0],[0]),([1,1,0,0],[0,3]),([1,1,0,1,0,0,0],[0,3,17,18,19]),([1,1,0,1,0,0,1,1,0,0,0],[0,3,17,18,19]),([1,1,0,1,0,0,1,1,0,0,1,0],[0,3,5,17,18,19]),([1,1,0,1,0,0,1,1,0,0,1,1,0,0,0],[0,3,17,18,19,24,25,26]),([1,1,0,1,0,0,1,1,0,0,1,1,0,0,1,1,0,0,0],[0,3,17,18,19,24,25,26]),([1,1,0,1,0,0,1,1,0,0,1,1,0,0,1,1,0,0,1],[0,3,7,17,18,19,24,25,26]),([1,1,0,1,0,0,1,1,0,0,1,1,0,0,1,1,1],[0,3,17,18,19,24,25,26]),([1,1,0,1,0,0,1,1,1],[0,3,17,18,19]),([1,1,1,0],[0,3]),([1,1,1,1,0,0],[0,3,8]),([1,1,1,1,0,1,0,0,0],[3,8,34,35,36]),([1,1,1,1,0,1,0,0,1,1,0,0,0],[3,8,34,35,36]),([1,1,1,1,0,1,0,0,1,1,0,0,1,0],[3,8,10,34,35,36]),([1,1,1,1,0,1,0,0,1,1,0,0,1,1,0],[3,8,10,11,34,35,36]),([1,1,1,1,0,1,0,0,1,1,0,0,1,1,1,0,0],[3,8,10,11,12,34,35,36]),([1,1,1,1,0,1,0,0,1,1,0,0,1,1,1,0,1,0,0,0],[3,8,10,11,12,34,35,36,50,51,52]),([1,1,1,1,0,1,0,0,1,1,0,0,1,1,1,0,1,0,0,1,1,0,0,0],[3,8,10,11,12,34,35,36,50,51,52]),([1,1,1,1,0,1,0,0,1,1,0,0,1,1,1,0,1,0,0,1,1,0,0,1],[3,8,10,11,12,13,14,34,35,36,50,51,52]),([1,1,1,1,0,1,0,0,1,1,0,0,1,1,1,0,1,0,0,1,1,1],[3,8,10,11,12,34,35,36,50,51,52]),([1,1,1,1,0,1,0,0,1,1,0,0,1,1,1,1,0,0],[3,8,10,11,12,34,35,36]),([1,1,1,1,0,1,0,0,1,1,0,0,1,1,1,1,0,1,0,0,0],[3,8,11,12,34,35,36,64,65,66]),([1,1,1,1,0,1,0,0,1,1,0,0,1,1,1,1,0,1,0,0,1,1,0,0,0],[3,8,11,12,34,35,36,64,65,66]),([1,1,1,1,0,1,0,0,1,1,0,0,1,1,1,1,0,1,0,0,1,1,0,0,1],[3,8,11,12,16,34,35,36,64,65,66]),([1,1,1,1,0,1,0,0,1,1,0,0,1,1,1,1,0,1,0,0,1,1,1],[3,8,11,12,34,35,36,64,65,66]),([1,1,1,1,0,1,0,0,1,1,0,0,1,1,1,1,1],[3,8,11,34,35,36]),([1,1,1,1,0,1,0,0,1,1,1],[3,8,34,35,36]),([1,1,1,1,1,0],[8])],[2],[]⟩
abbrev zqT (s:Bool) (K:KF) (f g b d e:Value) (h:AH):Prop:=PI (C90 s) K 3 [f,g,b,d,e] h
abbrev zqS (s:Bool) (K:KF) (j k b d e f g i:Value) (h:AH):Prop:=PI (C90 s) K 6 [j,k,b,d,e,f,g,i] h
abbrev znI (s:Bool) (K:KF) (b d:Value) (h:AH):Prop:=PI (C90 s) K 11 [b,d] h
abbrev znH (s:Bool) (K:KF) (f g b d e:Value) (h:AH):Prop:=PI (C90 s) K 13 [f,g,b,d,e] h
abbrev znG (s:Bool) (K:KF) (m o b d e f g i j k l:Value) (h:AH):Prop:=PI (C90 s) K 18 [m,o,b,d,e,f,g,i,j,k,l] h
abbrev znF (s:Bool) (K:KF) (j k b d e f g i:Value) (h:AH):Prop:=PI (C90 s) K 22 [j,k,b,d,e,f,g,i] h
abbrev znE (s:Bool) (K:KF) (l m b d e f g i j k:Value) (h:AH):Prop:=PI (C90 s) K 23 [l,m,b,d,e,f,g,i,j,k] h
abbrev znD (s:Bool) (K:KF) (g i b d e f:Value) (h:AH):Prop:=PI (C90 s) K 27 [g,i,b,d,e,f] h
def zeP (H :
 PI (C90 s) K 1 [b] h):PI (C90 s) K 0 [b] h:=zB H
def zeO (H :
 Ev s (zS 197 h (z8 E 197)) fun b=>
 PI (C90 s) K 2 [d,b.1] b.2):PI (C90 s) K 1 [d] h:=zB H
def zeN (H :
 EvO (zN E (zk [(17,b)]) (zo B90 [1,1,0,0] 1) h) fun e=>
 PI (C90 s) K 3 [b,d,b,e,(iI 0)] h):PI (C90 s) K 2 [b,d] h:=zB H
theorem zTd:zN E (zk [(17,.slice a n c)]) (zo B90 [1,1,0,0] 1) h=some (iI (n:Int)):=by cases a <;> kernel_rfl
def zPM (H :
 EvO (zC E .lss 3 d b) fun i=>
 BrK i (PI (C90 s) K 4 [f,g,e,b,d] h) (PI (C90 s) K 11 [f,g] h)):PI (C90 s) K 3 [f,g,e,b,d] h:=zB H
def zeM (H :
 EvO (zE E 82 b d) fun j=>
 EvO (zG E 25 h j) fun k=>
 Ev s (zS 25 h (z8 E 25)) fun f=>
 Ev s (zf E 25 f.2 f.1 k) fun l=>
 PI (C90 s) K 5 [g,i,f.1,b,e,d] l.2):PI (C90 s) K 4 [g,i,b,e,d] h:=zB H
def zeL (H :
 EvO (zD E 25 1 j) fun k=>
 EvO (zG E 22 h k) fun f=>
 EvO (zN E (zk [(24,f)]) (zo B90 [1,1,0,1,0,0,1,1,0,0,1,0] 2) h) fun l=>
 PI (C90 s) K 6 [g,i,b,d,e,f,l,(iI 0)] h):PI (C90 s) K 5 [g,i,j,b,d,e] h:=zB H
theorem zTc:zN E (zk [(24,.slice a n c)]) (zo B90 [1,1,0,1,0,0,1,1,0,0,1,0] 2) h=some (iI (n:Int)):=by cases a <;> kernel_rfl
def zPL (H :
 EvO (zC E .lss 3 g f) fun l=>
 BrK l (PI (C90 s) K 7 [j,k,b,d,e,i,f,g] h) (PI (C90 s) K 10 [j,k,b,d,e] h)):PI (C90 s) K 6 [j,k,b,d,e,i,f,g] h:=zB H
def zeK (H :
 EvO (zE E 22 b d) fun m=>
 EvO (zG E 36 h m) fun o=>
 Ev s (zS 36 h (z8 E 36)) fun j=>
 Ev s (zf E 36 j.2 j.1 o) fun p=>
 PI (C90 s) K 8 [k,l,j.1,e,f,g,b,i,d] p.2):PI (C90 s) K 7 [k,l,e,f,g,b,i,d] h:=zB H
def zeJ (H :
 EvO (zG E 36 h l) fun m=>
 Ev s (zR (zY E) (some (.func (.func 143) #[] #[])) [j,m] h) fun o=>
 PI (C90 s) K 9 [k,j,b,d,e,f,g,i] o.2):PI (C90 s) K 8 [k,j,l,b,d,e,f,g,i] h:=zB H
def zeI (H :
 EvO (zC E .add 3 i (iI 1)) fun l=>
 PI (C90 s) K 6 [j,k,b,d,e,f,g,l] h):PI (C90 s) K 9 [j,k,b,d,e,f,g,i] h:=zB H
def zVx (H :
 EvO (zC E .add 3 e (iI 1)) fun i=>
 PI (C90 s) K 3 [f,g,b,d,i] h):PI (C90 s) K 10 [f,g,b,d,e] h:=zB H
def zVw (H :
 PI (C90 s) K 12 [b,d,(.slice none 0 0)] h):PI (C90 s) K 11 [b,d] h:=zB H
def zVv (H :
 EvO (zN E (zk [(34,b)]) (zo B90 [1,1,1,1,0,0] 1) h) fun f=>
 PI (C90 s) K 13 [d,e,b,f,(iI 0)] h):PI (C90 s) K 12 [b,d,e] h:=zB H
theorem zP7:zN E (zk [(34,.slice a n c)]) (zo B90 [1,1,1,1,0,0] 1) h=some (iI (n:Int)):=by cases a <;> kernel_rfl
def zLi (H :
 EvO (zC E .lss 3 d b) fun i=>
 BrK i (PI (C90 s) K 14 [g,f,e,b,d] h) (PI (C90 s) K 29 [f] h)):PI (C90 s) K 13 [g,f,e,b,d] h:=zB H
def zVu (H :
 EvO (zE E 82 b d) fun j=>
 EvO (zG E 25 h j) fun k=>
 Ev s (zS 25 h (z8 E 25)) fun f=>
 Ev s (zf E 25 f.2 f.1 k) fun l=>
 PI (C90 s) K 15 [g,i,f.1,b,e,d] l.2):PI (C90 s) K 14 [g,i,b,e,d] h:=zB H
def zVt (H :
 EvO (zD E 25 0 b) fun m=>
 EvO (zG E 3 h m) fun g=>
 Ev s (zA8 E 129 g g h) fun i=>
 EvO (zAo E 131 (some [(0,i.1)])) fun o=>
 Ev s (zS 131 i.2 o) fun j=>
 PI (C90 s) K 16 [k,l,b,j.1,d,e,f] j.2):PI (C90 s) K 15 [k,l,b,d,e,f] h:=zB H
def zVs (H :
 EvO (zD E 25 1 b) fun m=>
 EvO (zG E 22 h m) fun o=>
 EvO (zN E (zk [(46,o)]) (zo B90 [1,1,1,1,0,1,0,0,1,1,0,0,1,1,0] 2) h) fun i=>
 Ev s (zA8 E 47 i i h) fun j=>
 PI (C90 s) K 17 [k,l,b,d,j.1,e,f,g] j.2):PI (C90 s) K 16 [k,l,b,d,e,f,g] h:=zB H
theorem zP6:zN E (zk [(46,.slice a n c)]) (zo B90 [1,1,1,1,0,1,0,0,1,1,0,0,1,1,0] 2) h=some (iI (n:Int)):=by cases a <;> kernel_rfl
def zVr (H :
 EvO (zD E 25 1 b) fun m=>
 EvO (zG E 22 h m) fun j=>
 EvO (zN E (zk [(50,j)]) (zo B90 [1,1,1,1,0,1,0,0,1,1,0,0,1,1,1,0,0] 2) h) fun o=>
 PI (C90 s) K 18 [k,l,b,d,e,f,g,i,j,o,(iI 0)] h):PI (C90 s) K 17 [k,l,b,d,e,f,g,i] h:=zB H
theorem zP5:zN E (zk [(50,.slice a n c)]) (zo B90 [1,1,1,1,0,1,0,0,1,1,0,0,1,1,1,0,0] 2) h=some (iI (n:Int)):=by cases a <;> kernel_rfl
def zLh (H :
 EvO (zC E .lss 3 k j) fun p=>
 BrK p (PI (C90 s) K 19 [m,o,b,d,e,f,g,i,l,j,k] h) (PI (C90 s) K 22 [m,o,b,d,e,f,g,i] h)):PI (C90 s) K 18 [m,o,b,d,e,f,g,i,l,j,k] h:=zB H
def zVq (H :
 EvO (zE E 22 d b) fun q=>
 EvO (zG E 36 h q) fun r=>
 Ev s (zS 36 h (z8 E 36)) fun m=>
 Ev s (zf E 36 m.2 m.1 r) fun t=>
 PI (C90 s) K 20 [o,p,e,f,g,b,m.1,i,j,k,d,l,b] t.2):PI (C90 s) K 19 [o,p,e,f,g,i,j,k,d,l,b] h:=zB H
def zVp (H :
 EvO (zG E 36 h g) fun t=>
 Ev s (zR (zY E) (some (.func (.func 143) #[] #[])) [p,t] h) fun q=>
 EvO (zE E 47 b f) fun u=>
 Ev s (zf E 3 q.2 u q.1) fun w=>
 PI (C90 s) K 21 [p,r,d,e,b,i,j,k,l,m,o] w.2):PI (C90 s) K 20 [p,r,d,e,b,f,g,i,j,k,l,m,o] h:=zB H
def zVo (H :
 EvO (zC E .add 3 l (iI 1)) fun p=>
 PI (C90 s) K 18 [m,o,b,d,e,f,g,i,j,k,p] h):PI (C90 s) K 21 [m,o,b,d,e,f,g,i,j,k,l] h:=zB H
def zVn (H :
 EvO (zD E 25 2 b) fun m=>
 EvO (zG E 23 h m) fun j=>
 EvO (zN E (zk [(64,j)]) (zo B90 [1,1,1,1,0,1,0,0,1,1,0,0,1,1,1,1,0,0] 2) h) fun o=>
 PI (C90 s) K 23 [k,l,d,e,f,g,i,j,o,(iI 0)] h):PI (C90 s) K 22 [k,l,b,d,e,f,g,i] h:=zB H
theorem zP4:zN E (zk [(64,.slice a n c)]) (zo B90 [1,1,1,1,0,1,0,0,1,1,0,0,1,1,1,1,0,0] 2) h=some (iI (n:Int)):=by cases a <;> kernel_rfl
def zLg (H :
 EvO (zC E .lss 3 i g) fun o=>
 BrK o (PI (C90 s) K 24 [l,m,b,j,d,e,f,k,g,i] h) (PI (C90 s) K 27 [l,m,b,d,e,f] h)):PI (C90 s) K 23 [l,m,b,j,d,e,f,k,g,i] h:=zB H
def zVm (H :
 EvO (zE E 23 b d) fun p=>
 EvO (zG E 52 h p) fun q=>
 Ev s (zS 52 h (z8 E 52)) fun l=>
 Ev s (zf E 52 l.2 l.1 q) fun r=>
 PI (C90 s) K 25 [m,o,e,f,l.1,g,i,j,b,k,d] r.2):PI (C90 s) K 24 [m,o,e,f,g,i,j,b,k,d] h:=zB H
def zVl (H :
 EvO (zv o) fun x1=>
 EvO (zD E 131 0 x1) fun L=>
 EvO (zG E 129 h L) fun S=>
 EvO (zD E 52 0 f) fun U=>
 EvO (zG E 3 h U) fun V=>
 EvO (zv o) fun x7=>
 EvO (zD E 131 0 x7) fun W=>
 EvO (zG E 129 h W) fun X=>
 EvO (zD E 52 0 f) fun q=>
 EvO (zG E 3 h q) fun r=>
 EvO (zE E 129 X r) fun t=>
 EvO (zG E 132 h t) fun u=>
 EvO (zD E 52 1 f) fun C=>
 EvO (zG E 3 h C) fun D=>
 EvO (zE E 47 p D) fun F=>
 EvO (zG E 3 h F) fun G=>
 EvO (zD E 52 2 f) fun J=>
 EvO (zG E 3 h J) fun M=>
 EvO (zAo E 134 (some [(0,G),(1,M)])) fun N=>
 Ev s (zd E 132 1 (some [(0,N)]) h) fun b=>
 EvO (zG E 132 b.2 t) fun e=>veq 100 e u=true ∧
 (EvO (zG E 3 b.2 q) fun d=>veq 100 d r=true ∧
 (EvO (zG E 129 b.2 W) fun k=>veq 100 k X=true ∧
 (EvO (zG E 3 b.2 U) fun j=>veq 100 j V=true ∧
 (EvO (zG E 129 b.2 L) fun i=>veq 100 i S=true ∧
 (Ev s (zAH E .append [132,132] [u,b.1] b.2) fun g=>
 EvO (zG E 3 g.2 U) fun m=>veq 100 m V=true ∧
 (EvO (zG E 129 g.2 L) fun l=>veq 100 l S=true ∧
 (EvO (zE E 129 S V) fun O=>
 Ev s (zf E 132 g.2 O g.1) fun Q=>
 PI (C90 s) K 26 [Y,Z,o,p,w,x,y,z,A,B] Q.2)))))))):PI (C90 s) K 25 [Y,Z,o,p,f,w,x,y,z,A,B] h:=zB H
def zVk (H :
 EvO (zC E .add 3 k (iI 1)) fun o=>
 PI (C90 s) K 23 [l,m,b,d,e,f,g,i,j,o] h):PI (C90 s) K 26 [l,m,b,d,e,f,g,i,j,k] h:=zB H
def zVj (H :
 Ev s (zd E 126 1 (some [(0,b)]) h) fun g=>
 Ev s (zAH E .append [126,126] [k,g.1] g.2) fun i=>
 PI (C90 s) K 28 [j,i.1,d,e,f] i.2):PI (C90 s) K 27 [j,k,b,d,e,f] h:=zB H
def zVi (H :
 EvO (zC E .add 3 e (iI 1)) fun i=>
 PI (C90 s) K 13 [f,g,b,d,i] h):PI (C90 s) K 28 [f,g,b,d,e] h:=zB H
def zVh (H :
 K .ret [b] h):PI (C90 s) K 29 [b] h:=zB H
theorem zgN (H:PI (C90 true) (KR E [.tmp 2] fun x k=>(zi x=false\/k.wm<h.next)/\Rp x ⟨k.t,k.next,cond (Nat.ble h.wm k.wm) h.wm k.wm⟩) 0 [v0] h.fresh):Ev true ((zY E).call 90 [v0] h) fun x=>Rp x.1 x.2:=zD5 Tryz.f90 (zAA (C90 true) H)
noncomputable def B94:Code:=zh Tryz.f94
noncomputable def C94 (s:Bool):Cx:=⟨E,s,none,B94,[([0],[0,1]),([1,0],[0,1]),([1,1,0],[0,1,5]),([1,1,1,0,0],[0,1,5,6]),([1,1,1,0,1,0,0,0],[6]),([1,1,1,0,1,0,0,1,0,0],[]),([1,1,1,0,1,0,1,0],[]),([1,1,1,1,0,0],[0,1,6]),([1,1,1,1,0,1,0,0],[]),([1,1,1,1,1,0,0],[0,1]),([1,1,1,1,1,0,1,0,0],[]),([1,1,1,1,1,1,0,0],[0,1]),([1,1,1,1,1,1,0,1,0,0],[]),([1,1,1,1,1,1,1,0],[])],[4],[]⟩
def zeA (H :
 PI (C94 s) K 1 [b,d] h):PI (C94 s) K 0 [b,d] h:=zB H
def zd9 (H :
 Ev s (zR (zY E) (some (.func (.func 154) #[] #[])) [b] h) fun d=>
 PI (C94 s) K 2 [b,e,d.1] d.2):PI (C94 s) K 1 [b,e] h:=zB H
def zd8 (H :
 Ev s (zR (zY E) (some (.func (.func 154) #[] #[])) [b] h) fun d=>
 PI (C94 s) K 3 [e,b,f,d.1] d.2):PI (C94 s) K 2 [e,b,f] h:=zB H
def zd7 (H :
 BrK f (PI (C94 s) K 4 [b] h) (PI (C94 s) K 7 [d,e,b] h)):PI (C94 s) K 3 [d,e,f,b] h:=zB H
def zd6 (H :
 BrK e (PI (C94 s) K 8 [] h) (PI (C94 s) K 9 [b,d] h)):PI (C94 s) K 7 [b,d,e] h:=zB H
def zd5 (H :
 EvO (zC E .lss 3 b d) fun e=>
 BrK e (PI (C94 s) K 10 [] h) (PI (C94 s) K 11 [b,d] h)):PI (C94 s) K 9 [b,d] h:=zB H
def zVL (H :
 K .ret [(iI (-1))] h):PI (C94 s) K 10 [] h:=zB H
def zVK (H :
 EvO (zC E .gtr 3 b d) fun e=>
 BrK e (PI (C94 s) K 12 [] h) (PI (C94 s) K 13 [] h)):PI (C94 s) K 11 [b,d] h:=zB H
def zVJ (H :
 K .ret [(iI 1)] h):PI (C94 s) K 12 [] h:=zB H
def zVI (H :
 K .ret [(iI 0)] h):PI (C94 s) K 13 [] h:=zB H
theorem zgM (aa:h.ok) (hv:zt v=true) (H:PI (C94 s) (KR E [.tmp 4] fun x k=>x=v/\h.next<=k.wm) 0 [v0,v1] h.fresh):(zY E).call 94 [v0,v1] h=some [(v,h)]:=zA3 Tryz.f94 aa hv (zAA (C94 s) H)
noncomputable def B105:Code:=zh Tryz.f105
noncomputable def zor (s:Bool):Cx:=⟨E,s,none,B105,[([0],[0]),([1,0],[0])],[2],[]⟩
def zcB (H :
 PI (zor s) K 1 [b] h):PI (zor s) K 0 [b] h:=zB H
def zcA (H :
 EvO (zC E .eql 3 d (iI 1)) fun b=>
 EvO (gdB b false d) fun e=>
 EvO (gdB b false (zC E .eql 3 e (iI 2))) fun f=>
 EvO (zAB b (some (.bool true)) f) fun g=>
 K .ret [g] h):PI (zor s) K 1 [d] h:=zB H
theorem zc8 (aa:h.ok) (hv:zt v=true) (H:PI (zor s) (KR E [.tmp 2] fun x k=>x=v/\h.next<=k.wm) 0 [v0] h.fresh):(zY E).call 105 [v0] h=some [(v,h)]:=zA3 Tryz.f105 aa hv (zAA (zor s) H)
noncomputable def zdE:Code:=zh Tryz.f121
noncomputable def zC5 (s:Bool):Cx:=⟨E,s,none,zdE,[([0],[0]),([1,0,0],[1]),([1,0,1,0,0],[]),([1,1,0,0],[1]),([1,1,0,1,0,0,0],[1,29,30,31]),([1,1,0,1,0,0,1,1,0,0,0],[1,29,30,31]),([1,1,0,1,0,0,1,1,0,0,1,0],[1,3,4,29,30,31]),([1,1,0,1,0,0,1,1,0,0,1,1,0,0],[]),([1,1,0,1,0,0,1,1,1],[1,29,30,31]),([1,1,1,0],[1]),([1,1,1,1,0,0],[1,5]),([1,1,1,1,0,1,0,0,0],[1,5,56,57,58]),([1,1,1,1,0,1,0,0,1,1,0,0,0],[1,5,56,57,58]),([1,1,1,1,0,1,0,0,1,1,0,0,1,0],[1,5,6,7,56,57,58]),([1,1,1,1,0,1,0,0,1,1,0,0,1,1,0,0],[]),([1,1,1,1,0,1,0,0,1,1,1],[1,5,56,57,58]),([1,1,1,1,1,0],[])],[2],[]⟩
abbrev zoW (s:Bool) (K:KF) (h:AH):Prop:=PI (zC5 s) K 2 [] h
abbrev zoV (s:Bool) (K:KF) (b:Value) (h:AH):Prop:=PI (zC5 s) K 3 [b] h
abbrev zoU (s:Bool) (K:KF) (f b d e:Value) (h:AH):Prop:=PI (zC5 s) K 4 [f,b,d,e] h
abbrev zoT (s:Bool) (K:KF) (h:AH):Prop:=PI (zC5 s) K 7 [] h
abbrev zoS (s:Bool) (K:KF) (f b d e:Value) (h:AH):Prop:=PI (zC5 s) K 8 [f,b,d,e] h
abbrev zkc (s:Bool) (K:KF) (f g b d e:Value) (h:AH):Prop:=PI (zC5 s) K 11 [f,g,b,d,e] h
abbrev zkb (s:Bool) (K:KF) (h:AH):Prop:=PI (zC5 s) K 14 [] h
abbrev zka (s:Bool) (K:KF) (f g b d e:Value) (h:AH):Prop:=PI (zC5 s) K 15 [f,g,b,d,e] h
def zbY (H :
 Ev s (zS 25 h d) fun b=>
 PI (zC5 s) K 1 [b.1] b.2):PI (zC5 s) K 0 [d] h:=zB H
def zbX (H :
 EvO (zD E 25 0 d) fun q=>
 EvO (zG E 3 h q) fun r=>
 EvO (zC E .lss 3 r (iI 1)) fun f=>
 EvO (gdB f false (zD E 25 0 d)) fun t=>
 EvO (gdB f false (zG E 3 h t)) fun u=>
 EvO (gdB f false (zC E .gtr 3 u (iI 20000))) fun w=>
 EvO (zAB f (some (.bool true)) w) fun e=>
 EvO (gdB e false (zD E 25 1 d)) fun x=>
 EvO (gdB e false (zG E 22 h x)) fun g=>
 EvO (gdB e false (zN E (zk [(18,g)]) (zo zdE [1,0,0] 11) h)) fun i=>
 EvO (gdB e false (zC E .gtr 3 i (iI 4000))) fun j=>
 EvO (zAB e (some (.bool true)) j) fun b=>
 EvO (gdB b false (zD E 25 2 d)) fun k=>
 EvO (gdB b false (zG E 23 h k)) fun l=>
 EvO (gdB b false (zN E (zk [(24,l)]) (zo zdE [1,0,0] 17) h)) fun m=>
 EvO (gdB b false (zC E .gtr 3 m (iI 100000))) fun o=>
 EvO (zAB b (some (.bool true)) o) fun p=>
 BrK p (PI (zC5 s) K 2 [] h) (PI (zC5 s) K 3 [d] h)):PI (zC5 s) K 1 [d] h:=zB H
theorem zNG:zN E (zk [(18,.slice a n c)]) (zo zdE [1,0,0] 11) h=some (iI (n:Int)):=by cases a <;> kernel_rfl
theorem zNF:zN E (zk [(24,.slice a n c)]) (zo zdE [1,0,0] 17) h=some (iI (n:Int)):=by cases a <;> kernel_rfl
def zbW (H :
 K .ret [(iI 8)] h):PI (zC5 s) K 2 [] h:=zB H
def zbV (H :
 EvO (zD E 25 1 b) fun e=>
 EvO (zG E 22 h e) fun d=>
 EvO (zN E (zk [(29,d)]) (zo zdE [1,1,0,0] 2) h) fun f=>
 PI (zC5 s) K 4 [b,d,f,(iI 0)] h):PI (zC5 s) K 3 [b] h:=zB H
theorem zQS:zN E (zk [(29,.slice a n c)]) (zo zdE [1,1,0,0] 2) h=some (iI (n:Int)):=by cases a <;> kernel_rfl
def zMR (H :
 EvO (zC E .lss 3 d b) fun g=>
 BrK g (PI (zC5 s) K 5 [f,e,b,d] h) (PI (zC5 s) K 9 [f] h)):PI (zC5 s) K 4 [f,e,b,d] h:=zB H
def zbU (H :
 EvO (zE E 22 d b) fun i=>
 EvO (zG E 36 h i) fun j=>
 Ev s (zS 36 h (z8 E 36)) fun f=>
 Ev s (zf E 36 f.2 f.1 j) fun k=>
 PI (zC5 s) K 6 [g,b,f.1,d,e,b] k.2):PI (zC5 s) K 5 [g,d,e,b] h:=zB H
def zbT (H :
 EvO (zG E 36 h w) fun x=>
 Ev s (zR (zY E) (some (.func (.func 167) #[] #[])) [x] h) fun e=>
 EvO (zC E .neq 29 e.1 (iI 0)) fun f=>
 EvO (gdB f false u) fun y=>
 EvO (gdB f false (zC E .gtr 3 y (iI 0))) fun z=>
 EvO (gdB f false z) fun b=>
 EvO (gdB b true (zD E 25 1 t)) fun A=>
 EvO (gdB b true (zG E 22 e.2 A)) fun B=>
 EvO (gdB b true u) fun C=>
 EvO (gdB b true (zC E .sub 3 C (iI 1))) fun k=>
 EvO (gdB b true (zE E 22 B k)) fun l=>
 EvO (gdB b true (zG E 36 e.2 l)) fun m=>
 EvO (gdB b true (zG E 36 e.2 w)) fun o=>
 Ev s (gdW b true (zR (zY E) (some (.func (.func 168) #[] #[])) [m,o] e.2) e.2) fun d=>
 EvO (gdB b true (zC E .geq 3 d.1 (iI 0))) fun p=>
 EvO (gdB f false (zAB b p (some (.bool false)))) fun q=>
 EvO (zAB f (some (.bool true)) q) fun r=>
 BrK r (PI (zC5 s) K 7 [] d.2) (PI (zC5 s) K 8 [t,g,i,j] d.2)):PI (zC5 s) K 6 [t,u,w,g,i,j] h:=zB H
def zbS (H :
 K .ret [(iI 8)] h):PI (zC5 s) K 7 [] h:=zB H
def zbR (H :
 EvO (zC E .add 3 e (iI 1)) fun g=>
 PI (zC5 s) K 4 [f,b,d,g] h):PI (zC5 s) K 8 [f,b,d,e] h:=zB H
def zbQ (H :
 PI (zC5 s) K 10 [b,(.func (.func 169) #[] #[])] h):PI (zC5 s) K 9 [b] h:=zB H
def zRm (H :
 EvO (zD E 25 2 b) fun f=>
 EvO (zG E 23 h f) fun d=>
 EvO (zN E (zk [(56,d)]) (zo zdE [1,1,1,1,0,0] 2) h) fun g=>
 PI (zC5 s) K 11 [b,e,d,g,(iI 0)] h):PI (zC5 s) K 10 [b,e] h:=zB H
theorem zNH:zN E (zk [(56,.slice a n c)]) (zo zdE [1,1,1,1,0,0] 2) h=some (iI (n:Int)):=by cases a <;> kernel_rfl
def zJN (H :
 EvO (zC E .lss 3 d b) fun i=>
 BrK i (PI (zC5 s) K 12 [f,g,e,b,d] h) (PI (zC5 s) K 16 [] h)):PI (zC5 s) K 11 [f,g,e,b,d] h:=zB H
def zRl (H :
 EvO (zE E 23 d b) fun j=>
 EvO (zG E 52 h j) fun k=>
 Ev s (zS 52 h (z8 E 52)) fun f=>
 Ev s (zf E 52 f.2 f.1 k) fun l=>
 PI (zC5 s) K 13 [g,i,b,f.1,d,e,b] l.2):PI (zC5 s) K 12 [g,i,d,e,b] h:=zB H
def zRk (H :
 EvO (zD E 52 0 o) fun Z=>
 EvO (zG E 3 h Z) fun x2=>
 EvO (zD E 25 0 k) fun x3=>
 EvO (zG E 3 h x3) fun x4=>
 Ev s (zR (zY E) m [x2,x4] h) fun l=>
 EvO (zAW .not l.1) fun i=>
 EvO (gdB i false m) fun x8=>
 EvO (gdB i false (zD E 52 2 o)) fun x9=>
 EvO (gdB i false (zG E 3 l.2 x9)) fun t=>
 EvO (gdB i false (zD E 25 0 k)) fun u=>
 EvO (gdB i false (zG E 3 l.2 u)) fun w=>
 Ev s (gdW i false (zR (zY E) x8 [t,w] l.2) l.2) fun e=>
 EvO (gdB i false (zAW .not e.1)) fun x=>
 EvO (zAB i (some (.bool true)) x) fun d=>
 EvO (gdB d false m) fun y=>
 EvO (gdB d false (zD E 52 1 o)) fun z=>
 EvO (gdB d false (zG E 3 e.2 z)) fun A=>
 EvO (gdB d false (zD E 25 1 k)) fun B=>
 EvO (gdB d false (zG E 22 e.2 B)) fun C=>
 EvO (gdB d false (zN E (zk [(84,C)]) (zo zdE [1,1,1,1,0,1,0,0,1,1,0,0,1,0] 22) e.2)) fun D=>
 Ev s (gdW d false (zR (zY E) y [A,D] e.2) e.2) fun f=>
 EvO (gdB d false (zAW .not f.1)) fun F=>
 EvO (zAB d (some (.bool true)) F) fun g=>
 EvO (gdB g false Y) fun G=>
 EvO (gdB g false (zC E .gtr 3 G (iI 0))) fun J=>
 EvO (gdB g false J) fun b=>
 EvO (gdB b true (zD E 25 2 k)) fun L=>
 EvO (gdB b true (zG E 23 f.2 L)) fun M=>
 EvO (gdB b true Y) fun N=>
 EvO (gdB b true (zC E .sub 3 N (iI 1))) fun O=>
 EvO (gdB b true (zE E 23 M O)) fun Q=>
 EvO (gdB b true (zG E 52 f.2 Q)) fun S=>
 EvO (gdB b true (zG E 52 f.2 o)) fun U=>
 Ev s (gdW b true (zR (zY E) (some (.func (.func 170) #[] #[])) [S,U] f.2) f.2) fun j=>
 EvO (gdB b true (zC E .geq 3 j.1 (iI 0))) fun V=>
 EvO (gdB g false (zAB b V (some (.bool false)))) fun W=>
 EvO (zAB g (some (.bool true)) W) fun X=>
 BrK X (PI (zC5 s) K 14 [] j.2) (PI (zC5 s) K 15 [k,m,p,q,r] j.2)):PI (zC5 s) K 13 [k,m,Y,o,p,q,r] h:=zB H
theorem zLC:zN E (zk [(84,.slice a n c)]) (zo zdE [1,1,1,1,0,1,0,0,1,1,0,0,1,0] 22) h=some (iI (n:Int)):=by cases a <;> kernel_rfl
def zRj (H :
 K .ret [(iI 8)] h):PI (zC5 s) K 14 [] h:=zB H
def zRi (H :
 EvO (zC E .add 3 e (iI 1)) fun i=>
 PI (zC5 s) K 11 [f,g,b,d,i] h):PI (zC5 s) K 15 [f,g,b,d,e] h:=zB H
def zRh (H :
 K .ret [(iI 0)] h):PI (zC5 s) K 16 [] h:=zB H
theorem zc3 (aa:h.ok) (hv:zt v=true) (H:PI (zC5 s) (KR E [.tmp 2] fun x k=>x=v/\h.next<=k.wm) 0 [v0] h.fresh):(zY E).call 121 [v0] h=some [(v,h)]:=zA3 Tryz.f121 aa hv (zAA (zC5 s) H)
noncomputable def B122:Code:=zh Tryz.f122
noncomputable def zoq (s:Bool):Cx:=⟨E,s,none,B122,[([0],[0,1]),([1,0],[2,3])],[4],[]⟩
def zbP (H :
 Ev s (zS 54 h e) fun b=>
 Ev s (zS 54 b.2 f) fun d=>
 PI (zoq s) K 1 [b.1,d.1] d.2):PI (zoq s) K 0 [e,f] h:=zB H
def zbO (H :
 EvO (zE E 54 i (some (iI 0))) fun q=>
 EvO (zG E 3 h q) fun r=>
 EvO (zE E 54 j (some (iI 0))) fun t=>
 EvO (zG E 3 h t) fun u=>
 EvO (zE E 54 i (some (iI 1))) fun k=>
 EvO (zG E 3 h k) fun l=>
 EvO (zE E 54 j (some (iI 1))) fun m=>
 EvO (zG E 3 h m) fun o=>
 Ev s (zR (zY E) (some (.func (.func 94) #[] #[])) [r,u] h) fun g=>
 EvO (zG E 3 g.2 m) fun d=>veq 100 d o=true ∧
 (EvO (zG E 3 g.2 k) fun b=>veq 100 b l=true ∧
 (Ev s (zR (zY E) (some (.func (.func 94) #[] #[])) [l,o] g.2) fun p=>
 Ev s (zd E 47 2 (some [(0,g.1),(1,p.1)]) p.2) fun e=>
 Ev s (zR (zY E) (some (.func (.func 171) #[] #[])) [e.1] e.2) fun f=>
 K .ret [f.1] f.2))):PI (zoq s) K 1 [i,j] h:=zB H
theorem zc2 (aa:h.ok) (hv:zt v=true) (H:PI (zoq s) (KR E [.tmp 4] fun x k=>x=v/\h.next<=k.wm) 0 [v0,v1] h.fresh):(zY E).call 122 [v0,v1] h=some [(v,h)]:=zA3 Tryz.f122 aa hv (zAA (zoq s) H)
noncomputable def B123:Code:=zh Tryz.f123
noncomputable def zop (s:Bool):Cx:=⟨E,s,none,B123,[([0],[0,1,2]),([1,0],[1,2,3])],[6],[]⟩
def zbN (H :
 Ev s (zS 176 h d) fun b=>
 PI (zop s) K 1 [e,f,b.1] b.2):PI (zop s) K 0 [d,e,f] h:=zB H
def zbM (H :
 EvO (zD E 176 2 e) fun f=>
 EvO (zG E 174 h f) fun g=>
 EvO (zAo E 54 (some [(0,b),(1,d)])) fun i=>
 EvO (zBI E 174 false g i h) fun j=>
 K .ret [j] h):PI (zop s) K 1 [b,d,e] h:=zB H
theorem zc1 (aa:h.ok) (hv:zt v=true) (H:PI (zop s) (KR E [.tmp 6] fun x k=>x=v/\h.next<=k.wm) 0 [v0,v1,v2] h.fresh):(zY E).call 123 [v0,v1,v2] h=some [(v,h)]:=zA3 Tryz.f123 aa hv (zAA (zop s) H)
noncomputable def zqu:Code:=zh Tryz.f124
noncomputable def zGR (s:Bool):Cx:=⟨E,s,none,zqu,[([0],[0,1]),([1,0,0],[2,3]),([1,0,1,0,0,0],[2,3,11]),([1,0,1,0,0,1,1,0,0],[2,3,11]),([1,0,1,0,0,1,1,0,1,0],[2,3,5,11]),([1,0,1,0,0,1,1,0,1,1,0,0,0],[2,3,5,11,25,26,27]),([1,0,1,0,0,1,1,0,1,1,0,0,1,1,0,0,0],[2,3,5,11,25,26,27]),([1,0,1,0,0,1,1,0,1,1,0,0,1,1,0,0,1,0],[2,3,5,7,11,25,26,27]),([1,0,1,0,0,1,1,0,1,1,0,0,1,1,0,0,1,1,0,0],[]),([1,0,1,0,0,1,1,0,1,1,0,0,1,1,1],[2,3,5,11,25,26,27]),([1,1,0],[])],[4],[]⟩
abbrev zoR (s:Bool) (K:KF) (d e b:Value) (h:AH):Prop:=PI (zGR s) K 2 [d,e,b] h
abbrev zoQ (s:Bool) (K:KF) (g i j b d e f:Value) (h:AH):Prop:=PI (zGR s) K 5 [g,i,j,b,d,e,f] h
def zbL (H :
 Ev s (zS 178 h e) fun b=>
 Ev s (zS 112 b.2 f) fun d=>
 PI (zGR s) K 1 [b.1,d.1] d.2):PI (zGR s) K 0 [e,f] h:=zB H
def zbK (H :
 EvO (zD E 178 0 b) fun f=>
 EvO (zD E 176 2 f) fun g=>
 EvO (zG E 174 h g) fun i=>
 Ev s (zGT i h) fun d=>
 PI (zGR s) K 2 [b,e,d.1] d.2):PI (zGR s) K 1 [b,e] h:=zB H
def zMQ (H :
 Ev s (zGh false b h) fun d=>
 EvO (ze 0 d.1) fun g=>
 BrK g (PI (zGR s) K 3 [e,f,b] d.2) (PI (zGR s) K 10 [] d.2)):PI (zGR s) K 2 [e,f,b] h:=zB H
def zbJ (H :
 EvO (zHJ b h) fun g=>
 EvO (ze 0 g) fun i=>
 Ev s (zS 54 h (z8 E 54)) fun d=>
 Ev s (zf E 54 d.2 d.1 i) fun j=>
 PI (zGR s) K 4 [e,f,d.1,b] j.2):PI (zGR s) K 3 [e,f,b] h:=zB H
def zbI (H :
 EvO (zD E 178 0 e) fun j=>
 EvO (zD E 176 0 j) fun k=>
 EvO (zG E 128 h k) fun l=>
 EvO (zv l) fun m=>
 EvO (zD E 131 0 m) fun o=>
 EvO (zG E 129 h o) fun p=>
 EvO (zE E 54 f (some (iI 0))) fun q=>
 EvO (zG E 3 h q) fun r=>
 EvO (zE E 129 p r) fun t=>
 EvO (zG E 132 h t) fun g=>
 EvO (zN E (zk [(25,g)]) (zo zqu [1,0,1,0,0,1,1,0,1,0] 10) h) fun d=>
 PI (zGR s) K 5 [e,i,f,b,g,d,(iI 0)] h):PI (zGR s) K 4 [e,i,f,b] h:=zB H
theorem zNE:zN E (zk [(25,.slice a n c)]) (zo zqu [1,0,1,0,0,1,1,0,1,0] 10) h=some (iI (n:Int)):=by cases a <;> kernel_rfl
def zMP (H :
 EvO (zC E .lss 3 e d) fun k=>
 BrK k (PI (zGR s) K 6 [g,i,j,b,f,d,e] h) (PI (zGR s) K 2 [g,i,b] h)):PI (zGR s) K 5 [g,i,j,b,f,d,e] h:=zB H
def zbH (H :
 EvO (zE E 132 b d) fun l=>
 EvO (zG E 134 h l) fun m=>
 Ev s (zS 134 h (z8 E 134)) fun g=>
 Ev s (zf E 134 g.2 g.1 m) fun o=>
 PI (zGR s) K 7 [i,j,k,g.1,e,b,f,d] o.2):PI (zGR s) K 6 [i,j,k,e,b,f,d] h:=zB H
def zbG (H :
 EvO (zD E 112 0 k) fun m=>
 EvO (zG E 109 h m) fun o=>
 EvO (zG E 178 h j) fun p=>
 EvO (zE E 54 g (some (iI 0))) fun q=>
 EvO (zG E 3 h q) fun r=>
 EvO (zE E 54 g (some (iI 1))) fun t=>
 EvO (zG E 3 h t) fun u=>
 EvO (zG E 134 h l) fun w=>
 Ev s (zR (zY E) o [p,r,u,w] h) fun i=>
 EvO (zAW .not i.1) fun x=>
 BrK x (PI (zGR s) K 8 [] i.2) (PI (zGR s) K 9 [j,k,g,b,d,e,f] i.2)):PI (zGR s) K 7 [j,k,g,l,b,d,e,f] h:=zB H
def zbF (H :
 K .ret [(.bool false)] h):PI (zGR s) K 8 [] h:=zB H
def zbE (H :
 EvO (zC E .add 3 f (iI 1)) fun k=>
 PI (zGR s) K 5 [g,i,j,b,d,e,k] h):PI (zGR s) K 9 [g,i,j,b,d,e,f] h:=zB H
def zRg (H :
 K .ret [(.bool true)] h):PI (zGR s) K 10 [] h:=zB H
theorem zc0 (aa:h.ok) (hv:zt v=true) (H:PI (zGR s) (KR E [.tmp 4] fun x k=>x=v/\h.next<=k.wm) 0 [v0,v1] h.fresh):(zY E).call 124 [v0,v1] h=some [(v,h)]:=zA3 Tryz.f124 aa hv (zAA (zGR s) H)
noncomputable def zrH:Code:=zh Tryz.f125
noncomputable def zMd (s:Bool):Cx:=⟨E,s,none,zrH,[([0],[0]),([1,0],[1,2]),([1,1,0,0],[1,2,3]),([1,1,0,1,0,0,0],[2,3,13]),([1,1,0,1,0,0,1,1,0,0],[2,3,13]),([1,1,0,1,0,0,1,1,0,1],[2,3,4,13]),([1,1,1,0],[2,3])],[2],[]⟩
abbrev zoP (s:Bool) (K:KF) (d e b:Value) (h:AH):Prop:=PI (zMd s) K 3 [d,e,b] h
def zh7 (s:Bool) (K:KF) (v0:Value) (h:AH):Prop:=
 Ev s (zS 176 h v0) fun x0=>
 Ev s (zS 176 x0.2 (z8 E 176)) fun x1=>
 PI (zMd s) K 1 [x0.1,x1.1] x1.2
def zbD (H:zh7 s K b h):PI (zMd s) K 0 [b] h:=zB H
def zh6 (s:Bool) (K:KF) (v1 v2:Value) (h:AH):Prop:=
 EvO (zD E 176 1 v1) fun x0=>
 EvO (zG E 128 h x0) fun x1=>
 EvO (zD E 176 0 v1) fun x2=>
 EvO (zG E 128 h x2) fun x3=>
 Ev s (one ((.map (some (h).next):Value),(h).new (.map [] 0))) fun x4=>
 EvO (zAo E 176 (some [(0,x1),(1,x3),(2,x4.1)])) fun x5=>
 Ev s (zS 176 x4.2 (z8 E 176)) fun x6=>
 Ev s (zf E 176 x6.2 x6.1 x5) fun x7=>
 PI (zMd s) K 2 [v1,v2,x6.1] x7.2
def zbC (H:zh6 s K b d h):PI (zMd s) K 1 [b,d] h:=zB H
def zh5 (s:Bool) (K:KF) (v1 v2 v3:Value) (h:AH):Prop:=
 EvO (zD E 176 2 v1) fun x0=>
 EvO (zG E 174 h x0) fun x1=>
 Ev s (zGT x1 h) fun x2=>
 PI (zMd s) K 3 [v2,v3,x2.1] x2.2
def zbB (H:zh5 s K b d e h):PI (zMd s) K 2 [b,d,e] h:=zB H
def zVH (s:Bool) (K:KF) (v2 v3 v13:Value) (h:AH):Prop:=
 Ev s (zGh false v13 h) fun x0=>
 EvO (ze 0 x0.1) fun x1=>
 BrK x1 (PI (zMd s) K 4 [v2,v3,v13] x0.2) (PI (zMd s) K 6 [v2,v3] x0.2)
def zMO (H:zVH s K d e b h):PI (zMd s) K 3 [d,e,b] h:=zB H
def zh4 (s:Bool) (K:KF) (v2 v3 v13:Value) (h:AH):Prop:=
 EvO (zHJ v13 h) fun x0=>
 EvO (ze 0 x0) fun x1=>
 Ev s (zS 54 h (z8 E 54)) fun x2=>
 Ev s (zf E 54 x2.2 x2.1 x1) fun x3=>
 PI (zMd s) K 5 [v2,v3,x2.1,v13] x3.2
def zbA (H:zh4 s K d e b h):PI (zMd s) K 4 [d,e,b] h:=zB H
def zh3 (s:Bool) (K:KF) (v2 v3 v4 v13:Value) (h:AH):Prop:=
 EvO (zD E 176 2 v3) fun x0=>
 EvO (zG E 174 h x0) fun x1=>
 EvO (zE E 54 v4 (some (iI 1))) fun x2=>
 EvO (zG E 3 h x2) fun x3=>
 EvO (zE E 54 v4 (some (iI 0))) fun x4=>
 EvO (zG E 3 h x4) fun x5=>
 EvO (zAo E 54 (some [(0,x3),(1,x5)])) fun x6=>
 Ev s (zAP E 174 x1 x6 (some (.bool true)) h) fun x7=>
 PI (zMd s) K 3 [v2,v3,v13] x7.2
def za9 (H:zh3 s K d e f b h):PI (zMd s) K 5 [d,e,f,b] h:=zB H
def zh2 (s:Bool) (K:KF) (v2 v3:Value) (h:AH):Prop:=
 EvO (zG E 176 h v3) fun x0=>
 Ev s (zf E 176 h v2 x0) fun x1=>
 K .ret [v2] x1.2
def za8 (H:zh2 s K b d h):PI (zMd s) K 6 [b,d] h:=zB H
theorem zkt (H:PI (zMd s) (KR E [.cell 2 176] Rp) 0 [v0] h):EvC E s Tryz.f125 [v0] h Rp:=zAA (zMd s) H
theorem zhA:E.tab.fn.get 125=some Tryz.f125:=by kernel_rfl
theorem zcz:Tryz.f125.body=some zrH:=by kernel_rfl
theorem zg9 (l:List Value) (h:AH):E.sum 125 l h=none:=by kernel_rfl
noncomputable def B128:Code:=zh Tryz.f128
noncomputable def zoo (s:Bool):Cx:=⟨E,s,none,B128,[([0],[0,2,3]),([1,0],[2,4,7])],[8],[]⟩
def za0 (H :
 Ev s (zS 178 h e) fun b=>
 Ev s (zS 134 b.2 g) fun d=>
 PI (zoo s) K 1 [f,b.1,d.1] d.2):PI (zoo s) K 0 [e,f,g] h:=zB H
def zaz (H :
 EvO (zD E 178 0 d) fun g=>
 EvO (zD E 176 1 g) fun i=>
 EvO (zG E 128 h i) fun j=>
 EvO (zv j) fun k=>
 EvO (zD E 131 0 k) fun l=>
 EvO (zG E 129 h l) fun m=>
 EvO (zE E 129 m e) fun o=>
 EvO (zG E 132 h o) fun p=>
 EvO (zBJ (.func 174) (some []) [f,d]) fun q=>
 Ev s (zR (zY E) (some (.func (.func 173) #[] #[])) [p,q] h) fun b=>
 K .ret [b.1] b.2):PI (zoo s) K 1 [e,d,f] h:=zB H
theorem zcx (aa:h.ok) (hv:zt v=true) (H:PI (zoo s) (KR E [.tmp 8] fun x k=>x=v/\h.next<=k.wm) 0 [v0,v2,v3] h.fresh):(zY E).call 128 [v0,v1,v2,v3] h=some [(v,h)]:=zA3 Tryz.f128 aa hv (zAA (zoo s) H)
noncomputable def ziG:Code:=zh Tryz.f130
theorem zg8:E.tab.fn.get 130=some Tryz.f130:=by kernel_rfl
theorem zcw:Tryz.f130.body=some ziG:=by kernel_rfl
theorem zg7 (l:List Value) (h:AH):E.sum 130 l h=none:=by kernel_rfl
noncomputable def B143:Code:=zh Tryz.f143
noncomputable def zH9 (s:Bool):Cx:=⟨E,s,none,B143,[([0],[0,1]),([1,0,0],[0,3]),([1,0,1,0,0],[]),([1,1,0],[0,3]),([1,1,1,0,0],[0,3,5,6]),([1,1,1,0,1,0],[0,3,5]),([1,1,1,1,0],[5])],[4],[]⟩
abbrev ziD (s:Bool) (K:KF) (b d:Value) (h:AH):Prop:=PI (zH9 s) K 0 [b,d] h
abbrev zoF (s:Bool) (K:KF) (b d:Value) (h:AH):Prop:=PI (zH9 s) K 1 [b,d] h
abbrev zoE (s:Bool) (K:KF) (b d e f:Value) (h:AH):Prop:=PI (zH9 s) K 4 [b,d,e,f] h
abbrev zoD (s:Bool) (K:KF) (b:Value) (h:AH):Prop:=PI (zH9 s) K 6 [b] h
def zac (H :
 Ev s (zS 36 h e) fun b=>
 PI (zH9 s) K 1 [d,b.1] b.2):PI (zH9 s) K 0 [d,e] h:=zB H
def zMK (H :
 EvO (zD E 36 0 b) fun e=>
 EvO (zG E 3 h e) fun f=>
 EvO (zC E .eql 3 f (iI (-1))) fun g=>
 BrK g (PI (zH9 s) K 2 [] h) (PI (zH9 s) K 3 [d,b] h)):PI (zH9 s) K 1 [d,b] h:=zB H
def zab (H :
 K .ret [(iI 0)] h):PI (zH9 s) K 2 [] h:=zB H
def zaa (H :
 EvO (zv d) fun f=>
 EvO (zD E 197 0 f) fun g=>
 EvO (zG E 22 h g) fun i=>
 EvO (zG E 36 h e) fun j=>
 Ev s (zR (zY E) (some (.func (.func 190) #[] #[])) (some [i,j,(.func (.func 168) #[] #[])]) h) fun b=>
 EvO (ze 0 b.1) fun k=>
 EvO (ze 1 b.1) fun l=>
 PI (zH9 s) K 4 [d,e,k,l] b.2):PI (zH9 s) K 3 [d,e] h:=zB H
def zMJ (H :
 EvO (zAW .not f) fun g=>
 BrK g (PI (zH9 s) K 5 [d,e,b] h) (PI (zH9 s) K 6 [b] h)):PI (zH9 s) K 4 [d,e,b,f] h:=zB H
def zaZ (H :
 EvO (zv g) fun o=>
 EvO (zD E 197 0 o) fun j=>
 EvO (zG E 22 h j) fun k=>
 EvO (zG E 36 h m) fun p=>
 Ev s (zd E 22 1 (some [(0,p)]) h) fun f=>
 EvO (zG E 22 f.2 j) fun b=>veq 100 b k=true ∧
 (Ev s (zR (zY E) (some (.func (.func 191) #[] #[])) [k,i,f.1] f.2) fun l=>
 EvO (zv g) fun q=>
 EvO (zD E 197 0 q) fun d=>
 Ev s (zf E 22 l.2 d l.1) fun e=>
 PI (zH9 s) K 6 [i] e.2)):PI (zH9 s) K 5 [g,m,i] h:=zB H
def zaY (H :
 EvO (zC E .add 3 b (iI 1)) fun d=>
 K .ret [d] h):PI (zH9 s) K 6 [b] h:=zB H
theorem zJU (aa:h.ok) (hv:zi v=true) (H:PI (zH9 true) (KR E [.tmp 4] fun x k=>x=v/\h.next<=k.wm) 0 [v0,v1] h.fresh):(zY E).call 143 [v0,v1] h=some [(v,h)]:=zIs Tryz.f143 aa hv (zAA (zH9 true) H)
theorem zct (H:PI (zH9 true) (KR E [.tmp 4] fun x k=>(zi x=false\/k.wm<h.next)/\Rp x ⟨k.t,k.next,cond (Nat.ble h.wm k.wm) h.wm k.wm⟩) 0 [v0,v1] h.fresh):Ev true ((zY E).call 143 [v0,v1] h) fun x=>Rp x.1 x.2:=zD5 Tryz.f143 (zAA (zH9 true) H)
noncomputable def B154:Code:=zh Tryz.f154
noncomputable def zon (s:Bool):Cx:=⟨E,s,none,B154,[([0],[0]),([1,0],[0])],[2],[]⟩
def zZM (H :
 PI (zon s) K 1 [b] h):PI (zon s) K 0 [b] h:=zB H
def zZL (H :
 EvO (zC E .neq 3 b b) fun d=>
 K .ret [d] h):PI (zon s) K 1 [b] h:=zB H
theorem zck (aa:h.ok) (hv:zt v=true) (H:PI (zon s) (KR E [.tmp 2] fun x k=>x=v/\h.next<=k.wm) 0 [v0] h.fresh):(zY E).call 154 [v0] h=some [(v,h)]:=zA3 Tryz.f154 aa hv (zAA (zon s) H)
noncomputable def zov:Code:=zh Tryz.f167
noncomputable def zPg (s:Bool):Cx:=⟨E,s,none,zov,[([0],[0]),([1,0],[1]),([1,1,0,0],[1,3]),([1,1,0,1,0,0],[]),([1,1,1,0],[])],[2],[]⟩
abbrev znw (s:Bool) (K:KF) (b d:Value) (h:AH):Prop:=PI (zPg s) K 2 [b,d] h
abbrev znv (s:Bool) (K:KF) (h:AH):Prop:=PI (zPg s) K 3 [] h
abbrev znu (s:Bool) (K:KF) (h:AH):Prop:=PI (zPg s) K 4 [] h
def zZK (H :
 Ev s (zS 36 h d) fun b=>
 PI (zPg s) K 1 [b.1] b.2):PI (zPg s) K 0 [d] h:=zB H
def zZJ (H :
 EvO (zD E 36 0 d) fun e=>
 EvO (zG E 3 h e) fun f=>
 EvO (zC E .eql 3 f (iI (-3))) fun b=>
 EvO (gdB b false (zD E 36 0 d)) fun g=>
 EvO (gdB b false (zG E 3 h g)) fun i=>
 EvO (gdB b false (zC E .eql 3 i (iI (-1)))) fun j=>
 EvO (zAB b (some (.bool true)) j) fun k=>
 PI (zPg s) K 2 [d,k] h):PI (zPg s) K 1 [d] h:=zB H
def zZI (H :
 EvO (zD E 36 0 g) fun A=>
 EvO (zG E 3 h A) fun B=>
 EvO (zC E .lss 3 B (iI (-3))) fun j=>
 EvO (gdB j false (zD E 36 0 g)) fun C=>
 EvO (gdB j false (zG E 3 h C)) fun D=>
 EvO (gdB j false (zC E .geq 3 D (iI 32))) fun F=>
 EvO (zAB j (some (.bool true)) F) fun i=>
 EvO (gdB i false (zD E 36 1 g)) fun G=>
 EvO (gdB i false (zG E 34 h G)) fun k=>
 EvO (gdB i false (zN E (zk [(22,k)]) (zo zov [1,1,0,0] 11) h)) fun l=>
 EvO (gdB i false (zC E .gtr 3 l (iI 8))) fun m=>
 EvO (zAB i (some (.bool true)) m) fun d=>
 EvO (gdB d false z) fun o=>
 EvO (gdB d false o) fun b=>
 EvO (gdB b true (zD E 36 1 g)) fun p=>
 EvO (gdB b true (zG E 34 h p)) fun q=>
 EvO (gdB b true (zN E (zk [(30,q)]) (zo zov [1,1,0,0] 19) h)) fun r=>
 EvO (gdB b true (zC E .gtr 3 r (iI 0))) fun t=>
 EvO (gdB d false (zAB b t (some (.bool false)))) fun u=>
 EvO (zAB d (some (.bool true)) u) fun e=>
 EvO (gdB e false (zD E 36 1 g)) fun w=>
 EvO (gdB e false (zG E 34 h w)) fun x=>
 Ev s (gdW e false (zR (zY E) (some (.func (.func 215) #[] #[])) (some [x,(.func (.func 216) #[] #[])]) h) h) fun f=>
 EvO (zAB e (some (.bool true)) f.1) fun y=>
 BrK y (PI (zPg s) K 3 [] f.2) (PI (zPg s) K 4 [] f.2)):PI (zPg s) K 2 [g,z] h:=zB H
theorem zDk:zN E (zk [(22,.slice a n c)]) (zo zov [1,1,0,0] 11) h=some (iI (n:Int)):=by cases a <;> kernel_rfl
theorem zE5:zN E (zk [(30,.slice a n c)]) (zo zov [1,1,0,0] 19) h=some (iI (n:Int)):=by cases a <;> kernel_rfl
def zZH (H :
 K .ret [(iI 170)] h):PI (zPg s) K 3 [] h:=zB H
def zZG (H :
 K .ret [(iI 0)] h):PI (zPg s) K 4 [] h:=zB H
theorem zcj (aa:h.ok) (hv:zt v=true) (H:PI (zPg s) (KR E [.tmp 2] fun x k=>x=v/\h.next<=k.wm) 0 [v0] h.fresh):(zY E).call 167 [v0] h=some [(v,h)]:=zA3 Tryz.f167 aa hv (zAA (zPg s) H)
noncomputable def B168:Code:=zh Tryz.f168
noncomputable def zom (s:Bool):Cx:=⟨E,s,none,B168,[([0],[0,1]),([1,0],[2,3])],[4],[]⟩
def zZF (H :
 Ev s (zS 36 h e) fun b=>
 Ev s (zS 36 b.2 f) fun d=>
 PI (zom s) K 1 [b.1,d.1] d.2):PI (zom s) K 0 [e,f] h:=zB H
def zZE (H :
 EvO (zD E 36 0 i) fun q=>
 EvO (zG E 3 h q) fun r=>
 EvO (zD E 36 0 j) fun t=>
 EvO (zG E 3 h t) fun u=>
 EvO (zD E 36 1 i) fun k=>
 EvO (zG E 34 h k) fun l=>
 EvO (zD E 36 1 j) fun m=>
 EvO (zG E 34 h m) fun o=>
 Ev s (zR (zY E) (some (.func (.func 94) #[] #[])) [r,u] h) fun g=>
 EvO (zG E 34 g.2 m) fun d=>veq 100 d o=true ∧
 (EvO (zG E 34 g.2 k) fun b=>veq 100 b l=true ∧
 (Ev s (zR (zY E) (some (.func (.func 218) #[] #[])) (some [l,o,(.func (.func 219) #[] #[])]) g.2) fun p=>
 Ev s (zd E 47 2 (some [(0,g.1),(1,p.1)]) p.2) fun e=>
 Ev s (zR (zY E) (some (.func (.func 171) #[] #[])) [e.1] e.2) fun f=>
 K .ret [f.1] f.2))):PI (zom s) K 1 [i,j] h:=zB H
theorem zci (aa:h.ok) (hv:zt v=true) (H:PI (zom s) (KR E [.tmp 4] fun x k=>x=v/\h.next<=k.wm) 0 [v0,v1] h.fresh):(zY E).call 168 [v0,v1] h=some [(v,h)]:=zA3 Tryz.f168 aa hv (zAA (zom s) H)
noncomputable def B169:Code:=zh Tryz.f169
noncomputable def zol (s:Bool):Cx:=⟨E,s,none,B169,[([0],[0,1]),([1,0],[0,1])],[4],[]⟩
def zZD (H :
 PI (zol s) K 1 [b,d] h):PI (zol s) K 0 [b,d] h:=zB H
def zZC (H :
 EvO (zC E .geq 3 d (iI 0)) fun b=>
 EvO (gdB b true d) fun f=>
 EvO (gdB b true e) fun g=>
 EvO (gdB b true (zC E .lss 3 f g)) fun i=>
 EvO (zAB b i (some (.bool false))) fun j=>
 K .ret [j] h):PI (zol s) K 1 [d,e] h:=zB H
theorem zch (aa:h.ok) (hv:zt v=true) (H:PI (zol s) (KR E [.tmp 4] fun x k=>x=v/\h.next<=k.wm) 0 [v0,v1] h.fresh):(zY E).call 169 [v0,v1] h=some [(v,h)]:=zA3 Tryz.f169 aa hv (zAA (zol s) H)
noncomputable def B170:Code:=zh Tryz.f170
noncomputable def zok (s:Bool):Cx:=⟨E,s,none,B170,[([0],[0,1]),([1,0],[2,3])],[4],[]⟩
def zZB (H :
 Ev s (zS 52 h e) fun b=>
 Ev s (zS 52 b.2 f) fun d=>
 PI (zok s) K 1 [b.1,d.1] d.2):PI (zok s) K 0 [e,f] h:=zB H
def zZA (H :
 EvO (zD E 52 0 u) fun B=>
 EvO (zG E 3 h B) fun C=>
 EvO (zD E 52 0 w) fun D=>
 EvO (zG E 3 h D) fun F=>
 EvO (zD E 52 1 u) fun x=>
 EvO (zG E 3 h x) fun y=>
 EvO (zD E 52 1 w) fun z=>
 EvO (zG E 3 h z) fun A=>
 EvO (zD E 52 2 u) fun g=>
 EvO (zG E 3 h g) fun i=>
 EvO (zD E 52 2 w) fun j=>
 EvO (zG E 3 h j) fun k=>
 Ev s (zR (zY E) (some (.func (.func 94) #[] #[])) [C,F] h) fun l=>
 EvO (zG E 3 l.2 j) fun d=>veq 100 d k=true ∧
 (EvO (zG E 3 l.2 g) fun b=>veq 100 b i=true ∧
 (EvO (zG E 3 l.2 z) fun o=>veq 100 o A=true ∧
 (EvO (zG E 3 l.2 x) fun m=>veq 100 m y=true ∧
 (Ev s (zR (zY E) (some (.func (.func 94) #[] #[])) [y,A] l.2) fun t=>
 EvO (zG E 3 t.2 j) fun f=>veq 100 f k=true ∧
 (EvO (zG E 3 t.2 g) fun e=>veq 100 e i=true ∧
 (Ev s (zR (zY E) (some (.func (.func 94) #[] #[])) [i,k] t.2) fun p=>
 Ev s (zd E 47 3 (some [(0,l.1),(1,t.1),(2,p.1)]) p.2) fun q=>
 Ev s (zR (zY E) (some (.func (.func 171) #[] #[])) [q.1] q.2) fun r=>
 K .ret [r.1] r.2))))))):PI (zok s) K 1 [u,w] h:=zB H
theorem zcg (aa:h.ok) (hv:zt v=true) (H:PI (zok s) (KR E [.tmp 4] fun x k=>x=v/\h.next<=k.wm) 0 [v0,v1] h.fresh):(zY E).call 170 [v0,v1] h=some [(v,h)]:=zA3 Tryz.f170 aa hv (zAA (zok s) H)
noncomputable def zqs:Code:=zh Tryz.f171
noncomputable def zIK (s:Bool):Cx:=⟨E,s,none,zqs,[([0],[0]),([1,0],[0]),([1,1,0,0],[0,3]),([1,1,0,1,0,0,0],[3,6,7,8]),([1,1,0,1,0,0,1,1,0,0,0],[3,6,7,8]),([1,1,0,1,0,0,1,1,0,0,1,0],[3,5,6,7,8]),([1,1,0,1,0,0,1,1,0,0,1,1,0,0],[5]),([1,1,0,1,0,0,1,1,1],[3,6,7,8]),([1,1,1,0],[3])],[2],[]⟩
abbrev znt (s:Bool) (K:KF) (b d e f:Value) (h:AH):Prop:=PI (zIK s) K 3 [b,d,e,f] h
def zY9 (H :
 PI (zIK s) K 1 [b] h):PI (zIK s) K 0 [b] h:=zB H
def zY8 (H :
 PI (zIK s) K 2 [b,(iI 0)] h):PI (zIK s) K 1 [b] h:=zB H
def zY7 (H :
 EvO (zN E (zk [(6,b)]) (zo zqs [1,1,0,0] 1) h) fun e=>
 PI (zIK s) K 3 [d,b,e,(iI 0)] h):PI (zIK s) K 2 [b,d] h:=zB H
theorem zQM:zN E (zk [(6,.slice a n c)]) (zo zqs [1,1,0,0] 1) h=some (iI (n:Int)):=by cases a <;> kernel_rfl
def zL5 (H :
 EvO (zC E .lss 3 e d) fun g=>
 BrK g (PI (zIK s) K 4 [b,f,d,e] h) (PI (zIK s) K 8 [b] h)):PI (zIK s) K 3 [b,f,d,e] h:=zB H
def zY6 (H :
 EvO (zE E 47 b d) fun g=>
 EvO (zG E 3 h g) fun i=>
 PI (zIK s) K 5 [e,i,b,f,d] h):PI (zIK s) K 4 [e,b,f,d] h:=zB H
def zY5 (H :
 EvO (zC E .neq 3 d b) fun i=>
 BrK i (PI (zIK s) K 6 [d] h) (PI (zIK s) K 7 [b,e,f,g] h)):PI (zIK s) K 5 [b,d,e,f,g] h:=zB H
def zY4 (H :
 K .ret [b] h):PI (zIK s) K 6 [b] h:=zB H
def zY3 (H :
 EvO (zC E .add 3 f (iI 1)) fun g=>
 PI (zIK s) K 3 [b,d,e,g] h):PI (zIK s) K 7 [b,d,e,f] h:=zB H
def zY2 (H :
 K .ret [b] h):PI (zIK s) K 8 [b] h:=zB H
theorem zcf (aa:h.ok) (hv:zt v=true) (H:PI (zIK s) (KR E [.tmp 2] fun x k=>x=v/\h.next<=k.wm) 0 [v0] h.fresh):(zY E).call 171 [v0] h=some [(v,h)]:=zA3 Tryz.f171 aa hv (zAA (zIK s) H)
noncomputable def B173:Code:=zh Tryz.f173
noncomputable def zoj (s:Bool):Cx:=⟨E,s,none,B173,[([0],[0,1]),([1,0],[0,1])],[4],[]⟩
def zY1 (H :
 PI (zoj s) K 1 [b,d] h):PI (zoj s) K 0 [b,d] h:=zB H
def zY0 (H :
 Ev s (zR (zY E) (some (.func (.func 220) #[] #[])) [d,e] h) fun b=>
 EvO (zC E .geq 3 b.1 (iI 0)) fun f=>
 K .ret [f] b.2):PI (zoj s) K 1 [d,e] h:=zB H
theorem zce (aa:h.ok) (hv:zt v=true) (H:PI (zoj s) (KR E [.tmp 4] fun x k=>x=v/\h.next<=k.wm) 0 [v0,v1] h.fresh):(zY E).call 173 [v0,v1] h=some [(v,h)]:=zA3 Tryz.f173 aa hv (zAA (zoj s) H)
noncomputable def B174:Code:=zh Tryz.f174
noncomputable def zoi (s:Bool):Cx:=⟨E,s,none,B174,[([0],[0,1,2]),([1,0],[1,2,3])],[4],[]⟩
def zYz (H :
 Ev s (zS 134 h d) fun b=>
 PI (zoi s) K 1 [e,f,b.1] b.2):PI (zoi s) K 0 [d,e,f] h:=zB H
def zYy (H :
 EvO (zD E 134 0 j) fun l=>
 EvO (zG E 3 h l) fun m=>
 EvO (zD E 134 0 i) fun o=>
 EvO (zG E 3 h o) fun p=>
 EvO (zC E .eql 3 m p) fun b=>
 EvO (gdB b true (zD E 178 0 k)) fun q=>
 EvO (gdB b true (zG E 176 h q)) fun r=>
 EvO (gdB b true (zD E 134 1 i)) fun t=>
 EvO (gdB b true (zG E 3 h t)) fun u=>
 EvO (gdB b true (zD E 134 1 j)) fun e=>
 EvO (gdB b true (zG E 3 h e)) fun f=>
 Ev s (gdW b true (zR (zY E) (some (.func (.func 123) #[] #[])) [r,u,f] h) h) fun d=>
 EvO (zAB b d.1 (some (.bool false))) fun g=>
 K .ret [g] d.2):PI (zoi s) K 1 [i,k,j] h:=zB H
theorem zcd (aa:h.ok) (hv:zt v=true) (H:PI (zoi s) (KR E [.tmp 4] fun x k=>x=v/\h.next<=k.wm) 0 [v0,v1,v2] h.fresh):(zY E).call 174 [v0,v1,v2] h=some [(v,h)]:=zA3 Tryz.f174 aa hv (zAA (zoi s) H)
noncomputable def B178:Code:=zh Tryz.f178
noncomputable def zoh (s:Bool):Cx:=⟨E,s,none,B178,[([0],[0,1]),([1,0],[2,3])],[4],[]⟩
def zYx (H :
 Ev s (zS 128 h e) fun b=>
 Ev s (zS 3 b.2 f) fun d=>
 PI (zoh s) K 1 [b.1,d.1] d.2):PI (zoh s) K 0 [e,f] h:=zB H
def zYw (H :
 EvO (zBJ (.func 222) (some []) [d,b]) fun e=>
 K .ret [e] h):PI (zoh s) K 1 [b,d] h:=zB H
theorem zcc (H:PI (zoh true) (KR E [.tmp 4] fun x k=>(zi x=false\/k.wm<h.next)/\Rp x ⟨k.t,k.next,cond (Nat.ble h.wm k.wm) h.wm k.wm⟩) 0 [v0,v1] h.fresh):Ev true ((zY E).call 178 [v0,v1] h) fun x=>Rp x.1 x.2:=zD5 Tryz.f178 (zAA (zoh true) H)
noncomputable def zhF:Code:=zh Tryz.f190
noncomputable def zH8 (s:Bool):Cx:=⟨E,s,none,zhF,[([0],[0,1,2]),([1,0],[0,2,4]),([1,1,0],[0,2,4,8]),([1,1,1,0,0,0,0,0],[0,2,4,8,9,10]),([1,1,1,0,0,0,1,0,0],[0,2,4,8,9,10]),([1,1,1,0,0,0,1,0,1,0],[0,2,4,8,9,10,11]),([1,1,1,0,0,0,1,0,1,1,0],[0,2,4,8,10,11]),([1,1,1,0,0,0,1,0,1,1,1],[0,2,4,8,9,11]),([1,1,1,1,0],[0,2,4,8,9])],[6,7],[]⟩
abbrev zns (s:Bool) (K:KF) (d e f g i b:Value) (h:AH):Prop:=PI (zH8 s) K 3 [d,e,f,g,i,b] h
def zYm (H :
 Ev s (zS 36 h e) fun b=>
 PI (zH8 s) K 1 [d,f,b.1] b.2):PI (zH8 s) K 0 [d,e,f] h:=zB H
def zYl (H :
 EvO (zN E (zk [(12,b)]) (zo zhF [1,0] 1) h) fun f=>
 PI (zH8 s) K 2 [b,d,e,f] h):PI (zH8 s) K 1 [b,d,e] h:=zB H
theorem zQJ:zN E (zk [(12,.slice a n c)]) (zo zhF [1,0] 1) h=some (iI (n:Int)):=by cases a <;> kernel_rfl
def zYk (H :
 PI (zH8 s) K 3 [d,e,f,b,(iI 0),b] h):PI (zH8 s) K 2 [d,e,f,b] h:=zB H
def zL3 (H :
 EvO (zC E .lss 3 d b) fun j=>
 BrK j (PI (zH8 s) K 4 [e,f,g,i,d,b] h) (PI (zH8 s) K 8 [e,f,g,i,d] h)):PI (zH8 s) K 3 [e,f,g,i,d,b] h:=zB H
def zYj (H :
 EvO (zC E .add 3 d b) fun j=>
 EvO (zN E (zk [(20,j)]) (zo zhF [1,1,1,0,0,0,1,0,0] 3) h) fun k=>
 EvO (zp E (zk [(21,k)]) (zo zhF [1,1,1,0,0,0,1,0,0] 4)) fun l=>
 EvO (zN E (zk [(22,l)]) (zo zhF [1,1,1,0,0,0,1,0,0] 5) h) fun m=>
 PI (zH8 s) K 5 [e,f,g,i,d,b,m] h):PI (zH8 s) K 4 [e,f,g,i,d,b] h:=zB H
def zYi (H :
 EvO (zE E 22 d b) fun l=>
 EvO (zG E 36 h l) fun m=>
 EvO (zG E 36 h g) fun o=>
 Ev s (zR (zY E) f [m,o] h) fun i=>
 EvO (zC E .lss 3 i.1 (iI 0)) fun p=>
 BrK p (PI (zH8 s) K 6 [d,f,g,j,e,b] i.2) (PI (zH8 s) K 7 [d,f,g,j,k,b] i.2)):PI (zH8 s) K 5 [d,f,g,j,k,e,b] h:=zB H
def zYh (H :
 EvO (zC E .add 3 d (iI 1)) fun j=>
 PI (zH8 s) K 3 [e,f,g,i,j,b] h):PI (zH8 s) K 6 [e,f,g,i,b,d] h:=zB H
def zYg (H :
 PI (zH8 s) K 3 [d,e,f,g,i,b] h):PI (zH8 s) K 7 [d,e,f,g,i,b] h:=zB H
def zVG (s:Bool) (K:KF) (v0 v2 v4 v8 v9:Value) (h:AH):Prop:=
 EvO (zC E .lss 3 v9 v8) fun x3=>
 EvO (gdB x3 true v2) fun x5=>
 EvO (gdB x3 true v0) fun x6=>
 EvO (gdB x3 true v9) fun x7=>
 EvO (gdB x3 true (zE E 22 x6 x7)) fun x8=>
 EvO (gdB x3 true (zG E 36 h x8)) fun x9=>
 EvO (gdB x3 true (zG E 36 h v4)) fun x10=>
 Ev s (gdW x3 true (zR (zY E) x5 [x9,x10] h) h) fun x11=>
 EvO (gdB x3 true (zC E .eql 3 x11.1 (iI 0))) fun x12=>
 EvO (zAB x3 x12 (some (.bool false))) fun x13=>
 K .ret [v9,x13] x11.2
def zL2 (H:zVG s K b d e f g h):PI (zH8 s) K 8 [b,d,e,f,g] h:=zB H
theorem zSB {Rp:Value->Prop} (aa:h.ok) (H:PI (zH8 true) (KR E [.tmp 6,.tmp 7] fun x k=>(zi x=true/\Rp x)/\h.next<=k.wm) 0 [v0,v1,v2] h.fresh):∃ v,Rp v/\(zY E).call 190 [v0,v1,v2] h=some [(v,h)]:=zDT Tryz.f190 aa (zAA (zH8 true) H)
noncomputable def ziF:Code:=zh Tryz.f191
noncomputable def zKa (s:Bool):Cx:=⟨E,s,none,ziF,[([0],[0,1,2]),([1,0],[0,1,2]),([1,1,0],[0,1,2]),([1,1,1,0,0],[0,1,2,7]),([1,1,1,0,1,0,0],[0]),([1,1,1,1,0],[0,1,2,7]),([1,1,1,1,1,0,0],[0,1,2,7,8]),([1,1,1,1,1,0,1,0,0],[0,2]),([1,1,1,1,1,1,0,0],[0,1,2,7,8]),([1,1,1,1,1,1,0,1,0,0],[0,1,2,7,8]),([1,1,1,1,1,1,0,1,0,1,0],[0,1,2,7,9]),([1,1,1,1,1,1,0,1,0,1,1,0],[0,1,7,9]),([1,1,1,1,1,1,0,1,0,1,1,1,0],[9]),([1,1,1,1,1,1,1,0],[0,1,2,7,8]),([1,1,1,1,1,1,1,1,0,0],[0,1,2,7,8]),([1,1,1,1,1,1,1,1,0,1,0,0],[0,1,2,7]),([1,1,1,1,1,1,1,1,0,1,0,1,0],[0,1,2]),([1,1,1,1,1,1,1,1,0,1,0,1,1,0],[0]),([1,1,1,1,1,1,1,1,1,0],[0,1,2,7,8]),([1,1,1,1,1,1,1,1,1,1,0],[0,1,7]),([1,1,1,1,1,1,1,1,1,1,1,0],[0])],[6],[]⟩
abbrev znr (s:Bool) (K:KF) (b d e:Value) (h:AH):Prop:=PI (zKa s) K 0 [b,d,e] h
def zYf (H :
 PI (zKa s) K 1 [b,d,e] h):PI (zKa s) K 0 [b,d,e] h:=zB H
def zYe (H :
 EvO (zp E (zk [(10,b),(11,d)]) (zo ziF [1,0] 2)) fun f=>
 PI (zKa s) K 2 [b,d,e] h):PI (zKa s) K 1 [b,d,e] h:=zB H
def zYd (H :
 EvO (zN E (zk [(13,b)]) (zo ziF [1,1,0] 1) h) fun f=>
 PI (zKa s) K 3 [d,e,b,f] h):PI (zKa s) K 2 [d,e,b] h:=zB H
theorem zQI:zN E (zk [(13,.slice a n c)]) (zo ziF [1,1,0] 1) h=some (iI (n:Int)):=by cases a <;> kernel_rfl
def zYc (H :
 EvO (zC E .eql 3 d (iI 0)) fun g=>
 BrK g (PI (zKa s) K 4 [b] h) (PI (zKa s) K 5 [b,e,f,d] h)):PI (zKa s) K 3 [b,e,f,d] h:=zB H
def zYb (H :
 EvO (zN E (zk [(18,b)]) (zo ziF [1,1,1,1,0] 1) h) fun g=>
 PI (zKa s) K 6 [b,d,e,f,g] h):PI (zKa s) K 5 [b,d,e,f] h:=zB H
theorem zQH:zN E (zk [(18,.slice a n c)]) (zo ziF [1,1,1,1,0] 1) h=some (iI (n:Int)):=by cases a <;> kernel_rfl
def zYa (H :
 EvO (zC E .eql 3 d f) fun i=>
 BrK i (PI (zKa s) K 7 [b,e] h) (PI (zKa s) K 8 [b,d,e,g,f] h)):PI (zKa s) K 6 [b,d,e,g,f] h:=zB H
def zYZ (H :
 Ev s (zAH E .append [22,22] [d,e] h) fun b=>
 K .ret [b.1] b.2):PI (zKa s) K 7 [d,e] h:=zB H
theorem zkl (H:PI (zKa s) (KR E [.tmp 6] Rp) 0 [v0,v1,v2] h):EvC E s Tryz.f191 [v0,v1,v2] h Rp:=zAA (zKa s) H
theorem zPf:E.tab.fn.get 191=some Tryz.f191:=by kernel_rfl
theorem zMb:Tryz.f191.body=some ziF:=by kernel_rfl
noncomputable def B215:Code:=zh Tryz.f215
noncomputable def zod (s:Bool):Cx:=⟨E,s,none,B215,[([0],[0,1]),([1,0],[0,1])],[4],[]⟩
def zYE (H :
 PI (zod s) K 1 [b,d] h):PI (zod s) K 0 [b,d] h:=zB H
def zYD (H :
 Ev s (zR (zY E) (some (.func (.func 243) #[] #[])) [d,e] h) fun b=>
 EvO (zC E .geq 3 b.1 (iI 0)) fun f=>
 K .ret [f] b.2):PI (zod s) K 1 [d,e] h:=zB H
theorem zcW (aa:h.ok) (hv:zt v=true) (H:PI (zod s) (KR E [.tmp 4] fun x k=>x=v/\h.next<=k.wm) 0 [v0,v1] h.fresh):(zY E).call 215 [v0,v1] h=some [(v,h)]:=zA3 Tryz.f215 aa hv (zAA (zod s) H)
noncomputable def B216:Code:=zh Tryz.f216
noncomputable def zoc (s:Bool):Cx:=⟨E,s,none,B216,[([0],[0]),([1,0],[1])],[2],[]⟩
def zYC (H :
 Ev s (zS 173 h d) fun b=>
 PI (zoc s) K 1 [b.1] b.2):PI (zoc s) K 0 [d] h:=zB H
def zYB (H :
 EvO (zG E 173 h d) fun e=>
 Ev s (zR (zY E) (some (.func (.func 217) #[] #[])) [e] h) fun b=>
 EvO (zAW .not b.1) fun f=>
 K .ret [f] b.2):PI (zoc s) K 1 [d] h:=zB H
theorem zcV (aa:h.ok) (hv:zt v=true) (H:PI (zoc s) (KR E [.tmp 2] fun x k=>x=v/\h.next<=k.wm) 0 [v0] h.fresh):(zY E).call 216 [v0] h=some [(v,h)]:=zA3 Tryz.f216 aa hv (zAA (zoc s) H)
noncomputable def B217:Code:=zh Tryz.f217
noncomputable def zN6 (s:Bool):Cx:=⟨E,s,none,B217,[([0],[0]),([1,0,0],[1]),([1,0,1,0],[1,3]),([1,0,1,1,0,0],[]),([1,1,0],[1]),([1,1,1,0],[1,5]),([1,1,1,1,0],[1,5])],[2],[]⟩
def zYA (H :
 Ev s (zS 173 h d) fun b=>
 PI (zN6 s) K 1 [b.1] b.2):PI (zN6 s) K 0 [d] h:=zB H
def zX9 (H :
 EvO (zG E 173 h d) fun e=>
 Ev s (zR (zY E) (some (.func (.func 244) #[] #[])) [e] h) fun b=>
 EvO (ze 0 b.1) fun f=>
 EvO (ze 1 b.1) fun g=>
 PI (zN6 s) K 2 [d,f] b.2):PI (zN6 s) K 1 [d] h:=zB H
def zX8 (H :
 EvO (zC E .gtr 3 d (iI 2000)) fun e=>
 BrK e (PI (zN6 s) K 3 [] h) (PI (zN6 s) K 4 [b] h)):PI (zN6 s) K 2 [b,d] h:=zB H
def zX7 (H :
 K .ret [(.bool false)] h):PI (zN6 s) K 3 [] h:=zB H
def zX6 (H :
 Ev s (zS 247 h (z8 E 247)) fun b=>
 PI (zN6 s) K 5 [d,b.1] b.2):PI (zN6 s) K 4 [d] h:=zB H
def zX5 (H :
 EvO (zBJ (.func 245) (some []) [b]) fun e=>
 Ev s (zf E 247 h b e) fun f=>
 PI (zN6 s) K 6 [d,b] f.2):PI (zN6 s) K 5 [d,b] h:=zB H
def zX4 (H :
 EvO (zG E 247 h e) fun f=>
 EvO (zG E 173 h d) fun g=>
 Ev s (zR (zY E) f [g] h) fun b=>
 K .ret [b.1] b.2):PI (zN6 s) K 6 [d,e] h:=zB H
theorem zcU (aa:h.ok) (hv:zt v=true) (H:PI (zN6 s) (KR E [.tmp 2] fun x k=>x=v/\h.next<=k.wm) 0 [v0] h.fresh):(zY E).call 217 [v0] h=some [(v,h)]:=zA3 Tryz.f217 aa hv (zAA (zN6 s) H)
noncomputable def B218:Code:=zh Tryz.f218
noncomputable def zob (s:Bool):Cx:=⟨E,s,none,B218,[([0],[0,1,2]),([1,0],[0,1,2])],[6],[]⟩
def zX3 (H :
 PI (zob s) K 1 [b,d,e] h):PI (zob s) K 0 [b,d,e] h:=zB H
def zX2 (H :
 Ev s (zR (zY E) (some (.func (.func 247) #[] #[])) [d,e,f] h) fun b=>
 K .ret [b.1] b.2):PI (zob s) K 1 [d,e,f] h:=zB H
theorem zcT (aa:h.ok) (hv:zt v=true) (H:PI (zob s) (KR E [.tmp 6] fun x k=>x=v/\h.next<=k.wm) 0 [v0,v1,v2] h.fresh):(zY E).call 218 [v0,v1,v2] h=some [(v,h)]:=zA3 Tryz.f218 aa hv (zAA (zob s) H)
noncomputable def zhE:Code:=zh Tryz.f219
noncomputable def zSI (s:Bool):Cx:=⟨E,s,none,zhE,[([0],[0,1]),([1,0,0],[2,3]),([1,0,1,0],[2,3,5]),([1,0,1,1,0,0],[5]),([1,1,0],[2,3])],[4],[]⟩
abbrev zno (s:Bool) (K:KF) (b:Value) (h:AH):Prop:=PI (zSI s) K 3 [b] h
abbrev znn (s:Bool) (K:KF) (b d:Value) (h:AH):Prop:=PI (zSI s) K 4 [b,d] h
def zX1 (H :
 Ev s (zS 173 h e) fun b=>
 Ev s (zS 173 b.2 f) fun d=>
 PI (zSI s) K 1 [b.1,d.1] d.2):PI (zSI s) K 0 [e,f] h:=zB H
def zX0 (H :
 EvO (zD E 173 0 B) fun L=>
 EvO (zG E 3 h L) fun M=>
 EvO (zD E 173 0 C) fun N=>
 EvO (zG E 3 h N) fun O=>
 EvO (zD E 173 1 B) fun D=>
 EvO (zG E 3 h D) fun F=>
 EvO (zD E 173 1 C) fun G=>
 EvO (zG E 3 h G) fun J=>
 EvO (zD E 173 2 B) fun p=>
 EvO (zG E 34 h p) fun b=>
 EvO (zN E (zk [(17,b)]) (zo zhE [1,0,0] 12) h) fun q=>
 EvO (zD E 173 2 C) fun r=>
 EvO (zG E 34 h r) fun d=>
 EvO (zN E (zk [(20,d)]) (zo zhE [1,0,0] 15) h) fun t=>
 Ev s (zR (zY E) (some (.func (.func 94) #[] #[])) [M,O] h) fun e=>
 EvO (zN E (zk [(20,d)]) (zo zhE [1,0,0] 15) e.2) fun j=>veq 100 j t=true ∧
 (EvO (zG E 34 e.2 r) fun i=>veq 100 i d=true ∧
 (EvO (zN E (zk [(17,b)]) (zo zhE [1,0,0] 12) e.2) fun g=>veq 100 g q=true ∧
 (EvO (zG E 34 e.2 p) fun f=>veq 100 f b=true ∧
 (EvO (zG E 3 e.2 G) fun x=>veq 100 x J=true ∧
 (EvO (zG E 3 e.2 D) fun w=>veq 100 w F=true ∧
 (Ev s (zR (zY E) (some (.func (.func 94) #[] #[])) [F,J] e.2) fun u=>
 EvO (zN E (zk [(20,d)]) (zo zhE [1,0,0] 15) u.2) fun o=>veq 100 o t=true ∧
 (EvO (zG E 34 u.2 r) fun m=>veq 100 m d=true ∧
 (EvO (zN E (zk [(17,b)]) (zo zhE [1,0,0] 12) u.2) fun l=>veq 100 l q=true ∧
 (EvO (zG E 34 u.2 p) fun k=>veq 100 k b=true ∧
 (Ev s (zR (zY E) (some (.func (.func 94) #[] #[])) [q,t] u.2) fun y=>
 Ev s (zd E 47 3 (some [(0,e.1),(1,u.1),(2,y.1)]) y.2) fun z=>
 Ev s (zR (zY E) (some (.func (.func 171) #[] #[])) [z.1] z.2) fun A=>
 PI (zSI s) K 2 [B,C,A.1] A.2))))))))))):PI (zSI s) K 1 [B,C] h:=zB H
theorem zNB:zN E (zk [(17,.slice a n c)]) (zo zhE [1,0,0] 12) h=some (iI (n:Int)):=by cases a <;> kernel_rfl
theorem zNA:zN E (zk [(20,.slice a n c)]) (zo zhE [1,0,0] 15) h=some (iI (n:Int)):=by cases a <;> kernel_rfl
def zXz (H :
 EvO (zC E .neq 3 b (iI 0)) fun f=>
 BrK f (PI (zSI s) K 3 [b] h) (PI (zSI s) K 4 [d,e] h)):PI (zSI s) K 2 [d,e,b] h:=zB H
def zXy (H :
 K .ret [b] h):PI (zSI s) K 3 [b] h:=zB H
def zXx (H :
 EvO (zD E 173 2 d) fun f=>
 EvO (zG E 34 h f) fun g=>
 EvO (zD E 173 2 e) fun i=>
 EvO (zG E 34 h i) fun j=>
 Ev s (zR (zY E) (some (.func (.func 247) #[] #[])) (some [g,j,(.func (.func 219) #[] #[])]) h) fun b=>
 K .ret [b.1] b.2):PI (zSI s) K 4 [d,e] h:=zB H
theorem zcS (aa:h.ok) (hv:zt v=true) (H:PI (zSI s) (KR E [.tmp 4] fun x k=>x=v/\h.next<=k.wm) 0 [v0,v1] h.fresh):(zY E).call 219 [v0,v1] h=some [(v,h)]:=zA3 Tryz.f219 aa hv (zAA (zSI s) H)
noncomputable def zqr:Code:=zh Tryz.f220
noncomputable def zKX (s:Bool):Cx:=⟨E,s,none,zqr,[([0],[0,1]),([1,0,0],[0,1]),([1,0,1,0,0,0],[0,1,7,8]),([1,0,1,0,0,1,1,0,0,0],[0,1,7,8]),([1,0,1,0,0,1,1,0,0,1,0],[0,1,5,7,8]),([1,0,1,0,0,1,1,0,0,1,1,0,0],[5]),([1,0,1,0,0,1,1,1],[0,1,7,8]),([1,1,0],[])],[4],[]⟩
abbrev znm (s:Bool) (K:KF) (b d e f:Value) (h:AH):Prop:=PI (zKX s) K 2 [b,d,e,f] h
def zXw (H :
 PI (zKX s) K 1 [b,d] h):PI (zKX s) K 0 [b,d] h:=zB H
def zXv (H :
 EvO (zN E (zk [(6,b)]) (zo zqr [1,0,0] 1) h) fun e=>
 PI (zKX s) K 2 [b,d,e,(iI 0)] h):PI (zKX s) K 1 [b,d] h:=zB H
theorem zIf:zN E (zk [(6,.slice a n c)]) (zo zqr [1,0,0] 1) h=some (iI (n:Int)):=by cases a <;> kernel_rfl
def zLz (H :
 EvO (zC E .lss 3 d b) fun g=>
 BrK g (PI (zKX s) K 3 [e,f,b,d] h) (PI (zKX s) K 7 [] h)):PI (zKX s) K 2 [e,f,b,d] h:=zB H
def zXu (H :
 PI (zKX s) K 4 [d,e,b,f,b] h):PI (zKX s) K 3 [d,e,f,b] h:=zB H
def zXt (H :
 EvO (zE E 132 d f) fun j=>
 EvO (zG E 134 h j) fun k=>
 Ev s (zR (zY E) e [k] h) fun b=>
 BrK b.1 (PI (zKX s) K 5 [f] b.2) (PI (zKX s) K 6 [d,e,g,i] b.2)):PI (zKX s) K 4 [d,e,f,g,i] h:=zB H
def zXs (H :
 K .ret [b] h):PI (zKX s) K 5 [b] h:=zB H
def zXr (H :
 EvO (zC E .add 3 f (iI 1)) fun g=>
 PI (zKX s) K 2 [b,d,e,g] h):PI (zKX s) K 6 [b,d,e,f] h:=zB H
def zXq (H :
 K .ret [(iI (-1))] h):PI (zKX s) K 7 [] h:=zB H
theorem zcR (aa:h.ok) (hv:zt v=true) (H:PI (zKX s) (KR E [.tmp 4] fun x k=>x=v/\h.next<=k.wm) 0 [v0,v1] h.fresh):(zY E).call 220 [v0,v1] h=some [(v,h)]:=zA3 Tryz.f220 aa hv (zAA (zKX s) H)
noncomputable def zqq:Code:=zh Tryz.f243
noncomputable def zKW (s:Bool):Cx:=⟨E,s,none,zqq,[([0],[0,1]),([1,0,0],[0,1]),([1,0,1,0,0,0],[0,1,7,8]),([1,0,1,0,0,1,1,0,0,0],[0,1,7,8]),([1,0,1,0,0,1,1,0,0,1,0],[0,1,5,7,8]),([1,0,1,0,0,1,1,0,0,1,1,0,0],[5]),([1,0,1,0,0,1,1,1],[0,1,7,8]),([1,1,0],[])],[4],[]⟩
abbrev znd (s:Bool) (K:KF) (b d e f:Value) (h:AH):Prop:=PI (zKW s) K 2 [b,d,e,f] h
def zXL (H :
 PI (zKW s) K 1 [b,d] h):PI (zKW s) K 0 [b,d] h:=zB H
def zXK (H :
 EvO (zN E (zk [(6,b)]) (zo zqq [1,0,0] 1) h) fun e=>
 PI (zKW s) K 2 [b,d,e,(iI 0)] h):PI (zKW s) K 1 [b,d] h:=zB H
theorem zId:zN E (zk [(6,.slice a n c)]) (zo zqq [1,0,0] 1) h=some (iI (n:Int)):=by cases a <;> kernel_rfl
def zLt (H :
 EvO (zC E .lss 3 d b) fun g=>
 BrK g (PI (zKW s) K 3 [e,f,b,d] h) (PI (zKW s) K 7 [] h)):PI (zKW s) K 2 [e,f,b,d] h:=zB H
def zXJ (H :
 PI (zKW s) K 4 [d,e,b,f,b] h):PI (zKW s) K 3 [d,e,f,b] h:=zB H
def zXI (H :
 EvO (zE E 34 d f) fun j=>
 EvO (zG E 173 h j) fun k=>
 Ev s (zR (zY E) e [k] h) fun b=>
 BrK b.1 (PI (zKW s) K 5 [f] b.2) (PI (zKW s) K 6 [d,e,g,i] b.2)):PI (zKW s) K 4 [d,e,f,g,i] h:=zB H
def zXH (H :
 K .ret [b] h):PI (zKW s) K 5 [b] h:=zB H
def zXG (H :
 EvO (zC E .add 3 f (iI 1)) fun g=>
 PI (zKW s) K 2 [b,d,e,g] h):PI (zKW s) K 6 [b,d,e,f] h:=zB H
def zXF (H :
 K .ret [(iI (-1))] h):PI (zKW s) K 7 [] h:=zB H
theorem zcM (aa:h.ok) (hv:zt v=true) (H:PI (zKW s) (KR E [.tmp 4] fun x k=>x=v/\h.next<=k.wm) 0 [v0,v1] h.fresh):(zY E).call 243 [v0,v1] h=some [(v,h)]:=zA3 Tryz.f243 aa hv (zAA (zKW s) H)
noncomputable def B244:Code:=zh Tryz.f244
noncomputable def zSF (s:Bool):Cx:=⟨E,s,none,B244,[([0],[0]),([1,0],[1]),([1,1,0,0],[1,4]),([1,1,0,1,0],[4]),([1,1,0,1,1,0,0],[]),([1,1,1,0],[4])],[2,3],[]⟩
def zXE (H :
 Ev s (zS 173 h d) fun b=>
 PI (zSF s) K 1 [b.1] b.2):PI (zSF s) K 0 [d] h:=zB H
def zXD (H :
 Ev s (zS 306 h (z8 E 306)) fun b=>
 PI (zSF s) K 2 [d,b.1] b.2):PI (zSF s) K 1 [d] h:=zB H
def zXC (H :
 EvO (zG E 173 h d) fun e=>
 Ev s (zR (zY E) (some (.func (.func 268) #[] #[])) (some [b,e,(iI 1)]) h) fun f=>
 PI (zSF s) K 3 [b] f.2):PI (zSF s) K 2 [d,b] h:=zB H
def zXB (H :
 Ev s (zR (zY E) (some (.func (.func 269) #[] #[])) [d] h) fun b=>
 BrK b.1 (PI (zSF s) K 4 [] b.2) (PI (zSF s) K 5 [d] b.2)):PI (zSF s) K 3 [d] h:=zB H
def zXA (H :
 K .ret [(iI 2001),(iI 201)] h):PI (zSF s) K 4 [] h:=zB H
def zW9 (H :
 EvO (zD E 306 0 b) fun d=>
 EvO (zG E 3 h d) fun e=>
 EvO (zD E 306 1 b) fun f=>
 EvO (zG E 3 h f) fun g=>
 K .ret [e,g] h):PI (zSF s) K 5 [b] h:=zB H
theorem zR6 (aa:h.ok) (hv:zi v=true) (H:PI (zSF true) (KR E [.tmp 2,.tmp 3] fun x k=>x=v/\h.next<=k.wm) 0 [v0] h.fresh):(zY E).call 244 [v0] h=some [(v,h)]:=zIs Tryz.f244 aa hv (zAA (zSF true) H)
noncomputable def zqp:Code:=zh Tryz.f245
noncomputable def zoa (s:Bool):Cx:=⟨E,s,none,zqp,[([0],[0,1]),([1,0],[1,2])],[3],[]⟩
def zW8 (H :
 Ev s (zS 173 h d) fun b=>
 PI (zoa s) K 1 [e,b.1] b.2):PI (zoa s) K 0 [d,e] h:=zB H
def zW7 (H :
 EvO (zD E 173 0 e) fun y=>
 EvO (zG E 3 h y) fun z=>
 EvO (zC E .eql 3 z (iI 2)) fun g=>
 EvO (gdB g true (zD E 173 1 e)) fun A=>
 EvO (gdB g true (zG E 3 h A)) fun B=>
 EvO (gdB g true (zC E .geq 3 B (iI 0))) fun C=>
 EvO (zAB g C (some (.bool false))) fun i=>
 EvO (gdB i true (zD E 173 1 e)) fun D=>
 EvO (gdB i true (zG E 3 h D)) fun j=>
 EvO (gdB i true (zC E .lss 3 j (iI 256))) fun k=>
 EvO (zAB i k (some (.bool false))) fun d=>
 EvO (gdB d true (zD E 173 2 e)) fun l=>
 EvO (gdB d true (zG E 34 h l)) fun m=>
 EvO (gdB d true (zN E (zk [(19,m)]) (zo zqp [1,0] 16) h)) fun o=>
 EvO (gdB d true (zC E .leq 3 o (iI 8))) fun p=>
 EvO (zAB d p (some (.bool false))) fun b=>
 EvO (gdB b true (zD E 173 2 e)) fun q=>
 EvO (gdB b true (zG E 34 h q)) fun r=>
 EvO (gdB b true (zBJ (.func 246) (some []) [x])) fun t=>
 Ev s (gdW b true (zR (zY E) (some (.func (.func 215) #[] #[])) [r,t] h) h) fun f=>
 EvO (gdB b true (zAW .not f.1)) fun u=>
 EvO (zAB b u (some (.bool false))) fun w=>
 K .ret [w] f.2):PI (zoa s) K 1 [x,e] h:=zB H
theorem zHY:zN E (zk [(19,.slice a n c)]) (zo zqp [1,0] 16) h=some (iI (n:Int)):=by cases a <;> kernel_rfl
theorem zcL (aa:h.ok) (hv:zt v=true) (H:PI (zoa s) (KR E [.tmp 3] fun x k=>x=v/\h.next<=k.wm) 0 [v0,v1] h.fresh):(zY E).call 245 [v0,v1] h=some [(v,h)]:=zA3 Tryz.f245 aa hv (zAA (zoa s) H)
noncomputable def B246:Code:=zh Tryz.f246
noncomputable def zoZ (s:Bool):Cx:=⟨E,s,none,B246,[([0],[0,1]),([1,0],[1,2])],[3],[]⟩
def zW6 (H :
 Ev s (zS 173 h d) fun b=>
 PI (zoZ s) K 1 [e,b.1] b.2):PI (zoZ s) K 0 [d,e] h:=zB H
def zW5 (H :
 EvO (zG E 247 h d) fun f=>
 EvO (zG E 173 h e) fun g=>
 Ev s (zR (zY E) f [g] h) fun b=>
 EvO (zAW .not b.1) fun i=>
 K .ret [i] b.2):PI (zoZ s) K 1 [d,e] h:=zB H
theorem zcK (aa:h.ok) (hv:zt v=true) (H:PI (zoZ s) (KR E [.tmp 3] fun x k=>x=v/\h.next<=k.wm) 0 [v0,v1] h.fresh):(zY E).call 246 [v0,v1] h=some [(v,h)]:=zA3 Tryz.f246 aa hv (zAA (zoZ s) H)
noncomputable def zhD:Code:=zh Tryz.f247
noncomputable def zFF (s:Bool):Cx:=⟨E,s,none,zhD,[([0],[0,1,2]),([1,0,0],[0,1,2]),([1,0,1,0,0,0],[0,1,2,11,12,13]),([1,0,1,0,0,1,1,0,0,0],[0,1,2,11,12,13]),([1,0,1,0,0,1,1,0,0,1,0,0],[0,1,2,7,8,11,12,13]),([1,0,1,0,0,1,1,0,0,1,0,1,0,0],[]),([1,0,1,0,0,1,1,0,0,1,1,0],[0,1,2,7,8,11,12,13]),([1,0,1,0,0,1,1,0,0,1,1,1,0],[0,1,2,8,9,11,12,13]),([1,0,1,0,0,1,1,0,0,1,1,1,1,0],[0,1,2,10,11,12,13]),([1,0,1,0,0,1,1,0,0,1,1,1,1,1,0,0],[10]),([1,0,1,0,0,1,1,1],[0,1,2,11,12,13]),([1,1,0,0],[0,1]),([1,1,0,1,0,0],[]),([1,1,1,0],[])],[6],[]⟩
abbrev znc (s:Bool) (K:KF) (f g i b d e:Value) (h:AH):Prop:=PI (zFF s) K 2 [f,g,i,b,d,e] h
def zW4 (H :
 PI (zFF s) K 1 [b,d,e] h):PI (zFF s) K 0 [b,d,e] h:=zB H
def zW3 (H :
 EvO (zN E (zk [(11,b)]) (zo zhD [1,0,0] 1) h) fun f=>
 PI (zFF s) K 2 [b,d,e,b,f,(iI 0)] h):PI (zFF s) K 1 [b,d,e] h:=zB H
theorem zQG:zN E (zk [(11,.slice a n c)]) (zo zhD [1,0,0] 1) h=some (iI (n:Int)):=by cases a <;> kernel_rfl
def zLs (H :
 EvO (zC E .lss 3 d b) fun j=>
 BrK j (PI (zFF s) K 3 [f,g,i,e,b,d] h) (PI (zFF s) K 11 [f,g] h)):PI (zFF s) K 2 [f,g,i,e,b,d] h:=zB H
def zW2 (H :
 EvO (zE E 34 d b) fun k=>
 EvO (zG E 173 h k) fun l=>
 Ev s (zS 173 h (z8 E 173)) fun f=>
 Ev s (zf E 173 f.2 f.1 l) fun m=>
 PI (zFF s) K 4 [g,i,j,b,f.1,d,e,b] m.2):PI (zFF s) K 3 [g,i,j,d,e,b] h:=zB H
def zW1 (H :
 EvO (zN E (zk [(19,f)]) (zo zhD [1,0,1,0,0,1,1,0,0,1,0,0] 2) h) fun l=>
 EvO (zC E .geq 3 g l) fun m=>
 BrK m (PI (zFF s) K 5 [] h) (PI (zFF s) K 6 [i,f,j,g,k,b,d,e] h)):PI (zFF s) K 4 [i,f,j,g,k,b,d,e] h:=zB H
theorem zQF:zN E (zk [(19,.slice a n c)]) (zo zhD [1,0,1,0,0,1,1,0,0,1,0,0] 2) h=some (iI (n:Int)):=by cases a <;> kernel_rfl
def zW0 (H :
 K .ret [(iI 1)] h):PI (zFF s) K 5 [] h:=zB H
def zWz (H :
 EvO (zE E 34 g k) fun m=>
 EvO (zG E 173 h m) fun o=>
 Ev s (zS 173 h (z8 E 173)) fun f=>
 Ev s (zf E 173 f.2 f.1 o) fun p=>
 PI (zFF s) K 7 [i,g,j,l,f.1,b,d,e] p.2):PI (zFF s) K 6 [i,g,j,k,l,b,d,e] h:=zB H
def zWy (H :
 EvO (zG E 173 h k) fun m=>
 EvO (zG E 173 h l) fun o=>
 Ev s (zR (zY E) f [m,o] h) fun g=>
 PI (zFF s) K 8 [i,j,f,g.1,b,d,e] g.2):PI (zFF s) K 7 [i,j,f,k,l,b,d,e] h:=zB H
def zWx (H :
 EvO (zC E .neq 3 b (iI 0)) fun k=>
 BrK k (PI (zFF s) K 9 [b] h) (PI (zFF s) K 10 [g,i,j,d,e,f] h)):PI (zFF s) K 8 [g,i,j,b,d,e,f] h:=zB H
def zWw (H :
 K .ret [b] h):PI (zFF s) K 9 [b] h:=zB H
def zQw (H :
 EvO (zC E .add 3 e (iI 1)) fun j=>
 PI (zFF s) K 2 [f,g,i,b,d,j] h):PI (zFF s) K 10 [f,g,i,b,d,e] h:=zB H
def zQv (H :
 EvO (zN E (zk [(34,b)]) (zo zhD [1,1,0,0] 1) h) fun e=>
 EvO (zN E (zk [(36,d)]) (zo zhD [1,1,0,0] 3) h) fun f=>
 EvO (zC E .lss 3 e f) fun g=>
 BrK g (PI (zFF s) K 12 [] h) (PI (zFF s) K 13 [] h)):PI (zFF s) K 11 [b,d] h:=zB H
theorem zM7:zN E (zk [(34,.slice a n c)]) (zo zhD [1,1,0,0] 1) h=some (iI (n:Int)):=by cases a <;> kernel_rfl
theorem zM6:zN E (zk [(36,.slice a n c)]) (zo zhD [1,1,0,0] 3) h=some (iI (n:Int)):=by cases a <;> kernel_rfl
def zQu (H :
 K .ret [(iI (-1))] h):PI (zFF s) K 12 [] h:=zB H
def zQt (H :
 K .ret [(iI 0)] h):PI (zFF s) K 13 [] h:=zB H
theorem zcJ (aa:h.ok) (hv:zt v=true) (H:PI (zFF s) (KR E [.tmp 6] fun x k=>x=v/\h.next<=k.wm) 0 [v0,v1,v2] h.fresh):(zY E).call 247 [v0,v1,v2] h=some [(v,h)]:=zA3 Tryz.f247 aa hv (zAA (zFF s) H)
noncomputable def zos:Code:=zh Tryz.f268
noncomputable def zH7 (s:Bool):Cx:=⟨E,s,none,zos,[([0],[0,1,2]),([1,0],[0,2,4]),([1,1,0],[0,2,4]),([1,1,1,0],[0,2,4]),([1,1,1,1,0,0,0],[0,2,25,26,27]),([1,1,1,1,0,0,1,1,0,0,0],[0,2,25,26,27]),([1,1,1,1,0,0,1,1,0,0,1,0,0],[0,2,7,25,26,27]),([1,1,1,1,0,0,1,1,0,0,1,1],[0,2,7,25,26,27]),([1,1,1,1,0,0,1,1,1],[0,2,25,26,27])],[],[]⟩
abbrev znb (s:Bool) (K:KF) (f g b d e:Value) (h:AH):Prop:=PI (zH7 s) K 4 [f,g,b,d,e] h
abbrev zna (s:Bool) (K:KF) (f g i b d e:Value) (h:AH):Prop:=PI (zH7 s) K 7 [f,g,i,b,d,e] h
def zWs (H :
 Ev s (zS 173 h e) fun b=>
 PI (zH7 s) K 1 [d,f,b.1] b.2):PI (zH7 s) K 0 [d,e,f] h:=zB H
def zWr (H :
 EvO (zv b) fun f=>
 EvO (zD E 306 0 f) fun g=>
 EvO (zG E 3 h g) fun i=>
 EvO (zC E .add 3 i (iI 1)) fun j=>
 EvO (zv b) fun k=>
 EvO (zD E 306 0 k) fun l=>
 Ev s (zf E 3 h l j) fun m=>
 PI (zH7 s) K 2 [b,d,e] m.2):PI (zH7 s) K 1 [b,d,e] h:=zB H
def zWq (H :
 EvO (zv b) fun f=>
 EvO (zD E 306 1 f) fun g=>
 EvO (zG E 3 h g) fun i=>
 EvO (zN E (zk [(19,i),(20,d)]) (zo zos [1,1,0] 6) h) fun j=>
 EvO (zv b) fun k=>
 EvO (zD E 306 1 k) fun l=>
 Ev s (zf E 3 h l j) fun m=>
 PI (zH7 s) K 3 [b,d,e] m.2):PI (zH7 s) K 2 [b,d,e] h:=zB H
def zWp (H :
 EvO (zD E 173 2 f) fun g=>
 EvO (zG E 34 h g) fun b=>
 EvO (zN E (zk [(25,b)]) (zo zos [1,1,1,0] 2) h) fun i=>
 PI (zH7 s) K 4 [d,e,b,i,(iI 0)] h):PI (zH7 s) K 3 [d,e,f] h:=zB H
theorem zQE:zN E (zk [(25,.slice a n c)]) (zo zos [1,1,1,0] 2) h=some (iI (n:Int)):=by cases a <;> kernel_rfl
def zWo (H :
 EvO (zC E .lss 3 d b) fun i=>
 BrK i (PI (zH7 s) K 5 [f,g,e,b,d] h) (K .normal [] h)):PI (zH7 s) K 4 [f,g,e,b,d] h:=zB H
def zWn (H :
 EvO (zE E 34 b d) fun j=>
 EvO (zG E 173 h j) fun k=>
 Ev s (zS 173 h (z8 E 173)) fun f=>
 Ev s (zf E 173 f.2 f.1 k) fun l=>
 PI (zH7 s) K 6 [g,i,f.1,b,e,d] l.2):PI (zH7 s) K 5 [g,i,b,e,d] h:=zB H
def zWm (H :
 EvO (zv d) fun m=>
 EvO (zD E 306 0 m) fun o=>
 EvO (zG E 3 h o) fun p=>
 EvO (zC E .gtr 3 p (iI 2000)) fun b=>
 EvO (gdB b false d) fun q=>
 EvO (gdB b false (zv q)) fun r=>
 EvO (gdB b false (zD E 306 1 r)) fun t=>
 EvO (gdB b false (zG E 3 h t)) fun u=>
 EvO (gdB b false (zC E .gtr 3 u (iI 200))) fun i=>
 EvO (zAB b (some (.bool true)) i) fun j=>
 BrK j (K .ret [] h) (PI (zH7 s) K 7 [d,k,l,e,f,g] h)):PI (zH7 s) K 6 [d,k,l,e,f,g] h:=zB H
def zWl (H :
 EvO (zG E 173 h i) fun j=>
 EvO (zC E .add 3 g (iI 1)) fun k=>
 Ev s (zR (zY E) (some (.func (.func 268) #[] #[])) [f,j,k] h) fun l=>
 PI (zH7 s) K 8 [f,g,b,d,e] l.2):PI (zH7 s) K 7 [f,g,i,b,d,e] h:=zB H
def zWk (H :
 EvO (zC E .add 3 e (iI 1)) fun i=>
 PI (zH7 s) K 4 [f,g,b,d,i] h):PI (zH7 s) K 8 [f,g,b,d,e] h:=zB H
theorem zcI (H:PI (zH7 true) (KR E [] fun x k=>(zi x=false\/k.wm<h.next)/\Rp x ⟨k.t,k.next,cond (Nat.ble h.wm k.wm) h.wm k.wm⟩) 0 [v0,v1,v2] h.fresh):Ev true ((zY E).call 268 [v0,v1,v2] h) fun x=>Rp x.1 x.2:=zD5 Tryz.f268 (zAA (zH7 true) H)
noncomputable def B269:Code:=zh Tryz.f269
noncomputable def zoY (s:Bool):Cx:=⟨E,s,none,B269,[([0],[0]),([1,0],[0])],[2],[]⟩
def zWj (H :
 PI (zoY s) K 1 [b] h):PI (zoY s) K 0 [b] h:=zB H
def zWi (H :
 EvO (zv f) fun g=>
 EvO (zD E 306 0 g) fun i=>
 EvO (zG E 3 h i) fun j=>
 EvO (zC E .gtr 3 j (iI 2000)) fun b=>
 EvO (gdB b false f) fun k=>
 EvO (gdB b false (zv k)) fun l=>
 EvO (gdB b false (zD E 306 1 l)) fun m=>
 EvO (gdB b false (zG E 3 h m)) fun o=>
 EvO (gdB b false (zC E .gtr 3 o (iI 200))) fun d=>
 EvO (zAB b (some (.bool true)) d) fun e=>
 K .ret [e] h):PI (zoY s) K 1 [f] h:=zB H
theorem zcH (aa:h.ok) (hv:zt v=true) (H:PI (zoY s) (KR E [.tmp 2] fun x k=>x=v/\h.next<=k.wm) 0 [v0] h.fresh):(zY E).call 269 [v0] h=some [(v,h)]:=zA3 Tryz.f269 aa hv (zAA (zoY s) H)
end Go.Proofs
namespace Go.Proofs
open Go Go.AM
set_option maxRecDepth 100000
variable {s:Bool} {K:KF} {h:AH} {a:Option Addr} {n c:Nat} {b d e f g i j k l m o p q r t u w x y z A B C D F G J L M N O Q S U V W X Y Z v v0 v1 v2 v3 v4 v5 v6 v7 v8 v9 v15 v36 v37 v38:Value} {h1:AH} {Rp:Value->AH->Prop}
noncomputable def zou:Code:=zh Tryz.f222
noncomputable def zEi (s:Bool):Cx:=⟨E,s,none,zou,[([0],[0,1,2]),([1,0],[0,1,2,4]),([1,1,0],[0,2,4,5]),([1,1,1,0,0,0,0],[0,2,4,5,6]),([1,1,1,0,0,1,0,0,0,0],[0,2,4,5,6]),([1,1,1,0,0,1,0,0,1,0],[0,2,4,5,6]),([1,1,1,0,0,1,0,0,1,1,0,0,0],[0,2,4,5,6,36,37,38]),([1,1,1,0,0,1,0,0,1,1,0,0,1,1,0,0,0],[0,2,4,5,6,36,37,38]),([1,1,1,0,0,1,0,0,1,1,0,0,1,1,0,0,1,0],[0,2,4,5,6,8,36,37,38]),([1,1,1,0,0,1,0,0,1,1,0,0,1,1,0,0,1,1,0,0],[0,2,4,5,6,8,36,37,38]),([1,1,1,0,0,1,0,0,1,1,0,0,1,1,0,0,1,1,0,1],[0,2,4,5,6,8,36,37,38]),([1,1,1,0,0,1,0,0,1,1,0,0,1,1,1],[0,2,4,5,6,36,37,38]),([1,1,1,0,0,1,1],[0,2,4,5,6])],[],[]⟩
abbrev znl (s:Bool) (K:KF) (b d e f g:Value) (h:AH):Prop:=PI (zEi s) K 3 [b,d,e,f,g] h
abbrev znk (s:Bool) (K:KF) (b d e f g:Value) (h:AH):Prop:=PI (zEi s) K 4 [b,d,e,f,g] h
abbrev znj (s:Bool) (K:KF) (f g i j k b d e:Value) (h:AH):Prop:=PI (zEi s) K 6 [f,g,i,j,k,b,d,e] h
abbrev zkQ (s:Bool) (K:KF) (f g i j k b d e:Value) (h:AH):Prop:=PI (zEi s) K 11 [f,g,i,j,k,b,d,e] h
def zXp (H :
 Ev s (one ((.map (some (h).next):Value),(h).new (.map [] 0))) fun b=>
 EvO (zG E 3 b.2 d) fun g=>
 Ev s (zAP E 273 b.1 g (some (.bool true)) b.2) fun i=>
 PI (zEi s) K 1 [e,d,f,b.1] i.2):PI (zEi s) K 0 [e,d,f] h:=zB H
def zXo (H :
 EvO (zG E 3 h e) fun i=>
 Ev s (zd E 47 1 (some [(0,i)]) h) fun b=>
 PI (zEi s) K 2 [d,f,g,b.1] b.2):PI (zEi s) K 1 [d,e,f,g] h:=zB H
def zXn (H :
 PI (zEi s) K 3 [b,d,e,f,(iI 0)] h):PI (zEi s) K 2 [b,d,e,f] h:=zB H
def zLy (H :
 EvO (zN E (zk [(15,b)]) (zo zou [1,1,1,0,0,0,0] 2) h) fun i=>
 EvO (zC E .lss 3 d i) fun j=>
 BrK j (PI (zEi s) K 4 [e,f,g,b,d] h) (K .normal [] h)):PI (zEi s) K 3 [e,f,g,b,d] h:=zB H
theorem zF6:zN E (zk [(15,.slice a n c)]) (zo zou [1,1,1,0,0,0,0] 2) h=some (iI (n:Int)):=by cases a <;> kernel_rfl
def zXm (H :
 EvO (zE E 47 e f) fun j=>
 EvO (zG E 3 h j) fun k=>
 Ev s (zR (zY E) d [k] h) fun b=>
 EvO (zAW .not b.1) fun l=>
 BrK l (K .ret [] b.2) (PI (zEi s) K 5 [d,g,i,e,f] b.2)):PI (zEi s) K 4 [d,g,i,e,f] h:=zB H
def zXl (H :
 EvO (zG E 128 h d) fun k=>
 EvO (zv k) fun l=>
 EvO (zD E 131 0 l) fun m=>
 EvO (zG E 129 h m) fun o=>
 EvO (zE E 47 e f) fun p=>
 EvO (zG E 3 h p) fun q=>
 EvO (zE E 129 o q) fun r=>
 EvO (zG E 132 h r) fun g=>
 EvO (zN E (zk [(36,g)]) (zo zou [1,1,1,0,0,1,0,0,1,0] 10) h) fun b=>
 PI (zEi s) K 6 [i,d,j,e,f,g,b,(iI 0)] h):PI (zEi s) K 5 [i,d,j,e,f] h:=zB H
theorem zM9:zN E (zk [(36,.slice a n c)]) (zo zou [1,1,1,0,0,1,0,0,1,0] 10) h=some (iI (n:Int)):=by cases a <;> kernel_rfl
def zLx (H :
 EvO (zC E .lss 3 d b) fun l=>
 BrK l (PI (zEi s) K 7 [f,g,i,j,k,e,b,d] h) (PI (zEi s) K 12 [f,g,i,j,k] h)):PI (zEi s) K 6 [f,g,i,j,k,e,b,d] h:=zB H
def zXk (H :
 EvO (zE E 132 b d) fun m=>
 EvO (zG E 134 h m) fun o=>
 Ev s (zS 134 h (z8 E 134)) fun f=>
 Ev s (zf E 134 f.2 f.1 o) fun p=>
 PI (zEi s) K 8 [g,i,j,k,l,f.1,b,e,d] p.2):PI (zEi s) K 7 [g,i,j,k,l,b,e,d] h:=zB H
def zXj (H :
 EvO (zD E 134 0 i) fun o=>
 EvO (zG E 3 h o) fun p=>
 EvO (zC E .eql 3 p (iI 0)) fun b=>
 EvO (gdB b true g) fun q=>
 EvO (gdB b true (zD E 134 1 i)) fun r=>
 EvO (gdB b true (zG E 3 h r)) fun t=>
 EvO (gdB b true (zBI E 273 false q t h)) fun u=>
 EvO (gdB b true (zAW .not u)) fun w=>
 EvO (zAB b w (some (.bool false))) fun x=>
 BrK x (PI (zEi s) K 9 [j,k,g,l,m,i,d,e,f] h) (PI (zEi s) K 11 [j,k,g,l,m,d,e,f] h)):PI (zEi s) K 8 [j,k,g,l,m,i,d,e,f] h:=zB H
def zXi (H :
 EvO (zD E 134 1 g) fun m=>
 EvO (zG E 3 h m) fun o=>
 Ev s (zAP E 273 f o (some (.bool true)) h) fun p=>
 PI (zEi s) K 10 [i,j,f,k,l,g,b,d,e] p.2):PI (zEi s) K 9 [i,j,f,k,l,g,b,d,e] h:=zB H
def zQz (H :
 EvO (zD E 134 1 o) fun p=>
 EvO (zG E 3 h p) fun q=>
 Ev s (zd E 47 1 (some [(0,q)]) h) fun f=>
 Ev s (zAH E .append [47,47] [l,f.1] f.2) fun g=>
 PI (zEi s) K 11 [i,j,k,g.1,m,b,d,e] g.2):PI (zEi s) K 10 [i,j,k,l,m,o,b,d,e] h:=zB H
def zQy (H :
 EvO (zC E .add 3 e (iI 1)) fun l=>
 PI (zEi s) K 6 [f,g,i,j,k,b,d,l] h):PI (zEi s) K 11 [f,g,i,j,k,b,d,e] h:=zB H
def zQx (H :
 EvO (zC E .add 3 g (iI 1)) fun i=>
 PI (zEi s) K 3 [b,d,e,f,i] h):PI (zEi s) K 12 [b,d,e,f,g] h:=zB H
theorem zcQ (H:PI (zEi true) (KR E [] fun x k=>(zi x=false\/k.wm<h.next)/\Rp x ⟨k.t,k.next,cond (Nat.ble h.wm k.wm) h.wm k.wm⟩) 0 [v0,v1,v2] h.fresh):Ev true ((zY E).call 222 [v0,v1,v2] h) fun x=>Rp x.1 x.2:=zD5 Tryz.f222 (zAA (zEi true) H)
noncomputable def zdD:Code:=sub ziG [0]
noncomputable def zSM (s:Bool):Cx:=⟨E,s,none,zdD,[([],[0,1,2,3])],[2,4,5,7,8],[]⟩
def zRf (H :
 Ev s (zS 178 h g) fun b=>
 Ev s (zS 3 b.2 i) fun d=>
 Ev s (zS 134 d.2 k) fun e=>
 Ev s (zS 4 e.2 (z8 E 4)) fun f=>
 K .normal [j,b.1,d.1,e.1,f.1] f.2):PI (zSM s) K 0 [g,i,j,k] h:=zB H
theorem zg6 {s:Bool} {v0 v1 v2 v3:Value} {T:Tm} {h:AH} {K:KF} (hT:∀ x∈[(0,v0),(1,v1),(2,v2),(3,v3)],T.get x.1=x.2) (H:PI (zSM s) K 0 [v0,v1,v2,v3] h) :
 Ev s (evC E (zY E) none zdD ⟨T,h,[]⟩) (zSR (zSM s ) K):=
 zEf (C:=zSM s ) (by kernel_rfl) (by kernel_rfl) hT ((by kernel_rfl:zFA (zSM s ) K 30 (rs zdD 60 (.at [])) (zk [(0,v0),(1,v1),(2,v2),(3,v3)]) h=(PI (zSM s) K 0 [v0,v1,v2,v3] h)).mpr H)
noncomputable def zSN:Code:=sub ziG [1,0,0]
noncomputable def zSL (s:Bool):Cx:=⟨E,s,none,zSN,[([],[2,4,5,7,8])],[4,5,7,8,14],[]⟩
def zRe (H :
 EvO (zD E 178 0 b) fun j=>
 EvO (zD E 176 1 j) fun k=>
 EvO (zG E 128 h k) fun l=>
 Ev s (zR (zY E) (some (.func (.func 178) #[] #[])) [l,e] h) fun d=>
 K .normal [b,f,g,i,d.1] d.2):PI (zSL s) K 0 [e,b,f,g,i] h:=zB H
theorem zg5 {s:Bool} {v2 v4 v5 v7 v8:Value} {T:Tm} {h:AH} {K:KF} (hT:∀ x∈[(2,v2),(4,v4),(5,v5),(7,v7),(8,v8)],T.get x.1=x.2) (H:PI (zSL s) K 0 [v2,v4,v5,v7,v8] h) :
 Ev s (evC E (zY E) none zSN ⟨T,h,[]⟩) (zSR (zSL s ) K):=
 zEf (C:=zSL s ) (by kernel_rfl) (by kernel_rfl) hT ((by kernel_rfl:zFA (zSL s ) K 30 (rs zSN 60 (.at [])) (zk [(2,v2),(4,v4),(5,v5),(7,v7),(8,v8)]) h=(PI (zSL s) K 0 [v2,v4,v5,v7,v8] h)).mpr H)
noncomputable def zGp:Code:=zlh (sub ziG [1,0,1,0])
noncomputable def zIL (s:Bool) (ll:Nat):Cx:=⟨E,s,some ll,zGp,[([0,0],[4,5,7,8,9]),([0,1,0,0],[8])],[],[]⟩
abbrev zkZ (s:Bool) (ll:Nat) (K:KF) (v8:Value) (h:AH):Prop:=PI (zIL s ll) K 1 [v8] h
def zRd {ll:Nat} (H :
 EvO (zD E 178 0 i) fun C=>
 EvO (zG E 176 h C) fun D=>
 EvO (zG E 3 h A) fun F=>
 Ev s (zR (zY E) (some (.func (.func 123) #[] #[])) [D,F,k] h) fun e=>
 EvO (gdB e.1 true (zD E 134 0 j)) fun G=>
 EvO (gdB e.1 true (zG E 3 e.2 G)) fun J=>
 EvO (gdB e.1 true (zC E .eql 3 J (iI 0))) fun L=>
 EvO (gdB e.1 true L) fun g=>
 EvO (gdB g true (zD E 178 0 i)) fun l=>
 EvO (gdB g true (zG E 176 e.2 l)) fun m=>
 EvO (gdB g true (zD E 134 1 j)) fun o=>
 EvO (gdB g true (zG E 3 e.2 o)) fun p=>
 EvO (gdB g true k) fun q=>
 Ev s (gdW g true (zR (zY E) (some (.func (.func 123) #[] #[])) [m,p,q] e.2) e.2) fun b=>
 EvO (gdB e.1 true (zAB g b.1 (some (.bool false)))) fun r=>
 EvO (gdB e.1 true r) fun d=>
 EvO (gdB d false (zG E 178 b.2 i)) fun t=>
 EvO (gdB d false (zG E 3 b.2 A)) fun u=>
 EvO (gdB d false k) fun w=>
 EvO (gdB d false (zG E 134 b.2 j)) fun x=>
 Ev s (gdW d false (zR (zY E) (some (.func (.func 128) #[] #[])) [t,u,w,x] b.2) b.2) fun f=>
 EvO (gdB e.1 true (zAB d (some (.bool true)) f.1)) fun y=>
 EvO (zAB e.1 y (some (.bool false))) fun z=>
 BrK z (PI (zIL s ll) K 1 [B] f.2) (K .normal [] f.2)):PI (zIL s ll) K 0 [i,A,j,B,k] h:=zB H
def zRc {ll:Nat} (H :
 Ev s (zf E 4 h b (some (.bool true))) fun d=>
 K .ret [] d.2):PI (zIL s ll) K 1 [b] h:=zB H
theorem zg4 {s:Bool} {ll:Nat} {v4 v5 v7 v8 v9:Value} {T:Tm} {h:AH} {K:KF} (hT:∀ x∈[(4,v4),(5,v5),(7,v7),(8,v8),(9,v9)],T.get x.1=x.2) (H:PI (zIL s ll) K 0 [v4,v5,v7,v8,v9] h) :
 Ev s (evC E (zY E) (some ll) zGp ⟨T,h,[]⟩) (zSR (zIL s ll ) K):=
 zEf (C:=zIL s ll ) (by kernel_rfl) (by kernel_rfl) hT ((by kernel_rfl:zFA (zIL s ll ) K 30 (rs zGp 60 (.at [])) (zk [(4,v4),(5,v5),(7,v7),(8,v8),(9,v9)]) h=(PI (zIL s ll) K 0 [v4,v5,v7,v8,v9] h)).mpr H)
noncomputable def zH5:Code:=rfAs (sub ziG [1,0,1,0])
noncomputable def zSK (s:Bool) (ll:Nat):Cx:=⟨E,s,some ll,zH5,[([],[4,5,7,8,15])],[4,5,7,8,9],[]⟩
def zRb {ll:Nat} (H :
 K .normal [d,e,f,g,b] h):PI (zSK s ll) K 0 [d,e,f,g,b] h:=zB H
theorem zg3 {s:Bool} {ll:Nat} {v4 v5 v7 v8 v15:Value} {T:Tm} {h:AH} {K:KF} (hT:∀ x∈[(4,v4),(5,v5),(7,v7),(8,v8),(15,v15)],T.get x.1=x.2) (H:PI (zSK s ll) K 0 [v4,v5,v7,v8,v15] h) :
 Ev s (evC E (zY E) (some ll) zH5 ⟨T,h,[]⟩) (zSR (zSK s ll ) K):=
 zEf (C:=zSK s ll ) (by kernel_rfl) (by kernel_rfl) hT ((by kernel_rfl:zFA (zSK s ll ) K 30 (rs zH5 60 (.at [])) (zk [(4,v4),(5,v5),(7,v7),(8,v8),(15,v15)]) h=(PI (zSK s ll) K 0 [v4,v5,v7,v8,v15] h)).mpr H)
noncomputable def zN8:Code:=sub ziG [1,1,0]
def zN5 (s:Bool) (K:KF) (v8:Value) (h:AH):Prop:=
 Ev s (zf E 4 h v8 (some (.bool false))) fun x0=>
 K .normal [v8] x0.2
end Go.Proofs
namespace Go.Proofs
open Go Go.AM
set_option maxRecDepth 100000
theorem z_47:z8 E 47=some (.slice none 0 0):=by kernel_rfl
end Go.Proofs
