import Derived.Test.YthmnhjcmefjgjaaGreatDoorXAD
set_option linter.all false
set_option linter.unusedSectionVars false
set_option autoImplicit true
set_option relaxedAutoImplicit true
set_option maxRecDepth 100000
set_option maxHeartbeats 1000000
noncomputable section
namespace Go.Proofs
open Go Go.AM
variable {s:Bool} {K:KF} {h:AH} {a:Option Addr} {n c:Nat} {b d e f g i j k l m o p q r t u w x y z A B C D F G J L M N O Q S U V W X Y Z v v0 v1 v2 v3 v4 v5 v6 v7 v8 v9 v10 v11 v12 v13 v14 v16 v17 v18 v19 v22 v23 v24 v25 v26 v27 v29 v30 v31 v32 v34 v35 v36 v50 v51 v52 v56 v57 v58 v64 v65 v66:Value} {h1:AH} {Rp:Value->AH->Prop}
def B14:Code:=zc Tryz.f14
def C14(s:Bool):Cx:=⟨E,s,none,B14,[([0],[0]),([1,0],[0]),([1,1,0,0],[0,3]),([1,1,0,1,0,0,0],[3,8,9,10]),([1,1,0,1,0,0,1,1,0,0,0],[3,8,9,10]),([1,1,0,1,0,0,1,1,0,0,1,0,0],[3,5,8,9,10]),([1,1,0,1,0,0,1,1,0,0,1,0,1,0,0],[]),([1,1,0,1,0,0,1,1,0,0,1,1,0],[3,5,8,9,10]),([1,1,0,1,0,0,1,1,0,0,1,1,1,0,0,0],[3,8,9,10,30,31,32]),([1,1,0,1,0,0,1,1,0,0,1,1,1,0,0,1,1,0,0,0],[3,8,9,10,30,31,32]),([1,1,0,1,0,0,1,1,0,0,1,1,1,0,0,1,1,0,0,1,0],[3,7,8,9,10,30,31,32]),([1,1,0,1,0,0,1,1,0,0,1,1,1,0,0,1,1,0,0,1,1,0,0],[]),([1,1,0,1,0,0,1,1,0,0,1,1,1,0,0,1,1,1],[3,8,9,10,30,31,32]),([1,1,0,1,0,0,1,1,1],[3,8,9,10]),([1,1,1,0],[])],[2],[]⟩
abbrev zsR(s:Bool)(K:KF)(d e f b:Value)(h:AH):Prop:=PI (C14 s) K 3 [d,e,f,b] h
abbrev zsQ(s:Bool)(K:KF)(h:AH):Prop:=PI (C14 s) K 6 [] h
abbrev zsP(s:Bool)(K:KF)(g i j b d e f:Value)(h:AH):Prop:=PI (C14 s) K 8 [g,i,j,b,d,e,f] h
def zhM(H :
 PI (C14 s) K 1 [b] h):PI (C14 s) K 0 [b] h:=zB H
def zhL(H :
 Ev s (zW 3 h (zAL E 3)) fun b=>
 Ev s (zb E 3 b.2 b.1 (some (iI 2000))) fun e=>
 PI (C14 s) K 2 [d,b.1] e.2):PI (C14 s) K 1 [d] h:=zB H
def zhK(H :
 EvO (zQ E (zk [(8,b)]) (zn B14 [1,1,0,0] 1) h) fun e=>
 PI (C14 s) K 3 [d,b,e,(iI 0)] h):PI (C14 s) K 2 [b,d] h:=zB H
def zVC:zQ E (zk [(8,.slice a n c)]) (zn B14 [1,1,0,0] 1) h=some (iI (n:Int)):=by cases a <;> kernel_rfl
def zQa(H :
 EvO (zC E .lss 3 b d) fun g=>
 BrK g (PI (C14 s) K 4 [e,f,d,b] h) (PI (C14 s) K 14 [] h)):PI (C14 s) K 3 [e,f,d,b] h:=zB H
def zhJ(H :
 EvO (zE E 82 e b) fun i=>
 EvO (zH E 25 h i) fun j=>
 Ev s (zW 25 h (zAL E 25)) fun d=>
 Ev s (zb E 25 d.2 d.1 j) fun k=>
 PI (C14 s) K 5 [f,d.1,e,g,b] k.2):PI (C14 s) K 4 [f,e,g,b] h:=zB H
def zhI(H :
 EvO (zD E 25 0 e) fun q=>
 EvO (zH E 3 h q) fun r=>
 EvO (zC E .gtr 3 r (iI 60)) fun b=>
 EvO (gdB b false (zD E 25 2 e)) fun t=>
 EvO (gdB b false (zH E 23 h t)) fun u=>
 EvO (gdB b false (zQ E (zk [(19,u)]) (zn B14 [1,1,0,1,0,0,1,1,0,0,1,0,0] 6) h)) fun w=>
 EvO (gdB b false (zC E .gtr 3 w (iI 300))) fun x=>
 EvO (zAE b (some (.bool true)) x) fun d=>
 EvO (gdB d false (zD E 25 1 e)) fun g=>
 EvO (gdB d false (zH E 22 h g)) fun i=>
 EvO (gdB d false (zQ E (zk [(25,i)]) (zn B14 [1,1,0,1,0,0,1,1,0,0,1,0,0] 12) h)) fun j=>
 EvO (gdB d false (zC E .gtr 3 j (iI 60))) fun k=>
 EvO (zAE d (some (.bool true)) k) fun l=>
 BrK l (PI (C14 s) K 6 [] h) (PI (C14 s) K 7 [m,e,o,p,f] h)):PI (C14 s) K 5 [m,e,o,p,f] h:=zB H
def zVB:zQ E (zk [(19,.slice a n c)]) (zn B14 [1,1,0,1,0,0,1,1,0,0,1,0,0] 6) h=some (iI (n:Int)):=by cases a <;> kernel_rfl
def zRP:zQ E (zk [(25,.slice a n c)]) (zn B14 [1,1,0,1,0,0,1,1,0,0,1,0,0] 12) h=some (iI (n:Int)):=by cases a <;> kernel_rfl
def zhH(H :
 K .ret [(.bool false)] h):PI (C14 s) K 6 [] h:=zB H
def zhG(H :
 EvO (zD E 25 1 f) fun j=>
 EvO (zH E 22 h j) fun d=>
 EvO (zQ E (zk [(30,d)]) (zn B14 [1,1,0,1,0,0,1,1,0,0,1,1,0] 2) h) fun k=>
 PI (C14 s) K 8 [e,g,i,b,d,k,(iI 0)] h):PI (C14 s) K 7 [e,f,g,i,b] h:=zB H
def zVA:zQ E (zk [(30,.slice a n c)]) (zn B14 [1,1,0,1,0,0,1,1,0,0,1,1,0] 2) h=some (iI (n:Int)):=by cases a <;> kernel_rfl
def zQZ(H :
 EvO (zC E .lss 3 e d) fun k=>
 BrK k (PI (C14 s) K 9 [g,i,j,b,f,d,e] h) (PI (C14 s) K 13 [g,i,j,b] h)):PI (C14 s) K 8 [g,i,j,b,f,d,e] h:=zB H
def zhF(H :
 EvO (zE E 22 b d) fun l=>
 EvO (zH E 36 h l) fun m=>
 Ev s (zW 36 h (zAL E 36)) fun g=>
 Ev s (zb E 36 g.2 g.1 m) fun o=>
 PI (C14 s) K 10 [i,g.1,j,k,e,b,f,d] o.2):PI (C14 s) K 9 [i,j,k,e,b,f,d] h:=zB H
def zb5(H :
 EvO (zD E 36 1 j) fun m=>
 EvO (zH E 34 h m) fun o=>
 Ev s (zT (zV E) (some (.func (.func 69) #[] #[])) (some [o,i,(iI 1)]) h) fun g=>
 EvO (zAY .not g.1) fun p=>
 BrK p (PI (C14 s) K 11 [] g.2) (PI (C14 s) K 12 [i,k,l,b,d,e,f] g.2)):PI (C14 s) K 10 [i,j,k,l,b,d,e,f] h:=zB H
def zb4(H :
 K .ret [(.bool false)] h):PI (C14 s) K 11 [] h:=zB H
def zb3(H :
 EvO (zC E .add 3 f (iI 1)) fun k=>
 PI (C14 s) K 8 [g,i,j,b,d,e,k] h):PI (C14 s) K 12 [g,i,j,b,d,e,f] h:=zB H
def zb2(H :
 EvO (zC E .add 3 b (iI 1)) fun g=>
 PI (C14 s) K 3 [d,e,f,g] h):PI (C14 s) K 13 [d,e,f,b] h:=zB H
def zb1(H :
 K .ret [(.bool true)] h):PI (C14 s) K 14 [] h:=zB H
def zds{Rp:Value->Prop}(aa:h.ok)(H:PI (C14 true) (KR E [.tmp 2] fun x k=>(zg x=true/\Rp x)/\h.qa<=k.wm) 0 [v0] h.qb):∃ v,Rp v/\(zV E).call 14 [v0] h=some [(v,h)]:=zDW Tryz.f14 aa (zAD (C14 true) H)
def B15:Code:=zc Tryz.f15
def C15(s:Bool):Cx:=⟨E,s,none,B15,[([0],[0,1,2]),([1,0,0],[3,4,5]),([1,0,1,0],[3,4,5,7]),([1,0,1,1,0,0],[7]),([1,1,0,0],[3,4,5]),([1,1,0,1,0],[3,4,5,8]),([1,1,0,1,1,0,0],[8]),([1,1,1,0,0],[3,4,5]),([1,1,1,0,1,0,0],[]),([1,1,1,1,0],[])],[6],[]⟩
def zhE(H :
 Ev s (zW 25 h f) fun b=>
 Ev s (zW 25 b.2 g) fun d=>
 Ev s (zW 32 d.2 i) fun e=>
 PI (C15 s) K 1 [b.1,d.1,e.1] e.2):PI (C15 s) K 0 [f,g,i] h:=zB H
def zhD(H :
 EvO (zH E 25 h b) fun i=>
 EvO (zH E 25 h d) fun j=>
 Ev s (zh E 82 2 (some [(0,i),(1,j)]) h) fun e=>
 Ev s (zT (zV E) (some (.func (.func 70) #[] #[])) [e.1] e.2) fun f=>
 PI (C15 s) K 2 [b,d,g,f.1] f.2):PI (C15 s) K 1 [b,d,g] h:=zB H
def zhC(H :
 EvO (zC E .neq 29 b (iI 0)) fun g=>
 BrK g (PI (C15 s) K 3 [b] h) (PI (C15 s) K 4 [d,e,f] h)):PI (C15 s) K 2 [d,e,f,b] h:=zB H
def zhB(H :
 K .ret [b] h):PI (C15 s) K 3 [b] h:=zB H
def zhA(H :
 EvO (zH E 32 h b) fun i=>
 Ev s (zh E 83 1 (some [(0,i)]) h) fun d=>
 Ev s (zT (zV E) (some (.func (.func 71) #[] #[])) [d.1] d.2) fun e=>
 PI (C15 s) K 5 [f,g,b,e.1] e.2):PI (C15 s) K 4 [f,g,b] h:=zB H
def zg9(H :
 EvO (zC E .neq 29 b (iI 0)) fun g=>
 BrK g (PI (C15 s) K 6 [b] h) (PI (C15 s) K 7 [d,e,f] h)):PI (C15 s) K 5 [d,e,f,b] h:=zB H
def zg8(H :
 K .ret [b] h):PI (C15 s) K 6 [b] h:=zB H
def zg7(H :
 EvO (zH E 25 h d) fun g=>
 EvO (zH E 25 h e) fun i=>
 EvO (zH E 32 h f) fun j=>
 Ev s (zT (zV E) (some (.func (.func 72) #[] #[])) [g,i,j] h) fun b=>
 EvO (zAY .not b.1) fun k=>
 BrK k (PI (C15 s) K 8 [] b.2) (PI (C15 s) K 9 [] b.2)):PI (C15 s) K 7 [d,e,f] h:=zB H
def zg6(H :
 K .ret [(iI 360)] h):PI (C15 s) K 8 [] h:=zB H
def zg5(H :
 K .ret [(iI 0)] h):PI (C15 s) K 9 [] h:=zB H
def zhy(aa:h.ok)(hv:zo v=true)(H:PI (C15 s) (KR E [.tmp 6] fun x k=>x=v/\h.qa<=k.wm) 0 [v0,v1,v2] h.qb):(zV E).call 15 [v0,v1,v2] h=some [(v,h)]:=zAz Tryz.f15 aa hv (zAD (C15 s) H)
def B69:Code:=zc Tryz.f69
def C69(s:Bool):Cx:=⟨E,s,none,B69,[([0],[0,1,2]),([1,0,0],[0,1,2]),([1,0,1,0,0,0],[1,2,9,10,11]),([1,0,1,0,0,1,1,0,0,0],[1,2,9,10,11]),([1,0,1,0,0,1,1,0,0,1,0],[1,2,8,9,10,11]),([1,0,1,0,0,1,1,0,0,1,1,0],[1,2,8,9,10,11]),([1,0,1,0,0,1,1,0,0,1,1,1,0,0],[]),([1,0,1,0,0,1,1,1],[1,2,9,10,11]),([1,1,0],[])],[6],[]⟩
abbrev zsO(s:Bool)(K:KF)(e f g b d:Value)(h:AH):Prop:=PI (C69 s) K 2 [e,f,g,b,d] h
abbrev zsN(s:Bool)(K:KF)(h:AH):Prop:=PI (C69 s) K 6 [] h
def zQW(H :
 PI (C69 s) K 1 [b,d,e] h):PI (C69 s) K 0 [b,d,e] h:=zB H
def zQV(H :
 EvO (zQ E (zk [(9,b)]) (zn B69 [1,0,0] 1) h) fun f=>
 PI (C69 s) K 2 [d,e,b,f,(iI 0)] h):PI (C69 s) K 1 [b,d,e] h:=zB H
def zLs:zQ E (zk [(9,.slice a n c)]) (zn B69 [1,0,0] 1) h=some (iI (n:Int)):=by cases a <;> kernel_rfl
def zK8(H :
 EvO (zC E .lss 3 d b) fun i=>
 BrK i (PI (C69 s) K 3 [e,f,g,b,d] h) (PI (C69 s) K 8 [] h)):PI (C69 s) K 2 [e,f,g,b,d] h:=zB H
def zgh(H :
 EvO (zE E 34 f b) fun j=>
 EvO (zH E 173 h j) fun k=>
 Ev s (zW 173 h (zAL E 173)) fun e=>
 Ev s (zb E 173 e.2 e.1 k) fun l=>
 PI (C69 s) K 4 [g,i,e.1,f,d,b] l.2):PI (C69 s) K 3 [g,i,f,d,b] h:=zB H
def zgg(H :
 EvO (zp b) fun j=>
 EvO (zH E 3 h j) fun k=>
 EvO (zC E .sub 3 k (iI 1)) fun l=>
 EvO (zp b) fun m=>
 Ev s (zb E 3 h m l) fun o=>
 PI (C69 s) K 5 [b,f,g,i,d,e] o.2):PI (C69 s) K 4 [b,f,g,i,d,e] h:=zB H
def zgf(H :
 EvO (zp e) fun u=>
 EvO (zH E 3 h u) fun w=>
 EvO (zC E .lss 3 w (iI 0)) fun q=>
 EvO (gdB q false i) fun x=>
 EvO (gdB q false (zC E .gtr 3 x (iI 100))) fun y=>
 EvO (zAE q (some (.bool true)) y) fun b=>
 EvO (gdB b false (zD E 173 2 r)) fun z=>
 EvO (gdB b false (zH E 34 h z)) fun j=>
 EvO (gdB b false e) fun k=>
 EvO (gdB b false i) fun l=>
 EvO (gdB b false (zC E .add 3 l (iI 1))) fun m=>
 Ev s (gdW b false (zT (zV E) (some (.func (.func 69) #[] #[])) [j,k,m] h) h) fun d=>
 EvO (gdB b false (zAY .not d.1)) fun o=>
 EvO (zAE b (some (.bool true)) o) fun p=>
 BrK p (PI (C69 s) K 6 [] d.2) (PI (C69 s) K 7 [e,i,t,f,g] d.2)):PI (C69 s) K 5 [e,i,r,t,f,g] h:=zB H
def zQU(H :
 K .ret [(.bool false)] h):PI (C69 s) K 6 [] h:=zB H
def zge(H :
 EvO (zC E .add 3 d (iI 1)) fun i=>
 PI (C69 s) K 2 [e,f,g,b,i] h):PI (C69 s) K 7 [e,f,g,b,d] h:=zB H
def zQT(H :
 K .ret [(.bool true)] h):PI (C69 s) K 8 [] h:=zB H
def zhX(aa:h.ok)(hv:zo v=true)(H:PI (C69 s) (KR E [.tmp 6] fun x k=>x=v/\h.qa<=k.wm) 0 [v0,v1,v2] h.qb):(zV E).call 69 [v0,v1,v2] h=some [(v,h)]:=zAz Tryz.f69 aa hv (zAD (C69 s) H)
def zhW(H:PI (C69 true) (KR E [.tmp 6] fun x k=>(zg x=false\/k.wm<h.qa)/\Rp x ⟨k.t,k.qa,cond (Nat.ble h.wm k.wm) h.wm k.wm⟩) 0 [v0,v1,v2] h.qb):Ev true ((zV E).call 69 [v0,v1,v2] h) fun x=>Rp x.1 x.2:=zHk Tryz.f69 (zAD (C69 true) H)
def B70:Code:=zc Tryz.f70
def C70(s:Bool):Cx:=⟨E,s,none,B70,[([0],[0]),([1,0,0],[0]),([1,0,1,0,0,0],[5,6,7]),([1,0,1,0,0,1,1,0,0,0],[5,6,7]),([1,0,1,0,0,1,1,0,0,1,0],[4,5,6,7]),([1,0,1,0,0,1,1,0,0,1,1,0,0],[]),([1,0,1,0,0,1,1,1],[5,6,7]),([1,1,0],[])],[2],[]⟩
abbrev zsM(s:Bool)(K:KF)(b d e:Value)(h:AH):Prop:=PI (C70 s) K 2 [b,d,e] h
def zgZ(H :
 PI (C70 s) K 1 [b] h):PI (C70 s) K 0 [b] h:=zB H
def zgY(H :
 EvO (zQ E (zk [(5,b)]) (zn B70 [1,0,0] 1) h) fun d=>
 PI (C70 s) K 2 [b,d,(iI 0)] h):PI (C70 s) K 1 [b] h:=zB H
def zU7:zQ E (zk [(5,.slice a n c)]) (zn B70 [1,0,0] 1) h=some (iI (n:Int)):=by cases a <;> kernel_rfl
def zQS(H :
 EvO (zC E .lss 3 d b) fun f=>
 BrK f (PI (C70 s) K 3 [e,b,d] h) (PI (C70 s) K 7 [] h)):PI (C70 s) K 2 [e,b,d] h:=zB H
def zgX(H :
 EvO (zE E 82 d e) fun g=>
 EvO (zH E 25 h g) fun i=>
 Ev s (zW 25 h (zAL E 25)) fun b=>
 Ev s (zb E 25 b.2 b.1 i) fun j=>
 PI (C70 s) K 4 [b.1,d,f,e] j.2):PI (C70 s) K 3 [d,f,e] h:=zB H
def zgW(H :
 EvO (zH E 25 h d) fun i=>
 Ev s (zT (zV E) (some (.func (.func 121) #[] #[])) [i] h) fun b=>
 EvO (zC E .neq 29 b.1 (iI 0)) fun j=>
 BrK j (PI (C70 s) K 5 [] b.2) (PI (C70 s) K 6 [e,f,g] b.2)):PI (C70 s) K 4 [d,e,f,g] h:=zB H
def zgV(H :
 K .ret [(iI 8)] h):PI (C70 s) K 5 [] h:=zB H
def zgU(H :
 EvO (zC E .add 3 e (iI 1)) fun f=>
 PI (C70 s) K 2 [b,d,f] h):PI (C70 s) K 6 [b,d,e] h:=zB H
def zgT(H :
 K .ret [(iI 0)] h):PI (C70 s) K 7 [] h:=zB H
def zhV(aa:h.ok)(hv:zo v=true)(H:PI (C70 s) (KR E [.tmp 2] fun x k=>x=v/\h.qa<=k.wm) 0 [v0] h.qb):(zV E).call 70 [v0] h=some [(v,h)]:=zAz Tryz.f70 aa hv (zAD (C70 s) H)
def B71:Code:=zc Tryz.f71
def C71(s:Bool):Cx:=⟨E,s,none,B71,[([0],[0]),([1,0,0],[0]),([1,0,1,0,0,0],[7,8,9]),([1,0,1,0,0,1,1,0,0,0],[7,8,9]),([1,0,1,0,0,1,1,0,0,1,0,0],[4,7,8,9]),([1,0,1,0,0,1,1,0,0,1,0,1,0,0],[]),([1,0,1,0,0,1,1,0,0,1,1,0,0],[4,7,8,9]),([1,0,1,0,0,1,1,0,0,1,1,0,1,0,0],[]),([1,0,1,0,0,1,1,0,0,1,1,1,0],[4,7,8,9]),([1,0,1,0,0,1,1,0,0,1,1,1,1,0,0,0],[4,7,8,9,22,23,24]),([1,0,1,0,0,1,1,0,0,1,1,1,1,0,0,1,1,0,0,0],[4,7,8,9,22,23,24]),([1,0,1,0,0,1,1,0,0,1,1,1,1,0,0,1,1,0,0,1,0],[4,5,6,7,8,9,22,23,24]),([1,0,1,0,0,1,1,0,0,1,1,1,1,0,0,1,1,0,0,1,1,0,0],[]),([1,0,1,0,0,1,1,0,0,1,1,1,1,0,0,1,1,1],[4,7,8,9,22,23,24]),([1,0,1,0,0,1,1,1],[7,8,9]),([1,1,0],[])],[2],[]⟩
abbrev zsL(s:Bool)(K:KF)(b d e:Value)(h:AH):Prop:=PI (C71 s) K 2 [b,d,e] h
abbrev zsK(s:Bool)(K:KF)(f g i j b d e:Value)(h:AH):Prop:=PI (C71 s) K 9 [f,g,i,j,b,d,e] h
abbrev zo7(s:Bool)(K:KF)(h:AH):Prop:=PI (C71 s) K 12 [] h
abbrev zo6(s:Bool)(K:KF)(f g i j b d e:Value)(h:AH):Prop:=PI (C71 s) K 13 [f,g,i,j,b,d,e] h
def zgS(H :
 PI (C71 s) K 1 [b] h):PI (C71 s) K 0 [b] h:=zB H
def zgR(H :
 EvO (zQ E (zk [(7,b)]) (zn B71 [1,0,0] 1) h) fun d=>
 PI (C71 s) K 2 [b,d,(iI 0)] h):PI (C71 s) K 1 [b] h:=zB H
def zU6:zQ E (zk [(7,.slice a n c)]) (zn B71 [1,0,0] 1) h=some (iI (n:Int)):=by cases a <;> kernel_rfl
def zQR(H :
 EvO (zC E .lss 3 d b) fun f=>
 BrK f (PI (C71 s) K 3 [e,b,d] h) (PI (C71 s) K 15 [] h)):PI (C71 s) K 2 [e,b,d] h:=zB H
def zgQ(H :
 EvO (zE E 83 d e) fun g=>
 EvO (zH E 32 h g) fun i=>
 Ev s (zW 32 h (zAL E 32)) fun b=>
 Ev s (zb E 32 b.2 b.1 i) fun j=>
 PI (C71 s) K 4 [b.1,d,f,e] j.2):PI (C71 s) K 3 [d,f,e] h:=zB H
def zgP(H :
 EvO (zD E 32 0 d) fun i=>
 EvO (zH E 3 h i) fun j=>
 Ev s (zT (zV E) (some (.func (.func 105) #[] #[])) [j] h) fun b=>
 EvO (zAY .not b.1) fun k=>
 BrK k (PI (C71 s) K 5 [] b.2) (PI (C71 s) K 6 [d,e,f,g] b.2)):PI (C71 s) K 4 [d,e,f,g] h:=zB H
def zgO(H :
 K .ret [(iI 361)] h):PI (C71 s) K 5 [] h:=zB H
def zgN(H :
 EvO (zD E 32 1 b) fun g=>
 EvO (zH E 26 h g) fun i=>
 EvO (zQ E (zk [(18,i)]) (zn B71 [1,0,1,0,0,1,1,0,0,1,1,0,0] 2) h) fun j=>
 EvO (zC E .gtr 3 j (iI 200000)) fun k=>
 BrK k (PI (C71 s) K 7 [] h) (PI (C71 s) K 8 [b,d,e,f] h)):PI (C71 s) K 6 [b,d,e,f] h:=zB H
def zU5:zQ E (zk [(18,.slice a n c)]) (zn B71 [1,0,1,0,0,1,1,0,0,1,1,0,0] 2) h=some (iI (n:Int)):=by cases a <;> kernel_rfl
def zgM(H :
 K .ret [(iI 360)] h):PI (C71 s) K 7 [] h:=zB H
def zgL(H :
 EvO (zD E 32 1 b) fun i=>
 EvO (zH E 26 h i) fun d=>
 EvO (zQ E (zk [(22,d)]) (zn B71 [1,0,1,0,0,1,1,0,0,1,1,1,0] 2) h) fun j=>
 PI (C71 s) K 9 [b,e,f,g,d,j,(iI 0)] h):PI (C71 s) K 8 [b,e,f,g] h:=zB H
def zU4:zQ E (zk [(22,.slice a n c)]) (zn B71 [1,0,1,0,0,1,1,0,0,1,1,1,0] 2) h=some (iI (n:Int)):=by cases a <;> kernel_rfl
def zQQ(H :
 EvO (zC E .lss 3 d b) fun k=>
 BrK k (PI (C71 s) K 10 [j,f,g,i,e,b,d] h) (PI (C71 s) K 14 [f,g,i] h)):PI (C71 s) K 9 [j,f,g,i,e,b,d] h:=zB H
def zXL(H :
 EvO (zE E 26 d b) fun l=>
 EvO (zH E 54 h l) fun m=>
 Ev s (zW 54 h (zAL E 54)) fun f=>
 Ev s (zb E 54 f.2 f.1 m) fun o=>
 PI (C71 s) K 11 [g,b,f.1,i,j,k,d,e,b] o.2):PI (C71 s) K 10 [g,i,j,k,d,e,b] h:=zB H
def zXK(H :
 EvO (zE E 54 k (some (iI 0))) fun F=>
 EvO (zH E 3 h F) fun G=>
 EvO (zC E .lss 3 G (iI 0)) fun f=>
 EvO (gdB f false (zE E 54 k (some (iI 1)))) fun J=>
 EvO (gdB f false (zH E 3 h J)) fun L=>
 EvO (gdB f false (zC E .lss 3 L (iI 0))) fun M=>
 EvO (zAE f (some (.bool true)) M) fun e=>
 EvO (gdB e false A) fun N=>
 EvO (gdB e false (zC E .gtr 3 N (iI 0))) fun l=>
 EvO (gdB e false l) fun b=>
 EvO (gdB b true (zD E 32 1 z)) fun m=>
 EvO (gdB b true (zH E 26 h m)) fun o=>
 EvO (gdB b true A) fun p=>
 EvO (gdB b true (zC E .sub 3 p (iI 1))) fun q=>
 EvO (gdB b true (zE E 26 o q)) fun r=>
 EvO (gdB b true (zH E 54 h r)) fun t=>
 EvO (gdB b true (zH E 54 h k)) fun u=>
 Ev s (gdW b true (zT (zV E) (some (.func (.func 122) #[] #[])) [t,u] h) h) fun d=>
 EvO (gdB b true (zC E .geq 3 d.1 (iI 0))) fun w=>
 EvO (gdB e false (zAE b w (some (.bool false)))) fun x=>
 EvO (zAE e (some (.bool true)) x) fun y=>
 BrK y (PI (C71 s) K 12 [] d.2) (PI (C71 s) K 13 [z,B,C,D,g,i,j] d.2)):PI (C71 s) K 11 [z,A,k,B,C,D,g,i,j] h:=zB H
def zXJ(H :
 K .ret [(iI 360)] h):PI (C71 s) K 12 [] h:=zB H
def zXI(H :
 EvO (zC E .add 3 e (iI 1)) fun k=>
 PI (C71 s) K 9 [f,g,i,j,b,d,k] h):PI (C71 s) K 13 [f,g,i,j,b,d,e] h:=zB H
def zXH(H :
 EvO (zC E .add 3 e (iI 1)) fun f=>
 PI (C71 s) K 2 [b,d,f] h):PI (C71 s) K 14 [b,d,e] h:=zB H
def zXG(H :
 K .ret [(iI 0)] h):PI (C71 s) K 15 [] h:=zB H
def zhU(aa:h.ok)(hv:zo v=true)(H:PI (C71 s) (KR E [.tmp 2] fun x k=>x=v/\h.qa<=k.wm) 0 [v0] h.qb):(zV E).call 71 [v0] h=some [(v,h)]:=zAz Tryz.f71 aa hv (zAD (C71 s) H)
def B72:Code:=zc Tryz.f72
def C72(s:Bool):Cx:=⟨E,s,none,B72,[([0],[0,1,2]),([1,0],[3,4,5]),([1,1,0],[3,4,5,7]),([1,1,1,0,0],[3,4,5,8]),([1,1,1,0,1,0,0,0],[3,4,5,8,25,26,27]),([1,1,1,0,1,0,0,1,1,0,0,0],[3,4,5,8,25,26,27]),([1,1,1,0,1,0,0,1,1,0,0,1,0,0],[3,4,5,8,10,25,26,27]),([1,1,1,0,1,0,0,1,1,0,0,1,0,1,0,0],[]),([1,1,1,0,1,0,0,1,1,0,0,1,1],[3,4,5,8,10,25,26,27]),([1,1,1,0,1,0,0,1,1,1],[3,4,5,8,25,26,27]),([1,1,1,1,0],[5,8]),([1,1,1,1,1,0],[8,11])],[6],[]⟩
abbrev zsJ(s:Bool)(K:KF)(b d e f:Value)(h:AH):Prop:=PI (C72 s) K 3 [b,d,e,f] h
abbrev zsI(s:Bool)(K:KF)(f g i j b d e:Value)(h:AH):Prop:=PI (C72 s) K 4 [f,g,i,j,b,d,e] h
abbrev zsH(s:Bool)(K:KF)(h:AH):Prop:=PI (C72 s) K 7 [] h
abbrev zo5(s:Bool)(K:KF)(b d:Value)(h:AH):Prop:=PI (C72 s) K 10 [b,d] h
abbrev zjN(s:Bool)(K:KF)(d b:Value)(h:AH):Prop:=PI (C72 s) K 11 [d,b] h
def zgK(H :
 Ev s (zW 25 h f) fun b=>
 Ev s (zW 25 b.2 g) fun d=>
 Ev s (zW 32 d.2 i) fun e=>
 PI (C72 s) K 1 [b.1,d.1,e.1] e.2):PI (C72 s) K 0 [f,g,i] h:=zB H
def zgJ(H :
 EvO (zH E 25 h b) fun i=>
 EvO (zH E 25 h d) fun j=>
 Ev s (zh E 82 2 (some [(0,i),(1,j)]) h) fun e=>
 Ev s (zT (zV E) (some (.func (.func 90) #[] #[])) [e.1] e.2) fun f=>
 PI (C72 s) K 2 [b,d,g,f.1] f.2):PI (C72 s) K 1 [b,d,g] h:=zB H
def zgI(H :
 EvO (zE E 126 u (some (iI 0))) fun l=>
 EvO (zH E 128 h l) fun j=>
 EvO (zE E 126 u (some (iI 1))) fun m=>
 EvO (zH E 128 h m) fun k=>
 s=false/\(Ev s (one ((.map (some (h).qa):Value),(h).new (.map [] 0))) fun i=>
 EvO (zH E 128 i.2 m) fun e=>veq 100 e k=true ∧
 (EvO (zH E 128 i.2 l) fun d=>veq 100 d j=true ∧
 (EvO (zAu E 176 (some [(0,j),(1,k),(2,i.1)])) fun o=>
 Ev s (zW 176 i.2 (zAL E 176)) fun b=>
 EvO (zH E 128 b.2 m) fun g=>veq 100 g k=true ∧
 (EvO (zH E 128 b.2 l) fun f=>veq 100 f j=true ∧
 (Ev s (zb E 176 b.2 b.1 o) fun p=>
 PI (C72 s) K 3 [q,r,t,b.1] p.2)))))/\(Ev s (zW 176 h (zAL E 176)) fun b=>
 EvO (zH E 128 b.2 m) fun g=>veq 100 g k=true ∧
 (EvO (zH E 128 b.2 l) fun f=>veq 100 f j=true ∧
 (Ev s (one ((.map (some (b.2).qa):Value),(b.2).new (.map [] 0))) fun i=>
 EvO (zH E 128 i.2 m) fun e=>veq 100 e k=true ∧
 (EvO (zH E 128 i.2 l) fun d=>veq 100 d j=true ∧
 (EvO (zAu E 176 (some [(0,j),(1,k),(2,i.1)])) fun o=>
 Ev s (zb E 176 i.2 b.1 o) fun p=>
 PI (C72 s) K 3 [q,r,t,b.1] p.2)))))):PI (C72 s) K 2 [q,r,t,u] h:=zB H
def zgH(H :
 EvO (zD E 32 1 b) fun i=>
 EvO (zH E 26 h i) fun d=>
 EvO (zQ E (zk [(25,d)]) (zn B72 [1,1,1,0,0] 2) h) fun j=>
 PI (C72 s) K 4 [e,f,b,g,d,j,(iI 0)] h):PI (C72 s) K 3 [e,f,b,g] h:=zB H
def zU3:zQ E (zk [(25,.slice a n c)]) (zn B72 [1,1,1,0,0] 2) h=some (iI (n:Int)):=by cases a <;> kernel_rfl
def zQP(H :
 EvO (zC E .lss 3 d b) fun k=>
 BrK k (PI (C72 s) K 5 [i,j,f,g,e,b,d] h) (PI (C72 s) K 10 [f,g] h)):PI (C72 s) K 4 [i,j,f,g,e,b,d] h:=zB H
def zgG(H :
 EvO (zE E 26 b d) fun l=>
 EvO (zH E 54 h l) fun m=>
 Ev s (zW 54 h (zAL E 54)) fun f=>
 Ev s (zb E 54 f.2 f.1 m) fun o=>
 PI (C72 s) K 6 [g,i,j,k,f.1,b,e,d] o.2):PI (C72 s) K 5 [g,i,j,k,b,e,d] h:=zB H
def zgF(H :
 EvO (zE E 54 b (some (iI 0))) fun p=>
 EvO (zH E 3 h p) fun q=>
 EvO (zD E 25 0 k) fun r=>
 EvO (zH E 3 h r) fun t=>
 EvO (zC E .geq 3 q t) fun d=>
 EvO (gdB d false (zE E 54 b (some (iI 1)))) fun u=>
 EvO (gdB d false (zH E 3 h u)) fun w=>
 EvO (gdB d false (zD E 25 0 l)) fun x=>
 EvO (gdB d false (zH E 3 h x)) fun y=>
 EvO (gdB d false (zC E .geq 3 w y)) fun i=>
 EvO (zAE d (some (.bool true)) i) fun j=>
 BrK j (PI (C72 s) K 7 [] h) (PI (C72 s) K 8 [k,l,m,o,b,e,f,g] h)):PI (C72 s) K 6 [k,l,m,o,b,e,f,g] h:=zB H
def zgE(H :
 K .ret [(.bool false)] h):PI (C72 s) K 7 [] h:=zB H
def zgD(H :
 EvO (zD E 176 2 g) fun l=>
 EvO (zH E 174 h l) fun m=>
 EvO (zH E 54 h b) fun o=>
 Ev s (zAI E 174 m o (some (.bool true)) h) fun p=>
 PI (C72 s) K 9 [i,j,k,g,d,e,f] p.2):PI (C72 s) K 8 [i,j,k,g,b,d,e,f] h:=zB H
def zgC(H :
 EvO (zC E .add 3 e (iI 1)) fun k=>
 PI (C72 s) K 4 [f,g,i,j,b,d,k] h):PI (C72 s) K 9 [f,g,i,j,b,d,e] h:=zB H
def zXF(H :
 EvO (zD E 32 0 m) fun i=>
 EvO (zH E 3 h i) fun g=>
 s=false/\(Ev s (zT (zV E) (some (.func (.func 79) #[] #[])) (some []) h) fun f=>
 EvO (zH E 3 f.2 i) fun b=>veq 100 b g=true ∧
 (EvO (zDC E 113 f.1 g) fun j=>
 Ev s (zW 112 f.2 (zAL E 112)) fun e=>
 EvO (zH E 3 e.2 i) fun d=>veq 100 d g=true ∧
 (Ev s (zb E 112 e.2 e.1 j) fun k=>
 PI (C72 s) K 11 [l,e.1] k.2)))/\(Ev s (zW 112 h (zAL E 112)) fun e=>
 EvO (zH E 3 e.2 i) fun d=>veq 100 d g=true ∧
 (Ev s (zT (zV E) (some (.func (.func 79) #[] #[])) (some []) e.2) fun f=>
 EvO (zH E 3 f.2 i) fun b=>veq 100 b g=true ∧
 (EvO (zDC E 113 f.1 g) fun j=>
 Ev s (zb E 112 f.2 e.1 j) fun k=>
 PI (C72 s) K 11 [l,e.1] k.2)))):PI (C72 s) K 10 [m,l] h:=zB H
def zXE(H :
 EvO (zH E 176 h l) fun p=>
 Ev s (zT (zV E) (some (.func (.func 123) #[] #[])) (some [p,(iI 0),(iI 0)]) h) fun d=>
 EvO (gdB d.1 true (zH E 176 d.2 l)) fun q=>
 EvO (gdB d.1 true (zAu E 178 (some [(0,q)]))) fun r=>
 EvO (gdB d.1 true (zH E 112 d.2 f)) fun t=>
 Ev s (gdW d.1 true (zT (zV E) (some (.func (.func 124) #[] #[])) [r,t] d.2) d.2) fun k=>
 EvO (zAE d.1 k.1 (some (.bool false))) fun g=>
 EvO (gdB g true (zH E 176 k.2 l)) fun u=>
 EvO (gdB g true (zH E 112 k.2 f)) fun i=>
 Ev s (gdW g true (zT (zV E) (some (.func (.func 125) #[] #[])) [u] k.2) k.2) fun e=>
 EvO (gdB g true (zH E 112 e.2 f)) fun b=>veq 100 b i=true ∧
 (EvO (gdB g true (zAu E 178 (some [(0,e.1)]))) fun m=>
 Ev s (gdW g true (zT (zV E) (some (.func (.func 124) #[] #[])) [m,i] e.2) e.2) fun j=>
 EvO (zAE g j.1 (some (.bool false))) fun o=>
 K .ret [o] j.2)):PI (C72 s) K 11 [l,f] h:=zB H
def zhT(aa:h.ok)(hv:zo v=true)(H:PI (C72 s) (KR E [.tmp 6] fun x k=>x=v/\h.qa<=k.wm) 0 [v0,v1,v2] h.qb):(zV E).call 72 [v0,v1,v2] h=some [(v,h)]:=zAz Tryz.f72 aa hv (zAD (C72 s) H)
def B79:Code:=zc Tryz.f79
def C79(s:Bool):Cx:=⟨E,s,none,B79,[([0],[]),([1,0],[0])],[0],[]⟩
def zgB(H :
 Ev s (zW 113 h (zAL E 113)) fun b=>
 PI (C79 s) K 1 [b.1] b.2):PI (C79 s) K 0 [] h:=zB H
def zgA(H :
 EvO (zAu E 112 (some [(0,(.func (.func 128) #[] #[])),(1,(.func (.func 129) #[] #[])),(2,(.string ⟨#[115,116,114,111,110,103]⟩))])) fun d=>
 EvO (zAu E 112 (some [(0,(.func (.func 130) #[] #[])),(1,(.func (.func 131) #[] #[])),(2,(.string ⟨#[98,114,97,110,99,104,105,110,103]⟩))])) fun e=>
 EvO (zAu E 113 (some [(1,d),(2,e)])) fun f=>
 Ev s (zb E 113 h b f) fun g=>
 K .ret [b] g.2):PI (C79 s) K 1 [b] h:=zB H
def zdB(aa:h.ok)(hv:zg v=true)(H:PI (C79 true) (KR E [.cell 0 113] fun x k=>x=v/\h.qa<=k.wm) 0 [] h.qb):(zV E).call 79 [] h=some [(v,h)]:=zDn Tryz.f79 aa hv (zAD (C79 true) H)
def B90:Code:=zc Tryz.f90
def C90(s:Bool):Cx:=⟨E,s,none,B90,[([0],[0]),([1,0],[0]),([1,1,0,0],[0,3]),([1,1,0,1,0,0,0],[0,3,17,18,19]),([1,1,0,1,0,0,1,1,0,0,0],[0,3,17,18,19]),([1,1,0,1,0,0,1,1,0,0,1,0],[0,3,5,17,18,19]),([1,1,0,1,0,0,1,1,0,0,1,1,0,0,0],[0,3,17,18,19,24,25,26]),([1,1,0,1,0,0,1,1,0,0,1,1,0,0,1,1,0,0,0],[0,3,17,18,19,24,25,26]),([1,1,0,1,0,0,1,1,0,0,1,1,0,0,1,1,0,0,1],[0,3,7,17,18,19,24,25,26]),([1,1,0,1,0,0,1,1,0,0,1,1,0,0,1,1,1],[0,3,17,18,19,24,25,26]),([1,1,0,1,0,0,1,1,1],[0,3,17,18,19]),([1,1,1,0],[0,3]),([1,1,1,1,0,0],[0,3,8]),([1,1,1,1,0,1,0,0,0],[3,8,34,35,36]),([1,1,1,1,0,1,0,0,1,1,0,0,0],[3,8,34,35,36]),([1,1,1,1,0,1,0,0,1,1,0,0,1,0],[3,8,10,34,35,36]),([1,1,1,1,0,1,0,0,1,1,0,0,1,1,0],[3,8,10,11,34,35,36]),([1,1,1,1,0,1,0,0,1,1,0,0,1,1,1,0,0],[3,8,10,11,12,34,35,36]),([1,1,1,1,0,1,0,0,1,1,0,0,1,1,1,0,1,0,0,0],[3,8,10,11,12,34,35,36,50,51,52]),([1,1,1,1,0,1,0,0,1,1,0,0,1,1,1,0,1,0,0,1,1,0,0,0],[3,8,10,11,12,34,35,36,50,51,52]),([1,1,1,1,0,1,0,0,1,1,0,0,1,1,1,0,1,0,0,1,1,0,0,1],[3,8,10,11,12,13,14,34,35,36,50,51,52]),([1,1,1,1,0,1,0,0,1,1,0,0,1,1,1,0,1,0,0,1,1,1],[3,8,10,11,12,34,35,36,50,51,52]),([1,1,1,1,0,1,0,0,1,1,0,0,1,1,1,1,0,0],[3,8,10,11,12,34,35,36]),([1,1,1,1,0,1,0,0,1,1,0,0,1,1,1,1,0,1,0,0,0],[3,8,11,12,34,35,36,64,65,66]),([1,1,1,1,0,1,0,0,1,1,0,0,1,1,1,1,0,1,0,0,1,1,0,0,0],[3,8,11,12,34,35,36,64,65,66]),([1,1,1,1,0,1,0,0,1,1,0,0,1,1,1,1,0,1,0,0,1,1,0,0,1],[3,8,11,12,16,34,35,36,64,65,66]),([1,1,1,1,0,1,0,0,1,1,0,0,1,1,1,1,0,1,0,0,1,1,1],[3,8,11,12,34,35,36,64,65,66]),([1,1,1,1,0,1,0,0,1,1,0,0,1,1,1,1,1],[3,8,11,34,35,36]),([1,1,1,1,0,1,0,0,1,1,1],[3,8,34,35,36]),([1,1,1,1,1,0],[8])],[2],[]⟩
abbrev zsA(s:Bool)(K:KF)(f g b d e:Value)(h:AH):Prop:=PI (C90 s) K 3 [f,g,b,d,e] h
abbrev zr9(s:Bool)(K:KF)(j k b d e f g i:Value)(h:AH):Prop:=PI (C90 s) K 6 [j,k,b,d,e,f,g,i] h
abbrev zoz(s:Bool)(K:KF)(b d:Value)(h:AH):Prop:=PI (C90 s) K 11 [b,d] h
abbrev zoy(s:Bool)(K:KF)(f g b d e:Value)(h:AH):Prop:=PI (C90 s) K 13 [f,g,b,d,e] h
abbrev zox(s:Bool)(K:KF)(m o b d e f g i j k l:Value)(h:AH):Prop:=PI (C90 s) K 18 [m,o,b,d,e,f,g,i,j,k,l] h
abbrev zow(s:Bool)(K:KF)(j k b d e f g i:Value)(h:AH):Prop:=PI (C90 s) K 22 [j,k,b,d,e,f,g,i] h
abbrev zov(s:Bool)(K:KF)(l m b d e f g i j k:Value)(h:AH):Prop:=PI (C90 s) K 23 [l,m,b,d,e,f,g,i,j,k] h
abbrev zou(s:Bool)(K:KF)(g i b d e f:Value)(h:AH):Prop:=PI (C90 s) K 27 [g,i,b,d,e,f] h
def zfi(H :
 PI (C90 s) K 1 [b] h):PI (C90 s) K 0 [b] h:=zB H
def zfh(H :
 Ev s (zW 197 h (zAL E 197)) fun b=>
 PI (C90 s) K 2 [d,b.1] b.2):PI (C90 s) K 1 [d] h:=zB H
def zfg(H :
 EvO (zQ E (zk [(17,b)]) (zn B90 [1,1,0,0] 1) h) fun e=>
 PI (C90 s) K 3 [b,d,b,e,(iI 0)] h):PI (C90 s) K 2 [b,d] h:=zB H
def zU0:zQ E (zk [(17,.slice a n c)]) (zn B90 [1,1,0,0] 1) h=some (iI (n:Int)):=by cases a <;> kernel_rfl
def zQM(H :
 EvO (zC E .lss 3 d b) fun i=>
 BrK i (PI (C90 s) K 4 [f,g,e,b,d] h) (PI (C90 s) K 11 [f,g] h)):PI (C90 s) K 3 [f,g,e,b,d] h:=zB H
def zff(H :
 EvO (zE E 82 b d) fun j=>
 EvO (zH E 25 h j) fun k=>
 Ev s (zW 25 h (zAL E 25)) fun f=>
 Ev s (zb E 25 f.2 f.1 k) fun l=>
 PI (C90 s) K 5 [g,i,f.1,b,e,d] l.2):PI (C90 s) K 4 [g,i,b,e,d] h:=zB H
def zfe(H :
 EvO (zD E 25 1 j) fun k=>
 EvO (zH E 22 h k) fun f=>
 EvO (zQ E (zk [(24,f)]) (zn B90 [1,1,0,1,0,0,1,1,0,0,1,0] 2) h) fun l=>
 PI (C90 s) K 6 [g,i,b,d,e,f,l,(iI 0)] h):PI (C90 s) K 5 [g,i,j,b,d,e] h:=zB H
def zUz:zQ E (zk [(24,.slice a n c)]) (zn B90 [1,1,0,1,0,0,1,1,0,0,1,0] 2) h=some (iI (n:Int)):=by cases a <;> kernel_rfl
def zQL(H :
 EvO (zC E .lss 3 g f) fun l=>
 BrK l (PI (C90 s) K 7 [j,k,b,d,e,i,f,g] h) (PI (C90 s) K 10 [j,k,b,d,e] h)):PI (C90 s) K 6 [j,k,b,d,e,i,f,g] h:=zB H
def zfd(H :
 EvO (zE E 22 b d) fun m=>
 EvO (zH E 36 h m) fun o=>
 Ev s (zW 36 h (zAL E 36)) fun j=>
 Ev s (zb E 36 j.2 j.1 o) fun p=>
 PI (C90 s) K 8 [k,l,j.1,e,f,g,b,i,d] p.2):PI (C90 s) K 7 [k,l,e,f,g,b,i,d] h:=zB H
def zfc(H :
 EvO (zH E 36 h l) fun m=>
 Ev s (zT (zV E) (some (.func (.func 143) #[] #[])) [j,m] h) fun o=>
 PI (C90 s) K 9 [k,j,b,d,e,f,g,i] o.2):PI (C90 s) K 8 [k,j,l,b,d,e,f,g,i] h:=zB H
def zfb(H :
 EvO (zC E .add 3 i (iI 1)) fun l=>
 PI (C90 s) K 6 [j,k,b,d,e,f,g,l] h):PI (C90 s) K 9 [j,k,b,d,e,f,g,i] h:=zB H
def zW4(H :
 EvO (zC E .add 3 e (iI 1)) fun i=>
 PI (C90 s) K 3 [f,g,b,d,i] h):PI (C90 s) K 10 [f,g,b,d,e] h:=zB H
def zW3(H :
 PI (C90 s) K 12 [b,d,(.slice none 0 0)] h):PI (C90 s) K 11 [b,d] h:=zB H
def zW2(H :
 EvO (zQ E (zk [(34,b)]) (zn B90 [1,1,1,1,0,0] 1) h) fun f=>
 PI (C90 s) K 13 [d,e,b,f,(iI 0)] h):PI (C90 s) K 12 [b,d,e] h:=zB H
def zQ7:zQ E (zk [(34,.slice a n c)]) (zn B90 [1,1,1,1,0,0] 1) h=some (iI (n:Int)):=by cases a <;> kernel_rfl
def zMT(H :
 EvO (zC E .lss 3 d b) fun i=>
 BrK i (PI (C90 s) K 14 [g,f,e,b,d] h) (PI (C90 s) K 29 [f] h)):PI (C90 s) K 13 [g,f,e,b,d] h:=zB H
def zW1(H :
 EvO (zE E 82 b d) fun j=>
 EvO (zH E 25 h j) fun k=>
 Ev s (zW 25 h (zAL E 25)) fun f=>
 Ev s (zb E 25 f.2 f.1 k) fun l=>
 PI (C90 s) K 15 [g,i,f.1,b,e,d] l.2):PI (C90 s) K 14 [g,i,b,e,d] h:=zB H
def zW0(H :
 EvO (zD E 25 0 b) fun m=>
 EvO (zH E 3 h m) fun g=>
 Ev s (zBL E 129 g g h) fun i=>
 EvO (zAu E 131 (some [(0,i.1)])) fun o=>
 Ev s (zW 131 i.2 o) fun j=>
 PI (C90 s) K 16 [k,l,b,j.1,d,e,f] j.2):PI (C90 s) K 15 [k,l,b,d,e,f] h:=zB H
def zWz(H :
 EvO (zD E 25 1 b) fun m=>
 EvO (zH E 22 h m) fun o=>
 EvO (zQ E (zk [(46,o)]) (zn B90 [1,1,1,1,0,1,0,0,1,1,0,0,1,1,0] 2) h) fun i=>
 Ev s (zBL E 47 i i h) fun j=>
 PI (C90 s) K 17 [k,l,b,d,j.1,e,f,g] j.2):PI (C90 s) K 16 [k,l,b,d,e,f,g] h:=zB H
def zQ6:zQ E (zk [(46,.slice a n c)]) (zn B90 [1,1,1,1,0,1,0,0,1,1,0,0,1,1,0] 2) h=some (iI (n:Int)):=by cases a <;> kernel_rfl
def zWy(H :
 EvO (zD E 25 1 b) fun m=>
 EvO (zH E 22 h m) fun j=>
 EvO (zQ E (zk [(50,j)]) (zn B90 [1,1,1,1,0,1,0,0,1,1,0,0,1,1,1,0,0] 2) h) fun o=>
 PI (C90 s) K 18 [k,l,b,d,e,f,g,i,j,o,(iI 0)] h):PI (C90 s) K 17 [k,l,b,d,e,f,g,i] h:=zB H
def zQ5:zQ E (zk [(50,.slice a n c)]) (zn B90 [1,1,1,1,0,1,0,0,1,1,0,0,1,1,1,0,0] 2) h=some (iI (n:Int)):=by cases a <;> kernel_rfl
def zMS(H :
 EvO (zC E .lss 3 k j) fun p=>
 BrK p (PI (C90 s) K 19 [m,o,b,d,e,f,g,i,l,j,k] h) (PI (C90 s) K 22 [m,o,b,d,e,f,g,i] h)):PI (C90 s) K 18 [m,o,b,d,e,f,g,i,l,j,k] h:=zB H
def zWx(H :
 EvO (zE E 22 d b) fun q=>
 EvO (zH E 36 h q) fun r=>
 Ev s (zW 36 h (zAL E 36)) fun m=>
 Ev s (zb E 36 m.2 m.1 r) fun t=>
 PI (C90 s) K 20 [o,p,e,f,g,b,m.1,i,j,k,d,l,b] t.2):PI (C90 s) K 19 [o,p,e,f,g,i,j,k,d,l,b] h:=zB H
def zWw(H :
 EvO (zH E 36 h g) fun t=>
 Ev s (zT (zV E) (some (.func (.func 143) #[] #[])) [p,t] h) fun q=>
 EvO (zE E 47 b f) fun u=>
 Ev s (zb E 3 q.2 u q.1) fun w=>
 PI (C90 s) K 21 [p,r,d,e,b,i,j,k,l,m,o] w.2):PI (C90 s) K 20 [p,r,d,e,b,f,g,i,j,k,l,m,o] h:=zB H
def zWv(H :
 EvO (zC E .add 3 l (iI 1)) fun p=>
 PI (C90 s) K 18 [m,o,b,d,e,f,g,i,j,k,p] h):PI (C90 s) K 21 [m,o,b,d,e,f,g,i,j,k,l] h:=zB H
def zWu(H :
 EvO (zD E 25 2 b) fun m=>
 EvO (zH E 23 h m) fun j=>
 EvO (zQ E (zk [(64,j)]) (zn B90 [1,1,1,1,0,1,0,0,1,1,0,0,1,1,1,1,0,0] 2) h) fun o=>
 PI (C90 s) K 23 [k,l,d,e,f,g,i,j,o,(iI 0)] h):PI (C90 s) K 22 [k,l,b,d,e,f,g,i] h:=zB H
def zQ4:zQ E (zk [(64,.slice a n c)]) (zn B90 [1,1,1,1,0,1,0,0,1,1,0,0,1,1,1,1,0,0] 2) h=some (iI (n:Int)):=by cases a <;> kernel_rfl
def zMR(H :
 EvO (zC E .lss 3 i g) fun o=>
 BrK o (PI (C90 s) K 24 [l,m,b,j,d,e,f,k,g,i] h) (PI (C90 s) K 27 [l,m,b,d,e,f] h)):PI (C90 s) K 23 [l,m,b,j,d,e,f,k,g,i] h:=zB H
def zWt(H :
 EvO (zE E 23 b d) fun p=>
 EvO (zH E 52 h p) fun q=>
 Ev s (zW 52 h (zAL E 52)) fun l=>
 Ev s (zb E 52 l.2 l.1 q) fun r=>
 PI (C90 s) K 25 [m,o,e,f,l.1,g,i,j,b,k,d] r.2):PI (C90 s) K 24 [m,o,e,f,g,i,j,b,k,d] h:=zB H
def zWs(H :
 EvO (zp o) fun x1=>
 EvO (zD E 131 0 x1) fun L=>
 EvO (zH E 129 h L) fun S=>
 EvO (zD E 52 0 f) fun U=>
 EvO (zH E 3 h U) fun V=>
 EvO (zp o) fun x7=>
 EvO (zD E 131 0 x7) fun W=>
 EvO (zH E 129 h W) fun X=>
 EvO (zD E 52 0 f) fun q=>
 EvO (zH E 3 h q) fun r=>
 EvO (zE E 129 X r) fun t=>
 EvO (zH E 132 h t) fun u=>
 EvO (zD E 52 1 f) fun C=>
 EvO (zH E 3 h C) fun D=>
 EvO (zE E 47 p D) fun F=>
 EvO (zH E 3 h F) fun G=>
 EvO (zD E 52 2 f) fun J=>
 EvO (zH E 3 h J) fun M=>
 EvO (zAu E 134 (some [(0,G),(1,M)])) fun N=>
 Ev s (zh E 132 1 (some [(0,N)]) h) fun b=>
 EvO (zH E 132 b.2 t) fun e=>veq 100 e u=true ∧
 (EvO (zH E 3 b.2 q) fun d=>veq 100 d r=true ∧
 (EvO (zH E 129 b.2 W) fun k=>veq 100 k X=true ∧
 (EvO (zH E 3 b.2 U) fun j=>veq 100 j V=true ∧
 (EvO (zH E 129 b.2 L) fun i=>veq 100 i S=true ∧
 (Ev s (zAJ E .append [132,132] [u,b.1] b.2) fun g=>
 EvO (zH E 3 g.2 U) fun m=>veq 100 m V=true ∧
 (EvO (zH E 129 g.2 L) fun l=>veq 100 l S=true ∧
 (EvO (zE E 129 S V) fun O=>
 Ev s (zb E 132 g.2 O g.1) fun Q=>
 PI (C90 s) K 26 [Y,Z,o,p,w,x,y,z,A,B] Q.2)))))))):PI (C90 s) K 25 [Y,Z,o,p,f,w,x,y,z,A,B] h:=zB H
def zWr(H :
 EvO (zC E .add 3 k (iI 1)) fun o=>
 PI (C90 s) K 23 [l,m,b,d,e,f,g,i,j,o] h):PI (C90 s) K 26 [l,m,b,d,e,f,g,i,j,k] h:=zB H
def zWq(H :
 Ev s (zh E 126 1 (some [(0,b)]) h) fun g=>
 Ev s (zAJ E .append [126,126] [k,g.1] g.2) fun i=>
 PI (C90 s) K 28 [j,i.1,d,e,f] i.2):PI (C90 s) K 27 [j,k,b,d,e,f] h:=zB H
def zWp(H :
 EvO (zC E .add 3 e (iI 1)) fun i=>
 PI (C90 s) K 13 [f,g,b,d,i] h):PI (C90 s) K 28 [f,g,b,d,e] h:=zB H
def zWo(H :
 K .ret [b] h):PI (C90 s) K 29 [b] h:=zB H
def zhP(H:PI (C90 true) (KR E [.tmp 2] fun x k=>(zg x=false\/k.wm<h.qa)/\Rp x ⟨k.t,k.qa,cond (Nat.ble h.wm k.wm) h.wm k.wm⟩) 0 [v0] h.qb):Ev true ((zV E).call 90 [v0] h) fun x=>Rp x.1 x.2:=zHk Tryz.f90 (zAD (C90 true) H)
def B94:Code:=zc Tryz.f94
def C94(s:Bool):Cx:=⟨E,s,none,B94,[([0],[0,1]),([1,0],[0,1]),([1,1,0],[0,1,5]),([1,1,1,0,0],[0,1,5,6]),([1,1,1,0,1,0,0,0],[6]),([1,1,1,0,1,0,0,1,0,0],[]),([1,1,1,0,1,0,1,0],[]),([1,1,1,1,0,0],[0,1,6]),([1,1,1,1,0,1,0,0],[]),([1,1,1,1,1,0,0],[0,1]),([1,1,1,1,1,0,1,0,0],[]),([1,1,1,1,1,1,0,0],[0,1]),([1,1,1,1,1,1,0,1,0,0],[]),([1,1,1,1,1,1,1,0],[])],[4],[]⟩
def zfP(H :
 PI (C94 s) K 1 [b,d] h):PI (C94 s) K 0 [b,d] h:=zB H
def zfO(H :
 Ev s (zT (zV E) (some (.func (.func 154) #[] #[])) [b] h) fun d=>
 PI (C94 s) K 2 [b,e,d.1] d.2):PI (C94 s) K 1 [b,e] h:=zB H
def zfN(H :
 Ev s (zT (zV E) (some (.func (.func 154) #[] #[])) [b] h) fun d=>
 PI (C94 s) K 3 [e,b,f,d.1] d.2):PI (C94 s) K 2 [e,b,f] h:=zB H
def zfM(H :
 BrK f (PI (C94 s) K 4 [b] h) (PI (C94 s) K 7 [d,e,b] h)):PI (C94 s) K 3 [d,e,f,b] h:=zB H
def zfL(H :
 BrK e (PI (C94 s) K 8 [] h) (PI (C94 s) K 9 [b,d] h)):PI (C94 s) K 7 [b,d,e] h:=zB H
def zfK(H :
 EvO (zC E .lss 3 b d) fun e=>
 BrK e (PI (C94 s) K 10 [] h) (PI (C94 s) K 11 [b,d] h)):PI (C94 s) K 9 [b,d] h:=zB H
def zWn(H :
 K .ret [(iI (-1))] h):PI (C94 s) K 10 [] h:=zB H
def zWm(H :
 EvO (zC E .gtr 3 b d) fun e=>
 BrK e (PI (C94 s) K 12 [] h) (PI (C94 s) K 13 [] h)):PI (C94 s) K 11 [b,d] h:=zB H
def zWl(H :
 K .ret [(iI 1)] h):PI (C94 s) K 12 [] h:=zB H
def zWk(H :
 K .ret [(iI 0)] h):PI (C94 s) K 13 [] h:=zB H
def zhN(aa:h.ok)(hv:zo v=true)(H:PI (C94 s) (KR E [.tmp 4] fun x k=>x=v/\h.qa<=k.wm) 0 [v0,v1] h.qb):(zV E).call 94 [v0,v1] h=some [(v,h)]:=zAz Tryz.f94 aa hv (zAD (C94 s) H)
def B105:Code:=zc Tryz.f105
def zqc(s:Bool):Cx:=⟨E,s,none,B105,[([0],[0]),([1,0],[0])],[2],[]⟩
def zc8(H :
 PI (zqc s) K 1 [b] h):PI (zqc s) K 0 [b] h:=zB H
def zc7(H :
 EvO (zC E .eql 3 d (iI 1)) fun b=>
 EvO (gdB b false d) fun e=>
 EvO (gdB b false (zC E .eql 3 e (iI 2))) fun f=>
 EvO (zAE b (some (.bool true)) f) fun g=>
 K .ret [g] h):PI (zqc s) K 1 [d] h:=zB H
def zd7(aa:h.ok)(hv:zo v=true)(H:PI (zqc s) (KR E [.tmp 2] fun x k=>x=v/\h.qa<=k.wm) 0 [v0] h.qb):(zV E).call 105 [v0] h=some [(v,h)]:=zAz Tryz.f105 aa hv (zAD (zqc s) H)
def zeF:Code:=zc Tryz.f121
def zDQ(s:Bool):Cx:=⟨E,s,none,zeF,[([0],[0]),([1,0,0],[1]),([1,0,1,0,0],[]),([1,1,0,0],[1]),([1,1,0,1,0,0,0],[1,29,30,31]),([1,1,0,1,0,0,1,1,0,0,0],[1,29,30,31]),([1,1,0,1,0,0,1,1,0,0,1,0],[1,3,4,29,30,31]),([1,1,0,1,0,0,1,1,0,0,1,1,0,0],[]),([1,1,0,1,0,0,1,1,1],[1,29,30,31]),([1,1,1,0],[1]),([1,1,1,1,0,0],[1,5]),([1,1,1,1,0,1,0,0,0],[1,5,56,57,58]),([1,1,1,1,0,1,0,0,1,1,0,0,0],[1,5,56,57,58]),([1,1,1,1,0,1,0,0,1,1,0,0,1,0],[1,5,6,7,56,57,58]),([1,1,1,1,0,1,0,0,1,1,0,0,1,1,0,0],[]),([1,1,1,1,0,1,0,0,1,1,1],[1,5,56,57,58]),([1,1,1,1,1,0],[])],[2],[]⟩
abbrev zqD(s:Bool)(K:KF)(h:AH):Prop:=PI (zDQ s) K 2 [] h
abbrev zqC(s:Bool)(K:KF)(b:Value)(h:AH):Prop:=PI (zDQ s) K 3 [b] h
abbrev zqB(s:Bool)(K:KF)(f b d e:Value)(h:AH):Prop:=PI (zDQ s) K 4 [f,b,d,e] h
abbrev zqA(s:Bool)(K:KF)(h:AH):Prop:=PI (zDQ s) K 7 [] h
abbrev zp9(s:Bool)(K:KF)(f b d e:Value)(h:AH):Prop:=PI (zDQ s) K 8 [f,b,d,e] h
abbrev zmQ(s:Bool)(K:KF)(f g b d e:Value)(h:AH):Prop:=PI (zDQ s) K 11 [f,g,b,d,e] h
abbrev zmP(s:Bool)(K:KF)(h:AH):Prop:=PI (zDQ s) K 14 [] h
abbrev zmO(s:Bool)(K:KF)(f g b d e:Value)(h:AH):Prop:=PI (zDQ s) K 15 [f,g,b,d,e] h
def zc6(H :
 Ev s (zW 25 h d) fun b=>
 PI (zDQ s) K 1 [b.1] b.2):PI (zDQ s) K 0 [d] h:=zB H
def zc5(H :
 EvO (zD E 25 0 d) fun q=>
 EvO (zH E 3 h q) fun r=>
 EvO (zC E .lss 3 r (iI 1)) fun f=>
 EvO (gdB f false (zD E 25 0 d)) fun t=>
 EvO (gdB f false (zH E 3 h t)) fun u=>
 EvO (gdB f false (zC E .gtr 3 u (iI 20000))) fun w=>
 EvO (zAE f (some (.bool true)) w) fun e=>
 EvO (gdB e false (zD E 25 1 d)) fun x=>
 EvO (gdB e false (zH E 22 h x)) fun g=>
 EvO (gdB e false (zQ E (zk [(18,g)]) (zn zeF [1,0,0] 11) h)) fun i=>
 EvO (gdB e false (zC E .gtr 3 i (iI 4000))) fun j=>
 EvO (zAE e (some (.bool true)) j) fun b=>
 EvO (gdB b false (zD E 25 2 d)) fun k=>
 EvO (gdB b false (zH E 23 h k)) fun l=>
 EvO (gdB b false (zQ E (zk [(24,l)]) (zn zeF [1,0,0] 17) h)) fun m=>
 EvO (gdB b false (zC E .gtr 3 m (iI 100000))) fun o=>
 EvO (zAE b (some (.bool true)) o) fun p=>
 BrK p (PI (zDQ s) K 2 [] h) (PI (zDQ s) K 3 [d] h)):PI (zDQ s) K 1 [d] h:=zB H
def zOG:zQ E (zk [(18,.slice a n c)]) (zn zeF [1,0,0] 11) h=some (iI (n:Int)):=by cases a <;> kernel_rfl
def zOF:zQ E (zk [(24,.slice a n c)]) (zn zeF [1,0,0] 17) h=some (iI (n:Int)):=by cases a <;> kernel_rfl
def zc4(H :
 K .ret [(iI 8)] h):PI (zDQ s) K 2 [] h:=zB H
def zc3(H :
 EvO (zD E 25 1 b) fun e=>
 EvO (zH E 22 h e) fun d=>
 EvO (zQ E (zk [(29,d)]) (zn zeF [1,1,0,0] 2) h) fun f=>
 PI (zDQ s) K 4 [b,d,f,(iI 0)] h):PI (zDQ s) K 3 [b] h:=zB H
def zRT:zQ E (zk [(29,.slice a n c)]) (zn zeF [1,1,0,0] 2) h=some (iI (n:Int)):=by cases a <;> kernel_rfl
def zNX(H :
 EvO (zC E .lss 3 d b) fun g=>
 BrK g (PI (zDQ s) K 5 [f,e,b,d] h) (PI (zDQ s) K 9 [f] h)):PI (zDQ s) K 4 [f,e,b,d] h:=zB H
def zc2(H :
 EvO (zE E 22 d b) fun i=>
 EvO (zH E 36 h i) fun j=>
 Ev s (zW 36 h (zAL E 36)) fun f=>
 Ev s (zb E 36 f.2 f.1 j) fun k=>
 PI (zDQ s) K 6 [g,b,f.1,d,e,b] k.2):PI (zDQ s) K 5 [g,d,e,b] h:=zB H
def zc1(H :
 EvO (zH E 36 h w) fun x=>
 Ev s (zT (zV E) (some (.func (.func 167) #[] #[])) [x] h) fun e=>
 EvO (zC E .neq 29 e.1 (iI 0)) fun f=>
 EvO (gdB f false u) fun y=>
 EvO (gdB f false (zC E .gtr 3 y (iI 0))) fun z=>
 EvO (gdB f false z) fun b=>
 EvO (gdB b true (zD E 25 1 t)) fun A=>
 EvO (gdB b true (zH E 22 e.2 A)) fun B=>
 EvO (gdB b true u) fun C=>
 EvO (gdB b true (zC E .sub 3 C (iI 1))) fun k=>
 EvO (gdB b true (zE E 22 B k)) fun l=>
 EvO (gdB b true (zH E 36 e.2 l)) fun m=>
 EvO (gdB b true (zH E 36 e.2 w)) fun o=>
 Ev s (gdW b true (zT (zV E) (some (.func (.func 168) #[] #[])) [m,o] e.2) e.2) fun d=>
 EvO (gdB b true (zC E .geq 3 d.1 (iI 0))) fun p=>
 EvO (gdB f false (zAE b p (some (.bool false)))) fun q=>
 EvO (zAE f (some (.bool true)) q) fun r=>
 BrK r (PI (zDQ s) K 7 [] d.2) (PI (zDQ s) K 8 [t,g,i,j] d.2)):PI (zDQ s) K 6 [t,u,w,g,i,j] h:=zB H
def zc0(H :
 K .ret [(iI 8)] h):PI (zDQ s) K 7 [] h:=zB H
def zcz(H :
 EvO (zC E .add 3 e (iI 1)) fun g=>
 PI (zDQ s) K 4 [f,b,d,g] h):PI (zDQ s) K 8 [f,b,d,e] h:=zB H
def zcy(H :
 PI (zDQ s) K 10 [b,(.func (.func 169) #[] #[])] h):PI (zDQ s) K 9 [b] h:=zB H
def zTD(H :
 EvO (zD E 25 2 b) fun f=>
 EvO (zH E 23 h f) fun d=>
 EvO (zQ E (zk [(56,d)]) (zn zeF [1,1,1,1,0,0] 2) h) fun g=>
 PI (zDQ s) K 11 [b,e,d,g,(iI 0)] h):PI (zDQ s) K 10 [b,e] h:=zB H
def zOH:zQ E (zk [(56,.slice a n c)]) (zn zeF [1,1,1,1,0,0] 2) h=some (iI (n:Int)):=by cases a <;> kernel_rfl
def zKH(H :
 EvO (zC E .lss 3 d b) fun i=>
 BrK i (PI (zDQ s) K 12 [f,g,e,b,d] h) (PI (zDQ s) K 16 [] h)):PI (zDQ s) K 11 [f,g,e,b,d] h:=zB H
def zTC(H :
 EvO (zE E 23 d b) fun j=>
 EvO (zH E 52 h j) fun k=>
 Ev s (zW 52 h (zAL E 52)) fun f=>
 Ev s (zb E 52 f.2 f.1 k) fun l=>
 PI (zDQ s) K 13 [g,i,b,f.1,d,e,b] l.2):PI (zDQ s) K 12 [g,i,d,e,b] h:=zB H
def zTB(H :
 EvO (zD E 52 0 o) fun Z=>
 EvO (zH E 3 h Z) fun x2=>
 EvO (zD E 25 0 k) fun x3=>
 EvO (zH E 3 h x3) fun x4=>
 Ev s (zT (zV E) m [x2,x4] h) fun l=>
 EvO (zAY .not l.1) fun i=>
 EvO (gdB i false m) fun x8=>
 EvO (gdB i false (zD E 52 2 o)) fun x9=>
 EvO (gdB i false (zH E 3 l.2 x9)) fun t=>
 EvO (gdB i false (zD E 25 0 k)) fun u=>
 EvO (gdB i false (zH E 3 l.2 u)) fun w=>
 Ev s (gdW i false (zT (zV E) x8 [t,w] l.2) l.2) fun e=>
 EvO (gdB i false (zAY .not e.1)) fun x=>
 EvO (zAE i (some (.bool true)) x) fun d=>
 EvO (gdB d false m) fun y=>
 EvO (gdB d false (zD E 52 1 o)) fun z=>
 EvO (gdB d false (zH E 3 e.2 z)) fun A=>
 EvO (gdB d false (zD E 25 1 k)) fun B=>
 EvO (gdB d false (zH E 22 e.2 B)) fun C=>
 EvO (gdB d false (zQ E (zk [(84,C)]) (zn zeF [1,1,1,1,0,1,0,0,1,1,0,0,1,0] 22) e.2)) fun D=>
 Ev s (gdW d false (zT (zV E) y [A,D] e.2) e.2) fun f=>
 EvO (gdB d false (zAY .not f.1)) fun F=>
 EvO (zAE d (some (.bool true)) F) fun g=>
 EvO (gdB g false Y) fun G=>
 EvO (gdB g false (zC E .gtr 3 G (iI 0))) fun J=>
 EvO (gdB g false J) fun b=>
 EvO (gdB b true (zD E 25 2 k)) fun L=>
 EvO (gdB b true (zH E 23 f.2 L)) fun M=>
 EvO (gdB b true Y) fun N=>
 EvO (gdB b true (zC E .sub 3 N (iI 1))) fun O=>
 EvO (gdB b true (zE E 23 M O)) fun Q=>
 EvO (gdB b true (zH E 52 f.2 Q)) fun S=>
 EvO (gdB b true (zH E 52 f.2 o)) fun U=>
 Ev s (gdW b true (zT (zV E) (some (.func (.func 170) #[] #[])) [S,U] f.2) f.2) fun j=>
 EvO (gdB b true (zC E .geq 3 j.1 (iI 0))) fun V=>
 EvO (gdB g false (zAE b V (some (.bool false)))) fun W=>
 EvO (zAE g (some (.bool true)) W) fun X=>
 BrK X (PI (zDQ s) K 14 [] j.2) (PI (zDQ s) K 15 [k,m,p,q,r] j.2)):PI (zDQ s) K 13 [k,m,Y,o,p,q,r] h:=zB H
def zLt:zQ E (zk [(84,.slice a n c)]) (zn zeF [1,1,1,1,0,1,0,0,1,1,0,0,1,0] 22) h=some (iI (n:Int)):=by cases a <;> kernel_rfl
def zTA(H :
 K .ret [(iI 8)] h):PI (zDQ s) K 14 [] h:=zB H
def zS9(H :
 EvO (zC E .add 3 e (iI 1)) fun i=>
 PI (zDQ s) K 11 [f,g,b,d,i] h):PI (zDQ s) K 15 [f,g,b,d,e] h:=zB H
def zS8(H :
 K .ret [(iI 0)] h):PI (zDQ s) K 16 [] h:=zB H
def zd6(aa:h.ok)(hv:zo v=true)(H:PI (zDQ s) (KR E [.tmp 2] fun x k=>x=v/\h.qa<=k.wm) 0 [v0] h.qb):(zV E).call 121 [v0] h=some [(v,h)]:=zAz Tryz.f121 aa hv (zAD (zDQ s) H)
def B122:Code:=zc Tryz.f122
def zqb(s:Bool):Cx:=⟨E,s,none,B122,[([0],[0,1]),([1,0],[2,3])],[4],[]⟩
def zcx(H :
 Ev s (zW 54 h e) fun b=>
 Ev s (zW 54 b.2 f) fun d=>
 PI (zqb s) K 1 [b.1,d.1] d.2):PI (zqb s) K 0 [e,f] h:=zB H
def zcw(H :
 EvO (zE E 54 i (some (iI 0))) fun q=>
 EvO (zH E 3 h q) fun r=>
 EvO (zE E 54 j (some (iI 0))) fun t=>
 EvO (zH E 3 h t) fun u=>
 EvO (zE E 54 i (some (iI 1))) fun k=>
 EvO (zH E 3 h k) fun l=>
 EvO (zE E 54 j (some (iI 1))) fun m=>
 EvO (zH E 3 h m) fun o=>
 Ev s (zT (zV E) (some (.func (.func 94) #[] #[])) [r,u] h) fun g=>
 EvO (zH E 3 g.2 m) fun d=>veq 100 d o=true ∧
 (EvO (zH E 3 g.2 k) fun b=>veq 100 b l=true ∧
 (Ev s (zT (zV E) (some (.func (.func 94) #[] #[])) [l,o] g.2) fun p=>
 Ev s (zh E 47 2 (some [(0,g.1),(1,p.1)]) p.2) fun e=>
 Ev s (zT (zV E) (some (.func (.func 171) #[] #[])) [e.1] e.2) fun f=>
 K .ret [f.1] f.2))):PI (zqb s) K 1 [i,j] h:=zB H
def zd5(aa:h.ok)(hv:zo v=true)(H:PI (zqb s) (KR E [.tmp 4] fun x k=>x=v/\h.qa<=k.wm) 0 [v0,v1] h.qb):(zV E).call 122 [v0,v1] h=some [(v,h)]:=zAz Tryz.f122 aa hv (zAD (zqb s) H)
def B123:Code:=zc Tryz.f123
def zqa(s:Bool):Cx:=⟨E,s,none,B123,[([0],[0,1,2]),([1,0],[1,2,3])],[6],[]⟩
def zcv(H :
 Ev s (zW 176 h d) fun b=>
 PI (zqa s) K 1 [e,f,b.1] b.2):PI (zqa s) K 0 [d,e,f] h:=zB H
def zcu(H :
 EvO (zD E 176 2 e) fun f=>
 EvO (zH E 174 h f) fun g=>
 EvO (zAu E 54 (some [(0,b),(1,d)])) fun i=>
 EvO (zBM E 174 false g i h) fun j=>
 K .ret [j] h):PI (zqa s) K 1 [b,d,e] h:=zB H
def zd4(aa:h.ok)(hv:zo v=true)(H:PI (zqa s) (KR E [.tmp 6] fun x k=>x=v/\h.qa<=k.wm) 0 [v0,v1,v2] h.qb):(zV E).call 123 [v0,v1,v2] h=some [(v,h)]:=zAz Tryz.f123 aa hv (zAD (zqa s) H)
def zsd:Code:=zc Tryz.f124
def zGu(s:Bool):Cx:=⟨E,s,none,zsd,[([0],[0,1]),([1,0,0],[2,3]),([1,0,1,0,0,0],[2,3,11]),([1,0,1,0,0,1,1,0,0],[2,3,11]),([1,0,1,0,0,1,1,0,1,0],[2,3,5,11]),([1,0,1,0,0,1,1,0,1,1,0,0,0],[2,3,5,11,25,26,27]),([1,0,1,0,0,1,1,0,1,1,0,0,1,1,0,0,0],[2,3,5,11,25,26,27]),([1,0,1,0,0,1,1,0,1,1,0,0,1,1,0,0,1,0],[2,3,5,7,11,25,26,27]),([1,0,1,0,0,1,1,0,1,1,0,0,1,1,0,0,1,1,0,0],[]),([1,0,1,0,0,1,1,0,1,1,0,0,1,1,1],[2,3,5,11,25,26,27]),([1,1,0],[])],[4],[]⟩
abbrev zp8(s:Bool)(K:KF)(d e b:Value)(h:AH):Prop:=PI (zGu s) K 2 [d,e,b] h
abbrev zp7(s:Bool)(K:KF)(g i j b d e f:Value)(h:AH):Prop:=PI (zGu s) K 5 [g,i,j,b,d,e,f] h
def zct(H :
 Ev s (zW 178 h e) fun b=>
 Ev s (zW 112 b.2 f) fun d=>
 PI (zGu s) K 1 [b.1,d.1] d.2):PI (zGu s) K 0 [e,f] h:=zB H
def zcs(H :
 EvO (zD E 178 0 b) fun f=>
 EvO (zD E 176 2 f) fun g=>
 EvO (zH E 174 h g) fun i=>
 Ev s (zGx i h) fun d=>
 PI (zGu s) K 2 [b,e,d.1] d.2):PI (zGu s) K 1 [b,e] h:=zB H
def zNW(H :
 Ev s (zHB false b h) fun d=>
 EvO (zt 0 d.1) fun g=>
 BrK g (PI (zGu s) K 3 [e,f,b] d.2) (PI (zGu s) K 10 [] d.2)):PI (zGu s) K 2 [e,f,b] h:=zB H
def zcr(H :
 EvO (zHr b h) fun g=>
 EvO (zt 0 g) fun i=>
 Ev s (zW 54 h (zAL E 54)) fun d=>
 Ev s (zb E 54 d.2 d.1 i) fun j=>
 PI (zGu s) K 4 [e,f,d.1,b] j.2):PI (zGu s) K 3 [e,f,b] h:=zB H
def zcq(H :
 EvO (zD E 178 0 e) fun j=>
 EvO (zD E 176 0 j) fun k=>
 EvO (zH E 128 h k) fun l=>
 EvO (zp l) fun m=>
 EvO (zD E 131 0 m) fun o=>
 EvO (zH E 129 h o) fun p=>
 EvO (zE E 54 f (some (iI 0))) fun q=>
 EvO (zH E 3 h q) fun r=>
 EvO (zE E 129 p r) fun t=>
 EvO (zH E 132 h t) fun g=>
 EvO (zQ E (zk [(25,g)]) (zn zsd [1,0,1,0,0,1,1,0,1,0] 10) h) fun d=>
 PI (zGu s) K 5 [e,i,f,b,g,d,(iI 0)] h):PI (zGu s) K 4 [e,i,f,b] h:=zB H
def zOE:zQ E (zk [(25,.slice a n c)]) (zn zsd [1,0,1,0,0,1,1,0,1,0] 10) h=some (iI (n:Int)):=by cases a <;> kernel_rfl
def zNV(H :
 EvO (zC E .lss 3 e d) fun k=>
 BrK k (PI (zGu s) K 6 [g,i,j,b,f,d,e] h) (PI (zGu s) K 2 [g,i,b] h)):PI (zGu s) K 5 [g,i,j,b,f,d,e] h:=zB H
def zcp(H :
 EvO (zE E 132 b d) fun l=>
 EvO (zH E 134 h l) fun m=>
 Ev s (zW 134 h (zAL E 134)) fun g=>
 Ev s (zb E 134 g.2 g.1 m) fun o=>
 PI (zGu s) K 7 [i,j,k,g.1,e,b,f,d] o.2):PI (zGu s) K 6 [i,j,k,e,b,f,d] h:=zB H
def zco(H :
 EvO (zD E 112 0 k) fun m=>
 EvO (zH E 109 h m) fun o=>
 EvO (zH E 178 h j) fun p=>
 EvO (zE E 54 g (some (iI 0))) fun q=>
 EvO (zH E 3 h q) fun r=>
 EvO (zE E 54 g (some (iI 1))) fun t=>
 EvO (zH E 3 h t) fun u=>
 EvO (zH E 134 h l) fun w=>
 Ev s (zT (zV E) o [p,r,u,w] h) fun i=>
 EvO (zAY .not i.1) fun x=>
 BrK x (PI (zGu s) K 8 [] i.2) (PI (zGu s) K 9 [j,k,g,b,d,e,f] i.2)):PI (zGu s) K 7 [j,k,g,l,b,d,e,f] h:=zB H
def zcn(H :
 K .ret [(.bool false)] h):PI (zGu s) K 8 [] h:=zB H
def zcm(H :
 EvO (zC E .add 3 f (iI 1)) fun k=>
 PI (zGu s) K 5 [g,i,j,b,d,e,k] h):PI (zGu s) K 9 [g,i,j,b,d,e,f] h:=zB H
def zS7(H :
 K .ret [(.bool true)] h):PI (zGu s) K 10 [] h:=zB H
def zd3(aa:h.ok)(hv:zo v=true)(H:PI (zGu s) (KR E [.tmp 4] fun x k=>x=v/\h.qa<=k.wm) 0 [v0,v1] h.qb):(zV E).call 124 [v0,v1] h=some [(v,h)]:=zAz Tryz.f124 aa hv (zAD (zGu s) H)
def zs0:Code:=zc Tryz.f125
def zNf(s:Bool):Cx:=⟨E,s,none,zs0,[([0],[0]),([1,0],[1,2]),([1,1,0,0],[1,2,3]),([1,1,0,1,0,0,0],[2,3,13]),([1,1,0,1,0,0,1,1,0,0],[2,3,13]),([1,1,0,1,0,0,1,1,0,1],[2,3,4,13]),([1,1,1,0],[2,3])],[2],[]⟩
abbrev zp6(s:Bool)(K:KF)(d e b:Value)(h:AH):Prop:=PI (zNf s) K 3 [d,e,b] h
def zjM(s:Bool)(K:KF)(v0:Value)(h:AH):Prop:=
 Ev s (zW 176 h v0) fun x0=>
 Ev s (zW 176 x0.2 (zAL E 176)) fun x1=>
 PI (zNf s) K 1 [x0.1,x1.1] x1.2
def zcl(H:zjM s K b h):PI (zNf s) K 0 [b] h:=zB H
def zjL(s:Bool)(K:KF)(v1 v2:Value)(h:AH):Prop:=
 EvO (zD E 176 1 v1) fun x0=>
 EvO (zH E 128 h x0) fun x1=>
 EvO (zD E 176 0 v1) fun x2=>
 EvO (zH E 128 h x2) fun x3=>
 Ev s (one ((.map (some (h).qa):Value),(h).new (.map [] 0))) fun x4=>
 EvO (zAu E 176 (some [(0,x1),(1,x3),(2,x4.1)])) fun x5=>
 Ev s (zW 176 x4.2 (zAL E 176)) fun x6=>
 Ev s (zb E 176 x6.2 x6.1 x5) fun x7=>
 PI (zNf s) K 2 [v1,v2,x6.1] x7.2
def zck(H:zjL s K b d h):PI (zNf s) K 1 [b,d] h:=zB H
def zjK(s:Bool)(K:KF)(v1 v2 v3:Value)(h:AH):Prop:=
 EvO (zD E 176 2 v1) fun x0=>
 EvO (zH E 174 h x0) fun x1=>
 Ev s (zGx x1 h) fun x2=>
 PI (zNf s) K 3 [v2,v3,x2.1] x2.2
def zcj(H:zjK s K b d e h):PI (zNf s) K 2 [b,d,e] h:=zB H
def zWj(s:Bool)(K:KF)(v2 v3 v13:Value)(h:AH):Prop:=
 Ev s (zHB false v13 h) fun x0=>
 EvO (zt 0 x0.1) fun x1=>
 BrK x1 (PI (zNf s) K 4 [v2,v3,v13] x0.2) (PI (zNf s) K 6 [v2,v3] x0.2)
def zNU(H:zWj s K d e b h):PI (zNf s) K 3 [d,e,b] h:=zB H
def zjJ(s:Bool)(K:KF)(v2 v3 v13:Value)(h:AH):Prop:=
 EvO (zHr v13 h) fun x0=>
 EvO (zt 0 x0) fun x1=>
 Ev s (zW 54 h (zAL E 54)) fun x2=>
 Ev s (zb E 54 x2.2 x2.1 x1) fun x3=>
 PI (zNf s) K 5 [v2,v3,x2.1,v13] x3.2
def zci(H:zjJ s K d e b h):PI (zNf s) K 4 [d,e,b] h:=zB H
def zjI(s:Bool)(K:KF)(v2 v3 v4 v13:Value)(h:AH):Prop:=
 EvO (zD E 176 2 v3) fun x0=>
 EvO (zH E 174 h x0) fun x1=>
 EvO (zE E 54 v4 (some (iI 1))) fun x2=>
 EvO (zH E 3 h x2) fun x3=>
 EvO (zE E 54 v4 (some (iI 0))) fun x4=>
 EvO (zH E 3 h x4) fun x5=>
 EvO (zAu E 54 (some [(0,x3),(1,x5)])) fun x6=>
 Ev s (zAI E 174 x1 x6 (some (.bool true)) h) fun x7=>
 PI (zNf s) K 3 [v2,v3,v13] x7.2
def zch(H:zjI s K d e f b h):PI (zNf s) K 5 [d,e,f,b] h:=zB H
def zjH(s:Bool)(K:KF)(v2 v3:Value)(h:AH):Prop:=
 EvO (zH E 176 h v3) fun x0=>
 Ev s (zb E 176 h v2 x0) fun x1=>
 K .ret [v2] x1.2
def zcg(H:zjH s K b d h):PI (zNf s) K 6 [b,d] h:=zB H
def zmg(H:PI (zNf s) (KR E [.cell 2 176] Rp) 0 [v0] h):EvC E s Tryz.f125 [v0] h Rp:=zAD (zNf s) H
def ziG:E.tab.fn.get 125=some Tryz.f125:=by kernel_rfl
def zd2:Tryz.f125.body=some zs0:=by kernel_rfl
def ziF(l:List Value)(h:AH):E.sum 125 l h=none:=by kernel_rfl
def B128:Code:=zc Tryz.f128
def zqZ(s:Bool):Cx:=⟨E,s,none,B128,[([0],[0,2,3]),([1,0],[2,4,7])],[8],[]⟩
def zcf(H :
 Ev s (zW 178 h e) fun b=>
 Ev s (zW 134 b.2 g) fun d=>
 PI (zqZ s) K 1 [f,b.1,d.1] d.2):PI (zqZ s) K 0 [e,f,g] h:=zB H
def zce(H :
 EvO (zD E 178 0 d) fun g=>
 EvO (zD E 176 1 g) fun i=>
 EvO (zH E 128 h i) fun j=>
 EvO (zp j) fun k=>
 EvO (zD E 131 0 k) fun l=>
 EvO (zH E 129 h l) fun m=>
 EvO (zE E 129 m e) fun o=>
 EvO (zH E 132 h o) fun p=>
 EvO (zBB (.func 174) (some []) [f,d]) fun q=>
 Ev s (zT (zV E) (some (.func (.func 173) #[] #[])) [p,q] h) fun b=>
 K .ret [b.1] b.2):PI (zqZ s) K 1 [e,d,f] h:=zB H
def zd1(aa:h.ok)(hv:zo v=true)(H:PI (zqZ s) (KR E [.tmp 8] fun x k=>x=v/\h.qa<=k.wm) 0 [v0,v2,v3] h.qb):(zV E).call 128 [v0,v1,v2,v3] h=some [(v,h)]:=zAz Tryz.f128 aa hv (zAD (zqZ s) H)
def zjV:Code:=zc Tryz.f130
def ziE:E.tab.fn.get 130=some Tryz.f130:=by kernel_rfl
def zdz:Tryz.f130.body=some zjV:=by kernel_rfl
def ziD(l:List Value)(h:AH):E.sum 130 l h=none:=by kernel_rfl
def B143:Code:=zc Tryz.f143
def zIx(s:Bool):Cx:=⟨E,s,none,B143,[([0],[0,1]),([1,0,0],[0,3]),([1,0,1,0,0],[]),([1,1,0],[0,3]),([1,1,1,0,0],[0,3,5,6]),([1,1,1,0,1,0],[0,3,5]),([1,1,1,1,0],[5])],[4],[]⟩
abbrev zjT(s:Bool)(K:KF)(b d:Value)(h:AH):Prop:=PI (zIx s) K 0 [b,d] h
abbrev zpx(s:Bool)(K:KF)(b d:Value)(h:AH):Prop:=PI (zIx s) K 1 [b,d] h
abbrev zpw(s:Bool)(K:KF)(b d e f:Value)(h:AH):Prop:=PI (zIx s) K 4 [b,d,e,f] h
abbrev zpv(s:Bool)(K:KF)(b:Value)(h:AH):Prop:=PI (zIx s) K 6 [b] h
def zcA(H :
 Ev s (zW 36 h e) fun b=>
 PI (zIx s) K 1 [d,b.1] b.2):PI (zIx s) K 0 [d,e] h:=zB H
def zNM(H :
 EvO (zD E 36 0 b) fun e=>
 EvO (zH E 3 h e) fun f=>
 EvO (zC E .eql 3 f (iI (-1))) fun g=>
 BrK g (PI (zIx s) K 2 [] h) (PI (zIx s) K 3 [d,b] h)):PI (zIx s) K 1 [d,b] h:=zB H
def zb9(H :
 K .ret [(iI 0)] h):PI (zIx s) K 2 [] h:=zB H
def zb8(H :
 EvO (zp d) fun f=>
 EvO (zD E 197 0 f) fun g=>
 EvO (zH E 22 h g) fun i=>
 EvO (zH E 36 h e) fun j=>
 Ev s (zT (zV E) (some (.func (.func 190) #[] #[])) (some [i,j,(.func (.func 168) #[] #[])]) h) fun b=>
 EvO (zt 0 b.1) fun k=>
 EvO (zt 1 b.1) fun l=>
 PI (zIx s) K 4 [d,e,k,l] b.2):PI (zIx s) K 3 [d,e] h:=zB H
def zNL(H :
 EvO (zAY .not f) fun g=>
 BrK g (PI (zIx s) K 5 [d,e,b] h) (PI (zIx s) K 6 [b] h)):PI (zIx s) K 4 [d,e,b,f] h:=zB H
def zb7(H :
 EvO (zp g) fun o=>
 EvO (zD E 197 0 o) fun j=>
 EvO (zH E 22 h j) fun k=>
 EvO (zH E 36 h m) fun p=>
 Ev s (zh E 22 1 (some [(0,p)]) h) fun f=>
 EvO (zH E 22 f.2 j) fun b=>veq 100 b k=true ∧
 (Ev s (zT (zV E) (some (.func (.func 191) #[] #[])) [k,i,f.1] f.2) fun l=>
 EvO (zp g) fun q=>
 EvO (zD E 197 0 q) fun d=>
 Ev s (zb E 22 l.2 d l.1) fun e=>
 PI (zIx s) K 6 [i] e.2)):PI (zIx s) K 5 [g,m,i] h:=zB H
def zb6(H :
 EvO (zC E .add 3 b (iI 1)) fun d=>
 K .ret [d] h):PI (zIx s) K 6 [b] h:=zB H
def zKJ(aa:h.ok)(hv:zg v=true)(H:PI (zIx true) (KR E [.tmp 4] fun x k=>x=v/\h.qa<=k.wm) 0 [v0,v1] h.qb):(zV E).call 143 [v0,v1] h=some [(v,h)]:=zDn Tryz.f143 aa hv (zAD (zIx true) H)
def zdt(H:PI (zIx true) (KR E [.tmp 4] fun x k=>(zg x=false\/k.wm<h.qa)/\Rp x ⟨k.t,k.qa,cond (Nat.ble h.wm k.wm) h.wm k.wm⟩) 0 [v0,v1] h.qb):Ev true ((zV E).call 143 [v0,v1] h) fun x=>Rp x.1 x.2:=zHk Tryz.f143 (zAD (zIx true) H)
def B154:Code:=zc Tryz.f154
def zqW(s:Bool):Cx:=⟨E,s,none,B154,[([0],[0]),([1,0],[0])],[2],[]⟩
def zbw(H :
 PI (zqW s) K 1 [b] h):PI (zqW s) K 0 [b] h:=zB H
def zbv(H :
 EvO (zC E .neq 3 b b) fun d=>
 K .ret [d] h):PI (zqW s) K 1 [b] h:=zB H
def zdr(aa:h.ok)(hv:zo v=true)(H:PI (zqW s) (KR E [.tmp 2] fun x k=>x=v/\h.qa<=k.wm) 0 [v0] h.qb):(zV E).call 154 [v0] h=some [(v,h)]:=zAz Tryz.f154 aa hv (zAD (zqW s) H)
def zqg:Code:=zc Tryz.f167
def zQg(s:Bool):Cx:=⟨E,s,none,zqg,[([0],[0]),([1,0],[1]),([1,1,0,0],[1,3]),([1,1,0,1,0,0],[]),([1,1,1,0],[])],[2],[]⟩
abbrev zpu(s:Bool)(K:KF)(b d:Value)(h:AH):Prop:=PI (zQg s) K 2 [b,d] h
abbrev zpt(s:Bool)(K:KF)(h:AH):Prop:=PI (zQg s) K 3 [] h
abbrev zps(s:Bool)(K:KF)(h:AH):Prop:=PI (zQg s) K 4 [] h
def zbu(H :
 Ev s (zW 36 h d) fun b=>
 PI (zQg s) K 1 [b.1] b.2):PI (zQg s) K 0 [d] h:=zB H
def zbt(H :
 EvO (zD E 36 0 d) fun e=>
 EvO (zH E 3 h e) fun f=>
 EvO (zC E .eql 3 f (iI (-3))) fun b=>
 EvO (gdB b false (zD E 36 0 d)) fun g=>
 EvO (gdB b false (zH E 3 h g)) fun i=>
 EvO (gdB b false (zC E .eql 3 i (iI (-1)))) fun j=>
 EvO (zAE b (some (.bool true)) j) fun k=>
 PI (zQg s) K 2 [d,k] h):PI (zQg s) K 1 [d] h:=zB H
def zbs(H :
 EvO (zD E 36 0 g) fun A=>
 EvO (zH E 3 h A) fun B=>
 EvO (zC E .lss 3 B (iI (-3))) fun j=>
 EvO (gdB j false (zD E 36 0 g)) fun C=>
 EvO (gdB j false (zH E 3 h C)) fun D=>
 EvO (gdB j false (zC E .geq 3 D (iI 32))) fun F=>
 EvO (zAE j (some (.bool true)) F) fun i=>
 EvO (gdB i false (zD E 36 1 g)) fun G=>
 EvO (gdB i false (zH E 34 h G)) fun k=>
 EvO (gdB i false (zQ E (zk [(22,k)]) (zn zqg [1,1,0,0] 11) h)) fun l=>
 EvO (gdB i false (zC E .gtr 3 l (iI 8))) fun m=>
 EvO (zAE i (some (.bool true)) m) fun d=>
 EvO (gdB d false z) fun o=>
 EvO (gdB d false o) fun b=>
 EvO (gdB b true (zD E 36 1 g)) fun p=>
 EvO (gdB b true (zH E 34 h p)) fun q=>
 EvO (gdB b true (zQ E (zk [(30,q)]) (zn zqg [1,1,0,0] 19) h)) fun r=>
 EvO (gdB b true (zC E .gtr 3 r (iI 0))) fun t=>
 EvO (gdB d false (zAE b t (some (.bool false)))) fun u=>
 EvO (zAE d (some (.bool true)) u) fun e=>
 EvO (gdB e false (zD E 36 1 g)) fun w=>
 EvO (gdB e false (zH E 34 h w)) fun x=>
 Ev s (gdW e false (zT (zV E) (some (.func (.func 215) #[] #[])) (some [x,(.func (.func 216) #[] #[])]) h) h) fun f=>
 EvO (zAE e (some (.bool true)) f.1) fun y=>
 BrK y (PI (zQg s) K 3 [] f.2) (PI (zQg s) K 4 [] f.2)):PI (zQg s) K 2 [g,z] h:=zB H
def zD1:zQ E (zk [(22,.slice a n c)]) (zn zqg [1,1,0,0] 11) h=some (iI (n:Int)):=by cases a <;> kernel_rfl
def zFM:zQ E (zk [(30,.slice a n c)]) (zn zqg [1,1,0,0] 19) h=some (iI (n:Int)):=by cases a <;> kernel_rfl
def zbr(H :
 K .ret [(iI 170)] h):PI (zQg s) K 3 [] h:=zB H
def zbq(H :
 K .ret [(iI 0)] h):PI (zQg s) K 4 [] h:=zB H
def zdq(aa:h.ok)(hv:zo v=true)(H:PI (zQg s) (KR E [.tmp 2] fun x k=>x=v/\h.qa<=k.wm) 0 [v0] h.qb):(zV E).call 167 [v0] h=some [(v,h)]:=zAz Tryz.f167 aa hv (zAD (zQg s) H)
def B168:Code:=zc Tryz.f168
def zqV(s:Bool):Cx:=⟨E,s,none,B168,[([0],[0,1]),([1,0],[2,3])],[4],[]⟩
def zbp(H :
 Ev s (zW 36 h e) fun b=>
 Ev s (zW 36 b.2 f) fun d=>
 PI (zqV s) K 1 [b.1,d.1] d.2):PI (zqV s) K 0 [e,f] h:=zB H
def zbo(H :
 EvO (zD E 36 0 i) fun q=>
 EvO (zH E 3 h q) fun r=>
 EvO (zD E 36 0 j) fun t=>
 EvO (zH E 3 h t) fun u=>
 EvO (zD E 36 1 i) fun k=>
 EvO (zH E 34 h k) fun l=>
 EvO (zD E 36 1 j) fun m=>
 EvO (zH E 34 h m) fun o=>
 Ev s (zT (zV E) (some (.func (.func 94) #[] #[])) [r,u] h) fun g=>
 EvO (zH E 34 g.2 m) fun d=>veq 100 d o=true ∧
 (EvO (zH E 34 g.2 k) fun b=>veq 100 b l=true ∧
 (Ev s (zT (zV E) (some (.func (.func 218) #[] #[])) (some [l,o,(.func (.func 219) #[] #[])]) g.2) fun p=>
 Ev s (zh E 47 2 (some [(0,g.1),(1,p.1)]) p.2) fun e=>
 Ev s (zT (zV E) (some (.func (.func 171) #[] #[])) [e.1] e.2) fun f=>
 K .ret [f.1] f.2))):PI (zqV s) K 1 [i,j] h:=zB H
def zdp(aa:h.ok)(hv:zo v=true)(H:PI (zqV s) (KR E [.tmp 4] fun x k=>x=v/\h.qa<=k.wm) 0 [v0,v1] h.qb):(zV E).call 168 [v0,v1] h=some [(v,h)]:=zAz Tryz.f168 aa hv (zAD (zqV s) H)
def B169:Code:=zc Tryz.f169
def zqU(s:Bool):Cx:=⟨E,s,none,B169,[([0],[0,1]),([1,0],[0,1])],[4],[]⟩
def zbn(H :
 PI (zqU s) K 1 [b,d] h):PI (zqU s) K 0 [b,d] h:=zB H
def zbm(H :
 EvO (zC E .geq 3 d (iI 0)) fun b=>
 EvO (gdB b true d) fun f=>
 EvO (gdB b true e) fun g=>
 EvO (gdB b true (zC E .lss 3 f g)) fun i=>
 EvO (zAE b i (some (.bool false))) fun j=>
 K .ret [j] h):PI (zqU s) K 1 [d,e] h:=zB H
def zdo(aa:h.ok)(hv:zo v=true)(H:PI (zqU s) (KR E [.tmp 4] fun x k=>x=v/\h.qa<=k.wm) 0 [v0,v1] h.qb):(zV E).call 169 [v0,v1] h=some [(v,h)]:=zAz Tryz.f169 aa hv (zAD (zqU s) H)
def B170:Code:=zc Tryz.f170
def zqT(s:Bool):Cx:=⟨E,s,none,B170,[([0],[0,1]),([1,0],[2,3])],[4],[]⟩
def zbl(H :
 Ev s (zW 52 h e) fun b=>
 Ev s (zW 52 b.2 f) fun d=>
 PI (zqT s) K 1 [b.1,d.1] d.2):PI (zqT s) K 0 [e,f] h:=zB H
def zbk(H :
 EvO (zD E 52 0 u) fun B=>
 EvO (zH E 3 h B) fun C=>
 EvO (zD E 52 0 w) fun D=>
 EvO (zH E 3 h D) fun F=>
 EvO (zD E 52 1 u) fun x=>
 EvO (zH E 3 h x) fun y=>
 EvO (zD E 52 1 w) fun z=>
 EvO (zH E 3 h z) fun A=>
 EvO (zD E 52 2 u) fun g=>
 EvO (zH E 3 h g) fun i=>
 EvO (zD E 52 2 w) fun j=>
 EvO (zH E 3 h j) fun k=>
 Ev s (zT (zV E) (some (.func (.func 94) #[] #[])) [C,F] h) fun l=>
 EvO (zH E 3 l.2 j) fun d=>veq 100 d k=true ∧
 (EvO (zH E 3 l.2 g) fun b=>veq 100 b i=true ∧
 (EvO (zH E 3 l.2 z) fun o=>veq 100 o A=true ∧
 (EvO (zH E 3 l.2 x) fun m=>veq 100 m y=true ∧
 (Ev s (zT (zV E) (some (.func (.func 94) #[] #[])) [y,A] l.2) fun t=>
 EvO (zH E 3 t.2 j) fun f=>veq 100 f k=true ∧
 (EvO (zH E 3 t.2 g) fun e=>veq 100 e i=true ∧
 (Ev s (zT (zV E) (some (.func (.func 94) #[] #[])) [i,k] t.2) fun p=>
 Ev s (zh E 47 3 (some [(0,l.1),(1,t.1),(2,p.1)]) p.2) fun q=>
 Ev s (zT (zV E) (some (.func (.func 171) #[] #[])) [q.1] q.2) fun r=>
 K .ret [r.1] r.2))))))):PI (zqT s) K 1 [u,w] h:=zB H
def zdn(aa:h.ok)(hv:zo v=true)(H:PI (zqT s) (KR E [.tmp 4] fun x k=>x=v/\h.qa<=k.wm) 0 [v0,v1] h.qb):(zV E).call 170 [v0,v1] h=some [(v,h)]:=zAz Tryz.f170 aa hv (zAD (zqT s) H)
def zsb:Code:=zc Tryz.f171
def zI7(s:Bool):Cx:=⟨E,s,none,zsb,[([0],[0]),([1,0],[0]),([1,1,0,0],[0,3]),([1,1,0,1,0,0,0],[3,6,7,8]),([1,1,0,1,0,0,1,1,0,0,0],[3,6,7,8]),([1,1,0,1,0,0,1,1,0,0,1,0],[3,5,6,7,8]),([1,1,0,1,0,0,1,1,0,0,1,1,0,0],[5]),([1,1,0,1,0,0,1,1,1],[3,6,7,8]),([1,1,1,0],[3])],[2],[]⟩
abbrev zpr(s:Bool)(K:KF)(b d e f:Value)(h:AH):Prop:=PI (zI7 s) K 3 [b,d,e,f] h
def zbj(H :
 PI (zI7 s) K 1 [b] h):PI (zI7 s) K 0 [b] h:=zB H
def zbi(H :
 PI (zI7 s) K 2 [b,(iI 0)] h):PI (zI7 s) K 1 [b] h:=zB H
def zbh(H :
 EvO (zQ E (zk [(6,b)]) (zn zsb [1,1,0,0] 1) h) fun e=>
 PI (zI7 s) K 3 [d,b,e,(iI 0)] h):PI (zI7 s) K 2 [b,d] h:=zB H
def zRO:zQ E (zk [(6,.slice a n c)]) (zn zsb [1,1,0,0] 1) h=some (iI (n:Int)):=by cases a <;> kernel_rfl
def zNK(H :
 EvO (zC E .lss 3 e d) fun g=>
 BrK g (PI (zI7 s) K 4 [b,f,d,e] h) (PI (zI7 s) K 8 [b] h)):PI (zI7 s) K 3 [b,f,d,e] h:=zB H
def zbg(H :
 EvO (zE E 47 b d) fun g=>
 EvO (zH E 3 h g) fun i=>
 PI (zI7 s) K 5 [e,i,b,f,d] h):PI (zI7 s) K 4 [e,b,f,d] h:=zB H
def zbf(H :
 EvO (zC E .neq 3 d b) fun i=>
 BrK i (PI (zI7 s) K 6 [d] h) (PI (zI7 s) K 7 [b,e,f,g] h)):PI (zI7 s) K 5 [b,d,e,f,g] h:=zB H
def zbe(H :
 K .ret [b] h):PI (zI7 s) K 6 [b] h:=zB H
def zbd(H :
 EvO (zC E .add 3 f (iI 1)) fun g=>
 PI (zI7 s) K 3 [b,d,e,g] h):PI (zI7 s) K 7 [b,d,e,f] h:=zB H
def zbc(H :
 K .ret [b] h):PI (zI7 s) K 8 [b] h:=zB H
def zdm(aa:h.ok)(hv:zo v=true)(H:PI (zI7 s) (KR E [.tmp 2] fun x k=>x=v/\h.qa<=k.wm) 0 [v0] h.qb):(zV E).call 171 [v0] h=some [(v,h)]:=zAz Tryz.f171 aa hv (zAD (zI7 s) H)
def B173:Code:=zc Tryz.f173
def zqS(s:Bool):Cx:=⟨E,s,none,B173,[([0],[0,1]),([1,0],[0,1])],[4],[]⟩
def zbb(H :
 PI (zqS s) K 1 [b,d] h):PI (zqS s) K 0 [b,d] h:=zB H
def zba(H :
 Ev s (zT (zV E) (some (.func (.func 220) #[] #[])) [d,e] h) fun b=>
 EvO (zC E .geq 3 b.1 (iI 0)) fun f=>
 K .ret [f] b.2):PI (zqS s) K 1 [d,e] h:=zB H
def zdl(aa:h.ok)(hv:zo v=true)(H:PI (zqS s) (KR E [.tmp 4] fun x k=>x=v/\h.qa<=k.wm) 0 [v0,v1] h.qb):(zV E).call 173 [v0,v1] h=some [(v,h)]:=zAz Tryz.f173 aa hv (zAD (zqS s) H)
def B174:Code:=zc Tryz.f174
def zqR(s:Bool):Cx:=⟨E,s,none,B174,[([0],[0,1,2]),([1,0],[1,2,3])],[4],[]⟩
def zbZ(H :
 Ev s (zW 134 h d) fun b=>
 PI (zqR s) K 1 [e,f,b.1] b.2):PI (zqR s) K 0 [d,e,f] h:=zB H
def zbY(H :
 EvO (zD E 134 0 j) fun l=>
 EvO (zH E 3 h l) fun m=>
 EvO (zD E 134 0 i) fun o=>
 EvO (zH E 3 h o) fun p=>
 EvO (zC E .eql 3 m p) fun b=>
 EvO (gdB b true (zD E 178 0 k)) fun q=>
 EvO (gdB b true (zH E 176 h q)) fun r=>
 EvO (gdB b true (zD E 134 1 i)) fun t=>
 EvO (gdB b true (zH E 3 h t)) fun u=>
 EvO (gdB b true (zD E 134 1 j)) fun e=>
 EvO (gdB b true (zH E 3 h e)) fun f=>
 Ev s (gdW b true (zT (zV E) (some (.func (.func 123) #[] #[])) [r,u,f] h) h) fun d=>
 EvO (zAE b d.1 (some (.bool false))) fun g=>
 K .ret [g] d.2):PI (zqR s) K 1 [i,k,j] h:=zB H
def zdk(aa:h.ok)(hv:zo v=true)(H:PI (zqR s) (KR E [.tmp 4] fun x k=>x=v/\h.qa<=k.wm) 0 [v0,v1,v2] h.qb):(zV E).call 174 [v0,v1,v2] h=some [(v,h)]:=zAz Tryz.f174 aa hv (zAD (zqR s) H)
def B178:Code:=zc Tryz.f178
def zqP(s:Bool):Cx:=⟨E,s,none,B178,[([0],[0,1]),([1,0],[2,3])],[4],[]⟩
def zbQ(H :
 Ev s (zW 128 h e) fun b=>
 Ev s (zW 3 b.2 f) fun d=>
 PI (zqP s) K 1 [b.1,d.1] d.2):PI (zqP s) K 0 [e,f] h:=zB H
def zbP(H :
 EvO (zBB (.func 222) (some []) [d,b]) fun e=>
 K .ret [e] h):PI (zqP s) K 1 [b,d] h:=zB H
def zdg(H:PI (zqP true) (KR E [.tmp 4] fun x k=>(zg x=false\/k.wm<h.qa)/\Rp x ⟨k.t,k.qa,cond (Nat.ble h.wm k.wm) h.wm k.wm⟩) 0 [v0,v1] h.qb):Ev true ((zV E).call 178 [v0,v1] h) fun x=>Rp x.1 x.2:=zHk Tryz.f178 (zAD (zqP true) H)
def ziK:Code:=zc Tryz.f190
def zIw(s:Bool):Cx:=⟨E,s,none,ziK,[([0],[0,1,2]),([1,0],[0,2,4]),([1,1,0],[0,2,4,8]),([1,1,1,0,0,0,0,0],[0,2,4,8,9,10]),([1,1,1,0,0,0,1,0,0],[0,2,4,8,9,10]),([1,1,1,0,0,0,1,0,1,0],[0,2,4,8,9,10,11]),([1,1,1,0,0,0,1,0,1,1,0],[0,2,4,8,10,11]),([1,1,1,0,0,0,1,0,1,1,1],[0,2,4,8,9,11]),([1,1,1,1,0],[0,2,4,8,9])],[6,7],[]⟩
abbrev zpn(s:Bool)(K:KF)(d e f g i b:Value)(h:AH):Prop:=PI (zIw s) K 3 [d,e,f,g,i,b] h
def za2(H :
 Ev s (zW 36 h e) fun b=>
 PI (zIw s) K 1 [d,f,b.1] b.2):PI (zIw s) K 0 [d,e,f] h:=zB H
def za1(H :
 EvO (zQ E (zk [(12,b)]) (zn ziK [1,0] 1) h) fun f=>
 PI (zIw s) K 2 [b,d,e,f] h):PI (zIw s) K 1 [b,d,e] h:=zB H
def zRK:zQ E (zk [(12,.slice a n c)]) (zn ziK [1,0] 1) h=some (iI (n:Int)):=by cases a <;> kernel_rfl
def za0(H :
 PI (zIw s) K 3 [d,e,f,b,(iI 0),b] h):PI (zIw s) K 2 [d,e,f,b] h:=zB H
def zM8(H :
 EvO (zC E .lss 3 d b) fun j=>
 BrK j (PI (zIw s) K 4 [e,f,g,i,d,b] h) (PI (zIw s) K 8 [e,f,g,i,d] h)):PI (zIw s) K 3 [e,f,g,i,d,b] h:=zB H
def zaz(H :
 EvO (zC E .add 3 d b) fun j=>
 EvO (zQ E (zk [(20,j)]) (zn ziK [1,1,1,0,0,0,1,0,0] 3) h) fun k=>
 EvO (ze E (zk [(21,k)]) (zn ziK [1,1,1,0,0,0,1,0,0] 4)) fun l=>
 EvO (zQ E (zk [(22,l)]) (zn ziK [1,1,1,0,0,0,1,0,0] 5) h) fun m=>
 PI (zIw s) K 5 [e,f,g,i,d,b,m] h):PI (zIw s) K 4 [e,f,g,i,d,b] h:=zB H
def zay(H :
 EvO (zE E 22 d b) fun l=>
 EvO (zH E 36 h l) fun m=>
 EvO (zH E 36 h g) fun o=>
 Ev s (zT (zV E) f [m,o] h) fun i=>
 EvO (zC E .lss 3 i.1 (iI 0)) fun p=>
 BrK p (PI (zIw s) K 6 [d,f,g,j,e,b] i.2) (PI (zIw s) K 7 [d,f,g,j,k,b] i.2)):PI (zIw s) K 5 [d,f,g,j,k,e,b] h:=zB H
def zax(H :
 EvO (zC E .add 3 d (iI 1)) fun j=>
 PI (zIw s) K 3 [e,f,g,i,j,b] h):PI (zIw s) K 6 [e,f,g,i,b,d] h:=zB H
def zaw(H :
 PI (zIw s) K 3 [d,e,f,g,i,b] h):PI (zIw s) K 7 [d,e,f,g,i,b] h:=zB H
def zWi(s:Bool)(K:KF)(v0 v2 v4 v8 v9:Value)(h:AH):Prop:=
 EvO (zC E .lss 3 v9 v8) fun x3=>
 EvO (gdB x3 true v2) fun x5=>
 EvO (gdB x3 true v0) fun x6=>
 EvO (gdB x3 true v9) fun x7=>
 EvO (gdB x3 true (zE E 22 x6 x7)) fun x8=>
 EvO (gdB x3 true (zH E 36 h x8)) fun x9=>
 EvO (gdB x3 true (zH E 36 h v4)) fun x10=>
 Ev s (gdW x3 true (zT (zV E) x5 [x9,x10] h) h) fun x11=>
 EvO (gdB x3 true (zC E .eql 3 x11.1 (iI 0))) fun x12=>
 EvO (zAE x3 x12 (some (.bool false))) fun x13=>
 K .ret [v9,x13] x11.2
def zM7(H:zWi s K b d e f g h):PI (zIw s) K 8 [b,d,e,f,g] h:=zB H
def zTR{Rp:Value->Prop}(aa:h.ok)(H:PI (zIw true) (KR E [.tmp 6,.tmp 7] fun x k=>(zg x=true/\Rp x)/\h.qa<=k.wm) 0 [v0,v1,v2] h.qb):∃ v,Rp v/\(zV E).call 190 [v0,v1,v2] h=some [(v,h)]:=zDW Tryz.f190 aa (zAD (zIw true) H)
def zjU:Code:=zc Tryz.f191
def zLD(s:Bool):Cx:=⟨E,s,none,zjU,[([0],[0,1,2]),([1,0],[0,1,2]),([1,1,0],[0,1,2]),([1,1,1,0,0],[0,1,2,7]),([1,1,1,0,1,0,0],[0]),([1,1,1,1,0],[0,1,2,7]),([1,1,1,1,1,0,0],[0,1,2,7,8]),([1,1,1,1,1,0,1,0,0],[0,2]),([1,1,1,1,1,1,0,0],[0,1,2,7,8]),([1,1,1,1,1,1,0,1,0,0],[0,1,2,7,8]),([1,1,1,1,1,1,0,1,0,1,0],[0,1,2,7,9]),([1,1,1,1,1,1,0,1,0,1,1,0],[0,1,7,9]),([1,1,1,1,1,1,0,1,0,1,1,1,0],[9]),([1,1,1,1,1,1,1,0],[0,1,2,7,8]),([1,1,1,1,1,1,1,1,0,0],[0,1,2,7,8]),([1,1,1,1,1,1,1,1,0,1,0,0],[0,1,2,7]),([1,1,1,1,1,1,1,1,0,1,0,1,0],[0,1,2]),([1,1,1,1,1,1,1,1,0,1,0,1,1,0],[0]),([1,1,1,1,1,1,1,1,1,0],[0,1,2,7,8]),([1,1,1,1,1,1,1,1,1,1,0],[0,1,7]),([1,1,1,1,1,1,1,1,1,1,1,0],[0])],[6],[]⟩
abbrev zpm(s:Bool)(K:KF)(b d e:Value)(h:AH):Prop:=PI (zLD s) K 0 [b,d,e] h
def zav(H :
 PI (zLD s) K 1 [b,d,e] h):PI (zLD s) K 0 [b,d,e] h:=zB H
def zau(H :
 EvO (ze E (zk [(10,b),(11,d)]) (zn zjU [1,0] 2)) fun f=>
 PI (zLD s) K 2 [b,d,e] h):PI (zLD s) K 1 [b,d,e] h:=zB H
def zat(H :
 EvO (zQ E (zk [(13,b)]) (zn zjU [1,1,0] 1) h) fun f=>
 PI (zLD s) K 3 [d,e,b,f] h):PI (zLD s) K 2 [d,e,b] h:=zB H
def zRJ:zQ E (zk [(13,.slice a n c)]) (zn zjU [1,1,0] 1) h=some (iI (n:Int)):=by cases a <;> kernel_rfl
def zas(H :
 EvO (zC E .eql 3 d (iI 0)) fun g=>
 BrK g (PI (zLD s) K 4 [b] h) (PI (zLD s) K 5 [b,e,f,d] h)):PI (zLD s) K 3 [b,e,f,d] h:=zB H
def zar(H :
 EvO (zQ E (zk [(18,b)]) (zn zjU [1,1,1,1,0] 1) h) fun g=>
 PI (zLD s) K 6 [b,d,e,f,g] h):PI (zLD s) K 5 [b,d,e,f] h:=zB H
def zRI:zQ E (zk [(18,.slice a n c)]) (zn zjU [1,1,1,1,0] 1) h=some (iI (n:Int)):=by cases a <;> kernel_rfl
def zaq(H :
 EvO (zC E .eql 3 d f) fun i=>
 BrK i (PI (zLD s) K 7 [b,e] h) (PI (zLD s) K 8 [b,d,e,g,f] h)):PI (zLD s) K 6 [b,d,e,g,f] h:=zB H
def zap(H :
 Ev s (zAJ E .append [22,22] [d,e] h) fun b=>
 K .ret [b.1] b.2):PI (zLD s) K 7 [d,e] h:=zB H
def zme(H:PI (zLD s) (KR E [.tmp 6] Rp) 0 [v0,v1,v2] h):EvC E s Tryz.f191 [v0,v1,v2] h Rp:=zAD (zLD s) H
def zQf:E.tab.fn.get 191=some Tryz.f191:=by kernel_rfl
def zNb:Tryz.f191.body=some zjU:=by kernel_rfl
def B215:Code:=zc Tryz.f215
def zqL(s:Bool):Cx:=⟨E,s,none,B215,[([0],[0,1]),([1,0],[0,1])],[4],[]⟩
def zah(H :
 PI (zqL s) K 1 [b,d] h):PI (zqL s) K 0 [b,d] h:=zB H
def zag(H :
 Ev s (zT (zV E) (some (.func (.func 243) #[] #[])) [d,e] h) fun b=>
 EvO (zC E .geq 3 b.1 (iI 0)) fun f=>
 K .ret [f] b.2):PI (zqL s) K 1 [d,e] h:=zB H
def zdb(aa:h.ok)(hv:zo v=true)(H:PI (zqL s) (KR E [.tmp 4] fun x k=>x=v/\h.qa<=k.wm) 0 [v0,v1] h.qb):(zV E).call 215 [v0,v1] h=some [(v,h)]:=zAz Tryz.f215 aa hv (zAD (zqL s) H)
def B216:Code:=zc Tryz.f216
def zqK(s:Bool):Cx:=⟨E,s,none,B216,[([0],[0]),([1,0],[1])],[2],[]⟩
def zaf(H :
 Ev s (zW 173 h d) fun b=>
 PI (zqK s) K 1 [b.1] b.2):PI (zqK s) K 0 [d] h:=zB H
def zae(H :
 EvO (zH E 173 h d) fun e=>
 Ev s (zT (zV E) (some (.func (.func 217) #[] #[])) [e] h) fun b=>
 EvO (zAY .not b.1) fun f=>
 K .ret [f] b.2):PI (zqK s) K 1 [d] h:=zB H
def zda(aa:h.ok)(hv:zo v=true)(H:PI (zqK s) (KR E [.tmp 2] fun x k=>x=v/\h.qa<=k.wm) 0 [v0] h.qb):(zV E).call 216 [v0] h=some [(v,h)]:=zAz Tryz.f216 aa hv (zAD (zqK s) H)
def B217:Code:=zc Tryz.f217
def zO3(s:Bool):Cx:=⟨E,s,none,B217,[([0],[0]),([1,0,0],[1]),([1,0,1,0],[1,3]),([1,0,1,1,0,0],[]),([1,1,0],[1]),([1,1,1,0],[1,5]),([1,1,1,1,0],[1,5])],[2],[]⟩
def zad(H :
 Ev s (zW 173 h d) fun b=>
 PI (zO3 s) K 1 [b.1] b.2):PI (zO3 s) K 0 [d] h:=zB H
def zac(H :
 EvO (zH E 173 h d) fun e=>
 Ev s (zT (zV E) (some (.func (.func 244) #[] #[])) [e] h) fun b=>
 EvO (zt 0 b.1) fun f=>
 EvO (zt 1 b.1) fun g=>
 PI (zO3 s) K 2 [d,f] b.2):PI (zO3 s) K 1 [d] h:=zB H
def zab(H :
 EvO (zC E .gtr 3 d (iI 2000)) fun e=>
 BrK e (PI (zO3 s) K 3 [] h) (PI (zO3 s) K 4 [b] h)):PI (zO3 s) K 2 [b,d] h:=zB H
def zaa(H :
 K .ret [(.bool false)] h):PI (zO3 s) K 3 [] h:=zB H
def zaZ(H :
 Ev s (zW 247 h (zAL E 247)) fun b=>
 PI (zO3 s) K 5 [d,b.1] b.2):PI (zO3 s) K 4 [d] h:=zB H
def zaY(H :
 EvO (zBB (.func 245) (some []) [b]) fun e=>
 Ev s (zb E 247 h b e) fun f=>
 PI (zO3 s) K 6 [d,b] f.2):PI (zO3 s) K 5 [d,b] h:=zB H
def zaX(H :
 EvO (zH E 247 h e) fun f=>
 EvO (zH E 173 h d) fun g=>
 Ev s (zT (zV E) f [g] h) fun b=>
 K .ret [b.1] b.2):PI (zO3 s) K 6 [d,e] h:=zB H
def zdZ(aa:h.ok)(hv:zo v=true)(H:PI (zO3 s) (KR E [.tmp 2] fun x k=>x=v/\h.qa<=k.wm) 0 [v0] h.qb):(zV E).call 217 [v0] h=some [(v,h)]:=zAz Tryz.f217 aa hv (zAD (zO3 s) H)
def B218:Code:=zc Tryz.f218
def zqJ(s:Bool):Cx:=⟨E,s,none,B218,[([0],[0,1,2]),([1,0],[0,1,2])],[6],[]⟩
def zaW(H :
 PI (zqJ s) K 1 [b,d,e] h):PI (zqJ s) K 0 [b,d,e] h:=zB H
def zaV(H :
 Ev s (zT (zV E) (some (.func (.func 247) #[] #[])) [d,e,f] h) fun b=>
 K .ret [b.1] b.2):PI (zqJ s) K 1 [d,e,f] h:=zB H
def zdY(aa:h.ok)(hv:zo v=true)(H:PI (zqJ s) (KR E [.tmp 6] fun x k=>x=v/\h.qa<=k.wm) 0 [v0,v1,v2] h.qb):(zV E).call 218 [v0,v1,v2] h=some [(v,h)]:=zAz Tryz.f218 aa hv (zAD (zqJ s) H)
def ziJ:Code:=zc Tryz.f219
def zTb(s:Bool):Cx:=⟨E,s,none,ziJ,[([0],[0,1]),([1,0,0],[2,3]),([1,0,1,0],[2,3,5]),([1,0,1,1,0,0],[5]),([1,1,0],[2,3])],[4],[]⟩
abbrev zpl(s:Bool)(K:KF)(b:Value)(h:AH):Prop:=PI (zTb s) K 3 [b] h
abbrev zpk(s:Bool)(K:KF)(b d:Value)(h:AH):Prop:=PI (zTb s) K 4 [b,d] h
def zaU(H :
 Ev s (zW 173 h e) fun b=>
 Ev s (zW 173 b.2 f) fun d=>
 PI (zTb s) K 1 [b.1,d.1] d.2):PI (zTb s) K 0 [e,f] h:=zB H
def zaT(H :
 EvO (zD E 173 0 B) fun L=>
 EvO (zH E 3 h L) fun M=>
 EvO (zD E 173 0 C) fun N=>
 EvO (zH E 3 h N) fun O=>
 EvO (zD E 173 1 B) fun D=>
 EvO (zH E 3 h D) fun F=>
 EvO (zD E 173 1 C) fun G=>
 EvO (zH E 3 h G) fun J=>
 EvO (zD E 173 2 B) fun p=>
 EvO (zH E 34 h p) fun b=>
 EvO (zQ E (zk [(17,b)]) (zn ziJ [1,0,0] 12) h) fun q=>
 EvO (zD E 173 2 C) fun r=>
 EvO (zH E 34 h r) fun d=>
 EvO (zQ E (zk [(20,d)]) (zn ziJ [1,0,0] 15) h) fun t=>
 Ev s (zT (zV E) (some (.func (.func 94) #[] #[])) [M,O] h) fun e=>
 EvO (zQ E (zk [(20,d)]) (zn ziJ [1,0,0] 15) e.2) fun j=>veq 100 j t=true ∧
 (EvO (zH E 34 e.2 r) fun i=>veq 100 i d=true ∧
 (EvO (zQ E (zk [(17,b)]) (zn ziJ [1,0,0] 12) e.2) fun g=>veq 100 g q=true ∧
 (EvO (zH E 34 e.2 p) fun f=>veq 100 f b=true ∧
 (EvO (zH E 3 e.2 G) fun x=>veq 100 x J=true ∧
 (EvO (zH E 3 e.2 D) fun w=>veq 100 w F=true ∧
 (Ev s (zT (zV E) (some (.func (.func 94) #[] #[])) [F,J] e.2) fun u=>
 EvO (zQ E (zk [(20,d)]) (zn ziJ [1,0,0] 15) u.2) fun o=>veq 100 o t=true ∧
 (EvO (zH E 34 u.2 r) fun m=>veq 100 m d=true ∧
 (EvO (zQ E (zk [(17,b)]) (zn ziJ [1,0,0] 12) u.2) fun l=>veq 100 l q=true ∧
 (EvO (zH E 34 u.2 p) fun k=>veq 100 k b=true ∧
 (Ev s (zT (zV E) (some (.func (.func 94) #[] #[])) [q,t] u.2) fun y=>
 Ev s (zh E 47 3 (some [(0,e.1),(1,u.1),(2,y.1)]) y.2) fun z=>
 Ev s (zT (zV E) (some (.func (.func 171) #[] #[])) [z.1] z.2) fun A=>
 PI (zTb s) K 2 [B,C,A.1] A.2))))))))))):PI (zTb s) K 1 [B,C] h:=zB H
def zOB:zQ E (zk [(17,.slice a n c)]) (zn ziJ [1,0,0] 12) h=some (iI (n:Int)):=by cases a <;> kernel_rfl
def zOA:zQ E (zk [(20,.slice a n c)]) (zn ziJ [1,0,0] 15) h=some (iI (n:Int)):=by cases a <;> kernel_rfl
def zaS(H :
 EvO (zC E .neq 3 b (iI 0)) fun f=>
 BrK f (PI (zTb s) K 3 [b] h) (PI (zTb s) K 4 [d,e] h)):PI (zTb s) K 2 [d,e,b] h:=zB H
def zaR(H :
 K .ret [b] h):PI (zTb s) K 3 [b] h:=zB H
def zaQ(H :
 EvO (zD E 173 2 d) fun f=>
 EvO (zH E 34 h f) fun g=>
 EvO (zD E 173 2 e) fun i=>
 EvO (zH E 34 h i) fun j=>
 Ev s (zT (zV E) (some (.func (.func 247) #[] #[])) (some [g,j,(.func (.func 219) #[] #[])]) h) fun b=>
 K .ret [b.1] b.2):PI (zTb s) K 4 [d,e] h:=zB H
def zdX(aa:h.ok)(hv:zo v=true)(H:PI (zTb s) (KR E [.tmp 4] fun x k=>x=v/\h.qa<=k.wm) 0 [v0,v1] h.qb):(zV E).call 219 [v0,v1] h=some [(v,h)]:=zAz Tryz.f219 aa hv (zAD (zTb s) H)
def zsY:Code:=zc Tryz.f220
def zI6(s:Bool):Cx:=⟨E,s,none,zsY,[([0],[0,1]),([1,0,0],[0,1]),([1,0,1,0,0,0],[0,1,7,8]),([1,0,1,0,0,1,1,0,0,0],[0,1,7,8]),([1,0,1,0,0,1,1,0,0,1,0],[0,1,5,7,8]),([1,0,1,0,0,1,1,0,0,1,1,0,0],[5]),([1,0,1,0,0,1,1,1],[0,1,7,8]),([1,1,0],[])],[4],[]⟩
abbrev zjR(s:Bool)(K:KF)(b d e f:Value)(h:AH):Prop:=PI (zI6 s) K 2 [b,d,e,f] h
def zIe(H :
 PI (zI6 s) K 1 [b,d] h):PI (zI6 s) K 0 [b,d] h:=zB H
def zId(H :
 EvO (zQ E (zk [(6,b)]) (zn zsY [1,0,0] 1) h) fun e=>
 PI (zI6 s) K 2 [b,d,e,(iI 0)] h):PI (zI6 s) K 1 [b,d] h:=zB H
def zEw:zQ E (zk [(6,.slice a n c)]) (zn zsY [1,0,0] 1) h=some (iI (n:Int)):=by cases a <;> kernel_rfl
def zEi(H :
 EvO (zC E .lss 3 d b) fun g=>
 BrK g (PI (zI6 s) K 3 [e,f,b,d] h) (PI (zI6 s) K 7 [] h)):PI (zI6 s) K 2 [e,f,b,d] h:=zB H
def zM6(H :
 PI (zI6 s) K 4 [d,e,b,f,b] h):PI (zI6 s) K 3 [d,e,f,b] h:=zB H
def zM5(H :
 EvO (zE E 132 d f) fun j=>
 EvO (zH E 134 h j) fun k=>
 Ev s (zT (zV E) e [k] h) fun b=>
 BrK b.1 (PI (zI6 s) K 5 [f] b.2) (PI (zI6 s) K 6 [d,e,g,i] b.2)):PI (zI6 s) K 4 [d,e,f,g,i] h:=zB H
def zM4(H :
 K .ret [b] h):PI (zI6 s) K 5 [b] h:=zB H
def zM3(H :
 EvO (zC E .add 3 f (iI 1)) fun g=>
 PI (zI6 s) K 2 [b,d,e,g] h):PI (zI6 s) K 6 [b,d,e,f] h:=zB H
def zIc(H :
 K .ret [(iI (-1))] h):PI (zI6 s) K 7 [] h:=zB H
def zNa(aa:h.ok)(hv:zo v=true)(H:PI (zI6 s) (KR E [.tmp 4] fun x k=>x=v/\h.qa<=k.wm) 0 [v0,v1] h.qb):(zV E).call 220 [v0,v1] h=some [(v,h)]:=zAz Tryz.f220 aa hv (zAD (zI6 s) H)
def zTP(aa:h.ok)(hv:zg v=true)(H:PI (zI6 true) (KR E [.tmp 4] fun x k=>x=v/\h.qa<=k.wm) 0 [v0,v1] h.qb):(zV E).call 220 [v0,v1] h=some [(v,h)]:=zDn Tryz.f220 aa hv (zAD (zI6 true) H)
def zsX:Code:=zc Tryz.f243
def zK9(s:Bool):Cx:=⟨E,s,none,zsX,[([0],[0,1]),([1,0,0],[0,1]),([1,0,1,0,0,0],[0,1,7,8]),([1,0,1,0,0,1,1,0,0,0],[0,1,7,8]),([1,0,1,0,0,1,1,0,0,1,0],[0,1,5,7,8]),([1,0,1,0,0,1,1,0,0,1,1,0,0],[5]),([1,0,1,0,0,1,1,1],[0,1,7,8]),([1,1,0],[])],[4],[]⟩
abbrev zpa(s:Bool)(K:KF)(b d e f:Value)(h:AH):Prop:=PI (zK9 s) K 2 [b,d,e,f] h
def zZ1(H :
 PI (zK9 s) K 1 [b,d] h):PI (zK9 s) K 0 [b,d] h:=zB H
def zZ0(H :
 EvO (zQ E (zk [(6,b)]) (zn zsX [1,0,0] 1) h) fun e=>
 PI (zK9 s) K 2 [b,d,e,(iI 0)] h):PI (zK9 s) K 1 [b,d] h:=zB H
def zJS:zQ E (zk [(6,.slice a n c)]) (zn zsX [1,0,0] 1) h=some (iI (n:Int)):=by cases a <;> kernel_rfl
def zMt(H :
 EvO (zC E .lss 3 d b) fun g=>
 BrK g (PI (zK9 s) K 3 [e,f,b,d] h) (PI (zK9 s) K 7 [] h)):PI (zK9 s) K 2 [e,f,b,d] h:=zB H
def zZz(H :
 PI (zK9 s) K 4 [d,e,b,f,b] h):PI (zK9 s) K 3 [d,e,f,b] h:=zB H
def zZy(H :
 EvO (zE E 34 d f) fun j=>
 EvO (zH E 173 h j) fun k=>
 Ev s (zT (zV E) e [k] h) fun b=>
 BrK b.1 (PI (zK9 s) K 5 [f] b.2) (PI (zK9 s) K 6 [d,e,g,i] b.2)):PI (zK9 s) K 4 [d,e,f,g,i] h:=zB H
def zZx(H :
 K .ret [b] h):PI (zK9 s) K 5 [b] h:=zB H
def zZw(H :
 EvO (zC E .add 3 f (iI 1)) fun g=>
 PI (zK9 s) K 2 [b,d,e,g] h):PI (zK9 s) K 6 [b,d,e,f] h:=zB H
def zZv(H :
 K .ret [(iI (-1))] h):PI (zK9 s) K 7 [] h:=zB H
def zdT(aa:h.ok)(hv:zo v=true)(H:PI (zK9 s) (KR E [.tmp 4] fun x k=>x=v/\h.qa<=k.wm) 0 [v0,v1] h.qb):(zV E).call 243 [v0,v1] h=some [(v,h)]:=zAz Tryz.f243 aa hv (zAD (zK9 s) H)
def B244:Code:=zc Tryz.f244
def zTZ(s:Bool):Cx:=⟨E,s,none,B244,[([0],[0]),([1,0],[1]),([1,1,0,0],[1,4]),([1,1,0,1,0],[4]),([1,1,0,1,1,0,0],[]),([1,1,1,0],[4])],[2,3],[]⟩
def zZu(H :
 Ev s (zW 173 h d) fun b=>
 PI (zTZ s) K 1 [b.1] b.2):PI (zTZ s) K 0 [d] h:=zB H
def zZt(H :
 Ev s (zW 306 h (zAL E 306)) fun b=>
 PI (zTZ s) K 2 [d,b.1] b.2):PI (zTZ s) K 1 [d] h:=zB H
def zZs(H :
 EvO (zH E 173 h d) fun e=>
 Ev s (zT (zV E) (some (.func (.func 268) #[] #[])) (some [b,e,(iI 1)]) h) fun f=>
 PI (zTZ s) K 3 [b] f.2):PI (zTZ s) K 2 [d,b] h:=zB H
def zZr(H :
 Ev s (zT (zV E) (some (.func (.func 269) #[] #[])) [d] h) fun b=>
 BrK b.1 (PI (zTZ s) K 4 [] b.2) (PI (zTZ s) K 5 [d] b.2)):PI (zTZ s) K 3 [d] h:=zB H
def zZq(H :
 K .ret [(iI 2001),(iI 201)] h):PI (zTZ s) K 4 [] h:=zB H
def zZp(H :
 EvO (zD E 306 0 b) fun d=>
 EvO (zH E 3 h d) fun e=>
 EvO (zD E 306 1 b) fun f=>
 EvO (zH E 3 h f) fun g=>
 K .ret [e,g] h):PI (zTZ s) K 5 [b] h:=zB H
def zTL(aa:h.ok)(hv:zg v=true)(H:PI (zTZ true) (KR E [.tmp 2,.tmp 3] fun x k=>x=v/\h.qa<=k.wm) 0 [v0] h.qb):(zV E).call 244 [v0] h=some [(v,h)]:=zDn Tryz.f244 aa hv (zAD (zTZ true) H)
def zsW:Code:=zc Tryz.f245
def zqI(s:Bool):Cx:=⟨E,s,none,zsW,[([0],[0,1]),([1,0],[1,2])],[3],[]⟩
def zZo(H :
 Ev s (zW 173 h d) fun b=>
 PI (zqI s) K 1 [e,b.1] b.2):PI (zqI s) K 0 [d,e] h:=zB H
def zZn(H :
 EvO (zD E 173 0 e) fun y=>
 EvO (zH E 3 h y) fun z=>
 EvO (zC E .eql 3 z (iI 2)) fun g=>
 EvO (gdB g true (zD E 173 1 e)) fun A=>
 EvO (gdB g true (zH E 3 h A)) fun B=>
 EvO (gdB g true (zC E .geq 3 B (iI 0))) fun C=>
 EvO (zAE g C (some (.bool false))) fun i=>
 EvO (gdB i true (zD E 173 1 e)) fun D=>
 EvO (gdB i true (zH E 3 h D)) fun j=>
 EvO (gdB i true (zC E .lss 3 j (iI 256))) fun k=>
 EvO (zAE i k (some (.bool false))) fun d=>
 EvO (gdB d true (zD E 173 2 e)) fun l=>
 EvO (gdB d true (zH E 34 h l)) fun m=>
 EvO (gdB d true (zQ E (zk [(19,m)]) (zn zsW [1,0] 16) h)) fun o=>
 EvO (gdB d true (zC E .leq 3 o (iI 8))) fun p=>
 EvO (zAE d p (some (.bool false))) fun b=>
 EvO (gdB b true (zD E 173 2 e)) fun q=>
 EvO (gdB b true (zH E 34 h q)) fun r=>
 EvO (gdB b true (zBB (.func 246) (some []) [x])) fun t=>
 Ev s (gdW b true (zT (zV E) (some (.func (.func 215) #[] #[])) [r,t] h) h) fun f=>
 EvO (gdB b true (zAY .not f.1)) fun u=>
 EvO (zAE b u (some (.bool false))) fun w=>
 K .ret [w] f.2):PI (zqI s) K 1 [x,e] h:=zB H
def zH8:zQ E (zk [(19,.slice a n c)]) (zn zsW [1,0] 16) h=some (iI (n:Int)):=by cases a <;> kernel_rfl
def zdS(aa:h.ok)(hv:zo v=true)(H:PI (zqI s) (KR E [.tmp 3] fun x k=>x=v/\h.qa<=k.wm) 0 [v0,v1] h.qb):(zV E).call 245 [v0,v1] h=some [(v,h)]:=zAz Tryz.f245 aa hv (zAD (zqI s) H)
def B246:Code:=zc Tryz.f246
def zqH(s:Bool):Cx:=⟨E,s,none,B246,[([0],[0,1]),([1,0],[1,2])],[3],[]⟩
def zZm(H :
 Ev s (zW 173 h d) fun b=>
 PI (zqH s) K 1 [e,b.1] b.2):PI (zqH s) K 0 [d,e] h:=zB H
def zZl(H :
 EvO (zH E 247 h d) fun f=>
 EvO (zH E 173 h e) fun g=>
 Ev s (zT (zV E) f [g] h) fun b=>
 EvO (zAY .not b.1) fun i=>
 K .ret [i] b.2):PI (zqH s) K 1 [d,e] h:=zB H
def zdR(aa:h.ok)(hv:zo v=true)(H:PI (zqH s) (KR E [.tmp 3] fun x k=>x=v/\h.qa<=k.wm) 0 [v0,v1] h.qb):(zV E).call 246 [v0,v1] h=some [(v,h)]:=zAz Tryz.f246 aa hv (zAD (zqH s) H)
def ziI:Code:=zc Tryz.f247
def zFZ(s:Bool):Cx:=⟨E,s,none,ziI,[([0],[0,1,2]),([1,0,0],[0,1,2]),([1,0,1,0,0,0],[0,1,2,11,12,13]),([1,0,1,0,0,1,1,0,0,0],[0,1,2,11,12,13]),([1,0,1,0,0,1,1,0,0,1,0,0],[0,1,2,7,8,11,12,13]),([1,0,1,0,0,1,1,0,0,1,0,1,0,0],[]),([1,0,1,0,0,1,1,0,0,1,1,0],[0,1,2,7,8,11,12,13]),([1,0,1,0,0,1,1,0,0,1,1,1,0],[0,1,2,8,9,11,12,13]),([1,0,1,0,0,1,1,0,0,1,1,1,1,0],[0,1,2,10,11,12,13]),([1,0,1,0,0,1,1,0,0,1,1,1,1,1,0,0],[10]),([1,0,1,0,0,1,1,1],[0,1,2,11,12,13]),([1,1,0,0],[0,1]),([1,1,0,1,0,0],[]),([1,1,1,0],[])],[6],[]⟩
abbrev zpZ(s:Bool)(K:KF)(f g i b d e:Value)(h:AH):Prop:=PI (zFZ s) K 2 [f,g,i,b,d,e] h
def zZk(H :
 PI (zFZ s) K 1 [b,d,e] h):PI (zFZ s) K 0 [b,d,e] h:=zB H
def zZj(H :
 EvO (zQ E (zk [(11,b)]) (zn ziI [1,0,0] 1) h) fun f=>
 PI (zFZ s) K 2 [b,d,e,b,f,(iI 0)] h):PI (zFZ s) K 1 [b,d,e] h:=zB H
def zRH:zQ E (zk [(11,.slice a n c)]) (zn ziI [1,0,0] 1) h=some (iI (n:Int)):=by cases a <;> kernel_rfl
def zMs(H :
 EvO (zC E .lss 3 d b) fun j=>
 BrK j (PI (zFZ s) K 3 [f,g,i,e,b,d] h) (PI (zFZ s) K 11 [f,g] h)):PI (zFZ s) K 2 [f,g,i,e,b,d] h:=zB H
def zZi(H :
 EvO (zE E 34 d b) fun k=>
 EvO (zH E 173 h k) fun l=>
 Ev s (zW 173 h (zAL E 173)) fun f=>
 Ev s (zb E 173 f.2 f.1 l) fun m=>
 PI (zFZ s) K 4 [g,i,j,b,f.1,d,e,b] m.2):PI (zFZ s) K 3 [g,i,j,d,e,b] h:=zB H
def zZh(H :
 EvO (zQ E (zk [(19,f)]) (zn ziI [1,0,1,0,0,1,1,0,0,1,0,0] 2) h) fun l=>
 EvO (zC E .geq 3 g l) fun m=>
 BrK m (PI (zFZ s) K 5 [] h) (PI (zFZ s) K 6 [i,f,j,g,k,b,d,e] h)):PI (zFZ s) K 4 [i,f,j,g,k,b,d,e] h:=zB H
def zRG:zQ E (zk [(19,.slice a n c)]) (zn ziI [1,0,1,0,0,1,1,0,0,1,0,0] 2) h=some (iI (n:Int)):=by cases a <;> kernel_rfl
def zZg(H :
 K .ret [(iI 1)] h):PI (zFZ s) K 5 [] h:=zB H
def zZf(H :
 EvO (zE E 34 g k) fun m=>
 EvO (zH E 173 h m) fun o=>
 Ev s (zW 173 h (zAL E 173)) fun f=>
 Ev s (zb E 173 f.2 f.1 o) fun p=>
 PI (zFZ s) K 7 [i,g,j,l,f.1,b,d,e] p.2):PI (zFZ s) K 6 [i,g,j,k,l,b,d,e] h:=zB H
def zZe(H :
 EvO (zH E 173 h k) fun m=>
 EvO (zH E 173 h l) fun o=>
 Ev s (zT (zV E) f [m,o] h) fun g=>
 PI (zFZ s) K 8 [i,j,f,g.1,b,d,e] g.2):PI (zFZ s) K 7 [i,j,f,k,l,b,d,e] h:=zB H
def zZd(H :
 EvO (zC E .neq 3 b (iI 0)) fun k=>
 BrK k (PI (zFZ s) K 9 [b] h) (PI (zFZ s) K 10 [g,i,j,d,e,f] h)):PI (zFZ s) K 8 [g,i,j,b,d,e,f] h:=zB H
def zZc(H :
 K .ret [b] h):PI (zFZ s) K 9 [b] h:=zB H
def zSM(H :
 EvO (zC E .add 3 e (iI 1)) fun j=>
 PI (zFZ s) K 2 [f,g,i,b,d,j] h):PI (zFZ s) K 10 [f,g,i,b,d,e] h:=zB H
def zSL(H :
 EvO (zQ E (zk [(34,b)]) (zn ziI [1,1,0,0] 1) h) fun e=>
 EvO (zQ E (zk [(36,d)]) (zn ziI [1,1,0,0] 3) h) fun f=>
 EvO (zC E .lss 3 e f) fun g=>
 BrK g (PI (zFZ s) K 12 [] h) (PI (zFZ s) K 13 [] h)):PI (zFZ s) K 11 [b,d] h:=zB H
def zN8:zQ E (zk [(34,.slice a n c)]) (zn ziI [1,1,0,0] 1) h=some (iI (n:Int)):=by cases a <;> kernel_rfl
def zN7:zQ E (zk [(36,.slice a n c)]) (zn ziI [1,1,0,0] 3) h=some (iI (n:Int)):=by cases a <;> kernel_rfl
def zSK(H :
 K .ret [(iI (-1))] h):PI (zFZ s) K 12 [] h:=zB H
def zSJ(H :
 K .ret [(iI 0)] h):PI (zFZ s) K 13 [] h:=zB H
def zdQ(aa:h.ok)(hv:zo v=true)(H:PI (zFZ s) (KR E [.tmp 6] fun x k=>x=v/\h.qa<=k.wm) 0 [v0,v1,v2] h.qb):(zV E).call 247 [v0,v1,v2] h=some [(v,h)]:=zAz Tryz.f247 aa hv (zAD (zFZ s) H)
def zqd:Code:=zc Tryz.f268
def zIu(s:Bool):Cx:=⟨E,s,none,zqd,[([0],[0,1,2]),([1,0],[0,2,4]),([1,1,0],[0,2,4]),([1,1,1,0],[0,2,4]),([1,1,1,1,0,0,0],[0,2,25,26,27]),([1,1,1,1,0,0,1,1,0,0,0],[0,2,25,26,27]),([1,1,1,1,0,0,1,1,0,0,1,0,0],[0,2,7,25,26,27]),([1,1,1,1,0,0,1,1,0,0,1,1],[0,2,7,25,26,27]),([1,1,1,1,0,0,1,1,1],[0,2,25,26,27])],[],[]⟩
abbrev zpK(s:Bool)(K:KF)(f g b d e:Value)(h:AH):Prop:=PI (zIu s) K 4 [f,g,b,d,e] h
abbrev zpJ(s:Bool)(K:KF)(f g i b d e:Value)(h:AH):Prop:=PI (zIu s) K 7 [f,g,i,b,d,e] h
def zYX(H :
 Ev s (zW 173 h e) fun b=>
 PI (zIu s) K 1 [d,f,b.1] b.2):PI (zIu s) K 0 [d,e,f] h:=zB H
def zYW(H :
 EvO (zp b) fun f=>
 EvO (zD E 306 0 f) fun g=>
 EvO (zH E 3 h g) fun i=>
 EvO (zC E .add 3 i (iI 1)) fun j=>
 EvO (zp b) fun k=>
 EvO (zD E 306 0 k) fun l=>
 Ev s (zb E 3 h l j) fun m=>
 PI (zIu s) K 2 [b,d,e] m.2):PI (zIu s) K 1 [b,d,e] h:=zB H
def zYV(H :
 EvO (zp b) fun f=>
 EvO (zD E 306 1 f) fun g=>
 EvO (zH E 3 h g) fun i=>
 EvO (zQ E (zk [(19,i),(20,d)]) (zn zqd [1,1,0] 6) h) fun j=>
 EvO (zp b) fun k=>
 EvO (zD E 306 1 k) fun l=>
 Ev s (zb E 3 h l j) fun m=>
 PI (zIu s) K 3 [b,d,e] m.2):PI (zIu s) K 2 [b,d,e] h:=zB H
def zYU(H :
 EvO (zD E 173 2 f) fun g=>
 EvO (zH E 34 h g) fun b=>
 EvO (zQ E (zk [(25,b)]) (zn zqd [1,1,1,0] 2) h) fun i=>
 PI (zIu s) K 4 [d,e,b,i,(iI 0)] h):PI (zIu s) K 3 [d,e,f] h:=zB H
def zRF:zQ E (zk [(25,.slice a n c)]) (zn zqd [1,1,1,0] 2) h=some (iI (n:Int)):=by cases a <;> kernel_rfl
def zYT(H :
 EvO (zC E .lss 3 d b) fun i=>
 BrK i (PI (zIu s) K 5 [f,g,e,b,d] h) (K .normal [] h)):PI (zIu s) K 4 [f,g,e,b,d] h:=zB H
def zYS(H :
 EvO (zE E 34 b d) fun j=>
 EvO (zH E 173 h j) fun k=>
 Ev s (zW 173 h (zAL E 173)) fun f=>
 Ev s (zb E 173 f.2 f.1 k) fun l=>
 PI (zIu s) K 6 [g,i,f.1,b,e,d] l.2):PI (zIu s) K 5 [g,i,b,e,d] h:=zB H
def zYR(H :
 EvO (zp d) fun m=>
 EvO (zD E 306 0 m) fun o=>
 EvO (zH E 3 h o) fun p=>
 EvO (zC E .gtr 3 p (iI 2000)) fun b=>
 EvO (gdB b false d) fun q=>
 EvO (gdB b false (zp q)) fun r=>
 EvO (gdB b false (zD E 306 1 r)) fun t=>
 EvO (gdB b false (zH E 3 h t)) fun u=>
 EvO (gdB b false (zC E .gtr 3 u (iI 200))) fun i=>
 EvO (zAE b (some (.bool true)) i) fun j=>
 BrK j (K .ret [] h) (PI (zIu s) K 7 [d,k,l,e,f,g] h)):PI (zIu s) K 6 [d,k,l,e,f,g] h:=zB H
def zYQ(H :
 EvO (zH E 173 h i) fun j=>
 EvO (zC E .add 3 g (iI 1)) fun k=>
 Ev s (zT (zV E) (some (.func (.func 268) #[] #[])) [f,j,k] h) fun l=>
 PI (zIu s) K 8 [f,g,b,d,e] l.2):PI (zIu s) K 7 [f,g,i,b,d,e] h:=zB H
def zYP(H :
 EvO (zC E .add 3 e (iI 1)) fun i=>
 PI (zIu s) K 4 [f,g,b,d,i] h):PI (zIu s) K 8 [f,g,b,d,e] h:=zB H
def zdI(H:PI (zIu true) (KR E [] fun x k=>(zg x=false\/k.wm<h.qa)/\Rp x ⟨k.t,k.qa,cond (Nat.ble h.wm k.wm) h.wm k.wm⟩) 0 [v0,v1,v2] h.qb):Ev true ((zV E).call 268 [v0,v1,v2] h) fun x=>Rp x.1 x.2:=zHk Tryz.f268 (zAD (zIu true) H)
def B269:Code:=zc Tryz.f269
def zqG(s:Bool):Cx:=⟨E,s,none,B269,[([0],[0]),([1,0],[0])],[2],[]⟩
def zYO(H :
 PI (zqG s) K 1 [b] h):PI (zqG s) K 0 [b] h:=zB H
def zYN(H :
 EvO (zp f) fun g=>
 EvO (zD E 306 0 g) fun i=>
 EvO (zH E 3 h i) fun j=>
 EvO (zC E .gtr 3 j (iI 2000)) fun b=>
 EvO (gdB b false f) fun k=>
 EvO (gdB b false (zp k)) fun l=>
 EvO (gdB b false (zD E 306 1 l)) fun m=>
 EvO (gdB b false (zH E 3 h m)) fun o=>
 EvO (gdB b false (zC E .gtr 3 o (iI 200))) fun d=>
 EvO (zAE b (some (.bool true)) d) fun e=>
 K .ret [e] h):PI (zqG s) K 1 [f] h:=zB H
def zdH(aa:h.ok)(hv:zo v=true)(H:PI (zqG s) (KR E [.tmp 2] fun x k=>x=v/\h.qa<=k.wm) 0 [v0] h.qb):(zV E).call 269 [v0] h=some [(v,h)]:=zAz Tryz.f269 aa hv (zAD (zqG s) H)
end Go.Proofs
namespace Go.Proofs
open Go Go.AM
variable {s:Bool} {K:KF} {h:AH} {a:Option Addr} {n c:Nat} {b d e f g i j k l m o p q r t u w x y z A B C D F G J L M N O Q S U V W X Y Z v v0 v1 v2 v3 v4 v5 v6 v7 v8 v9 v15 v36 v37 v38:Value} {h1:AH} {Rp:Value->AH->Prop}
def zqf:Code:=zc Tryz.f222
def zEI(s:Bool):Cx:=⟨E,s,none,zqf,[([0],[0,1,2]),([1,0],[0,1,2,4]),([1,1,0],[0,2,4,5]),([1,1,1,0,0,0,0],[0,2,4,5,6]),([1,1,1,0,0,1,0,0,0,0],[0,2,4,5,6]),([1,1,1,0,0,1,0,0,1,0],[0,2,4,5,6]),([1,1,1,0,0,1,0,0,1,1,0,0,0],[0,2,4,5,6,36,37,38]),([1,1,1,0,0,1,0,0,1,1,0,0,1,1,0,0,0],[0,2,4,5,6,36,37,38]),([1,1,1,0,0,1,0,0,1,1,0,0,1,1,0,0,1,0],[0,2,4,5,6,8,36,37,38]),([1,1,1,0,0,1,0,0,1,1,0,0,1,1,0,0,1,1,0,0],[0,2,4,5,6,8,36,37,38]),([1,1,1,0,0,1,0,0,1,1,0,0,1,1,0,0,1,1,0,1],[0,2,4,5,6,8,36,37,38]),([1,1,1,0,0,1,0,0,1,1,0,0,1,1,1],[0,2,4,5,6,36,37,38]),([1,1,1,0,0,1,1],[0,2,4,5,6])],[],[]⟩
abbrev zpi(s:Bool)(K:KF)(b d e f g:Value)(h:AH):Prop:=PI (zEI s) K 3 [b,d,e,f,g] h
abbrev zph(s:Bool)(K:KF)(b d e f g:Value)(h:AH):Prop:=PI (zEI s) K 4 [b,d,e,f,g] h
abbrev zpg(s:Bool)(K:KF)(f g i j k b d e:Value)(h:AH):Prop:=PI (zEI s) K 6 [f,g,i,j,k,b,d,e] h
abbrev zmE(s:Bool)(K:KF)(f g i j k b d e:Value)(h:AH):Prop:=PI (zEI s) K 11 [f,g,i,j,k,b,d,e] h
def zM2(H :
 Ev s (one ((.map (some (h).qa):Value),(h).new (.map [] 0))) fun b=>
 EvO (zH E 3 b.2 d) fun g=>
 Ev s (zAI E 273 b.1 g (some (.bool true)) b.2) fun i=>
 PI (zEI s) K 1 [e,d,f,b.1] i.2):PI (zEI s) K 0 [e,d,f] h:=zB H
def zM1(H :
 EvO (zH E 3 h e) fun i=>
 Ev s (zh E 47 1 (some [(0,i)]) h) fun b=>
 PI (zEI s) K 2 [d,f,g,b.1] b.2):PI (zEI s) K 1 [d,e,f,g] h:=zB H
def zM0(H :
 PI (zEI s) K 3 [b,d,e,f,(iI 0)] h):PI (zEI s) K 2 [b,d,e,f] h:=zB H
def zGF(H :
 EvO (zQ E (zk [(15,b)]) (zn zqf [1,1,1,0,0,0,0] 2) h) fun i=>
 EvO (zC E .lss 3 d i) fun j=>
 BrK j (PI (zEI s) K 4 [e,f,g,b,d] h) (K .normal [] h)):PI (zEI s) K 3 [e,f,g,b,d] h:=zB H
def zC0:zQ E (zk [(15,.slice a n c)]) (zn zqf [1,1,1,0,0,0,0] 2) h=some (iI (n:Int)):=by cases a <;> kernel_rfl
def zMz(H :
 EvO (zE E 47 e f) fun j=>
 EvO (zH E 3 h j) fun k=>
 Ev s (zT (zV E) d [k] h) fun b=>
 EvO (zAY .not b.1) fun l=>
 BrK l (K .ret [] b.2) (PI (zEI s) K 5 [d,g,i,e,f] b.2)):PI (zEI s) K 4 [d,g,i,e,f] h:=zB H
def zMy(H :
 EvO (zH E 128 h d) fun k=>
 EvO (zp k) fun l=>
 EvO (zD E 131 0 l) fun m=>
 EvO (zH E 129 h m) fun o=>
 EvO (zE E 47 e f) fun p=>
 EvO (zH E 3 h p) fun q=>
 EvO (zE E 129 o q) fun r=>
 EvO (zH E 132 h r) fun g=>
 EvO (zQ E (zk [(36,g)]) (zn zqf [1,1,1,0,0,1,0,0,1,0] 10) h) fun b=>
 PI (zEI s) K 6 [i,d,j,e,f,g,b,(iI 0)] h):PI (zEI s) K 5 [i,d,j,e,f] h:=zB H
def zH9:zQ E (zk [(36,.slice a n c)]) (zn zqf [1,1,1,0,0,1,0,0,1,0] 10) h=some (iI (n:Int)):=by cases a <;> kernel_rfl
def zGE(H :
 EvO (zC E .lss 3 d b) fun l=>
 BrK l (PI (zEI s) K 7 [f,g,i,j,k,e,b,d] h) (PI (zEI s) K 12 [f,g,i,j,k] h)):PI (zEI s) K 6 [f,g,i,j,k,e,b,d] h:=zB H
def zMx(H :
 EvO (zE E 132 b d) fun m=>
 EvO (zH E 134 h m) fun o=>
 Ev s (zW 134 h (zAL E 134)) fun f=>
 Ev s (zb E 134 f.2 f.1 o) fun p=>
 PI (zEI s) K 8 [g,i,j,k,l,f.1,b,e,d] p.2):PI (zEI s) K 7 [g,i,j,k,l,b,e,d] h:=zB H
def zMw(H :
 EvO (zD E 134 0 i) fun o=>
 EvO (zH E 3 h o) fun p=>
 EvO (zC E .eql 3 p (iI 0)) fun b=>
 EvO (gdB b true g) fun q=>
 EvO (gdB b true (zD E 134 1 i)) fun r=>
 EvO (gdB b true (zH E 3 h r)) fun t=>
 EvO (gdB b true (zBM E 273 false q t h)) fun u=>
 EvO (gdB b true (zAY .not u)) fun w=>
 EvO (zAE b w (some (.bool false))) fun x=>
 BrK x (PI (zEI s) K 9 [j,k,g,l,m,i,d,e,f] h) (PI (zEI s) K 11 [j,k,g,l,m,d,e,f] h)):PI (zEI s) K 8 [j,k,g,l,m,i,d,e,f] h:=zB H
def zMv(H :
 EvO (zD E 134 1 g) fun m=>
 EvO (zH E 3 h m) fun o=>
 Ev s (zAI E 273 f o (some (.bool true)) h) fun p=>
 PI (zEI s) K 10 [i,j,f,k,l,g,b,d,e] p.2):PI (zEI s) K 9 [i,j,f,k,l,g,b,d,e] h:=zB H
def zKC(H :
 EvO (zD E 134 1 o) fun p=>
 EvO (zH E 3 h p) fun q=>
 Ev s (zh E 47 1 (some [(0,q)]) h) fun f=>
 Ev s (zAJ E .append [47,47] [l,f.1] f.2) fun g=>
 PI (zEI s) K 11 [i,j,k,g.1,m,b,d,e] g.2):PI (zEI s) K 10 [i,j,k,l,m,o,b,d,e] h:=zB H
def zKB(H :
 EvO (zC E .add 3 e (iI 1)) fun l=>
 PI (zEI s) K 6 [f,g,i,j,k,b,d,l] h):PI (zEI s) K 11 [f,g,i,j,k,b,d,e] h:=zB H
def zKA(H :
 EvO (zC E .add 3 g (iI 1)) fun i=>
 PI (zEI s) K 3 [b,d,e,f,i] h):PI (zEI s) K 12 [b,d,e,f,g] h:=zB H
def zNY(H:PI (zEI true) (KR E [] fun x k=>(zg x=false\/k.wm<h.qa)/\Rp x ⟨k.t,k.qa,cond (Nat.ble h.wm k.wm) h.wm k.wm⟩) 0 [v0,v1,v2] h.qb):Ev true ((zV E).call 222 [v0,v1,v2] h) fun x=>Rp x.1 x.2:=zHk Tryz.f222 (zAD (zEI true) H)
def zeE:Code:=sub zjV [0]
def zTk(s:Bool):Cx:=⟨E,s,none,zeE,[([],[0,1,2,3])],[2,4,5,7,8],[]⟩
def zS6(H :
 Ev s (zW 178 h g) fun b=>
 Ev s (zW 3 b.2 i) fun d=>
 Ev s (zW 134 d.2 k) fun e=>
 Ev s (zW 4 e.2 (zAL E 4)) fun f=>
 K .normal [j,b.1,d.1,e.1,f.1] f.2):PI (zTk s) K 0 [g,i,j,k] h:=zB H
def ziC{s:Bool}{v0 v1 v2 v3:Value}{T:Tm}{h:AH}{K:KF}(hT:∀ x∈[(0,v0),(1,v1),(2,v2),(3,v3)],T.get x.1=x.2)(H:PI (zTk s) K 0 [v0,v1,v2,v3] h) :
 Ev s (evC E (zV E) none zeE ⟨T,h,[]⟩) (zI4 (zTk s ) K):=
 zBZ (C:=zTk s ) (by kernel_rfl) (by kernel_rfl) hT ((by kernel_rfl:zDP (zTk s ) K 30 (rs zeE 60 (.at [])) (zk [(0,v0),(1,v1),(2,v2),(3,v3)]) h=(PI (zTk s) K 0 [v0,v1,v2,v3] h)).mpr H)
def zTm:Code:=sub zjV [1,0,0]
def zTj(s:Bool):Cx:=⟨E,s,none,zTm,[([],[2,4,5,7,8])],[4,5,7,8,14],[]⟩
def zS5(H :
 EvO (zD E 178 0 b) fun j=>
 EvO (zD E 176 1 j) fun k=>
 EvO (zH E 128 h k) fun l=>
 Ev s (zT (zV E) (some (.func (.func 178) #[] #[])) [l,e] h) fun d=>
 K .normal [b,f,g,i,d.1] d.2):PI (zTj s) K 0 [e,b,f,g,i] h:=zB H
def ziB{s:Bool}{v2 v4 v5 v7 v8:Value}{T:Tm}{h:AH}{K:KF}(hT:∀ x∈[(2,v2),(4,v4),(5,v5),(7,v7),(8,v8)],T.get x.1=x.2)(H:PI (zTj s) K 0 [v2,v4,v5,v7,v8] h) :
 Ev s (evC E (zV E) none zTm ⟨T,h,[]⟩) (zI4 (zTj s ) K):=
 zBZ (C:=zTj s ) (by kernel_rfl) (by kernel_rfl) hT ((by kernel_rfl:zDP (zTj s ) K 30 (rs zTm 60 (.at [])) (zk [(2,v2),(4,v4),(5,v5),(7,v7),(8,v8)]) h=(PI (zTj s) K 0 [v2,v4,v5,v7,v8] h)).mpr H)
def zHJ:Code:=ziZ (sub zjV [1,0,1,0])
def zI8(s:Bool)(ll:Nat):Cx:=⟨E,s,some ll,zHJ,[([0,0],[4,5,7,8,9]),([0,1,0,0],[8])],[],[]⟩
abbrev zmN(s:Bool)(ll:Nat)(K:KF)(v8:Value)(h:AH):Prop:=PI (zI8 s ll) K 1 [v8] h
def zS4{ll:Nat}(H :
 EvO (zD E 178 0 i) fun C=>
 EvO (zH E 176 h C) fun D=>
 EvO (zH E 3 h A) fun F=>
 Ev s (zT (zV E) (some (.func (.func 123) #[] #[])) [D,F,k] h) fun e=>
 EvO (gdB e.1 true (zD E 134 0 j)) fun G=>
 EvO (gdB e.1 true (zH E 3 e.2 G)) fun J=>
 EvO (gdB e.1 true (zC E .eql 3 J (iI 0))) fun L=>
 EvO (gdB e.1 true L) fun g=>
 EvO (gdB g true (zD E 178 0 i)) fun l=>
 EvO (gdB g true (zH E 176 e.2 l)) fun m=>
 EvO (gdB g true (zD E 134 1 j)) fun o=>
 EvO (gdB g true (zH E 3 e.2 o)) fun p=>
 EvO (gdB g true k) fun q=>
 Ev s (gdW g true (zT (zV E) (some (.func (.func 123) #[] #[])) [m,p,q] e.2) e.2) fun b=>
 EvO (gdB e.1 true (zAE g b.1 (some (.bool false)))) fun r=>
 EvO (gdB e.1 true r) fun d=>
 EvO (gdB d false (zH E 178 b.2 i)) fun t=>
 EvO (gdB d false (zH E 3 b.2 A)) fun u=>
 EvO (gdB d false k) fun w=>
 EvO (gdB d false (zH E 134 b.2 j)) fun x=>
 Ev s (gdW d false (zT (zV E) (some (.func (.func 128) #[] #[])) [t,u,w,x] b.2) b.2) fun f=>
 EvO (gdB e.1 true (zAE d (some (.bool true)) f.1)) fun y=>
 EvO (zAE e.1 y (some (.bool false))) fun z=>
 BrK z (PI (zI8 s ll) K 1 [B] f.2) (K .normal [] f.2)):PI (zI8 s ll) K 0 [i,A,j,B,k] h:=zB H
def zS3{ll:Nat}(H :
 Ev s (zb E 4 h b (some (.bool true))) fun d=>
 K .ret [] d.2):PI (zI8 s ll) K 1 [b] h:=zB H
def ziA{s:Bool}{ll:Nat}{v4 v5 v7 v8 v9:Value}{T:Tm}{h:AH}{K:KF}(hT:∀ x∈[(4,v4),(5,v5),(7,v7),(8,v8),(9,v9)],T.get x.1=x.2)(H:PI (zI8 s ll) K 0 [v4,v5,v7,v8,v9] h) :
 Ev s (evC E (zV E) (some ll) zHJ ⟨T,h,[]⟩) (zI4 (zI8 s ll ) K):=
 zBZ (C:=zI8 s ll ) (by kernel_rfl) (by kernel_rfl) hT ((by kernel_rfl:zDP (zI8 s ll ) K 30 (rs zHJ 60 (.at [])) (zk [(4,v4),(5,v5),(7,v7),(8,v8),(9,v9)]) h=(PI (zI8 s ll) K 0 [v4,v5,v7,v8,v9] h)).mpr H)
def zIs:Code:=zsh (sub zjV [1,0,1,0])
def zTi(s:Bool)(ll:Nat):Cx:=⟨E,s,some ll,zIs,[([],[4,5,7,8,15])],[4,5,7,8,9],[]⟩
def zS2{ll:Nat}(H :
 K .normal [d,e,f,g,b] h):PI (zTi s ll) K 0 [d,e,f,g,b] h:=zB H
def zh9{s:Bool}{ll:Nat}{v4 v5 v7 v8 v15:Value}{T:Tm}{h:AH}{K:KF}(hT:∀ x∈[(4,v4),(5,v5),(7,v7),(8,v8),(15,v15)],T.get x.1=x.2)(H:PI (zTi s ll) K 0 [v4,v5,v7,v8,v15] h) :
 Ev s (evC E (zV E) (some ll) zIs ⟨T,h,[]⟩) (zI4 (zTi s ll ) K):=
 zBZ (C:=zTi s ll ) (by kernel_rfl) (by kernel_rfl) hT ((by kernel_rfl:zDP (zTi s ll ) K 30 (rs zIs 60 (.at [])) (zk [(4,v4),(5,v5),(7,v7),(8,v8),(15,v15)]) h=(PI (zTi s ll) K 0 [v4,v5,v7,v8,v15] h)).mpr H)
def zO5:Code:=sub zjV [1,1,0]
def zO1(s:Bool)(K:KF)(v8:Value)(h:AH):Prop:=
 Ev s (zb E 4 h v8 (some (.bool false))) fun x0=>
 K .normal [v8] x0.2
end Go.Proofs
namespace Go.Proofs
open Go Go.AM
def znK:tAS E 47=some (false,1):=by kernel_rfl
def z_47:zAL E 47=some (.slice none 0 0):=by kernel_rfl
end Go.Proofs
