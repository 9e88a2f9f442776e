import Derived.Test.YthmnhjcmefjgjaaGreatDoorXAE
set_option linter.all false
set_option linter.unusedSectionVars false
set_option autoImplicit true
set_option relaxedAutoImplicit true
set_option maxRecDepth 100000
set_option maxHeartbeats 1000000
noncomputable section
namespace Go.Proofs
open Go Go.AM
variable {s:Bool} {K:KF} {h:AH} {a:Option Addr} {n c:Nat} {b d e f g i j k l m o p q r t u w x y z A B C D F G J L M N O Q S U V W X Y Z v v0 v1 v2 v3 v4 v5 v6 v7 v8 v9 v10 v11 v12 v14 v15 v16 v17 v18 v20 v21 v22 v24 v65 v66 v67 v111 v112 v113 v143 v144 v145:Value} {h1:AH} {Rp:Value->AH->Prop}
def B88:Code:=zc Tryz.f88
def C88(s:Bool):Cx:=⟨E,s,none,B88,[([0],[0,1]),([1,0,0],[2,3]),([1,0,1,0],[2,3,5]),([1,0,1,1,0,0],[5]),([1,1,0],[2,3])],[4],[]⟩
def zft(H :
 Ev s (zW 36 h e) fun b=>
 Ev s (zW 36 b.2 f) fun d=>
 PI (C88 s) K 1 [b.1,d.1] d.2):PI (C88 s) K 0 [e,f] h:=zB H
def zfs(H :
 EvO (zD E 36 0 b) fun f=>
 EvO (zH E 3 h f) fun g=>
 EvO (zD E 36 0 d) fun i=>
 EvO (zH E 3 h i) fun j=>
 Ev s (zT (zV E) (some (.func (.func 94) #[] #[])) [g,j] h) fun e=>
 PI (C88 s) K 2 [b,d,e.1] e.2):PI (C88 s) K 1 [b,d] h:=zB H
def zfr(H :
 EvO (zC E .neq 3 b (iI 0)) fun f=>
 BrK f (PI (C88 s) K 3 [b] h) (PI (C88 s) K 4 [d,e] h)):PI (C88 s) K 2 [d,e,b] h:=zB H
def zfq(H :
 K .ret [b] h):PI (C88 s) K 3 [b] h:=zB H
def zfp(H :
 EvO (zD E 36 1 d) fun f=>
 EvO (zH E 34 h f) fun g=>
 EvO (zD E 36 1 e) fun i=>
 EvO (zH E 34 h i) fun j=>
 Ev s (zT (zV E) (some (.func (.func 140) #[] #[])) [g,j] h) fun b=>
 K .ret [b.1] b.2):PI (C88 s) K 4 [d,e] h:=zB H
def zhR(aa:h.ok)(hv:zo v=true)(H:PI (C88 s) (KR E [.tmp 4] fun x k=>x=v/\h.qa<=k.wm) 0 [v0,v1] h.qb):(zV E).call 88 [v0,v1] h=some [(v,h)]:=zAz Tryz.f88 aa hv (zAD (C88 s) H)
def ziN:Code:=zc Tryz.f140
def zKL(s:Bool):Cx:=⟨E,s,none,ziN,[([0],[0,1]),([1,0,0],[0,1]),([1,0,1,0,0,0,0],[0,1,5]),([1,0,1,0,0,1,0,0,0],[0,1,5]),([1,0,1,0,0,1,0,0,1,0],[0,1,5,6]),([1,0,1,0,0,1,0,0,1,1,0,0],[6]),([1,0,1,0,0,1,1],[0,1,5]),([1,1,0],[0,1])],[4],[]⟩
abbrev zpz(s:Bool)(K:KF)(b d e:Value)(h:AH):Prop:=PI (zKL s) K 2 [b,d,e] h
abbrev zpy(s:Bool)(K:KF)(b d:Value)(h:AH):Prop:=PI (zKL s) K 7 [b,d] h
def zcL(H :
 PI (zKL s) K 1 [b,d] h):PI (zKL s) K 0 [b,d] h:=zB H
def zcK(H :
 PI (zKL s) K 2 [b,d,(iI 0)] h):PI (zKL s) K 1 [b,d] h:=zB H
def zNN(H :
 EvO (zQ E (zk [(8,d)]) (zn ziN [1,0,1,0,0,0,0] 2) h) fun g=>
 EvO (zC E .lss 3 f g) fun b=>
 EvO (gdB b true f) fun i=>
 EvO (gdB b true e) fun j=>
 EvO (gdB b true (zQ E (zk [(13,j)]) (zn ziN [1,0,1,0,0,0,0] 7) h)) fun k=>
 EvO (gdB b true (zC E .lss 3 i k)) fun l=>
 EvO (zAE b l (some (.bool false))) fun m=>
 BrK m (PI (zKL s) K 3 [d,e,f] h) (PI (zKL s) K 7 [d,e] h)):PI (zKL s) K 2 [d,e,f] h:=zB H
def zJZ:zQ E (zk [(8,.slice a n c)]) (zn ziN [1,0,1,0,0,0,0] 2) h=some (iI (n:Int)):=by cases a <;> kernel_rfl
def zRS:zQ E (zk [(13,.slice a n c)]) (zn ziN [1,0,1,0,0,0,0] 7) h=some (iI (n:Int)):=by cases a <;> kernel_rfl
def zcJ(H :
 EvO (zE E 34 d b) fun g=>
 EvO (zH E 173 h g) fun i=>
 EvO (zE E 34 e b) fun j=>
 EvO (zH E 173 h j) fun k=>
 Ev s (zT (zV E) (some (.func (.func 188) #[] #[])) [i,k] h) fun f=>
 PI (zKL s) K 4 [d,e,b,f.1] f.2):PI (zKL s) K 3 [d,e,b] h:=zB H
def zcI(H :
 EvO (zC E .neq 3 b (iI 0)) fun g=>
 BrK g (PI (zKL s) K 5 [b] h) (PI (zKL s) K 6 [d,e,f] h)):PI (zKL s) K 4 [d,e,f,b] h:=zB H
def zcH(H :
 K .ret [b] h):PI (zKL s) K 5 [b] h:=zB H
def zcG(H :
 EvO (zC E .add 3 e (iI 1)) fun f=>
 PI (zKL s) K 2 [b,d,f] h):PI (zKL s) K 6 [b,d,e] h:=zB H
def zcF(H :
 EvO (zQ E (zk [(31,d)]) (zn ziN [1,1,0] 1) h) fun f=>
 EvO (zQ E (zk [(33,e)]) (zn ziN [1,1,0] 3) h) fun g=>
 Ev s (zT (zV E) (some (.func (.func 94) #[] #[])) [f,g] h) fun b=>
 K .ret [b.1] b.2):PI (zKL s) K 7 [d,e] h:=zB H
def zRR:zQ E (zk [(31,.slice a n c)]) (zn ziN [1,1,0] 1) h=some (iI (n:Int)):=by cases a <;> kernel_rfl
def zRQ:zQ E (zk [(33,.slice a n c)]) (zn ziN [1,1,0] 3) h=some (iI (n:Int)):=by cases a <;> kernel_rfl
def zdw(aa:h.ok)(hv:zo v=true)(H:PI (zKL s) (KR E [.tmp 4] fun x k=>x=v/\h.qa<=k.wm) 0 [v0,v1] h.qb):(zV E).call 140 [v0,v1] h=some [(v,h)]:=zAz Tryz.f140 aa hv (zAD (zKL s) H)
def zmm:Code:=zc Tryz.f188
def zGI(s:Bool):Cx:=⟨E,s,none,zmm,[([0],[0,1]),([1,0],[2,3]),([1,1,0,0],[2,3,5]),([1,1,0,1,0],[2,3]),([1,1,1,0,0],[2,3,5]),([1,1,1,0,1,0],[2,3]),([1,1,1,1,0,0],[2,3,5]),([1,1,1,1,0,1,0,0,0,0],[2,3,5,6]),([1,1,1,1,0,1,0,0,1,0,0],[2,3,6]),([1,1,1,1,0,1,0,0,1,1],[2,3,5,6]),([1,1,1,1,1,0],[5])],[4],[]⟩
abbrev zjS(s:Bool)(K:KF)(b d e f:Value)(h:AH):Prop:=PI (zGI s) K 7 [b,d,e,f] h
abbrev zmK(s:Bool)(K:KF)(b:Value)(h:AH):Prop:=PI (zGI s) K 10 [b] h
def zbF(H :
 Ev s (zW 173 h e) fun b=>
 Ev s (zW 173 b.2 f) fun d=>
 PI (zGI s) K 1 [b.1,d.1] d.2):PI (zGI s) K 0 [e,f] h:=zB H
def zbE(H :
 EvO (zD E 173 0 b) fun f=>
 EvO (zH E 3 h f) fun g=>
 EvO (zD E 173 0 d) fun i=>
 EvO (zH E 3 h i) fun j=>
 Ev s (zT (zV E) (some (.func (.func 232) #[] #[])) [g,j] h) fun e=>
 PI (zGI s) K 2 [b,d,e.1] e.2):PI (zGI s) K 1 [b,d] h:=zB H
def zbD(H :
 EvO (zC E .eql 3 e (iI 0)) fun f=>
 BrK f (PI (zGI s) K 3 [b,d] h) (PI (zGI s) K 4 [b,d,e] h)):PI (zGI s) K 2 [b,d,e] h:=zB H
def zbC(H :
 EvO (zD E 173 1 b) fun f=>
 EvO (zH E 3 h f) fun g=>
 EvO (zD E 173 1 d) fun i=>
 EvO (zH E 3 h i) fun j=>
 Ev s (zT (zV E) (some (.func (.func 232) #[] #[])) [g,j] h) fun e=>
 PI (zGI s) K 4 [b,d,e.1] e.2):PI (zGI s) K 3 [b,d] h:=zB H
def zNA(H :
 EvO (zC E .eql 3 e (iI 0)) fun f=>
 BrK f (PI (zGI s) K 5 [b,d] h) (PI (zGI s) K 6 [b,d,e] h)):PI (zGI s) K 4 [b,d,e] h:=zB H
def zbB(H :
 EvO (zD E 173 2 b) fun f=>
 EvO (zH E 34 h f) fun g=>
 EvO (zQ E (zk [(22,g)]) (zn zmm [1,1,1,0,1,0] 2) h) fun i=>
 EvO (zD E 173 2 d) fun j=>
 EvO (zH E 34 h j) fun k=>
 EvO (zQ E (zk [(25,k)]) (zn zmm [1,1,1,0,1,0] 5) h) fun l=>
 Ev s (zT (zV E) (some (.func (.func 232) #[] #[])) [i,l] h) fun e=>
 PI (zGI s) K 6 [b,d,e.1] e.2):PI (zGI s) K 5 [b,d] h:=zB H
def zRN:zQ E (zk [(22,.slice a n c)]) (zn zmm [1,1,1,0,1,0] 2) h=some (iI (n:Int)):=by cases a <;> kernel_rfl
def zRM:zQ E (zk [(25,.slice a n c)]) (zn zmm [1,1,1,0,1,0] 5) h=some (iI (n:Int)):=by cases a <;> kernel_rfl
def zIg(H :
 PI (zGI s) K 7 [b,d,e,(iI 0)] h):PI (zGI s) K 6 [b,d,e] h:=zB H
def zIf(H :
 EvO (zD E 173 2 d) fun i=>
 EvO (zH E 34 h i) fun j=>
 EvO (zQ E (zk [(30,j)]) (zn zmm [1,1,1,1,0,1,0,0,0,0] 3) h) fun k=>
 EvO (zC E .lss 3 f k) fun b=>
 EvO (gdB b true e) fun l=>
 EvO (gdB b true (zC E .eql 3 l (iI 0))) fun m=>
 EvO (zAE b m (some (.bool false))) fun o=>
 BrK o (PI (zGI s) K 8 [d,g,f] h) (PI (zGI s) K 10 [e] h)):PI (zGI s) K 7 [d,g,e,f] h:=zB H
def zGV:zQ E (zk [(30,.slice a n c)]) (zn zmm [1,1,1,1,0,1,0,0,0,0] 3) h=some (iI (n:Int)):=by cases a <;> kernel_rfl
def zbA(H :
 EvO (zD E 173 2 e) fun g=>
 EvO (zH E 34 h g) fun i=>
 EvO (zE E 34 i d) fun j=>
 EvO (zH E 173 h j) fun k=>
 EvO (zD E 173 2 f) fun l=>
 EvO (zH E 34 h l) fun m=>
 EvO (zE E 34 m d) fun o=>
 EvO (zH E 173 h o) fun p=>
 Ev s (zT (zV E) (some (.func (.func 188) #[] #[])) [k,p] h) fun b=>
 PI (zGI s) K 9 [e,f,b.1,d] b.2):PI (zGI s) K 8 [e,f,d] h:=zB H
def za9(H :
 EvO (zC E .add 3 f (iI 1)) fun g=>
 PI (zGI s) K 7 [b,d,e,g] h):PI (zGI s) K 9 [b,d,e,f] h:=zB H
def zSi(H :
 K .ret [b] h):PI (zGI s) K 10 [b] h:=zB H
def zde(aa:h.ok)(hv:zo v=true)(H:PI (zGI s) (KR E [.tmp 4] fun x k=>x=v/\h.qa<=k.wm) 0 [v0,v1] h.qb):(zV E).call 188 [v0,v1] h=some [(v,h)]:=zAz Tryz.f188 aa hv (zAD (zGI s) H)
def B232:Code:=zc Tryz.f232
def zTa(s:Bool):Cx:=⟨E,s,none,B232,[([0],[0,1]),([1,0,0],[0,1]),([1,0,1,0,0],[]),([1,1,0,0],[0,1]),([1,1,0,1,0,0],[]),([1,1,1,0],[])],[4],[]⟩
def zZ7(H :
 PI (zTa s) K 1 [b,d] h):PI (zTa s) K 0 [b,d] h:=zB H
def zZ6(H :
 EvO (zC E .lss 3 b d) fun e=>
 BrK e (PI (zTa s) K 2 [] h) (PI (zTa s) K 3 [b,d] h)):PI (zTa s) K 1 [b,d] h:=zB H
def zZ5(H :
 K .ret [(iI (-1))] h):PI (zTa s) K 2 [] h:=zB H
def zZ4(H :
 EvO (zC E .gtr 3 b d) fun e=>
 BrK e (PI (zTa s) K 4 [] h) (PI (zTa s) K 5 [] h)):PI (zTa s) K 3 [b,d] h:=zB H
def zZ3(H :
 K .ret [(iI 1)] h):PI (zTa s) K 4 [] h:=zB H
def zZ2(H :
 K .ret [(iI 0)] h):PI (zTa s) K 5 [] h:=zB H
def zdV(aa:h.ok)(hv:zo v=true)(H:PI (zTa s) (KR E [.tmp 4] fun x k=>x=v/\h.qa<=k.wm) 0 [v0,v1] h.qb):(zV E).call 232 [v0,v1] h=some [(v,h)]:=zAz Tryz.f232 aa hv (zAD (zTa s) H)
def B264:Code:=zc Tryz.f264
def zmh(s:Bool):Cx:=⟨E,s,none,B264,[([0],[0]),([1,0],[1]),([1,1,0],[1,4])],[2],[]⟩
def zYa(H :
 Ev s (zW 173 h d) fun b=>
 PI (zmh s) K 1 [b.1] b.2):PI (zmh s) K 0 [d] h:=zB H
def zYZ(H :
 EvO (zH E 173 h d) fun e=>
 Ev s (zT (zV E) (some (.func (.func 280) #[] #[])) (some [e,(iI 2000),(iI 1)]) h) fun b=>
 EvO (zt 0 b.1) fun g=>
 EvO (zt 1 b.1) fun f=>
 PI (zmh s) K 2 [d,f] b.2):PI (zmh s) K 1 [d] h:=zB H
def zYY(H :
 EvO (gdB b true (zH E 173 h e)) fun f=>
 Ev s (gdW b true (zT (zV E) (some (.func (.func 281) #[] #[])) [f] h) h) fun d=>
 EvO (zAE b d.1 (some (.bool false))) fun g=>
 K .ret [g] d.2):PI (zmh s) K 2 [e,b] h:=zB H
def zTI{Rp:Value->Prop}(aa:h.ok)(H:PI (zmh true) (KR E [.tmp 2] fun x k=>(zg x=true/\Rp x)/\h.qa<=k.wm) 0 [v0] h.qb):∃ v,Rp v/\(zV E).call 264 [v0] h=some [(v,h)]:=zDW Tryz.f264 aa (zAD (zmh true) H)
def B231:Code:=zc Tryz.f231
def ziH(s:Bool):Cx:=⟨E,s,none,B231,[([0],[0]),([1,0,0],[1]),([1,0,1,0,0],[]),([1,1,0],[])],[2],[]⟩
def zaB(H :
 Ev s (zW 173 h d) fun b=>
 PI (ziH s) K 1 [b.1] b.2):PI (ziH s) K 0 [d] h:=zB H
def zaA(H :
 EvO (zH E 173 h d) fun e=>
 Ev s (zT (zV E) (some (.func (.func 264) #[] #[])) [e] h) fun b=>
 EvO (zAY .not b.1) fun f=>
 BrK f (PI (ziH s) K 2 [] b.2) (PI (ziH s) K 3 [] b.2)):PI (ziH s) K 1 [d] h:=zB H
def zZ9(H :
 K .ret [(iI 4)] h):PI (ziH s) K 2 [] h:=zB H
def zZ8(H :
 K .ret [(iI 0)] h):PI (ziH s) K 3 [] h:=zB H
def zTM{Rp:Value->Prop}(aa:h.ok)(H:PI (ziH true) (KR E [.tmp 2] fun x k=>(zg x=true/\Rp x)/\h.qa<=k.wm) 0 [v0] h.qb):∃ v,Rp v/\(zV E).call 231 [v0] h=some [(v,h)]:=zDW Tryz.f231 aa (zAD (ziH true) H)
def zsV:Code:=zc Tryz.f280
def zFX(s:Bool):Cx:=⟨E,s,none,zsV,[([0],[0,1,2]),([1,0],[1,2,3]),([1,1,0,0],[1,2,3]),([1,1,0,1,0,0],[1]),([1,1,1,0,0],[1,2,3]),([1,1,1,0,1,0,0,0,0],[1,2,3,8]),([1,1,1,0,1,0,0,1,0,0,0],[1,2,3,8]),([1,1,1,0,1,0,0,1,0,0,1,0],[2,3,8,9,10]),([1,1,1,0,1,0,0,1,0,0,1,1,0],[1,2,3,8,10]),([1,1,1,0,1,0,0,1,0,0,1,1,1,0,0],[1]),([1,1,1,0,1,0,0,1,1],[1,2,3,8]),([1,1,1,1,0],[1])],[6,7],[]⟩
abbrev zpG(s:Bool)(K:KF)(b:Value)(h:AH):Prop:=PI (zFX s) K 3 [b] h
abbrev zpF(s:Bool)(K:KF)(b d e:Value)(h:AH):Prop:=PI (zFX s) K 4 [b,d,e] h
abbrev zpE(s:Bool)(K:KF)(b d e f:Value)(h:AH):Prop:=PI (zFX s) K 5 [b,d,e,f] h
abbrev zpD(s:Bool)(K:KF)(b:Value)(h:AH):Prop:=PI (zFX s) K 9 [b] h
abbrev zl8(s:Bool)(K:KF)(b:Value)(h:AH):Prop:=PI (zFX s) K 11 [b] h
def zX9(H :
 Ev s (zW 173 h d) fun b=>
 PI (zFX s) K 1 [e,f,b.1] b.2):PI (zFX s) K 0 [d,e,f] h:=zB H
def zX8(H :
 EvO (zC E .sub 3 b (iI 1)) fun f=>
 PI (zFX s) K 2 [f,d,e] h):PI (zFX s) K 1 [b,d,e] h:=zB H
def zX7(H :
 EvO (zC E .lss 3 b (iI 0)) fun d=>
 EvO (gdB d false e) fun g=>
 EvO (gdB d false (zC E .gtr 3 g (iI 200))) fun i=>
 EvO (zAE d (some (.bool true)) i) fun j=>
 BrK j (PI (zFX s) K 3 [b] h) (PI (zFX s) K 4 [b,e,f] h)):PI (zFX s) K 2 [b,e,f] h:=zB H
def zX6(H :
 K .ret [b,(.bool false)] h):PI (zFX s) K 3 [b] h:=zB H
def zX5(H :
 PI (zFX s) K 5 [b,d,e,(iI 0)] h):PI (zFX s) K 4 [b,d,e] h:=zB H
def zMc(H :
 EvO (zD E 173 2 d) fun g=>
 EvO (zH E 34 h g) fun i=>
 EvO (zQ E (zk [(22,i)]) (zn zsV [1,1,1,0,1,0,0,0,0] 3) h) fun j=>
 EvO (zC E .lss 3 e j) fun k=>
 BrK k (PI (zFX s) K 6 [b,f,d,e] h) (PI (zFX s) K 11 [b] h)):PI (zFX s) K 5 [b,f,d,e] h:=zB H
def zJR:zQ E (zk [(22,.slice a n c)]) (zn zsV [1,1,1,0,1,0,0,0,0] 3) h=some (iI (n:Int)):=by cases a <;> kernel_rfl
def zX4(H :
 EvO (zD E 173 2 g) fun k=>
 EvO (zH E 34 h k) fun l=>
 EvO (zE E 34 l i) fun m=>
 EvO (zH E 173 h m) fun o=>
 EvO (zC E .add 3 f (iI 1)) fun p=>
 Ev s (zT (zV E) (some (.func (.func 280) #[] #[])) [o,j,p] h) fun e=>
 EvO (zt 0 e.1) fun b=>
 EvO (zt 1 e.1) fun d=>
 PI (zFX s) K 7 [f,g,i,b,d] e.2):PI (zFX s) K 6 [j,f,g,i] h:=zB H
def zX3(H :
 PI (zFX s) K 8 [g,d,e,f,b] h):PI (zFX s) K 7 [d,e,f,g,b] h:=zB H
def zX2(H :
 EvO (zAY .not b) fun i=>
 BrK i (PI (zFX s) K 9 [d] h) (PI (zFX s) K 10 [d,e,f,g] h)):PI (zFX s) K 8 [d,e,f,g,b] h:=zB H
def zX1(H :
 K .ret [b,(.bool false)] h):PI (zFX s) K 9 [b] h:=zB H
def zRl(H :
 EvO (zC E .add 3 f (iI 1)) fun g=>
 PI (zFX s) K 5 [b,d,e,g] h):PI (zFX s) K 10 [b,d,e,f] h:=zB H
def zRk(H :
 K .ret [b,(.bool true)] h):PI (zFX s) K 11 [b] h:=zB H
def zTH{Rp:Value->Prop}(aa:h.ok)(H:PI (zFX true) (KR E [.tmp 6,.tmp 7] fun x k=>(zg x=true/\Rp x)/\h.qa<=k.wm) 0 [v0,v1,v2] h.qb):∃ v,Rp v/\(zV E).call 280 [v0,v1,v2] h=some [(v,h)]:=zDW Tryz.f280 aa (zAD (zFX true) H)
def zmk:Code:=zc Tryz.f281
def zHI(s:Bool):Cx:=⟨E,s,none,zmk,[([0],[0]),([1,0,0],[1]),([1,0,1,0,0],[]),([1,1,0,0],[1]),([1,1,0,1,0,0,0,0],[1,3]),([1,1,0,1,0,0,1,0,0,0],[1,3]),([1,1,0,1,0,0,1,0,0,1,0,0],[]),([1,1,0,1,0,0,1,1],[1,3]),([1,1,1,0],[])],[2],[]⟩
abbrev zpC(s:Bool)(K:KF)(h:AH):Prop:=PI (zHI s) K 2 [] h
abbrev zpB(s:Bool)(K:KF)(b:Value)(h:AH):Prop:=PI (zHI s) K 3 [b] h
abbrev zpA(s:Bool)(K:KF)(b d:Value)(h:AH):Prop:=PI (zHI s) K 4 [b,d] h
abbrev zo9(s:Bool)(K:KF)(h:AH):Prop:=PI (zHI s) K 6 [] h
abbrev zo8(s:Bool)(K:KF)(h:AH):Prop:=PI (zHI s) K 8 [] h
def zX0(H :
 Ev s (zW 173 h d) fun b=>
 PI (zHI s) K 1 [b.1] b.2):PI (zHI s) K 0 [d] h:=zB H
def zXz(H :
 EvO (zD E 173 1 f) fun B=>
 EvO (zH E 3 h B) fun C=>
 EvO (zC E .lss 3 C (iI 0)) fun g=>
 EvO (gdB g false (zD E 173 0 f)) fun D=>
 EvO (gdB g false (zH E 3 h D)) fun F=>
 EvO (gdB g false (zC E .neq 3 F (iI 1))) fun G=>
 EvO (gdB g false G) fun i=>
 EvO (gdB i true (zD E 173 0 f)) fun J=>
 EvO (gdB i true (zH E 3 h J)) fun L=>
 EvO (gdB i true (zC E .neq 3 L (iI 2))) fun j=>
 EvO (gdB g false (zAE i j (some (.bool false)))) fun k=>
 EvO (zAE g (some (.bool true)) k) fun b=>
 EvO (gdB b false (zD E 173 0 f)) fun l=>
 EvO (gdB b false (zH E 3 h l)) fun m=>
 EvO (gdB b false (zC E .eql 3 m (iI 1))) fun o=>
 EvO (gdB b false o) fun d=>
 EvO (gdB d true (zD E 173 2 f)) fun p=>
 EvO (gdB d true (zH E 34 h p)) fun q=>
 EvO (gdB d true (zQ E (zk [(23,q)]) (zn zmk [1,0,0] 20) h)) fun r=>
 EvO (gdB d true (zC E .gtr 3 r (iI 0))) fun t=>
 EvO (gdB b false (zAE d t (some (.bool false)))) fun u=>
 EvO (zAE b (some (.bool true)) u) fun e=>
 EvO (gdB e false (zD E 173 2 f)) fun w=>
 EvO (gdB e false (zH E 34 h w)) fun x=>
 EvO (gdB e false (zQ E (zk [(30,x)]) (zn zmk [1,0,0] 27) h)) fun y=>
 EvO (gdB e false (zC E .gtr 3 y (iI 8))) fun z=>
 EvO (zAE e (some (.bool true)) z) fun A=>
 BrK A (PI (zHI s) K 2 [] h) (PI (zHI s) K 3 [f] h)):PI (zHI s) K 1 [f] h:=zB H
def zN6:zQ E (zk [(23,.slice a n c)]) (zn zmk [1,0,0] 20) h=some (iI (n:Int)):=by cases a <;> kernel_rfl
def zN5:zQ E (zk [(30,.slice a n c)]) (zn zmk [1,0,0] 27) h=some (iI (n:Int)):=by cases a <;> kernel_rfl
def zXy(H :
 K .ret [(.bool false)] h):PI (zHI s) K 2 [] h:=zB H
def zXx(H :
 PI (zHI s) K 4 [b,(iI 0)] h):PI (zHI s) K 3 [b] h:=zB H
def zMb(H :
 EvO (zD E 173 2 b) fun e=>
 EvO (zH E 34 h e) fun f=>
 EvO (zQ E (zk [(36,f)]) (zn zmk [1,1,0,1,0,0,0,0] 3) h) fun g=>
 EvO (zC E .lss 3 d g) fun i=>
 BrK i (PI (zHI s) K 5 [b,d] h) (PI (zHI s) K 8 [] h)):PI (zHI s) K 4 [b,d] h:=zB H
def zJQ:zQ E (zk [(36,.slice a n c)]) (zn zmk [1,1,0,1,0,0,0,0] 3) h=some (iI (n:Int)):=by cases a <;> kernel_rfl
def zXw(H :
 EvO (zD E 173 2 d) fun f=>
 EvO (zH E 34 h f) fun g=>
 EvO (zE E 34 g e) fun i=>
 EvO (zH E 173 h i) fun j=>
 Ev s (zT (zV E) (some (.func (.func 281) #[] #[])) [j] h) fun b=>
 EvO (zAY .not b.1) fun k=>
 BrK k (PI (zHI s) K 6 [] b.2) (PI (zHI s) K 7 [d,e] b.2)):PI (zHI s) K 5 [d,e] h:=zB H
def zXv(H :
 K .ret [(.bool false)] h):PI (zHI s) K 6 [] h:=zB H
def zXu(H :
 EvO (zC E .add 3 d (iI 1)) fun e=>
 PI (zHI s) K 4 [b,e] h):PI (zHI s) K 7 [b,d] h:=zB H
def zXt(H :
 K .ret [(.bool true)] h):PI (zHI s) K 8 [] h:=zB H
def zTG{Rp:Value->Prop}(aa:h.ok)(H:PI (zHI true) (KR E [.tmp 2] fun x k=>(zg x=true/\Rp x)/\h.qa<=k.wm) 0 [v0] h.qb):∃ v,Rp v/\(zV E).call 281 [v0] h=some [(v,h)]:=zDW Tryz.f281 aa (zAD (zHI true) H)
def B187:Code:=zc Tryz.f187
def zqN(s:Bool):Cx:=⟨E,s,none,B187,[([0],[0]),([1,0],[1])],[2],[]⟩
def zbH(H :
 Ev s (zW 173 h d) fun b=>
 PI (zqN s) K 1 [b.1] b.2):PI (zqN s) K 0 [d] h:=zB H
def zbG(H :
 EvO (zH E 173 h d) fun f=>
 Ev s (zT (zV E) (some (.func (.func 230) #[] #[])) [f] h) fun b=>
 EvO (gdB b.1 true (zH E 173 b.2 d)) fun g=>
 Ev s (gdW b.1 true (zT (zV E) (some (.func (.func 231) #[] #[])) [g] b.2) b.2) fun e=>
 EvO (gdB b.1 true (zC E .eql 29 e.1 (iI 0))) fun i=>
 EvO (zAE b.1 i (some (.bool false))) fun j=>
 K .ret [j] e.2):PI (zqN s) K 1 [d] h:=zB H
def zTS{Rp:Value->Prop}(aa:h.ok)(H:PI (zqN true) (KR E [.tmp 2] fun x k=>(zg x=true/\Rp x)/\h.qa<=k.wm) 0 [v0] h.qb):∃ v,Rp v/\(zV E).call 187 [v0] h=some [(v,h)]:=zDW Tryz.f187 aa (zAD (zqN true) H)
def zqe:Code:=zc Tryz.f230
def zGt(s:Bool):Cx:=⟨E,s,none,zqe,[([0],[0]),([1,0,0],[1]),([1,0,1,0,0],[]),([1,1,0,0],[1]),([1,1,0,1,0,0,0,0],[1,3]),([1,1,0,1,0,0,1,0,0,0],[1,3]),([1,1,0,1,0,0,1,0,0,1,0],[1,3,4]),([1,1,0,1,0,0,1,0,0,1,1,0,0],[]),([1,1,0,1,0,0,1,1],[1,3]),([1,1,1,0],[])],[2],[]⟩
abbrev zpf(s:Bool)(K:KF)(h:AH):Prop:=PI (zGt s) K 2 [] h
abbrev zpe(s:Bool)(K:KF)(b:Value)(h:AH):Prop:=PI (zGt s) K 3 [b] h
abbrev zpd(s:Bool)(K:KF)(b d:Value)(h:AH):Prop:=PI (zGt s) K 4 [b,d] h
abbrev zpc(s:Bool)(K:KF)(h:AH):Prop:=PI (zGt s) K 7 [] h
abbrev zpb(s:Bool)(K:KF)(h:AH):Prop:=PI (zGt s) K 9 [] h
def zaK(H :
 Ev s (zW 173 h d) fun b=>
 PI (zGt s) K 1 [b.1] b.2):PI (zGt s) K 0 [d] h:=zB H
def zaJ(H :
 EvO (zD E 173 0 d) fun p=>
 EvO (zH E 3 h p) fun q=>
 EvO (zC E .neq 3 q (iI 2)) fun e=>
 EvO (gdB e false (zD E 173 1 d)) fun r=>
 EvO (gdB e false (zH E 3 h r)) fun t=>
 EvO (gdB e false (zC E .lss 3 t (iI 0))) fun u=>
 EvO (zAE e (some (.bool true)) u) fun f=>
 EvO (gdB f false (zD E 173 1 d)) fun w=>
 EvO (gdB f false (zH E 3 h w)) fun g=>
 EvO (gdB f false (zC E .gtr 3 g (iI 255))) fun i=>
 EvO (zAE f (some (.bool true)) i) fun b=>
 EvO (gdB b false (zD E 173 2 d)) fun j=>
 EvO (gdB b false (zH E 34 h j)) fun k=>
 EvO (gdB b false (zQ E (zk [(20,k)]) (zn zqe [1,0,0] 16) h)) fun l=>
 EvO (gdB b false (zC E .gtr 3 l (iI 8))) fun m=>
 EvO (zAE b (some (.bool true)) m) fun o=>
 BrK o (PI (zGt s) K 2 [] h) (PI (zGt s) K 3 [d] h)):PI (zGt s) K 1 [d] h:=zB H
def zN9:zQ E (zk [(20,.slice a n c)]) (zn zqe [1,0,0] 16) h=some (iI (n:Int)):=by cases a <;> kernel_rfl
def zaI(H :
 K .ret [(.bool false)] h):PI (zGt s) K 2 [] h:=zB H
def zaH(H :
 PI (zGt s) K 4 [b,(iI 0)] h):PI (zGt s) K 3 [b] h:=zB H
def zMu(H :
 EvO (zD E 173 2 b) fun e=>
 EvO (zH E 34 h e) fun f=>
 EvO (zQ E (zk [(26,f)]) (zn zqe [1,1,0,1,0,0,0,0] 3) h) fun g=>
 EvO (zC E .lss 3 d g) fun i=>
 BrK i (PI (zGt s) K 5 [b,d] h) (PI (zGt s) K 9 [] h)):PI (zGt s) K 4 [b,d] h:=zB H
def zJT:zQ E (zk [(26,.slice a n c)]) (zn zqe [1,1,0,1,0,0,0,0] 3) h=some (iI (n:Int)):=by cases a <;> kernel_rfl
def zaG(H :
 EvO (zD E 173 2 b) fun f=>
 EvO (zH E 34 h f) fun g=>
 EvO (zE E 34 g d) fun i=>
 EvO (zH E 173 h i) fun j=>
 Ev s (zT (zV E) (some (.func (.func 230) #[] #[])) [j] h) fun e=>
 PI (zGt s) K 6 [b,d,e.1] e.2):PI (zGt s) K 5 [b,d] h:=zB H
def zaF(H :
 EvO (zAY .not e) fun f=>
 BrK f (PI (zGt s) K 7 [] h) (PI (zGt s) K 8 [b,d] h)):PI (zGt s) K 6 [b,d,e] h:=zB H
def zaE(H :
 K .ret [(.bool false)] h):PI (zGt s) K 7 [] h:=zB H
def zaD(H :
 EvO (zC E .add 3 d (iI 1)) fun e=>
 PI (zGt s) K 4 [b,e] h):PI (zGt s) K 8 [b,d] h:=zB H
def zaC(H :
 K .ret [(.bool true)] h):PI (zGt s) K 9 [] h:=zB H
def zTN{Rp:Value->Prop}(aa:h.ok)(H:PI (zGt true) (KR E [.tmp 2] fun x k=>(zg x=true/\Rp x)/\h.qa<=k.wm) 0 [v0] h.qb):∃ v,Rp v/\(zV E).call 230 [v0] h=some [(v,h)]:=zDW Tryz.f230 aa (zAD (zGt true) H)
def zmn:Code:=zc Tryz.f138
def zE5(s:Bool):Cx:=⟨E,s,none,zmn,[([0],[0]),([1,0,0],[1]),([1,0,1,0,0],[]),([1,1,0,0],[1]),([1,1,0,1,0,0],[]),([1,1,1,0,0],[1]),([1,1,1,0,1,0,0,0,0],[1,3]),([1,1,1,0,1,0,0,1,0,0,0],[1,3]),([1,1,1,0,1,0,0,1,0,0,1,0],[1,3,4]),([1,1,1,0,1,0,0,1,0,0,1,1,0,0],[]),([1,1,1,0,1,0,0,1,1],[1,3]),([1,1,1,1,0],[])],[2],[]⟩
abbrev zp5(s:Bool)(K:KF)(h:AH):Prop:=PI (zE5 s) K 2 [] h
abbrev zp4(s:Bool)(K:KF)(b:Value)(h:AH):Prop:=PI (zE5 s) K 3 [b] h
abbrev zp3(s:Bool)(K:KF)(h:AH):Prop:=PI (zE5 s) K 4 [] h
abbrev zp2(s:Bool)(K:KF)(b:Value)(h:AH):Prop:=PI (zE5 s) K 5 [b] h
abbrev zp1(s:Bool)(K:KF)(b d:Value)(h:AH):Prop:=PI (zE5 s) K 6 [b,d] h
abbrev zp0(s:Bool)(K:KF)(h:AH):Prop:=PI (zE5 s) K 9 [] h
abbrev zmM(s:Bool)(K:KF)(h:AH):Prop:=PI (zE5 s) K 11 [] h
def zca(H :
 Ev s (zW 36 h d) fun b=>
 PI (zE5 s) K 1 [b.1] b.2):PI (zE5 s) K 0 [d] h:=zB H
def zcZ(H :
 EvO (zD E 36 0 d) fun k=>
 EvO (zH E 3 h k) fun l=>
 EvO (zC E .lss 3 l (iI (-3))) fun e=>
 EvO (gdB e false (zD E 36 0 d)) fun m=>
 EvO (gdB e false (zH E 3 h m)) fun o=>
 EvO (gdB e false (zC E .gtr 3 o (iI 31))) fun p=>
 EvO (zAE e (some (.bool true)) p) fun b=>
 EvO (gdB b false (zD E 36 1 d)) fun q=>
 EvO (gdB b false (zH E 34 h q)) fun f=>
 EvO (gdB b false (zQ E (zk [(15,f)]) (zn zmn [1,0,0] 11) h)) fun g=>
 EvO (gdB b false (zC E .gtr 3 g (iI 8))) fun i=>
 EvO (zAE b (some (.bool true)) i) fun j=>
 BrK j (PI (zE5 s) K 2 [] h) (PI (zE5 s) K 3 [d] h)):PI (zE5 s) K 1 [d] h:=zB H
def zOD:zQ E (zk [(15,.slice a n c)]) (zn zmn [1,0,0] 11) h=some (iI (n:Int)):=by cases a <;> kernel_rfl
def zcY(H :
 K .ret [(.bool false)] h):PI (zE5 s) K 2 [] h:=zB H
def zcX(H :
 EvO (zD E 36 0 d) fun k=>
 EvO (zH E 3 h k) fun l=>
 EvO (zC E .eql 3 l (iI (-3))) fun e=>
 EvO (gdB e false (zD E 36 0 d)) fun m=>
 EvO (gdB e false (zH E 3 h m)) fun o=>
 EvO (gdB e false (zC E .eql 3 o (iI (-1)))) fun p=>
 EvO (zAE e (some (.bool true)) p) fun b=>
 EvO (gdB b true (zD E 36 1 d)) fun q=>
 EvO (gdB b true (zH E 34 h q)) fun f=>
 EvO (gdB b true (zQ E (zk [(29,f)]) (zn zmn [1,1,0,0] 11) h)) fun g=>
 EvO (gdB b true (zC E .gtr 3 g (iI 0))) fun i=>
 EvO (zAE b i (some (.bool false))) fun j=>
 BrK j (PI (zE5 s) K 4 [] h) (PI (zE5 s) K 5 [d] h)):PI (zE5 s) K 3 [d] h:=zB H
def zOC:zQ E (zk [(29,.slice a n c)]) (zn zmn [1,1,0,0] 11) h=some (iI (n:Int)):=by cases a <;> kernel_rfl
def zcW(H :
 K .ret [(.bool false)] h):PI (zE5 s) K 4 [] h:=zB H
def zcV(H :
 PI (zE5 s) K 6 [b,(iI 0)] h):PI (zE5 s) K 5 [b] h:=zB H
def zNO(H :
 EvO (zD E 36 1 b) fun e=>
 EvO (zH E 34 h e) fun f=>
 EvO (zQ E (zk [(35,f)]) (zn zmn [1,1,1,0,1,0,0,0,0] 3) h) fun g=>
 EvO (zC E .lss 3 d g) fun i=>
 BrK i (PI (zE5 s) K 7 [b,d] h) (PI (zE5 s) K 11 [] h)):PI (zE5 s) K 6 [b,d] h:=zB H
def zJa:zQ E (zk [(35,.slice a n c)]) (zn zmn [1,1,1,0,1,0,0,0,0] 3) h=some (iI (n:Int)):=by cases a <;> kernel_rfl
def zcU(H :
 EvO (zD E 36 1 b) fun f=>
 EvO (zH E 34 h f) fun g=>
 EvO (zE E 34 g d) fun i=>
 EvO (zH E 173 h i) fun j=>
 Ev s (zT (zV E) (some (.func (.func 187) #[] #[])) [j] h) fun e=>
 PI (zE5 s) K 8 [b,d,e.1] e.2):PI (zE5 s) K 7 [b,d] h:=zB H
def zcT(H :
 EvO (zAY .not e) fun f=>
 BrK f (PI (zE5 s) K 9 [] h) (PI (zE5 s) K 10 [b,d] h)):PI (zE5 s) K 8 [b,d,e] h:=zB H
def zcS(H :
 K .ret [(.bool false)] h):PI (zE5 s) K 9 [] h:=zB H
def zSt(H :
 EvO (zC E .add 3 d (iI 1)) fun e=>
 PI (zE5 s) K 6 [b,e] h):PI (zE5 s) K 10 [b,d] h:=zB H
def zSs(H :
 K .ret [(.bool true)] h):PI (zE5 s) K 11 [] h:=zB H
def zTW{Rp:Value->Prop}(aa:h.ok)(H:PI (zE5 true) (KR E [.tmp 2] fun x k=>(zg x=true/\Rp x)/\h.qa<=k.wm) 0 [v0] h.qb):∃ v,Rp v/\(zV E).call 138 [v0] h=some [(v,h)]:=zDW Tryz.f138 aa (zAD (zE5 true) H)
def B139:Code:=zc Tryz.f139
def zTc(s:Bool):Cx:=⟨E,s,none,B139,[([0],[0,1]),([1,0,0],[2,3]),([1,0,1,0,0],[2,3]),([1,1,0,0],[2,3]),([1,1,0,1,0,0],[2,3]),([1,1,1,0],[2,3])],[4],[]⟩
def zcR(H :
 Ev s (zW 52 h e) fun b=>
 Ev s (zW 52 b.2 f) fun d=>
 PI (zTc s) K 1 [b.1,d.1] d.2):PI (zTc s) K 0 [e,f] h:=zB H
def zcQ(H :
 EvO (zD E 52 0 b) fun e=>
 EvO (zH E 3 h e) fun f=>
 EvO (zD E 52 0 d) fun g=>
 EvO (zH E 3 h g) fun i=>
 EvO (zC E .neq 3 f i) fun j=>
 BrK j (PI (zTc s) K 2 [b,d] h) (PI (zTc s) K 3 [b,d] h)):PI (zTc s) K 1 [b,d] h:=zB H
def zcP(H :
 EvO (zD E 52 0 b) fun e=>
 EvO (zH E 3 h e) fun f=>
 EvO (zD E 52 0 d) fun g=>
 EvO (zH E 3 h g) fun i=>
 EvO (zC E .lss 3 f i) fun j=>
 K .ret [j] h):PI (zTc s) K 2 [b,d] h:=zB H
def zcO(H :
 EvO (zD E 52 1 b) fun e=>
 EvO (zH E 3 h e) fun f=>
 EvO (zD E 52 1 d) fun g=>
 EvO (zH E 3 h g) fun i=>
 EvO (zC E .neq 3 f i) fun j=>
 BrK j (PI (zTc s) K 4 [b,d] h) (PI (zTc s) K 5 [b,d] h)):PI (zTc s) K 3 [b,d] h:=zB H
def zcN(H :
 EvO (zD E 52 1 b) fun e=>
 EvO (zH E 3 h e) fun f=>
 EvO (zD E 52 1 d) fun g=>
 EvO (zH E 3 h g) fun i=>
 EvO (zC E .lss 3 f i) fun j=>
 K .ret [j] h):PI (zTc s) K 4 [b,d] h:=zB H
def zcM(H :
 EvO (zD E 52 2 b) fun e=>
 EvO (zH E 3 h e) fun f=>
 EvO (zD E 52 2 d) fun g=>
 EvO (zH E 3 h g) fun i=>
 EvO (zC E .lss 3 f i) fun j=>
 K .ret [j] h):PI (zTc s) K 5 [b,d] h:=zB H
def zdx(aa:h.ok)(hv:zo v=true)(H:PI (zTc s) (KR E [.tmp 4] fun x k=>x=v/\h.qa<=k.wm) 0 [v0,v1] h.qb):(zV E).call 139 [v0,v1] h=some [(v,h)]:=zAz Tryz.f139 aa hv (zAD (zTc s) H)
def B85:Code:=zc Tryz.f85
def C85(s:Bool):Cx:=⟨E,s,none,B85,[([0],[0]),([1,0,0],[1]),([1,0,1,0,0],[]),([1,1,0,0],[1]),([1,1,0,1,0,0,0,0],[1,3]),([1,1,0,1,0,0,1,0,0,0],[1,3]),([1,1,0,1,0,0,1,0,0,1,0,0],[1,3,4]),([1,1,0,1,0,0,1,0,0,1,0,1,0,0],[]),([1,1,0,1,0,0,1,0,0,1,1,0],[1,3]),([1,1,0,1,0,0,1,0,0,1,1,1,0,0],[]),([1,1,0,1,0,0,1,1],[1,3]),([1,1,1,0,0],[1]),([1,1,1,0,1,0,0,0,0],[1,5]),([1,1,1,0,1,0,0,1,0,0,0],[1,5]),([1,1,1,0,1,0,0,1,0,0,1,0,0],[1,5,6]),([1,1,1,0,1,0,0,1,0,0,1,0,1,0,0],[]),([1,1,1,0,1,0,0,1,0,0,1,1,0],[1,5,6]),([1,1,1,0,1,0,0,1,0,0,1,1,1,0,0],[]),([1,1,1,0,1,0,0,1,1],[1,5]),([1,1,1,1,0],[])],[2],[]⟩
abbrev zsG(s:Bool)(K:KF)(h:AH):Prop:=PI (C85 s) K 2 [] h
abbrev zsF(s:Bool)(K:KF)(b:Value)(h:AH):Prop:=PI (C85 s) K 3 [b] h
abbrev zsE(s:Bool)(K:KF)(b d:Value)(h:AH):Prop:=PI (C85 s) K 4 [b,d] h
abbrev zsD(s:Bool)(K:KF)(h:AH):Prop:=PI (C85 s) K 7 [] h
abbrev zsC(s:Bool)(K:KF)(h:AH):Prop:=PI (C85 s) K 9 [] h
abbrev zo4(s:Bool)(K:KF)(b d:Value)(h:AH):Prop:=PI (C85 s) K 10 [b,d] h
abbrev zo3(s:Bool)(K:KF)(b d:Value)(h:AH):Prop:=PI (C85 s) K 12 [b,d] h
abbrev zo2(s:Bool)(K:KF)(h:AH):Prop:=PI (C85 s) K 15 [] h
abbrev zo1(s:Bool)(K:KF)(b d e:Value)(h:AH):Prop:=PI (C85 s) K 16 [b,d,e] h
abbrev zo0(s:Bool)(K:KF)(b d:Value)(h:AH):Prop:=PI (C85 s) K 18 [b,d] h
def zf9(H :
 Ev s (zW 25 h d) fun b=>
 PI (C85 s) K 1 [b.1] b.2):PI (C85 s) K 0 [d] h:=zB H
def zf8(H :
 EvO (zD E 25 0 d) fun q=>
 EvO (zH E 3 h q) fun r=>
 EvO (zC E .lss 3 r (iI 1)) fun f=>
 EvO (gdB f false (zD E 25 0 d)) fun t=>
 EvO (gdB f false (zH E 3 h t)) fun u=>
 EvO (gdB f false (zC E .gtr 3 u (iI 20000))) fun w=>
 EvO (zAE f (some (.bool true)) w) fun e=>
 EvO (gdB e false (zD E 25 1 d)) fun x=>
 EvO (gdB e false (zH E 22 h x)) fun g=>
 EvO (gdB e false (zQ E (zk [(17,g)]) (zn B85 [1,0,0] 11) h)) fun i=>
 EvO (gdB e false (zC E .gtr 3 i (iI 4000))) fun j=>
 EvO (zAE e (some (.bool true)) j) fun b=>
 EvO (gdB b false (zD E 25 2 d)) fun k=>
 EvO (gdB b false (zH E 23 h k)) fun l=>
 EvO (gdB b false (zQ E (zk [(23,l)]) (zn B85 [1,0,0] 17) h)) fun m=>
 EvO (gdB b false (zC E .gtr 3 m (iI 100000))) fun o=>
 EvO (zAE b (some (.bool true)) o) fun p=>
 BrK p (PI (C85 s) K 2 [] h) (PI (C85 s) K 3 [d] h)):PI (C85 s) K 1 [d] h:=zB H
def zQ9:zQ E (zk [(17,.slice a n c)]) (zn B85 [1,0,0] 11) h=some (iI (n:Int)):=by cases a <;> kernel_rfl
def zQ8:zQ E (zk [(23,.slice a n c)]) (zn B85 [1,0,0] 17) h=some (iI (n:Int)):=by cases a <;> kernel_rfl
def zf7(H :
 K .ret [(.bool false)] h):PI (C85 s) K 2 [] h:=zB H
def zf6(H :
 PI (C85 s) K 4 [b,(iI 0)] h):PI (C85 s) K 3 [b] h:=zB H
def zQO(H :
 EvO (zD E 25 1 b) fun e=>
 EvO (zH E 22 h e) fun f=>
 EvO (zQ E (zk [(29,f)]) (zn B85 [1,1,0,1,0,0,0,0] 3) h) fun g=>
 EvO (zC E .lss 3 d g) fun i=>
 BrK i (PI (C85 s) K 5 [b,d] h) (PI (C85 s) K 11 [b] h)):PI (C85 s) K 4 [b,d] h:=zB H
def zLq:zQ E (zk [(29,.slice a n c)]) (zn B85 [1,1,0,1,0,0,0,0] 3) h=some (iI (n:Int)):=by cases a <;> kernel_rfl
def zf5(H :
 EvO (zD E 25 1 b) fun f=>
 EvO (zH E 22 h f) fun g=>
 EvO (zE E 22 g d) fun i=>
 EvO (zH E 36 h i) fun j=>
 Ev s (zT (zV E) (some (.func (.func 138) #[] #[])) [j] h) fun e=>
 PI (C85 s) K 6 [b,d,e.1] e.2):PI (C85 s) K 5 [b,d] h:=zB H
def zf4(H :
 EvO (zAY .not e) fun f=>
 BrK f (PI (C85 s) K 7 [] h) (PI (C85 s) K 8 [b,d] h)):PI (C85 s) K 6 [b,d,e] h:=zB H
def zf3(H :
 K .ret [(.bool false)] h):PI (C85 s) K 7 [] h:=zB H
def zf2(H :
 EvO (zC E .gtr 3 e (iI 0)) fun b=>
 EvO (gdB b true (zD E 25 1 f)) fun o=>
 EvO (gdB b true (zH E 22 h o)) fun p=>
 EvO (gdB b true e) fun q=>
 EvO (gdB b true (zC E .sub 3 q (iI 1))) fun r=>
 EvO (gdB b true (zE E 22 p r)) fun t=>
 EvO (gdB b true (zH E 36 h t)) fun u=>
 EvO (gdB b true (zD E 25 1 f)) fun w=>
 EvO (gdB b true (zH E 22 h w)) fun g=>
 EvO (gdB b true e) fun i=>
 EvO (gdB b true (zE E 22 g i)) fun j=>
 EvO (gdB b true (zH E 36 h j)) fun k=>
 Ev s (gdW b true (zT (zV E) (some (.func (.func 88) #[] #[])) [u,k] h) h) fun d=>
 EvO (gdB b true (zC E .geq 3 d.1 (iI 0))) fun l=>
 EvO (zAE b l (some (.bool false))) fun m=>
 BrK m (PI (C85 s) K 9 [] d.2) (PI (C85 s) K 10 [f,e] d.2)):PI (C85 s) K 8 [f,e] h:=zB H
def zf1(H :
 K .ret [(.bool false)] h):PI (C85 s) K 9 [] h:=zB H
def zXD(H :
 EvO (zC E .add 3 d (iI 1)) fun e=>
 PI (C85 s) K 4 [b,e] h):PI (C85 s) K 10 [b,d] h:=zB H
def zXC(H :
 PI (C85 s) K 12 [b,(iI 0)] h):PI (C85 s) K 11 [b] h:=zB H
def zMU(H :
 EvO (zD E 25 2 b) fun e=>
 EvO (zH E 23 h e) fun f=>
 EvO (zQ E (zk [(61,f)]) (zn B85 [1,1,1,0,1,0,0,0,0] 3) h) fun g=>
 EvO (zC E .lss 3 d g) fun i=>
 BrK i (PI (C85 s) K 13 [b,d] h) (PI (C85 s) K 19 [] h)):PI (C85 s) K 12 [b,d] h:=zB H
def zJP:zQ E (zk [(61,.slice a n c)]) (zn B85 [1,1,1,0,1,0,0,0,0] 3) h=some (iI (n:Int)):=by cases a <;> kernel_rfl
def zXB(H :
 EvO (zD E 25 2 d) fun f=>
 EvO (zH E 23 h f) fun g=>
 EvO (zE E 23 g e) fun i=>
 EvO (zH E 52 h i) fun j=>
 Ev s (zW 52 h (zAL E 52)) fun b=>
 Ev s (zb E 52 b.2 b.1 j) fun k=>
 PI (C85 s) K 14 [d,e,b.1] k.2):PI (C85 s) K 13 [d,e] h:=zB H
def zXA(H :
 EvO (zD E 52 0 f) fun J=>
 EvO (zH E 3 h J) fun L=>
 EvO (zC E .lss 3 L (iI 0)) fun g=>
 EvO (gdB g false (zD E 52 0 f)) fun M=>
 EvO (gdB g false (zH E 3 h M)) fun N=>
 EvO (gdB g false (zD E 25 0 i)) fun O=>
 EvO (gdB g false (zH E 3 h O)) fun Q=>
 EvO (gdB g false (zC E .geq 3 N Q)) fun S=>
 EvO (zAE g (some (.bool true)) S) fun j=>
 EvO (gdB j false (zD E 52 2 f)) fun k=>
 EvO (gdB j false (zH E 3 h k)) fun l=>
 EvO (gdB j false (zC E .lss 3 l (iI 0))) fun m=>
 EvO (zAE j (some (.bool true)) m) fun d=>
 EvO (gdB d false (zD E 52 2 f)) fun o=>
 EvO (gdB d false (zH E 3 h o)) fun p=>
 EvO (gdB d false (zD E 25 0 i)) fun q=>
 EvO (gdB d false (zH E 3 h q)) fun r=>
 EvO (gdB d false (zC E .geq 3 p r)) fun t=>
 EvO (zAE d (some (.bool true)) t) fun e=>
 EvO (gdB e false (zD E 52 1 f)) fun u=>
 EvO (gdB e false (zH E 3 h u)) fun w=>
 EvO (gdB e false (zC E .lss 3 w (iI 0))) fun x=>
 EvO (zAE e (some (.bool true)) x) fun b=>
 EvO (gdB b false (zD E 52 1 f)) fun y=>
 EvO (gdB b false (zH E 3 h y)) fun z=>
 EvO (gdB b false (zD E 25 1 i)) fun A=>
 EvO (gdB b false (zH E 22 h A)) fun B=>
 EvO (gdB b false (zQ E (zk [(102,B)]) (zn B85 [1,1,1,0,1,0,0,1,0,0,1,0,0] 32) h)) fun C=>
 EvO (gdB b false (zC E .geq 3 z C)) fun D=>
 EvO (zAE b (some (.bool true)) D) fun F=>
 BrK F (PI (C85 s) K 15 [] h) (PI (C85 s) K 16 [i,G,f] h)):PI (C85 s) K 14 [i,G,f] h:=zB H
def zN4:zQ E (zk [(102,.slice a n c)]) (zn B85 [1,1,1,0,1,0,0,1,0,0,1,0,0] 32) h=some (iI (n:Int)):=by cases a <;> kernel_rfl
def zW9(H :
 K .ret [(.bool false)] h):PI (C85 s) K 15 [] h:=zB H
def zW8(H :
 EvO (zC E .gtr 3 e (iI 0)) fun b=>
 EvO (gdB b true (zD E 25 2 i)) fun k=>
 EvO (gdB b true (zH E 23 h k)) fun l=>
 EvO (gdB b true e) fun m=>
 EvO (gdB b true (zC E .sub 3 m (iI 1))) fun o=>
 EvO (gdB b true (zE E 23 l o)) fun p=>
 EvO (gdB b true (zH E 52 h p)) fun q=>
 EvO (gdB b true (zH E 52 h j)) fun r=>
 Ev s (gdW b true (zT (zV E) (some (.func (.func 139) #[] #[])) [q,r] h) h) fun d=>
 EvO (gdB b true (zAY .not d.1)) fun f=>
 EvO (zAE b f (some (.bool false))) fun g=>
 BrK g (PI (C85 s) K 17 [] d.2) (PI (C85 s) K 18 [i,e] d.2)):PI (C85 s) K 16 [i,e,j] h:=zB H
def zW7(H :
 K .ret [(.bool false)] h):PI (C85 s) K 17 [] h:=zB H
def zW6(H :
 EvO (zC E .add 3 d (iI 1)) fun e=>
 PI (C85 s) K 12 [b,e] h):PI (C85 s) K 18 [b,d] h:=zB H
def zW5(H :
 K .ret [(.bool true)] h):PI (C85 s) K 19 [] h:=zB H
def zdA{Rp:Value->Prop}(aa:h.ok)(H:PI (C85 true) (KR E [.tmp 2] fun x k=>(zg x=true/\Rp x)/\h.qa<=k.wm) 0 [v0] h.qb):∃ v,Rp v/\(zV E).call 85 [v0] h=some [(v,h)]:=zDW Tryz.f85 aa (zAD (C85 true) H)
def B23:Code:=zc Tryz.f23
def C23(s:Bool):Cx:=⟨E,s,none,B23,[([0],[0]),([1,0],[1]),([1,1,0,0],[3]),([1,1,0,1,0,0],[]),([1,1,1,0],[])],[2],[]⟩
def zg4(H :
 Ev s (zW 25 h d) fun b=>
 PI (C23 s) K 1 [b.1] b.2):PI (C23 s) K 0 [d] h:=zB H
def zg3(H :
 EvO (zH E 25 h d) fun e=>
 Ev s (zT (zV E) (some (.func (.func 85) #[] #[])) [e] h) fun b=>
 PI (C23 s) K 2 [b.1] b.2):PI (C23 s) K 1 [d] h:=zB H
def zg2(H :
 EvO (zAY .not b) fun d=>
 BrK d (PI (C23 s) K 3 [] h) (PI (C23 s) K 4 [] h)):PI (C23 s) K 2 [b] h:=zB H
def zg1(H :
 K .ret [(iI 8)] h):PI (C23 s) K 3 [] h:=zB H
def zg0(H :
 K .ret [(iI 0)] h):PI (C23 s) K 4 [] h:=zB H
def zdU{Rp:Value->Prop}(aa:h.ok)(H:PI (C23 true) (KR E [.tmp 2] fun x k=>(zg x=true/\Rp x)/\h.qa<=k.wm) 0 [v0] h.qb):∃ v,Rp v/\(zV E).call 23 [v0] h=some [(v,h)]:=zDW Tryz.f23 aa (zAD (C23 true) H)
def B27:Code:=zc Tryz.f27
def C27(s:Bool):Cx:=⟨E,s,none,B27,[([0],[0,1]),([1,0],[0,1])],[4],[]⟩
def zgz(H :
 PI (C27 s) K 1 [b,d] h):PI (C27 s) K 0 [b,d] h:=zB H
def zgy(H :
 Ev s (zT (zV E) (some (.func (.func 87) #[] #[])) [d,e] h) fun b=>
 EvO (zC E .geq 3 b.1 (iI 0)) fun f=>
 K .ret [f] b.2):PI (C27 s) K 1 [d,e] h:=zB H
def zhZ(aa:h.ok)(hv:zo v=true)(H:PI (C27 s) (KR E [.tmp 4] fun x k=>x=v/\h.qa<=k.wm) 0 [v0,v1] h.qb):(zV E).call 27 [v0,v1] h=some [(v,h)]:=zAz Tryz.f27 aa hv (zAD (C27 s) H)
def B87:Code:=zc Tryz.f87
def C87(s:Bool):Cx:=⟨E,s,none,B87,[([0],[0,1]),([1,0,0],[0,1]),([1,0,1,0,0,0],[0,1,7,8]),([1,0,1,0,0,1,1,0,0,0],[0,1,7,8]),([1,0,1,0,0,1,1,0,0,1,0],[0,1,5,7,8]),([1,0,1,0,0,1,1,0,0,1,1,0,0],[5]),([1,0,1,0,0,1,1,1],[0,1,7,8]),([1,1,0],[])],[4],[]⟩
abbrev zsB(s:Bool)(K:KF)(b d e f:Value)(h:AH):Prop:=PI (C87 s) K 2 [b,d,e,f] h
def zf0(H :
 PI (C87 s) K 1 [b,d] h):PI (C87 s) K 0 [b,d] h:=zB H
def zfz(H :
 EvO (zQ E (zk [(6,b)]) (zn B87 [1,0,0] 1) h) fun e=>
 PI (C87 s) K 2 [b,d,e,(iI 0)] h):PI (C87 s) K 1 [b,d] h:=zB H
def zU2:zQ E (zk [(6,.slice a n c)]) (zn B87 [1,0,0] 1) h=some (iI (n:Int)):=by cases a <;> kernel_rfl
def zQN(H :
 EvO (zC E .lss 3 d b) fun g=>
 BrK g (PI (C87 s) K 3 [e,f,b,d] h) (PI (C87 s) K 7 [] h)):PI (C87 s) K 2 [e,f,b,d] h:=zB H
def zfy(H :
 PI (C87 s) K 4 [d,e,b,f,b] h):PI (C87 s) K 3 [d,e,f,b] h:=zB H
def zfx(H :
 EvO (zE E 47 b e) fun i=>
 EvO (zH E 3 h i) fun j=>
 EvO (zC E .eql 3 d j) fun k=>
 BrK k (PI (C87 s) K 5 [e] h) (PI (C87 s) K 6 [b,d,f,g] h)):PI (C87 s) K 4 [b,d,e,f,g] h:=zB H
def zfw(H :
 K .ret [b] h):PI (C87 s) K 5 [b] h:=zB H
def zfv(H :
 EvO (zC E .add 3 f (iI 1)) fun g=>
 PI (C87 s) K 2 [b,d,e,g] h):PI (C87 s) K 6 [b,d,e,f] h:=zB H
def zfu(H :
 K .ret [(iI (-1))] h):PI (C87 s) K 7 [] h:=zB H
def zhS(aa:h.ok)(hv:zo v=true)(H:PI (C87 s) (KR E [.tmp 4] fun x k=>x=v/\h.qa<=k.wm) 0 [v0,v1] h.qb):(zV E).call 87 [v0,v1] h=some [(v,h)]:=zAz Tryz.f87 aa hv (zAD (C87 s) H)
end Go.Proofs
namespace Go.Proofs
open Go Go.AM
def znC:zAg E 253=some 1:=by kernel_rfl
def znL:tAS E 253=some (false,1):=by kernel_rfl
def zqz:zAL E 253=some (.int .u64 0):=by kernel_rfl
variable {s:Bool} {K:KF} {h:AH} {a:Option Addr} {n c:Nat} {b d e f g i j k l m o p q r t u w x y z A B C D F G J L M N O Q S U V W X Y Z v v0 v1 v2 v3 v4 v5 v8 v9 v10 v11 v12 v13 v14 v15 v16 v17 v18 v19 v20 v55:Value} {h1:AH} {Rp:Value->AH->Prop}
def zmx:Code:=zc Tryz.f193
def zqM(s:Bool):Cx:=⟨E,s,none,zmx,[([0],[0]),([1,0],[0])],[2],[]⟩
def zao(H :
 PI (zqM s) K 1 [b] h):PI (zqM s) K 0 [b] h:=zB H
def zan(H :
 EvO (zQ E (zk [(3,d)]) (zn zmx [1,0] 1) h) fun e=>
 Ev s (zT (zV E) (some (.func (.func 93) #[] #[])) [e] h) fun b=>
 EvO (ze E (zk [(5,b.1)]) (zn zmx [1,0] 3)) fun f=>
 K .ret [f] b.2):PI (zqM s) K 1 [d] h:=zB H
def zTQ(aa:h.ok)(hv:zg v=true)(H:PI (zqM true) (KR E [.tmp 2] fun x k=>x=v/\h.qa<=k.wm) 0 [v0] h.qb):(zV E).call 193 [v0] h=some [(v,h)]:=zDn Tryz.f193 aa hv (zAD (zqM true) H)
def zQh:Code:=zc Tryz.f194
def zeA(s:Bool):Cx:=⟨E,s,none,zQh,[([0],[0]),([1,0],[0]),([1,1,0],[0]),([1,1,1,0],[0]),([1,1,1,1,0],[0])],[2],[]⟩
def zam(H :
 PI (zeA s) K 1 [b] h):PI (zeA s) K 0 [b] h:=zB H
def zal(H :
 EvO (zp b) fun d=>
 EvO (zH E 253 h d) fun e=>
 EvO (zp b) fun f=>
 EvO (zH E 253 h f) fun g=>
 EvO (ze E (zk [(8,g)]) (zn zQh [1,0] 6)) fun i=>
 EvO (ze E (zk [(5,e),(9,i)]) (zn zQh [1,0] 7)) fun j=>
 EvO (zp b) fun k=>
 Ev s (zb E 253 h k j) fun l=>
 PI (zeA s) K 2 [b] l.2):PI (zeA s) K 1 [b] h:=zB H
def zak(H :
 EvO (zp b) fun d=>
 EvO (zH E 253 h d) fun e=>
 EvO (zp b) fun f=>
 EvO (zH E 253 h f) fun g=>
 EvO (ze E (zk [(17,g)]) (zn zQh [1,1,0] 6)) fun i=>
 EvO (ze E (zk [(14,e),(18,i)]) (zn zQh [1,1,0] 7)) fun j=>
 EvO (zp b) fun k=>
 Ev s (zb E 253 h k j) fun l=>
 PI (zeA s) K 3 [b] l.2):PI (zeA s) K 2 [b] h:=zB H
def zaj(H :
 EvO (zp b) fun d=>
 EvO (zH E 253 h d) fun e=>
 EvO (zp b) fun f=>
 EvO (zH E 253 h f) fun g=>
 EvO (ze E (zk [(26,g)]) (zn zQh [1,1,1,0] 6)) fun i=>
 EvO (ze E (zk [(23,e),(27,i)]) (zn zQh [1,1,1,0] 7)) fun j=>
 EvO (zp b) fun k=>
 Ev s (zb E 253 h k j) fun l=>
 PI (zeA s) K 4 [b] l.2):PI (zeA s) K 3 [b] h:=zB H
def zai(H :
 EvO (zp b) fun d=>
 EvO (zH E 253 h d) fun e=>
 K .ret [e] h):PI (zeA s) K 4 [b] h:=zB H
def zmd(H:PI (zeA s) (KR E [.tmp 2] Rp) 0 [v0] h):EvC E s Tryz.f194 [v0] h Rp:=zAD (zeA s) H
def zhv:E.tab.fn.get 194=some Tryz.f194:=by kernel_rfl
def zdc:Tryz.f194.body=some zQh:=by kernel_rfl
def zhu(l:List Value)(h:AH):E.sum 194 l h=none:=by kernel_rfl
def ziM:Code:=zc Tryz.f153
def zIp(s:Bool):Cx:=⟨E,s,none,ziM,[([0],[0]),([1,0,0],[0,2]),([1,0,1,0,0],[0]),([1,0,1,0,1],[0]),([1,1,0,0],[0,2]),([1,1,0,1,0,0],[0,2]),([1,1,0,1,0,1],[0,2]),([1,1,1,0,0],[0,2]),([1,1,1,0,1,0,0],[0,2]),([1,1,1,0,1,0,1],[0,2]),([1,1,1,1,0],[0,2])],[2],[]⟩
abbrev zmL(s:Bool)(K:KF)(b d:Value)(h:AH):Prop:=PI (zIp s) K 10 [b,d] h
def zIn(H :
 PI (zIp s) K 1 [b,(iI 0)] h):PI (zIp s) K 0 [b] h:=zB H
def zIm(H :
 EvO (zC E .geq 209 b (.int .u64 4294967296)) fun e=>
 BrK e (PI (zIp s) K 2 [b] h) (PI (zIp s) K 4 [b,d] h)):PI (zIp s) K 1 [b,d] h:=zB H
def zIl(H :
 EvO (zC E .geq 209 b (.int .u64 65536)) fun e=>
 BrK e (PI (zIp s) K 5 [b,d] h) (PI (zIp s) K 7 [b,d] h)):PI (zIp s) K 4 [b,d] h:=zB H
def zb0(H :
 EvO (ze E (zk [(9,b)]) (zn ziM [1,1,0,1,0,0] 1)) fun e=>
 PI (zIp s) K 6 [e,d] h):PI (zIp s) K 5 [b,d] h:=zB H
def zbz(H :
 EvO (zC E .add 3 d (iI 16)) fun e=>
 PI (zIp s) K 7 [b,e] h):PI (zIp s) K 6 [b,d] h:=zB H
def zIk(H :
 EvO (zC E .geq 209 b (.int .u64 256)) fun e=>
 BrK e (PI (zIp s) K 8 [b,d] h) (PI (zIp s) K 10 [b,d] h)):PI (zIp s) K 7 [b,d] h:=zB H
def zby(H :
 EvO (ze E (zk [(15,b)]) (zn ziM [1,1,1,0,1,0,0] 1)) fun e=>
 PI (zIp s) K 9 [e,d] h):PI (zIp s) K 8 [b,d] h:=zB H
def zbx(H :
 EvO (zC E .add 3 d (iI 8)) fun e=>
 PI (zIp s) K 10 [b,e] h):PI (zIp s) K 9 [b,d] h:=zB H
def zSr(H :
 EvO (zQ E (zk [(20,b)]) (zn ziM [1,1,1,1,0] 2) h) fun e=>
 EvO (zDC E 9 (some (.string ⟨#[0,1,2,2,3,3,3,3,4,4,4,4,4,4,4,4,5,5,5,5,5,5,5,5,5,5,5,5,5,5,5,5,6,6,6,6,6,6,6,6,6,6,6,6,6,6,6,6,6,6,6,6,6,6,6,6,6,6,6,6,6,6,6,6,7,7,7,7,7,7,7,7,7,7,7,7,7,7,7,7,7,7,7,7,7,7,7,7,7,7,7,7,7,7,7,7,7,7,7,7,7,7,7,7,7,7,7,7,7,7,7,7,7,7,7,7,7,7,7,7,7,7,7,7,7,7,7,7,8,8,8,8,8,8,8,8,8,8,8,8,8,8,8,8,8,8,8,8,8,8,8,8,8,8,8,8,8,8,8,8,8,8,8,8,8,8,8,8,8,8,8,8,8,8,8,8,8,8,8,8,8,8,8,8,8,8,8,8,8,8,8,8,8,8,8,8,8,8,8,8,8,8,8,8,8,8,8,8,8,8,8,8,8,8,8,8,8,8,8,8,8,8,8,8,8,8,8,8,8,8,8,8,8,8,8,8,8,8,8,8,8,8,8,8,8,8,8,8,8,8,8,8,8,8,8,8]⟩)) e) fun f=>
 EvO (zQ E (zk [(22,f)]) (zn ziM [1,1,1,1,0] 4) h) fun g=>
 EvO (zC E .add 3 d g) fun i=>
 K .ret [i] h):PI (zIp s) K 10 [b,d] h:=zB H
def zGr{Rp:Value->Prop}(aa:h.ok)(H:PI (zIp true) (KR E [.tmp 2] fun x k=>(zg x=true/\Rp x)/\h.qa<=k.wm) 0 [v0] h.qb):∃ v,Rp v/\(zV E).call 153 [v0] h=some [(v,h)]:=zDW Tryz.f153 aa (zAD (zIp true) H)
def B93:Code:=zc Tryz.f93
def C93(s:Bool):Cx:=⟨E,s,none,B93,[([0],[0]),([1,0,0,0],[0]),([1,1,0],[0])],[2],[]⟩
def zfR(H :
 BrK (some (.bool false)) (PI (C93 s) K 1 [b] h) (PI (C93 s) K 2 [b] h)):PI (C93 s) K 0 [b] h:=zB H
def zfQ(H :
 Ev s (zT (zV E) (some (.func (.func 153) #[] #[])) [d] h) fun b=>
 K .ret [b.1] b.2):PI (C93 s) K 2 [d] h:=zB H
def zc9(aa:h.ok)(hv:zg v=true)(H:PI (C93 true) (KR E [.tmp 2] fun x k=>x=v/\h.qa<=k.wm) 0 [v0] h.qb):(zV E).call 93 [v0] h=some [(v,h)]:=zDn Tryz.f93 aa hv (zAD (C93 true) H)
end Go.Proofs
namespace Go.Proofs
open Go Go.AM
def znN:tAS E 110=some (false,1):=by kernel_rfl
def zev{b o:Nat}:zD E 112 1 (some (.pointer (some ⟨b,o,none⟩)))=some (.pointer (some ⟨b,o+1,none⟩)):=by kernel_rfl
end Go.Proofs
