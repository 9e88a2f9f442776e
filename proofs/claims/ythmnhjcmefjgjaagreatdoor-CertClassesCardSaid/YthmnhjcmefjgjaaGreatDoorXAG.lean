import Derived.Test.YthmnhjcmefjgjaaGreatDoorXAF
import Derived.Test.YthmnhjcmefjgjaaGreatDoorXAE
set_option linter.all false
set_option linter.unusedSectionVars false
set_option autoImplicit true
set_option relaxedAutoImplicit true
set_option maxRecDepth 100000
set_option maxHeartbeats 1000000
noncomputable section
namespace Go.Proofs
open Go Go.AM
variable {s:Bool} {K:KF} {h:AH} {a:Option Addr} {n c:Nat} {b d e f g i j k l m o p q r t u w x y z A B C D F G J L M N O Q S U V W X Y Z v v0 v1 v2 v3 v4 v5 v6 v7 v8 v9 v10 v11 v12 v13 v14 v15 v16 v17 v18 v19 v20 v21 v22 v23 v32 v33 v34 v48 v49 v50 v51 v53 v54 v55 v56 v57 v62 v63 v64 v88 v89 v90:Value} {h1:AH} {Rp:Value->AH->Prop}
def B283:Code:=zc Tryz.f283
def zTY(s:Bool):Cx:=⟨E,s,none,B283,[([0],[0,1,2,3,4]),([1,0,0],[0,1,2,3,4]),([1,0,1,0,0],[1,2,3]),([1,0,1,0,1,0],[1,2]),([1,1,0],[1,2])],[10,11],[]⟩
def zMa(H :
 PI (zTY s) K 1 [b,d,e,f,g] h):PI (zTY s) K 0 [b,d,e,f,g] h:=zB H
def zMZ(H :
 EvO (zE E 132 g d) fun k=>
 EvO (zH E 134 h k) fun l=>
 EvO (zE E 132 g b) fun m=>
 EvO (zH E 134 h m) fun o=>
 Ev s (zT (zV E) j [l,o] h) fun f=>
 EvO (zC E .lss 3 f.1 (iI 0)) fun e=>
 BrK e (PI (zTY s) K 2 [b,d,i] f.2) (PI (zTY s) K 4 [b,d] f.2)):PI (zTY s) K 1 [g,b,d,i,j] h:=zB H
def zXs(H :
 EvO (zp b) fun f=>
 EvO (zH E 3 h f) fun g=>
 EvO (zC E .add 3 g (iI 1)) fun i=>
 EvO (zp b) fun j=>
 Ev s (zb E 3 h j i) fun k=>
 PI (zTY s) K 3 [d,e] k.2):PI (zTY s) K 2 [d,e,b] h:=zB H
def zXr(H :
 K .ret [d,b] h):PI (zTY s) K 3 [b,d] h:=zB H
def zXq(H :
 K .ret [b,d] h):PI (zTY s) K 4 [b,d] h:=zB H
def zTF(aa:h.ok)(hv:zg v=true)(H:PI (zTY true) (KR E [.tmp 10,.tmp 11] fun x k=>x=v/\h.qa<=k.wm) 0 [v0,v1,v2,v3,v4] h.qb):(zV E).call 283 [v0,v1,v2,v3,v4] h=some [(v,h)]:=zDn Tryz.f283 aa hv (zAD (zTY true) H)
def zdD(H:PI (zTY true) (KR E [.tmp 10,.tmp 11] fun x k=>(zg x=false\/k.wm<h.qa)/\Rp x ⟨k.t,k.qa,cond (Nat.ble h.wm k.wm) h.wm k.wm⟩) 0 [v0,v1,v2,v3,v4] h.qb):Ev true ((zV E).call 283 [v0,v1,v2,v3,v4] h) fun x=>Rp x.1 x.2:=zHk Tryz.f283 (zAD (zTY true) H)
def zss:Code:=zc Tryz.f272
def zd9(s:Bool):Cx:=⟨E,s,none,zss,[([0],[0,1,2,3,4,5]),([1,0],[0,1,2,3,4,5]),([1,1,0],[0,1,2,3,4,5]),([1,1,1,0],[0,1,2,4,5]),([1,1,1,1,0],[2])],[12],[]⟩
def zYE(H :
 PI (zd9 s) K 1 [b,d,e,f,g,i] h):PI (zd9 s) K 0 [b,d,e,f,g,i] h:=zB H
def zYD(H :
 Ev s (zT (zV E) (some (.func (.func 283) #[] #[])) [d,g,i,e,f] h) fun b=>
 EvO (zt 0 b.1) fun k=>
 EvO (zt 1 b.1) fun l=>
 PI (zd9 s) K 2 [d,k,l,j,e,f] b.2):PI (zd9 s) K 1 [d,g,i,j,e,f] h:=zB H
def zYC(H :
 Ev s (zT (zV E) (some (.func (.func 283) #[] #[])) [d,i,j,e,f] h) fun b=>
 EvO (zt 0 b.1) fun k=>
 EvO (zt 1 b.1) fun l=>
 PI (zd9 s) K 3 [d,g,k,e,f] b.2):PI (zd9 s) K 2 [d,g,i,j,e,f] h:=zB H
def zYB(H :
 Ev s (zT (zV E) (some (.func (.func 283) #[] #[])) [d,e,f,g,i] h) fun b=>
 EvO (zt 0 b.1) fun k=>
 EvO (zt 1 b.1) fun j=>
 PI (zd9 s) K 4 [j] b.2):PI (zd9 s) K 3 [d,e,f,g,i] h:=zB H
def zYA(H :
 K .ret [b] h):PI (zd9 s) K 4 [b] h:=zB H
def zmT(H:PI (zd9 s) (KR E [.tmp 12] Rp) 0 [v0,v1,v2,v3,v4,v5] h):EvC E s Tryz.f272 [v0,v1,v2,v3,v4,v5] h Rp:=zAD (zd9 s) H
def zhb:E.tab.fn.get 272=some Tryz.f272:=by kernel_rfl
def zdE:Tryz.f272.body=some zss:=by kernel_rfl
def zha(l:List Value)(h:AH):E.sum 272 l h=none:=by kernel_rfl
def zst:Code:=zc Tryz.f271
def zqF(s:Bool):Cx:=⟨E,s,none,zst,[([0],[0,1,2,3]),([1,0],[0,1,2,3])],[8],[]⟩
def zYG(H :
 PI (zqF s) K 1 [b,d,e,f] h):PI (zqF s) K 0 [b,d,e,f] h:=zB H
def zYF(H :
 EvO (zC E .sub 3 b (iI 1)) fun i=>
 EvO (zC E .add 3 b (iI 1)) fun j=>
 Ev s (zT (zV E) (some (.func (.func 272) #[] #[])) [e,i,b,j,f,g] h) fun d=>
 K .ret [d.1] d.2):PI (zqF s) K 1 [e,b,f,g] h:=zB H
def zmU(H:PI (zqF s) (KR E [.tmp 8] Rp) 0 [v0,v1,v2,v3] h):EvC E s Tryz.f271 [v0,v1,v2,v3] h Rp:=zAD (zqF s) H
def zhd:E.tab.fn.get 271=some Tryz.f271:=by kernel_rfl
def zdF:Tryz.f271.body=some zst:=by kernel_rfl
def zhc(l:List Value)(h:AH):E.sum 271 l h=none:=by kernel_rfl
def zml:Code:=zc Tryz.f251
def zDt(s:Bool):Cx:=⟨E,s,none,zml,[([0],[0,1,2,3]),([1,0],[0,1,2,3]),([1,1,0],[0,1,3,10]),([1,1,1,0],[0,1,3,10,11]),([1,1,1,1,0],[0,1,3,10,11,12]),([1,1,1,1,1,0],[0,1,3,10,11,12,13]),([1,1,1,1,1,1,0,0],[0,3,10,11,12,13,14]),([1,1,1,1,1,1,0,1,0,0,0],[0,3,10,11,12,13,14]),([1,1,1,1,1,1,0,1,0,0,1,0,0],[0,3,11,12,13,14]),([1,1,1,1,1,1,0,1,0,0,1,0,1,0],[0,3,11,12,13,14]),([1,1,1,1,1,1,0,1,0,0,1,0,1,1],[0,3,11,12,13,14]),([1,1,1,1,1,1,0,1,0,1],[0,3,11,12,13,14]),([1,1,1,1,1,1,1,0],[11,13]),([1,1,1,1,1,1,1,1,0,0],[13,55]),([1,1,1,1,1,1,1,1,0,1,0,0],[13]),([1,1,1,1,1,1,1,1,0,1,1,0],[13,55]),([1,1,1,1,1,1,1,1,0,1,1,1,0,0],[13]),([1,1,1,1,1,1,1,1,0,1,1,1,1,0],[13])],[8,9],[]⟩
abbrev zmD(s:Bool)(K:KF)(g i b d e f:Value)(h:AH):Prop:=PI (zDt s) K 11 [g,i,b,d,e,f] h
abbrev zmC(s:Bool)(K:KF)(b d:Value)(h:AH):Prop:=PI (zDt s) K 12 [b,d] h
def zZG(H :
 PI (zDt s) K 1 [b,d,e,f] h):PI (zDt s) K 0 [b,d,e,f] h:=zB H
def zZF(H :
 EvO (zC E .sub 3 e b) fun g=>
 PI (zDt s) K 2 [d,b,f,g] h):PI (zDt s) K 1 [d,b,e,f] h:=zB H
def zZE(H :
 Ev s (zW 3 h (zAL E 3)) fun d=>
 PI (zDt s) K 3 [e,f,g,b,d.1] d.2):PI (zDt s) K 2 [e,f,g,b] h:=zB H
def zZD(H :
 EvO (ze E (zk [(19,b)]) (zn zml [1,1,1,0] 2)) fun i=>
 EvO (zC E .mul 3 i (iI 1)) fun j=>
 EvO (zC E .add 3 e j) fun k=>
 PI (zDt s) K 4 [f,e,g,b,d,k] h):PI (zDt s) K 3 [f,e,g,b,d] h:=zB H
def zZC(H :
 EvO (ze E (zk [(24,b)]) (zn zml [1,1,1,1,0] 2)) fun j=>
 EvO (zC E .mul 3 j (iI 2)) fun k=>
 EvO (zC E .add 3 f k) fun l=>
 PI (zDt s) K 5 [g,f,i,b,d,e,l] h):PI (zDt s) K 4 [g,f,i,b,d,e] h:=zB H
def zZB(H :
 EvO (ze E (zk [(29,b)]) (zn zml [1,1,1,1,1,0] 2)) fun k=>
 EvO (zC E .mul 3 k (iI 3)) fun l=>
 EvO (zC E .add 3 i l) fun m=>
 PI (zDt s) K 6 [g,j,b,d,e,f,m] h):PI (zDt s) K 5 [g,i,j,b,d,e,f] h:=zB H
def zZA(H :
 EvO (zC E .geq 3 b (iI 8)) fun k=>
 BrK k (PI (zDt s) K 7 [i,j,b,d,f,e,g] h) (PI (zDt s) K 12 [d,e] h)):PI (zDt s) K 6 [i,j,b,d,f,e,g] h:=zB H
def zY9(H :
 EvO (zC E .geq 3 g (iI 50)) fun k=>
 BrK k (PI (zDt s) K 8 [i,j,b,d,e,f] h) (PI (zDt s) K 11 [i,j,b,d,e,f] h)):PI (zDt s) K 7 [i,j,g,b,d,e,f] h:=zB H
def zY8(H :
 Ev s (zT (zV E) (some (.func (.func 271) #[] #[])) [g,d,b,i] h) fun j=>
 PI (zDt s) K 9 [g,i,b,j.1,e,f] j.2):PI (zDt s) K 8 [g,i,b,d,e,f] h:=zB H
def zY7(H :
 Ev s (zT (zV E) (some (.func (.func 271) #[] #[])) [g,e,b,i] h) fun j=>
 PI (zDt s) K 10 [g,i,b,d,j.1,f] j.2):PI (zDt s) K 9 [g,i,b,d,e,f] h:=zB H
def zSF(H :
 Ev s (zT (zV E) (some (.func (.func 271) #[] #[])) [g,f,b,i] h) fun j=>
 PI (zDt s) K 11 [g,i,b,d,e,j.1] j.2):PI (zDt s) K 10 [g,i,b,d,e,f] h:=zB H
def zSE(H :
 Ev s (zT (zV E) (some (.func (.func 272) #[] #[])) [i,d,e,f,b,j] h) fun g=>
 PI (zDt s) K 12 [b,g.1] g.2):PI (zDt s) K 11 [i,j,b,d,e,f] h:=zB H
def zSD(H :
 EvO (zH E 3 h b) fun e=>
 PI (zDt s) K 13 [d,e] h):PI (zDt s) K 12 [b,d] h:=zB H
def zSC(H :
 EvO (zC E .eql 3 d (iI 0)) fun e=>
 BrK e (PI (zDt s) K 14 [b] h) (PI (zDt s) K 15 [b,d] h)):PI (zDt s) K 13 [b,d] h:=zB H
def zSB(H :
 K .ret [b,(iI 1)] h):PI (zDt s) K 14 [b] h:=zB H
def zSA(H :
 EvO (zC E .eql 3 d (iI 12)) fun e=>
 BrK e (PI (zDt s) K 16 [b] h) (PI (zDt s) K 17 [b] h)):PI (zDt s) K 15 [b,d] h:=zB H
def zR9(H :
 K .ret [b,(iI 2)] h):PI (zDt s) K 16 [b] h:=zB H
def zR8(H :
 K .ret [b,(iI 0)] h):PI (zDt s) K 17 [b] h:=zB H
def zTJ{Rp:Value->Prop}(aa:h.ok)(H:PI (zDt true) (KR E [.tmp 8,.tmp 9] fun x k=>(zg x=true/\Rp x)/\h.qa<=k.wm) 0 [v0,v1,v2,v3] h.qb):∃ v,Rp v/\(zV E).call 251 [v0,v1,v2,v3] h=some [(v,h)]:=zDW Tryz.f251 aa (zAD (zDt true) H)
def zsy:Code:=zc Tryz.f252
def zO2(s:Bool):Cx:=⟨E,s,none,zsy,[([0],[0,1,2]),([1,0],[0,2,8]),([1,1,0,0,0,0],[0,8,9]),([1,1,0,0,1,0,0],[0,8,9]),([1,1,0,0,1,0,1,0],[0,8,9]),([1,1,0,0,1,0,1,1],[0,8,9])],[],[]⟩
abbrev zpR(s:Bool)(K:KF)(b d e:Value)(h:AH):Prop:=PI (zO2 s) K 2 [b,d,e] h
def zY6(H :
 PI (zO2 s) K 1 [b,e,d] h):PI (zO2 s) K 0 [b,d,e] h:=zB H
def zY5(H :
 EvO (zC E .sub 3 d (iI 1)) fun f=>
 PI (zO2 s) K 2 [b,e,f] h):PI (zO2 s) K 1 [b,d,e] h:=zB H
def zMm(H :
 EvO (zC E .lss 3 b d) fun f=>
 BrK f (PI (zO2 s) K 3 [e,b,d] h) (K .normal [] h)):PI (zO2 s) K 2 [e,b,d] h:=zB H
def zY4(H :
 EvO (zE E 132 b e) fun m=>
 EvO (zH E 134 h m) fun o=>
 EvO (zE E 132 b d) fun f=>
 EvO (zH E 134 h f) fun g=>
 EvO (zE E 132 b d) fun i=>
 Ev s (zb E 134 h i o) fun j=>
 EvO (zE E 132 b e) fun k=>
 Ev s (zb E 134 j.2 k g) fun l=>
 PI (zO2 s) K 4 [b,d,e] l.2):PI (zO2 s) K 3 [b,d,e] h:=zB H
def zY3(H :
 EvO (zC E .add 3 d (iI 1)) fun f=>
 PI (zO2 s) K 5 [b,f,e] h):PI (zO2 s) K 4 [b,d,e] h:=zB H
def zY2(H :
 EvO (zC E .sub 3 e (iI 1)) fun f=>
 PI (zO2 s) K 2 [b,d,f] h):PI (zO2 s) K 5 [b,d,e] h:=zB H
def zmZ(H:PI (zO2 s) (KR E [] Rp) 0 [v0,v1,v2] h):EvC E s Tryz.f252 [v0,v1,v2,v3] h Rp:=zAD (zO2 s) H
def zhn:E.tab.fn.get 252=some Tryz.f252:=by kernel_rfl
def zdM:Tryz.f252.body=some zsy:=by kernel_rfl
def zhm(l:List Value)(h:AH):E.sum 252 l h=none:=by kernel_rfl
def zsu:Code:=zc Tryz.f270
def zI5(s:Bool):Cx:=⟨E,s,none,zsu,[([0],[0,1,2,3,4]),([1,0,0,0,0],[0,2,3,4,10]),([1,0,0,0,1,0,0],[0,2,3,4,10,11]),([1,0,0,0,1,1,0,0],[0,2,3,4,10,11]),([1,0,0,0,1,1,0,1,0],[0,2,3,4,10,11]),([1,0,0,0,1,1,1,0,0],[0,2,3,4,10,11]),([1,0,0,0,1,1,1,1,0],[0,2,3,4,10,11]),([1,0,0,0,1,1,1,1,1],[0,2,3,4,11])],[],[]⟩
abbrev zpI(s:Bool)(K:KF)(d e f g b:Value)(h:AH):Prop:=PI (zI5 s) K 1 [d,e,f,g,b] h
abbrev zpH(s:Bool)(K:KF)(e f g i b d:Value)(h:AH):Prop:=PI (zI5 s) K 5 [e,f,g,i,b,d] h
def zYM(H :
 PI (zI5 s) K 1 [b,e,f,g,d] h):PI (zI5 s) K 0 [b,d,e,f,g] h:=zB H
def zMe(H :
 EvO (zC E .mul 3 (iI 2) b) fun i=>
 EvO (zC E .add 3 i (iI 1)) fun j=>
 PI (zI5 s) K 2 [d,e,f,g,b,j] h):PI (zI5 s) K 1 [d,e,f,g,b] h:=zB H
def zMd(H :
 EvO (zC E .geq 3 b e) fun j=>
 BrK j (K .normal [] h) (PI (zI5 s) K 3 [f,e,g,i,d,b] h)):PI (zI5 s) K 2 [f,e,g,i,d,b] h:=zB H
def zYL(H :
 EvO (zC E .add 3 d (iI 1)) fun z=>
 EvO (zC E .lss 3 z j) fun b=>
 EvO (gdB b true k) fun A=>
 EvO (gdB b true g) fun B=>
 EvO (gdB b true i) fun C=>
 EvO (gdB b true d) fun D=>
 EvO (gdB b true (zC E .add 3 C D)) fun F=>
 EvO (gdB b true (zE E 132 B F)) fun l=>
 EvO (gdB b true (zH E 134 h l)) fun m=>
 EvO (gdB b true g) fun o=>
 EvO (gdB b true i) fun p=>
 EvO (gdB b true d) fun q=>
 EvO (gdB b true (zC E .add 3 p q)) fun r=>
 EvO (gdB b true (zC E .add 3 r (iI 1))) fun t=>
 EvO (gdB b true (zE E 132 o t)) fun u=>
 EvO (gdB b true (zH E 134 h u)) fun w=>
 Ev s (gdW b true (zT (zV E) A [m,w] h) h) fun e=>
 EvO (gdB b true (zC E .lss 3 e.1 (iI 0))) fun x=>
 EvO (zAE b x (some (.bool false))) fun y=>
 BrK y (PI (zI5 s) K 4 [g,j,i,k,f,d] e.2) (PI (zI5 s) K 5 [g,j,i,k,f,d] e.2)):PI (zI5 s) K 3 [g,j,i,k,f,d] h:=zB H
def zYK(H :
 EvO (zC E .add 3 d (iI 1)) fun j=>
 PI (zI5 s) K 5 [e,f,g,i,b,j] h):PI (zI5 s) K 4 [e,f,g,i,b,d] h:=zB H
def zYJ(H :
 EvO (zC E .add 3 g d) fun q=>
 EvO (zE E 132 f q) fun r=>
 EvO (zH E 134 h r) fun t=>
 EvO (zC E .add 3 g e) fun i=>
 EvO (zE E 132 f i) fun j=>
 EvO (zH E 134 h j) fun k=>
 Ev s (zT (zV E) o [t,k] h) fun b=>
 EvO (zC E .lss 3 b.1 (iI 0)) fun l=>
 EvO (zAY .not l) fun m=>
 BrK m (K .ret [] b.2) (PI (zI5 s) K 6 [f,p,g,o,d,e] b.2)):PI (zI5 s) K 5 [f,p,g,o,d,e] h:=zB H
def zYI(H :
 EvO (zC E .add 3 f e) fun w=>
 EvO (zC E .add 3 f b) fun x=>
 EvO (zC E .add 3 f b) fun g=>
 EvO (zE E 132 d g) fun i=>
 EvO (zH E 134 h i) fun j=>
 EvO (zC E .add 3 f e) fun k=>
 EvO (zE E 132 d k) fun l=>
 EvO (zH E 134 h l) fun m=>
 EvO (zE E 132 d w) fun o=>
 Ev s (zb E 134 h o j) fun p=>
 EvO (zE E 132 d x) fun q=>
 Ev s (zb E 134 p.2 q m) fun r=>
 PI (zI5 s) K 7 [d,t,f,u,b] r.2):PI (zI5 s) K 6 [d,t,f,u,e,b] h:=zB H
def zYH(H :
 PI (zI5 s) K 1 [d,e,f,g,b] h):PI (zI5 s) K 7 [d,e,f,g,b] h:=zB H
def zmV(H:PI (zI5 s) (KR E [] Rp) 0 [v0,v1,v2,v3,v4] h):EvC E s Tryz.f270 [v0,v1,v2,v3,v4] h Rp:=zAD (zI5 s) H
def zhf:E.tab.fn.get 270=some Tryz.f270:=by kernel_rfl
def zdG:Tryz.f270.body=some zsu:=by kernel_rfl
def zhe(l:List Value)(h:AH):E.sum 270 l h=none:=by kernel_rfl
def zTu:Code:=zc Tryz.f250
def zGs(s:Bool):Cx:=⟨E,s,none,zTu,[([0],[0,1,2]),([1,0],[0,1,8]),([1,1,0,0],[0,1,8]),([1,1,0,1,0],[0,1,8,9]),([1,1,0,1,1,0],[0,1,8,9,10]),([1,1,0,1,1,1,0,0,0,0],[0,1,8,9,10,11]),([1,1,0,1,1,1,0,0,1,0,0,0],[0,1,8,9,10,11]),([1,1,0,1,1,1,0,0,1,0,0,1,0,0],[0,1,8,9,10,11,12]),([1,1,0,1,1,1,0,0,1,0,0,1,0,1,0],[0,1,8,9,10,11,12]),([1,1,0,1,1,1,0,0,1,0,0,1,1],[0,1,8,9,10,11,12]),([1,1,0,1,1,1,0,0,1,1],[0,1,8,9,10,11])],[],[]⟩
abbrev zpT(s:Bool)(K:KF)(e f g i b d:Value)(h:AH):Prop:=PI (zGs s) K 5 [e,f,g,i,b,d] h
abbrev zpS(s:Bool)(K:KF)(f g i j b d e:Value)(h:AH):Prop:=PI (zGs s) K 9 [f,g,i,j,b,d,e] h
def zZP(H :
 EvO (zC E .sub 3 e b) fun f=>
 PI (zGs s) K 1 [d,b,f] h):PI (zGs s) K 0 [d,b,e] h:=zB H
def zZO(H :
 EvO (zC E .geq 3 b (iI 8)) fun f=>
 BrK f (PI (zGs s) K 2 [d,e,b] h) (K .normal [] h)):PI (zGs s) K 1 [d,e,b] h:=zB H
def zZN(H :
 EvO (zQ E (zk [(18,d)]) (zn zTu [1,1,0,0] 1) h) fun g=>
 Ev s (zW 253 h (zAL E 253)) fun b=>
 Ev s (zb E 253 b.2 b.1 g) fun i=>
 PI (zGs s) K 3 [e,f,d,b.1] i.2):PI (zGs s) K 2 [e,f,d] h:=zB H
def zZM(H :
 Ev s (zT (zV E) (some (.func (.func 193) #[] #[])) [b] h) fun d=>
 PI (zGs s) K 4 [e,f,b,g,d.1] d.2):PI (zGs s) K 3 [e,f,b,g] h:=zB H
def zZL(H :
 EvO (ze E (zk [(23,e)]) (zn zTu [1,1,0,1,1,0] 2)) fun i=>
 EvO (zC E .mul 3 i (iI 2)) fun j=>
 EvO (zC E .add 3 d j) fun k=>
 EvO (zC E .sub 3 k (iI 1)) fun l=>
 PI (zGs s) K 5 [f,d,e,g,b,l] h):PI (zGs s) K 4 [f,d,e,g,b] h:=zB H
def zMn(H :
 EvO (ze E (zk [(30,f)]) (zn zTu [1,1,0,1,1,1,0,0,0,0] 3)) fun j=>
 EvO (zC E .mul 3 j (iI 2)) fun k=>
 EvO (zC E .add 3 e k) fun l=>
 EvO (zC E .add 3 l (iI 1)) fun m=>
 EvO (zC E .leq 3 b m) fun o=>
 BrK o (PI (zGs s) K 6 [g,e,f,i,d,b] h) (K .normal [] h)):PI (zGs s) K 5 [g,e,f,i,d,b] h:=zB H
def zZK(H :
 Ev s (zT (zV E) (some (.func (.func 194) #[] #[])) [f] h) fun e=>
 EvO (zC E .sub 140 b (.int .u64 1)) fun k=>
 EvO (ze E (zk [(38,e.1),(40,k)]) (zn zTu [1,1,0,1,1,1,0,0,1,0,0,0] 3)) fun l=>
 EvO (zQ E (zk [(41,l)]) (zn zTu [1,1,0,1,1,1,0,0,1,0,0,0] 4) e.2) fun m=>
 PI (zGs s) K 7 [g,i,j,f,b,d,m] e.2):PI (zGs s) K 6 [g,i,j,f,b,d] h:=zB H
def zZJ(H :
 EvO (zC E .geq 3 b f) fun k=>
 BrK k (PI (zGs s) K 8 [g,i,f,j,d,e,b] h) (PI (zGs s) K 9 [g,i,f,j,d,e,b] h)):PI (zGs s) K 7 [g,i,f,j,d,e,b] h:=zB H
def zZI(H :
 EvO (zC E .sub 3 e f) fun k=>
 PI (zGs s) K 9 [g,i,f,j,b,d,k] h):PI (zGs s) K 8 [g,i,f,j,b,d,e] h:=zB H
def zZH(H :
 EvO (zC E .add 3 f e) fun u=>
 EvO (zC E .add 3 f e) fun w=>
 EvO (zE E 132 d w) fun i=>
 EvO (zH E 134 h i) fun j=>
 EvO (zE E 132 d b) fun k=>
 EvO (zH E 134 h k) fun l=>
 EvO (zE E 132 d b) fun m=>
 Ev s (zb E 134 h m j) fun o=>
 EvO (zE E 132 d u) fun p=>
 Ev s (zb E 134 o.2 p l) fun q=>
 PI (zGs s) K 10 [d,f,r,t,g,b] q.2):PI (zGs s) K 9 [d,f,r,t,g,b,e] h:=zB H
def zSG(H :
 EvO (zC E .add 3 d (iI 1)) fun j=>
 PI (zGs s) K 5 [e,f,g,i,b,j] h):PI (zGs s) K 10 [e,f,g,i,b,d] h:=zB H
def zma(H:PI (zGs s) (KR E [] Rp) 0 [v0,v1,v2] h):EvC E s Tryz.f250 [v0,v1,v2,v3] h Rp:=zAD (zGs s) H
def zhp:E.tab.fn.get 250=some Tryz.f250:=by kernel_rfl
def zdN:Tryz.f250.body=some zTu:=by kernel_rfl
def zho(l:List Value)(h:AH):E.sum 250 l h=none:=by kernel_rfl
def zsz:Code:=zc Tryz.f248
def zIv(s:Bool):Cx:=⟨E,s,none,zsz,[([0],[0,1,2,3]),([1,0,0,0,0],[0,1,2,3,8]),([1,0,0,1,0,0,0],[0,1,2,3,8]),([1,0,0,1,0,0,1,0,0,0,0],[0,1,2,3,8,9]),([1,0,0,1,0,0,1,0,0,1,0,0],[0,1,2,3,8,9]),([1,0,0,1,0,0,1,0,0,1,1],[0,1,2,3,8,9]),([1,0,0,1,1],[0,1,2,3,8])],[],[]⟩
abbrev zpY(s:Bool)(K:KF)(b d e f g:Value)(h:AH):Prop:=PI (zIv s) K 1 [b,d,e,f,g] h
abbrev zpX(s:Bool)(K:KF)(b d e f g i:Value)(h:AH):Prop:=PI (zIv s) K 3 [b,d,e,f,g,i] h
abbrev zpW(s:Bool)(K:KF)(b d e f g:Value)(h:AH):Prop:=PI (zIv s) K 6 [b,d,e,f,g] h
def zMr(H :
 EvO (zC E .add 3 b (iI 1)) fun g=>
 PI (zIv s) K 1 [d,b,e,f,g] h):PI (zIv s) K 0 [d,b,e,f] h:=zB H
def zIW(H :
 EvO (zC E .lss 3 d b) fun i=>
 BrK i (PI (zIv s) K 2 [e,f,b,g,d] h) (K .normal [] h)):PI (zIv s) K 1 [e,f,b,g,d] h:=zB H
def zZb(H :
 PI (zIv s) K 3 [d,e,f,g,b,b] h):PI (zIv s) K 2 [d,e,f,g,b] h:=zB H
def zMq(H :
 EvO (zC E .gtr 3 f g) fun b=>
 EvO (gdB b true i) fun t=>
 EvO (gdB b true e) fun u=>
 EvO (gdB b true f) fun w=>
 EvO (gdB b true (zE E 132 u w)) fun x=>
 EvO (gdB b true (zH E 134 h x)) fun y=>
 EvO (gdB b true e) fun z=>
 EvO (gdB b true f) fun j=>
 EvO (gdB b true (zC E .sub 3 j (iI 1))) fun k=>
 EvO (gdB b true (zE E 132 z k)) fun l=>
 EvO (gdB b true (zH E 134 h l)) fun m=>
 Ev s (gdW b true (zT (zV E) t [y,m] h) h) fun d=>
 EvO (gdB b true (zC E .lss 3 d.1 (iI 0))) fun o=>
 EvO (zAE b o (some (.bool false))) fun p=>
 BrK p (PI (zIv s) K 4 [e,g,q,i,r,f] d.2) (PI (zIv s) K 6 [e,g,q,i,r] d.2)):PI (zIv s) K 3 [e,g,q,i,r,f] h:=zB H
def zZa(H :
 EvO (zC E .sub 3 d (iI 1)) fun q=>
 EvO (zC E .sub 3 d (iI 1)) fun r=>
 EvO (zE E 132 b r) fun t=>
 EvO (zH E 134 h t) fun u=>
 EvO (zE E 132 b d) fun e=>
 EvO (zH E 134 h e) fun f=>
 EvO (zE E 132 b d) fun g=>
 Ev s (zb E 134 h g u) fun i=>
 EvO (zE E 132 b q) fun j=>
 Ev s (zb E 134 i.2 j f) fun k=>
 PI (zIv s) K 5 [b,l,m,o,p,d] k.2):PI (zIv s) K 4 [b,l,m,o,p,d] h:=zB H
def zZZ(H :
 EvO (zC E .sub 3 i (iI 1)) fun j=>
 PI (zIv s) K 3 [b,d,e,f,g,j] h):PI (zIv s) K 5 [b,d,e,f,g,i] h:=zB H
def zZY(H :
 EvO (zC E .add 3 g (iI 1)) fun i=>
 PI (zIv s) K 1 [b,d,e,f,i] h):PI (zIv s) K 6 [b,d,e,f,g] h:=zB H
def zmc(H:PI (zIv s) (KR E [] Rp) 0 [v0,v1,v2,v3] h):EvC E s Tryz.f248 [v0,v1,v2,v3] h Rp:=zAD (zIv s) H
def zht:E.tab.fn.get 248=some Tryz.f248:=by kernel_rfl
def zdP:Tryz.f248.body=some zsz:=by kernel_rfl
def zhs(l:List Value)(h:AH):E.sum 248 l h=none:=by kernel_rfl
def zTK(aa:h.ok)(hv:zg v=true)(H:PI (zIv true) (KR E [] fun x k=>x=v/\h.qa<=k.wm) 0 [v0,v1,v2,v3] h.qb):(zV E).call 248 [v0,v1,v2,v3] h=some [(v,h)]:=zDn Tryz.f248 aa hv (zAD (zIv true) H)
def zqv:Code:=zc Tryz.f249
def zGG(s:Bool):Cx:=⟨E,s,none,zqv,[([0],[0,1,2,3]),([1,0],[0,1,2,3,8]),([1,1,0],[0,1,2,3,8,9]),([1,1,1,0,0],[0,3,8,9,10]),([1,1,1,0,1,0,0,0,0],[0,3,8,9,10,11]),([1,1,1,0,1,0,0,1,0,0],[0,3,8,9,10,11]),([1,1,1,0,1,0,0,1,1],[0,3,8,9,10,11]),([1,1,1,1,0],[0,3,8,9,10]),([1,1,1,1,1,0,0,0,0],[0,3,8,9,12]),([1,1,1,1,1,0,0,1,0,0,0],[0,3,8,9,12]),([1,1,1,1,1,0,0,1,0,0,1],[0,3,8,9,12]),([1,1,1,1,1,0,0,1,1],[0,3,8,9,12])],[],[]⟩
abbrev zpV(s:Bool)(K:KF)(e f g i b d:Value)(h:AH):Prop:=PI (zGG s) K 4 [e,f,g,i,b,d] h
abbrev zpU(s:Bool)(K:KF)(d e f g b:Value)(h:AH):Prop:=PI (zGG s) K 8 [d,e,f,g,b] h
def zZX(H :
 PI (zGG s) K 1 [d,b,e,f,b] h):PI (zGG s) K 0 [d,b,e,f] h:=zB H
def zZW(H :
 PI (zGG s) K 2 [b,d,e,f,g,(iI 0)] h):PI (zGG s) K 1 [b,d,e,f,g] h:=zB H
def zZV(H :
 EvO (zC E .sub 3 e d) fun j=>
 PI (zGG s) K 3 [b,f,g,i,j] h):PI (zGG s) K 2 [b,d,e,f,g,i] h:=zB H
def zZU(H :
 EvO (zC E .sub 3 b (iI 1)) fun i=>
 EvO (ze E (zk [(18,i)]) (zn zqv [1,1,1,0,0] 2)) fun j=>
 PI (zGG s) K 4 [d,e,f,g,b,j] h):PI (zGG s) K 3 [d,e,f,g,b] h:=zB H
def zMp(H :
 EvO (zC E .geq 3 d (iI 0)) fun j=>
 BrK j (PI (zGG s) K 5 [e,f,g,i,b,d] h) (PI (zGG s) K 7 [e,f,g,i,b] h)):PI (zGG s) K 4 [e,f,g,i,b,d] h:=zB H
def zZT(H :
 Ev s (zT (zV E) (some (.func (.func 270) #[] #[])) [e,d,b,g,f] h) fun j=>
 PI (zGG s) K 6 [e,f,g,i,b,d] j.2):PI (zGG s) K 5 [e,f,g,i,b,d] h:=zB H
def zZS(H :
 EvO (zC E .sub 3 d (iI 1)) fun j=>
 PI (zGG s) K 4 [e,f,g,i,b,j] h):PI (zGG s) K 6 [e,f,g,i,b,d] h:=zB H
def zZR(H :
 EvO (zC E .sub 3 b (iI 1)) fun i=>
 PI (zGG s) K 8 [d,e,f,g,i] h):PI (zGG s) K 7 [d,e,f,g,b] h:=zB H
def zMo(H :
 EvO (zC E .geq 3 b (iI 0)) fun i=>
 BrK i (PI (zGG s) K 9 [d,e,f,g,b] h) (K .normal [] h)):PI (zGG s) K 8 [d,e,f,g,b] h:=zB H
def zZQ(H :
 EvO (zC E .add 3 e b) fun r=>
 EvO (zC E .add 3 e b) fun t=>
 EvO (zE E 132 d t) fun f=>
 EvO (zH E 134 h f) fun g=>
 EvO (zE E 132 d e) fun i=>
 EvO (zH E 134 h i) fun j=>
 EvO (zE E 132 d e) fun k=>
 Ev s (zb E 134 h k g) fun l=>
 EvO (zE E 132 d r) fun m=>
 Ev s (zb E 134 l.2 m j) fun o=>
 PI (zGG s) K 10 [d,p,e,q,b] o.2):PI (zGG s) K 9 [d,p,e,q,b] h:=zB H
def zSI(H :
 Ev s (zT (zV E) (some (.func (.func 270) #[] #[])) [d,g,b,f,e] h) fun i=>
 PI (zGG s) K 11 [d,e,f,g,b] i.2):PI (zGG s) K 10 [d,e,f,g,b] h:=zB H
def zSH(H :
 EvO (zC E .sub 3 b (iI 1)) fun i=>
 PI (zGG s) K 8 [d,e,f,g,i] h):PI (zGG s) K 11 [d,e,f,g,b] h:=zB H
def zmb(H:PI (zGG s) (KR E [] Rp) 0 [v0,v1,v2,v3] h):EvC E s Tryz.f249 [v0,v1,v2,v3] h Rp:=zAD (zGG s) H
def zhr:E.tab.fn.get 249=some Tryz.f249:=by kernel_rfl
def zdO:Tryz.f249.body=some zqv:=by kernel_rfl
def zhq(l:List Value)(h:AH):E.sum 249 l h=none:=by kernel_rfl
def zsx:Code:=zc Tryz.f253
def zBi(s:Bool):Cx:=⟨E,s,none,zsx,[([0],[0,1,2,3]),([1,0],[0,1,2,3]),([1,1,0,0],[0,1,2,3,9]),([1,1,0,1,0,0,0,0],[0,1,2,3,9,10]),([1,1,0,1,0,0,1,0,0,0,0,0,0,0],[0,1,2,3,9,10]),([1,1,0,1,0,0,1,0,0,0,0,0,1,0],[0,1,2,3,9,10]),([1,1,0,1,0,0,1,0,0,1,0,0],[0,1,2,3,9,10]),([1,1,0,1,0,0,1,0,0,1,0,1,0,0],[]),([1,1,0,1,0,0,1,0,0,1,1,0,0],[0,1,2,3,9,10]),([1,1,0,1,0,0,1,0,0,1,1,0,1,0,0],[]),([1,1,0,1,0,0,1,0,0,1,1,1,0],[0,1,2,3,9,10]),([1,1,0,1,0,0,1,0,0,1,1,1,1,0,0],[0,1,2,3,9,10]),([1,1,0,1,0,0,1,0,0,1,1,1,1,0,1,0,0],[0,1,2,3,9,10]),([1,1,0,1,0,0,1,0,0,1,1,1,1,0,1,0,1,0,0,0,0],[0,1,2,3,9,10,11]),([1,1,0,1,0,0,1,0,0,1,1,1,1,0,1,0,1,0,0,1,0,0,0,0],[0,1,2,3,9,10,11]),([1,1,0,1,0,0,1,0,0,1,1,1,1,0,1,0,1,0,0,1,0,0,1],[0,1,2,3,9,10,11]),([1,1,0,1,0,0,1,0,0,1,1,1,1,0,1,0,1,0,0,1,1],[0,1,2,3,9,10,11]),([1,1,0,1,0,0,1,0,0,1,1,1,1,1,0],[0,1,2,3,9,10]),([1,1,0,1,0,0,1,0,0,1,1,1,1,1,1,0,0],[0,1,2,3,9,10]),([1,1,0,1,0,0,1,0,0,1,1,1,1,1,1,0,1,0,0,0,0],[0,1,2,3,9,10,12]),([1,1,0,1,0,0,1,0,0,1,1,1,1,1,1,0,1,0,0,1,0,0,0,0],[0,1,2,3,9,10,12]),([1,1,0,1,0,0,1,0,0,1,1,1,1,1,1,0,1,0,0,1,0,0,1],[0,1,2,3,9,10,12]),([1,1,0,1,0,0,1,0,0,1,1,1,1,1,1,0,1,0,0,1,1],[0,1,2,3,9,10,12]),([1,1,0,1,0,0,1,1],[0,1,2,3,9,10]),([1,1,1,0],[])],[8],[]⟩
abbrev zpQ(s:Bool)(K:KF)(d e f g i b:Value)(h:AH):Prop:=PI (zBi s) K 3 [d,e,f,g,i,b] h
abbrev zpP(s:Bool)(K:KF)(d e f g i b:Value)(h:AH):Prop:=PI (zBi s) K 4 [d,e,f,g,i,b] h
abbrev zpO(s:Bool)(K:KF)(d e f g i b:Value)(h:AH):Prop:=PI (zBi s) K 6 [d,e,f,g,i,b] h
abbrev zmB(s:Bool)(K:KF)(e f g i j b d:Value)(h:AH):Prop:=PI (zBi s) K 13 [e,f,g,i,j,b,d] h
abbrev zY0(s:Bool)(K:KF)(d e f g i b:Value)(h:AH):Prop:=PI (zBi s) K 17 [d,e,f,g,i,b] h
abbrev zmA(s:Bool)(K:KF)(e f g i j b d:Value)(h:AH):Prop:=PI (zBi s) K 19 [e,f,g,i,j,b,d] h
abbrev zYy(s:Bool)(K:KF)(d e f g i b:Value)(h:AH):Prop:=PI (zBi s) K 23 [d,e,f,g,i,b] h
def zY1(H :
 PI (zBi s) K 1 [b,d,e,f] h):PI (zBi s) K 0 [b,d,e,f] h:=zB H
def zYz(H :
 EvO (zC E .add 3 b (iI 1)) fun g=>
 PI (zBi s) K 2 [d,b,e,f,g] h):PI (zBi s) K 1 [d,b,e,f] h:=zB H
def zYx(H :
 PI (zBi s) K 3 [b,d,e,f,g,(iI 0)] h):PI (zBi s) K 2 [b,d,e,f,g] h:=zB H
def zMl(H :
 EvO (zC E .lss 3 b (iI 5)) fun j=>
 BrK j (PI (zBi s) K 4 [d,e,f,g,i,b] h) (PI (zBi s) K 24 [] h)):PI (zBi s) K 3 [d,e,f,g,i,b] h:=zB H
def zMk(H :
 EvO (zC E .lss 3 f i) fun b=>
 EvO (gdB b true j) fun u=>
 EvO (gdB b true g) fun w=>
 EvO (gdB b true f) fun x=>
 EvO (gdB b true (zE E 132 w x)) fun y=>
 EvO (gdB b true (zH E 134 h y)) fun z=>
 EvO (gdB b true g) fun A=>
 EvO (gdB b true f) fun k=>
 EvO (gdB b true (zC E .sub 3 k (iI 1))) fun l=>
 EvO (gdB b true (zE E 132 A l)) fun m=>
 EvO (gdB b true (zH E 134 h m)) fun o=>
 Ev s (gdW b true (zT (zV E) u [z,o] h) h) fun d=>
 EvO (gdB b true (zC E .lss 3 d.1 (iI 0))) fun p=>
 EvO (gdB b true (zAY .not p)) fun q=>
 EvO (zAE b q (some (.bool false))) fun r=>
 BrK r (PI (zBi s) K 5 [g,t,i,j,f,e] d.2) (PI (zBi s) K 6 [g,t,i,j,f,e] d.2)):PI (zBi s) K 4 [g,t,i,j,f,e] h:=zB H
def zYw(H :
 EvO (zC E .add 3 i (iI 1)) fun j=>
 PI (zBi s) K 4 [d,e,f,g,j,b] h):PI (zBi s) K 5 [d,e,f,g,i,b] h:=zB H
def zYv(H :
 EvO (zC E .eql 3 e d) fun j=>
 BrK j (PI (zBi s) K 7 [] h) (PI (zBi s) K 8 [f,g,d,i,e,b] h)):PI (zBi s) K 6 [f,g,d,i,e,b] h:=zB H
def zYu(H :
 K .ret [(.bool true)] h):PI (zBi s) K 7 [] h:=zB H
def zYt(H :
 EvO (zC E .sub 3 e d) fun j=>
 EvO (zC E .lss 3 j (iI 50)) fun k=>
 BrK k (PI (zBi s) K 9 [] h) (PI (zBi s) K 10 [f,d,e,g,i,b] h)):PI (zBi s) K 8 [f,d,e,g,i,b] h:=zB H
def zYs(H :
 K .ret [(.bool false)] h):PI (zBi s) K 9 [] h:=zB H
def zR7(H :
 EvO (zC E .sub 3 d (iI 1)) fun q=>
 EvO (zC E .sub 3 d (iI 1)) fun r=>
 EvO (zE E 132 b r) fun t=>
 EvO (zH E 134 h t) fun u=>
 EvO (zE E 132 b d) fun f=>
 EvO (zH E 134 h f) fun g=>
 EvO (zE E 132 b d) fun i=>
 Ev s (zb E 134 h i u) fun j=>
 EvO (zE E 132 b q) fun k=>
 Ev s (zb E 134 j.2 k g) fun l=>
 PI (zBi s) K 11 [b,m,o,p,d,e] l.2):PI (zBi s) K 10 [b,m,o,p,d,e] h:=zB H
def zR6(H :
 EvO (zC E .sub 3 e d) fun j=>
 EvO (zC E .geq 3 j (iI 2)) fun k=>
 BrK k (PI (zBi s) K 12 [f,d,g,i,e,b] h) (PI (zBi s) K 17 [f,d,g,i,e,b] h)):PI (zBi s) K 11 [f,d,g,i,e,b] h:=zB H
def zR5(H :
 EvO (zC E .sub 3 d (iI 1)) fun j=>
 PI (zBi s) K 13 [e,f,g,i,d,b,j] h):PI (zBi s) K 12 [e,f,g,i,d,b] h:=zB H
def zJ9(H :
 EvO (zC E .geq 3 d (iI 1)) fun k=>
 BrK k (PI (zBi s) K 14 [e,f,g,i,j,b,d] h) (PI (zBi s) K 17 [e,f,g,i,j,b] h)):PI (zBi s) K 13 [e,f,g,i,j,b,d] h:=zB H
def zR4(H :
 EvO (zE E 132 f b) fun o=>
 EvO (zH E 134 h o) fun p=>
 EvO (zC E .sub 3 b (iI 1)) fun q=>
 EvO (zE E 132 f q) fun r=>
 EvO (zH E 134 h r) fun t=>
 Ev s (zT (zV E) g [p,t] h) fun d=>
 EvO (zC E .lss 3 d.1 (iI 0)) fun i=>
 EvO (zAY .not i) fun j=>
 BrK j (PI (zBi s) K 17 [f,k,l,g,m,e] d.2) (PI (zBi s) K 15 [f,k,l,g,m,e,b] d.2)):PI (zBi s) K 14 [f,k,l,g,m,e,b] h:=zB H
def zR3(H :
 EvO (zC E .sub 3 b (iI 1)) fun r=>
 EvO (zC E .sub 3 b (iI 1)) fun t=>
 EvO (zE E 132 d t) fun u=>
 EvO (zH E 134 h u) fun w=>
 EvO (zE E 132 d b) fun f=>
 EvO (zH E 134 h f) fun g=>
 EvO (zE E 132 d b) fun i=>
 Ev s (zb E 134 h i w) fun j=>
 EvO (zE E 132 d r) fun k=>
 Ev s (zb E 134 j.2 k g) fun l=>
 PI (zBi s) K 16 [d,m,o,p,q,e,b] l.2):PI (zBi s) K 15 [d,m,o,p,q,e,b] h:=zB H
def zR2(H :
 EvO (zC E .sub 3 d (iI 1)) fun k=>
 PI (zBi s) K 13 [e,f,g,i,j,b,k] h):PI (zBi s) K 16 [e,f,g,i,j,b,d] h:=zB H
def zR1(H :
 EvO (zC E .sub 3 d e) fun j=>
 EvO (zC E .geq 3 j (iI 2)) fun k=>
 BrK k (PI (zBi s) K 18 [f,g,d,i,e,b] h) (PI (zBi s) K 23 [f,g,d,i,e,b] h)):PI (zBi s) K 17 [f,g,d,i,e,b] h:=zB H
def zR0(H :
 EvO (zC E .add 3 d (iI 1)) fun j=>
 PI (zBi s) K 19 [e,f,g,i,d,b,j] h):PI (zBi s) K 18 [e,f,g,i,d,b] h:=zB H
def zJ8(H :
 EvO (zC E .lss 3 d e) fun k=>
 BrK k (PI (zBi s) K 20 [f,g,e,i,j,b,d] h) (PI (zBi s) K 23 [f,g,e,i,j,b] h)):PI (zBi s) K 19 [f,g,e,i,j,b,d] h:=zB H
def zRz(H :
 EvO (zE E 132 f b) fun o=>
 EvO (zH E 134 h o) fun p=>
 EvO (zC E .sub 3 b (iI 1)) fun q=>
 EvO (zE E 132 f q) fun r=>
 EvO (zH E 134 h r) fun t=>
 Ev s (zT (zV E) g [p,t] h) fun d=>
 EvO (zC E .lss 3 d.1 (iI 0)) fun i=>
 EvO (zAY .not i) fun j=>
 BrK j (PI (zBi s) K 23 [f,k,l,g,m,e] d.2) (PI (zBi s) K 21 [f,k,l,g,m,e,b] d.2)):PI (zBi s) K 20 [f,k,l,g,m,e,b] h:=zB H
def zRy(H :
 EvO (zC E .sub 3 b (iI 1)) fun r=>
 EvO (zC E .sub 3 b (iI 1)) fun t=>
 EvO (zE E 132 d t) fun u=>
 EvO (zH E 134 h u) fun w=>
 EvO (zE E 132 d b) fun f=>
 EvO (zH E 134 h f) fun g=>
 EvO (zE E 132 d b) fun i=>
 Ev s (zb E 134 h i w) fun j=>
 EvO (zE E 132 d r) fun k=>
 Ev s (zb E 134 j.2 k g) fun l=>
 PI (zBi s) K 22 [d,m,o,p,q,e,b] l.2):PI (zBi s) K 21 [d,m,o,p,q,e,b] h:=zB H
def zRx(H :
 EvO (zC E .add 3 d (iI 1)) fun k=>
 PI (zBi s) K 19 [e,f,g,i,j,b,k] h):PI (zBi s) K 22 [e,f,g,i,j,b,d] h:=zB H
def zRw(H :
 EvO (zC E .add 3 b (iI 1)) fun j=>
 PI (zBi s) K 3 [d,e,f,g,i,j] h):PI (zBi s) K 23 [d,e,f,g,i,b] h:=zB H
def zRv(H :
 K .ret [(.bool false)] h):PI (zBi s) K 24 [] h:=zB H
def zmY(H:PI (zBi s) (KR E [.tmp 8] Rp) 0 [v0,v1,v2,v3] h):EvC E s Tryz.f253 [v0,v1,v2,v3] h Rp:=zAD (zBi s) H
def zhl:E.tab.fn.get 253=some Tryz.f253:=by kernel_rfl
def zdL:Tryz.f253.body=some zsx:=by kernel_rfl
def zhk(l:List Value)(h:AH):E.sum 253 l h=none:=by kernel_rfl
def zsw:Code:=zc Tryz.f254
def zFY(s:Bool):Cx:=⟨E,s,none,zsw,[([0],[0,1,2,3,4]),([1,0],[0,1,2,3,4]),([1,1,0],[0,1,2,4]),([1,1,1,0,0,0,0,0,0,0,0,0],[0,1,4,11,12]),([1,1,1,0,0,0,0,0,0,0,1,0],[0,1,4,11,12]),([1,1,1,0,0,0,0,1,0,0,0,0,0],[0,1,4,11,12]),([1,1,1,0,0,0,0,1,0,0,0,1,0],[0,1,4,11,12]),([1,1,1,0,0,0,0,1,1,0,0],[0,1,4,11,12]),([1,1,1,0,0,0,0,1,1,1,0],[0,1,4,11,12]),([1,1,1,0,0,0,0,1,1,1,1,0],[0,1,4,11,12]),([1,1,1,0,0,0,0,1,1,1,1,1],[0,1,4,11,12]),([1,1,1,1,0],[11])],[10],[]⟩
abbrev zjQ(s:Bool)(K:KF)(e f g b d:Value)(h:AH):Prop:=PI (zFY s) K 3 [e,f,g,b,d] h
abbrev zjP(s:Bool)(K:KF)(e f g b d:Value)(h:AH):Prop:=PI (zFY s) K 5 [e,f,g,b,d] h
abbrev zpN(s:Bool)(K:KF)(e f g b d:Value)(h:AH):Prop:=PI (zFY s) K 7 [e,f,g,b,d] h
def zYr(H :
 PI (zFY s) K 1 [b,d,e,f,g] h):PI (zFY s) K 0 [b,d,e,f,g] h:=zB H
def zYq(H :
 EvO (zE E 132 b l) fun p=>
 EvO (zH E 134 h p) fun q=>
 EvO (zE E 132 b d) fun e=>
 EvO (zH E 134 h e) fun f=>
 EvO (zE E 132 b d) fun g=>
 Ev s (zb E 134 h g q) fun i=>
 EvO (zE E 132 b l) fun j=>
 Ev s (zb E 134 i.2 j f) fun k=>
 PI (zFY s) K 2 [b,d,m,o] k.2):PI (zFY s) K 1 [b,d,m,l,o] h:=zB H
def zYp(H :
 EvO (zC E .add 3 b (iI 1)) fun g=>
 EvO (zC E .sub 3 e (iI 1)) fun i=>
 PI (zFY s) K 3 [d,b,f,g,i] h):PI (zFY s) K 2 [d,b,e,f] h:=zB H
def zMj(H :
 EvO (zC E .leq 3 d e) fun b=>
 EvO (gdB b true j) fun r=>
 EvO (gdB b true g) fun t=>
 EvO (gdB b true i) fun u=>
 EvO (gdB b true (zE E 132 t u)) fun w=>
 EvO (gdB b true (zH E 134 h w)) fun x=>
 EvO (gdB b true g) fun y=>
 EvO (gdB b true d) fun k=>
 EvO (gdB b true (zE E 132 y k)) fun l=>
 EvO (gdB b true (zH E 134 h l)) fun m=>
 Ev s (gdW b true (zT (zV E) r [x,m] h) h) fun f=>
 EvO (gdB b true (zC E .lss 3 f.1 (iI 0))) fun o=>
 EvO (gdB b true (zAY .not o)) fun p=>
 EvO (zAE b p (some (.bool false))) fun q=>
 BrK q (PI (zFY s) K 4 [g,i,j,d,e] f.2) (PI (zFY s) K 5 [g,i,j,d,e] f.2)):PI (zFY s) K 3 [g,i,j,d,e] h:=zB H
def zYo(H :
 EvO (zC E .add 3 b (iI 1)) fun i=>
 PI (zFY s) K 3 [e,f,g,i,d] h):PI (zFY s) K 4 [e,f,g,b,d] h:=zB H
def zMi(H :
 EvO (zC E .leq 3 e d) fun b=>
 EvO (gdB b true j) fun q=>
 EvO (gdB b true g) fun r=>
 EvO (gdB b true i) fun t=>
 EvO (gdB b true (zE E 132 r t)) fun u=>
 EvO (gdB b true (zH E 134 h u)) fun w=>
 EvO (gdB b true g) fun x=>
 EvO (gdB b true d) fun k=>
 EvO (gdB b true (zE E 132 x k)) fun l=>
 EvO (gdB b true (zH E 134 h l)) fun m=>
 Ev s (gdW b true (zT (zV E) q [w,m] h) h) fun f=>
 EvO (gdB b true (zC E .lss 3 f.1 (iI 0))) fun o=>
 EvO (zAE b o (some (.bool false))) fun p=>
 BrK p (PI (zFY s) K 6 [g,i,j,e,d] f.2) (PI (zFY s) K 7 [g,i,j,e,d] f.2)):PI (zFY s) K 5 [g,i,j,e,d] h:=zB H
def zYn(H :
 EvO (zC E .sub 3 d (iI 1)) fun i=>
 PI (zFY s) K 5 [e,f,g,b,i] h):PI (zFY s) K 6 [e,f,g,b,d] h:=zB H
def zMh(H :
 EvO (zC E .gtr 3 b d) fun i=>
 BrK i (PI (zFY s) K 11 [b] h) (PI (zFY s) K 8 [e,f,g,b,d] h)):PI (zFY s) K 7 [e,f,g,b,d] h:=zB H
def zYm(H :
 EvO (zE E 132 e d) fun p=>
 EvO (zH E 134 h p) fun q=>
 EvO (zE E 132 e b) fun f=>
 EvO (zH E 134 h f) fun g=>
 EvO (zE E 132 e b) fun i=>
 Ev s (zb E 134 h i q) fun j=>
 EvO (zE E 132 e d) fun k=>
 Ev s (zb E 134 j.2 k g) fun l=>
 PI (zFY s) K 9 [e,m,o,b,d] l.2):PI (zFY s) K 8 [e,m,o,b,d] h:=zB H
def zYl(H :
 EvO (zC E .add 3 b (iI 1)) fun i=>
 PI (zFY s) K 10 [e,f,g,i,d] h):PI (zFY s) K 9 [e,f,g,b,d] h:=zB H
def zRu(H :
 EvO (zC E .sub 3 d (iI 1)) fun i=>
 PI (zFY s) K 3 [e,f,g,b,i] h):PI (zFY s) K 10 [e,f,g,b,d] h:=zB H
def zJ7(H :
 K .ret [b] h):PI (zFY s) K 11 [b] h:=zB H
def zmX(H:PI (zFY s) (KR E [.tmp 10] Rp) 0 [v0,v1,v2,v3,v4] h):EvC E s Tryz.f254 [v0,v1,v2,v3,v4] h Rp:=zAD (zFY s) H
def zhj:E.tab.fn.get 254=some Tryz.f254:=by kernel_rfl
def zdK:Tryz.f254.body=some zsw:=by kernel_rfl
def zhi(l:List Value)(h:AH):E.sum 254 l h=none:=by kernel_rfl
def zsv:Code:=zc Tryz.f255
def zCH(s:Bool):Cx:=⟨E,s,none,zsv,[([0],[0,1,2,3,4]),([1,0],[0,1,2,3,4]),([1,1,0],[0,1,2,4]),([1,1,1,0,0,0,0,0],[0,1,4,12,13]),([1,1,1,0,0,0,1,0],[0,1,4,12,13]),([1,1,1,1,0,0,0,0,0],[0,1,4,12,13]),([1,1,1,1,0,0,0,1,0],[0,1,4,12,13]),([1,1,1,1,1,0,0],[0,1,4,12,13]),([1,1,1,1,1,0,1,0,0],[0,1,13]),([1,1,1,1,1,0,1,0,1,0],[13]),([1,1,1,1,1,1,0],[0,1,4,12,13]),([1,1,1,1,1,1,1,0],[0,1,4,12,13]),([1,1,1,1,1,1,1,1,0],[0,1,4,12,13]),([1,1,1,1,1,1,1,1,1,0,0,0,0,0,0,0,0,0],[0,1,4,12,13]),([1,1,1,1,1,1,1,1,1,0,0,0,0,0,0,0,1,0],[0,1,4,12,13]),([1,1,1,1,1,1,1,1,1,0,0,0,0,1,0,0,0,0,0],[0,1,4,12,13]),([1,1,1,1,1,1,1,1,1,0,0,0,0,1,0,0,0,1,0],[0,1,4,12,13]),([1,1,1,1,1,1,1,1,1,0,0,0,0,1,1,0,0],[0,1,4,12,13]),([1,1,1,1,1,1,1,1,1,0,0,0,0,1,1,1,0],[0,1,4,12,13]),([1,1,1,1,1,1,1,1,1,0,0,0,0,1,1,1,1,0],[0,1,4,12,13]),([1,1,1,1,1,1,1,1,1,0,0,0,0,1,1,1,1,1],[0,1,4,12,13]),([1,1,1,1,1,1,1,1,1,1,0],[0,1,13]),([1,1,1,1,1,1,1,1,1,1,1,0],[13])],[10,11],[]⟩
abbrev zpM(s:Bool)(K:KF)(e f g b d:Value)(h:AH):Prop:=PI (zCH s) K 3 [e,f,g,b,d] h
abbrev zjO(s:Bool)(K:KF)(e f g b d:Value)(h:AH):Prop:=PI (zCH s) K 5 [e,f,g,b,d] h
abbrev zpL(s:Bool)(K:KF)(e f g b d:Value)(h:AH):Prop:=PI (zCH s) K 7 [e,f,g,b,d] h
abbrev zYj(s:Bool)(K:KF)(e f g b d:Value)(h:AH):Prop:=PI (zCH s) K 13 [e,f,g,b,d] h
abbrev zYi(s:Bool)(K:KF)(e f g b d:Value)(h:AH):Prop:=PI (zCH s) K 15 [e,f,g,b,d] h
abbrev zl9(s:Bool)(K:KF)(e f g b d:Value)(h:AH):Prop:=PI (zCH s) K 17 [e,f,g,b,d] h
def zYk(H :
 PI (zCH s) K 1 [b,d,e,f,g] h):PI (zCH s) K 0 [b,d,e,f,g] h:=zB H
def zYh(H :
 EvO (zE E 132 b l) fun p=>
 EvO (zH E 134 h p) fun q=>
 EvO (zE E 132 b d) fun e=>
 EvO (zH E 134 h e) fun f=>
 EvO (zE E 132 b d) fun g=>
 Ev s (zb E 134 h g q) fun i=>
 EvO (zE E 132 b l) fun j=>
 Ev s (zb E 134 i.2 j f) fun k=>
 PI (zCH s) K 2 [b,d,m,o] k.2):PI (zCH s) K 1 [b,d,m,l,o] h:=zB H
def zYg(H :
 EvO (zC E .add 3 b (iI 1)) fun g=>
 EvO (zC E .sub 3 e (iI 1)) fun i=>
 PI (zCH s) K 3 [d,b,f,g,i] h):PI (zCH s) K 2 [d,b,e,f] h:=zB H
def zMg(H :
 EvO (zC E .leq 3 d e) fun b=>
 EvO (gdB b true j) fun q=>
 EvO (gdB b true g) fun r=>
 EvO (gdB b true d) fun t=>
 EvO (gdB b true (zE E 132 r t)) fun u=>
 EvO (gdB b true (zH E 134 h u)) fun w=>
 EvO (gdB b true g) fun x=>
 EvO (gdB b true i) fun k=>
 EvO (gdB b true (zE E 132 x k)) fun l=>
 EvO (gdB b true (zH E 134 h l)) fun m=>
 Ev s (gdW b true (zT (zV E) q [w,m] h) h) fun f=>
 EvO (gdB b true (zC E .lss 3 f.1 (iI 0))) fun o=>
 EvO (zAE b o (some (.bool false))) fun p=>
 BrK p (PI (zCH s) K 4 [g,i,j,d,e] f.2) (PI (zCH s) K 5 [g,i,j,d,e] f.2)):PI (zCH s) K 3 [g,i,j,d,e] h:=zB H
def zYf(H :
 EvO (zC E .add 3 b (iI 1)) fun i=>
 PI (zCH s) K 3 [e,f,g,i,d] h):PI (zCH s) K 4 [e,f,g,b,d] h:=zB H
def zMf(H :
 EvO (zC E .leq 3 e d) fun b=>
 EvO (gdB b true j) fun r=>
 EvO (gdB b true g) fun t=>
 EvO (gdB b true d) fun u=>
 EvO (gdB b true (zE E 132 t u)) fun w=>
 EvO (gdB b true (zH E 134 h w)) fun x=>
 EvO (gdB b true g) fun y=>
 EvO (gdB b true i) fun k=>
 EvO (gdB b true (zE E 132 y k)) fun l=>
 EvO (gdB b true (zH E 134 h l)) fun m=>
 Ev s (gdW b true (zT (zV E) r [x,m] h) h) fun f=>
 EvO (gdB b true (zC E .lss 3 f.1 (iI 0))) fun o=>
 EvO (gdB b true (zAY .not o)) fun p=>
 EvO (zAE b p (some (.bool false))) fun q=>
 BrK q (PI (zCH s) K 6 [g,i,j,e,d] f.2) (PI (zCH s) K 7 [g,i,j,e,d] f.2)):PI (zCH s) K 5 [g,i,j,e,d] h:=zB H
def zYe(H :
 EvO (zC E .sub 3 d (iI 1)) fun i=>
 PI (zCH s) K 5 [e,f,g,b,i] h):PI (zCH s) K 6 [e,f,g,b,d] h:=zB H
def zYd(H :
 EvO (zC E .gtr 3 d b) fun i=>
 BrK i (PI (zCH s) K 8 [e,f,b] h) (PI (zCH s) K 10 [e,f,g,d,b] h)):PI (zCH s) K 7 [e,f,g,d,b] h:=zB H
def zYc(H :
 EvO (zE E 132 d l) fun m=>
 EvO (zH E 134 h m) fun o=>
 EvO (zE E 132 d b) fun e=>
 EvO (zH E 134 h e) fun f=>
 EvO (zE E 132 d b) fun g=>
 Ev s (zb E 134 h g o) fun i=>
 EvO (zE E 132 d l) fun j=>
 Ev s (zb E 134 i.2 j f) fun k=>
 PI (zCH s) K 9 [b] k.2):PI (zCH s) K 8 [d,l,b] h:=zB H
def zYb(H :
 K .ret [b,(.bool true)] h):PI (zCH s) K 9 [b] h:=zB H
def zRt(H :
 EvO (zE E 132 e d) fun p=>
 EvO (zH E 134 h p) fun q=>
 EvO (zE E 132 e b) fun f=>
 EvO (zH E 134 h f) fun g=>
 EvO (zE E 132 e b) fun i=>
 Ev s (zb E 134 h i q) fun j=>
 EvO (zE E 132 e d) fun k=>
 Ev s (zb E 134 j.2 k g) fun l=>
 PI (zCH s) K 11 [e,m,o,b,d] l.2):PI (zCH s) K 10 [e,m,o,b,d] h:=zB H
def zRs(H :
 EvO (zC E .add 3 b (iI 1)) fun i=>
 PI (zCH s) K 12 [e,f,g,i,d] h):PI (zCH s) K 11 [e,f,g,b,d] h:=zB H
def zRr(H :
 EvO (zC E .sub 3 d (iI 1)) fun i=>
 PI (zCH s) K 13 [e,f,g,b,i] h):PI (zCH s) K 12 [e,f,g,b,d] h:=zB H
def zJ6(H :
 EvO (zC E .leq 3 d e) fun b=>
 EvO (gdB b true j) fun q=>
 EvO (gdB b true g) fun r=>
 EvO (gdB b true d) fun t=>
 EvO (gdB b true (zE E 132 r t)) fun u=>
 EvO (gdB b true (zH E 134 h u)) fun w=>
 EvO (gdB b true g) fun x=>
 EvO (gdB b true i) fun k=>
 EvO (gdB b true (zE E 132 x k)) fun l=>
 EvO (gdB b true (zH E 134 h l)) fun m=>
 Ev s (gdW b true (zT (zV E) q [w,m] h) h) fun f=>
 EvO (gdB b true (zC E .lss 3 f.1 (iI 0))) fun o=>
 EvO (zAE b o (some (.bool false))) fun p=>
 BrK p (PI (zCH s) K 14 [g,i,j,d,e] f.2) (PI (zCH s) K 15 [g,i,j,d,e] f.2)):PI (zCH s) K 13 [g,i,j,d,e] h:=zB H
def zRq(H :
 EvO (zC E .add 3 b (iI 1)) fun i=>
 PI (zCH s) K 13 [e,f,g,i,d] h):PI (zCH s) K 14 [e,f,g,b,d] h:=zB H
def zJ5(H :
 EvO (zC E .leq 3 e d) fun b=>
 EvO (gdB b true j) fun r=>
 EvO (gdB b true g) fun t=>
 EvO (gdB b true d) fun u=>
 EvO (gdB b true (zE E 132 t u)) fun w=>
 EvO (gdB b true (zH E 134 h w)) fun x=>
 EvO (gdB b true g) fun y=>
 EvO (gdB b true i) fun k=>
 EvO (gdB b true (zE E 132 y k)) fun l=>
 EvO (gdB b true (zH E 134 h l)) fun m=>
 Ev s (gdW b true (zT (zV E) r [x,m] h) h) fun f=>
 EvO (gdB b true (zC E .lss 3 f.1 (iI 0))) fun o=>
 EvO (gdB b true (zAY .not o)) fun p=>
 EvO (zAE b p (some (.bool false))) fun q=>
 BrK q (PI (zCH s) K 16 [g,i,j,e,d] f.2) (PI (zCH s) K 17 [g,i,j,e,d] f.2)):PI (zCH s) K 15 [g,i,j,e,d] h:=zB H
def zRp(H :
 EvO (zC E .sub 3 d (iI 1)) fun i=>
 PI (zCH s) K 15 [e,f,g,b,i] h):PI (zCH s) K 16 [e,f,g,b,d] h:=zB H
def zJ4(H :
 EvO (zC E .gtr 3 d b) fun i=>
 BrK i (PI (zCH s) K 21 [e,f,b] h) (PI (zCH s) K 18 [e,f,g,d,b] h)):PI (zCH s) K 17 [e,f,g,d,b] h:=zB H
def zRo(H :
 EvO (zE E 132 e d) fun p=>
 EvO (zH E 134 h p) fun q=>
 EvO (zE E 132 e b) fun f=>
 EvO (zH E 134 h f) fun g=>
 EvO (zE E 132 e b) fun i=>
 Ev s (zb E 134 h i q) fun j=>
 EvO (zE E 132 e d) fun k=>
 Ev s (zb E 134 j.2 k g) fun l=>
 PI (zCH s) K 19 [e,m,o,b,d] l.2):PI (zCH s) K 18 [e,m,o,b,d] h:=zB H
def zRn(H :
 EvO (zC E .add 3 b (iI 1)) fun i=>
 PI (zCH s) K 20 [e,f,g,i,d] h):PI (zCH s) K 19 [e,f,g,b,d] h:=zB H
def zRm(H :
 EvO (zC E .sub 3 d (iI 1)) fun i=>
 PI (zCH s) K 13 [e,f,g,b,i] h):PI (zCH s) K 20 [e,f,g,b,d] h:=zB H
def zJ3(H :
 EvO (zE E 132 d l) fun m=>
 EvO (zH E 134 h m) fun o=>
 EvO (zE E 132 d b) fun e=>
 EvO (zH E 134 h e) fun f=>
 EvO (zE E 132 d b) fun g=>
 Ev s (zb E 134 h g o) fun i=>
 EvO (zE E 132 d l) fun j=>
 Ev s (zb E 134 i.2 j f) fun k=>
 PI (zCH s) K 22 [b] k.2):PI (zCH s) K 21 [d,l,b] h:=zB H
def zJ2(H :
 K .ret [b,(.bool false)] h):PI (zCH s) K 22 [b] h:=zB H
def zmW(H:PI (zCH s) (KR E [.tmp 10,.tmp 11] Rp) 0 [v0,v1,v2,v3,v4] h):EvC E s Tryz.f255 [v0,v1,v2,v3,v4] h Rp:=zAD (zCH s) H
def zhh:E.tab.fn.get 255=some Tryz.f255:=by kernel_rfl
def zdJ:Tryz.f255.body=some zsv:=by kernel_rfl
def zhg(l:List Value)(h:AH):E.sum 255 l h=none:=by kernel_rfl
def zqw:Code:=zc Tryz.f221
def zBK(s:Bool):Cx:=⟨E,s,none,zqw,[([0],[0,1,2,3,4]),([1,0],[0,1,2,3,4,10]),([1,1,0,0,0,0],[0,1,2,3,4,10,11]),([1,1,0,0,0,1,0,0],[0,1,2,3,4,10,11,12]),([1,1,0,0,0,1,0,1,0,0],[0,1,2,4]),([1,1,0,0,0,1,1,0,0],[0,1,2,3,4,10,11,12]),([1,1,0,0,0,1,1,0,1,0,0],[0,1,2,4]),([1,1,0,0,0,1,1,1,0,0],[0,1,2,3,4,10,11,12]),([1,1,0,0,0,1,1,1,0,1,0,0],[0,1,2,3,4,10,11,12]),([1,1,0,0,0,1,1,1,0,1,0,1],[0,1,2,3,4,10,11,12]),([1,1,0,0,0,1,1,1,1,0],[0,1,2,3,4,10,11,12]),([1,1,0,0,0,1,1,1,1,1,0,0],[0,1,2,3,4,10,11,12,13,14]),([1,1,0,0,0,1,1,1,1,1,0,1,0,0],[0,1,2,3,4,10,11,12,13]),([1,1,0,0,0,1,1,1,1,1,0,1,0,1,0],[0,1,2,3,4,10,11,12,13]),([1,1,0,0,0,1,1,1,1,1,0,1,0,1,1],[0,1,2,3,4,10,11,12,13]),([1,1,0,0,0,1,1,1,1,1,1,0,0],[0,1,2,3,4,10,11,12,13,14]),([1,1,0,0,0,1,1,1,1,1,1,0,1,0,0],[0,1,2,3,4,10,11,12,13]),([1,1,0,0,0,1,1,1,1,1,1,1,0,0],[0,1,2,3,4,10,11,12,13]),([1,1,0,0,0,1,1,1,1,1,1,1,0,1,0,0],[0,1,2,3,4,10,11,13]),([1,1,0,0,0,1,1,1,1,1,1,1,0,1,0,1,0],[0,2,3,4,10,11,15]),([1,1,0,0,0,1,1,1,1,1,1,1,1,0],[0,1,2,3,4,12,13]),([1,1,0,0,0,1,1,1,1,1,1,1,1,1,0],[0,1,2,3,4,12,16,17]),([1,1,0,0,0,1,1,1,1,1,1,1,1,1,1,0],[0,1,2,3,4,11,12,16]),([1,1,0,0,0,1,1,1,1,1,1,1,1,1,1,1,0],[0,1,2,3,4,11,12,16,18,19]),([1,1,0,0,0,1,1,1,1,1,1,1,1,1,1,1,1,0],[0,1,2,3,4,11,16,18,19,20]),([1,1,0,0,0,1,1,1,1,1,1,1,1,1,1,1,1,1,0,0],[0,1,2,3,4,11,16,18,20]),([1,1,0,0,0,1,1,1,1,1,1,1,1,1,1,1,1,1,0,1,0],[0,1,2,3,4,10,11,16]),([1,1,0,0,0,1,1,1,1,1,1,1,1,1,1,1,1,1,0,1,1],[0,2,3,4,10,11,16]),([1,1,0,0,0,1,1,1,1,1,1,1,1,1,1,1,1,1,1,0],[0,1,2,3,4,11,16,19,20]),([1,1,0,0,0,1,1,1,1,1,1,1,1,1,1,1,1,1,1,1,0],[0,1,2,3,4,10,11,16]),([1,1,0,0,0,1,1,1,1,1,1,1,1,1,1,1,1,1,1,1,1],[0,1,3,4,10,11,16])],[],[]⟩
abbrev zpj(s:Bool)(K:KF)(e f g i j b d:Value)(h:AH):Prop:=PI (zBK s) K 2 [e,f,g,i,j,b,d] h
abbrev zmJ(s:Bool)(K:KF)(f g i j k b d e:Value)(h:AH):Prop:=PI (zBK s) K 10 [f,g,i,j,k,b,d,e] h
abbrev zmI(s:Bool)(K:KF)(i j k l m b d e f g:Value)(h:AH):Prop:=PI (zBK s) K 15 [i,j,k,l,m,b,d,e,f,g] h
abbrev zmH(s:Bool)(K:KF)(g i j k l b d e f:Value)(h:AH):Prop:=PI (zBK s) K 16 [g,i,j,k,l,b,d,e,f] h
abbrev zmG(s:Bool)(K:KF)(g i j k l b d e f:Value)(h:AH):Prop:=PI (zBK s) K 17 [g,i,j,k,l,b,d,e,f] h
abbrev zmF(s:Bool)(K:KF)(e f g i j b d:Value)(h:AH):Prop:=PI (zBK s) K 20 [e,f,g,i,j,b,d] h
def zIb(H :
 PI (zBK s) K 1 [b,d,e,f,g,(.bool true)] h):PI (zBK s) K 0 [b,d,e,f,g] h:=zB H
def zIa(H :
 PI (zBK s) K 2 [d,e,f,g,i,b,(.bool true)] h):PI (zBK s) K 1 [d,e,f,g,i,b] h:=zB H
def zIZ(H :
 EvO (zC E .sub 3 f e) fun k=>
 PI (zBK s) K 3 [g,e,f,i,j,b,d,k] h):PI (zBK s) K 2 [g,e,f,i,j,b,d] h:=zB H
def zIY(H :
 EvO (zC E .leq 3 b (iI 12)) fun l=>
 BrK l (PI (zBK s) K 4 [f,g,i,j] h) (PI (zBK s) K 5 [f,g,i,k,j,d,e,b] h)):PI (zBK s) K 3 [f,g,i,k,j,d,e,b] h:=zB H
def zIX(H :
 Ev s (zT (zV E) (some (.func (.func 248) #[] #[])) [b,d,e,f] h) fun g=>
 K .ret [] g.2):PI (zBK s) K 4 [b,d,e,f] h:=zB H
def zaP(H :
 EvO (zC E .eql 3 j (iI 0)) fun l=>
 BrK l (PI (zBK s) K 6 [f,g,i,k] h) (PI (zBK s) K 7 [f,g,i,j,k,b,d,e] h)):PI (zBK s) K 5 [f,g,i,j,k,b,d,e] h:=zB H
def zaO(H :
 Ev s (zT (zV E) (some (.func (.func 249) #[] #[])) [b,d,e,f] h) fun g=>
 K .ret [] g.2):PI (zBK s) K 6 [b,d,e,f] h:=zB H
def zaN(H :
 EvO (zAY .not b) fun l=>
 BrK l (PI (zBK s) K 8 [f,g,i,j,k,b,d,e] h) (PI (zBK s) K 10 [f,g,i,j,k,b,d,e] h)):PI (zBK s) K 7 [f,g,i,j,k,b,d,e] h:=zB H
def zaM(H :
 Ev s (zT (zV E) (some (.func (.func 250) #[] #[])) [f,g,i,j] h) fun l=>
 PI (zBK s) K 9 [f,g,i,k,j,b,d,e] l.2):PI (zBK s) K 8 [f,g,i,k,j,b,d,e] h:=zB H
def zaL(H :
 EvO (zC E .sub 3 j (iI 1)) fun l=>
 PI (zBK s) K 10 [f,g,i,l,k,b,d,e] h):PI (zBK s) K 9 [f,g,i,j,k,b,d,e] h:=zB H
def zSh(H :
 Ev s (zT (zV E) (some (.func (.func 251) #[] #[])) [g,i,j,k] h) fun f=>
 EvO (zt 0 f.1) fun m=>
 EvO (zt 1 f.1) fun o=>
 PI (zBK s) K 11 [g,i,j,l,k,b,d,e,m,o] f.2):PI (zBK s) K 10 [g,i,j,l,k,b,d,e] h:=zB H
def zSg(H :
 EvO (zC E .eql 200 g (iI 2)) fun o=>
 BrK o (PI (zBK s) K 12 [i,j,k,l,m,b,d,e,f] h) (PI (zBK s) K 15 [i,j,k,l,m,b,d,e,f,g] h)):PI (zBK s) K 11 [i,j,k,l,m,b,d,e,f,g] h:=zB H
def zSf(H :
 Ev s (zT (zV E) (some (.func (.func 252) #[] #[])) [g,i,j,k] h) fun m=>
 PI (zBK s) K 13 [g,i,j,l,k,b,d,e,f] m.2):PI (zBK s) K 12 [g,i,j,l,k,b,d,e,f] h:=zB H
def zSe(H :
 EvO (zC E .sub 3 i (iI 1)) fun m=>
 EvO (zC E .sub 3 f g) fun o=>
 EvO (zC E .sub 3 m o) fun p=>
 PI (zBK s) K 14 [j,g,i,k,l,b,d,e,p] h):PI (zBK s) K 13 [j,g,i,k,l,b,d,e,f] h:=zB H
def zSd(H :
 PI (zBK s) K 15 [g,i,j,k,l,b,d,e,f,(iI 1)] h):PI (zBK s) K 14 [g,i,j,k,l,b,d,e,f] h:=zB H
def zSc(H :
 EvO (gdB b true d) fun p=>
 EvO (zAE b p (some (.bool false))) fun i=>
 EvO (gdB i true g) fun q=>
 EvO (gdB i true (zC E .eql 200 q (iI 1))) fun r=>
 EvO (zAE i r (some (.bool false))) fun t=>
 BrK t (PI (zBK s) K 16 [j,k,l,m,o,b,d,e,f] h) (PI (zBK s) K 17 [j,k,l,m,o,b,d,e,f] h)):PI (zBK s) K 15 [j,k,l,m,o,b,d,e,f,g] h:=zB H
def zSb(H :
 Ev s (zT (zV E) (some (.func (.func 253) #[] #[])) [i,j,k,l] h) fun g=>
 BrK g.1 (K .ret [] g.2) (PI (zBK s) K 17 [i,j,k,m,l,b,d,e,f] g.2)):PI (zBK s) K 16 [i,j,k,m,l,b,d,e,f] h:=zB H
def zSa(H :
 EvO (zC E .gtr 3 g (iI 0)) fun b=>
 EvO (gdB b true l) fun x=>
 EvO (gdB b true f) fun y=>
 EvO (gdB b true g) fun z=>
 EvO (gdB b true (zC E .sub 3 z (iI 1))) fun A=>
 EvO (gdB b true (zE E 132 y A)) fun B=>
 EvO (gdB b true (zH E 134 h B)) fun C=>
 EvO (gdB b true f) fun D=>
 EvO (gdB b true d) fun m=>
 EvO (gdB b true (zE E 132 D m)) fun o=>
 EvO (gdB b true (zH E 134 h o)) fun p=>
 Ev s (gdW b true (zT (zV E) x [C,p] h) h) fun e=>
 EvO (gdB b true (zC E .lss 3 e.1 (iI 0))) fun q=>
 EvO (gdB b true (zAY .not q)) fun r=>
 EvO (zAE b r (some (.bool false))) fun t=>
 BrK t (PI (zBK s) K 18 [f,g,u,w,l,i,j,d] e.2) (PI (zBK s) K 20 [f,g,u,w,l,k,d] e.2)):PI (zBK s) K 17 [f,g,u,w,l,i,j,k,d] h:=zB H
def zSZ(H :
 Ev s (zT (zV E) (some (.func (.func 254) #[] #[])) [f,k,g,e,i] h) fun j=>
 PI (zBK s) K 19 [f,g,l,i,b,d,j.1] j.2):PI (zBK s) K 18 [f,k,g,l,i,b,d,e] h:=zB H
def zSY(H :
 PI (zBK s) K 2 [f,e,g,i,j,b,d] h):PI (zBK s) K 19 [f,g,i,j,b,d,e] h:=zB H
def zSX(H :
 Ev s (zT (zV E) (some (.func (.func 255) #[] #[])) [f,g,i,d,j] h) fun e=>
 EvO (zt 0 e.1) fun l=>
 EvO (zt 1 e.1) fun m=>
 PI (zBK s) K 21 [f,g,i,k,j,b,l,m] e.2):PI (zBK s) K 20 [f,g,i,k,j,b,d] h:=zB H
def zSW(H :
 PI (zBK s) K 22 [f,g,i,j,k,e,b,d] h):PI (zBK s) K 21 [f,g,i,j,k,b,d,e] h:=zB H
def zSV(H :
 EvO (zC E .sub 3 b f) fun l=>
 EvO (zC E .sub 3 g b) fun m=>
 PI (zBK s) K 23 [i,f,g,j,k,d,e,b,l,m] h):PI (zBK s) K 22 [i,f,g,j,k,d,e,b] h:=zB H
def zSU(H :
 EvO (ze E (zk [(121,d)]) (zn zqw [1,1,0,0,0,1,1,1,1,1,1,1,1,1,1,1,0] 1)) fun o=>
 PI (zBK s) K 24 [i,j,k,l,m,b,e,f,g,o] h):PI (zBK s) K 23 [i,j,k,l,m,b,d,e,f,g] h:=zB H
def zST(H :
 EvO (zC E .lss 3 e f) fun o=>
 BrK o (PI (zBK s) K 25 [i,j,k,l,m,b,d,e,g] h) (PI (zBK s) K 28 [i,j,k,l,m,b,d,f,g] h)):PI (zBK s) K 24 [i,j,k,l,m,b,d,e,f,g] h:=zB H
def zSS(H :
 EvO (zC E .geq 3 e f) fun m=>
 PI (zBK s) K 26 [g,i,j,k,l,m,b,d] h):PI (zBK s) K 25 [g,i,j,k,l,b,d,e,f] h:=zB H
def zSR(H :
 Ev s (zT (zV E) (some (.func (.func 221) #[] #[])) [f,j,b,g,i] h) fun l=>
 PI (zBK s) K 27 [f,k,g,i,d,e,b] l.2):PI (zBK s) K 26 [f,j,k,g,i,d,e,b] h:=zB H
def zSQ(H :
 EvO (zC E .add 3 e (iI 1)) fun k=>
 PI (zBK s) K 2 [f,k,g,i,j,b,d] h):PI (zBK s) K 27 [f,g,i,j,b,d,e] h:=zB H
def zSP(H :
 EvO (zC E .geq 3 e f) fun m=>
 PI (zBK s) K 29 [g,i,j,k,l,m,b,d] h):PI (zBK s) K 28 [g,i,j,k,l,b,d,e,f] h:=zB H
def zSO(H :
 EvO (zC E .add 3 b (iI 1)) fun l=>
 Ev s (zT (zV E) (some (.func (.func 221) #[] #[])) [f,l,k,g,i] h) fun m=>
 PI (zBK s) K 30 [f,j,g,i,d,e,b] m.2):PI (zBK s) K 29 [f,j,k,g,i,d,e,b] h:=zB H
def zSN(H :
 PI (zBK s) K 2 [f,g,e,i,j,b,d] h):PI (zBK s) K 30 [f,g,i,j,b,d,e] h:=zB H
def zdW(H:PI (zBK s) (KR E [] Rp) 0 [v0,v1,v2,v3,v4] h):EvC E s Tryz.f221 [v0,v1,v2,v3,v4] h Rp:=zAD (zBK s) H
def zQe:E.tab.fn.get 221=some Tryz.f221:=by kernel_rfl
def zNZ:Tryz.f221.body=some zqw:=by kernel_rfl
def zQd(l:List Value)(h:AH):E.sum 221 l h=none:=by kernel_rfl
def zTO(aa:h.ok)(hv:zg v=true)(H:PI (zBK true) (KR E [] fun x k=>x=v/\h.qa<=k.wm) 0 [v0,v1,v2,v3,v4] h.qb):(zV E).call 221 [v0,v1,v2,v3,v4] h=some [(v,h)]:=zDn Tryz.f221 aa hv (zAD (zBK true) H)
def zmy:Code:=zc Tryz.f175
def zmi(s:Bool):Cx:=⟨E,s,none,zmy,[([0],[0,1]),([1],[0,1,4])],[],[]⟩
def zNJ(H :
 EvO (zQ E (zk [(5,b)]) (zn zmy [0] 1) h) fun e=>
 PI (zmi s) K 1 [b,d,e] h):PI (zmi s) K 0 [b,d] h:=zB H
def zJY:zQ E (zk [(5,.slice a n c)]) (zn zmy [0] 1) h=some (iI (n:Int)):=by cases a <;> kernel_rfl
def zNI(H :
 EvO (zQ E (zk [(9,b)]) (zn zmy [1] 3) h) fun g=>
 Ev s (zT (zV E) (some (.func (.func 93) #[] #[])) [g] h) fun d=>
 Ev s (zT (zV E) (some (.func (.func 221) #[] #[])) (some [e,(iI 0),b,d.1,f]) d.2) fun i=>
 K .normal [] i.2):PI (zmi s) K 1 [e,f,b] h:=zB H
def zmf(H:PI (zmi s) (KR E [] Rp) 0 [v0,v1] h):EvC E s Tryz.f175 [v0,v1] h Rp:=zAD (zmi s) H
def zhx:E.tab.fn.get 175=some Tryz.f175:=by kernel_rfl
def zdj:Tryz.f175.body=some zmy:=by kernel_rfl
def zhw(l:List Value)(h:AH):E.sum 175 l h=none:=by kernel_rfl
def zTV(aa:h.ok)(hv:zg v=true)(H:PI (zmi true) (KR E [] fun x k=>x=v/\h.qa<=k.wm) 0 [v0,v1] h.qb):(zV E).call 175 [v0,v1] h=some [(v,h)]:=zDn Tryz.f175 aa hv (zAD (zmi true) H)
def zKM:Code:=zc Tryz.f177
def zDf(s:Bool):Cx:=⟨E,s,none,zKM,[([0],[0]),([1,0,0],[0]),([1,0,1,0,0],[0]),([1,1,0,0],[0]),([1,1,0,1,0,0,0,0],[0,3]),([1,1,0,1,0,0,1,0,0,0],[0,3]),([1,1,0,1,0,0,1,0,0,1,0,0],[0,3]),([1,1,0,1,0,0,1,0,0,1,0,1,0,0],[0,3,4]),([1,1,0,1,0,0,1,0,0,1,0,1,0,1,0,0,0,0],[0,3,4,5]),([1,1,0,1,0,0,1,0,0,1,0,1,0,1,0,0,1,0,0,0],[0,3,4,5]),([1,1,0,1,0,0,1,0,0,1,0,1,0,1,0,0,1,0,0,1,0,0],[0,3,4,5]),([1,1,0,1,0,0,1,0,0,1,0,1,0,1,0,0,1,0,0,1,0,1],[0,3,4,5]),([1,1,0,1,0,0,1,0,0,1,0,1,0,1,0,0,1,1],[0,3,4,5]),([1,1,0,1,0,0,1,0,0,1,0,1,1,0],[0,3]),([1,1,0,1,0,0,1,0,0,1,0,1,1,1,0],[0,3]),([1,1,0,1,0,0,1,1],[0,3]),([1,1,1,0],[0])],[2],[]⟩
abbrev zpq(s:Bool)(K:KF)(b d:Value)(h:AH):Prop:=PI (zDf s) K 4 [b,d] h
abbrev zpp(s:Bool)(K:KF)(b d e f:Value)(h:AH):Prop:=PI (zDf s) K 8 [b,d,e,f] h
def zNH(H :
 PI (zDf s) K 1 [b] h):PI (zDf s) K 0 [b] h:=zB H
def zNG(H :
 EvO (zQ E (zk [(6,b)]) (zn zKM [1,0,0] 1) h) fun d=>
 EvO (zC E .lss 3 d (iI 2)) fun e=>
 BrK e (PI (zDf s) K 2 [b] h) (PI (zDf s) K 3 [b] h)):PI (zDf s) K 1 [b] h:=zB H
def zJX:zQ E (zk [(6,.slice a n c)]) (zn zKM [1,0,0] 1) h=some (iI (n:Int)):=by cases a <;> kernel_rfl
def zNF(H :
 K .ret [b] h):PI (zDf s) K 2 [b] h:=zB H
def zbV(H :
 PI (zDf s) K 4 [b,(iI 1)] h):PI (zDf s) K 3 [b] h:=zB H
def zNE(H :
 EvO (zQ E (zk [(11,b)]) (zn zKM [1,1,0,1,0,0,0,0] 2) h) fun e=>
 EvO (zC E .lss 3 d e) fun f=>
 BrK f (PI (zDf s) K 5 [b,d] h) (PI (zDf s) K 16 [b] h)):PI (zDf s) K 4 [b,d] h:=zB H
def zJW:zQ E (zk [(11,.slice a n c)]) (zn zKM [1,1,0,1,0,0,0,0] 2) h=some (iI (n:Int)):=by cases a <;> kernel_rfl
def zbU(H :
 EvO (zE E 132 b d) fun e=>
 EvO (zH E 134 h e) fun f=>
 EvO (zC E .sub 3 d (iI 1)) fun g=>
 EvO (zE E 132 b g) fun i=>
 EvO (zH E 134 h i) fun j=>
 EvO (ze E (zk [(19,f),(24,j)]) (zn zKM [1,1,0,1,0,0,1,0,0,0] 9)) fun k=>
 BrK k (PI (zDf s) K 6 [b,d] h) (PI (zDf s) K 15 [b,d] h)):PI (zDf s) K 5 [b,d] h:=zB H
def zbT(H :
 EvO (ze E (zk [(26,b),(27,d)]) (zn zKM [1,1,0,1,0,0,1,0,0,1,0,0] 2)) fun e=>
 PI (zDf s) K 7 [b,d,e] h):PI (zDf s) K 6 [b,d] h:=zB H
def zbS(H :
 PI (zDf s) K 8 [b,d,e,(iI 1)] h):PI (zDf s) K 7 [b,d,e] h:=zB H
def zND(H :
 EvO (zQ E (zk [(30,e)]) (zn zKM [1,1,0,1,0,0,1,0,0,1,0,1,0,1,0,0,0,0] 2) h) fun g=>
 EvO (zC E .lss 3 f g) fun i=>
 BrK i (PI (zDf s) K 9 [b,d,e,f] h) (PI (zDf s) K 13 [b,d] h)):PI (zDf s) K 8 [b,d,e,f] h:=zB H
def zJV:zQ E (zk [(30,.slice a n c)]) (zn zKM [1,1,0,1,0,0,1,0,0,1,0,1,0,1,0,0,0,0] 2) h=some (iI (n:Int)):=by cases a <;> kernel_rfl
def zbR(H :
 EvO (zE E 132 b d) fun g=>
 EvO (zH E 134 h g) fun i=>
 EvO (zC E .sub 3 d (iI 1)) fun j=>
 EvO (zE E 132 b j) fun k=>
 EvO (zH E 134 h k) fun l=>
 EvO (ze E (zk [(38,i),(43,l)]) (zn zKM [1,1,0,1,0,0,1,0,0,1,0,1,0,1,0,0,1,0,0,0] 9)) fun m=>
 BrK m (PI (zDf s) K 10 [e,f,b,d] h) (PI (zDf s) K 12 [e,f,b,d] h)):PI (zDf s) K 9 [e,f,b,d] h:=zB H
def zSq(H :
 EvO (zE E 132 e f) fun g=>
 EvO (zH E 134 h g) fun i=>
 EvO (zE E 132 b d) fun j=>
 Ev s (zb E 134 h j i) fun k=>
 PI (zDf s) K 11 [b,d,e,f] k.2):PI (zDf s) K 10 [b,d,e,f] h:=zB H
def zSp(H :
 EvO (zC E .add 3 d (iI 1)) fun g=>
 PI (zDf s) K 12 [b,g,e,f] h):PI (zDf s) K 11 [b,d,e,f] h:=zB H
def zKE(H :
 EvO (zC E .add 3 f (iI 1)) fun g=>
 PI (zDf s) K 8 [b,d,e,g] h):PI (zDf s) K 12 [b,d,e,f] h:=zB H
def zSo(H :
 EvO (ze E (zk [(54,b),(55,d)]) (zn zKM [1,1,0,1,0,0,1,0,0,1,0,1,1,0] 2)) fun e=>
 Ev s (zAJ E .clear [132] [e] h) fun f=>
 PI (zDf s) K 14 [b,d] f.2):PI (zDf s) K 13 [b,d] h:=zB H
def zSn(H :
 EvO (ze E (zk [(57,b),(58,d)]) (zn zKM [1,1,0,1,0,0,1,0,0,1,0,1,1,1,0] 2)) fun e=>
 K .ret [e] h):PI (zDf s) K 14 [b,d] h:=zB H
def zSm(H :
 EvO (zC E .add 3 d (iI 1)) fun e=>
 PI (zDf s) K 4 [b,e] h):PI (zDf s) K 15 [b,d] h:=zB H
def zSl(H :
 K .ret [b] h):PI (zDf s) K 16 [b] h:=zB H
def zTU(aa:h.ok)(hv:zg v=true)(H:PI (zDf true) (KR E [.tmp 2] fun x k=>x=v/\h.qa<=k.wm) 0 [v0] h.qb):(zV E).call 177 [v0] h=some [(v,h)]:=zDn Tryz.f177 aa hv (zAD (zDf true) H)
def zdh(H:PI (zDf true) (KR E [.tmp 2] fun x k=>(zg x=false\/k.wm<h.qa)/\Rp x ⟨k.t,k.qa,cond (Nat.ble h.wm k.wm) h.wm k.wm⟩) 0 [v0] h.qb):Ev true ((zV E).call 177 [v0] h) fun x=>Rp x.1 x.2:=zHk Tryz.f177 (zAD (zDf true) H)
def B176:Code:=zc Tryz.f176
def zqQ(s:Bool):Cx:=⟨E,s,none,B176,[([0],[0,1]),([1,0],[2,3])],[4],[]⟩
def zbX(H :
 Ev s (zW 134 h e) fun b=>
 Ev s (zW 134 b.2 f) fun d=>
 PI (zqQ s) K 1 [b.1,d.1] d.2):PI (zqQ s) K 0 [e,f] h:=zB H
def zbW(H :
 EvO (zD E 134 0 i) fun q=>
 EvO (zH E 3 h q) fun r=>
 EvO (zD E 134 0 j) fun t=>
 EvO (zH E 3 h t) fun u=>
 EvO (zD E 134 1 i) fun k=>
 EvO (zH E 3 h k) fun l=>
 EvO (zD E 134 1 j) fun m=>
 EvO (zH E 3 h m) fun o=>
 Ev s (zT (zV E) (some (.func (.func 94) #[] #[])) [r,u] h) fun g=>
 EvO (zH E 3 g.2 m) fun d=>veq 100 d o=true ∧
 (EvO (zH E 3 g.2 k) fun b=>veq 100 b l=true ∧
 (Ev s (zT (zV E) (some (.func (.func 94) #[] #[])) [l,o] g.2) fun p=>
 Ev s (zh E 47 2 (some [(0,g.1),(1,p.1)]) p.2) fun e=>
 Ev s (zT (zV E) (some (.func (.func 171) #[] #[])) [e.1] e.2) fun f=>
 K .ret [f.1] f.2))):PI (zqQ s) K 1 [i,j] h:=zB H
def zdi(aa:h.ok)(hv:zo v=true)(H:PI (zqQ s) (KR E [.tmp 4] fun x k=>x=v/\h.qa<=k.wm) 0 [v0,v1] h.qb):(zV E).call 176 [v0,v1] h=some [(v,h)]:=zAz Tryz.f176 aa hv (zAD (zqQ s) H)
def B91:Code:=zc Tryz.f91
def C91(s:Bool):Cx:=⟨E,s,none,B91,[([0],[0,1]),([1,0,0],[0,1]),([1,0,1,0,0],[]),([1,1,0,0],[0,1]),([1,1,0,1,0,0,0],[0,1,12,13]),([1,1,0,1,0,0,1,1,0,0,0],[0,1,12,13]),([1,1,0,1,0,0,1,1,0,0,1,0],[0,1,5,12,13]),([1,1,0,1,0,0,1,1,0,0,1,1,0,0],[]),([1,1,0,1,0,0,1,1,1],[0,1,12,13]),([1,1,1,0],[])],[4],[]⟩
def zfa(H :
 PI (C91 s) K 1 [b,d] h):PI (C91 s) K 0 [b,d] h:=zB H
def zfZ(H :
 EvO (zQ E (zk [(6,b)]) (zn B91 [1,0,0] 1) h) fun e=>
 EvO (zQ E (zk [(8,d)]) (zn B91 [1,0,0] 3) h) fun f=>
 EvO (zC E .neq 3 e f) fun g=>
 BrK g (PI (C91 s) K 2 [] h) (PI (C91 s) K 3 [b,d] h)):PI (C91 s) K 1 [b,d] h:=zB H
def zUy:zQ E (zk [(6,.slice a n c)]) (zn B91 [1,0,0] 1) h=some (iI (n:Int)):=by cases a <;> kernel_rfl
def zUx:zQ E (zk [(8,.slice a n c)]) (zn B91 [1,0,0] 3) h=some (iI (n:Int)):=by cases a <;> kernel_rfl
def zfY(H :
 K .ret [(.bool false)] h):PI (C91 s) K 2 [] h:=zB H
def zfX(H :
 EvO (zQ E (zk [(11,b)]) (zn B91 [1,1,0,0] 1) h) fun e=>
 PI (C91 s) K 4 [b,d,e,(iI 0)] h):PI (C91 s) K 3 [b,d] h:=zB H
def zUw:zQ E (zk [(11,.slice a n c)]) (zn B91 [1,1,0,0] 1) h=some (iI (n:Int)):=by cases a <;> kernel_rfl
def zQK(H :
 EvO (zC E .lss 3 d b) fun g=>
 BrK g (PI (C91 s) K 5 [e,f,b,d] h) (PI (C91 s) K 9 [] h)):PI (C91 s) K 4 [e,f,b,d] h:=zB H
def zfW(H :
 PI (C91 s) K 6 [e,f,b,d,b] h):PI (C91 s) K 5 [e,f,d,b] h:=zB H
def zfV(H :
 EvO (zE E 132 e g) fun i=>
 EvO (zH E 134 h i) fun j=>
 EvO (zE E 132 f g) fun k=>
 EvO (zH E 134 h k) fun l=>
 EvO (ze E (zk [(19,j),(23,l)]) (zn B91 [1,1,0,1,0,0,1,1,0,0,1,0] 8)) fun m=>
 BrK m (PI (C91 s) K 7 [] h) (PI (C91 s) K 8 [e,f,b,d] h)):PI (C91 s) K 6 [e,f,g,b,d] h:=zB H
def zfU(H :
 K .ret [(.bool false)] h):PI (C91 s) K 7 [] h:=zB H
def zfT(H :
 EvO (zC E .add 3 d (iI 1)) fun g=>
 PI (C91 s) K 4 [e,f,b,g] h):PI (C91 s) K 8 [e,f,b,d] h:=zB H
def zfS(H :
 K .ret [(.bool true)] h):PI (C91 s) K 9 [] h:=zB H
def zhO(aa:h.ok)(hv:zo v=true)(H:PI (C91 s) (KR E [.tmp 4] fun x k=>x=v/\h.qa<=k.wm) 0 [v0,v1] h.qb):(zV E).call 91 [v0,v1] h=some [(v,h)]:=zAz Tryz.f91 aa hv (zAD (C91 s) H)
def B142:Code:=zc Tryz.f142
def zqX(s:Bool):Cx:=⟨E,s,none,B142,[([0],[0]),([1,0],[0])],[2],[]⟩
def zcC(H :
 PI (zqX s) K 1 [b] h):PI (zqX s) K 0 [b] h:=zB H
def zcB(H :
 EvO (zC E .lss 3 d (iI 0)) fun b=>
 EvO (gdB b false d) fun e=>
 EvO (gdB b false (zC E .gtr 3 e (iI 40000))) fun f=>
 EvO (zAE b (some (.bool true)) f) fun g=>
 K .ret [g] h):PI (zqX s) K 1 [d] h:=zB H
def zdu(aa:h.ok)(hv:zo v=true)(H:PI (zqX s) (KR E [.tmp 2] fun x k=>x=v/\h.qa<=k.wm) 0 [v0] h.qb):(zV E).call 142 [v0] h=some [(v,h)]:=zAz Tryz.f142 aa hv (zAD (zqX s) H)
def zsZ:Code:=zc Tryz.f189
def zLE(s:Bool):Cx:=⟨E,s,none,zsZ,[([0],[0,1]),([1,0,0],[0,1]),([1,0,1,0,0,0],[0,1,7,8]),([1,0,1,0,0,1,1,0,0,0],[0,1,7,8]),([1,0,1,0,0,1,1,0,0,1,0],[0,1,5,7,8]),([1,0,1,0,0,1,1,0,0,1,1,0,0],[5]),([1,0,1,0,0,1,1,1],[0,1,7,8]),([1,1,0],[])],[4],[]⟩
def za8(H :
 PI (zLE s) K 1 [b,d] h):PI (zLE s) K 0 [b,d] h:=zB H
def za7(H :
 EvO (zQ E (zk [(6,b)]) (zn zsZ [1,0,0] 1) h) fun e=>
 PI (zLE s) K 2 [b,d,e,(iI 0)] h):PI (zLE s) K 1 [b,d] h:=zB H
def zRL:zQ E (zk [(6,.slice a n c)]) (zn zsZ [1,0,0] 1) h=some (iI (n:Int)):=by cases a <;> kernel_rfl
def zM9(H :
 EvO (zC E .lss 3 d b) fun g=>
 BrK g (PI (zLE s) K 3 [e,f,b,d] h) (PI (zLE s) K 7 [] h)):PI (zLE s) K 2 [e,f,b,d] h:=zB H
def za6(H :
 PI (zLE s) K 4 [d,e,b,f,b] h):PI (zLE s) K 3 [d,e,f,b] h:=zB H
def za5(H :
 EvO (zE E 47 d f) fun j=>
 EvO (zH E 3 h j) fun k=>
 Ev s (zT (zV E) e [k] h) fun b=>
 BrK b.1 (PI (zLE s) K 5 [f] b.2) (PI (zLE s) K 6 [d,e,g,i] b.2)):PI (zLE s) K 4 [d,e,f,g,i] h:=zB H
def za4(H :
 EvO (zC E .add 3 f (iI 1)) fun g=>
 PI (zLE s) K 2 [b,d,e,g] h):PI (zLE s) K 6 [b,d,e,f] h:=zB H
def za3(H :
 K .ret [(iI (-1))] h):PI (zLE s) K 7 [] h:=zB H
def zdd(aa:h.ok)(hv:zo v=true)(H:PI (zLE s) (KR E [.tmp 4] fun x k=>x=v/\h.qa<=k.wm) 0 [v0,v1] h.qb):(zV E).call 189 [v0,v1] h=some [(v,h)]:=zAz Tryz.f189 aa hv (zAD (zLE s) H)
def B141:Code:=zc Tryz.f141
def zqY(s:Bool):Cx:=⟨E,s,none,B141,[([0],[0,1]),([1,0],[0,1])],[4],[]⟩
def zcE(H :
 PI (zqY s) K 1 [b,d] h):PI (zqY s) K 0 [b,d] h:=zB H
def zcD(H :
 Ev s (zT (zV E) (some (.func (.func 189) #[] #[])) [d,e] h) fun b=>
 EvO (zC E .geq 3 b.1 (iI 0)) fun f=>
 K .ret [f] b.2):PI (zqY s) K 1 [d,e] h:=zB H
def zdv(aa:h.ok)(hv:zo v=true)(H:PI (zqY s) (KR E [.tmp 4] fun x k=>x=v/\h.qa<=k.wm) 0 [v0,v1] h.qb):(zV E).call 141 [v0,v1] h=some [(v,h)]:=zAz Tryz.f141 aa hv (zAD (zqY s) H)
def B89:Code:=zc Tryz.f89
def C89(s:Bool):Cx:=⟨E,s,none,B89,[([0],[0,1,2,3]),([1,0,0],[0,3,5,6]),([1,0,1,0],[0,3,5,6,9]),([1,0,1,1,0,0],[9]),([1,1,0,0],[0,3,5,6]),([1,1,0,1,0,0],[]),([1,1,1,0,0],[3,5,6]),([1,1,1,0,1,0,0],[]),([1,1,1,1,0],[])],[8],[]⟩
def zfo(H :
 Ev s (zW 25 h f) fun b=>
 Ev s (zW 25 b.2 g) fun d=>
 PI (C89 s) K 1 [e,i,b.1,d.1] d.2):PI (C89 s) K 0 [e,f,g,i] h:=zB H
def zfn(H :
 EvO (zH E 25 h b) fun j=>
 EvO (zH E 25 h d) fun k=>
 Ev s (zh E 82 2 (some [(0,j),(1,k)]) h) fun e=>
 Ev s (zT (zV E) (some (.func (.func 70) #[] #[])) [e.1] e.2) fun f=>
 PI (C89 s) K 2 [g,i,b,d,f.1] f.2):PI (C89 s) K 1 [g,i,b,d] h:=zB H
def zfm(H :
 EvO (zC E .neq 29 b (iI 0)) fun i=>
 BrK i (PI (C89 s) K 3 [b] h) (PI (C89 s) K 4 [d,e,f,g] h)):PI (C89 s) K 2 [d,e,f,g,b] h:=zB H
def zfl(H :
 Ev s (zT (zV E) (some (.func (.func 105) #[] #[])) [d] h) fun b=>
 EvO (zAY .not b.1) fun i=>
 BrK i (PI (C89 s) K 5 [] b.2) (PI (C89 s) K 6 [e,f,g] b.2)):PI (C89 s) K 4 [d,e,f,g] h:=zB H
def zfk(H :
 EvO (zQ E (zk [(20,f)]) (zn B89 [1,1,1,0,0] 1) h) fun j=>
 EvO (zD E 25 0 g) fun k=>
 EvO (zH E 3 h k) fun l=>
 EvO (zD E 25 0 i) fun m=>
 EvO (zH E 3 h m) fun o=>
 EvO (zC E .add 3 l o) fun p=>
 EvO (zC E .neq 3 j p) fun e=>
 EvO (gdB e false f) fun q=>
 Ev s (gdW e false (zT (zV E) (some (.func (.func 141) #[] #[])) (some [q,(.func (.func 142) #[] #[])]) h) h) fun b=>
 EvO (zAE e (some (.bool true)) b.1) fun d=>
 BrK d (PI (C89 s) K 7 [] b.2) (PI (C89 s) K 8 [] b.2)):PI (C89 s) K 6 [f,g,i] h:=zB H
def zU1:zQ E (zk [(20,.slice a n c)]) (zn B89 [1,1,1,0,0] 1) h=some (iI (n:Int)):=by cases a <;> kernel_rfl
def zfj(H :
 K .ret [(iI 0)] h):PI (C89 s) K 8 [] h:=zB H
def zhQ(aa:h.ok)(hv:zo v=true)(H:PI (C89 s) (KR E [.tmp 8] fun x k=>x=v/\h.qa<=k.wm) 0 [v0,v1,v2,v3] h.qb):(zV E).call 89 [v0,v1,v2,v3] h=some [(v,h)]:=zAz Tryz.f89 aa hv (zAD (C89 s) H)
def zsc:Code:=zc Tryz.f129
def zIr(s:Bool):Cx:=⟨E,s,none,zsc,[([0],[0,1,2]),([1,0],[0,1,2]),([1,1,0,0],[0,1,2,7]),([1,1,0,1,0,0,0],[1,7,16,17,18]),([1,1,0,1,0,0,1,1,0,0,0],[1,7,16,17,18]),([1,1,0,1,0,0,1,1,0,0,1],[1,7,9,16,17,18]),([1,1,0,1,0,0,1,1,1],[1,7,16,17,18]),([1,1,1,0],[7]),([1,1,1,1,0],[7])],[6],[]⟩
def zNT(H :
 PI (zIr s) K 1 [b,d,e] h):PI (zIr s) K 0 [b,d,e] h:=zB H
def zNS(H :
 PI (zIr s) K 2 [b,d,e,(.slice none 0 0)] h):PI (zIr s) K 1 [b,d,e] h:=zB H
def zNR(H :
 EvO (zp d) fun i=>
 EvO (zD E 131 0 i) fun j=>
 EvO (zH E 129 h j) fun k=>
 EvO (zE E 129 k f) fun l=>
 EvO (zH E 132 h l) fun b=>
 EvO (zQ E (zk [(16,b)]) (zn zsc [1,1,0,0] 7) h) fun m=>
 PI (zIr s) K 3 [e,g,b,m,(iI 0)] h):PI (zIr s) K 2 [d,e,f,g] h:=zB H
def zJb:zQ E (zk [(16,.slice a n c)]) (zn zsc [1,1,0,0] 7) h=some (iI (n:Int)):=by cases a <;> kernel_rfl
def zIo(H :
 EvO (zC E .lss 3 d b) fun i=>
 BrK i (PI (zIr s) K 4 [g,f,e,b,d] h) (PI (zIr s) K 7 [f] h)):PI (zIr s) K 3 [g,f,e,b,d] h:=zB H
def zcd(H :
 EvO (zE E 132 b d) fun j=>
 EvO (zH E 134 h j) fun k=>
 Ev s (zW 134 h (zAL E 134)) fun f=>
 Ev s (zb E 134 f.2 f.1 k) fun l=>
 PI (zIr s) K 5 [g,i,f.1,b,e,d] l.2):PI (zIr s) K 4 [g,i,b,e,d] h:=zB H
def zcc(H :
 EvO (zD E 134 0 i) fun l=>
 EvO (zH E 3 h l) fun m=>
 EvO (zD E 134 1 i) fun o=>
 EvO (zH E 3 h o) fun p=>
 EvO (zE E 47 g p) fun q=>
 EvO (zH E 3 h q) fun r=>
 EvO (zAu E 134 (some [(0,m),(1,r)])) fun t=>
 Ev s (zh E 132 1 (some [(0,t)]) h) fun j=>
 Ev s (zAJ E .append [132,132] [k,j.1] j.2) fun b=>
 PI (zIr s) K 6 [g,b.1,d,e,f] b.2):PI (zIr s) K 5 [g,k,i,d,e,f] h:=zB H
def zcb(H :
 EvO (zC E .add 3 e (iI 1)) fun i=>
 PI (zIr s) K 3 [f,g,b,d,i] h):PI (zIr s) K 6 [f,g,b,d,e] h:=zB H
def zNQ(H :
 Ev s (zT (zV E) (some (.func (.func 175) #[] #[])) (some [b,(.func (.func 176) #[] #[])]) h) fun d=>
 PI (zIr s) K 8 [b] d.2):PI (zIr s) K 7 [b] h:=zB H
def zNP(H :
 Ev s (zT (zV E) (some (.func (.func 177) #[] #[])) [d] h) fun b=>
 K .ret [b.1] b.2):PI (zIr s) K 8 [d] h:=zB H
def zTX(aa:h.ok)(hv:zg v=true)(H:PI (zIr true) (KR E [.tmp 6] fun x k=>x=v/\h.qa<=k.wm) 0 [v0,v1,v2] h.qb):(zV E).call 129 [v0,v1,v2] h=some [(v,h)]:=zDn Tryz.f129 aa hv (zAD (zIr true) H)
def zd0(H:PI (zIr true) (KR E [.tmp 6] fun x k=>(zg x=false\/k.wm<h.qa)/\Rp x ⟨k.t,k.qa,cond (Nat.ble h.wm k.wm) h.wm k.wm⟩) 0 [v0,v1,v2] h.qb):Ev true ((zV E).call 129 [v0,v1,v2] h) fun x=>Rp x.1 x.2:=zHk Tryz.f129 (zAD (zIr true) H)
def zsa:Code:=zc Tryz.f180
def zqO(s:Bool):Cx:=⟨E,s,none,zsa,[([0],[0,1]),([1,0],[1,2])],[3],[]⟩
def zbJ(H :
 Ev s (zW 134 h d) fun b=>
 PI (zqO s) K 1 [e,b.1] b.2):PI (zqO s) K 0 [d,e] h:=zB H
def zbI(H :
 EvO (zH E 134 h d) fun e=>
 EvO (zH E 3 h b) fun f=>
 EvO (zAu E 134 (some [(0,(iI 0)),(1,f)])) fun g=>
 EvO (ze E (zk [(4,e),(6,g)]) (zn zsa [1,0] 3)) fun i=>
 K .ret [i] h):PI (zqO s) K 1 [b,d] h:=zB H
def zdf(aa:h.ok)(hv:zo v=true)(H:PI (zqO s) (KR E [.tmp 3] fun x k=>x=v/\h.qa<=k.wm) 0 [v0,v1] h.qb):(zV E).call 180 [v0,v1] h=some [(v,h)]:=zAz Tryz.f180 aa hv (zAD (zqO s) H)
def ziL:Code:=zc Tryz.f179
def zFH(s:Bool):Cx:=⟨E,s,none,ziL,[([0],[0,1]),([1,0],[0,1]),([1,1,0,0],[0,1,5]),([1,1,0,1,0,0],[0]),([1,1,1,0,0],[0,1,5]),([1,1,1,0,1,0,0,0,0],[0,1,5,6]),([1,1,1,0,1,0,0,1,0,0,0],[0,1,5,6]),([1,1,1,0,1,0,0,1,0,0,1,0],[0,1,5,6,7]),([1,1,1,0,1,0,0,1,0,0,1,1,0,0],[0,1,5,6,7]),([1,1,1,0,1,0,0,1,0,0,1,1,0,1],[0,1,5,6]),([1,1,1,0,1,0,0,1,1],[0,1,5,6]),([1,1,1,1,0],[0,5]),([1,1,1,1,1,0],[0,5])],[4],[]⟩
abbrev zpo(s:Bool)(K:KF)(b d e f:Value)(h:AH):Prop:=PI (zFH s) K 5 [b,d,e,f] h
def zIj(H :
 PI (zFH s) K 1 [b,d] h):PI (zFH s) K 0 [b,d] h:=zB H
def zIi(H :
 Ev s (zT (zV E) (some (.func (.func 220) #[] #[])) [b,d] h) fun e=>
 PI (zFH s) K 2 [b,d,e.1] e.2):PI (zFH s) K 1 [b,d] h:=zB H
def zIh(H :
 EvO (zC E .eql 3 d (iI (-1))) fun f=>
 BrK f (PI (zFH s) K 3 [b] h) (PI (zFH s) K 4 [b,e,d] h)):PI (zFH s) K 2 [b,e,d] h:=zB H
def zNC(H :
 K .ret [b] h):PI (zFH s) K 3 [b] h:=zB H
def zbO(H :
 EvO (zC E .add 3 b (iI 1)) fun f=>
 PI (zFH s) K 5 [d,e,b,f] h):PI (zFH s) K 4 [d,e,b] h:=zB H
def zNB(H :
 EvO (zQ E (zk [(17,b)]) (zn ziL [1,1,1,0,1,0,0,0,0] 2) h) fun g=>
 EvO (zC E .lss 3 e g) fun i=>
 BrK i (PI (zFH s) K 6 [b,f,d,e] h) (PI (zFH s) K 11 [b,d] h)):PI (zFH s) K 5 [b,f,d,e] h:=zB H
def zJU:zQ E (zk [(17,.slice a n c)]) (zn ziL [1,1,1,0,1,0,0,0,0] 2) h=some (iI (n:Int)):=by cases a <;> kernel_rfl
def zbN(H :
 EvO (zE E 132 d e) fun i=>
 EvO (zH E 134 h i) fun j=>
 Ev s (zW 134 h (zAL E 134)) fun b=>
 Ev s (zb E 134 b.2 b.1 j) fun k=>
 PI (zFH s) K 7 [d,f,g,e,b.1] k.2):PI (zFH s) K 6 [d,f,g,e] h:=zB H
def zbM(H :
 EvO (zH E 134 h i) fun j=>
 Ev s (zT (zV E) b [j] h) fun d=>
 EvO (zAY .not d.1) fun k=>
 BrK k (PI (zFH s) K 8 [e,b,f,g,i] d.2) (PI (zFH s) K 10 [e,b,f,g] d.2)):PI (zFH s) K 7 [e,b,f,g,i] h:=zB H
def zbL(H :
 EvO (zH E 134 h g) fun i=>
 EvO (zE E 132 b d) fun j=>
 Ev s (zb E 134 h j i) fun k=>
 PI (zFH s) K 9 [b,e,d,f] k.2):PI (zFH s) K 8 [b,e,d,f,g] h:=zB H
def zbK(H :
 EvO (zC E .add 3 e (iI 1)) fun g=>
 PI (zFH s) K 10 [b,d,g,f] h):PI (zFH s) K 9 [b,d,e,f] h:=zB H
def zKD(H :
 EvO (zC E .add 3 f (iI 1)) fun g=>
 PI (zFH s) K 5 [b,d,e,g] h):PI (zFH s) K 10 [b,d,e,f] h:=zB H
def zSk(H :
 EvO (ze E (zk [(36,b),(37,d)]) (zn ziL [1,1,1,1,0] 2)) fun e=>
 Ev s (zAJ E .clear [132] [e] h) fun f=>
 PI (zFH s) K 12 [b,d] f.2):PI (zFH s) K 11 [b,d] h:=zB H
def zSj(H :
 EvO (ze E (zk [(39,b),(40,d)]) (zn ziL [1,1,1,1,1,0] 2)) fun e=>
 K .ret [e] h):PI (zFH s) K 12 [b,d] h:=zB H
def zTT(aa:h.ok)(hv:zg v=true)(H:PI (zFH true) (KR E [.tmp 4] fun x k=>x=v/\h.qa<=k.wm) 0 [v0,v1] h.qb):(zV E).call 179 [v0,v1] h=some [(v,h)]:=zDn Tryz.f179 aa hv (zAD (zFH true) H)
def zNc(H:PI (zFH true) (KR E [.tmp 4] fun x k=>(zg x=false\/k.wm<h.qa)/\Rp x ⟨k.t,k.qa,cond (Nat.ble h.wm k.wm) h.wm k.wm⟩) 0 [v0,v1] h.qb):Ev true ((zV E).call 179 [v0,v1] h) fun x=>Rp x.1 x.2:=zHk Tryz.f179 (zAD (zFH true) H)
def zeD:Code:=zc Tryz.f131
def zh7:E.tab.fn.get 131=some Tryz.f131:=by kernel_rfl
def zdy:Tryz.f131.body=some zeD:=by kernel_rfl
def zh6(l:List Value)(h:AH):E.sum 131 l h=none:=by kernel_rfl
def B29:Code:=zc Tryz.f29
def C29(s:Bool):Cx:=⟨E,s,none,B29,[([0],[0,1,2,3]),([1,0,0],[0,3,5,6,8]),([1,0,1,0],[0,3,5,8,10]),([1,0,1,1,0,0],[8,10]),([1,1,0],[0,3,5,8]),([1,1,1,0,0],[0,3,5,8,11]),([1,1,1,0,1,0,0,0],[0,3,5,8,11,32,33,34]),([1,1,1,0,1,0,0,1,1,0,0,0],[0,3,5,8,11,32,33,34]),([1,1,1,0,1,0,0,1,1,0,0,1],[0,3,5,8,11,12,13,32,33,34]),([1,1,1,0,1,0,0,1,1,1],[0,3,5,8,11,32,33,34]),([1,1,1,1,0],[0,3,5,8,11]),([1,1,1,1,1,0,0],[3,5,8,11,14]),([1,1,1,1,1,0,1,0,0,0],[8,11,14,53,54,55]),([1,1,1,1,1,0,1,0,0,1,1,0,0,0],[8,11,14,53,54,55]),([1,1,1,1,1,0,1,0,0,1,1,0,0,1,0],[8,11,14,15,16,53,54,55]),([1,1,1,1,1,0,1,0,0,1,1,0,0,1,1,0,0,0],[8,11,14,15,53,54,55,62,63,64]),([1,1,1,1,1,0,1,0,0,1,1,0,0,1,1,0,0,1,1,0,0,0],[8,11,14,15,53,54,55,62,63,64]),([1,1,1,1,1,0,1,0,0,1,1,0,0,1,1,0,0,1,1,0,0,1,0],[8,11,14,15,18,53,54,55,62,63,64]),([1,1,1,1,1,0,1,0,0,1,1,0,0,1,1,0,0,1,1,0,0,1,1,0],[8,11,14,15,53,54,55,62,63,64]),([1,1,1,1,1,0,1,0,0,1,1,0,0,1,1,0,0,1,1,0,0,1,1,1,0,0],[8]),([1,1,1,1,1,0,1,0,0,1,1,0,0,1,1,0,0,1,1,1],[8,11,14,15,53,54,55,62,63,64]),([1,1,1,1,1,0,1,0,0,1,1,1],[8,11,14,53,54,55]),([1,1,1,1,1,1,0],[8,14])],[8,9],[]⟩
def zgx(H :
 Ev s (zW 25 h g) fun b=>
 Ev s (zW 25 b.2 i) fun d=>
 Ev s (zW 32 d.2 (zAL E 32)) fun e=>
 PI (C29 s) K 1 [f,j,b.1,d.1,e.1] e.2):PI (C29 s) K 0 [f,g,i,j] h:=zB H
def zgw(H :
 EvO (zH E 25 h e) fun j=>
 EvO (zH E 25 h g) fun k=>
 Ev s (zT (zV E) (some (.func (.func 89) #[] #[])) [b,j,k,d] h) fun f=>
 PI (C29 s) K 2 [b,d,e,i,f.1] f.2):PI (C29 s) K 1 [b,d,e,g,i] h:=zB H
def zgv(H :
 EvO (zC E .neq 29 b (iI 0)) fun i=>
 BrK i (PI (C29 s) K 3 [d,b] h) (PI (C29 s) K 4 [e,f,g,d] h)):PI (C29 s) K 2 [e,f,g,d,b] h:=zB H
def zgu(H :
 Ev s (one ((.map (some (h).qa):Value),(h).new (.map [] 0))) fun b=>
 PI (C29 s) K 5 [d,e,f,g,b.1] b.2):PI (C29 s) K 4 [d,e,f,g] h:=zB H
def zgt(H :
 EvO (zD E 25 0 e) fun j=>
 EvO (zH E 3 h j) fun k=>
 EvO (ze E (zk [(29,d),(31,k)]) (zn B29 [1,1,1,0,0] 3)) fun f=>
 EvO (zQ E (zk [(32,f)]) (zn B29 [1,1,1,0,0] 4) h) fun l=>
 PI (C29 s) K 6 [g,d,e,i,b,f,l,(iI 0)] h):PI (C29 s) K 5 [g,d,e,i,b] h:=zB H
def zU9:zQ E (zk [(32,.slice a n c)]) (zn B29 [1,1,1,0,0] 4) h=some (iI (n:Int)):=by cases a <;> kernel_rfl
def zQY(H :
 EvO (zC E .lss 3 e d) fun l=>
 BrK l (PI (C29 s) K 7 [g,i,j,k,b,f,d,e] h) (PI (C29 s) K 10 [g,i,j,k,b] h)):PI (C29 s) K 6 [g,i,j,k,b,f,d,e] h:=zB H
def zgs(H :
 EvO (zE E 47 d b) fun l=>
 EvO (zH E 3 h l) fun m=>
 PI (C29 s) K 8 [g,i,j,k,e,b,m,d,f,b] h):PI (C29 s) K 7 [g,i,j,k,e,d,f,b] h:=zB H
def zgr(H :
 EvO (zBM E 125 false b d h) fun q=>
 Ev s (zh E 47 1 (some [(0,e)]) h) fun j=>
 Ev s (zAJ E .append [47,47] [q,j.1] j.2) fun k=>
 Ev s (zAI E 125 b d k.1 k.2) fun r=>
 PI (C29 s) K 9 [l,m,o,p,b,f,g,i] r.2):PI (C29 s) K 8 [l,m,o,p,b,e,d,f,g,i] h:=zB H
def zgq(H :
 EvO (zC E .add 3 f (iI 1)) fun l=>
 PI (C29 s) K 6 [g,i,j,k,b,d,e,l] h):PI (C29 s) K 9 [g,i,j,k,b,d,e,f] h:=zB H
def zXp(H :
 EvO (zAu E 32 (some [(0,e)])) fun j=>
 Ev s (zW 32 h (zAL E 32)) fun d=>
 Ev s (zb E 32 d.2 d.1 j) fun k=>
 PI (C29 s) K 11 [f,g,i,b,d.1] k.2):PI (C29 s) K 10 [e,f,g,i,b] h:=zB H
def zXo(H :
 EvO (zD E 25 0 g) fun j=>
 EvO (zH E 3 h j) fun k=>
 EvO (ze E (zk [(50,f),(52,k)]) (zn B29 [1,1,1,1,1,0,0] 3)) fun e=>
 EvO (zQ E (zk [(53,e)]) (zn B29 [1,1,1,1,1,0,0] 4) h) fun l=>
 PI (C29 s) K 12 [i,b,d,e,l,(iI 0)] h):PI (C29 s) K 11 [f,g,i,b,d] h:=zB H
def zRE:zQ E (zk [(53,.slice a n c)]) (zn B29 [1,1,1,1,1,0,0] 4) h=some (iI (n:Int)):=by cases a <;> kernel_rfl
def zMY(H :
 EvO (zC E .lss 3 e d) fun j=>
 BrK j (PI (C29 s) K 13 [i,f,b,g,d,e] h) (PI (C29 s) K 22 [i,b] h)):PI (C29 s) K 12 [i,f,b,g,d,e] h:=zB H
def zXn(H :
 EvO (zE E 47 d b) fun j=>
 EvO (zH E 3 h j) fun k=>
 PI (C29 s) K 14 [i,e,f,b,k,d,g,b] h):PI (C29 s) K 13 [i,e,f,d,g,b] h:=zB H
def zXm(H :
 EvO (zBM E 125 false b f h) fun k=>
 EvO (zQ E (zk [(62,k)]) (zn B29 [1,1,1,1,1,0,1,0,0,1,1,0,0,1,0] 3) h) fun m=>
 PI (C29 s) K 15 [l,b,d,e,g,i,j,k,m,(iI 0)] h):PI (C29 s) K 14 [l,b,d,e,f,g,i,j] h:=zB H
def zRD:zQ E (zk [(62,.slice a n c)]) (zn B29 [1,1,1,1,1,0,1,0,0,1,1,0,0,1,0] 3) h=some (iI (n:Int)):=by cases a <;> kernel_rfl
def zMX(H :
 EvO (zC E .lss 3 j i) fun o=>
 BrK o (PI (C29 s) K 16 [m,b,d,k,e,f,g,l,i,j] h) (PI (C29 s) K 21 [m,b,d,e,f,g] h)):PI (C29 s) K 15 [m,b,d,k,e,f,g,l,i,j] h:=zB H
def zXl(H :
 EvO (zE E 47 b d) fun o=>
 EvO (zH E 3 h o) fun p=>
 PI (C29 s) K 17 [m,e,f,g,p,i,j,k,b,l,d] h):PI (C29 s) K 16 [m,e,f,g,i,j,k,b,l,d] h:=zB H
def zXk(H :
 EvO (zD E 32 1 b) fun r=>
 EvO (zH E 26 h r) fun t=>
 EvO (zAu E 54 (some [(0,d),(1,f)])) fun u=>
 Ev s (zh E 26 1 (some [(0,u)]) h) fun o=>
 Ev s (zAJ E .append [26,26] [t,o.1] o.2) fun p=>
 EvO (zD E 32 1 b) fun w=>
 Ev s (zb E 26 p.2 w p.1) fun x=>
 PI (C29 s) K 18 [q,e,b,d,g,i,j,k,l,m] x.2):PI (C29 s) K 17 [q,e,b,d,f,g,i,j,k,l,m] h:=zB H
def zXj(H :
 EvO (zD E 32 1 b) fun o=>
 EvO (zH E 26 h o) fun p=>
 EvO (zQ E (zk [(77,p)]) (zn B29 [1,1,1,1,1,0,1,0,0,1,1,0,0,1,1,0,0,1,1,0,0,1,1,0] 2) h) fun q=>
 EvO (zC E .gtr 3 q (iI 200000)) fun r=>
 BrK r (PI (C29 s) K 19 [m] h) (PI (C29 s) K 20 [m,d,b,e,f,g,i,j,k,l] h)):PI (C29 s) K 18 [m,d,b,e,f,g,i,j,k,l] h:=zB H
def zRC:zQ E (zk [(77,.slice a n c)]) (zn B29 [1,1,1,1,1,0,1,0,0,1,1,0,0,1,1,0,0,1,1,0,0,1,1,0] 2) h=some (iI (n:Int)):=by cases a <;> kernel_rfl
def zXi(H :
 EvO (zC E .add 3 l (iI 1)) fun o=>
 PI (C29 s) K 15 [m,b,d,e,f,g,i,j,k,o] h):PI (C29 s) K 20 [m,b,d,e,f,g,i,j,k,l] h:=zB H
def zXh(H :
 EvO (zC E .add 3 g (iI 1)) fun j=>
 PI (C29 s) K 12 [i,b,d,e,f,j] h):PI (C29 s) K 21 [i,b,d,e,f,g] h:=zB H
def zXg(H :
 EvO (zH E 32 h b) fun e=>
 Ev s (zb E 32 h d e) fun f=>
 K .ret [d,(iI 0)] f.2):PI (C29 s) K 22 [d,b] h:=zB H
def zhY(H:PI (C29 true) (KR E [.cell 8 32,.tmp 9] fun x k=>(zg x=false\/k.wm<h.qa)/\Rp x ⟨k.t,k.qa,cond (Nat.ble h.wm k.wm) h.wm k.wm⟩) 0 [v0,v1,v2,v3] h.qb):Ev true ((zV E).call 29 [v0,v1,v2,v3] h) fun x=>Rp x.1 x.2:=zHk Tryz.f29 (zAD (C29 true) H)
def B30:Code:=zc Tryz.f30
def C30(s:Bool):Cx:=⟨E,s,none,B30,[([0],[0,1,2,3]),([1,0,0],[0,3,5,6]),([1,0,1,0],[0,3,5,6,9]),([1,0,1,1,0,0],[9]),([1,1,0],[0,3,5,6]),([1,1,1,0],[0,3,5,10]),([1,1,1,1,0,0],[0,3,5,10,11]),([1,1,1,1,0,1,0,0,0],[0,3,5,11,49,50,51]),([1,1,1,1,0,1,0,0,1,1,0,0,0],[0,3,5,11,49,50,51]),([1,1,1,1,0,1,0,0,1,1,0,0,1,0],[0,3,5,11,13,49,50,51]),([1,1,1,1,0,1,0,0,1,1,0,0,1,1,0,0],[0,3,5,11,13,14,49,50,51]),([1,1,1,1,0,1,0,0,1,1,0,0,1,1,0,1,0,0,0],[0,3,5,11,14,49,50,51,55,56,57]),([1,1,1,1,0,1,0,0,1,1,0,0,1,1,0,1,0,0,1,1,0,0,0],[0,3,5,11,14,49,50,51,55,56,57]),([1,1,1,1,0,1,0,0,1,1,0,0,1,1,0,1,0,0,1,1,0,0,1],[0,3,5,11,14,16,49,50,51,55,56,57]),([1,1,1,1,0,1,0,0,1,1,0,0,1,1,0,1,0,0,1,1,1],[0,3,5,11,14,49,50,51,55,56,57]),([1,1,1,1,0,1,0,0,1,1,0,0,1,1,1],[0,3,5,11,14,49,50,51]),([1,1,1,1,0,1,0,0,1,1,1],[0,3,5,11,49,50,51]),([1,1,1,1,1,0],[0,3,5,11]),([1,1,1,1,1,1,0],[3,5,11,17]),([1,1,1,1,1,1,1,0,0],[3,5,11,17,18]),([1,1,1,1,1,1,1,0,1,0,0,0],[3,5,11,17,18,88,89,90]),([1,1,1,1,1,1,1,0,1,0,0,1,1,0,0,0],[3,5,11,17,18,88,89,90]),([1,1,1,1,1,1,1,0,1,0,0,1,1,0,0,1,0],[3,5,11,17,18,19,20,88,89,90]),([1,1,1,1,1,1,1,0,1,0,0,1,1,0,0,1,1,0],[3,5,11,17,18,20,21,88,89,90]),([1,1,1,1,1,1,1,0,1,0,0,1,1,0,0,1,1,1,0,0],[3,5,11,17,18,20,21,22,23,88,89,90]),([1,1,1,1,1,1,1,0,1,0,0,1,1,0,0,1,1,1,0,1,0,0],[]),([1,1,1,1,1,1,1,0,1,0,0,1,1,0,0,1,1,1,1],[3,5,11,17,18,20,21,88,89,90]),([1,1,1,1,1,1,1,0,1,0,0,1,1,1],[3,5,11,17,18,88,89,90]),([1,1,1,1,1,1,1,1,0,0],[3,5]),([1,1,1,1,1,1,1,1,0,1,0,0],[]),([1,1,1,1,1,1,1,1,1,0],[])],[8],[]⟩
def zgp(H :
 Ev s (zW 25 h f) fun b=>
 Ev s (zW 25 b.2 g) fun d=>
 PI (C30 s) K 1 [e,i,b.1,d.1] d.2):PI (C30 s) K 0 [e,f,g,i] h:=zB H
def zgo(H :
 EvO (zH E 25 h e) fun i=>
 EvO (zH E 25 h f) fun j=>
 Ev s (zT (zV E) (some (.func (.func 89) #[] #[])) [b,i,j,d] h) fun g=>
 PI (C30 s) K 2 [b,d,e,f,g.1] g.2):PI (C30 s) K 1 [b,d,e,f] h:=zB H
def zgn(H :
 EvO (zC E .neq 29 b (iI 0)) fun i=>
 BrK i (PI (C30 s) K 3 [b] h) (PI (C30 s) K 4 [d,e,f,g] h)):PI (C30 s) K 2 [d,e,f,g,b] h:=zB H
def zgm(H :
 EvO (zH E 25 h b) fun j=>
 EvO (zH E 25 h i) fun k=>
 Ev s (zh E 82 2 (some [(0,j),(1,k)]) h) fun d=>
 Ev s (zT (zV E) (some (.func (.func 90) #[] #[])) [d.1] d.2) fun e=>
 PI (C30 s) K 5 [f,g,b,e.1] e.2):PI (C30 s) K 4 [f,g,b,i] h:=zB H
def zgl(H :
 EvO (zE E 126 b (some (iI 0))) fun i=>
 EvO (zH E 128 h i) fun j=>
 EvO (zp j) fun k=>
 EvO (zD E 131 0 k) fun l=>
 EvO (zH E 129 h l) fun m=>
 EvO (zAu E 131 (some [(0,m)])) fun o=>
 Ev s (zW 131 h o) fun d=>
 PI (C30 s) K 6 [e,f,g,b,d.1] d.2):PI (C30 s) K 5 [e,f,g,b] h:=zB H
def zgk(H :
 EvO (zE E 126 b (some (iI 1))) fun j=>
 EvO (zH E 128 h j) fun k=>
 EvO (zp k) fun l=>
 EvO (zD E 131 0 l) fun m=>
 EvO (zH E 129 h m) fun e=>
 EvO (zQ E (zk [(49,e)]) (zn B30 [1,1,1,1,0,0] 6) h) fun o=>
 PI (C30 s) K 7 [f,g,i,d,e,o,(iI 0)] h):PI (C30 s) K 6 [f,g,i,b,d] h:=zB H
def zU8:zQ E (zk [(49,.slice a n c)]) (zn B30 [1,1,1,1,0,0] 6) h=some (iI (n:Int)):=by cases a <;> kernel_rfl
def zQX(H :
 EvO (zC E .lss 3 e d) fun k=>
 BrK k (PI (C30 s) K 8 [g,i,j,b,f,d,e] h) (PI (C30 s) K 17 [g,i,j,b] h)):PI (C30 s) K 7 [g,i,j,b,f,d,e] h:=zB H
def zgj(H :
 EvO (zE E 129 b d) fun k=>
 EvO (zH E 132 h k) fun l=>
 PI (C30 s) K 9 [g,i,j,e,l,b,f,d] h):PI (C30 s) K 8 [g,i,j,e,b,f,d] h:=zB H
def zgi(H :
 PI (C30 s) K 10 [i,j,k,b,d,(.slice none 0 0),e,f,g] h):PI (C30 s) K 9 [i,j,k,b,d,e,f,g] h:=zB H
def zXf(H :
 EvO (zQ E (zk [(55,b)]) (zn B30 [1,1,1,1,0,1,0,0,1,1,0,0,1,1,0,0] 1) h) fun m=>
 PI (C30 s) K 11 [j,k,l,d,e,f,g,i,b,m,(iI 0)] h):PI (C30 s) K 10 [j,k,l,d,b,e,f,g,i] h:=zB H
def zRB:zQ E (zk [(55,.slice a n c)]) (zn B30 [1,1,1,1,0,1,0,0,1,1,0,0,1,1,0,0] 1) h=some (iI (n:Int)):=by cases a <;> kernel_rfl
def zMW(H :
 EvO (zC E .lss 3 j i) fun p=>
 BrK p (PI (C30 s) K 12 [l,m,o,b,d,e,f,g,k,i,j] h) (PI (C30 s) K 15 [l,m,o,b,d,e,f,g] h)):PI (C30 s) K 11 [l,m,o,b,d,e,f,g,k,i,j] h:=zB H
def zXe(H :
 EvO (zE E 132 b d) fun q=>
 EvO (zH E 134 h q) fun r=>
 Ev s (zW 134 h (zAL E 134)) fun l=>
 Ev s (zb E 134 l.2 l.1 r) fun t=>
 PI (C30 s) K 13 [m,o,p,e,f,l.1,g,i,j,b,k,d] t.2):PI (C30 s) K 12 [m,o,p,e,f,g,i,j,b,k,d] h:=zB H
def zXd(H :
 EvO (zD E 134 0 b) fun t=>
 EvO (zH E 3 h t) fun u=>
 EvO (zD E 134 1 b) fun w=>
 EvO (zH E 3 h w) fun x=>
 EvO (zD E 25 0 o) fun y=>
 EvO (zH E 3 h y) fun z=>
 EvO (zC E .add 3 x z) fun A=>
 EvO (zAu E 134 (some [(0,u),(1,A)])) fun B=>
 Ev s (zh E 132 1 (some [(0,B)]) h) fun p=>
 Ev s (zAJ E .append [132,132] [f,p.1] p.2) fun d=>
 PI (C30 s) K 14 [q,r,o,e,d.1,g,i,j,k,l,m] d.2):PI (C30 s) K 13 [q,r,o,e,f,b,g,i,j,k,l,m] h:=zB H
def zXc(H :
 EvO (zC E .add 3 k (iI 1)) fun p=>
 PI (C30 s) K 11 [l,m,o,b,d,e,f,g,i,j,p] h):PI (C30 s) K 14 [l,m,o,b,d,e,f,g,i,j,k] h:=zB H
def zXb(H :
 EvO (zp b) fun p=>
 EvO (zD E 131 0 p) fun q=>
 EvO (zH E 129 h q) fun r=>
 Ev s (zh E 129 1 (some [(0,d)]) h) fun j=>
 Ev s (zAJ E .append [129,129] [r,j.1] j.2) fun k=>
 EvO (zp b) fun t=>
 EvO (zD E 131 0 t) fun u=>
 Ev s (zb E 129 k.2 u k.1) fun i=>
 PI (C30 s) K 16 [l,m,o,b,e,f,g] i.2):PI (C30 s) K 15 [l,m,o,b,d,e,f,g] h:=zB H
def zXa(H :
 EvO (zC E .add 3 f (iI 1)) fun k=>
 PI (C30 s) K 7 [g,i,j,b,d,e,k] h):PI (C30 s) K 16 [g,i,j,b,d,e,f] h:=zB H
def zXZ(H :
 Ev s (zT (zV E) (some (.func (.func 79) #[] #[])) (some []) h) fun e=>
 EvO (zDC E 113 e.1 f) fun j=>
 Ev s (zW 112 e.2 (zAL E 112)) fun d=>
 Ev s (zb E 112 d.2 d.1 j) fun k=>
 PI (C30 s) K 18 [g,i,b,d.1] k.2):PI (C30 s) K 17 [f,g,i,b] h:=zB H
def zXY(H :
 Ev s (one ((.map (some (h).qa):Value),(h).new (.map [] 0))) fun e=>
 PI (C30 s) K 19 [f,g,b,d,e.1] e.2):PI (C30 s) K 18 [f,g,b,d] h:=zB H
def zXX(H :
 EvO (zQ E (zk [(88,f)]) (zn B30 [1,1,1,1,1,1,1,0,0] 1) h) fun i=>
 PI (C30 s) K 20 [f,g,b,d,e,f,i,(iI 0)] h):PI (C30 s) K 19 [f,g,b,d,e] h:=zB H
def zRA:zQ E (zk [(88,.slice a n c)]) (zn B30 [1,1,1,1,1,1,1,0,0] 1) h=some (iI (n:Int)):=by cases a <;> kernel_rfl
def zMV(H :
 EvO (zC E .lss 3 d b) fun l=>
 BrK l (PI (C30 s) K 21 [j,k,e,f,g,i,b,d] h) (PI (C30 s) K 28 [j,k] h)):PI (C30 s) K 20 [j,k,e,f,g,i,b,d] h:=zB H
def zXW(H :
 EvO (zE E 47 d b) fun l=>
 EvO (zH E 3 h l) fun m=>
 PI (C30 s) K 22 [j,k,e,f,g,b,m,d,i,b] h):PI (C30 s) K 21 [j,k,e,f,g,d,i,b] h:=zB H
def zXV(H :
 EvO (zD E 112 1 d) fun p=>
 EvO (zH E 110 h p) fun q=>
 Ev s (zT (zV E) q [b,l,f] h) fun m=>
 PI (C30 s) K 23 [l,o,b,d,e,g,m.1,i,j,k] m.2):PI (C30 s) K 22 [l,o,b,d,e,f,g,i,j,k] h:=zB H
def zXU(H :
 EvO (zBM E 135 true b d h) fun l=>
 EvO (zt 0 l) fun p=>
 EvO (zt 1 l) fun q=>
 PI (C30 s) K 24 [m,o,e,f,b,d,g,p,q,i,j,k] h):PI (C30 s) K 23 [m,o,e,f,b,d,g,i,j,k] h:=zB H
def zXT(H :
 EvO (gdB b true d) fun r=>
 EvO (gdB b true j) fun t=>
 Ev s (gdW b true (zT (zV E) (some (.func (.func 91) #[] #[])) [r,t] h) h) fun o=>
 EvO (gdB b true (zAY .not o.1)) fun u=>
 EvO (zAE b u (some (.bool false))) fun w=>
 BrK w (PI (C30 s) K 25 [] o.2) (PI (C30 s) K 26 [p,q,e,f,g,i,d,k,l,m] o.2)):PI (C30 s) K 24 [p,q,e,f,g,i,d,j,b,k,l,m] h:=zB H
def zXS(H :
 K .ret [(iI 360)] h):PI (C30 s) K 25 [] h:=zB H
def zXR(H :
 Ev s (zAI E 135 b f g h) fun o=>
 PI (C30 s) K 27 [l,m,d,e,b,i,j,k] o.2):PI (C30 s) K 26 [l,m,d,e,b,f,g,i,j,k] h:=zB H
def zXQ(H :
 EvO (zC E .add 3 i (iI 1)) fun l=>
 PI (C30 s) K 20 [j,k,b,d,e,f,g,l] h):PI (C30 s) K 27 [j,k,b,d,e,f,g,i] h:=zB H
def zXP(H :
 EvO (zE E 47 b (some (iI 0))) fun e=>
 EvO (zH E 3 h e) fun f=>
 EvO (zD E 25 0 d) fun g=>
 EvO (zH E 3 h g) fun i=>
 EvO (zE E 47 b i) fun j=>
 EvO (zH E 3 h j) fun k=>
 EvO (zC E .neq 3 f k) fun l=>
 BrK l (PI (C30 s) K 29 [] h) (PI (C30 s) K 30 [] h)):PI (C30 s) K 28 [b,d] h:=zB H
def zXO(H :
 K .ret [(iI 360)] h):PI (C30 s) K 29 [] h:=zB H
def zXN(H :
 K .ret [(iI 0)] h):PI (C30 s) K 30 [] h:=zB H
def zdC{Rp:Value->Prop}(aa:h.ok)(H:PI (C30 true) (KR E [.tmp 8] fun x k=>(zg x=true/\Rp x)/\h.qa<=k.wm) 0 [v0,v1,v2,v3] h.qb):∃ v,Rp v/\(zV E).call 30 [v0,v1,v2,v3] h=some [(v,h)]:=zDW Tryz.f30 aa (zAD (C30 true) H)
def B6:Code:=zc Tryz.f6
def C6(s:Bool):Cx:=⟨E,s,none,B6,[([0],[0,1,2,3]),([1,0,0],[0,3,5,6]),([1,0,1,0,0],[]),([1,1,0,0],[0,3,5,6]),([1,1,0,1,0,0],[]),([1,1,1,0,0],[0,3,5,6]),([1,1,1,0,1,0,0,0],[0,3,5,6,48,49,50]),([1,1,1,0,1,0,0,1,1,0,0,0],[0,3,5,6,48,49,50]),([1,1,1,0,1,0,0,1,1,0,0,1,0],[0,3,5,6,9,10,48,49,50]),([1,1,1,0,1,0,0,1,1,0,0,1,1,0,0],[]),([1,1,1,0,1,0,0,1,1,1],[0,3,5,6,48,49,50]),([1,1,1,1,0],[0,3,5,6]),([1,1,1,1,1,0,0],[0,3,5,6,11,12]),([1,1,1,1,1,0,1,0,0],[]),([1,1,1,1,1,1,0],[0,3,5,6,11])],[8],[]⟩
def zl7(H :
 Ev s (zW 25 h f) fun b=>
 Ev s (zW 25 b.2 g) fun d=>
 PI (C6 s) K 1 [e,i,b.1,d.1] d.2):PI (C6 s) K 0 [e,f,g,i] h:=zB H
def zl6(H :
 Ev s (zT (zV E) (some (.func (.func 13) #[] #[])) (some []) h) fun b=>
 EvO (zAY .not b.1) fun i=>
 BrK i (PI (C6 s) K 2 [] b.2) (PI (C6 s) K 3 [d,e,f,g] b.2)):PI (C6 s) K 1 [d,e,f,g] h:=zB H
def zl5(H :
 EvO (zH E 25 h g) fun N=>
 EvO (zH E 25 h i) fun O=>
 Ev s (zh E 82 2 (some [(0,N),(1,O)]) h) fun M=>
 Ev s (zT (zV E) (some (.func (.func 14) #[] #[])) [M.1] M.2) fun j=>
 EvO (zAY .not j.1) fun k=>
 EvO (gdB k false (zH E 25 j.2 g)) fun Q=>
 Ev s (gdW k false (zT (zV E) (some (.func (.func 23) #[] #[])) [Q] j.2) j.2) fun l=>
 EvO (gdB k false (zC E .neq 29 l.1 (iI 0))) fun S=>
 EvO (zAE k (some (.bool true)) S) fun m=>
 EvO (gdB m false (zH E 25 l.2 i)) fun p=>
 Ev s (gdW m false (zT (zV E) (some (.func (.func 23) #[] #[])) [p] l.2) l.2) fun d=>
 EvO (gdB m false (zC E .neq 29 d.1 (iI 0))) fun q=>
 EvO (zAE m (some (.bool true)) q) fun e=>
 EvO (gdB e false o) fun r=>
 EvO (gdB e false (zC E .neq 3 r (iI 1))) fun t=>
 EvO (gdB e false t) fun f=>
 EvO (gdB f true o) fun u=>
 EvO (gdB f true (zC E .neq 3 u (iI 2))) fun w=>
 EvO (gdB e false (zAE f w (some (.bool false)))) fun x=>
 EvO (zAE e (some (.bool true)) x) fun b=>
 EvO (gdB b false L) fun y=>
 EvO (gdB b false (zQ E (zk [(39,y)]) (zn B6 [1,1,0,0] 25) d.2)) fun z=>
 EvO (gdB b false (zD E 25 0 g)) fun A=>
 EvO (gdB b false (zH E 3 d.2 A)) fun B=>
 EvO (gdB b false (zD E 25 0 i)) fun C=>
 EvO (gdB b false (zH E 3 d.2 C)) fun D=>
 EvO (gdB b false (zC E .add 3 B D)) fun F=>
 EvO (gdB b false (zC E .neq 3 z F)) fun G=>
 EvO (zAE b (some (.bool true)) G) fun J=>
 BrK J (PI (C6 s) K 4 [] d.2) (PI (C6 s) K 5 [o,L,g,i] d.2)):PI (C6 s) K 3 [o,L,g,i] h:=zB H
def zLr:zQ E (zk [(39,.slice a n c)]) (zn B6 [1,1,0,0] 25) h=some (iI (n:Int)):=by cases a <;> kernel_rfl
def zl4(H :
 K .ret [(.bool true)] h):PI (C6 s) K 4 [] h:=zB H
def zl3(H :
 EvO (zQ E (zk [(48,b)]) (zn B6 [1,1,1,0,0] 1) h) fun g=>
 PI (C6 s) K 6 [d,b,e,f,b,g,(iI 0)] h):PI (C6 s) K 5 [d,b,e,f] h:=zB H
def zen:zQ E (zk [(48,.slice a n c)]) (zn B6 [1,1,1,0,0] 1) h=some (iI (n:Int)):=by cases a <;> kernel_rfl
def zXM(H :
 EvO (zC E .lss 3 d b) fun k=>
 BrK k (PI (C6 s) K 7 [f,g,i,j,e,b,d] h) (PI (C6 s) K 11 [f,g,i,j] h)):PI (C6 s) K 6 [f,g,i,j,e,b,d] h:=zB H
def zl2(H :
 EvO (zE E 47 d b) fun k=>
 EvO (zH E 3 h k) fun l=>
 PI (C6 s) K 8 [f,g,i,j,b,l,d,e,b] h):PI (C6 s) K 7 [f,g,i,j,d,e,b] h:=zB H
def zl1(H :
 EvO (zC E .lss 3 g (iI 0)) fun q=>
 EvO (gdB q false g) fun X=>
 EvO (gdB q false (zC E .gtr 3 X (iI 40000))) fun Y=>
 EvO (zAE q (some (.bool true)) Y) fun j=>
 EvO (gdB j false U) fun Z=>
 EvO (gdB j false (zD E 25 0 k)) fun x8=>
 EvO (gdB j false (zH E 3 h x8)) fun x9=>
 EvO (gdB j false (zC E .lss 3 Z x9)) fun r=>
 EvO (gdB j false r) fun b=>
 EvO (gdB b true l) fun t=>
 EvO (gdB b true (zD E 25 0 k)) fun u=>
 EvO (gdB b true (zH E 3 h u)) fun w=>
 EvO (gdB b true (ze E (zk [(67,t),(69,w)]) (zn B6 [1,1,1,0,1,0,0,1,1,0,0,1,0] 15))) fun x=>
 EvO (gdB b true g) fun y=>
 Ev s (gdW b true (zT (zV E) (some (.func (.func 27) #[] #[])) [x,y] h) h) fun f=>
 EvO (gdB b true (zAY .not f.1)) fun z=>
 EvO (gdB j false (zAE b z (some (.bool false)))) fun A=>
 EvO (zAE j (some (.bool true)) A) fun e=>
 EvO (gdB e false U) fun B=>
 EvO (gdB e false (zD E 25 0 k)) fun C=>
 EvO (gdB e false (zH E 3 f.2 C)) fun D=>
 EvO (gdB e false (zC E .geq 3 B D)) fun F=>
 EvO (gdB e false F) fun d=>
 EvO (gdB d true l) fun G=>
 EvO (gdB d true (zD E 25 0 k)) fun J=>
 EvO (gdB d true (zH E 3 f.2 J)) fun L=>
 EvO (gdB d true (ze E (zk [(82,G),(84,L)]) (zn B6 [1,1,1,0,1,0,0,1,1,0,0,1,0] 30))) fun M=>
 EvO (gdB d true g) fun N=>
 Ev s (gdW d true (zT (zV E) (some (.func (.func 27) #[] #[])) [M,N] f.2) f.2) fun i=>
 EvO (gdB d true (zAY .not i.1)) fun O=>
 EvO (gdB e false (zAE d O (some (.bool false)))) fun Q=>
 EvO (zAE e (some (.bool true)) Q) fun S=>
 BrK S (PI (C6 s) K 9 [] i.2) (PI (C6 s) K 10 [V,l,k,W,m,o,p] i.2)):PI (C6 s) K 8 [V,l,k,W,U,g,m,o,p] h:=zB H
def zl0(H :
 K .ret [(.bool true)] h):PI (C6 s) K 9 [] h:=zB H
def zgd(H :
 EvO (zC E .add 3 e (iI 1)) fun k=>
 PI (C6 s) K 6 [f,g,i,j,b,d,k] h):PI (C6 s) K 10 [f,g,i,j,b,d,e] h:=zB H
def zgc(H :
 EvO (zH E 25 h g) fun j=>
 EvO (zH E 25 h i) fun k=>
 Ev s (zT (zV E) (some (.func (.func 29) #[] #[])) [e,j,k,f] h) fun b=>
 EvO (zt 0 b.1) fun l=>
 EvO (zt 1 b.1) fun m=>
 Ev s (zW 32 b.2 (zAL E 32)) fun d=>
 Ev s (zb E 32 d.2 d.1 l) fun o=>
 PI (C6 s) K 12 [e,f,g,i,d.1,m] o.2):PI (C6 s) K 11 [e,f,g,i] h:=zB H
def zgb(H :
 EvO (zC E .neq 29 d (iI 0)) fun j=>
 BrK j (PI (C6 s) K 13 [] h) (PI (C6 s) K 14 [e,f,g,i,b] h)):PI (C6 s) K 12 [e,f,g,i,b,d] h:=zB H
def zga(H :
 EvO (zH E 25 h i) fun u=>
 EvO (zH E 25 h j) fun w=>
 EvO (zH E 25 h i) fun m=>
 EvO (zH E 25 h j) fun o=>
 EvO (zH E 32 h f) fun p=>
 Ev s (zT (zV E) (some (.func (.func 30) #[] #[])) [r,u,w,t] h) fun g=>
 EvO (zH E 32 g.2 f) fun e=>veq 100 e p=true ∧
 (EvO (zH E 25 g.2 j) fun d=>veq 100 d o=true ∧
 (EvO (zH E 25 g.2 i) fun b=>veq 100 b m=true ∧
 (EvO (zC E .eql 29 g.1 (iI 0)) fun x=>
 Ev s (zT (zV E) (some (.func (.func 15) #[] #[])) [m,o,p] g.2) fun q=>
 EvO (zC E .eql 29 q.1 (iI 0)) fun k=>
 EvO (ze E (zk [(107,x),(112,k)]) (zn B6 [1,1,1,1,1,1,0] 11)) fun l=>
 K .ret [l] q.2)))):PI (C6 s) K 14 [r,t,i,j,f] h:=zB H
def zmS(aa:h.ok)(hv:zo v=true)(H:PI (C6 s) (KR E [.tmp 8] fun x k=>x=v/\h.qa<=k.wm) 0 [v0,v1,v2,v3] h.qb):(zV E).call 6 [v0,v1,v2,v3] h=some [(v,h)]:=zAz Tryz.f6 aa hv (zAD (C6 s) H)
end Go.Proofs
namespace Go.Proofs
open Go Go.AM
def zWB{n:Int}{h:AH}(aa:h.ok):(zV E).call 154 [iI n] h=some [(.bool false,h)]:=by
 refine zdr (s:=true) aa rfl (zbw ?_);refine zbv ?_;simp[zA,zA1,zAS,zU]
def zIO{a b:Int}{h:AH}(aa:h.ok):(zV E).call 94 [iI a,iI b] h=some [(iI (if a<b then -1 else if b<a then 1 else 0),h)]:=by
 have hf:=zAX h;refine zhN (s:=true) aa rfl (zfP ?_);refine zfO ?_;simp only[zA,zS,zWB hf,zO];refine zfN ?_;simp only[zA,zS,zWB hf,zO];refine zfM ?_;simp only[zA,zi];refine zfL ?_;simp only[zA,zi];refine zfK ?_;simp only[zA,zY,zAN];refine⟨fun h1=>zWn ?_,fun h1=>zWm ?_⟩
 ·simp[zA,zAS,zU,h1]
 simp only[zA,zAO,zAN];refine⟨fun h2=>zWl ?_,fun h2=>zWk ?_⟩
 ·simp[zA,zAS,zU,h1,h2]
 ·simp[zA,zAS,zU,h1,h2]
inductive Arr(h:AH)(z:Nat):Value->List (List Value)->Prop
 | nil (a:Option Addr) (c:Nat):Arr h z (.slice a 0 c) []
 | row {b o c:Nat} {vs:List Value} {ty es:Nat} {ro:Bool} {els:List (List Value)} (hb:h.get b=some (.row vs ty es ro)) (ab:b<h.qa) (hl:o+els.length*z<=vs.length)
   (hz:∀ i e,els[i]?=some e->e.length=z/\(vs.drop (o+i*z)).take z=e):Arr h z (.slice (some ⟨b,o,none⟩) els.length c) els
def Arr.ext{h k:AH}{z:Nat}{v:Value}{els:List (List Value)}(a:Arr h z v els)(e:Ext h k):Arr k z v els:=by
 cases a with
 | nil a c=>exact .nil a c
 | row hb ab hl hz=>exact .row ((e.get _ ab).trans hb) (xAC ab e.qa) hl hz
def zAH(p:Nat->Bool):Nat->Nat->Int
 | 0,_=>-1
 | n+1,i=>if p i then (i:Int) else zAH p n (i+1)
def zBv{p:Nat->Bool}:∀(n i:Nat),(∀ j,i<=j->j<i+n->p j=false) ↔ zAH p n i<0
 | 0,i=>by simp[zAH];intro j h1 h2;omega
 | n+1,i=>by
  simp only[zAH];constructor
  ·intro h;rw[h i (xAF _) (by omega)];simp only[Bool.false_eq_true,if_false];exact (zBv n (i+1)).1 fun j h1 h2=>h j (by omega) (by omega)
  ·intro h j h1 h2;cases hp:p i with
   | true=>rw[hp] at h;simp at h;omega
   | false=>
    rw[hp] at h;simp only[Bool.false_eq_true,if_false] at h;by_cases e:j=i
    ·rw[e,hp]
    ·exact (zBv n (i+1)).2 h j (by omega) (by omega)
def zDu{i n:Nat}(hi:i<n)(hn:n<=9223372036854775807):zC1 ((i:Int)+1):=by unfold zC1;omega
def zlK{h0:AH}{v f:Value}{els:List (List Value)}{p:Nat->Bool}(ha:Arr h0 2 v els)(hn:els.length<=9223372036854775807)
  (hf:∀ k,Ext h0 k->∀ i e,els[i]?=some e->zT (zV E) (some f) (some [.agg ⟨e⟩]) k=some [(.bool (p i),k)]) {k:AH} (hk:Ext h0 k) :
  (zV E).call 220 [v,f] k=some [(iI (zAH p els.length 0),k)]:=by
 refine zNa (s:=true) hk.ok rfl (zIe ?_);refine zId ?_;have loop:∀(m i:Nat),i+m=els.length->zjR true (KR E [.tmp 2] (fun x l=>x=iI (zAH p m i)/\k.qa<=l.wm)) v f (iI (els.length:Int)) (iI (i:Int)) k.qb:=by
  intro m
  induction m with
  | zero=>
   intro i hi;refine zEi ?_;simp only[zY,zA,zAN];refine⟨fun h=>by omega,fun _=>zIc ?_⟩;simp[zA,zAS,zU,zAH]
  | succ m ih=>
   intro i hi;have cT:=ha;cases cT with
   | nil a c=>simp at hi
   | @row b o c vs ty es ro _ hb ab hl hz=>
   have ai:i<els.length:=by omega
   refine zEi ?_;simp only[zY,zA,zAN];refine⟨fun _=>zM6 ?_,fun h=>by omega⟩;refine zM5 ?_;obtain⟨iB,ef⟩:=hz i els[i] (xAA ai);have ao:k.qb.get b=some (.row vs ty es ro):=(hk.get b ab).trans hb;have bc:o+i*2+2<=vs.length:=by
    have:(i+1)*2<=els.length*2:=Nat.mul_le_mul_right _ (by omega);omega
   simp only[zA,zv ai,zZ zEM ao bc,ef,hf _ hk.qb i _ (xAA ai),zO,zCF];refine⟨fun h=>zM4 ?_,fun h=>zM3 ?_⟩
   ·simp[zA,zAS,zU,zAH,h]
   ·simp only[zAK _ (zDu ai hn),zA];have:=ih (i+1) (by omega);simp only[zAH,h];simpa using this
 have h0:=loop els.length 0 (by omega);cases ha with
 | nil a c=>
  simp only[zA,zEw];exact h0
 | row hb ab hl hz=>
  simp only[zA,zEw];exact h0
def zlX{h0:AH}{v f:Value}{els:List (List Value)}{p:Nat->Bool}(ha:Arr h0 2 v els)(hn:els.length<=9223372036854775807)
  (hf:∀ k,Ext h0 k->∀ i e,els[i]?=some e->zT (zV E) (some f) (some [.agg ⟨e⟩]) k=some [(.bool (p i),k)]) {k:AH} (hk:Ext h0 k) :
  (zV E).call 173 [v,f] k=some [(.bool (decide (0<=zAH p els.length 0)),k)]:=by
 refine zdl (s:=true) hk.ok rfl (zbb ?_);refine zba ?_;simp only[zA,zS,zlK ha hn hf hk.qb,zO,zAZ];simp[zA,zAS,zU]
def zlH{h0:AH}{v f:Value}{els:List (List Value)}{p:Nat->Bool}(ha:Arr h0 3 v els)(hn:els.length<=9223372036854775807)
  (hf:∀ k,Ext h0 k->∀ i e,els[i]?=some e->zT (zV E) (some f) (some [.agg ⟨e⟩]) k=some [(.bool (p i),k)]) {k:AH} (hk:Ext h0 k) :
  (zV E).call 243 [v,f] k=some [(iI (zAH p els.length 0),k)]:=by
 refine zdT (s:=true) hk.ok rfl (zZ1 ?_);refine zZ0 ?_;have loop:∀(m i:Nat),i+m=els.length->zpa true (KR E [.tmp 2] (fun x l=>x=iI (zAH p m i)/\k.qa<=l.wm)) v f (iI (els.length:Int)) (iI (i:Int)) k.qb:=by
  intro m
  induction m with
  | zero=>
   intro i hi;refine zMt ?_;simp only[zY,zA,zAN];refine⟨fun h=>by omega,fun _=>zZv ?_⟩;simp[zA,zAS,zU,zAH]
  | succ m ih=>
   intro i hi;have cT:=ha;cases cT with
   | nil a c=>simp at hi
   | @row b o c vs ty es ro _ hb ab hl hz=>
   have ai:i<els.length:=by omega
   refine zMt ?_;simp only[zY,zA,zAN];refine⟨fun _=>zZz ?_,fun h=>by omega⟩;refine zZy ?_;obtain⟨iB,ef⟩:=hz i els[i] (xAA ai);have ao:k.qb.get b=some (.row vs ty es ro):=(hk.get b ab).trans hb;have bc:o+i*3+3<=vs.length:=by
    have:(i+1)*3<=els.length*3:=Nat.mul_le_mul_right _ (by omega);omega
   simp only[zA,zVR ai,zZ zCZ ao bc,ef,hf _ hk.qb i _ (xAA ai),zO,zCF];refine⟨fun h=>zZx ?_,fun h=>zZw ?_⟩
   ·simp[zA,zAS,zU,zAH,h]
   ·simp only[zAK _ (zDu ai hn),zA];have:=ih (i+1) (by omega);simp only[zAH,h];simpa using this
 have h0:=loop els.length 0 (by omega);cases ha with
 | nil a c=>
  simp only[zA,zJS];exact h0
 | row hb ab hl hz=>
  simp only[zA,zJS];exact h0
def zV7{h0:AH}{v f:Value}{els:List (List Value)}{p:Nat->Bool}(ha:Arr h0 3 v els)(hn:els.length<=9223372036854775807)
  (hf:∀ k,Ext h0 k->∀ i e,els[i]?=some e->zT (zV E) (some f) (some [.agg ⟨e⟩]) k=some [(.bool (p i),k)]) {k:AH} (hk:Ext h0 k) :
  (zV E).call 215 [v,f] k=some [(.bool (decide (0<=zAH p els.length 0)),k)]:=by
 refine zdb (s:=true) hk.ok rfl (zah ?_);refine zag ?_;simp only[zA,zS,zlH ha hn hf hk.qb,zO,zAZ];simp[zA,zAS,zU]
inductive GT where
 | mk (k n:Int) (l:List GT)
mutual
inductive RT(h:AH):Value->List GT->Prop
 | mk {v:Value} {els:List (List Value)} {ts:List GT} (ha:Arr h 3 v els) (hn:els.length<=9223372036854775807) (hc:RC h els ts):RT h v ts
inductive RC(h:AH):List (List Value)->List GT->Prop
 | nil:RC h [] []
 | cons {k n:Int} {v:Value} {l:List GT} {els:List (List Value)} {ts:List GT} (hv:RT h v l) (hs:RC h els ts):RC h ([iI k,iI n,v]::els) (.mk k n l::ts)
end
mutual
def RT.ext{h k:AH}(e:Ext h k):∀ {v:Value} {ts:List GT},RT h v ts->RT k v ts
 | _,_,.mk ha hn hc=>.mk (ha.ext e) hn (RC.ext e hc)
def RC.ext{h k:AH}(e:Ext h k):∀ {els:List (List Value)} {ts:List GT},RC h els ts->RC k els ts
 | _,_,.nil=>.nil
 | _,_,.cons hv hs=>.cons (RT.ext e hv) (RC.ext e hs)
end
def RC.at{h:AH}:∀ {els:List (List Value)} {ts:List GT},RC h els ts->∀(i:Nat) (e:List Value),els[i]?=some e->∃(k n:Int) (v:Value) (l:List GT),e=[iI k,iI n,v]/\RT h v l/\ts[i]?=some (GT.mk k n l)
 | _,_,.nil,i,e,h=>by simp at h
 | _,_,.cons hv hs,0,e,h=>by simp at h;exact⟨_,_,_,_,h.symm,hv,rfl⟩
 | _,_,.cons hv hs,i+1,e,h=>by simp only[List.getElem?_cons_succ] at h;obtain⟨k,n,v,l,a,b,c⟩:=RC.at hs i e h;exact⟨k,n,v,l,a,b,by simpa using c⟩
def RC.length{h:AH}:∀ {els:List (List Value)} {ts:List GT},RC h els ts->els.length=ts.length
 | _,_,.nil=>rfl
 | _,_,.cons _ hs=>by simp[RC.length hs]
def RT.slice{h:AH}{v:Value}{ts:List GT}(r:RT h v ts):∃ a c,v=.slice a ts.length c:=by
 cases r with
 | mk ha hn hc=>
  have:=RC.length hc;cases ha with
  | nil a c=>simp at this;exact⟨a,c,by rw[← this]⟩
  | row=>rw[← this];exact⟨_,_,rfl⟩
def Arr.load{h:AH}{z:Nat}{v:Value}{els:List (List Value)}(ha:Arr h z v els){i:Nat}{e:List Value}(hi:els[i]?=some e) :
  ∃ b o c vs ty es ro,v=.slice (some ⟨b,o,none⟩) els.length c/\h.get b=some (.row vs ty es ro)/\b<h.qa/\o+i*z+z<=vs.length/\(vs.drop (o+i*z)).take z=e/\e.length=z:=by
 cases ha with
 | nil a c=>simp at hi
 | @row b o c vs ty es ro _ hb ab hl hz=>
  have aD:i<els.length:=(List.getElem?_eq_some_iff.1 hi).1;refine⟨b,o,c,vs,ty,es,ro,rfl,hb,ab,?_,(hz i e hi).2,(hz i e hi).1⟩;have:(i+1)*z<=els.length*z:=Nat.mul_le_mul_right _ (by omega);rw[Nat.add_mul] at this;omega
abbrev zLB(a d:Int)(ty:TypeId):AObj:=rO [iI a,iI d] ty
def znu(a b:Int)(h:AH):zQ E (zk [(19,iI a),(20,iI b)]) (zn zqd [1,1,0] 6) h=some (iI (if b > a then b else a)):=by kernel_rfl
def upd2{h:AH}{b:Nat}{a d x:Int}{ty:TypeId}(hb:h.get b=some (zLB a d ty)):zb E 3 h (sP b 0) (some (iI x))=one (undef,h.upd b (some (zLB x d ty))):=by
 rw[zAC (P:=E) zT7 hb (zDK _ _) rfl (by simp) rfl];rfl
def zq6{h:AH}{b:Nat}{a d x:Int}{ty:TypeId}(hb:h.get b=some (zLB a d ty)):zb E 3 h (some (.pointer (some ⟨b,1,none⟩))) (some (iI x))=one (undef,h.upd b (some (zLB a x ty))):=by
 rw[zAC (P:=E) zT7 hb (zDK _ _) rfl (by simp) rfl];rfl
mutual
def zVq:GT->Int->Int×Int->Int×Int
 | .mk _ _ l,deep,s=>zVr l deep (zCM .i64 (s.1+1),if deep > s.2 then deep else s.2)
def zVr:List GT->Int->Int×Int->Int×Int
 | [],_,s=>s
 | t::ts,deep,s=>if 2000<s.1\/200<s.2 then s else zVr ts deep (zVq t (zCM .i64 (deep+1)) s)
end
def zd8(k0:AH)(b:Nat)(ty:TypeId)(s:Int×Int)(k:AH):Prop:=Chg k0 b k/\k.wm<=b/\k.get b=some (zLB s.1 s.2 ty)
def zDz{h:AH}{v:Value}{ts:List GT}(r:RT h v ts):zq v=true:=by obtain⟨a,c,rfl⟩:=r.slice;rfl
mutual
def zV4{h0:AH}:∀ {v:Value} {ts:List GT},RT h0 v ts->∀ {k:AH} {b:Nat} {a d kk nn deep:Int} {ty:TypeId},Ext h0 k->h0.qa<=b->b<k.qa->k.get b=some (zLB a d ty)->
  Ev true ((zV E).call 268 [.pointer (some ⟨b,0,none⟩),.agg #[iI kk,iI nn,v],iI deep] k) fun x=>zd8 k b ty (zVq (.mk kk nn ts) deep (a,d)) x.2
 | v,ts,.mk (els:=els) ha hn hc,k,b,a,d,kk,nn,deep,ty,hk,cK,ir,hb=>by
  refine zdI (Rp:=fun _ k'=>zd8 k b ty (zVq (.mk kk nn ts) deep (a,d)) k') (zYX ?_);have ba:RT h0 v ts:=.mk ha hn hc;simp only[zd,zL,zX];refine zYW ?_;have e1:=(Chg.refl (zAX k) b).new (rO [iI kk,iI nn,v] 173);have g1:(k.qb.new (rO [iI kk,iI nn,v] 173)).get b=some (zLB a d ty):=by rw[zK (by simp;omega)];exact hb
  have l1:=zF (P:=E) zAa (o:=0) g1;simp only[lnth] at l1;simp only[zA,zAj,zHW,Nat.add_zero,l1,zK4,upd2 g1,zL];refine zYV ?_;have e2:=e1.upd (some (zLB (zCM .i64 (a+1)) d ty));generalize hk2:(k.qb.new (rO [iI kk,iI nn,v] 173)).upd b (some (zLB (zCM .i64 (a+1)) d ty))=k2 at e2;have g2:k2.get b=some (zLB (zCM .i64 (a+1)) d ty):=by rw[← hk2,zN]
  have t2:k2.get k.qa=some (rO [iI kk,iI nn,v] 173):=by rw[← hk2,zP (by omega)];exact zI _ _
  have l2:=zF (P:=E) zAa (o:=1) g2;simp only[lnth] at l2;simp only[zA,zAj,zF2,xAK,l2,znu,zq6 g2,zL];refine zYU ?_;rw[show zVq (.mk kk nn ts) deep (a,d)=zVr ts deep (zCM .i64 (a+1),if deep > d then deep else d) from rfl];generalize (if deep > d then deep else d)=d';have e3:=e2.upd (some (zLB (zCM .i64 (a+1)) d' ty));generalize hk3:k2.upd b (some (zLB (zCM .i64 (a+1)) d' ty))=k3 at e3;have g3:k3.get b=some (zLB (zCM .i64 (a+1)) d' ty):=by rw[← hk3,zN]
  have t3:k3.get k.qa=some (rO [iI kk,iI nn,v] 173):=by rw[← hk3,zP (by omega)];exact t2
  have w3:k3.wm<=b:=by rw[← hk3];exact (zCm _ _ _).2
  have l3:=zF (P:=E) zDv (o:=2) t3;simp only[lnth] at l3;obtain⟨sa,sc,hv⟩:=ba.slice;have hlen:=RC.length hc;subst hv;simp only[zAi,xAK,l3,zA,za,zRF];refine zUu hc (i:=0) (all:=els) (by simp) ha hn hlen hk cK ir e3 g3 w3 fun ex k' hex aH=>?_;simp only[zNi,hex,true_and];have cY:=aH.2.1;refine⟨.inr (by omega),aH.1.of_fresh,?_,aH.2.2⟩;show cond (Nat.ble k.wm k'.wm) k.wm k'.wm<=b;cases aY:Nat.ble k.wm k'.wm with
  | true=>rw[ble_true] at aY;simp only[xAG];omega
  | false=>simp only[xAH];omega
def zUu{h0:AH}:∀ {els:List (List Value)} {ts:List GT},RC h0 els ts->∀ {i:Nat} {all:List (List Value)} {sa:Option Addr} {len sc:Nat},all.drop i=els->Arr h0 3 (.slice sa len sc) all->all.length<=9223372036854775807->all.length=len->
  ∀ {k0 k:AH} {b:Nat} {a d deep:Int} {ty:TypeId} {K:KF},Ext h0 k0->h0.qa<=b->b<k0.qa->Chg k0.qb b k->k.get b=some (zLB a d ty)->k.wm<=b->
  (∀ ex k',zDE ex=true->zd8 k0.qb b ty (zVr ts deep (a,d)) k'->K ex [] k')->zpK true K (.pointer (some ⟨b,0,none⟩)) (iI deep) (.slice sa len sc) (iI (len:Int)) (iI (i:Int)) k
 | els,ts,hc,i,all,sa,len,sc,hd,ha,hn,hlen,k0,k,b,a,d,deep,ty,K,h1,h2,h3,h4,h5,h6,hK=>by
  refine zYT ?_;simp only[zY,zA,zAN];refine⟨fun hi=>zYS ?_,fun hni=>?_⟩;rotate_left
  ·have:els=[]:=by rw[← hd];exact List.drop_eq_nil_of_le (by omega)
   have cU:ts=[]:=by have:=RC.length hc;rw[‹els=[]›] at this;simpa using this.symm
   rw[cU] at hK;exact hK _ _ rfl ⟨h4,h6,h5⟩
  have bi:i<all.length:=by omega
  match els,ts,hc,hd with
  | _,_,.nil,hd=>
   have:=congrArg List.length hd;simp at this;omega
  | _,_,.cons (k:=tk) (n:=tn) (v:=tv) hv hs,hd=>
   have cu:all[i]?=some [iI tk,iI tn,tv]:=by
    have:=congrArg (·[0]?) hd;simpa[List.getElem?_drop] using this
   obtain⟨b',o,c,vs,ty',es,ro,ay,ao,ab,bc,hz,_⟩:=ha.load cu;simp only[Value.slice.injEq] at ay;obtain⟨hsa,ct,cZ⟩:=ay;subst hsa;have e0:Ext h0 k:=Chg.ext h1.qb h2 h4;have gb':k.get b'=some (.row vs ty' es ro):=(e0.get _ ab).trans ao;have ge:k0.qa<=k.qa:=h4.qa;simp only[zVR (show i<len by omega),zA,zZ zCZ gb' bc,hz,zeJ,zd,zL,zX];have gk:=zI k (rO [iI 0,iI 0,.slice none 0 0] 173);rw[zAC (P:=E) zLM gk (zX _) rfl (by simp) (by simp[zq];exact zDz hv)];simp only[zL];have ib:lput [iI 0,iI 0,.slice none 0 0] 0 [iI tk,iI tn,tv]=[iI tk,iI tn,tv]:=rfl;rw[ib];have e5:=(h4.new (rO [iI 0,iI 0,.slice none 0 0] 173)).updNew (c:=k.qa) (by simpa using h4.qa) (some (rO [iI tk,iI tn,tv] 173));have w5:((k.new (rO [iI 0,iI 0,.slice none 0 0] 173)).upd k.qa (some (rO [iI tk,iI tn,tv] 173))).wm<=b:=Nat.le_trans (zCm _ _ _).1 h6;generalize hk5:(k.new (rO [iI 0,iI 0,.slice none 0 0] 173)).upd k.qa (some (rO [iI tk,iI tn,tv] 173))=k5 at e5 w5;have n5:k5.qa=k.qa+1:=by rw[← hk5];rfl
   have g5:k5.get b=some (zLB a d ty):=by rw[← hk5,zP (by omega),zK (by omega)];exact h5
   have t5:k5.get k.qa=some (rO [iI tk,iI tn,tv] 173):=by rw[← hk5,zN]
   refine zYR ?_;have l0:=zF (P:=E) zAa (o:=0) g5;have l1:=zF (P:=E) zAa (o:=1) g5;simp only[lnth] at l0 l1;simp only[zA,zAj,zHW,Nat.add_zero,l0,zAO,zM];have next:¬ (2000:Int)<a->¬ (200:Int)<d->zpJ true K (.pointer (some ⟨b,0,none⟩)) (iI deep) (.pointer (some ⟨k.qa,0,none⟩)) (.slice (some ⟨b',o,none⟩) len sc) (iI (len:Int)) (iI (i:Int)) k5:=by
    intro hn1 fG;refine zYQ ?_;have l5:=zZ (P:=E) zCZ (o:=0) t5 (by simp);simp only[zA,l5,zK4,zS];refine (zV4 hv (k:=k5) (a:=a) (d:=d) (ty:=ty) (Chg.ext h1.qb h2 e5) h2 (by omega) g5).mono fun x hx=>?_;obtain⟨c1,wx,c2⟩:=hx;refine zYP ?_;simp only[zAK _ (zDu bi hn),zA];have:=zUu hs (i:=i+1) (all:=all) (by rw[← List.drop_drop,hd];rfl) ha hn hlen h1 h2 h3 (deep:=deep) (e5.trans c1) c2 wx (by simpa[zVr,hn1,fG] using hK);exact this
   by_cases eS:(2000:Int)<a
   ·simp only[eS,decide_true,show ((true==false)=false) from rfl,xAH,zA,zJ,xAG,zy];exact hK _ _ rfl ⟨e5,w5,by simpa[zVr,eS] using g5⟩
   ·simp only[eS,decide_false,show ((false==false)=true) from rfl,xAG,zA,zAj,zF2,xAK,l1,zAO,zJ,xAH,zAN];exact⟨fun h2=>hK _ _ rfl ⟨e5,w5,by simpa[zVr,h2] using g5⟩,fun h2=>next eS h2⟩
end
def zk6{k:AH}{b:Nat}{a d:Int}{ty:TypeId}(aa:k.ok)(hb:k.get b=some (zLB a d ty)):(zV E).call 269 [.pointer (some ⟨b,0,none⟩)] k=some [(.bool (decide (2000<a\/200<d)),k)]:=by
 refine zdH (s:=true) aa rfl (zYO ?_);refine zYN ?_;have ao:k.qb.get b=some (zLB a d ty):=hb;have l0:=zF (P:=E) zAa (o:=0) ao;have l1:=zF (P:=E) zAa (o:=1) ao;simp only[lnth] at l0 l1;simp only[zA,zAj,zHW,Nat.add_zero,l0,zAO,zM];by_cases eS:(2000:Int)<a
 ·simp[eS,zA,zJ,zAS,zU]
 ·by_cases hd:(200:Int)<d
  ·simp[eS,hd,zA,zJ,zAS,zU,zAj,zF2,l1,zAO]
  ·simp[eS,hd,zA,zJ,zAS,zU,zAj,zF2,l1,zAO]
def zQo(t:GT):Int×Int:=if 2000<(zVq t 1 (0,0)).1\/200<(zVq t 1 (0,0)).2 then (2001,201) else zVq t 1 (0,0)
def zlG{h0 k:AH}{kk nn:Int}{v:Value}{l:List GT}(hr:RT h0 v l)(hk:Ext h0 k) :
  (zV E).call 244 [.agg #[iI kk,iI nn,v]] k=some [(.tuple #[iI (zQo (.mk kk nn l)).1,iI (zQo (.mk kk nn l)).2],k)]:=by
 refine zTL hk.ok rfl (zZu ?_);simp only[zd,zL,zX,zA];refine zZt ?_;simp only[zqy,zd,zL,zX];refine zZs ?_;have e1:=(hk.qb.new (rO [iI kk,iI nn,v] 173)).new (rO [iI 0,iI 0] 306);have t1:((k.qb.new (rO [iI kk,iI nn,v] 173)).new (rO [iI 0,iI 0] 306)).get k.qa=some (rO [iI kk,iI nn,v] 173):=by
  rw[zK (by simp)];exact zI k.qb _
 have g1:((k.qb.new (rO [iI kk,iI nn,v] 173)).new (rO [iI 0,iI 0] 306)).get (k.qa+1)=some (zLB 0 0 306):=zI (k.qb.new _) _;have n1:((k.qb.new (rO [iI kk,iI nn,v] 173)).new (rO [iI 0,iI 0] 306)).qa=k.qa+2:=rfl;have w1:((k.qb.new (rO [iI kk,iI nn,v] 173)).new (rO [iI 0,iI 0] 306)).wm=k.qa+UNK:=rfl;simp only[za,AH.next_new];generalize ((k.qb.new (rO [iI kk,iI nn,v] 173)).new (rO [iI 0,iI 0] 306))=k1 at e1 t1 g1 n1 w1;have lt:=zZ (P:=E) zCZ (o:=0) t1 (by simp);have df:=hk.qa;simp only[lt,zA,zS];refine (zV4 hr (k:=k1) (b:=k.qa+1) e1 (by omega) (by omega) g1).mono fun x hx=>?_;obtain⟨c1,_,c2⟩:=hx;refine zZr ?_;simp only[zS,zk6 c1.ok c2,zO,zAN];have fa:k.qa<=x.2.wm:=c1.wm k.qa (by omega) (by omega) (by omega);have l0:=zF (P:=E) zAa (o:=0) c2;have l1:=zF (P:=E) zAa (o:=1) c2;simp only[lnth] at l0 l1;refine⟨fun fe=>zZq ?_,fun fe=>zZp ?_⟩
 ·simp[zA,zRU,zU,zQo,fe,fa]
 ·simp only[zA,zHW,zF2,Nat.add_zero,xAK,l0,l1,zRU,zU,true_and,zQo,fe,if_false];exact fa
mutual
def okT:GT->Bool
 | .mk k n l=>decide (k=2)&&decide (0<=n)&&decide (n<256)&&decide (l.length<=8)&&okL l
def okL:List GT->Bool
 | []=>true
 | t::ts=>okT t&&okL ts
end
def okL_iff:∀ {ts:List GT},okL ts=true ↔ ∀(i:Nat) (t:GT),ts[i]?=some t->okT t=true
 | []=>by simp[okL]
 | t::ts=>by
  simp only[okL,xAP,okL_iff (ts:=ts)];constructor
  ·rintro⟨a,b⟩ i u hu;cases i with
   | zero=>simp at hu;rw[← hu];exact a
   | succ i=>exact b i u (by simpa using hu)
  ·intro h;exact⟨h 0 t rfl,fun i u hu=>h (i+1) u (by simpa using hu)⟩
def zPP(ts:List GT)(f:GT->Bool)(i:Nat):Bool:=match ts[i]? with
 | some t=>!f t
 | none=>false
def zn3{ts:List GT}:decide (0<=zAH (zPP ts okT) ts.length 0)=!okL ts:=by
 have h:=zBv (p:=zPP ts okT) ts.length 0;cases hb:okL ts with
 | true=>
  have:zAH (zPP ts okT) ts.length 0<0:=h.1 fun j _ hj=>by
   unfold zPP;cases ht:ts[j]? with
   | none=>rfl
   | some t=>simp[okL_iff.1 hb j t ht]
  rw[xAI (by omega)];rfl
 | false=>
  have:¬ zAH (zPP ts okT) ts.length 0<0:=by
   intro c7;have:=h.2 c7;have aB:okL ts=true:=okL_iff.2 fun i t ht=>by
    have hi:=(List.getElem?_eq_some_iff.1 ht).1;have:=this i (Nat.zero_le _) (by omega);simpa[zPP,ht] using this
   rw[aB] at hb;cases hb
  rw[xAJ (by omega)];rfl
abbrev zTr(f:FuncId)(b:Nat):Value:=.func (.func f) #[] #[.pointer (some ⟨b,0,none⟩)]
def zOz(h0:AH)(kk nn:Int)(v:Value)(l:List GT):Prop:=∀(k:AH) (b:Nat),Ext h0 k->b<k.qa->k.get b=some (rO [zTr 245 b] 247)->
 (zV E).call 245 [.agg #[iI kk,iI nn,v],.pointer (some ⟨b,0,none⟩)] k=some [(.bool (okT (.mk kk nn l)),k)]
def zlF{h0:AH}{kk nn:Int}{v:Value}{l:List GT}(hs:zOz h0 kk nn v l){k:AH}{b:Nat}(hk:Ext h0 k)(ir:b<k.qa)(hb:k.get b=some (rO [zTr 245 b] 247)) :
  (zV E).call 246 [.agg #[iI kk,iI nn,v],.pointer (some ⟨b,0,none⟩)] k=some [(.bool (!okT (.mk kk nn l)),k)]:=by
 refine zdR (s:=true) hk.ok rfl (zZm ?_);simp only[zd,zL,zX,zA];refine zZl ?_;have e1:=hk.qb.new (rO [iI kk,iI nn,v] 173);have t1:=zI k.qb (rO [iI kk,iI nn,v] 173);have g1:(k.qb.new (rO [iI kk,iI nn,v] 173)).get b=some (rO [zTr 245 b] 247):=by rw[zK (by simp;omega)];exact hb
 have lt:=zZ (P:=E) zCZ (o:=0) t1 (by simp);have lc:=zF (P:=E) ziT (o:=0) g1;simp only[lnth] at lc;simp only[List.drop_zero,List.take] at lt;simp only[za] at lt;simp only[za,lt,lc,zA,zEk];have:=hs _ _ e1 (by simp;omega) g1;simp only[List.nil_append,List.cons_append,this,zO,zAB,zA,zAS,zU];simp[zCl]
mutual
def zUH{h0:AH}:∀ {v:Value} {l:List GT},RT h0 v l->∀(kk nn:Int),zOz h0 kk nn v l
 | v,l,.mk (els:=els) ha hn hc,kk,nn=>by
  intro k b hk ir hb;have ba:RT h0 v l:=.mk ha hn hc;have dR:=zPF hc;have hlen:=RC.length hc;obtain⟨sa,sc,hv⟩:=ba.slice;subst hv;refine zdS (s:=true) hk.ok rfl (zZo ?_);simp only[zd,zL,zX,zA];refine zZn ?_;have e1:=hk.qb.new (rO [iI kk,iI nn,.slice sa l.length sc] 173);have t1:=zI k.qb (rO [iI kk,iI nn,.slice sa l.length sc] 173);have g1:(k.qb.new (rO [iI kk,iI nn,.slice sa l.length sc] 173)).get b=some (rO [zTr 245 b] 247):=by rw[zK (by simp;omega)];exact hb
  have w1:(k.qb.new (rO [iI kk,iI nn,.slice sa l.length sc] 173)).wm=k.qa+UNK:=rfl;have n1:(k.qb.new (rO [iI kk,iI nn,.slice sa l.length sc] 173)).qa=k.qa+1:=rfl;simp only[za] at t1 ⊢;generalize k.qb.new (rO [iI kk,iI nn,.slice sa l.length sc] 173)=k1 at e1 t1 g1 w1 n1;have l0:=zF (P:=E) zAa (o:=0) t1;have l1:=zF (P:=E) zAa (o:=1) t1;have l2:=zF (P:=E) zDv (o:=2) t1;simp only[lnth] at l0 l1 l2;have gF:(zV E).call 215 [.slice sa l.length sc,.func (.func 246) #[] #[.pointer (some ⟨b,0,none⟩)]] k1=some [(.bool (decide (0<=zAH (zPP l okT) els.length 0)),k1)]:=by
   refine zV7 (h0:=k1) (ha.ext e1) hn (fun k2 hk2 i e he=>?_) (Ext.refl e1.ok);obtain⟨ck,cn,cv,cl,q1,q2,q3,q4⟩:=dR i e he;subst q1;have:=zlF q4 (e1.trans hk2) (xAC (by omega:b<k1.qa) hk2.qa) ((hk2.get b (by omega)).trans g1);simp only[zEk,List.nil_append,List.cons_append,zPP,q3];exact this
  rw[hlen,zn3] at gF;simp only[zF5,zF4,zAi,Nat.add_zero,xAK,l0,zA,zAd,zM,zJ,okT];by_cases c1:kk=2
  ·by_cases c2:0<=nn
   ·by_cases c3:nn<256
    ·by_cases c4:l.length<=8
     ·have c4':(l.length:Int)<=8:=by omega
      simp[c1,c2,c3,c4,c4',l1,l2,zA,zAZ,zY,zBJ,zH8,zJ,zM,zR,zBB,zS,gF,zO,zAB,zAS,zU,w1]
     ·have c4':¬ (l.length:Int)<=8:=by omega
      simp[c1,c2,c3,c4,c4',l1,l2,zA,zAZ,zY,zBJ,zH8,zJ,zM,zR,zL,zAS,zU,w1]
    ·simp[c1,c2,c3,l1,zA,zAZ,zY,zJ,zM,zR,zL,zAS,zU,w1]
   ·simp[c1,c2,l1,zA,zAZ,zJ,zM,zR,zL,zAS,zU,w1]
  ·simp[c1,zA,zJ,zM,zR,zL,zAS,zU,w1]
def zPF{h0:AH}:∀ {els:List (List Value)} {ts:List GT},RC h0 els ts->∀(i:Nat) (e:List Value),els[i]?=some e->
  ∃(k n:Int) (v:Value) (l:List GT),e=[iI k,iI n,v]/\RT h0 v l/\ts[i]?=some (.mk k n l)/\zOz h0 k n v l
 | _,_,.nil,i,e,h=>by simp at h
 | _,_,.cons hv hs,0,e,h=>by simp at h;exact⟨_,_,_,_,h.symm,hv,rfl,zUH hv _ _⟩
 | _,_,.cons hv hs,i+1,e,h=>by
  simp only[List.getElem?_cons_succ] at h;obtain⟨k,n,v,l,a,b,c,d⟩:=zPF hs i e h;exact⟨k,n,v,l,a,b,by simpa using c,d⟩
end
def zGa(t:GT):Bool:=decide ((zQo t).1<=2000)&&okT t
def zlM{h0 k:AH}{kk nn:Int}{v:Value}{l:List GT}(hr:RT h0 v l)(hk:Ext h0 k) :
  (zV E).call 217 [.agg #[iI kk,iI nn,v]] k=some [(.bool (zGa (.mk kk nn l)),k)]:=by
 refine zdZ (s:=true) hk.ok rfl (zad ?_);simp only[zd,zL,zX,zA];refine zac ?_;have e1:=hk.qb.new (rO [iI kk,iI nn,v] 173);have t1:=zI k.qb (rO [iI kk,iI nn,v] 173);have w1:(k.qb.new (rO [iI kk,iI nn,v] 173)).wm=k.qa+UNK:=rfl;have n1:(k.qb.new (rO [iI kk,iI nn,v] 173)).qa=k.qa+1:=rfl;simp only[za] at t1 ⊢;generalize k.qb.new (rO [iI kk,iI nn,v] 173)=k1 at e1 t1 w1 n1;have lt:=zZ (P:=E) zCZ (o:=0) t1 (by simp);simp only[List.drop_zero,List.take] at lt;simp only[lt,zA,zS,zlG hr e1,zO,zt,lnth];refine zab ?_;simp only[zA,zAO,zAN];refine⟨fun fe=>zaa ?_,fun fe=>zaZ ?_⟩
 ·simp only[zA,zAS,zU,true_and,zGa];refine⟨?_,by omega⟩;rw[xAI (by omega)];rfl
 ·simp only[zq0,zd,zL,zRc];refine zaY ?_;have g0:=zI k1 (rO [.nilFunc] 247);simp only[zj,zBB,zA];rw[zAC (P:=E) znE (cs:=[zTr 245 k1.qa]) g0 rfl rfl (by simp) rfl];simp only[zL];refine zaX ?_;have e2:=(e1.new (rO [.nilFunc] 247)).upd (b:=k1.qa) e1.qa (some (rO (lput [.nilFunc] 0 [zTr 245 k1.qa]) 247));have g2:((k1.new (rO [.nilFunc] 247)).upd k1.qa (some (rO (lput [.nilFunc] 0 [zTr 245 k1.qa]) 247))).get k1.qa=some (rO [zTr 245 k1.qa] 247):=zN _ _ _;have t2:((k1.new (rO [.nilFunc] 247)).upd k1.qa (some (rO (lput [.nilFunc] 0 [zTr 245 k1.qa]) 247))).get k.qa=some (rO [iI kk,iI nn,v] 173):=by
   rw[zP (by omega),zK (by omega)];exact t1
  have w2:k.qa<=((k1.new (rO [.nilFunc] 247)).upd k1.qa (some (rO (lput [.nilFunc] 0 [zTr 245 k1.qa]) 247))).wm:=zAA (by rw[zCl];omega) (by omega);have n2:((k1.new (rO [.nilFunc] 247)).upd k1.qa (some (rO (lput [.nilFunc] 0 [zTr 245 k1.qa]) 247))).qa=k1.qa+1:=rfl;generalize ((k1.new (rO [.nilFunc] 247)).upd k1.qa (some (rO (lput [.nilFunc] 0 [zTr 245 k1.qa]) 247)))=k2 at e2 g2 t2 w2 n2;have lc:=zF (P:=E) ziT (o:=0) g2;have lt2:=zZ (P:=E) zCZ (o:=0) t2 (by simp);simp only[lnth,List.drop_zero,List.take] at lc lt2;simp only[lc,lt2,zA,zEk,List.nil_append,List.cons_append,zUH hr kk nn _ _ e2 (by omega) g2,zO,zAS,zU,true_and];refine⟨?_,w2⟩;unfold zGa;rw[xAJ (by omega)];rfl
end Go.Proofs
