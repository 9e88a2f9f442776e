import Derived.Test.YthmnhjcmefjgjaaGreatDoorXAF
import Derived.Test.YthmnhjcmefjgjaaGreatDoorXAE
set_option linter.all false
set_option linter.unusedSectionVars false
set_option autoImplicit true
set_option relaxedAutoImplicit true
namespace Go.Proofs
open Go Go.AM
set_option maxRecDepth 100000
variable {s:Bool} {K:KF} {h:AH} {a:Option Addr} {n c:Nat} {b d e f g i j k l m o p q r t u w x y z A B C D F G J L M N O Q S U V W X Y Z v v0 v1 v2 v3 v4 v5 v6 v7 v8 v9 v10 v11 v12 v13 v14 v15 v16 v17 v18 v19 v20 v21 v22 v23 v24 v25 v26 v27 v37 v38 v39 v40 v47 v48 v49 v56 v57 v58 v65 v66 v67 v73 v74 v75:Value} {h1:AH} {Rp:Value->AH->Prop}
noncomputable def B106:Code:=zh Tryz.f106
noncomputable def zIA (s:Bool):Cx:=⟨E,s,none,B106,[([0],[0,1]),([1,0,0],[0,1,4]),([1,0,1,0,0],[4]),([1,1,0],[0,1,4]),([1,1,1,0,0],[1,4,6]),([1,1,1,0,1,0,0,0],[4,6,13,14]),([1,1,1,0,1,0,0,1,1,0,0,0],[4,6,13,14]),([1,1,1,0,1,0,0,1,1,0,0,1],[4,6,7,13,14]),([1,1,1,0,1,0,0,1,1,1],[4,6,13,14]),([1,1,1,1,0],[4,6])],[4,5],[]⟩
def zb9 (H :
 Ev s (zS 32 h (z8 E 32)) fun b=>
 PI (zIA s) K 1 [d,e,b.1] b.2):PI (zIA s) K 0 [d,e] h:=zB H
def zb8 (H :
 EvO (zC E .gtr 3 b (iI 200000)) fun f=>
 BrK f (PI (zIA s) K 2 [d] h) (PI (zIA s) K 3 [e,b,d] h)):PI (zIA s) K 1 [e,b,d] h:=zB H
def zb7 (H :
 EvO (zAo E 32 (some [(0,d)])) fun g=>
 Ev s (zS 32 h (z8 E 32)) fun b=>
 Ev s (zf E 32 b.2 b.1 g) fun i=>
 PI (zIA s) K 4 [e,f,b.1] i.2):PI (zIA s) K 3 [d,e,f] h:=zB H
def zb6 (H :
 PI (zIA s) K 5 [d,e,b,(iI 0)] h):PI (zIA s) K 4 [b,d,e] h:=zB H
def zMa (H :
 EvO (zC E .lss 3 d b) fun g=>
 BrK g (PI (zIA s) K 6 [e,f,b,d] h) (PI (zIA s) K 9 [e,f] h)):PI (zIA s) K 5 [e,f,b,d] h:=zB H
def zb5 (H :
 PI (zIA s) K 7 [e,f,b,d,b] h):PI (zIA s) K 6 [e,f,d,b] h:=zB H
def zb4 (H :
 EvO (zD E 32 1 e) fun k=>
 EvO (zG E 26 h k) fun l=>
 EvO (zAo E 54 (some [(0,f),(1,f)])) fun m=>
 Ev s (zd E 26 1 (some [(0,m)]) h) fun g=>
 Ev s (zAH E .append [26,26] [l,g.1] g.2) fun i=>
 EvO (zD E 32 1 e) fun o=>
 Ev s (zf E 26 i.2 o i.1) fun p=>
 PI (zIA s) K 8 [j,e,b,d] p.2):PI (zIA s) K 7 [j,e,f,b,d] h:=zB H
def zb3 (H :
 EvO (zC E .add 3 d (iI 1)) fun g=>
 PI (zIA s) K 5 [e,f,b,g] h):PI (zIA s) K 8 [e,f,b,d] h:=zB H
def zb2 (H :
 EvO (zG E 32 h d) fun e=>
 Ev s (zf E 32 h b e) fun f=>
 K .ret [b,(iI 0)] f.2):PI (zIA s) K 9 [b,d] h:=zB H
theorem zc7 (H:PI (zIA true) (KR E [.cell 4 32,.tmp 5] fun x k=>(zi x=false\/k.wm<h.next)/\Rp x ⟨k.t,k.next,cond (Nat.ble h.wm k.wm) h.wm k.wm⟩) 0 [v0,v1] h.fresh):Ev true ((zY E).call 106 [v0,v1] h) fun x=>Rp x.1 x.2:=zD5 Tryz.f106 (zAA (zIA true) H)
noncomputable def B53:Code:=zh Tryz.f53
noncomputable def C53 (s:Bool):Cx:=⟨E,s,none,B53,[([0],[0,1]),([1,0,0],[0,3,4]),([1,0,1,0],[0,3,4,6]),([1,0,1,1,0,0],[4,6]),([1,1,0,0],[0,3,4]),([1,1,0,1,0,0],[4]),([1,1,1,0],[0,3,4])],[4,5],[]⟩
def zfc (H :
 Ev s (zS 25 h f) fun b=>
 Ev s (zS 32 b.2 (z8 E 32)) fun d=>
 PI (C53 s) K 1 [e,b.1,d.1] d.2):PI (C53 s) K 0 [e,f] h:=zB H
def zfb (H :
 EvO (zG E 25 h b) fun i=>
 Ev s (zd E 82 1 (some [(0,i)]) h) fun d=>
 Ev s (zR (zY E) (some (.func (.func 70) #[] #[])) [d.1] d.2) fun e=>
 PI (C53 s) K 2 [f,b,g,e.1] e.2):PI (C53 s) K 1 [f,b,g] h:=zB H
def zfa (H :
 EvO (zC E .neq 29 d (iI 0)) fun g=>
 BrK g (PI (C53 s) K 3 [b,d] h) (PI (C53 s) K 4 [e,f,b] h)):PI (C53 s) K 2 [e,f,b,d] h:=zB H
def zfZ (H :
 Ev s (zR (zY E) (some (.func (.func 105) #[] #[])) [d] h) fun b=>
 EvO (zAW .not b.1) fun g=>
 BrK g (PI (C53 s) K 5 [e] b.2) (PI (C53 s) K 6 [d,f,e] b.2)):PI (C53 s) K 4 [d,f,e] h:=zB H
def zfY (H :
 EvO (zD E 25 0 f) fun g=>
 EvO (zG E 3 h g) fun i=>
 Ev s (zR (zY E) (some (.func (.func 106) #[] #[])) [e,i] h) fun b=>
 EvO (ze 0 b.1) fun j=>
 EvO (ze 1 b.1) fun k=>
 Ev s (zf E 32 b.2 d j) fun l=>
 K .ret [d,k] l.2):PI (C53 s) K 6 [e,f,d] h:=zB H
theorem zga (H:PI (C53 true) (KR E [.cell 4 32,.tmp 5] fun x k=>(zi x=false\/k.wm<h.next)/\Rp x ⟨k.t,k.next,cond (Nat.ble h.wm k.wm) h.wm k.wm⟩) 0 [v0,v1] h.fresh):Ev true ((zY E).call 53 [v0,v1] h) fun x=>Rp x.1 x.2:=zD5 Tryz.f53 (zAA (C53 true) H)
noncomputable def zqv:Code:=zh Tryz.f108
noncomputable def zSW (s:Bool):Cx:=⟨E,s,none,zqv,[([0],[0,1]),([1,0],[0,1,4]),([1,1,0],[0,1,4]),([1,1,1,0,0],[0,1,4]),([1,1,1,0,1,0,0],[4]),([1,1,1,1,0],[0,1,4])],[4,5],[]⟩
def zb1 (H :
 Ev s (zS 32 h (z8 E 32)) fun b=>
 PI (zSW s) K 1 [d,e,b.1] b.2):PI (zSW s) K 0 [d,e] h:=zB H
def zb0 (H :
 Ev s (zR (zY E) (some (.func (.func 33) #[] #[])) (some [b,(.func (.func 122) #[] #[])]) h) fun f=>
 PI (zSW s) K 2 [d,b,e] f.2):PI (zSW s) K 1 [d,b,e] h:=zB H
def zbz (H :
 Ev s (zR (zY E) (some (.func (.func 36) #[] #[])) [e] h) fun b=>
 PI (zSW s) K 3 [d,b.1,f] b.2):PI (zSW s) K 2 [d,e,f] h:=zB H
def zby (H :
 EvO (zN E (zk [(10,b)]) (zo zqv [1,1,1,0,0] 1) h) fun f=>
 EvO (zC E .gtr 3 f (iI 200000)) fun g=>
 BrK g (PI (zSW s) K 4 [d] h) (PI (zSW s) K 5 [e,b,d] h)):PI (zSW s) K 3 [e,b,d] h:=zB H
theorem zQW:zN E (zk [(10,.slice a n c)]) (zo zqv [1,1,1,0,0] 1) h=some (iI (n:Int)):=by cases a <;> kernel_rfl
def zbx (H :
 EvO (zAo E 32 (some [(0,d),(1,e)])) fun f=>
 Ev s (zf E 32 h b f) fun g=>
 K .ret [b,(iI 0)] g.2):PI (zSW s) K 5 [d,e,b] h:=zB H
theorem zc6 (H:PI (zSW true) (KR E [.cell 4 32,.tmp 5] fun x k=>(zi x=false\/k.wm<h.next)/\Rp x ⟨k.t,k.next,cond (Nat.ble h.wm k.wm) h.wm k.wm⟩) 0 [v0,v1] h.fresh):Ev true ((zY E).call 108 [v0,v1] h) fun x=>Rp x.1 x.2:=zD5 Tryz.f108 (zAA (zSW true) H)
noncomputable def B55:Code:=zh Tryz.f55
noncomputable def C55 (s:Bool):Cx:=⟨E,s,none,B55,[([0],[0]),([1,0,0],[1,2]),([1,0,1,0],[1,2,4]),([1,0,1,1,0,0],[2,4]),([1,1,0],[1,2]),([1,1,1,0,0],[1,2,5]),([1,1,1,0,1,0,0,0],[1,2,5,16,17,18]),([1,1,1,0,1,0,0,1,1,0,0,0],[1,2,5,16,17,18]),([1,1,1,0,1,0,0,1,1,0,0,1],[1,2,5,7,16,17,18]),([1,1,1,0,1,0,0,1,1,1],[1,2,5,16,17,18]),([1,1,1,1,0],[1,2,5])],[2,3],[]⟩
def zfX (H :
 Ev s (zS 32 h e) fun b=>
 Ev s (zS 32 b.2 (z8 E 32)) fun d=>
 PI (C55 s) K 1 [b.1,d.1] d.2):PI (C55 s) K 0 [e] h:=zB H
def zfW (H :
 EvO (zG E 32 h b) fun g=>
 Ev s (zd E 83 1 (some [(0,g)]) h) fun d=>
 Ev s (zR (zY E) (some (.func (.func 71) #[] #[])) [d.1] d.2) fun e=>
 PI (C55 s) K 2 [b,f,e.1] e.2):PI (C55 s) K 1 [b,f] h:=zB H
def zfV (H :
 EvO (zC E .neq 29 d (iI 0)) fun f=>
 BrK f (PI (C55 s) K 3 [b,d] h) (PI (C55 s) K 4 [e,b] h)):PI (C55 s) K 2 [e,b,d] h:=zB H
def zfU (H :
 PI (C55 s) K 5 [b,d,(.slice none 0 0)] h):PI (C55 s) K 4 [b,d] h:=zB H
def zfT (H :
 EvO (zD E 32 1 b) fun g=>
 EvO (zG E 26 h g) fun d=>
 EvO (zN E (zk [(16,d)]) (zo B55 [1,1,1,0,0] 2) h) fun i=>
 PI (C55 s) K 6 [b,e,f,d,i,(iI 0)] h):PI (C55 s) K 5 [b,e,f] h:=zB H
theorem zTn:zN E (zk [(16,.slice a n c)]) (zo B55 [1,1,1,0,0] 2) h=some (iI (n:Int)):=by cases a <;> kernel_rfl
def zPX (H :
 EvO (zC E .lss 3 d b) fun j=>
 BrK j (PI (C55 s) K 7 [f,g,i,e,b,d] h) (PI (C55 s) K 10 [f,g,i] h)):PI (C55 s) K 6 [f,g,i,e,b,d] h:=zB H
def zfS (H :
 EvO (zE E 26 b d) fun k=>
 EvO (zG E 54 h k) fun l=>
 Ev s (zS 54 h (z8 E 54)) fun f=>
 Ev s (zf E 54 f.2 f.1 l) fun m=>
 PI (C55 s) K 8 [g,i,j,f.1,b,e,d] m.2):PI (C55 s) K 7 [g,i,j,b,e,d] h:=zB H
def zfR (H :
 EvO (zE E 54 f (some (iI 1))) fun m=>
 EvO (zG E 3 h m) fun o=>
 EvO (zE E 54 f (some (iI 0))) fun p=>
 EvO (zG E 3 h p) fun q=>
 EvO (zAo E 54 (some [(0,o),(1,q)])) fun r=>
 Ev s (zd E 26 1 (some [(0,r)]) h) fun g=>
 Ev s (zAH E .append [26,26] [l,g.1] g.2) fun i=>
 PI (C55 s) K 9 [j,k,i.1,b,d,e] i.2):PI (C55 s) K 8 [j,k,l,f,b,d,e] h:=zB H
def zfQ (H :
 EvO (zC E .add 3 e (iI 1)) fun j=>
 PI (C55 s) K 6 [f,g,i,b,d,j] h):PI (C55 s) K 9 [f,g,i,b,d,e] h:=zB H
def zWK (H :
 EvO (zD E 32 0 e) fun g=>
 EvO (zG E 3 h g) fun i=>
 Ev s (zR (zY E) (some (.func (.func 108) #[] #[])) [i,f] h) fun b=>
 EvO (ze 0 b.1) fun j=>
 EvO (ze 1 b.1) fun k=>
 Ev s (zf E 32 b.2 d j) fun l=>
 K .ret [d,k] l.2):PI (C55 s) K 10 [e,d,f] h:=zB H
theorem zgZ (H:PI (C55 true) (KR E [.cell 2 32,.tmp 3] fun x k=>(zi x=false\/k.wm<h.next)/\Rp x ⟨k.t,k.next,cond (Nat.ble h.wm k.wm) h.wm k.wm⟩) 0 [v0] h.fresh):Ev true ((zY E).call 55 [v0] h) fun x=>Rp x.1 x.2:=zD5 Tryz.f55 (zAA (C55 true) H)
noncomputable def zPi:Code:=zh Tryz.f109
noncomputable def zBm (s:Bool):Cx:=⟨E,s,none,zPi,[([0],[0,1]),([1,0],[2,3,4]),([1,1,0,0],[2,3,4,6]),([1,1,0,1,0,0,0],[2,3,4,6,19,20,21]),([1,1,0,1,0,0,1,1,0,0,0],[2,3,4,6,19,20,21]),([1,1,0,1,0,0,1,1,0,0,1],[2,3,4,6,8,19,20,21]),([1,1,0,1,0,0,1,1,1],[2,3,4,6,19,20,21]),([1,1,1,0],[2,3,4,6]),([1,1,1,1,0,0],[2,3,4,6,9]),([1,1,1,1,0,1,0,0,0],[2,3,4,6,9,38,39,40]),([1,1,1,1,0,1,0,0,1,1,0,0,0],[2,3,4,6,9,38,39,40]),([1,1,1,1,0,1,0,0,1,1,0,0,1,0],[2,3,4,6,9,11,38,39,40]),([1,1,1,1,0,1,0,0,1,1,0,0,1,1,0],[2,3,4,6,9,38,39,40]),([1,1,1,1,0,1,0,0,1,1,0,0,1,1,1,0,0],[4]),([1,1,1,1,0,1,0,0,1,1,1],[2,3,4,6,9,38,39,40]),([1,1,1,1,1,0],[2,3,4,6]),([1,1,1,1,1,1,0,0],[2,3,4,6,12]),([1,1,1,1,1,1,0,1,0,0,0],[2,3,4,6,12,56,57,58]),([1,1,1,1,1,1,0,1,0,0,1,1,0,0,0],[2,3,4,6,12,56,57,58]),([1,1,1,1,1,1,0,1,0,0,1,1,0,0,1,0],[2,3,4,6,12,14,56,57,58]),([1,1,1,1,1,1,0,1,0,0,1,1,0,0,1,1,0,0,0],[2,3,4,6,12,14,56,57,58,65,66,67]),([1,1,1,1,1,1,0,1,0,0,1,1,0,0,1,1,0,0,1,1,0,0,0],[2,3,4,6,12,14,56,57,58,65,66,67]),([1,1,1,1,1,1,0,1,0,0,1,1,0,0,1,1,0,0,1,1,0,0,1],[2,3,4,6,12,14,16,56,57,58,65,66,67]),([1,1,1,1,1,1,0,1,0,0,1,1,0,0,1,1,0,0,1,1,1],[2,3,4,6,12,14,56,57,58,65,66,67]),([1,1,1,1,1,1,0,1,0,0,1,1,1],[2,3,4,6,12,56,57,58]),([1,1,1,1,1,1,1,0],[2,3,4,12])],[4,5],[]⟩
def zbw (H :
 Ev s (zS 32 h f) fun b=>
 Ev s (zS 32 b.2 g) fun d=>
 Ev s (zS 32 d.2 (z8 E 32)) fun e=>
 PI (zBm s) K 1 [b.1,d.1,e.1] e.2):PI (zBm s) K 0 [f,g] h:=zB H
def zbv (H :
 Ev s (one ((.map (some (h).next):Value),(h).new (.map [] 0))) fun b=>
 PI (zBm s) K 2 [d,e,f,b.1] b.2):PI (zBm s) K 1 [d,e,f] h:=zB H
def zbu (H :
 EvO (zD E 32 1 b) fun i=>
 EvO (zG E 26 h i) fun d=>
 EvO (zN E (zk [(19,d)]) (zo zPi [1,1,0,0] 2) h) fun j=>
 PI (zBm s) K 3 [e,b,f,g,d,j,(iI 0)] h):PI (zBm s) K 2 [e,b,f,g] h:=zB H
theorem zQV:zN E (zk [(19,.slice a n c)]) (zo zPi [1,1,0,0] 2) h=some (iI (n:Int)):=by cases a <;> kernel_rfl
def zMZ (H :
 EvO (zC E .lss 3 d b) fun k=>
 BrK k (PI (zBm s) K 4 [f,g,i,j,e,b,d] h) (PI (zBm s) K 7 [f,g,i,j] h)):PI (zBm s) K 3 [f,g,i,j,e,b,d] h:=zB H
def zbt (H :
 EvO (zE E 26 b d) fun l=>
 EvO (zG E 54 h l) fun m=>
 Ev s (zS 54 h (z8 E 54)) fun f=>
 Ev s (zf E 54 f.2 f.1 m) fun o=>
 PI (zBm s) K 5 [g,i,j,k,f.1,b,e,d] o.2):PI (zBm s) K 4 [g,i,j,k,b,e,d] h:=zB H
def zbs (H :
 EvO (zE E 54 o (some (iI 0))) fun p=>
 EvO (zG E 3 h p) fun r=>
 EvO (zE E 54 o (some (iI 0))) fun u=>
 EvO (zG E 3 h u) fun t=>
 EvO (zBI E 125 false j t h) fun w=>
 EvO (zE E 54 o (some (iI 1))) fun A=>
 EvO (zG E 3 h A) fun B=>
 Ev s (zd E 47 1 (some [(0,B)]) h) fun i=>
 EvO (zBI E 125 false j t i.2) fun g=>veq 100 g w=true ∧
 (EvO (zG E 3 i.2 u) fun f=>veq 100 f t=true ∧
 (EvO (zG E 3 i.2 p) fun e=>veq 100 e r=true ∧
 (Ev s (zAH E .append [47,47] [w,i.1] i.2) fun d=>
 EvO (zG E 3 d.2 p) fun b=>veq 100 b r=true ∧
 (Ev s (zAP E 125 j r d.1 d.2) fun q=>
 PI (zBm s) K 6 [x,y,z,j,k,l,m] q.2))))):PI (zBm s) K 5 [x,y,z,j,o,k,l,m] h:=zB H
def zbr (H :
 EvO (zC E .add 3 e (iI 1)) fun k=>
 PI (zBm s) K 3 [f,g,i,j,b,d,k] h):PI (zBm s) K 6 [f,g,i,j,b,d,e] h:=zB H
def zbq (H :
 PI (zBm s) K 8 [b,d,e,f,(iI 0)] h):PI (zBm s) K 7 [b,d,e,f] h:=zB H
def zbp (H :
 EvO (zD E 32 1 b) fun j=>
 EvO (zG E 26 h j) fun d=>
 EvO (zN E (zk [(38,d)]) (zo zPi [1,1,1,1,0,0] 2) h) fun k=>
 PI (zBm s) K 9 [b,e,f,g,i,d,k,(iI 0)] h):PI (zBm s) K 8 [b,e,f,g,i] h:=zB H
theorem zQU:zN E (zk [(38,.slice a n c)]) (zo zPi [1,1,1,1,0,0] 2) h=some (iI (n:Int)):=by cases a <;> kernel_rfl
def zMY (H :
 EvO (zC E .lss 3 d b) fun l=>
 BrK l (PI (zBm s) K 10 [f,g,i,j,k,e,b,d] h) (PI (zBm s) K 15 [f,g,i,j] h)):PI (zBm s) K 9 [f,g,i,j,k,e,b,d] h:=zB H
def zR1 (H :
 EvO (zE E 26 b d) fun m=>
 EvO (zG E 54 h m) fun o=>
 Ev s (zS 54 h (z8 E 54)) fun f=>
 Ev s (zf E 54 f.2 f.1 o) fun p=>
 PI (zBm s) K 11 [g,i,j,k,l,f.1,b,e,d] p.2):PI (zBm s) K 10 [g,i,j,k,l,b,e,d] h:=zB H
def zR0 (H :
 EvO (zE E 54 b (some (iI 1))) fun m=>
 EvO (zG E 3 h m) fun o=>
 EvO (zBI E 125 false g o h) fun p=>
 EvO (zN E (zk [(48,p)]) (zo zPi [1,1,1,1,0,1,0,0,1,1,0,0,1,0] 5) h) fun q=>
 EvO (zC E .add 3 l q) fun r=>
 PI (zBm s) K 12 [i,j,k,g,r,d,e,f] h):PI (zBm s) K 11 [i,j,k,g,l,b,d,e,f] h:=zB H
theorem zNL:zN E (zk [(48,.slice a n c)]) (zo zPi [1,1,1,1,0,1,0,0,1,1,0,0,1,0] 5) h=some (iI (n:Int)):=by cases a <;> kernel_rfl
def zRz (H :
 EvO (zC E .gtr 3 g (iI 2000000)) fun l=>
 BrK l (PI (zBm s) K 13 [f] h) (PI (zBm s) K 14 [i,j,f,k,g,b,d,e] h)):PI (zBm s) K 12 [i,j,f,k,g,b,d,e] h:=zB H
def zRy (H :
 EvO (zC E .add 3 e (iI 1)) fun l=>
 PI (zBm s) K 9 [f,g,i,j,k,b,d,l] h):PI (zBm s) K 14 [f,g,i,j,k,b,d,e] h:=zB H
def zRx (H :
 PI (zBm s) K 16 [b,d,e,f,(.slice none 0 0)] h):PI (zBm s) K 15 [b,d,e,f] h:=zB H
def zRw (H :
 EvO (zD E 32 1 d) fun j=>
 EvO (zG E 26 h j) fun e=>
 EvO (zN E (zk [(56,e)]) (zo zPi [1,1,1,1,1,1,0,0] 2) h) fun k=>
 PI (zBm s) K 17 [d,f,g,i,b,e,k,(iI 0)] h):PI (zBm s) K 16 [d,f,g,i,b] h:=zB H
theorem zNK:zN E (zk [(56,.slice a n c)]) (zo zPi [1,1,1,1,1,1,0,0] 2) h=some (iI (n:Int)):=by cases a <;> kernel_rfl
def zJS (H :
 EvO (zC E .lss 3 e d) fun l=>
 BrK l (PI (zBm s) K 18 [g,i,j,k,b,f,d,e] h) (PI (zBm s) K 25 [g,i,j,b] h)):PI (zBm s) K 17 [g,i,j,k,b,f,d,e] h:=zB H
def zRv (H :
 EvO (zE E 26 b d) fun m=>
 EvO (zG E 54 h m) fun o=>
 Ev s (zS 54 h (z8 E 54)) fun g=>
 Ev s (zf E 54 g.2 g.1 o) fun p=>
 PI (zBm s) K 19 [i,j,k,l,e,g.1,b,f,d] p.2):PI (zBm s) K 18 [i,j,k,l,e,b,f,d] h:=zB H
def zRu (H :
 EvO (zE E 54 b (some (iI 1))) fun o=>
 EvO (zG E 3 h o) fun p=>
 EvO (zBI E 125 false i p h) fun j=>
 EvO (zN E (zk [(65,j)]) (zo zPi [1,1,1,1,1,1,0,1,0,0,1,1,0,0,1,0] 4) h) fun q=>
 PI (zBm s) K 20 [k,l,m,i,d,b,e,f,g,j,q,(iI 0)] h):PI (zBm s) K 19 [k,l,m,i,d,b,e,f,g] h:=zB H
theorem zNJ:zN E (zk [(65,.slice a n c)]) (zo zPi [1,1,1,1,1,1,0,1,0,0,1,1,0,0,1,0] 4) h=some (iI (n:Int)):=by cases a <;> kernel_rfl
def zJR (H :
 EvO (zC E .lss 3 i g) fun q=>
 BrK q (PI (zBm s) K 21 [l,m,o,p,b,j,d,e,f,k,g,i] h) (PI (zBm s) K 24 [l,m,o,p,b,d,e,f] h)):PI (zBm s) K 20 [l,m,o,p,b,j,d,e,f,k,g,i] h:=zB H
def zRt (H :
 EvO (zE E 47 b d) fun q=>
 EvO (zG E 3 h q) fun r=>
 PI (zBm s) K 22 [l,m,o,p,e,f,r,g,i,j,b,k,d] h):PI (zBm s) K 21 [l,m,o,p,e,f,g,i,j,b,k,d] h:=zB H
def zRs (H :
 EvO (zE E 54 b (some (iI 0))) fun u=>
 EvO (zG E 3 h u) fun w=>
 EvO (zAo E 54 (some [(0,w),(1,e)])) fun x=>
 Ev s (zd E 26 1 (some [(0,x)]) h) fun m=>
 Ev s (zAH E .append [26,26] [d,m.1] m.2) fun o=>
 PI (zBm s) K 23 [p,q,r,t,o.1,b,f,g,i,j,k,l] o.2):PI (zBm s) K 22 [p,q,r,t,d,b,e,f,g,i,j,k,l] h:=zB H
def zRr (H :
 EvO (zC E .add 3 k (iI 1)) fun q=>
 PI (zBm s) K 20 [l,m,o,p,b,d,e,f,g,i,j,q] h):PI (zBm s) K 23 [l,m,o,p,b,d,e,f,g,i,j,k] h:=zB H
def zRq (H :
 EvO (zC E .add 3 f (iI 1)) fun l=>
 PI (zBm s) K 17 [g,i,j,k,b,d,e,l] h):PI (zBm s) K 24 [g,i,j,k,b,d,e,f] h:=zB H
def zRp (H :
 EvO (zD E 32 0 f) fun i=>
 EvO (zG E 3 h i) fun j=>
 EvO (zD E 32 0 g) fun k=>
 EvO (zG E 3 h k) fun l=>
 EvO (zN E (zk [(81,j),(83,l)]) (zo zPi [1,1,1,1,1,1,1,0] 4) h) fun m=>
 Ev s (zR (zY E) (some (.func (.func 108) #[] #[])) [m,b] h) fun d=>
 EvO (ze 0 d.1) fun o=>
 EvO (ze 1 d.1) fun p=>
 Ev s (zf E 32 d.2 e o) fun q=>
 K .ret [e,p] q.2):PI (zBm s) K 25 [f,g,e,b] h:=zB H
theorem zc5 (H:PI (zBm true) (KR E [.cell 4 32,.tmp 5] fun x k=>(zi x=false\/k.wm<h.next)/\Rp x ⟨k.t,k.next,cond (Nat.ble h.wm k.wm) h.wm k.wm⟩) 0 [v0,v1] h.fresh):Ev true ((zY E).call 109 [v0,v1] h) fun x=>Rp x.1 x.2:=zD5 Tryz.f109 (zAA (zBm true) H)
noncomputable def B56:Code:=zh Tryz.f56
noncomputable def C56 (s:Bool):Cx:=⟨E,s,none,B56,[([0],[0,1]),([1,0,0],[2,3,4]),([1,0,1,0],[2,3,4,6]),([1,0,1,1,0,0],[4,6]),([1,1,0],[2,3,4])],[4,5],[]⟩
def zfP (H :
 Ev s (zS 32 h f) fun b=>
 Ev s (zS 32 b.2 g) fun d=>
 Ev s (zS 32 d.2 (z8 E 32)) fun e=>
 PI (C56 s) K 1 [b.1,d.1,e.1] e.2):PI (C56 s) K 0 [f,g] h:=zB H
def zfO (H :
 EvO (zG E 32 h b) fun i=>
 EvO (zG E 32 h d) fun j=>
 Ev s (zd E 83 2 (some [(0,i),(1,j)]) h) fun e=>
 Ev s (zR (zY E) (some (.func (.func 71) #[] #[])) [e.1] e.2) fun f=>
 PI (C56 s) K 2 [b,d,g,f.1] f.2):PI (C56 s) K 1 [b,d,g] h:=zB H
def zfN (H :
 EvO (zC E .neq 29 d (iI 0)) fun g=>
 BrK g (PI (C56 s) K 3 [b,d] h) (PI (C56 s) K 4 [e,f,b] h)):PI (C56 s) K 2 [e,f,b,d] h:=zB H
def zfM (H :
 EvO (zG E 32 h e) fun g=>
 EvO (zG E 32 h f) fun i=>
 Ev s (zR (zY E) (some (.func (.func 109) #[] #[])) [g,i] h) fun b=>
 EvO (ze 0 b.1) fun j=>
 EvO (ze 1 b.1) fun k=>
 Ev s (zf E 32 b.2 d j) fun l=>
 K .ret [d,k] l.2):PI (C56 s) K 4 [e,f,d] h:=zB H
theorem zgY (H:PI (C56 true) (KR E [.cell 4 32,.tmp 5] fun x k=>(zi x=false\/k.wm<h.next)/\Rp x ⟨k.t,k.next,cond (Nat.ble h.wm k.wm) h.wm k.wm⟩) 0 [v0,v1] h.fresh):Ev true ((zY E).call 56 [v0,v1] h) fun x=>Rp x.1 x.2:=zD5 Tryz.f56 (zAA (C56 true) H)
noncomputable def B57:Code:=zh Tryz.f57
noncomputable def C57 (s:Bool):Cx:=⟨E,s,none,B57,[([0],[0,1]),([1,0,0],[0,1,4]),([1,0,1,0],[0,1,4,7]),([1,0,1,1,0,0],[4,7]),([1,1,0,0],[0,1,4]),([1,1,0,1,0,0],[4]),([1,1,1,0,0],[0,1,4]),([1,1,1,0,1,0,0,0],[0,1,4,37,38,39]),([1,1,1,0,1,0,0,1,1,0,0,0],[0,1,4,37,38,39]),([1,1,1,0,1,0,0,1,1,0,0,1,0],[0,1,4,8,9,37,38,39]),([1,1,1,0,1,0,0,1,1,0,0,1,1,0,0],[4,8]),([1,1,1,0,1,0,0,1,1,1],[0,1,4,37,38,39]),([1,1,1,1,0],[0,1,4]),([1,1,1,1,1,0,0],[1,4,10,11]),([1,1,1,1,1,0,1,0,0,0],[1,4,10,11,73,74,75]),([1,1,1,1,1,0,1,0,0,1,1,0,0,0],[1,4,10,73,74,75]),([1,1,1,1,1,0,1,0,0,1,1,0,0,1,0,0],[1,4,10,12,13,73,74,75]),([1,1,1,1,1,0,1,0,0,1,1,0,0,1,0,1,0],[1,4,10,13,73,74,75]),([1,1,1,1,1,0,1,0,0,1,1,0,0,1,0,1,1],[1,4,10,13,73,74,75]),([1,1,1,1,1,0,1,0,0,1,1,0,0,1,1,0],[1,4,10,11,73,74,75]),([1,1,1,1,1,0,1,0,0,1,1,0,0,1,1,1,0,0],[4,11]),([1,1,1,1,1,0,1,0,0,1,1,1],[1,4,10,11,73,74,75]),([1,1,1,1,1,1,0],[1,4,10,11])],[4,5,6],[]⟩
def zfL (H :
 Ev s (zS 32 h (z8 E 32)) fun b=>
 PI (C57 s) K 1 [d,e,b.1] b.2):PI (C57 s) K 0 [d,e] h:=zB H
def zfK (H :
 Ev s (zR (zY E) (some (.func (.func 70) #[] #[])) [b] h) fun d=>
 PI (C57 s) K 2 [b,e,f,d.1] d.2):PI (C57 s) K 1 [b,e,f] h:=zB H
def zfJ (H :
 EvO (zC E .neq 29 d (iI 0)) fun g=>
 BrK g (PI (C57 s) K 3 [b,d] h) (PI (C57 s) K 4 [e,f,b] h)):PI (C57 s) K 2 [e,f,b,d] h:=zB H
def zfI (H :
 EvO (zN E (zk [(20,d)]) (zo B57 [1,1,0,0] 1) h) fun p=>
 EvO (zC E .lss 3 p (iI 1)) fun e=>
 EvO (gdB e false d) fun q=>
 EvO (gdB e false (zN E (zk [(24,q)]) (zo B57 [1,1,0,0] 5) h)) fun r=>
 EvO (gdB e false (zC E .gtr 3 r (iI 20))) fun t=>
 EvO (zAB e (some (.bool true)) t) fun b=>
 EvO (gdB b false m) fun u=>
 EvO (gdB b false (zN E (zk [(29,u)]) (zo B57 [1,1,0,0] 10) h)) fun f=>
 EvO (gdB b false d) fun g=>
 EvO (gdB b false (zN E (zk [(31,g)]) (zo B57 [1,1,0,0] 12) h)) fun i=>
 EvO (gdB b false (zC E .sub 3 i (iI 1))) fun j=>
 EvO (gdB b false (zC E .neq 3 f j)) fun k=>
 EvO (zAB b (some (.bool true)) k) fun l=>
 BrK l (PI (C57 s) K 5 [o] h) (PI (C57 s) K 6 [d,m,o] h)):PI (C57 s) K 4 [d,m,o] h:=zB H
theorem zTm:zN E (zk [(20,.slice a n c)]) (zo B57 [1,1,0,0] 1) h=some (iI (n:Int)):=by cases a <;> kernel_rfl
theorem zTl:zN E (zk [(24,.slice a n c)]) (zo B57 [1,1,0,0] 5) h=some (iI (n:Int)):=by cases a <;> kernel_rfl
theorem zQB:zN E (zk [(29,.slice a n c)]) (zo B57 [1,1,0,0] 10) h=some (iI (n:Int)):=by cases a <;> kernel_rfl
theorem zQA:zN E (zk [(31,.slice a n c)]) (zo B57 [1,1,0,0] 12) h=some (iI (n:Int)):=by cases a <;> kernel_rfl
def zfH (H :
 EvO (zN E (zk [(37,b)]) (zo B57 [1,1,1,0,0] 1) h) fun f=>
 PI (C57 s) K 7 [d,b,e,b,f,(iI 0)] h):PI (C57 s) K 6 [d,b,e] h:=zB H
theorem zTk:zN E (zk [(37,.slice a n c)]) (zo B57 [1,1,1,0,0] 1) h=some (iI (n:Int)):=by cases a <;> kernel_rfl
def zKU (H :
 EvO (zC E .lss 3 d b) fun j=>
 BrK j (PI (C57 s) K 8 [f,g,i,e,b,d] h) (PI (C57 s) K 12 [f,g,i] h)):PI (C57 s) K 7 [f,g,i,e,b,d] h:=zB H
def zPW (H :
 EvO (zE E 83 d b) fun k=>
 EvO (zG E 32 h k) fun l=>
 Ev s (zS 32 h (z8 E 32)) fun f=>
 Ev s (zf E 32 f.2 f.1 l) fun m=>
 PI (C57 s) K 9 [g,i,j,b,f.1,d,e,b] m.2):PI (C57 s) K 8 [g,i,j,d,e,b] h:=zB H
def zfG (H :
 EvO (zG E 32 h w) fun z=>
 Ev s (zd E 83 1 (some [(0,z)]) h) fun x=>
 Ev s (zR (zY E) (some (.func (.func 71) #[] #[])) [x.1] x.2) fun e=>
 EvO (zC E .neq 29 e.1 (iI 0)) fun b=>
 EvO (gdB b false f) fun A=>
 EvO (gdB b false k) fun B=>
 EvO (gdB b false (zE E 82 A B)) fun C=>
 EvO (gdB b false (zG E 25 e.2 C)) fun D=>
 EvO (gdB b false f) fun F=>
 EvO (gdB b false k) fun l=>
 EvO (gdB b false (zC E .add 3 l (iI 1))) fun m=>
 EvO (gdB b false (zE E 82 F m)) fun o=>
 EvO (gdB b false (zG E 25 e.2 o)) fun p=>
 EvO (gdB b false (zG E 32 e.2 w)) fun q=>
 Ev s (gdW b false (zR (zY E) (some (.func (.func 72) #[] #[])) [D,p,q] e.2) e.2) fun d=>
 EvO (gdB b false (zAW .not d.1)) fun r=>
 EvO (zAB b (some (.bool true)) r) fun t=>
 BrK t (PI (C57 s) K 10 [u,k] d.2) (PI (C57 s) K 11 [f,y,u,g,i,j] d.2)):PI (C57 s) K 9 [f,y,u,k,w,g,i,j] h:=zB H
def zLo (H :
 EvO (zC E .add 3 e (iI 1)) fun j=>
 PI (C57 s) K 7 [f,g,i,b,d,j] h):PI (C57 s) K 11 [f,g,i,b,d,e] h:=zB H
def zWJ (H :
 EvO (zE E 82 e (some (iI 0))) fun i=>
 EvO (zD E 25 0 i) fun j=>
 EvO (zG E 3 h j) fun k=>
 Ev s (zR (zY E) (some (.func (.func 106) #[] #[])) (some [(iI 1),k]) h) fun b=>
 EvO (ze 0 b.1) fun l=>
 EvO (ze 1 b.1) fun m=>
 Ev s (zS 32 b.2 (z8 E 32)) fun d=>
 Ev s (zf E 32 d.2 d.1 l) fun o=>
 PI (C57 s) K 13 [f,g,d.1,m] o.2):PI (C57 s) K 12 [e,f,g] h:=zB H
def zWI (H :
 EvO (zN E (zk [(73,b)]) (zo B57 [1,1,1,1,1,0,0] 1) h) fun g=>
 PI (C57 s) K 14 [b,f,d,e,b,g,(iI 0)] h):PI (C57 s) K 13 [b,f,d,e] h:=zB H
theorem zQD:zN E (zk [(73,.slice a n c)]) (zo B57 [1,1,1,1,1,0,0] 1) h=some (iI (n:Int)):=by cases a <;> kernel_rfl
def zHw (H :
 EvO (zC E .lss 3 e d) fun k=>
 BrK k (PI (C57 s) K 15 [i,j,b,g,d,e] h) (PI (C57 s) K 22 [i,j,b,f] h)):PI (C57 s) K 14 [i,j,b,f,g,d,e] h:=zB H
def zLn (H :
 EvO (zE E 83 d b) fun k=>
 EvO (zG E 32 h k) fun l=>
 Ev s (zS 32 h (z8 E 32)) fun g=>
 Ev s (zf E 32 g.2 g.1 l) fun m=>
 PI (C57 s) K 16 [i,j,e,b,g.1,d,f,b] m.2):PI (C57 s) K 15 [i,j,e,d,f,b] h:=zB H
def zLm (H :
 EvO (zC E .eql 3 i (iI 0)) fun l=>
 BrK l (PI (C57 s) K 17 [j,k,b,d,e,f,g] h) (PI (C57 s) K 18 [j,k,b,d,e,f,g] h)):PI (C57 s) K 16 [j,k,b,i,d,e,f,g] h:=zB H
def zWH (H :
 EvO (zD E 32 0 e) fun l=>
 EvO (zG E 3 h l) fun m=>
 EvO (zD E 32 1 e) fun q=>
 EvO (zG E 26 h q) fun r=>
 Ev s (zR (zY E) (some (.func (.func 32) #[] #[])) [r] h) fun j=>
 EvO (zG E 3 j.2 l) fun b=>veq 100 b m=true ∧
 (Ev s (zR (zY E) (some (.func (.func 108) #[] #[])) [m,j.1] j.2) fun k=>
 EvO (ze 0 k.1) fun t=>
 EvO (ze 1 k.1) fun u=>
 Ev s (zf E 32 k.2 d t) fun w=>
 PI (C57 s) K 19 [o,p,d,u,f,g,i] w.2)):PI (C57 s) K 17 [o,p,d,e,f,g,i] h:=zB H
def zWG (H :
 EvO (zG E 32 h b) fun l=>
 EvO (zG E 32 h d) fun m=>
 Ev s (zR (zY E) (some (.func (.func 109) #[] #[])) [l,m] h) fun i=>
 EvO (ze 0 i.1) fun o=>
 EvO (ze 1 i.1) fun p=>
 Ev s (zf E 32 i.2 b o) fun q=>
 PI (C57 s) K 19 [j,k,b,p,e,f,g] q.2):PI (C57 s) K 18 [j,k,b,d,e,f,g] h:=zB H
def zLl (H :
 EvO (zC E .neq 29 b (iI 0)) fun k=>
 BrK k (PI (C57 s) K 20 [i,b] h) (PI (C57 s) K 21 [j,i,d,b,e,f,g] h)):PI (C57 s) K 19 [j,i,d,b,e,f,g] h:=zB H
def zLk (H :
 EvO (zC E .add 3 g (iI 1)) fun k=>
 PI (C57 s) K 14 [i,j,b,d,e,f,k] h):PI (C57 s) K 21 [i,j,b,d,e,f,g] h:=zB H
def zWF (H :
 EvO (zG E 32 h b) fun g=>
 EvO (zN E (zk [(103,f)]) (zo B57 [1,1,1,1,1,1,0] 2) h) fun i=>
 Ev s (zf E 32 h e g) fun j=>
 K .ret [e,i,d] j.2):PI (C57 s) K 22 [f,e,b,d] h:=zB H
theorem zQC:zN E (zk [(103,.slice a n c)]) (zo B57 [1,1,1,1,1,1,0] 2) h=some (iI (n:Int)):=by cases a <;> kernel_rfl
theorem zgX (H:PI (C57 true) (KR E [.cell 4 32,.tmp 5,.tmp 6] fun x k=>(zi x=false\/k.wm<h.next)/\Rp x ⟨k.t,k.next,cond (Nat.ble h.wm k.wm) h.wm k.wm⟩) 0 [v0,v1] h.fresh):Ev true ((zY E).call 57 [v0,v1] h) fun x=>Rp x.1 x.2:=zD5 Tryz.f57 (zAA (C57 true) H)
noncomputable def zk0:Code:=zh Tryz.f110
noncomputable def zEj (s:Bool):Cx:=⟨E,s,none,zk0,[([0],[0]),([1,0],[0]),([1,1,0,0],[0,3]),([1,1,0,1,0,0,0],[0,3,9,10,11]),([1,1,0,1,0,0,1,1,0,0,0],[0,3,9,10,11]),([1,1,0,1,0,0,1,1,0,0,1,0],[0,3,5,9,10,11]),([1,1,0,1,0,0,1,1,0,0,1,1,0],[0,3,9,10,11]),([1,1,0,1,0,0,1,1,0,0,1,1,1,0],[0,3,9,10,11]),([1,1,0,1,0,0,1,1,1],[0,3,9,10,11]),([1,1,1,0],[0,3]),([1,1,1,1,0,0],[0,6]),([1,1,1,1,0,1,0,0,0],[6,25,26,27]),([1,1,1,1,0,1,0,0,1,1,0,0,0],[6,25,26,27]),([1,1,1,1,0,1,0,0,1,1,0,0,1],[6,8,25,26,27]),([1,1,1,1,0,1,0,0,1,1,1],[6,25,26,27]),([1,1,1,1,1,0],[6])],[2],[]⟩
def zbc (H :
 PI (zEj s) K 1 [b] h):PI (zEj s) K 0 [b] h:=zB H
def zbb (H :
 PI (zEj s) K 2 [b,(iI 0)] h):PI (zEj s) K 1 [b] h:=zB H
def zba (H :
 EvO (zN E (zk [(9,b)]) (zo zk0 [1,1,0,0] 1) h) fun e=>
 PI (zEj s) K 3 [b,d,b,e,(iI 0)] h):PI (zEj s) K 2 [b,d] h:=zB H
theorem zQT:zN E (zk [(9,.slice a n c)]) (zo zk0 [1,1,0,0] 1) h=some (iI (n:Int)):=by cases a <;> kernel_rfl
def zH3 (H :
 EvO (zC E .lss 3 d b) fun i=>
 BrK i (PI (zEj s) K 4 [e,f,g,b,d] h) (PI (zEj s) K 9 [e,f] h)):PI (zEj s) K 3 [e,f,g,b,d] h:=zB H
def zMV (H :
 EvO (zE E 219 e b) fun i=>
 EvO (zG E 26 h i) fun j=>
 PI (zEj s) K 5 [f,g,j,e,d,b] h):PI (zEj s) K 4 [f,g,e,d,b] h:=zB H
def zMU (H :
 EvO (zN E (zk [(16,g)]) (zo zk0 [1,1,0,1,0,0,1,1,0,0,1,0] 2) h) fun j=>
 EvO (zC E .add 3 f j) fun k=>
 PI (zEj s) K 6 [e,k,i,b,d] h):PI (zEj s) K 5 [e,f,g,i,b,d] h:=zB H
theorem zIi:zN E (zk [(16,.slice a n c)]) (zo zk0 [1,1,0,1,0,0,1,1,0,0,1,0] 2) h=some (iI (n:Int)):=by cases a <;> kernel_rfl
def zMT (H :
 EvO (zC E .lss 3 e (iI 0)) fun i=>
 BrK i (PI (zEj s) K 7 [f,e,g,b,d] h) (PI (zEj s) K 8 [f,e,g,b,d] h)):PI (zEj s) K 6 [f,e,g,b,d] h:=zB H
def zMS (H :
 EvO (zC E .add 3 d (iI 1)) fun i=>
 PI (zEj s) K 3 [e,f,g,b,i] h):PI (zEj s) K 8 [e,f,g,b,d] h:=zB H
def zbZ (H :
 Ev s (zR (zY E) (some (.func (.func 160) #[] #[])) (some [(.slice none 0 0),e]) h) fun b=>
 PI (zEj s) K 10 [d,b.1] b.2):PI (zEj s) K 9 [d,e] h:=zB H
def zRo (H :
 EvO (zN E (zk [(25,b)]) (zo zk0 [1,1,1,1,0,0] 1) h) fun e=>
 PI (zEj s) K 11 [d,b,e,(iI 0)] h):PI (zEj s) K 10 [b,d] h:=zB H
theorem zNI:zN E (zk [(25,.slice a n c)]) (zo zk0 [1,1,1,1,0,0] 1) h=some (iI (n:Int)):=by cases a <;> kernel_rfl
def zGN (H :
 EvO (zC E .lss 3 d b) fun g=>
 BrK g (PI (zEj s) K 12 [f,e,b,d] h) (PI (zEj s) K 15 [f] h)):PI (zEj s) K 11 [f,e,b,d] h:=zB H
def zJQ (H :
 EvO (zE E 219 b d) fun g=>
 EvO (zG E 26 h g) fun i=>
 PI (zEj s) K 13 [f,i,b,e,d] h):PI (zEj s) K 12 [f,b,e,d] h:=zB H
def zJP (H :
 Ev s (zAH E .append [26,26] [g,i] h) fun f=>
 PI (zEj s) K 14 [f.1,b,d,e] f.2):PI (zEj s) K 13 [g,i,b,d,e] h:=zB H
def zJO (H :
 EvO (zC E .add 3 e (iI 1)) fun g=>
 PI (zEj s) K 11 [f,b,d,g] h):PI (zEj s) K 14 [f,b,d,e] h:=zB H
def zRn (H :
 K .ret [b] h):PI (zEj s) K 15 [b] h:=zB H
theorem zc4 (H:PI (zEj true) (KR E [.tmp 2] fun x k=>(zi x=false\/k.wm<h.next)/\Rp x ⟨k.t,k.next,cond (Nat.ble h.wm k.wm) h.wm k.wm⟩) 0 [v0] h.fresh):Ev true ((zY E).call 110 [v0] h) fun x=>Rp x.1 x.2:=zD5 Tryz.f110 (zAA (zEj true) H)
noncomputable def B58:Code:=zh Tryz.f58
noncomputable def C58 (s:Bool):Cx:=⟨E,s,none,B58,[([0],[0,1]),([1,0,0],[2,3,4]),([1,0,1,0],[2,3,4,6]),([1,0,1,1,0,0],[4,6]),([1,1,0],[2,3,4])],[4,5],[]⟩
def zfF (H :
 Ev s (zS 32 h f) fun b=>
 Ev s (zS 32 b.2 g) fun d=>
 Ev s (zS 32 d.2 (z8 E 32)) fun e=>
 PI (C58 s) K 1 [b.1,d.1,e.1] e.2):PI (C58 s) K 0 [f,g] h:=zB H
def zfE (H :
 EvO (zG E 32 h b) fun i=>
 EvO (zG E 32 h d) fun j=>
 Ev s (zd E 83 2 (some [(0,i),(1,j)]) h) fun e=>
 Ev s (zR (zY E) (some (.func (.func 71) #[] #[])) [e.1] e.2) fun f=>
 PI (C58 s) K 2 [b,d,g,f.1] f.2):PI (C58 s) K 1 [b,d,g] h:=zB H
def zfD (H :
 EvO (zC E .neq 29 d (iI 0)) fun g=>
 BrK g (PI (C58 s) K 3 [b,d] h) (PI (C58 s) K 4 [e,f,b] h)):PI (C58 s) K 2 [e,f,b,d] h:=zB H
def zfC (H :
 EvO (zD E 32 0 x) fun p=>
 EvO (zG E 3 h p) fun l=>
 EvO (zD E 32 0 y) fun u=>
 EvO (zG E 3 h u) fun m=>
 EvO (zN E (zk [(16,l),(18,m)]) (zo B58 [1,1,0] 4) h) fun w=>
 EvO (zD E 32 1 x) fun A=>
 EvO (zG E 26 h A) fun B=>
 EvO (zD E 32 1 y) fun C=>
 EvO (zG E 26 h C) fun D=>
 Ev s (zd E 219 2 (some [(0,B),(1,D)]) h) fun o=>
 EvO (zN E (zk [(16,l),(18,m)]) (zo B58 [1,1,0] 4) o.2) fun k=>veq 100 k w=true ∧
 (EvO (zG E 3 o.2 u) fun j=>veq 100 j m=true ∧
 (EvO (zG E 3 o.2 p) fun i=>veq 100 i l=true ∧
 (Ev s (zR (zY E) (some (.func (.func 110) #[] #[])) [o.1] o.2) fun b=>
 EvO (zN E (zk [(16,l),(18,m)]) (zo B58 [1,1,0] 4) b.2) fun f=>veq 100 f w=true ∧
 (EvO (zG E 3 b.2 u) fun e=>veq 100 e m=true ∧
 (EvO (zG E 3 b.2 p) fun d=>veq 100 d l=true ∧
 (Ev s (zR (zY E) (some (.func (.func 108) #[] #[])) [w,b.1] b.2) fun g=>
 EvO (ze 0 g.1) fun q=>
 EvO (ze 1 g.1) fun r=>
 Ev s (zf E 32 g.2 z q) fun t=>
 K .ret [z,r] t.2))))))):PI (C58 s) K 4 [x,y,z] h:=zB H
theorem zgW (H:PI (C58 true) (KR E [.cell 4 32,.tmp 5] fun x k=>(zi x=false\/k.wm<h.next)/\Rp x ⟨k.t,k.next,cond (Nat.ble h.wm k.wm) h.wm k.wm⟩) 0 [v0,v1] h.fresh):Ev true ((zY E).call 58 [v0,v1] h) fun x=>Rp x.1 x.2:=zD5 Tryz.f58 (zAA (C58 true) H)
noncomputable def B10:Code:=zh Tryz.f10
noncomputable def C10 (s:Bool):Cx:=⟨E,s,none,B10,[([0],[0,1,2,3,4,5]),([1,0,0],[6,7,8,9,10,11]),([1,0,1,0,0],[]),([1,1,0,0],[6,7,8,9,10,11]),([1,1,0,1,0,0],[]),([1,1,1,0,0],[6,7,8,9,10,11]),([1,1,1,0,1,0,0,0],[6,7,8,9,10,11,47,48,49]),([1,1,1,0,1,0,0,1,1,0,0,0],[6,7,8,9,10,11,47,48,49]),([1,1,1,0,1,0,0,1,1,0,0,1,0],[6,7,8,9,10,11,14,47,48,49]),([1,1,1,0,1,0,0,1,1,0,0,1,1,0],[6,7,8,9,10,11,15,16,47,48,49]),([1,1,1,0,1,0,0,1,1,0,0,1,1,1,0,0],[]),([1,1,1,0,1,0,0,1,1,1],[6,7,8,9,10,11,47,48,49]),([1,1,1,1,0,0],[6,7,8,9,10,11]),([1,1,1,1,0,1,0,0],[]),([1,1,1,1,1,0],[6,7,8,9,10,11]),([1,1,1,1,1,1,0,0],[6,7,8,9,10,11,17,18]),([1,1,1,1,1,1,0,1,0,0],[]),([1,1,1,1,1,1,1,0,0],[6,7,8,9,10,11]),([1,1,1,1,1,1,1,0,1,0,0,0],[6,7,8,9,10,11]),([1,1,1,1,1,1,1,0,1,0,0,1,0],[6,7,8,9,10,11,19,20]),([1,1,1,1,1,1,1,0,1,0,0,1,1,0,0],[]),([1,1,1,1,1,1,1,0,1,0,1,0],[6,7,8,9,10,11]),([1,1,1,1,1,1,1,0,1,0,1,1,0],[6,7,8,9,11,21,22,23]),([1,1,1,1,1,1,1,0,1,0,1,1,1,0,0],[]),([1,1,1,1,1,1,1,1,0,0],[6,7,9,11]),([1,1,1,1,1,1,1,1,0,1,0,0],[6,7,9,11]),([1,1,1,1,1,1,1,1,0,1,0,1,0],[6,7,24,25]),([1,1,1,1,1,1,1,1,0,1,0,1,1,0,0],[]),([1,1,1,1,1,1,1,1,1,0],[])],[12],[]⟩
def zgL (H :
 Ev s (zS 25 h j) fun b=>
 Ev s (zS 25 b.2 k) fun d=>
 Ev s (zS 25 d.2 l) fun e=>
 Ev s (zS 32 e.2 m) fun f=>
 Ev s (zS 32 f.2 o) fun g=>
 Ev s (zS 32 g.2 p) fun i=>
 PI (C10 s) K 1 [b.1,d.1,e.1,f.1,g.1,i.1] i.2):PI (C10 s) K 0 [j,k,l,m,o,p] h:=zB H
def zgK (H :
 Ev s (zR (zY E) (some (.func (.func 13) #[] #[])) (some []) h) fun e=>
 EvO (zAW .not e.1) fun k=>
 BrK k (PI (C10 s) K 2 [] e.2) (PI (C10 s) K 3 [f,g,i,j,b,d] e.2)):PI (C10 s) K 1 [f,g,i,j,b,d] h:=zB H
def zgJ (H :
 EvO (zG E 25 h l) fun x=>
 EvO (zG E 25 h r) fun y=>
 EvO (zG E 25 h t) fun z=>
 Ev s (zd E 82 3 (some [(0,x),(1,y),(2,z)]) h) fun w=>
 Ev s (zR (zY E) (some (.func (.func 14) #[] #[])) [w.1] w.2) fun i=>
 EvO (zAW .not i.1) fun g=>
 EvO (gdB g false (zG E 32 i.2 u)) fun A=>
 EvO (gdB g false (zG E 32 i.2 j)) fun B=>
 EvO (gdB g false (zG E 32 i.2 k)) fun C=>
 Ev s (gdW g false (zd E 83 3 (some [(0,A),(1,B),(2,C)]) i.2) i.2) fun e=>
 Ev s (gdW g false (zR (zY E) (some (.func (.func 19) #[] #[])) [e.1] e.2) e.2) fun b=>
 EvO (gdB g false (zAW .not b.1)) fun m=>
 EvO (zAB g (some (.bool true)) m) fun d=>
 EvO (gdB d false (zG E 25 b.2 l)) fun o=>
 Ev s (gdW d false (zR (zY E) (some (.func (.func 23) #[] #[])) [o] b.2) b.2) fun f=>
 EvO (gdB d false (zC E .neq 29 f.1 (iI 0))) fun p=>
 EvO (zAB d (some (.bool true)) p) fun q=>
 BrK q (PI (C10 s) K 4 [] f.2) (PI (C10 s) K 5 [l,r,t,u,j,k] f.2)):PI (C10 s) K 3 [l,r,t,u,j,k] h:=zB H
def zgI (H :
 K .ret [(.bool true)] h):PI (C10 s) K 4 [] h:=zB H
def zgH (H :
 Ev s (zd E 47 2 (some [(0,(iI 1)),(1,(iI 2))]) h) fun b=>
 EvO (zN E (zk [(47,b.1)]) (zo B10 [1,1,1,0,0] 1) b.2) fun k=>
 PI (C10 s) K 6 [f,g,i,j,d,e,b.1,k,(iI 0)] b.2):PI (C10 s) K 5 [f,g,i,j,d,e] h:=zB H
theorem zTt:zN E (zk [(47,.slice a n c)]) (zo B10 [1,1,1,0,0] 1) h=some (iI (n:Int)):=by cases a <;> kernel_rfl
def zKV (H :
 EvO (zC E .lss 3 f e) fun m=>
 BrK m (PI (C10 s) K 7 [i,j,k,l,b,d,g,e,f] h) (PI (C10 s) K 12 [i,j,k,l,b,d] h)):PI (C10 s) K 6 [i,j,k,l,b,d,g,e,f] h:=zB H
def zPc (H :
 EvO (zE E 47 b d) fun m=>
 EvO (zG E 3 h m) fun o=>
 PI (C10 s) K 8 [i,j,k,l,e,f,o,b,g,d] h):PI (C10 s) K 7 [i,j,k,l,e,f,b,g,d] h:=zB H
def zgG (H :
 EvO (zG E 25 h l) fun q=>
 Ev s (zR (zY E) (some (.func (.func 53) #[] #[])) [e,q] h) fun j=>
 EvO (ze 0 j.1) fun r=>
 EvO (ze 1 j.1) fun t=>
 Ev s (zS 32 j.2 (z8 E 32)) fun k=>
 Ev s (zf E 32 k.2 k.1 r) fun u=>
 PI (C10 s) K 9 [l,m,o,p,b,d,k.1,t,f,g,i] u.2):PI (C10 s) K 8 [l,m,o,p,b,d,e,f,g,i] h:=zB H
def zgF (H :
 EvO (zC E .neq 29 g (iI 0)) fun b=>
 EvO (gdB b false (zG E 25 h l)) fun r=>
 EvO (gdB b false (zG E 25 h l)) fun t=>
 EvO (gdB b false (zG E 32 h f)) fun u=>
 Ev s (gdW b false (zR (zY E) (some (.func (.func 15) #[] #[])) [r,t,u] h) h) fun m=>
 EvO (gdB b false (zC E .neq 29 m.1 (iI 0))) fun w=>
 EvO (zAB b (some (.bool true)) w) fun x=>
 BrK x (PI (C10 s) K 10 [] m.2) (PI (C10 s) K 11 [l,o,p,q,d,e,i,j,k] m.2)):PI (C10 s) K 9 [l,o,p,q,d,e,f,g,i,j,k] h:=zB H
def zMX (H :
 EvO (zC E .add 3 g (iI 1)) fun m=>
 PI (C10 s) K 6 [i,j,k,l,b,d,e,f,m] h):PI (C10 s) K 11 [i,j,k,l,b,d,e,f,g] h:=zB H
def zbo (H :
 EvO (zG E 25 h f) fun k=>
 EvO (zG E 25 h g) fun l=>
 EvO (zG E 32 h i) fun m=>
 Ev s (zR (zY E) (some (.func (.func 15) #[] #[])) [k,l,m] h) fun e=>
 EvO (zC E .neq 29 e.1 (iI 0)) fun o=>
 BrK o (PI (C10 s) K 13 [] e.2) (PI (C10 s) K 14 [f,g,j,i,b,d] e.2)):PI (C10 s) K 12 [f,g,j,i,b,d] h:=zB H
def zbn (H :
 K .ret [(.bool true)] h):PI (C10 s) K 13 [] h:=zB H
def zbm (H :
 EvO (zG E 32 h g) fun l=>
 Ev s (zR (zY E) (some (.func (.func 55) #[] #[])) [l] h) fun e=>
 EvO (ze 0 e.1) fun m=>
 EvO (ze 1 e.1) fun o=>
 Ev s (zS 32 e.2 (z8 E 32)) fun f=>
 Ev s (zf E 32 f.2 f.1 m) fun p=>
 PI (C10 s) K 15 [i,j,k,g,b,d,f.1,o] p.2):PI (C10 s) K 14 [i,j,k,g,b,d] h:=zB H
def zbl (H :
 EvO (zC E .neq 29 g (iI 0)) fun b=>
 EvO (gdB b false (zG E 25 h k)) fun o=>
 EvO (gdB b false (zG E 25 h j)) fun p=>
 EvO (gdB b false (zG E 32 h f)) fun q=>
 Ev s (gdW b false (zR (zY E) (some (.func (.func 15) #[] #[])) [o,p,q] h) h) fun i=>
 EvO (gdB b false (zC E .neq 29 i.1 (iI 0))) fun r=>
 EvO (zAB b (some (.bool true)) r) fun t=>
 BrK t (PI (C10 s) K 16 [] i.2) (PI (C10 s) K 17 [j,k,l,m,d,e] i.2)):PI (C10 s) K 15 [j,k,l,m,d,e,f,g] h:=zB H
def zbk (H :
 EvO (zG E 25 h e) fun k=>
 EvO (zG E 25 h i) fun l=>
 EvO (zG E 32 h b) fun m=>
 Ev s (zR (zY E) (some (.func (.func 15) #[] #[])) [k,l,m] h) fun f=>
 EvO (zC E .eql 29 f.1 (iI 0)) fun o=>
 BrK o (PI (C10 s) K 18 [g,e,i,j,b,d] f.2) (PI (C10 s) K 24 [g,e,j,d] f.2)):PI (C10 s) K 17 [g,e,i,j,b,d] h:=zB H
def zbj (H :
 EvO (zG E 32 h g) fun l=>
 EvO (zG E 32 h b) fun m=>
 Ev s (zR (zY E) (some (.func (.func 56) #[] #[])) [l,m] h) fun e=>
 EvO (ze 0 e.1) fun o=>
 EvO (ze 1 e.1) fun p=>
 Ev s (zS 32 e.2 (z8 E 32)) fun f=>
 Ev s (zf E 32 f.2 f.1 o) fun q=>
 PI (C10 s) K 19 [i,j,k,g,b,d,f.1,p] q.2):PI (C10 s) K 18 [i,j,k,g,b,d] h:=zB H
def zbi (H :
 EvO (zC E .neq 29 g (iI 0)) fun b=>
 EvO (gdB b false (zG E 25 h j)) fun o=>
 EvO (gdB b false (zG E 25 h k)) fun p=>
 EvO (gdB b false (zG E 32 h f)) fun q=>
 Ev s (gdW b false (zR (zY E) (some (.func (.func 15) #[] #[])) [o,p,q] h) h) fun i=>
 EvO (gdB b false (zC E .neq 29 i.1 (iI 0))) fun r=>
 EvO (zAB b (some (.bool true)) r) fun t=>
 BrK t (PI (C10 s) K 20 [] i.2) (PI (C10 s) K 21 [j,l,k,m,d,e] i.2)):PI (C10 s) K 19 [j,l,k,m,d,e,f,g] h:=zB H
def zbh (H :
 EvO (zG E 25 h l) fun r=>
 EvO (zG E 25 h m) fun t=>
 EvO (zG E 25 h o) fun u=>
 Ev s (zd E 82 3 (some [(0,r),(1,t),(2,u)]) h) fun d=>
 EvO (zG E 32 d.2 p) fun w=>
 EvO (zG E 32 d.2 f) fun x=>
 Ev s (zd E 83 2 (some [(0,w),(1,x)]) d.2) fun q=>
 Ev s (zR (zY E) (some (.func (.func 57) #[] #[])) [d.1,q.1] q.2) fun e=>
 EvO (ze 0 e.1) fun y=>
 EvO (ze 1 e.1) fun i=>
 EvO (ze 2 e.1) fun j=>
 Ev s (zS 32 e.2 (z8 E 32)) fun b=>
 Ev s (zf E 32 b.2 b.1 y) fun k=>
 PI (C10 s) K 22 [l,m,o,p,g,b.1,i,j] k.2):PI (C10 s) K 21 [l,m,o,p,f,g] h:=zB H
def zbg (H :
 EvO (zC E .neq 29 i (iI 0)) fun j=>
 EvO (gdB j false g) fun r=>
 EvO (gdB j false (zC E .neq 3 r (iI 2))) fun t=>
 EvO (zAB j (some (.bool true)) t) fun d=>
 EvO (gdB d false (zG E 25 h m)) fun u=>
 EvO (gdB d false (zG E 25 h p)) fun w=>
 EvO (gdB d false (zG E 32 h f)) fun x=>
 Ev s (gdW d false (zR (zY E) (some (.func (.func 15) #[] #[])) [u,w,x] h) h) fun b=>
 EvO (gdB d false (zC E .neq 29 b.1 (iI 0))) fun k=>
 EvO (zAB d (some (.bool true)) k) fun l=>
 BrK l (PI (C10 s) K 23 [] b.2) (PI (C10 s) K 24 [m,o,q,e] b.2)):PI (C10 s) K 22 [m,o,p,q,e,f,g,i] h:=zB H
def zbf (H :
 EvO (zG E 25 h e) fun i=>
 EvO (zG E 25 h f) fun j=>
 EvO (zG E 32 h b) fun k=>
 Ev s (zR (zY E) (some (.func (.func 15) #[] #[])) [i,j,k] h) fun d=>
 EvO (zC E .eql 29 d.1 (iI 0)) fun l=>
 BrK l (PI (C10 s) K 25 [e,f,g,b] d.2) (PI (C10 s) K 28 [] d.2)):PI (C10 s) K 24 [e,f,g,b] h:=zB H
def zbe (H :
 EvO (zG E 32 h i) fun j=>
 EvO (zG E 32 h b) fun k=>
 Ev s (zR (zY E) (some (.func (.func 58) #[] #[])) [j,k] h) fun d=>
 EvO (ze 0 d.1) fun l=>
 EvO (ze 1 d.1) fun m=>
 Ev s (zS 32 d.2 (z8 E 32)) fun e=>
 Ev s (zf E 32 e.2 e.1 l) fun o=>
 PI (C10 s) K 26 [f,g,e.1,m] o.2):PI (C10 s) K 25 [f,g,i,b] h:=zB H
def zbd (H :
 EvO (zC E .neq 29 e (iI 0)) fun b=>
 EvO (gdB b false (zG E 25 h g)) fun j=>
 EvO (gdB b false (zG E 25 h i)) fun k=>
 EvO (gdB b false (zG E 32 h d)) fun l=>
 Ev s (gdW b false (zR (zY E) (some (.func (.func 15) #[] #[])) [j,k,l] h) h) fun f=>
 EvO (gdB b false (zC E .neq 29 f.1 (iI 0))) fun m=>
 EvO (zAB b (some (.bool true)) m) fun o=>
 BrK o (PI (C10 s) K 27 [] f.2) (PI (C10 s) K 28 [] f.2)):PI (C10 s) K 26 [g,i,d,e] h:=zB H
def zMW (H :
 K .ret [(.bool true)] h):PI (C10 s) K 28 [] h:=zB H
theorem zhB (aa:h.ok) (hv:zt v=true) (H:PI (C10 s) (KR E [.tmp 12] fun x k=>x=v/\h.next<=k.wm) 0 [v0,v1,v2,v3,v4,v5] h.fresh):(zY E).call 10 [v0,v1,v2,v3,v4,v5] h=some [(v,h)]:=zA3 Tryz.f10 aa hv (zAA (C10 s) H)
end Go.Proofs
namespace Go.Proofs
open Go Go.AM
set_option maxRecDepth 100000
theorem zUk {n:Int} {h:AH} (aa:h.ok):(zY E).call 154 [iI n] h=some [(.bool false,h)]:=by
 refine zck (s:=true) aa rfl (zZM ?_)
 refine zZL ?_
 simp [zA,zAp,zAS,zX]
theorem zI5 {a b:Int} {h:AH} (aa:h.ok):(zY E).call 94 [iI a,iI b] h=some [(iI (if a<b then -1 else if b<a then 1 else 0),h)]:=by
 have hf:=zAT h
 refine zgM (s:=true) aa rfl (zeA ?_)
 refine zd9 ?_
 simp only [zA,zQ,zUk hf,zP]
 refine zd8 ?_
 simp only [zA,zQ,zUk hf,zP]
 refine zd7 ?_
 simp only [zA,zj]
 refine zd6 ?_
 simp only [zA,zj]
 refine zd5 ?_
 simp only [zA,zZ,zAM]
 refine ⟨fun h1=>zVL ?_,fun h1=>zVK ?_⟩
 ·simp [zA,zAS,zX,h1]
 simp only [zA,zAK,zAM]
 refine ⟨fun h2=>zVJ ?_,fun h2=>zVI ?_⟩
 ·simp [zA,zAS,zX,h1,h2]
 ·simp [zA,zAS,zX,h1,h2]
inductive Arr (h:AH) (z:Nat):Value->List (List Value)->Prop
 | nil (a:Option Addr) (c:Nat):Arr h z (.slice a 0 c) []
 | row {b o c:Nat} {vs:List Value} {ty es:Nat} {ro:Bool} {els:List (List Value)} (hb:h.get b=some (.row vs ty es ro)) (ab:b<h.next) (hl:o+els.length*z<=vs.length)
   (hz:∀ i e,els[i]?=some e->e.length=z/\(vs.drop (o+i*z)).take z=e):Arr h z (.slice (some ⟨b,o,none⟩) els.length c) els
theorem Arr.ext {h k:AH} {z:Nat} {v:Value} {els:List (List Value)} (a:Arr h z v els) (e:Ext h k):Arr k z v els:=by
 cases a with
 | nil a c=>exact .nil a c
 | row hb ab hl hz=>exact .row ((e.get _ ab).trans hb) (Nat.lt_of_lt_of_le ab e.next) hl hz
def zAQ (p:Nat->Bool):Nat->Nat->Int
 | 0,_=>-1
 | n+1,i=>if p i then (i:Int) else zAQ p n (i+1)
theorem zCt {p:Nat->Bool}:∀ (n i:Nat),(∀ j,i<=j->j<i+n->p j=false) ↔ zAQ p n i<0
 | 0,i=>by simp [zAQ];intro j h1 h2;omega
 | n+1,i=>by
  simp only [zAQ]
  constructor
  ·intro h
   rw [h i (Nat.le_refl _) (by omega)]
   simp only [Bool.false_eq_true,if_false]
   exact (zCt n (i+1)).1 fun j h1 h2=>h j (by omega) (by omega)
  ·intro h j h1 h2
   cases hp:p i with
   | true=>rw [hp] at h;simp at h;omega
   | false=>
    rw [hp] at h
    simp only [Bool.false_eq_true,if_false] at h
    by_cases e:j=i
    ·rw [e,hp]
    ·exact (zCt n (i+1)).2 h j (by omega) (by omega)
theorem zEA {i n:Nat} (hi:i<n) (hn:n<=9223372036854775807):zC3 ((i:Int)+1):=by unfold zC3;omega
theorem zjm {h0:AH} {v f:Value} {els:List (List Value)} {p:Nat->Bool} (ha:Arr h0 2 v els) (hn:els.length<=9223372036854775807)
  (hf:∀ k,Ext h0 k->∀ i e,els[i]?=some e->zR (zY E) (some f) (some [.agg ⟨e⟩]) k=some [(.bool (p i),k)]) {k:AH} (hk:Ext h0 k) :
  (zY E).call 220 [v,f] k=some [(iI (zAQ p els.length 0),k)]:=by
 refine zcR (s:=true) hk.ok rfl (zXw ?_)
 refine zXv ?_
 have loop:∀ (m i:Nat),i+m=els.length->znm true (KR E [.tmp 2] (fun x l=>x=iI (zAQ p m i)/\k.next<=l.wm)) v f (iI (els.length:Int)) (iI (i:Int)) k.fresh:=by
  intro m
  induction m with
  | zero=>
   intro i hi
   refine zLz ?_
   simp only [zZ,zA,zAM]
   refine ⟨fun h=>by omega,fun _=>zXq ?_⟩
   simp [zA,zAS,zX,zAQ]
  | succ m ih=>
   intro i hi
   have cS:=ha
   cases cS with
   | nil a c=>simp at hi
   | @row b o c vs ty es ro _ hb ab hl hz=>
   have ai:i<els.length:=by omega
   refine zLz ?_
   simp only [zZ,zA,zAM]
   refine ⟨fun _=>zXu ?_,fun h=>by omega⟩
   refine zXt ?_
   obtain ⟨gY,d9⟩:=hz i els[i] (List.getElem?_eq_getElem ai)
   have ao:k.fresh.get b=some (.row vs ty es ro):=(hk.get b ab).trans hb
   have aU:o+i*2+2<=vs.length:=by
    have:(i+1)*2<=els.length*2:=Nat.mul_le_mul_right _ (by omega)
    omega
   simp only [zA,zUB ai,zV zIO ao aU,d9,hf _ hk.fresh i _ (List.getElem?_eq_getElem ai),zP,zBa]
   refine ⟨fun h=>zXs ?_,fun h=>zXr ?_⟩
   ·simp [zA,zAS,zX,zAQ,h]
   ·simp only [zAD _ (zEA ai hn),zA]
    have:=ih (i+1) (by omega)
    simp only [zAQ,h]
    simpa using this
 have h0:=loop els.length 0 (by omega)
 cases ha with
 | nil a c=>
  simp only [zA,zIf]
  exact h0
 | row hb ab hl hz=>
  simp only [zA,zIf]
  exact h0
theorem zjv {h0:AH} {v f:Value} {els:List (List Value)} {p:Nat->Bool} (ha:Arr h0 2 v els) (hn:els.length<=9223372036854775807)
  (hf:∀ k,Ext h0 k->∀ i e,els[i]?=some e->zR (zY E) (some f) (some [.agg ⟨e⟩]) k=some [(.bool (p i),k)]) {k:AH} (hk:Ext h0 k) :
  (zY E).call 173 [v,f] k=some [(.bool (decide (0<=zAQ p els.length 0)),k)]:=by
 refine zce (s:=true) hk.ok rfl (zY1 ?_)
 refine zY0 ?_
 simp only [zA,zQ,zjm ha hn hf hk.fresh,zP,zAa]
 simp [zA,zAS,zX]
theorem zjj {h0:AH} {v f:Value} {els:List (List Value)} {p:Nat->Bool} (ha:Arr h0 3 v els) (hn:els.length<=9223372036854775807)
  (hf:∀ k,Ext h0 k->∀ i e,els[i]?=some e->zR (zY E) (some f) (some [.agg ⟨e⟩]) k=some [(.bool (p i),k)]) {k:AH} (hk:Ext h0 k) :
  (zY E).call 243 [v,f] k=some [(iI (zAQ p els.length 0),k)]:=by
 refine zcM (s:=true) hk.ok rfl (zXL ?_)
 refine zXK ?_
 have loop:∀ (m i:Nat),i+m=els.length->znd true (KR E [.tmp 2] (fun x l=>x=iI (zAQ p m i)/\k.next<=l.wm)) v f (iI (els.length:Int)) (iI (i:Int)) k.fresh:=by
  intro m
  induction m with
  | zero=>
   intro i hi
   refine zLt ?_
   simp only [zZ,zA,zAM]
   refine ⟨fun h=>by omega,fun _=>zXF ?_⟩
   simp [zA,zAS,zX,zAQ]
  | succ m ih=>
   intro i hi
   have cS:=ha
   cases cS with
   | nil a c=>simp at hi
   | @row b o c vs ty es ro _ hb ab hl hz=>
   have ai:i<els.length:=by omega
   refine zLt ?_
   simp only [zZ,zA,zAM]
   refine ⟨fun _=>zXJ ?_,fun h=>by omega⟩
   refine zXI ?_
   obtain ⟨gY,d9⟩:=hz i els[i] (List.getElem?_eq_getElem ai)
   have ao:k.fresh.get b=some (.row vs ty es ro):=(hk.get b ab).trans hb
   have aU:o+i*3+3<=vs.length:=by
    have:(i+1)*3<=els.length*3:=Nat.mul_le_mul_right _ (by omega)
    omega
   simp only [zA,zUA ai,zV zCK ao aU,d9,hf _ hk.fresh i _ (List.getElem?_eq_getElem ai),zP,zBa]
   refine ⟨fun h=>zXH ?_,fun h=>zXG ?_⟩
   ·simp [zA,zAS,zX,zAQ,h]
   ·simp only [zAD _ (zEA ai hn),zA]
    have:=ih (i+1) (by omega)
    simp only [zAQ,h]
    simpa using this
 have h0:=loop els.length 0 (by omega)
 cases ha with
 | nil a c=>
  simp only [zA,zId]
  exact h0
 | row hb ab hl hz=>
  simp only [zA,zId]
  exact h0
theorem zUg {h0:AH} {v f:Value} {els:List (List Value)} {p:Nat->Bool} (ha:Arr h0 3 v els) (hn:els.length<=9223372036854775807)
  (hf:∀ k,Ext h0 k->∀ i e,els[i]?=some e->zR (zY E) (some f) (some [.agg ⟨e⟩]) k=some [(.bool (p i),k)]) {k:AH} (hk:Ext h0 k) :
  (zY E).call 215 [v,f] k=some [(.bool (decide (0<=zAQ p els.length 0)),k)]:=by
 refine zcW (s:=true) hk.ok rfl (zYE ?_)
 refine zYD ?_
 simp only [zA,zQ,zjj ha hn hf hk.fresh,zP,zAa]
 simp [zA,zAS,zX]
inductive GT where
 | mk (k n:Int) (l:List GT)
mutual
inductive RT (h:AH):Value->List GT->Prop
 | mk {v:Value} {els:List (List Value)} {ts:List GT} (ha:Arr h 3 v els) (hn:els.length<=9223372036854775807) (hc:RC h els ts):RT h v ts
inductive RC (h:AH):List (List Value)->List GT->Prop
 | nil:RC h [] []
 | cons {k n:Int} {v:Value} {l:List GT} {els:List (List Value)} {ts:List GT} (hv:RT h v l) (hs:RC h els ts):RC h ([iI k,iI n,v]::els) (.mk k n l::ts)
end
mutual
theorem RT.ext {h k:AH} (e:Ext h k):∀ {v:Value} {ts:List GT},RT h v ts->RT k v ts
 | _,_,.mk ha hn hc=>.mk (ha.ext e) hn (RC.ext e hc)
theorem RC.ext {h k:AH} (e:Ext h k):∀ {els:List (List Value)} {ts:List GT},RC h els ts->RC k els ts
 | _,_,.nil=>.nil
 | _,_,.cons hv hs=>.cons (RT.ext e hv) (RC.ext e hs)
end
theorem RC.at {h:AH}:∀ {els:List (List Value)} {ts:List GT},RC h els ts->∀ (i:Nat) (e:List Value),els[i]?=some e->∃ (k n:Int) (v:Value) (l:List GT),e=[iI k,iI n,v]/\RT h v l/\ts[i]?=some (GT.mk k n l)
 | _,_,.nil,i,e,h=>by simp at h
 | _,_,.cons hv hs,0,e,h=>by simp at h;exact ⟨_,_,_,_,h.symm,hv,rfl⟩
 | _,_,.cons hv hs,i+1,e,h=>by simp only [List.getElem?_cons_succ] at h;obtain ⟨k,n,v,l,a,b,c⟩:=RC.at hs i e h;exact ⟨k,n,v,l,a,b,by simpa using c⟩
theorem RC.length {h:AH}:∀ {els:List (List Value)} {ts:List GT},RC h els ts->els.length=ts.length
 | _,_,.nil=>rfl
 | _,_,.cons _ hs=>by simp [RC.length hs]
theorem RT.slice {h:AH} {v:Value} {ts:List GT} (r:RT h v ts):∃ a c,v=.slice a ts.length c:=by
 cases r with
 | mk ha hn hc=>
  have:=RC.length hc
  cases ha with
  | nil a c=>simp at this;exact ⟨a,c,by rw [← this]⟩
  | row=>rw [← this];exact ⟨_,_,rfl⟩
theorem Arr.load {h:AH} {z:Nat} {v:Value} {els:List (List Value)} (ha:Arr h z v els) {i:Nat} {e:List Value} (hi:els[i]?=some e) :
  ∃ b o c vs ty es ro,v=.slice (some ⟨b,o,none⟩) els.length c/\h.get b=some (.row vs ty es ro)/\b<h.next/\o+i*z+z<=vs.length/\(vs.drop (o+i*z)).take z=e/\e.length=z:=by
 cases ha with
 | nil a c=>simp at hi
 | @row b o c vs ty es ro _ hb ab hl hz=>
  have aD:i<els.length:=(List.getElem?_eq_some_iff.1 hi).1
  refine ⟨b,o,c,vs,ty,es,ro,rfl,hb,ab,?_,(hz i e hi).2,(hz i e hi).1⟩
  have:(i+1)*z<=els.length*z:=Nat.mul_le_mul_right _ (by omega)
  rw [Nat.add_mul] at this
  omega
abbrev zKZ (a d:Int) (ty:TypeId):AObj:=rO [iI a,iI d] ty
theorem zlr (a b:Int) (h:AH):zN E (zk [(19,iI a),(20,iI b)]) (zo zos [1,1,0] 6) h=some (iI (if b > a then b else a)):=by kernel_rfl
theorem upd2 {h:AH} {b:Nat} {a d x:Int} {ty:TypeId} (hb:h.get b=some (zKZ a d ty)):zf E 3 h (sP b 0) (some (iI x))=one (undef,h.upd b (some (zKZ x d ty))):=by
 rw [z7 (P:=E) zhO hb (zC0 _ _) rfl (by simp) rfl];rfl
theorem zpH {h:AH} {b:Nat} {a d x:Int} {ty:TypeId} (hb:h.get b=some (zKZ a d ty)):zf E 3 h (some (.pointer (some ⟨b,1,none⟩))) (some (iI x))=one (undef,h.upd b (some (zKZ a x ty))):=by
 rw [z7 (P:=E) zhO hb (zC0 _ _) rfl (by simp) rfl];rfl
mutual
def zUU:GT->Int->Int×Int->Int×Int
 | .mk _ _ l,deep,s=>zUV l deep (zB4 .i64 (s.1+1),if deep > s.2 then deep else s.2)
def zUV:List GT->Int->Int×Int->Int×Int
 | [],_,s=>s
 | t::ts,deep,s=>if 2000<s.1\/200<s.2 then s else zUV ts deep (zUU t (zB4 .i64 (deep+1)) s)
end
def zc9 (k0:AH) (b:Nat) (ty:TypeId) (s:Int×Int) (k:AH):Prop:=Chg k0 b k/\k.wm<=b/\k.get b=some (zKZ s.1 s.2 ty)
theorem zDi {h:AH} {v:Value} {ts:List GT} (r:RT h v ts):zq v=true:=by obtain ⟨a,c,rfl⟩:=r.slice;rfl
mutual
theorem zUe {h0:AH}:∀ {v:Value} {ts:List GT},RT h0 v ts->∀ {k:AH} {b:Nat} {a d kk nn deep:Int} {ty:TypeId},Ext h0 k->h0.next<=b->b<k.next->k.get b=some (zKZ a d ty)->
  Ev true ((zY E).call 268 [.pointer (some ⟨b,0,none⟩),.agg #[iI kk,iI nn,v],iI deep] k) fun x=>zc9 k b ty (zUU (.mk kk nn ts) deep (a,d)) x.2
 | v,ts,.mk (els:=els) ha hn hc,k,b,a,d,kk,nn,deep,ty,hk,dr,hbk,hb=>by
  refine zcI (Rp:=fun _ k'=>zc9 k b ty (zUU (.mk kk nn ts) deep (a,d)) k') (zWs ?_)
  have be:RT h0 v ts:=.mk ha hn hc
  simp only [zg,zK,zT]
  refine zWr ?_
  have e1:=(Chg.refl (zAT k) b).new (rO [iI kk,iI nn,v] 173)
  have g1:(k.fresh.new (rO [iI kk,iI nn,v] 173)).get b=some (zKZ a d ty):=by rw [zL (by simp;omega)];exact hb
  have l1:=zF (P:=E) zAb (o:=0) g1
  simp only [lnth] at l1
  simp only [zA,zA1,zG1,Nat.add_zero,l1,zKO,upd2 g1,zK]
  refine zWq ?_
  have e2:=e1.upd (some (zKZ (zB4 .i64 (a+1)) d ty))
  generalize hk2:(k.fresh.new (rO [iI kk,iI nn,v] 173)).upd b (some (zKZ (zB4 .i64 (a+1)) d ty))=k2 at e2
  have g2:k2.get b=some (zKZ (zB4 .i64 (a+1)) d ty):=by rw [← hk2,zO]
  have t2:k2.get k.next=some (rO [iI kk,iI nn,v] 173):=by rw [← hk2,zW (by omega)];exact zI _ _
  have l2:=zF (P:=E) zAb (o:=1) g2
  simp only [lnth] at l2
  simp only [zA,zA1,zFj,Nat.zero_add,l2,zlr,zpH g2,zK]
  refine zWp ?_
  rw [show zUU (.mk kk nn ts) deep (a,d)=zUV ts deep (zB4 .i64 (a+1),if deep > d then deep else d) from rfl]
  generalize (if deep > d then deep else d)=d'
  have e3:=e2.upd (some (zKZ (zB4 .i64 (a+1)) d' ty))
  generalize hk3:k2.upd b (some (zKZ (zB4 .i64 (a+1)) d' ty))=k3 at e3
  have g3:k3.get b=some (zKZ (zB4 .i64 (a+1)) d' ty):=by rw [← hk3,zO]
  have t3:k3.get k.next=some (rO [iI kk,iI nn,v] 173):=by rw [← hk3,zW (by omega)];exact t2
  have w3:k3.wm<=b:=by rw [← hk3];exact (zDz _ _ _).2
  have l3:=zF (P:=E) zDd (o:=2) t3
  simp only [lnth] at l3
  obtain ⟨sa,sc,hv⟩:=be.slice
  have hlen:=RC.length hc
  subst hv
  simp only [zAf,Nat.zero_add,l3,zA,zb,zQE]
  refine zTa hc (i:=0) (all:=els) (by simp) ha hn hlen hk dr hbk e3 g3 w3 fun ex k' hex aF=>?_
  simp only [zSP,hex,true_and]
  have dW:=aF.2.1
  refine ⟨.inr (by omega),aF.1.of_fresh,?_,aF.2.2⟩
  show cond (Nat.ble k.wm k'.wm) k.wm k'.wm<=b
  cases bT:Nat.ble k.wm k'.wm with
  | true=>rw [ble_true] at bT;simp only [cond_true];omega
  | false=>simp only [cond_false];omega
theorem zTa {h0:AH}:∀ {els:List (List Value)} {ts:List GT},RC h0 els ts->∀ {i:Nat} {all:List (List Value)} {sa:Option Addr} {len sc:Nat},all.drop i=els->Arr h0 3 (.slice sa len sc) all->all.length<=9223372036854775807->all.length=len->
  ∀ {k0 k:AH} {b:Nat} {a d deep:Int} {ty:TypeId} {K:KF},Ext h0 k0->h0.next<=b->b<k0.next->Chg k0.fresh b k->k.get b=some (zKZ a d ty)->k.wm<=b->
  (∀ ex k',zBt ex=true->zc9 k0.fresh b ty (zUV ts deep (a,d)) k'->K ex [] k')->znb true K (.pointer (some ⟨b,0,none⟩)) (iI deep) (.slice sa len sc) (iI (len:Int)) (iI (i:Int)) k
 | els,ts,hc,i,all,sa,len,sc,hd,ha,hn,hlen,k0,k,b,a,d,deep,ty,K,h1,h2,h3,h4,h5,h6,hK=>by
  refine zWo ?_
  simp only [zZ,zA,zAM]
  refine ⟨fun hi=>zWn ?_,fun hni=>?_⟩
  rotate_left
  ·have:els=[]:=by rw [← hd];exact List.drop_eq_nil_of_le (by omega)
   have cT:ts=[]:=by have:=RC.length hc;rw [‹els=[]›] at this;simpa using this.symm
   rw [cT] at hK
   exact hK _ _ rfl ⟨h4,h6,h5⟩
  have cM:i<all.length:=by omega
  match els,ts,hc,hd with
  | _,_,.nil,hd=>
   have:=congrArg List.length hd
   simp at this
   omega
  | _,_,.cons (k:=tk) (n:=tn) (v:=tv) hv hs,hd=>
   have cx:all[i]?=some [iI tk,iI tn,tv]:=by
    have:=congrArg (·[0]?) hd
    simpa [List.getElem?_drop] using this
   obtain ⟨b',o,c,vs,ty',es,ro,aC,ao,ab,aU,hz,_⟩:=ha.load cx
   simp only [Value.slice.injEq] at aC
   obtain ⟨hsa,cK,eL⟩:=aC
   subst hsa
   have e0:Ext h0 k:=Chg.ext h1.fresh h2 h4
   have gb':k.get b'=some (.row vs ty' es ro):=(e0.get _ ab).trans ao
   have gH:k0.next<=k.next:=h4.next
   simp only [zUA (show i<len by omega),zA,zV zCK gb' aU,hz,zdJ,zg,zK,zT]
   have gk:=zI k (rO [iI 0,iI 0,.slice none 0 0] 173)
   rw [z7 (P:=E) zKh gk (zT _) rfl (by simp) (by simp [zq];exact zDi hv)]
   simp only [zK]
   have gF:lput [iI 0,iI 0,.slice none 0 0] 0 [iI tk,iI tn,tv]=[iI tk,iI tn,tv]:=rfl
   rw [gF]
   have e5:=(h4.new (rO [iI 0,iI 0,.slice none 0 0] 173)).updNew (c:=k.next) (by simpa using h4.next) (some (rO [iI tk,iI tn,tv] 173))
   have w5:((k.new (rO [iI 0,iI 0,.slice none 0 0] 173)).upd k.next (some (rO [iI tk,iI tn,tv] 173))).wm<=b:=Nat.le_trans (zDz _ _ _).1 h6
   generalize hk5:(k.new (rO [iI 0,iI 0,.slice none 0 0] 173)).upd k.next (some (rO [iI tk,iI tn,tv] 173))=k5 at e5 w5
   have n5:k5.next=k.next+1:=by rw [← hk5];rfl
   have g5:k5.get b=some (zKZ a d ty):=by rw [← hk5,zW (by omega),zL (by omega)];exact h5
   have t5:k5.get k.next=some (rO [iI tk,iI tn,tv] 173):=by rw [← hk5,zO]
   refine zWm ?_
   have l0:=zF (P:=E) zAb (o:=0) g5
   have l1:=zF (P:=E) zAb (o:=1) g5
   simp only [lnth] at l0 l1
   simp only [zA,zA1,zG1,Nat.add_zero,l0,zAK,zM]
   have next:¬ (2000:Int)<a->¬ (200:Int)<d->zna true K (.pointer (some ⟨b,0,none⟩)) (iI deep) (.pointer (some ⟨k.next,0,none⟩)) (.slice (some ⟨b',o,none⟩) len sc) (iI (len:Int)) (iI (i:Int)) k5:=by
    intro gz e8
    refine zWl ?_
    have l5:=zV (P:=E) zCK (o:=0) t5 (by simp)
    simp only [zA,l5,zKO,zQ]
    refine (zUe hv (k:=k5) (a:=a) (d:=d) (ty:=ty) (Chg.ext h1.fresh h2 e5) h2 (by omega) g5).mono fun x hx=>?_
    obtain ⟨c1,wx,c2⟩:=hx
    refine zWk ?_
    simp only [zAD _ (zEA cM hn),zA]
    have:=zTa hs (i:=i+1) (all:=all) (by rw [← List.drop_drop,hd];rfl) ha hn hlen h1 h2 h3 (deep:=deep) (e5.trans c1) c2 wx (by simpa [zUV,gz,e8] using hK)
    exact this
   by_cases eE:(2000:Int)<a
   ·simp only [eE,decide_true,show ((true==false)=false) from rfl,cond_false,zA,zJ,cond_true,zz]
    exact hK _ _ rfl ⟨e5,w5,by simpa [zUV,eE] using g5⟩
   ·simp only [eE,decide_false,show ((false==false)=true) from rfl,cond_true,zA,zA1,zFj,Nat.zero_add,l1,zAK,zJ,cond_false,zAM]
    exact ⟨fun h2=>hK _ _ rfl ⟨e5,w5,by simpa [zUV,h2] using g5⟩,fun h2=>next eE h2⟩
end
theorem zjf {k:AH} {b:Nat} {a d:Int} {ty:TypeId} (aa:k.ok) (hb:k.get b=some (zKZ a d ty)):(zY E).call 269 [.pointer (some ⟨b,0,none⟩)] k=some [(.bool (decide (2000<a\/200<d)),k)]:=by
 refine zcH (s:=true) aa rfl (zWj ?_)
 refine zWi ?_
 have ao:k.fresh.get b=some (zKZ a d ty):=hb
 have l0:=zF (P:=E) zAb (o:=0) ao
 have l1:=zF (P:=E) zAb (o:=1) ao
 simp only [lnth] at l0 l1
 simp only [zA,zA1,zG1,Nat.add_zero,l0,zAK,zM]
 by_cases eE:(2000:Int)<a
 ·simp [eE,zA,zJ,zAS,zX]
 ·by_cases hd:(200:Int)<d
  ·simp [eE,hd,zA,zJ,zAS,zX,zA1,zFj,l1,zAK]
  ·simp [eE,hd,zA,zJ,zAS,zX,zA1,zFj,l1,zAK]
def zPn (t:GT):Int×Int:=if 2000<(zUU t 1 (0,0)).1\/200<(zUU t 1 (0,0)).2 then (2001,201) else zUU t 1 (0,0)
theorem zji {h0 k:AH} {kk nn:Int} {v:Value} {l:List GT} (hr:RT h0 v l) (hk:Ext h0 k) :
  (zY E).call 244 [.agg #[iI kk,iI nn,v]] k=some [(.tuple #[iI (zPn (.mk kk nn l)).1,iI (zPn (.mk kk nn l)).2],k)]:=by
 refine zR6 hk.ok rfl (zXE ?_)
 simp only [zg,zK,zT,zA]
 refine zXD ?_
 simp only [zo7,zg,zK,zT]
 refine zXC ?_
 have e1:=(hk.fresh.new (rO [iI kk,iI nn,v] 173)).new (rO [iI 0,iI 0] 306)
 have t1:((k.fresh.new (rO [iI kk,iI nn,v] 173)).new (rO [iI 0,iI 0] 306)).get k.next=some (rO [iI kk,iI nn,v] 173):=by
  rw [zL (by simp)];exact zI k.fresh _
 have g1:((k.fresh.new (rO [iI kk,iI nn,v] 173)).new (rO [iI 0,iI 0] 306)).get (k.next+1)=some (zKZ 0 0 306):=zI (k.fresh.new _) _
 have n1:((k.fresh.new (rO [iI kk,iI nn,v] 173)).new (rO [iI 0,iI 0] 306)).next=k.next+2:=rfl
 have w1:((k.fresh.new (rO [iI kk,iI nn,v] 173)).new (rO [iI 0,iI 0] 306)).wm=k.next+UNK:=rfl
 simp only [zb,AH.next_new]
 generalize ((k.fresh.new (rO [iI kk,iI nn,v] 173)).new (rO [iI 0,iI 0] 306))=k1 at e1 t1 g1 n1 w1
 have lt:=zV (P:=E) zCK (o:=0) t1 (by simp)
 have dz:=hk.next
 simp only [lt,zA,zQ]
 refine (zUe hr (k:=k1) (b:=k.next+1) e1 (by omega) (by omega) g1).mono fun x hx=>?_
 obtain ⟨c1,_,c2⟩:=hx
 refine zXB ?_
 simp only [zQ,zjf c1.ok c2,zP,zAM]
 have f0:k.next<=x.2.wm:=c1.wm k.next (by omega) (by omega) (by omega)
 have l0:=zF (P:=E) zAb (o:=0) c2
 have l1:=zF (P:=E) zAb (o:=1) c2
 simp only [lnth] at l0 l1
 refine ⟨fun eN=>zXA ?_,fun eN=>zW9 ?_⟩
 ·simp [zA,zQX,zX,zPn,eN,f0]
 ·simp only [zA,zG1,zFj,Nat.add_zero,Nat.zero_add,l0,l1,zQX,zX,true_and,zPn,eN,if_false]
  exact f0
mutual
def okT:GT->Bool
 | .mk k n l=>decide (k=2)&&decide (0<=n)&&decide (n<256)&&decide (l.length<=8)&&okL l
def okL:List GT->Bool
 | []=>true
 | t::ts=>okT t&&okL ts
end
theorem okL_iff:∀ {ts:List GT},okL ts=true ↔ ∀ (i:Nat) (t:GT),ts[i]?=some t->okT t=true
 | []=>by simp [okL]
 | t::ts=>by
  simp only [okL,Bool.and_eq_true,okL_iff (ts:=ts)]
  constructor
  ·rintro ⟨a,b⟩ i u hu
   cases i with
   | zero=>simp at hu;rw [← hu];exact a
   | succ i=>exact b i u (by simpa using hu)
  ·intro h
   exact ⟨h 0 t rfl,fun i u hu=>h (i+1) u (by simpa using hu)⟩
def zOP (ts:List GT) (f:GT->Bool) (i:Nat):Bool:=match ts[i]? with
 | some t=>!f t
 | none=>false
theorem zl4 {ts:List GT}:decide (0<=zAQ (zOP ts okT) ts.length 0)=!okL ts:=by
 have h:=zCt (p:=zOP ts okT) ts.length 0
 cases hb:okL ts with
 | true=>
  have:zAQ (zOP ts okT) ts.length 0<0:=h.1 fun j _ hj=>by
   unfold zOP
   cases ht:ts[j]? with
   | none=>rfl
   | some t=>simp [okL_iff.1 hb j t ht]
  rw [decide_eq_false (by omega)];rfl
 | false=>
  have:¬ zAQ (zOP ts okT) ts.length 0<0:=by
   intro cY
   have:=h.2 cY
   have aA:okL ts=true:=okL_iff.2 fun i t ht=>by
    have hi:=(List.getElem?_eq_some_iff.1 ht).1
    have:=this i (Nat.zero_le _) (by omega)
    simpa [zOP,ht] using this
   rw [aA] at hb;cases hb
  rw [decide_eq_true (by omega)];rfl
abbrev zST (f:FuncId) (b:Nat):Value:=.func (.func f) #[] #[.pointer (some ⟨b,0,none⟩)]
def zN4 (h0:AH) (kk nn:Int) (v:Value) (l:List GT):Prop:=∀ (k:AH) (b:Nat),Ext h0 k->b<k.next->k.get b=some (rO [zST 245 b] 247)->
 (zY E).call 245 [.agg #[iI kk,iI nn,v],.pointer (some ⟨b,0,none⟩)] k=some [(.bool (okT (.mk kk nn l)),k)]
theorem zjh {h0:AH} {kk nn:Int} {v:Value} {l:List GT} (hs:zN4 h0 kk nn v l) {k:AH} {b:Nat} (hk:Ext h0 k) (hbk:b<k.next) (hb:k.get b=some (rO [zST 245 b] 247)) :
  (zY E).call 246 [.agg #[iI kk,iI nn,v],.pointer (some ⟨b,0,none⟩)] k=some [(.bool (!okT (.mk kk nn l)),k)]:=by
 refine zcK (s:=true) hk.ok rfl (zW6 ?_)
 simp only [zg,zK,zT,zA]
 refine zW5 ?_
 have e1:=hk.fresh.new (rO [iI kk,iI nn,v] 173)
 have t1:=zI k.fresh (rO [iI kk,iI nn,v] 173)
 have g1:(k.fresh.new (rO [iI kk,iI nn,v] 173)).get b=some (rO [zST 245 b] 247):=by rw [zL (by simp;omega)];exact hb
 have lt:=zV (P:=E) zCK (o:=0) t1 (by simp)
 have lc:=zF (P:=E) zhP (o:=0) g1
 simp only [lnth] at lc
 simp only [List.drop_zero,List.take] at lt
 simp only [zb] at lt
 simp only [zb,lt,lc,zA,zFK]
 have:=hs _ _ e1 (by simp;omega) g1
 simp only [List.nil_append,List.cons_append,this,zP,z6,zA,zAS,zX]
 simp [zDK]
mutual
theorem zSw {h0:AH}:∀ {v:Value} {l:List GT},RT h0 v l->∀ (kk nn:Int),zN4 h0 kk nn v l
 | v,l,.mk (els:=els) ha hn hc,kk,nn=>by
  intro k b hk hbk hb
  have be:RT h0 v l:=.mk ha hn hc
  have dN:=zOG hc
  have hlen:=RC.length hc
  obtain ⟨sa,sc,hv⟩:=be.slice
  subst hv
  refine zcL (s:=true) hk.ok rfl (zW8 ?_)
  simp only [zg,zK,zT,zA]
  refine zW7 ?_
  have e1:=hk.fresh.new (rO [iI kk,iI nn,.slice sa l.length sc] 173)
  have t1:=zI k.fresh (rO [iI kk,iI nn,.slice sa l.length sc] 173)
  have g1:(k.fresh.new (rO [iI kk,iI nn,.slice sa l.length sc] 173)).get b=some (rO [zST 245 b] 247):=by rw [zL (by simp;omega)];exact hb
  have w1:(k.fresh.new (rO [iI kk,iI nn,.slice sa l.length sc] 173)).wm=k.next+UNK:=rfl
  have n1:(k.fresh.new (rO [iI kk,iI nn,.slice sa l.length sc] 173)).next=k.next+1:=rfl
  simp only [zb] at t1 ⊢
  generalize k.fresh.new (rO [iI kk,iI nn,.slice sa l.length sc] 173)=k1 at e1 t1 g1 w1 n1
  have l0:=zF (P:=E) zAb (o:=0) t1
  have l1:=zF (P:=E) zAb (o:=1) t1
  have l2:=zF (P:=E) zDd (o:=2) t1
  simp only [lnth] at l0 l1 l2
  have fR:(zY E).call 215 [.slice sa l.length sc,.func (.func 246) #[] #[.pointer (some ⟨b,0,none⟩)]] k1=some [(.bool (decide (0<=zAQ (zOP l okT) els.length 0)),k1)]:=by
   refine zUg (h0:=k1) (ha.ext e1) hn (fun k2 hk2 i e he=>?_) (Ext.refl e1.ok)
   obtain ⟨ck,cn,cv,cl,q1,q2,q3,q4⟩:=dN i e he
   subst q1
   have:=zjh q4 (e1.trans hk2) (Nat.lt_of_lt_of_le (by omega:b<k1.next) hk2.next) ((hk2.get b (by omega)).trans g1)
   simp only [zFK,List.nil_append,List.cons_append,zOP,q3]
   exact this
  rw [hlen,zl4] at fR
  simp only [zFm,zFl,zAf,Nat.add_zero,Nat.zero_add,l0,zA,zAg,zM,zJ,okT]
  by_cases c1:kk=2
  ·by_cases c2:0<=nn
   ·by_cases c3:nn<256
    ·by_cases c4:l.length<=8
     ·have c4':(l.length:Int)<=8:=by omega
      simp [c1,c2,c3,c4,c4',l1,l2,zA,zAa,zZ,zBG,zHY,zJ,zM,zU,zBJ,zQ,fR,zP,z6,zAS,zX,w1]
     ·have c4':¬ (l.length:Int)<=8:=by omega
      simp [c1,c2,c3,c4,c4',l1,l2,zA,zAa,zZ,zBG,zHY,zJ,zM,zU,zK,zAS,zX,w1]
    ·simp [c1,c2,c3,l1,zA,zAa,zZ,zJ,zM,zU,zK,zAS,zX,w1]
   ·simp [c1,c2,l1,zA,zAa,zJ,zM,zU,zK,zAS,zX,w1]
  ·simp [c1,zA,zJ,zM,zU,zK,zAS,zX,w1]
theorem zOG {h0:AH}:∀ {els:List (List Value)} {ts:List GT},RC h0 els ts->∀ (i:Nat) (e:List Value),els[i]?=some e->
  ∃ (k n:Int) (v:Value) (l:List GT),e=[iI k,iI n,v]/\RT h0 v l/\ts[i]?=some (.mk k n l)/\zN4 h0 k n v l
 | _,_,.nil,i,e,h=>by simp at h
 | _,_,.cons hv hs,0,e,h=>by simp at h;exact ⟨_,_,_,_,h.symm,hv,rfl,zSw hv _ _⟩
 | _,_,.cons hv hs,i+1,e,h=>by
  simp only [List.getElem?_cons_succ] at h
  obtain ⟨k,n,v,l,a,b,c,d⟩:=zOG hs i e h
  exact ⟨k,n,v,l,a,b,by simpa using c,d⟩
end
def zGB (t:GT):Bool:=decide ((zPn t).1<=2000)&&okT t
theorem zjo {h0 k:AH} {kk nn:Int} {v:Value} {l:List GT} (hr:RT h0 v l) (hk:Ext h0 k) :
  (zY E).call 217 [.agg #[iI kk,iI nn,v]] k=some [(.bool (zGB (.mk kk nn l)),k)]:=by
 refine zcU (s:=true) hk.ok rfl (zYA ?_)
 simp only [zg,zK,zT,zA]
 refine zX9 ?_
 have e1:=hk.fresh.new (rO [iI kk,iI nn,v] 173)
 have t1:=zI k.fresh (rO [iI kk,iI nn,v] 173)
 have w1:(k.fresh.new (rO [iI kk,iI nn,v] 173)).wm=k.next+UNK:=rfl
 have n1:(k.fresh.new (rO [iI kk,iI nn,v] 173)).next=k.next+1:=rfl
 simp only [zb] at t1 ⊢
 generalize k.fresh.new (rO [iI kk,iI nn,v] 173)=k1 at e1 t1 w1 n1
 have lt:=zV (P:=E) zCK (o:=0) t1 (by simp)
 simp only [List.drop_zero,List.take] at lt
 simp only [lt,zA,zQ,zji hr e1,zP,ze,lnth]
 refine zX8 ?_
 simp only [zA,zAK,zAM]
 refine ⟨fun eN=>zX7 ?_,fun eN=>zX6 ?_⟩
 ·simp only [zA,zAS,zX,true_and,zGB]
  refine ⟨?_,by omega⟩
  rw [decide_eq_false (by omega)];rfl
 ·simp only [zo9,zg,zK,zQi]
  refine zX5 ?_
  have g0:=zI k1 (rO [.nilFunc] 247)
  simp only [zl,zBJ,zA]
  rw [z7 (P:=E) zlJ (cs:=[zST 245 k1.next]) g0 rfl rfl (by simp) rfl]
  simp only [zK]
  refine zX4 ?_
  have e2:=(e1.new (rO [.nilFunc] 247)).upd (b:=k1.next) e1.next (some (rO (lput [.nilFunc] 0 [zST 245 k1.next]) 247))
  have g2:((k1.new (rO [.nilFunc] 247)).upd k1.next (some (rO (lput [.nilFunc] 0 [zST 245 k1.next]) 247))).get k1.next=some (rO [zST 245 k1.next] 247):=zO _ _ _
  have t2:((k1.new (rO [.nilFunc] 247)).upd k1.next (some (rO (lput [.nilFunc] 0 [zST 245 k1.next]) 247))).get k.next=some (rO [iI kk,iI nn,v] 173):=by
   rw [zW (by omega),zL (by omega)];exact t1
  have w2:k.next<=((k1.new (rO [.nilFunc] 247)).upd k1.next (some (rO (lput [.nilFunc] 0 [zST 245 k1.next]) 247))).wm:=zAG (by rw [zDK];omega) (by omega)
  have n2:((k1.new (rO [.nilFunc] 247)).upd k1.next (some (rO (lput [.nilFunc] 0 [zST 245 k1.next]) 247))).next=k1.next+1:=rfl
  generalize ((k1.new (rO [.nilFunc] 247)).upd k1.next (some (rO (lput [.nilFunc] 0 [zST 245 k1.next]) 247)))=k2 at e2 g2 t2 w2 n2
  have lc:=zF (P:=E) zhP (o:=0) g2
  have lt2:=zV (P:=E) zCK (o:=0) t2 (by simp)
  simp only [lnth,List.drop_zero,List.take] at lc lt2
  simp only [lc,lt2,zA,zFK,List.nil_append,List.cons_append,zSw hr kk nn _ _ e2 (by omega) g2,zP,zAS,zX,true_and]
  refine ⟨?_,w2⟩
  unfold zGB
  rw [decide_eq_true (by omega)];rfl
structure Own (k l:AH):Prop where
 ext:Ext k l
 wm:k.next<=l.wm
theorem Own.fresh (k:AH):Own k k.fresh:=⟨⟨zAT k,Nat.le_refl _,fun _ _=>rfl⟩,by rw [zCZ];omega⟩
theorem Own.new {k l:AH} (o:Own k l) (x:AObj):Own k (l.new x):=⟨o.ext.new x,o.wm⟩
theorem Own.upd {k l:AH} (o:Own k l) {b:Nat} (hb:k.next<=b) (x:Option AObj):Own k (l.upd b x):=⟨o.ext.upd hb x,zAG o.wm hb⟩
theorem zCm (n:Nat) (k:IntKind) (a:Int):veq n (.int k a) (.int k a)=true:=by cases n <;> (show (decide (k=k)&&decide (a=a))=true;simp)
theorem zDM (n:Nat) (a:Option Addr) (m c:Nat):veq n (.slice a m c) (.slice a m c)=true:=by cases n <;> (show (decide (a=a)&&Nat.beq m m&&Nat.beq c c)=true;simp [Nat.beq_refl])
def orI:List Int->Int
 | []=>0
 | a::l=>if a≠0 then a else orI l
theorem zUj {k:AH} {is:List Int} {b c:Nat} {ty es:Nat} {ro:Bool} (hn:is.length<=1000) (aa:k.ok) (hb:k.get b=some (.row (is.map (Value.int .i64)) ty es ro)) :
  (zY E).call 171 [.slice (some ⟨b,0,none⟩) is.length c] k=some [(iI (orI is),k)]:=by
 refine zcf (s:=true) aa rfl (zY9 ?_)
 refine zY8 ?_
 refine zY7 ?_
 simp only [zA,zQM]
 have ao:k.fresh.get b=some (.row (is.map (Value.int .i64)) ty es ro):=hb
 have loop:∀ (js:List Int) (i:Nat),is.drop i=js->znt true (KR E [.tmp 2] (fun x l=>x=iI (orI js)/\k.next<=l.wm)) (iI 0) (.slice (some ⟨b,0,none⟩) is.length c) (iI (is.length:Int)) (iI (i:Int)) k.fresh:=by
  intro js
  induction js with
  | nil=>
   intro i hi
   have:is.length<=i:=List.drop_eq_nil_iff.1 hi
   refine zL5 ?_
   simp only [zZ,zA,zAM]
   refine ⟨fun h=>by omega,fun _=>zY2 ?_⟩
   simp [zA,zAS,zX,orI]
  | cons j js ih=>
   intro i hi
   have ab:i<is.length:=by
    rcases Nat.lt_or_ge i is.length with h|h
    ·exact h
    ·rw [List.drop_eq_nil_of_le h] at hi;cases hi
   have hj:is[i]?=some j:=by have:=congrArg (·[0]?) hi;simpa [List.getElem?_drop] using this
   refine zL5 ?_
   simp only [zZ,zA,zAM]
   refine ⟨fun _=>zY6 ?_,fun h=>by omega⟩
   have hl:lnth (is.map (Value.int .i64)) (0+i*1)=some (iI j):=by rw [zA7];simp [hj]
   simp only [zNR ab,zA,zF zAb ao,hl]
   refine zY5 ?_
   simp only [zA,zAp,zKK]
   refine ⟨fun h=>zY4 ?_,fun h=>zY3 ?_⟩
   ·simp [zA,zAS,zX,orI,h]
   ·simp only [zAD _ (zEA ab (by omega)),zA]
    have:=ih (i+1) (by rw [← List.drop_drop,hi];rfl)
    simp only [orI,h,ne_eq,not_true,if_false]
    simpa using this
 exact loop is 0 rfl
theorem zhw {a b:Int} {h:AH}:zd E 47 2 (some [(0,iI a),(1,iI b)]) h=one (.slice (some ⟨h.next,0,none⟩) 2 2,h.new (rO [iI a,iI b] 3)):=by kernel_rfl
theorem zhv {a b c:Int} {h:AH}:zd E 47 3 (some [(0,iI a),(1,iI b),(2,iI c)]) h=one (.slice (some ⟨h.next,0,none⟩) 3 3,h.new (rO [iI a,iI b,iI c] 3)):=by kernel_rfl
def c3 (a b:Int):Int:=if a<b then -1 else if b<a then 1 else 0
theorem or2 {h:AH} (aa:h.ok) (a b:Int):(zY E).call 171 [.slice (some ⟨h.next,0,none⟩) 2 2] (h.new (rO [iI a,iI b] 3))=some [(iI (orI [a,b]),h.new (rO [iI a,iI b] 3))]:=
 zUj (is:=[a,b]) (by simp) (zCW aa _) (zI _ _)
theorem or3 {h:AH} (aa:h.ok) (a b c:Int):(zY E).call 171 [.slice (some ⟨h.next,0,none⟩) 3 3] (h.new (rO [iI a,iI b,iI c] 3))=some [(iI (orI [a,b,c]),h.new (rO [iI a,iI b,iI c] 3))]:=
 zUj (is:=[a,b,c]) (by simp) (zCW aa _) (zI _ _)
def zCz (c:Nat->Int) (n1 n2:Nat):Nat->Nat->Int
 | 0,_=>if n1<n2 then -1 else 0
 | m+1,i=>if n2<=i then 1 else if c i≠0 then c i else zCz c n1 n2 m (i+1)
theorem zUf {h0:AH} {v1 v2 f:Value} {els1 els2:List (List Value)} {cf:Nat->Int} (ha1:Arr h0 3 v1 els1) (ha2:Arr h0 3 v2 els2) (hn:els1.length<=9223372036854775807) (iT:∀ (i:Nat) (e:List Value),els1[i]?=some e->e.all zq=true) (hlf2:∀ (i:Nat) (e:List Value),els2[i]?=some e->e.all zq=true)
  (hf:∀ k,Ext h0 k->∀ (i:Nat) (e1 e2:List Value),els1[i]?=some e1->els2[i]?=some e2->zR (zY E) (some f) (some [.agg ⟨e1⟩,.agg ⟨e2⟩]) k=some [(iI (cf i),k)]) {k:AH} (hk:Ext h0 k) :
  (zY E).call 247 [v1,v2,f] k=some [(iI (zCz cf els1.length els2.length els1.length 0),k)]:=by
 have iK:∃ a c,v1=.slice a els1.length c:=by cases ha1 with|nil a c=>exact ⟨a,c,rfl⟩|row=>exact ⟨_,_,rfl⟩
 have hs2:∃ a c,v2=.slice a els2.length c:=by cases ha2 with|nil a c=>exact ⟨a,c,rfl⟩|row=>exact ⟨_,_,rfl⟩
 obtain ⟨a1,c1,rfl⟩:=iK
 obtain ⟨a2,c2,rfl⟩:=hs2
 refine zcJ (s:=true) hk.ok rfl (zW4 ?_)
 refine zW3 ?_
 simp only [zA,zQG]
 have loop:∀ (m i:Nat),i+m=els1.length->∀ l,Own k l->znc true (KR E [.tmp 6] (fun x l=>x=iI (zCz cf els1.length els2.length m i)/\k.next<=l.wm)) (.slice a1 els1.length c1) (.slice a2 els2.length c2) f (.slice a1 els1.length c1) (iI (els1.length:Int)) (iI (i:Int)) l:=by
  intro m
  induction m with
  | zero=>
   intro i hi l hl
   refine zLs ?_
   simp only [zZ,zA,zAM]
   refine ⟨fun h=>by omega,fun _=>zQv ?_⟩
   simp only [zA,zM7,zM6,zZ,zAM]
   have:=hl.wm
   refine ⟨fun h=>zQu ?_,fun h=>zQt ?_⟩
   ·have h':els1.length<els2.length:=by omega
    simp [zA,zAS,zX,zCz,h',this]
   ·have h':¬ els1.length<els2.length:=by omega
    simp [zA,zAS,zX,zCz,h',this]
  | succ m ih=>
   intro i hi l hl
   have ai:i<els1.length:=by omega
   refine zLs ?_
   simp only [zZ,zA,zAM]
   refine ⟨fun _=>zW2 ?_,fun h=>by omega⟩
   obtain ⟨b,o,c,vs,ty,es,ro,hv,hb,ab,aU,hz,ba⟩:=ha1.load (List.getElem?_eq_getElem ai)
   simp only [Value.slice.injEq] at hv
   obtain ⟨bk,_,eT⟩:=hv
   subst bk
   have gb:l.get b=some (.row vs ty es ro):=(hl.ext.get b (Nat.lt_of_lt_of_le ab hk.next)).trans ((hk.get b ab).trans hb)
   simp only [zA,zUA ai,zV zCK gb aU,hz,zdJ,zg,zK,zT]
   have eA:=hl.ext.next
   rw [z7 (P:=E) zKh (zI l _) (zT _) ba (by simp) (iT i _ (List.getElem?_eq_getElem ai))]
   simp only [zK]
   refine zW1 ?_
   simp only [zA,zQF,zAa,zAM]
   have o1:=(hl.new (rO [iI 0,iI 0,.slice none 0 0] 173)).upd (b:=l.next) eA (some (rO (lput [iI 0,iI 0,.slice none 0 0] 0 els1[i]) 173))
   have t1:((l.new (rO [iI 0,iI 0,.slice none 0 0] 173)).upd l.next (some (rO (lput [iI 0,iI 0,.slice none 0 0] 0 els1[i]) 173))).get l.next=some (rO (lput [iI 0,iI 0,.slice none 0 0] 0 els1[i]) 173):=zO _ _ _
   have n1:((l.new (rO [iI 0,iI 0,.slice none 0 0] 173)).upd l.next (some (rO (lput [iI 0,iI 0,.slice none 0 0] 0 els1[i]) 173))).next=l.next+1:=rfl
   have cO:∀ (e:List Value),e.length=3->lput [iI 0,iI 0,.slice none 0 0] 0 e=e:=by
    intro e he
    match e,he with
    | [x,y,z],_=>rfl
   rw [cO _ ba] at o1 t1 n1
   rw [cO _ ba]
   generalize ((l.new (rO [iI 0,iI 0,.slice none 0 0] 173)).upd l.next (some (.row els1[i] 173 0 false)))=l1 at o1 t1 n1
   refine ⟨fun h=>zW0 ?_,fun h=>zWz ?_⟩
   ·have h':els2.length<=i:=by omega
    simp [zA,zAS,zX,zCz,h',o1.wm]
   ·have cF:i<els2.length:=by omega
    obtain ⟨b',o',c',vs',ty',es',ro',aC,ao,aD,bO,bI,bH⟩:=ha2.load (List.getElem?_eq_getElem cF)
    simp only [Value.slice.injEq] at aC
    obtain ⟨dx,_,hv3'⟩:=aC
    subst dx
    have gb':l1.get b'=some (.row vs' ty' es' ro'):=(o1.ext.get b' (Nat.lt_of_lt_of_le aD hk.next)).trans ((hk.get b' aD).trans ao)
    simp only [zA,zUA cF,zV zCK gb' bO,bI,zdJ,zg,zK,zT]
    rw [z7 (P:=E) zKh (zI l1 _) (zT _) bH (by simp) (hlf2 i _ (List.getElem?_eq_getElem cF))]
    simp only [zK]
    refine zWy ?_
    rw [cO _ bH]
    have o2:=(o1.new (rO [iI 0,iI 0,.slice none 0 0] 173)).upd (b:=l1.next) (by omega) (some (.row els2[i] 173 0 false))
    have t2:((l1.new (rO [iI 0,iI 0,.slice none 0 0] 173)).upd l1.next (some (.row els2[i] 173 0 false))).get l1.next=some (.row els2[i] 173 0 false):=zO _ _ _
    have t1':((l1.new (rO [iI 0,iI 0,.slice none 0 0] 173)).upd l1.next (some (.row els2[i] 173 0 false))).get l.next=some (.row els1[i] 173 0 false):=by rw [zW (by omega),zL (by omega)];exact t1
    generalize ((l1.new (rO [iI 0,iI 0,.slice none 0 0] 173)).upd l1.next (some (.row els2[i] 173 0 false)))=l2 at o2 t2 t1'
    have la:=zV (P:=E) zCK (o:=0) t1' (by omega)
    have lb:=zV (P:=E) zCK (o:=0) t2 (by omega)
    rw [List.drop_zero,List.take_of_length_le (by omega)] at la lb
    simp only [zA,la,lb,hf l2 (hk.trans o2.ext) i _ _ (List.getElem?_eq_getElem ai) (List.getElem?_eq_getElem cF),zP]
    refine zWx ?_
    have h':¬ els2.length<=i:=by omega
    simp only [zA,zAp,zKK]
    refine ⟨fun hc=>zWw ?_,fun hc=>zQw ?_⟩
    ·simp [zA,zAS,zX,zCz,h',hc,o2.wm]
    ·simp only [zAD _ (zEA ai hn),zA]
     have:=ih (i+1) (by omega) l2 o2
     simp only [zCz,h',if_false,hc,ne_eq,not_true]
     simpa using this
 exact loop els1.length 0 (by omega) _ (Own.fresh k)
theorem zw (w:Bool) (x:Option Value):gdB undef w x=some undef:=rfl
theorem zx (w:Bool) (x:R (Value×AH)) (h:AH):gdW undef w x h=one (undef,h):=rfl
mutual
def zKB:GT->GT->Int
 | .mk k n l,.mk k' n' l'=>if orI [c3 k k',c3 n n',c3 l.length l'.length]≠0 then orI [c3 k k',c3 n n',c3 l.length l'.length] else zD9 l l'
def zD9:List GT->List GT->Int
 | [],[]=>0
 | [],_::_=>-1
 | _::_,[]=>1
 | t::ts,u::us=>if zKB t u≠0 then zKB t u else zD9 ts us
end
def zNi (ts us:List GT) (i:Nat):Int:=match ts[i]?,us[i]? with
 | some t,some u=>zKB t u
 | _,_=>0
theorem zGL (ts us:List GT):∀ (m i:Nat),i+m=ts.length->zCz (zNi ts us) ts.length us.length m i=(if i<=us.length then zD9 (ts.drop i) (us.drop i) else if m=0 then 0 else 1)
 | 0,i,h=>by
  have ht:ts.drop i=[]:=List.drop_eq_nil_of_le (by omega)
  simp only [zCz,ht]
  by_cases hi:i<=us.length
  ·rw [if_pos hi]
   cases hu:us.drop i with
   | nil=>
    have:=List.drop_eq_nil_iff.1 hu
    rw [if_neg (by omega)];rfl
   | cons u us'=>
    have:i<us.length:=by
     rcases Nat.lt_or_ge i us.length with h'|h'
     ·exact h'
     ·rw [List.drop_eq_nil_of_le h'] at hu;cases hu
    rw [if_pos (by omega)];rfl
  ·rw [if_neg hi,if_neg (by omega)];rfl
 | m+1,i,h=>by
  have ab:i<ts.length:=by omega
  simp only [zCz]
  by_cases hi:us.length<=i
  ·rw [if_pos hi]
   by_cases he:i<=us.length
   ·rw [if_pos he]
    have hu:us.drop i=[]:=List.drop_eq_nil_of_le hi
    rw [hu,List.drop_eq_getElem_cons ab];rfl
   ·rw [if_neg he];simp
  ·rw [if_neg hi,if_pos (show i<=us.length by omega)]
   have hui:i<us.length:=by omega
   rw [List.drop_eq_getElem_cons ab,List.drop_eq_getElem_cons hui]
   have bA:zNi ts us i=zKB ts[i] us[i]:=by unfold zNi;rw [List.getElem?_eq_getElem ab,List.getElem?_eq_getElem hui]
   rw [bA]
   simp only [zD9]
   rw [zGL ts us m (i+1) (by omega),if_pos (show i+1<=us.length by omega)]
def zVD (h0:AH) (kk nn:Int) (v:Value) (l:List GT):Prop:=∀ (k:AH) (kk' nn':Int) (v':Value) (l':List GT),RT h0 v' l'->Ext h0 k->
 (zY E).call 219 [.agg #[iI kk,iI nn,v],.agg #[iI kk',iI nn',v']] k=some [(iI (zKB (.mk kk nn l) (.mk kk' nn' l')),k)]
theorem RC.leafs {h:AH} {els:List (List Value)} {ts:List GT} (hc:RC h els ts) (i:Nat) (e:List Value) (he:els[i]?=some e):e.all zq=true:=by
 obtain ⟨k,n,v,l,rfl,hv,_⟩:=RC.at hc i e he
 have:=zDi hv
 simp [zq];exact this
mutual
theorem zSy {h0:AH}:∀ {v:Value} {l:List GT},RT h0 v l->∀ (kk nn:Int),zVD h0 kk nn v l
 | v,l,.mk (els:=els) ha hn hc,kk,nn=>by
  intro k kk' nn' v' l' bE hk
  have be:RT h0 v l:=.mk ha hn hc
  have dN:=zOI hc
  have hlen:=RC.length hc
  obtain ⟨sa,sc,hv⟩:=be.slice
  obtain ⟨sa',sc',aC⟩:=bE.slice
  subst hv
  subst aC
  refine zcS (s:=true) hk.ok rfl (zX1 ?_)
  simp only [zg,zK,zT,zA]
  refine zX0 ?_
  have o1:=((Own.fresh k).new (rO [iI kk,iI nn,.slice sa l.length sc] 173)).new (rO [iI kk',iI nn',.slice sa' l'.length sc'] 173)
  have t1:((k.fresh.new (rO [iI kk,iI nn,.slice sa l.length sc] 173)).new (rO [iI kk',iI nn',.slice sa' l'.length sc'] 173)).get k.next=some (rO [iI kk,iI nn,.slice sa l.length sc] 173):=by
   rw [zL (by simp)];exact zI k.fresh _
  have t2:((k.fresh.new (rO [iI kk,iI nn,.slice sa l.length sc] 173)).new (rO [iI kk',iI nn',.slice sa' l'.length sc'] 173)).get (k.next+1)=some (rO [iI kk',iI nn',.slice sa' l'.length sc'] 173):=zI (k.fresh.new _) _
  have n1:((k.fresh.new (rO [iI kk,iI nn,.slice sa l.length sc] 173)).new (rO [iI kk',iI nn',.slice sa' l'.length sc'] 173)).next=k.next+2:=rfl
  simp only [zb,AH.next_new]
  generalize ((k.fresh.new (rO [iI kk,iI nn,.slice sa l.length sc] 173)).new (rO [iI kk',iI nn',.slice sa' l'.length sc'] 173))=k1 at o1 t1 t2 n1
  have l0:=zF (P:=E) zAb (o:=0) t1
  have l1:=zF (P:=E) zAb (o:=1) t1
  have l2:=zF (P:=E) zDd (o:=2) t1
  have m0:=zF (P:=E) zAb (o:=0) t2
  have m1:=zF (P:=E) zAb (o:=1) t2
  have m2:=zF (P:=E) zDd (o:=2) t2
  simp only [lnth] at l0 l1 l2 m0 m1 m2
  simp only [zFm,zFl,zAf,Nat.add_zero,Nat.zero_add,l0,l1,l2,m0,m1,m2,zA,zNB,zNA,zQ,zI5 o1.ext.ok,zP,zCm,zDM,true_and,zhv,zK]
  rw [or3 o1.ext.ok]
  simp only [zP,zA]
  refine zXz ?_
  have o2:=o1.new (rO [iI (c3 kk kk'),iI (c3 nn nn'),iI (c3 l.length l'.length)] 3)
  have s1:(k1.new (rO [iI (c3 kk kk'),iI (c3 nn nn'),iI (c3 l.length l'.length)] 3)).get k.next=_:=(zL (by omega)).trans t1
  have s2:(k1.new (rO [iI (c3 kk kk'),iI (c3 nn nn'),iI (c3 l.length l'.length)] 3)).get (k.next+1)=_:=(zL (by omega)).trans t2
  simp only [zA,zAp,zKK]
  show (_->zno _ _ _ (k1.new (rO [iI (c3 kk kk'),iI (c3 nn nn'),iI (c3 l.length l'.length)] 3)))/\(_->znn _ _ _ _ (k1.new (rO [iI (c3 kk kk'),iI (c3 nn nn'),iI (c3 l.length l'.length)] 3)))
  generalize (k1.new (rO [iI (c3 kk kk'),iI (c3 nn nn'),iI (c3 l.length l'.length)] 3))=k2 at o2 s1 s2
  refine ⟨fun h=>zXy ?_,fun h=>zXx ?_⟩
  ·have h':orI [c3 kk kk',c3 nn nn',c3 l.length l'.length]≠0:=h
   simp only [zA,zAS,zX,true_and,zKB,if_pos h']
   exact ⟨rfl,o2.wm⟩
  ·have h':¬ orI [c3 kk kk',c3 nn nn',c3 l.length l'.length]≠0:=fun hc=>hc h
   have p2:=zF (P:=E) zDd (o:=2) s1
   have q2:=zF (P:=E) zDd (o:=2) s2
   simp only [lnth] at p2 q2
   cases bE with
   | @mk _ els' _ cS hn' aF=>
    have c7:=RC.length aF
    have:=zUf (h0:=h0) (f:=.func (.func 219) #[] #[]) (cf:=zNi l l') ha cS hn (RC.leafs hc) (RC.leafs aF) (fun k3 hk3 i e1 e2 he1 fN=>by
     obtain ⟨ck,cn,cv,cl,q1,q2',q3,q4⟩:=dN i e1 he1
     obtain ⟨dk,dn,dv,dl,r1,r2,r3⟩:=RC.at aF i e2 fN
     subst q1
     subst r1
     have:=q4 k3 dk dn dv dl r2 hk3
     simp only [zQ,zNi,q3,r3]
     exact this) (hk.trans o2.ext)
    simp only [zAf,Nat.zero_add,p2,q2,zA,zQ,this,zP,zAS,zX,true_and,zKB,if_neg h']
    refine ⟨?_,o2.wm⟩
    rw [hlen,c7,zGL _ _ _ _ (by omega),if_pos (Nat.zero_le _)]
    simp
theorem zOI {h0:AH}:∀ {els:List (List Value)} {ts:List GT},RC h0 els ts->∀ (i:Nat) (e:List Value),els[i]?=some e->
  ∃ (k n:Int) (v:Value) (l:List GT),e=[iI k,iI n,v]/\RT h0 v l/\ts[i]?=some (.mk k n l)/\zVD h0 k n v l
 | _,_,.nil,i,e,h=>by simp at h
 | _,_,.cons hv hs,0,e,h=>by simp at h;exact ⟨_,_,_,_,h.symm,hv,rfl,zSy hv _ _⟩
 | _,_,.cons hv hs,i+1,e,h=>by
  simp only [List.getElem?_cons_succ] at h
  obtain ⟨k,n,v,l,a,b,c,d⟩:=zOI hs i e h
  exact ⟨k,n,v,l,a,b,by simpa using c,d⟩
end
theorem zjn {h0 k:AH} {v v':Value} {l l':List GT} (hr:RT h0 v l) (bE:RT h0 v' l') (hk:Ext h0 k):(zY E).call 218 [v,v',.func (.func 219) #[] #[]] k=some [(iI (zD9 l l'),k)]:=by
 refine zcT (s:=true) hk.ok rfl (zX3 ?_)
 refine zX2 ?_
 cases hr with
 | @mk _ els _ ha hn hc=>
 cases bE with
 | @mk _ els' _ cS hn' aF=>
  have hlen:=RC.length hc
  have c7:=RC.length aF
  have:=zUf (h0:=h0) (f:=.func (.func 219) #[] #[]) (cf:=zNi l l') ha cS hn (RC.leafs hc) (RC.leafs aF) (fun k3 hk3 i e1 e2 he1 fN=>by
   obtain ⟨ck,cn,cv,cl,q1,q2',q3⟩:=RC.at hc i e1 he1
   obtain ⟨dk,dn,dv,dl,r1,r2,r3⟩:=RC.at aF i e2 fN
   subst q1
   subst r1
   have:=zSy q2' ck cn k3 dk dn dv dl r2 hk3
   simp only [zQ,zNi,q3,r3]
   exact this) hk.fresh
  simp only [zA,zQ,this,zP,zAS,zX,true_and]
  refine ⟨?_,by simp⟩
  rw [hlen,c7,zGL _ _ _ _ (by omega),if_pos (Nat.zero_le _)]
  simp
def zCY (g:Int) (l:List GT) (g':Int) (l':List GT):Int:=orI [c3 g g',zD9 l l']
theorem zNr {h0 k:AH} {g g':Int} {v v':Value} {l l':List GT} (hr:RT h0 v l) (bE:RT h0 v' l') (hk:Ext h0 k) :
  (zY E).call 168 [.agg #[iI g,v],.agg #[iI g',v']] k=some [(iI (zCY g l g' l'),k)]:=by
 obtain ⟨sa,sc,hv⟩:=hr.slice
 obtain ⟨sa',sc',aC⟩:=bE.slice
 subst hv
 subst aC
 refine zci (s:=true) hk.ok rfl (zZF ?_)
 simp only [zg,zK,zT,zA]
 refine zZE ?_
 have o1:=((Own.fresh k).new (rO [iI g,.slice sa l.length sc] 36)).new (rO [iI g',.slice sa' l'.length sc'] 36)
 have t1:((k.fresh.new (rO [iI g,.slice sa l.length sc] 36)).new (rO [iI g',.slice sa' l'.length sc'] 36)).get k.next=some (rO [iI g,.slice sa l.length sc] 36):=by
  rw [zL (by simp)];exact zI k.fresh _
 have t2:((k.fresh.new (rO [iI g,.slice sa l.length sc] 36)).new (rO [iI g',.slice sa' l'.length sc'] 36)).get (k.next+1)=some (rO [iI g',.slice sa' l'.length sc'] 36):=zI (k.fresh.new _) _
 simp only [zb,AH.next_new]
 generalize ((k.fresh.new (rO [iI g,.slice sa l.length sc] 36)).new (rO [iI g',.slice sa' l'.length sc'] 36))=k1 at o1 t1 t2
 have l0:=zF (P:=E) zAb (o:=0) t1
 have l1:=zF (P:=E) zDd (o:=1) t1
 have m0:=zF (P:=E) zAb (o:=0) t2
 have m1:=zF (P:=E) zDd (o:=1) t2
 simp only [lnth] at l0 l1 m0 m1
 simp only [zBg,zCB,Nat.add_zero,Nat.zero_add,l0,l1,m0,m1,zA,zQ,zI5 o1.ext.ok,zP,zDM,true_and,zjn hr bE (hk.trans o1.ext),zhw,zK]
 rw [or2 o1.ext.ok]
 simp only [zP,zAS,zX,true_and]
 exact ⟨rfl,o1.wm⟩
theorem zjp {h0 k:AH} {kk nn:Int} {v:Value} {l:List GT} (hr:RT h0 v l) (hk:Ext h0 k):(zY E).call 216 [.agg #[iI kk,iI nn,v]] k=some [(.bool (!zGB (.mk kk nn l)),k)]:=by
 refine zcV (s:=true) hk.ok rfl (zYC ?_)
 simp only [zg,zK,zT,zA]
 refine zYB ?_
 have o1:=(Own.fresh k).new (rO [iI kk,iI nn,v] 173)
 have t1:=zI k.fresh (rO [iI kk,iI nn,v] 173)
 simp only [zb] at t1 ⊢
 generalize k.fresh.new (rO [iI kk,iI nn,v] 173)=k1 at o1 t1
 have lt:=zV (P:=E) zCK (o:=0) t1 (by simp)
 simp only [List.drop_zero,List.take] at lt
 simp only [lt,zA,zQ,zjo hr (hk.trans o1.ext),zP,z6,zAS,zX,true_and]
 exact o1.wm
def zSV (g:Int):Bool:=decide (g=-3)||decide (g=-1)
def zA6 (g:Int) (l:List GT):Bool:=decide (g < -3)||decide (32<=g)||decide (8<l.length)||(zSV g&&decide (0<l.length))||decide (0<=zAQ (zOP l zGB) l.length 0)
theorem zjx {h0 k:AH} {g:Int} {v:Value} {l:List GT} (hr:RT h0 v l) (hk:Ext h0 k):(zY E).call 167 [.agg #[iI g,v]] k=some [(iI (if zA6 g l then 170 else 0),k)]:=by
 refine zcj (s:=true) hk.ok rfl (zZK ?_)
 have hr0:=hr
 obtain ⟨sa,sc,hv⟩:=hr.slice
 subst hv
 simp only [zg,zK,zT,zA]
 refine zZJ ?_
 have o1:=(Own.fresh k).new (rO [iI g,.slice sa l.length sc] 36)
 have t1:=zI k.fresh (rO [iI g,.slice sa l.length sc] 36)
 simp only [zb] at t1 ⊢
 generalize k.fresh.new (rO [iI g,.slice sa l.length sc] 36)=k1 at o1 t1
 have l0:=zF (P:=E) zAb (o:=0) t1
 have l1:=zF (P:=E) zDd (o:=1) t1
 simp only [lnth] at l0 l1
 have hb:znw true (KR E [.tmp 2] (fun x m=>x=iI (if zA6 g l then 170 else 0)/\k.next<=m.wm)) (.pointer (some ⟨k.next,0,none⟩)) (.bool (zSV g)) k1:=by
  refine zZI ?_
  have fR:(zY E).call 215 [.slice sa l.length sc,.func (.func 216) #[] #[]] k1=some [(.bool (decide (0<=zAQ (zOP l zGB) l.length 0)),k1)]:=by
   cases hr0 with
   | @mk _ els _ ha hn hc=>
    have:=zUg (h0:=h0) (f:=.func (.func 216) #[] #[]) (p:=zOP l zGB) ha hn (fun k2 hk2 i e he=>by
     obtain ⟨ck,cn,cv,cl,q1,q2,q3⟩:=RC.at hc i e he
     subst q1
     simp only [zQ,zOP,q3]
     exact zjp q2 hk2) (hk.trans o1.ext)
    rw [RC.length hc] at this
    exact this
  have aH:∀ b:Bool,(BrK (some (.bool b)) (znv true (KR E [.tmp 2] (fun x m=>x=iI (if b then 170 else 0)/\k.next<=m.wm)) k1) (znu true (KR E [.tmp 2] (fun x m=>x=iI (if b then 170 else 0)/\k.next<=m.wm)) k1)):=by
   intro b
   cases b with
   | true=>
    rw [zz]
    refine zZH ?_
    simp [zA,zAS,zX,o1.wm]
   | false=>
    rw [zj]
    refine zZG ?_
    simp [zA,zAS,zX,o1.wm]
  have hE:=aH (zA6 g l)
  simp only [zBg,zCB,Nat.add_zero,Nat.zero_add,l0,zA,zZ,zM,zJ]
  by_cases c1:g < -3
  ·simpa [zA6,c1,zA,zM,zU,zw,zx,zJ,zK] using hE
  ·by_cases c2:32<=g
   ·simpa [zA6,c1,c2,l0,zBg,zAa,zA,zM,zU,zw,zx,zJ,zK] using hE
   ·by_cases c3:8<l.length
    ·have c3':(8:Int)<l.length:=by omega
     simpa [zA6,c1,c2,c3,c3',l0,l1,zBg,zCB,zAa,zAK,zDk,zA,zM,zU,zw,zx,zJ,zK] using hE
    ·have c3':¬ (8:Int)<l.length:=by omega
     by_cases c4:zSV g=true
     ·by_cases c5:0<l.length
      ·have c5':(0:Int)<l.length:=by omega
       simpa [zA6,c1,c2,c3,c3',c4,c5,c5',l0,l1,zBg,zCB,zAa,zAK,zDk,zE5,zA,zM,zU,zw,zx,zJ,zK,fR,zP,zQ] using hE
      ·have c5':¬ (0:Int)<l.length:=by omega
       simpa [zA6,c1,c2,c3,c3',c4,c5,c5',l0,l1,zBg,zCB,zAa,zAK,zDk,zE5,zA,zM,zU,zw,zx,zJ,zK,fR,zP,zQ] using hE
     ·simpa [zA6,c1,c2,c3,c3',c4,l0,l1,zBg,zCB,zAa,zAK,zDk,zE5,zA,zM,zU,zw,zx,zJ,zK,fR,zP,zQ] using hE
 simp only [zBg,Nat.add_zero,l0,zA,zAg,zM]
 by_cases c1:g=-3
 ·simp only [c1,decide_true,show ((true==false)=false) from rfl,cond_false,zA,zJ,cond_true]
  simpa [zSV,c1] using hb
 ·by_cases c2:g=-1
  ·simp only [c1,c2,decide_true,decide_false,show ((false==false)=true) from rfl,cond_false,zA,zJ,cond_true,zBg,Nat.add_zero,l0,zAg]
   simpa [zSV,c1,c2,l0,zA,zAg] using hb
  ·simp only [c1,c2,decide_true,decide_false,show ((false==false)=true) from rfl,cond_false,zA,zJ,cond_true,zBg,Nat.add_zero,l0,zAg]
   simpa [zSV,c1,c2,l0,zA,zAg] using hb
end Go.Proofs
namespace Go.Proofs
open Go Go.AM
set_option maxRecDepth 100000
set_option maxHeartbeats 2000000
structure GL where
 n:Int
 labs:List (Int×List GT)
 eds:List (Int×Int×Int)
inductive RLab (h:AH):List (List Value)->List (Int×List GT)->Prop
 | nil:RLab h [] []
 | cons {g:Int} {v:Value} {l:List GT} {els:List (List Value)} {ls:List (Int×List GT)} (hv:RT h v l) (hs:RLab h els ls):RLab h ([iI g,v]::els) ((g,l)::ls)
def zm (e:Int×Int×Int):List Value:=[iI e.1,iI e.2.1,iI e.2.2]
structure RL (h:AH) (x:Value) (L:GL):Prop where
 ex:∃ vl ve elsL,x=.agg #[iI L.n,vl,ve]/\Arr h 2 vl elsL/\RLab h elsL L.labs/\Arr h 3 ve (L.eds.map zm)
theorem RLab.ext {h k:AH} (e:Ext h k):∀ {els:List (List Value)} {ls:List (Int×List GT)},RLab h els ls->RLab k els ls
 | _,_,.nil=>.nil
 | _,_,.cons hv hs=>.cons (hv.ext e) (RLab.ext e hs)
theorem RLab.length {h:AH}:∀ {els:List (List Value)} {ls:List (Int×List GT)},RLab h els ls->els.length=ls.length
 | _,_,.nil=>rfl
 | _,_,.cons _ hs=>by simp [RLab.length hs]
theorem RLab.at {h:AH}:∀ {els:List (List Value)} {ls:List (Int×List GT)},RLab h els ls->∀ (i:Nat) (e:List Value),els[i]?=some e->∃ (g:Int) (v:Value) (l:List GT),e=[iI g,v]/\RT h v l/\ls[i]?=some (g,l)
 | _,_,.nil,i,e,h=>by simp at h
 | _,_,.cons hv hs,0,e,h=>by simp at h;exact ⟨_,_,_,h.symm,hv,rfl⟩
 | _,_,.cons hv hs,i+1,e,h=>by simp only [List.getElem?_cons_succ] at h;obtain ⟨g,v,l,a,b,c⟩:=RLab.at hs i e h;exact ⟨g,v,l,a,b,by simpa using c⟩
theorem RL.ext {h k:AH} {x:Value} {L:GL} (r:RL h x L) (e:Ext h k):RL k x L:=by
 obtain ⟨vl,ve,els,a,b,c,d⟩:=r.ex
 exact ⟨vl,ve,els,a,b.ext e,c.ext e,d.ext e⟩
theorem Arr.slice {h:AH} {z:Nat} {v:Value} {els:List (List Value)} (a:Arr h z v els):∃ ad c,v=.slice ad els.length c:=by
 cases a with
 | nil a c=>exact ⟨a,c,rfl⟩
 | row=>exact ⟨_,_,rfl⟩
theorem zNq {k:AH} {a b:Int} (aa:k.ok):(zY E).call 169 [iI a,iI b] k=some [(.bool (decide (0<=a)&&decide (a<b)),k)]:=by
 refine zch (s:=true) aa rfl (zZD ?_)
 refine zZC ?_
 simp only [zA,zAa,zM]
 by_cases c1:0<=a
 ·simp [c1,zA,zZ,zJ,zAS,zX]
 ·simp [c1,zA,zZ,zJ,zAS,zX]
def zUX (e f:Int×Int×Int):Int:=orI [c3 e.1 f.1,c3 e.2.1 f.2.1,c3 e.2.2 f.2.2]
theorem zjw {k:AH} {e f:Int×Int×Int} (aa:k.ok):(zY E).call 170 [.agg ⟨zm e⟩,.agg ⟨zm f⟩] k=some [(iI (zUX e f),k)]:=by
 refine zcg (s:=true) aa rfl (zZB ?_)
 simp only [zg,zK,zT,zA]
 refine zZA ?_
 have o1:=((Own.fresh k).new (rO (zm e) 52)).new (rO (zm f) 52)
 have t1:((k.fresh.new (rO (zm e) 52)).new (rO (zm f) 52)).get k.next=some (rO (zm e) 52):=by
  rw [zL (by simp)];exact zI k.fresh _
 have t2:((k.fresh.new (rO (zm e) 52)).new (rO (zm f) 52)).get (k.next+1)=some (rO (zm f) 52):=zI (k.fresh.new _) _
 simp only [zb,AH.next_new]
 generalize ((k.fresh.new (rO (zm e) 52)).new (rO (zm f) 52))=k1 at o1 t1 t2
 have l0:=zF (P:=E) zAb (o:=0) t1
 have l1:=zF (P:=E) zAb (o:=1) t1
 have l2:=zF (P:=E) zAb (o:=2) t1
 have m0:=zF (P:=E) zAb (o:=0) t2
 have m1:=zF (P:=E) zAb (o:=1) t2
 have m2:=zF (P:=E) zAb (o:=2) t2
 simp only [lnth,zm] at l0 l1 l2 m0 m1 m2
 simp only [zEJ,zEI,zE7,Nat.add_zero,Nat.zero_add,l0,l1,l2,m0,m1,m2,zA,zQ,zI5 o1.ext.ok,zP,zCm,true_and,zhv,zK]
 rw [or3 o1.ext.ok]
 simp only [zP,zA,zAS,zX,true_and]
 exact ⟨rfl,o1.wm⟩
def zBE (ls:List (Int×List GT)) (i:Nat):Bool:=match ls[i]? with
 | some x=>zA6 x.1 x.2||(decide (0<i)&&match ls[i-1]? with
  | some y=>decide (0<=zCY y.1 y.2 x.1 x.2)
  | none=>false)
 | none=>false
def zBS (n m:Int) (es:List (Int×Int×Int)) (i:Nat):Bool:=match es[i]? with
 | some e=>!(decide (0<=e.1)&&decide (e.1<n))||!(decide (0<=e.2.2)&&decide (e.2.2<n))||!(decide (0<=e.2.1)&&decide (e.2.1<m))||(decide (0<i)&&match es[i-1]? with
  | some f=>decide (0<=zUX f e)
  | none=>false)
 | none=>false
def zAI (p:Nat->Bool):Nat->Nat->Bool
 | 0,_=>false
 | m+1,i=>p i||zAI p m (i+1)
theorem zBO {p:Nat->Bool}:∀ {m i:Nat},zAI p m i=false->∀ j,i<=j->j<i+m->p j=false
 | 0,i,_,j,h1,h2=>by omega
 | m+1,i,h,j,h1,h2=>by
  simp only [zAI,Bool.or_eq_false_iff] at h
  by_cases e:j=i
  ·rw [e];exact h.1
  ·exact zBO h.2 j (by omega) (by omega)
def zBC (L:GL):Bool:=decide (L.n<1)||decide (20000<L.n)||decide (4000<L.labs.length)||decide (100000<L.eds.length)
def zy (L:GL):Bool:=zBC L||zAI (zBE L.labs) L.labs.length 0||zAI (zBS L.n L.labs.length L.eds) L.eds.length 0
abbrev kf8 (k:AH) (b:Bool):KF:=KR E [.tmp 2] (fun x m=>x=iI (if b then 8 else 0)/\k.next<=m.wm)
theorem zq0:∀ (e:List Value),e.length=2->lput [iI 0,.slice none 0 0] 0 e=e:=by
 intro e he
 match e,he with
 | [x,y],_=>rfl
theorem zpU:∀ (e:List Value),e.length=3->lput [iI 0,iI 0,iI 0] 0 e=e:=by
 intro e he
 match e,he with
 | [x,y,z],_=>rfl
theorem zpN {i:Nat} (h:0<i) (hi:i<=9223372036854775807) (t:TypeId):zC E .sub t (iI (i:Int)) (iI 1)=some (iI ((i-1:Nat):Int)):=by
 rw [zGf _ (by unfold zC3;omega)]
 congr 2;omega
theorem zkD {h0 k:AH} {x:Value} {L:GL} (hr:RL h0 x L) (hk:Ext h0 k):(zY E).call 121 [x] k=some [(iI (if zy L then 8 else 0),k)]:=by
 obtain ⟨vl,ve,elsL,hx,haL,hL,haE⟩:=hr.ex
 obtain ⟨aL,cL,bc⟩:=haL.slice
 obtain ⟨aE,cE,cI⟩:=haE.slice
 rw [RLab.length hL] at bc
 rw [List.length_map] at cI
 subst bc
 subst cI
 subst hx
 refine zc3 (s:=true) hk.ok rfl (zbY ?_)
 simp only [zg,zK,zT,zA]
 refine zbX ?_
 have o1:=(Own.fresh k).new (rO [iI L.n,.slice aL L.labs.length cL,.slice aE L.eds.length cE] 25)
 have t1:=zI k.fresh (rO [iI L.n,.slice aL L.labs.length cL,.slice aE L.eds.length cE] 25)
 simp only [zb] at t1 ⊢
 have n1:(k.fresh.new (rO [iI L.n,.slice aL L.labs.length cL,.slice aE L.eds.length cE] 25)).next=k.next+1:=rfl
 generalize k.fresh.new (rO [iI L.n,.slice aL L.labs.length cL,.slice aE L.eds.length cE] 25)=k1 at o1 t1 n1
 have box:∀ l,Ext k1 l->l.get k.next=some (rO [iI L.n,.slice aL L.labs.length cL,.slice aE L.eds.length cE] 25):=fun l hl=>(hl.get _ (by omega)).trans t1
 have edges:∀ (hs:zBC L=false) (m i:Nat),i+m=L.eds.length->∀ l,Ext k1 l->k.next<=l.wm->
   zkc true (kf8 k (zAI (zBS L.n L.labs.length L.eds) m i)) (.pointer (some ⟨k.next,0,none⟩)) (.func (.func 169) #[] #[]) (.slice aE L.eds.length cE) (iI (L.eds.length:Int)) (iI (i:Int)) l:=by
  intro hs m
  have aU:L.eds.length<=100000:=by simp [zBC] at hs;omega
  induction m with
  | zero=>
   intro i hi l hl hw
   refine zJN ?_
   simp only [zZ,zA,zAM]
   refine ⟨fun h=>by omega,fun _=>zRh ?_⟩
   simp [zA,zAS,zX,zAI,hw]
  | succ m ih=>
   intro i hi l hl hw
   have ai:i<L.eds.length:=by omega
   refine zJN ?_
   simp only [zZ,zA,zAM]
   refine ⟨fun _=>zRl ?_,fun h=>by omega⟩
   have bA:(L.eds.map zm)[i]?=some (zm L.eds[i]):=by simp [ai]
   obtain ⟨b,o,c,vs,ty,es,ro,hv,hb,ab,bK,hz,ba⟩:=haE.load bA
   simp only [Value.slice.injEq] at hv
   obtain ⟨bk,_,eT⟩:=hv
   subst bk
   have eG:Ext h0 l:=(hk.trans o1.ext).trans hl
   have gb:l.get b=some (.row vs ty es ro):=(eG.get b ab).trans hb
   simp only [zA,zi8 ai,zV zPl gb bK,hz,zo6,zg,zK,zT]
   rw [z7 (P:=E) ziQ (x:=.agg ⟨zm L.eds[i]⟩) (cs:=zm L.eds[i]) (zI l _) rfl ba (by simp) (by simp [zm,zq])]
   simp only [zK]
   rw [zpU _ ba]
   have eA:=hl.next
   have e2:=(hl.new (rO [iI 0,iI 0,iI 0] 52)).upd (b:=l.next) eA (some (rO (zm L.eds[i]) 52))
   have w2:k.next<=((l.new (rO [iI 0,iI 0,iI 0] 52)).upd l.next (some (rO (zm L.eds[i]) 52))).wm:=zAG (by rw [zDK];exact hw) (by omega)
   have t2:((l.new (rO [iI 0,iI 0,iI 0] 52)).upd l.next (some (rO (zm L.eds[i]) 52))).get l.next=some (rO (zm L.eds[i]) 52):=zO _ _ _
   have g2:((l.new (rO [iI 0,iI 0,iI 0] 52)).upd l.next (some (rO (zm L.eds[i]) 52))).get b=some (.row vs ty es ro):=by
    have h1:=hk.next
    have h2:=o1.ext.next
    rw [zW (by omega),zL (by omega)];exact gb
   generalize ((l.new (rO [iI 0,iI 0,iI 0] 52)).upd l.next (some (rO (zm L.eds[i]) 52)))=l2 at e2 w2 t2 g2
   refine zRk ?_
   have b2:=box l2 e2
   have ok2:=e2.ok
   have n0:=zF (P:=E) zAb (o:=0) b2
   have n1:=zF (P:=E) zG7 (o:=1) b2
   have n2:=zF (P:=E) zJc (o:=2) b2
   have c0:=zF (P:=E) zAb (o:=0) t2
   have c1:=zF (P:=E) zAb (o:=1) t2
   have c2:=zF (P:=E) zAb (o:=2) t2
   have ca:=zV (P:=E) zPl (o:=0) t2 (by simp [zm])
   rw [List.drop_zero,List.take_of_length_le (by simp [zm])] at ca
   simp only [lnth,zm] at n0 n1 n2 c0 c1 c2
   have aH:∀ bad:Bool,zBS L.n L.labs.length L.eds i=bad->(BrK (some (.bool bad)) (zkb true (kf8 k (zAI (zBS L.n L.labs.length L.eds) (m+1) i)) l2) (zka true (kf8 k (zAI (zBS L.n L.labs.length L.eds) (m+1) i)) (.pointer (some ⟨k.next,0,none⟩)) (.func (.func 169) #[] #[]) (.slice (some ⟨b,o,none⟩) L.eds.length cE) (iI (L.eds.length:Int)) (iI (i:Int)) l2)):=by
    intro bad a9
    cases bad with
    | true=>
     rw [zz]
     refine zRj ?_
     simp [zA,zAS,zX,w2,zAI,a9]
    | false=>
     rw [zj]
     refine zRi ?_
     simp only [zAD _ (zEA ai (by omega)),zA]
     have:=ih (i+1) (by omega) l2 e2 w2
     simp only [zAI,a9,Bool.false_or]
     simpa using this
   simp only [zEJ,zEI,zE7,zCD,Nat.add_zero,Nat.zero_add,n0,c0,c1,c2,zA,zQ,zNq ok2,zP,z6,zM,zU]
   have hatE:L.eds[i]?=some L.eds[i]:=List.getElem?_eq_getElem ai
   have q2:=zNq (k:=l2) (a:=L.eds[i].2.2) (b:=L.n) ok2
   have q3:=zNq (k:=l2) (a:=L.eds[i].2.1) (b:=(L.labs.length:Int)) ok2
   have bR:zBS L.n L.labs.length L.eds i=(!(decide (0<=L.eds[i].1)&&decide (L.eds[i].1<L.n))||!(decide (0<=L.eds[i].2.2)&&decide (L.eds[i].2.2<L.n))||!(decide (0<=L.eds[i].2.1)&&decide (L.eds[i].2.1<(L.labs.length:Int)))||(decide (0<i)&&match L.eds[i-1]? with
    | some f=>decide (0<=zUX f L.eds[i])
    | none=>false)):=by simp only [zBS,hatE]
   generalize (decide (0<=L.eds[i].1)&&decide (L.eds[i].1<L.n))=A at bR ⊢
   generalize (decide (0<=L.eds[i].2.2)&&decide (L.eds[i].2.2<L.n))=B at bR q2
   generalize (decide (0<=L.eds[i].2.1)&&decide (L.eds[i].2.1<(L.labs.length:Int)))=D at bR q3
   cases A with
   | false=>
    have:=aH true (by rw [bR];rfl)
    simpa only [Bool.not_false,Bool.not_true,beq_self_eq_true,show (true==false)=false from rfl,show (false==true)=false from rfl,cond_true,cond_false,zA,zP,z6,zM,zU,zw,zx,zJ,zK] using this
   | true=>
    simp only [Bool.not_false,Bool.not_true,beq_self_eq_true,show (true==false)=false from rfl,show (false==true)=false from rfl,cond_true,cond_false,zA,zP,z6,zM,zU,zJ,zK,zEJ,zEI,zE7,zCD,zBR,zCC,Nat.add_zero,Nat.zero_add,n0,n1,n2,c0,c1,c2,zQ,q2]
    cases B with
    | false=>
     have:=aH true (by rw [bR];rfl)
     simpa only [Bool.not_false,Bool.not_true,beq_self_eq_true,show (true==false)=false from rfl,show (false==true)=false from rfl,cond_true,cond_false,zA,zP,z6,zM,zU,zw,zx,zJ,zK] using this
    | true=>
     simp only [Bool.not_false,Bool.not_true,beq_self_eq_true,show (true==false)=false from rfl,show (false==true)=false from rfl,cond_true,cond_false,zA,zP,z6,zM,zU,zJ,zK,zEJ,zEI,zE7,zCD,zBR,zCC,Nat.add_zero,Nat.zero_add,n0,n1,n2,c0,c1,c2,zQ,zLC,q3]
     cases D with
     | false=>
      have:=aH true (by rw [bR];rfl)
      simpa only [Bool.not_false,Bool.not_true,beq_self_eq_true,show (true==false)=false from rfl,show (false==true)=false from rfl,cond_true,cond_false,zA,zP,z6,zM,zU,zw,zx,zJ,zK] using this
     | true=>
      simp only [Bool.not_false,Bool.not_true,beq_self_eq_true,show (true==false)=false from rfl,show (false==true)=false from rfl,cond_true,cond_false,zA,zP,z6,zM,zU,zJ,zK,zAK]
      by_cases d4:0<i
      ·have d4':(0:Int)<i:=by omega
       have aO:i-1<L.eds.length:=by omega
       have gR:(L.eds.map zm)[i-1]?=some (zm L.eds[i-1]):=by simp [aO]
       obtain ⟨b',o',c',vs',ty',es',ro',aC,ao,aD,c8,bI,bH⟩:=haE.load gR
       simp only [Value.slice.injEq] at aC
       obtain ⟨dx,_,_⟩:=aC
       cases dx
       rw [hb] at ao
       cases ao
       have aI:zBS L.n L.labs.length L.eds i=decide (0<=zUX L.eds[i-1] L.eds[i]):=by rw [bR,List.getElem?_eq_getElem aO];simp [d4]
       have:=aH (decide (0<=zUX L.eds[i-1] L.eds[i])) aI
       simpa only [d4',zAK,decide_true,Bool.not_false,Bool.not_true,beq_self_eq_true,show (true==false)=false from rfl,show (false==true)=false from rfl,cond_true,cond_false,zA,zP,z6,zM,zU,zJ,zK,zCC,Nat.zero_add,n2,zpN d4 (by omega:i<=9223372036854775807),zi8 aO,zV zPl g2 c8,bI,ca,zQ,zjw ok2,zAa] using this
      ·have d4':¬ (0:Int)<i:=by omega
       have:=aH false (by rw [bR];simp [d4])
       simpa only [d4',zAK,decide_false,Bool.not_false,Bool.not_true,beq_self_eq_true,show (true==false)=false from rfl,show (false==true)=false from rfl,cond_true,cond_false,zA,zP,z6,zM,zU,zw,zx,zJ,zK] using this
 have labels:∀ (hs:zBC L=false) (m i:Nat),i+m=L.labs.length->∀ l,Ext k1 l->k.next<=l.wm->
   zoU true (kf8 k (zAI (zBE L.labs) m i||zAI (zBS L.n L.labs.length L.eds) L.eds.length 0)) (.pointer (some ⟨k.next,0,none⟩)) (.slice aL L.labs.length cL) (iI (L.labs.length:Int)) (iI (i:Int)) l:=by
  intro hs m
  have aU:L.labs.length<=4000:=by simp [zBC] at hs;omega
  induction m with
  | zero=>
   intro i hi l hl hw
   refine zMR ?_
   simp only [zZ,zA,zAM]
   refine ⟨fun h=>by omega,fun _=>zbQ ?_⟩
   refine zRm ?_
   have b2:=box l hl
   have n2:=zF (P:=E) zJc (o:=2) b2
   simp only [lnth] at n2
   simp only [zCC,Nat.zero_add,n2,zA,zNH]
   have:=edges hs L.eds.length 0 (by omega) l hl hw
   simpa [zAI] using this
  | succ m ih=>
   intro i hi l hl hw
   have ai:i<L.labs.length:=by omega
   have cF:i<elsL.length:=by rw [RLab.length hL];exact ai
   refine zMR ?_
   simp only [zZ,zA,zAM]
   refine ⟨fun _=>zbU ?_,fun h=>by omega⟩
   obtain ⟨g,v,lt,bz,be,hatL⟩:=RLab.at hL i _ (List.getElem?_eq_getElem cF)
   obtain ⟨b,o,c,vs,ty,es,ro,hv,hb,ab,bK,hz,ba⟩:=haL.load (List.getElem?_eq_getElem cF)
   rw [bz] at hz ba
   simp only [Value.slice.injEq] at hv
   obtain ⟨bk,_,eT⟩:=hv
   subst bk
   have eG:Ext h0 l:=(hk.trans o1.ext).trans hl
   have gb:l.get b=some (.row vs ty es ro):=(eG.get b ab).trans hb
   simp only [zA,zNS ai,zV zEk gb bK,hz,zox,zg,zK,zT]
   rw [z7 (P:=E) ziR (x:=.agg ⟨[iI g,v]⟩) (cs:=[iI g,v]) (zI l _) rfl ba (by simp) (by simp [zq];exact zDi be)]
   simp only [zK]
   rw [zq0 _ ba]
   have eA:=hl.next
   have e2:=(hl.new (rO [iI 0,.slice none 0 0] 36)).upd (b:=l.next) eA (some (rO [iI g,v] 36))
   have w2:k.next<=((l.new (rO [iI 0,.slice none 0 0] 36)).upd l.next (some (rO [iI g,v] 36))).wm:=zAG (by rw [zDK];exact hw) (by omega)
   have t2:((l.new (rO [iI 0,.slice none 0 0] 36)).upd l.next (some (rO [iI g,v] 36))).get l.next=some (rO [iI g,v] 36):=zO _ _ _
   have g2:((l.new (rO [iI 0,.slice none 0 0] 36)).upd l.next (some (rO [iI g,v] 36))).get b=some (.row vs ty es ro):=by
    have h1:=hk.next
    have h2:=o1.ext.next
    rw [zW (by omega),zL (by omega)];exact gb
   generalize ((l.new (rO [iI 0,.slice none 0 0] 36)).upd l.next (some (rO [iI g,v] 36)))=l2 at e2 w2 t2 g2
   refine zbT ?_
   have b2:=box l2 e2
   have fN:Ext h0 l2:=(hk.trans o1.ext).trans e2
   have n1:=zF (P:=E) zG7 (o:=1) b2
   have ca:=zV (P:=E) zEk (o:=0) t2 (by simp)
   simp only [lnth,List.drop_zero,List.take] at n1 ca
   have aH:∀ bad:Bool,zBE L.labs i=bad->(BrK (some (.bool bad)) (zoT true (kf8 k (zAI (zBE L.labs) (m+1) i||zAI (zBS L.n L.labs.length L.eds) L.eds.length 0)) l2) (zoS true (kf8 k (zAI (zBE L.labs) (m+1) i||zAI (zBS L.n L.labs.length L.eds) L.eds.length 0)) (.pointer (some ⟨k.next,0,none⟩)) (.slice (some ⟨b,o,none⟩) L.labs.length cL) (iI (L.labs.length:Int)) (iI (i:Int)) l2)):=by
    intro bad a9
    cases bad with
    | true=>
     rw [zz]
     refine zbS ?_
     simp [zA,zAS,zX,w2,zAI,a9]
    | false=>
     rw [zj]
     refine zbR ?_
     simp only [zAD _ (zEA ai (by omega)),zA]
     have:=ih (i+1) (by omega) l2 e2 w2
     simp only [zAI,a9,Bool.false_or]
     simpa using this
   simp only [ca,zA,zQ,zjx be fN,zP,zAp]
   have ew:zBE L.labs i=(zA6 g lt||(decide (0<i)&&match L.labs[i-1]? with
    | some y=>decide (0<=zCY y.1 y.2 g lt)
    | none=>false)):=by simp only [zBE,hatL]
   cases hA:zA6 g lt with
   | true=>
    have:=aH true (by rw [ew,hA];rfl)
    simpa only [hA,if_true,show (!decide ((170:Int)=0))=true from rfl,Bool.not_false,Bool.not_true,beq_self_eq_true,show (true==false)=false from rfl,show (false==true)=false from rfl,cond_true,cond_false,zA,zP,z6,zM,zU,zw,zx,zJ,zK] using this
   | false=>
    simp only [hA,Bool.false_eq_true,if_false,decide_true,Bool.not_false,Bool.not_true,beq_self_eq_true,show (true==false)=false from rfl,show (false==true)=false from rfl,cond_true,cond_false,zA,zP,z6,zM,zU,zw,zx,zJ,zK,zAK]
    by_cases d4:0<i
    ·have d4':(0:Int)<i:=by omega
     have aO:i-1<L.labs.length:=by omega
     have fK:i-1<elsL.length:=by rw [RLab.length hL];exact aO
     obtain ⟨g',v',lt',hel',hrt',jl⟩:=RLab.at hL (i-1) _ (List.getElem?_eq_getElem fK)
     obtain ⟨b',o',c',vs',ty',es',ro',aC,ao,aD,c8,bI,bH⟩:=haL.load (List.getElem?_eq_getElem fK)
     rw [hel'] at bI bH
     simp only [Value.slice.injEq] at aC
     obtain ⟨dx,_,_⟩:=aC
     cases dx
     rw [hb] at ao
     cases ao
     have aI:zBE L.labs i=decide (0<=zCY g' lt' g lt):=by rw [ew,hA,jl];simp [d4]
     have:=aH (decide (0<=zCY g' lt' g lt)) aI
     simpa only [d4',zAK,decide_true,Bool.not_false,Bool.not_true,beq_self_eq_true,show (true==false)=false from rfl,show (false==true)=false from rfl,cond_true,cond_false,zA,zP,z6,zM,zU,zw,zx,zJ,zK,zBR,Nat.zero_add,n1,zpN d4 (by omega:i<=9223372036854775807),zNS aO,zV zEk g2 c8,bI,ca,zQ,zNr hrt' be fN,zAa] using this
    ·have d4':¬ (0:Int)<i:=by omega
     have:=aH false (by rw [ew,hA];simp [d4])
     simpa only [d4',zAK,decide_false,Bool.not_false,Bool.not_true,beq_self_eq_true,show (true==false)=false from rfl,show (false==true)=false from rfl,cond_true,cond_false,zA,zP,z6,zM,zU,zw,zx,zJ,zK] using this
 have n0:=zF (P:=E) zAb (o:=0) t1
 have n1':=zF (P:=E) zG7 (o:=1) t1
 have n2:=zF (P:=E) zJc (o:=2) t1
 simp only [lnth] at n0 n1' n2
 have aH:∀ bad:Bool,zBC L=bad->(BrK (some (.bool bad)) (zoW true (kf8 k (zy L)) k1) (zoV true (kf8 k (zy L)) (.pointer (some ⟨k.next,0,none⟩)) k1)):=by
  intro bad a9
  cases bad with
  | true=>
   rw [zz]
   refine zbW ?_
   simp [zA,zAS,zX,o1.wm,zy,a9]
  | false=>
   rw [zj]
   refine zbV ?_
   simp only [zBR,Nat.zero_add,n1',zA,zQS]
   have:=labels a9 L.labs.length 0 (by omega) k1 (Ext.refl o1.ext.ok) o1.wm
   simp only [zy,a9,Bool.false_or]
   simpa using this
 simp only [zCD,Nat.add_zero,n0,zA,zZ]
 by_cases d1:L.n<1
 ·have:=aH true (by simp [zBC,d1])
  simpa only [d1,decide_true,Bool.not_false,Bool.not_true,beq_self_eq_true,show (true==false)=false from rfl,show (false==true)=false from rfl,cond_true,cond_false,zA,zP,z6,zM,zU,zw,zx,zJ,zK] using this
 ·simp only [d1,decide_false,Bool.not_false,Bool.not_true,beq_self_eq_true,show (true==false)=false from rfl,show (false==true)=false from rfl,cond_true,cond_false,zA,zP,z6,zM,zU,zw,zx,zJ,zK,zCD,Nat.add_zero,n0,zAK]
  by_cases d2:20000<L.n
  ·have:=aH true (by simp [zBC,d2])
   simpa only [d2,decide_true,Bool.not_false,Bool.not_true,beq_self_eq_true,show (true==false)=false from rfl,show (false==true)=false from rfl,cond_true,cond_false,zA,zP,z6,zM,zU,zw,zx,zJ,zK] using this
  ·simp only [d2,decide_false,Bool.not_false,Bool.not_true,beq_self_eq_true,show (true==false)=false from rfl,show (false==true)=false from rfl,cond_true,cond_false,zA,zP,z6,zM,zU,zw,zx,zJ,zK,zBR,Nat.zero_add,n1',zNG,zAK]
   by_cases d3:4000<L.labs.length
   ·have d3':(4000:Int)<L.labs.length:=by omega
    have:=aH true (by simp [zBC,d3])
    simpa only [d3',decide_true,Bool.not_false,Bool.not_true,beq_self_eq_true,show (true==false)=false from rfl,show (false==true)=false from rfl,cond_true,cond_false,zA,zP,z6,zM,zU,zw,zx,zJ,zK] using this
   ·have d3':¬ (4000:Int)<L.labs.length:=by omega
    simp only [d3',decide_false,Bool.not_false,Bool.not_true,beq_self_eq_true,show (true==false)=false from rfl,show (false==true)=false from rfl,cond_true,cond_false,zA,zP,z6,zM,zU,zw,zx,zJ,zK,zCC,Nat.zero_add,n2,zNF,zAK]
    by_cases d4:100000<L.eds.length
    ·have d4':(100000:Int)<L.eds.length:=by omega
     have:=aH true (by simp [zBC,d4])
     simpa only [d4',zAK,decide_true,Bool.not_false,Bool.not_true,beq_self_eq_true,show (true==false)=false from rfl,show (false==true)=false from rfl,cond_true,cond_false,zA,zP,z6,zM,zU,zw,zx,zJ,zK] using this
    ·have d4':¬ (100000:Int)<L.eds.length:=by omega
     have:=aH false (by simp [zBC,d1,d2,d3,d4])
     simpa only [d4',zAK,decide_false,Bool.not_false,Bool.not_true,beq_self_eq_true,show (true==false)=false from rfl,show (false==true)=false from rfl,cond_true,cond_false,zA,zP,z6,zM,zU,zw,zx,zJ,zK] using this
end Go.Proofs
