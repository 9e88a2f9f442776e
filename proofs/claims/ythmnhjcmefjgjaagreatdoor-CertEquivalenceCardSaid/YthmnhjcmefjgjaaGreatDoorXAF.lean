import Derived.Test.YthmnhjcmefjgjaaGreatDoorXAE
set_option linter.all false
set_option linter.unusedSectionVars false
set_option autoImplicit true
set_option relaxedAutoImplicit true
namespace Go.Proofs
open Go Go.AM
set_option maxRecDepth 100000
variable {s:Bool} {K:KF} {h:AH} {a:Option Addr} {n c:Nat} {b d e f g i j k l m o p q r t u w x y z A B C D F G J L M N O Q S U V W X Y Z v v0 v1 v2 v3 v4 v5 v6 v7 v8 v9 v10 v11 v12 v14 v15 v16 v17 v18 v20 v21 v22 v24 v65 v66 v67 v111 v112 v113 v143 v144 v145:Value} {h1:AH} {Rp:Value->AH->Prop}
noncomputable def B88:Code:=zh Tryz.f88
noncomputable def C88 (s:Bool):Cx:=⟨E,s,none,B88,[([0],[0,1]),([1,0,0],[2,3]),([1,0,1,0],[2,3,5]),([1,0,1,1,0,0],[5]),([1,1,0],[2,3])],[4],[]⟩
def zeU (H :
 Ev s (zS 36 h e) fun b=>
 Ev s (zS 36 b.2 f) fun d=>
 PI (C88 s) K 1 [b.1,d.1] d.2):PI (C88 s) K 0 [e,f] h:=zB H
def zeT (H :
 EvO (zD E 36 0 b) fun f=>
 EvO (zG E 3 h f) fun g=>
 EvO (zD E 36 0 d) fun i=>
 EvO (zG E 3 h i) fun j=>
 Ev s (zR (zY E) (some (.func (.func 94) #[] #[])) [g,j] h) fun e=>
 PI (C88 s) K 2 [b,d,e.1] e.2):PI (C88 s) K 1 [b,d] h:=zB H
def zeS (H :
 EvO (zC E .neq 3 b (iI 0)) fun f=>
 BrK f (PI (C88 s) K 3 [b] h) (PI (C88 s) K 4 [d,e] h)):PI (C88 s) K 2 [d,e,b] h:=zB H
def zeR (H :
 K .ret [b] h):PI (C88 s) K 3 [b] h:=zB H
def zeQ (H :
 EvO (zD E 36 1 d) fun f=>
 EvO (zG E 34 h f) fun g=>
 EvO (zD E 36 1 e) fun i=>
 EvO (zG E 34 h i) fun j=>
 Ev s (zR (zY E) (some (.func (.func 140) #[] #[])) [g,j] h) fun b=>
 K .ret [b.1] b.2):PI (C88 s) K 4 [d,e] h:=zB H
theorem zgO (aa:h.ok) (hv:zt v=true) (H:PI (C88 s) (KR E [.tmp 4] fun x k=>x=v/\h.next<=k.wm) 0 [v0,v1] h.fresh):(zY E).call 88 [v0,v1] h=some [(v,h)]:=zA3 Tryz.f88 aa hv (zAA (C88 s) H)
noncomputable def zhH:Code:=zh Tryz.f140
noncomputable def zJX (s:Bool):Cx:=⟨E,s,none,zhH,[([0],[0,1]),([1,0,0],[0,1]),([1,0,1,0,0,0,0],[0,1,5]),([1,0,1,0,0,1,0,0,0],[0,1,5]),([1,0,1,0,0,1,0,0,1,0],[0,1,5,6]),([1,0,1,0,0,1,0,0,1,1,0,0],[6]),([1,0,1,0,0,1,1],[0,1,5]),([1,1,0],[0,1])],[4],[]⟩
abbrev zoH (s:Bool) (K:KF) (b d e:Value) (h:AH):Prop:=PI (zJX s) K 2 [b,d,e] h
abbrev zoG (s:Bool) (K:KF) (b d:Value) (h:AH):Prop:=PI (zJX s) K 7 [b,d] h
def zaj (H :
 PI (zJX s) K 1 [b,d] h):PI (zJX s) K 0 [b,d] h:=zB H
def zai (H :
 PI (zJX s) K 2 [b,d,(iI 0)] h):PI (zJX s) K 1 [b,d] h:=zB H
def zML (H :
 EvO (zN E (zk [(8,d)]) (zo zhH [1,0,1,0,0,0,0] 2) h) fun g=>
 EvO (zC E .lss 3 f g) fun b=>
 EvO (gdB b true f) fun i=>
 EvO (gdB b true e) fun j=>
 EvO (gdB b true (zN E (zk [(13,j)]) (zo zhH [1,0,1,0,0,0,0] 7) h)) fun k=>
 EvO (gdB b true (zC E .lss 3 i k)) fun l=>
 EvO (zAB b l (some (.bool false))) fun m=>
 BrK m (PI (zJX s) K 3 [d,e,f] h) (PI (zJX s) K 7 [d,e] h)):PI (zJX s) K 2 [d,e,f] h:=zB H
theorem zIg:zN E (zk [(8,.slice a n c)]) (zo zhH [1,0,1,0,0,0,0] 2) h=some (iI (n:Int)):=by cases a <;> kernel_rfl
theorem zQQ:zN E (zk [(13,.slice a n c)]) (zo zhH [1,0,1,0,0,0,0] 7) h=some (iI (n:Int)):=by cases a <;> kernel_rfl
def zah (H :
 EvO (zE E 34 d b) fun g=>
 EvO (zG E 173 h g) fun i=>
 EvO (zE E 34 e b) fun j=>
 EvO (zG E 173 h j) fun k=>
 Ev s (zR (zY E) (some (.func (.func 188) #[] #[])) [i,k] h) fun f=>
 PI (zJX s) K 4 [d,e,b,f.1] f.2):PI (zJX s) K 3 [d,e,b] h:=zB H
def zag (H :
 EvO (zC E .neq 3 b (iI 0)) fun g=>
 BrK g (PI (zJX s) K 5 [b] h) (PI (zJX s) K 6 [d,e,f] h)):PI (zJX s) K 4 [d,e,f,b] h:=zB H
def zaf (H :
 K .ret [b] h):PI (zJX s) K 5 [b] h:=zB H
def zae (H :
 EvO (zC E .add 3 e (iI 1)) fun f=>
 PI (zJX s) K 2 [b,d,f] h):PI (zJX s) K 6 [b,d,e] h:=zB H
def zad (H :
 EvO (zN E (zk [(31,d)]) (zo zhH [1,1,0] 1) h) fun f=>
 EvO (zN E (zk [(33,e)]) (zo zhH [1,1,0] 3) h) fun g=>
 Ev s (zR (zY E) (some (.func (.func 94) #[] #[])) [f,g] h) fun b=>
 K .ret [b.1] b.2):PI (zJX s) K 7 [d,e] h:=zB H
theorem zQP:zN E (zk [(31,.slice a n c)]) (zo zhH [1,1,0] 1) h=some (iI (n:Int)):=by cases a <;> kernel_rfl
theorem zQO:zN E (zk [(33,.slice a n c)]) (zo zhH [1,1,0] 3) h=some (iI (n:Int)):=by cases a <;> kernel_rfl
theorem zcu (aa:h.ok) (hv:zt v=true) (H:PI (zJX s) (KR E [.tmp 4] fun x k=>x=v/\h.next<=k.wm) 0 [v0,v1] h.fresh):(zY E).call 140 [v0,v1] h=some [(v,h)]:=zA3 Tryz.f140 aa hv (zAA (zJX s) H)
noncomputable def zkw:Code:=zh Tryz.f188
noncomputable def zFt (s:Bool):Cx:=⟨E,s,none,zkw,[([0],[0,1]),([1,0],[2,3]),([1,1,0,0],[2,3,5]),([1,1,0,1,0],[2,3]),([1,1,1,0,0],[2,3,5]),([1,1,1,0,1,0],[2,3]),([1,1,1,1,0,0],[2,3,5]),([1,1,1,1,0,1,0,0,0,0],[2,3,5,6]),([1,1,1,1,0,1,0,0,1,0,0],[2,3,6]),([1,1,1,1,0,1,0,0,1,1],[2,3,5,6]),([1,1,1,1,1,0],[5])],[4],[]⟩
abbrev zh9 (s:Bool) (K:KF) (b d e f:Value) (h:AH):Prop:=PI (zFt s) K 7 [b,d,e,f] h
abbrev zkR (s:Bool) (K:KF) (b:Value) (h:AH):Prop:=PI (zFt s) K 10 [b] h
def zYt (H :
 Ev s (zS 173 h e) fun b=>
 Ev s (zS 173 b.2 f) fun d=>
 PI (zFt s) K 1 [b.1,d.1] d.2):PI (zFt s) K 0 [e,f] h:=zB H
def zYs (H :
 EvO (zD E 173 0 b) fun f=>
 EvO (zG E 3 h f) fun g=>
 EvO (zD E 173 0 d) fun i=>
 EvO (zG E 3 h i) fun j=>
 Ev s (zR (zY E) (some (.func (.func 232) #[] #[])) [g,j] h) fun e=>
 PI (zFt s) K 2 [b,d,e.1] e.2):PI (zFt s) K 1 [b,d] h:=zB H
def zYr (H :
 EvO (zC E .eql 3 e (iI 0)) fun f=>
 BrK f (PI (zFt s) K 3 [b,d] h) (PI (zFt s) K 4 [b,d,e] h)):PI (zFt s) K 2 [b,d,e] h:=zB H
def zYq (H :
 EvO (zD E 173 1 b) fun f=>
 EvO (zG E 3 h f) fun g=>
 EvO (zD E 173 1 d) fun i=>
 EvO (zG E 3 h i) fun j=>
 Ev s (zR (zY E) (some (.func (.func 232) #[] #[])) [g,j] h) fun e=>
 PI (zFt s) K 4 [b,d,e.1] e.2):PI (zFt s) K 3 [b,d] h:=zB H
def zL4 (H :
 EvO (zC E .eql 3 e (iI 0)) fun f=>
 BrK f (PI (zFt s) K 5 [b,d] h) (PI (zFt s) K 6 [b,d,e] h)):PI (zFt s) K 4 [b,d,e] h:=zB H
def zYp (H :
 EvO (zD E 173 2 b) fun f=>
 EvO (zG E 34 h f) fun g=>
 EvO (zN E (zk [(22,g)]) (zo zkw [1,1,1,0,1,0] 2) h) fun i=>
 EvO (zD E 173 2 d) fun j=>
 EvO (zG E 34 h j) fun k=>
 EvO (zN E (zk [(25,k)]) (zo zkw [1,1,1,0,1,0] 5) h) fun l=>
 Ev s (zR (zY E) (some (.func (.func 232) #[] #[])) [i,l] h) fun e=>
 PI (zFt s) K 6 [b,d,e.1] e.2):PI (zFt s) K 5 [b,d] h:=zB H
theorem zQL:zN E (zk [(22,.slice a n c)]) (zo zkw [1,1,1,0,1,0] 2) h=some (iI (n:Int)):=by cases a <;> kernel_rfl
theorem zQK:zN E (zk [(25,.slice a n c)]) (zo zkw [1,1,1,0,1,0] 5) h=some (iI (n:Int)):=by cases a <;> kernel_rfl
def zHy (H :
 PI (zFt s) K 7 [b,d,e,(iI 0)] h):PI (zFt s) K 6 [b,d,e] h:=zB H
def zHx (H :
 EvO (zD E 173 2 d) fun i=>
 EvO (zG E 34 h i) fun j=>
 EvO (zN E (zk [(30,j)]) (zo zkw [1,1,1,1,0,1,0,0,0,0] 3) h) fun k=>
 EvO (zC E .lss 3 f k) fun b=>
 EvO (gdB b true e) fun l=>
 EvO (gdB b true (zC E .eql 3 l (iI 0))) fun m=>
 EvO (zAB b m (some (.bool false))) fun o=>
 BrK o (PI (zFt s) K 8 [d,g,f] h) (PI (zFt s) K 10 [e] h)):PI (zFt s) K 7 [d,g,e,f] h:=zB H
theorem zF7:zN E (zk [(30,.slice a n c)]) (zo zkw [1,1,1,1,0,1,0,0,0,0] 3) h=some (iI (n:Int)):=by cases a <;> kernel_rfl
def zYo (H :
 EvO (zD E 173 2 e) fun g=>
 EvO (zG E 34 h g) fun i=>
 EvO (zE E 34 i d) fun j=>
 EvO (zG E 173 h j) fun k=>
 EvO (zD E 173 2 f) fun l=>
 EvO (zG E 34 h l) fun m=>
 EvO (zE E 34 m d) fun o=>
 EvO (zG E 173 h o) fun p=>
 Ev s (zR (zY E) (some (.func (.func 188) #[] #[])) [k,p] h) fun b=>
 PI (zFt s) K 9 [e,f,b.1,d] b.2):PI (zFt s) K 8 [e,f,d] h:=zB H
def zYn (H :
 EvO (zC E .add 3 f (iI 1)) fun g=>
 PI (zFt s) K 7 [b,d,e,g] h):PI (zFt s) K 9 [b,d,e,f] h:=zB H
def zQ0 (H :
 K .ret [b] h):PI (zFt s) K 10 [b] h:=zB H
theorem zcb (aa:h.ok) (hv:zt v=true) (H:PI (zFt s) (KR E [.tmp 4] fun x k=>x=v/\h.next<=k.wm) 0 [v0,v1] h.fresh):(zY E).call 188 [v0,v1] h=some [(v,h)]:=zA3 Tryz.f188 aa hv (zAA (zFt s) H)
noncomputable def B232:Code:=zh Tryz.f232
noncomputable def zSH (s:Bool):Cx:=⟨E,s,none,B232,[([0],[0,1]),([1,0,0],[0,1]),([1,0,1,0,0],[]),([1,1,0,0],[0,1]),([1,1,0,1,0,0],[]),([1,1,1,0],[])],[4],[]⟩
def zXU (H :
 PI (zSH s) K 1 [b,d] h):PI (zSH s) K 0 [b,d] h:=zB H
def zXT (H :
 EvO (zC E .lss 3 b d) fun e=>
 BrK e (PI (zSH s) K 2 [] h) (PI (zSH s) K 3 [b,d] h)):PI (zSH s) K 1 [b,d] h:=zB H
def zXS (H :
 K .ret [(iI (-1))] h):PI (zSH s) K 2 [] h:=zB H
def zXR (H :
 EvO (zC E .gtr 3 b d) fun e=>
 BrK e (PI (zSH s) K 4 [] h) (PI (zSH s) K 5 [] h)):PI (zSH s) K 3 [b,d] h:=zB H
def zXQ (H :
 K .ret [(iI 1)] h):PI (zSH s) K 4 [] h:=zB H
def zXP (H :
 K .ret [(iI 0)] h):PI (zSH s) K 5 [] h:=zB H
theorem zcP (aa:h.ok) (hv:zt v=true) (H:PI (zSH s) (KR E [.tmp 4] fun x k=>x=v/\h.next<=k.wm) 0 [v0,v1] h.fresh):(zY E).call 232 [v0,v1] h=some [(v,h)]:=zA3 Tryz.f232 aa hv (zAA (zSH s) H)
noncomputable def B264:Code:=zh Tryz.f264
noncomputable def zku (s:Bool):Cx:=⟨E,s,none,B264,[([0],[0]),([1,0],[1]),([1,1,0],[1,4])],[2],[]⟩
def zWv (H :
 Ev s (zS 173 h d) fun b=>
 PI (zku s) K 1 [b.1] b.2):PI (zku s) K 0 [d] h:=zB H
def zWu (H :
 EvO (zG E 173 h d) fun e=>
 Ev s (zR (zY E) (some (.func (.func 280) #[] #[])) (some [e,(iI 2000),(iI 1)]) h) fun b=>
 EvO (ze 0 b.1) fun g=>
 EvO (ze 1 b.1) fun f=>
 PI (zku s) K 2 [d,f] b.2):PI (zku s) K 1 [d] h:=zB H
def zWt (H :
 EvO (gdB b true (zG E 173 h e)) fun f=>
 Ev s (gdW b true (zR (zY E) (some (.func (.func 281) #[] #[])) [f] h) h) fun d=>
 EvO (zAB b d.1 (some (.bool false))) fun g=>
 K .ret [g] d.2):PI (zku s) K 2 [e,b] h:=zB H
theorem zR5 {Rp:Value->Prop} (aa:h.ok) (H:PI (zku true) (KR E [.tmp 2] fun x k=>(zi x=true/\Rp x)/\h.next<=k.wm) 0 [v0] h.fresh):∃ v,Rp v/\(zY E).call 264 [v0] h=some [(v,h)]:=zDT Tryz.f264 aa (zAA (zku true) H)
noncomputable def B231:Code:=zh Tryz.f231
noncomputable def zhC (s:Bool):Cx:=⟨E,s,none,B231,[([0],[0]),([1,0,0],[1]),([1,0,1,0,0],[]),([1,1,0],[])],[2],[]⟩
def zXY (H :
 Ev s (zS 173 h d) fun b=>
 PI (zhC s) K 1 [b.1] b.2):PI (zhC s) K 0 [d] h:=zB H
def zXX (H :
 EvO (zG E 173 h d) fun e=>
 Ev s (zR (zY E) (some (.func (.func 264) #[] #[])) [e] h) fun b=>
 EvO (zAW .not b.1) fun f=>
 BrK f (PI (zhC s) K 2 [] b.2) (PI (zhC s) K 3 [] b.2)):PI (zhC s) K 1 [d] h:=zB H
def zXW (H :
 K .ret [(iI 4)] h):PI (zhC s) K 2 [] h:=zB H
def zXV (H :
 K .ret [(iI 0)] h):PI (zhC s) K 3 [] h:=zB H
theorem zR8 {Rp:Value->Prop} (aa:h.ok) (H:PI (zhC true) (KR E [.tmp 2] fun x k=>(zi x=true/\Rp x)/\h.next<=k.wm) 0 [v0] h.fresh):∃ v,Rp v/\(zY E).call 231 [v0] h=some [(v,h)]:=zDT Tryz.f231 aa (zAA (zhC true) H)
noncomputable def zqo:Code:=zh Tryz.f280
noncomputable def zFE (s:Bool):Cx:=⟨E,s,none,zqo,[([0],[0,1,2]),([1,0],[1,2,3]),([1,1,0,0],[1,2,3]),([1,1,0,1,0,0],[1]),([1,1,1,0,0],[1,2,3]),([1,1,1,0,1,0,0,0,0],[1,2,3,8]),([1,1,1,0,1,0,0,1,0,0,0],[1,2,3,8]),([1,1,1,0,1,0,0,1,0,0,1,0],[2,3,8,9,10]),([1,1,1,0,1,0,0,1,0,0,1,1,0],[1,2,3,8,10]),([1,1,1,0,1,0,0,1,0,0,1,1,1,0,0],[1]),([1,1,1,0,1,0,0,1,1],[1,2,3,8]),([1,1,1,1,0],[1])],[6,7],[]⟩
abbrev znZ (s:Bool) (K:KF) (b:Value) (h:AH):Prop:=PI (zFE s) K 3 [b] h
abbrev znY (s:Bool) (K:KF) (b d e:Value) (h:AH):Prop:=PI (zFE s) K 4 [b,d,e] h
abbrev znX (s:Bool) (K:KF) (b d e f:Value) (h:AH):Prop:=PI (zFE s) K 5 [b,d,e,f] h
abbrev znW (s:Bool) (K:KF) (b:Value) (h:AH):Prop:=PI (zFE s) K 9 [b] h
abbrev zkP (s:Bool) (K:KF) (b:Value) (h:AH):Prop:=PI (zFE s) K 11 [b] h
def zWh (H :
 Ev s (zS 173 h d) fun b=>
 PI (zFE s) K 1 [e,f,b.1] b.2):PI (zFE s) K 0 [d,e,f] h:=zB H
def zWg (H :
 EvO (zC E .sub 3 b (iI 1)) fun f=>
 PI (zFE s) K 2 [f,d,e] h):PI (zFE s) K 1 [b,d,e] h:=zB H
def zWf (H :
 EvO (zC E .lss 3 b (iI 0)) fun d=>
 EvO (gdB d false e) fun g=>
 EvO (gdB d false (zC E .gtr 3 g (iI 200))) fun i=>
 EvO (zAB d (some (.bool true)) i) fun j=>
 BrK j (PI (zFE s) K 3 [b] h) (PI (zFE s) K 4 [b,e,f] h)):PI (zFE s) K 2 [b,e,f] h:=zB H
def zWe (H :
 K .ret [b,(.bool false)] h):PI (zFE s) K 3 [b] h:=zB H
def zWd (H :
 PI (zFE s) K 5 [b,d,e,(iI 0)] h):PI (zFE s) K 4 [b,d,e] h:=zB H
def zLr (H :
 EvO (zD E 173 2 d) fun g=>
 EvO (zG E 34 h g) fun i=>
 EvO (zN E (zk [(22,i)]) (zo zqo [1,1,1,0,1,0,0,0,0] 3) h) fun j=>
 EvO (zC E .lss 3 e j) fun k=>
 BrK k (PI (zFE s) K 6 [b,f,d,e] h) (PI (zFE s) K 11 [b] h)):PI (zFE s) K 5 [b,f,d,e] h:=zB H
theorem zIc:zN E (zk [(22,.slice a n c)]) (zo zqo [1,1,1,0,1,0,0,0,0] 3) h=some (iI (n:Int)):=by cases a <;> kernel_rfl
def zWc (H :
 EvO (zD E 173 2 g) fun k=>
 EvO (zG E 34 h k) fun l=>
 EvO (zE E 34 l i) fun m=>
 EvO (zG E 173 h m) fun o=>
 EvO (zC E .add 3 f (iI 1)) fun p=>
 Ev s (zR (zY E) (some (.func (.func 280) #[] #[])) [o,j,p] h) fun e=>
 EvO (ze 0 e.1) fun b=>
 EvO (ze 1 e.1) fun d=>
 PI (zFE s) K 7 [f,g,i,b,d] e.2):PI (zFE s) K 6 [j,f,g,i] h:=zB H
def zWb (H :
 PI (zFE s) K 8 [g,d,e,f,b] h):PI (zFE s) K 7 [d,e,f,g,b] h:=zB H
def zWa (H :
 EvO (zAW .not b) fun i=>
 BrK i (PI (zFE s) K 9 [d] h) (PI (zFE s) K 10 [d,e,f,g] h)):PI (zFE s) K 8 [d,e,f,g,b] h:=zB H
def zWZ (H :
 K .ret [b,(.bool false)] h):PI (zFE s) K 9 [b] h:=zB H
def zQs (H :
 EvO (zC E .add 3 f (iI 1)) fun g=>
 PI (zFE s) K 5 [b,d,e,g] h):PI (zFE s) K 10 [b,d,e,f] h:=zB H
def zQr (H :
 K .ret [b,(.bool true)] h):PI (zFE s) K 11 [b] h:=zB H
theorem zR4 {Rp:Value->Prop} (aa:h.ok) (H:PI (zFE true) (KR E [.tmp 6,.tmp 7] fun x k=>(zi x=true/\Rp x)/\h.next<=k.wm) 0 [v0,v1,v2] h.fresh):∃ v,Rp v/\(zY E).call 280 [v0,v1,v2] h=some [(v,h)]:=zDT Tryz.f280 aa (zAA (zFE true) H)
noncomputable def zkv:Code:=zh Tryz.f281
noncomputable def zGo (s:Bool):Cx:=⟨E,s,none,zkv,[([0],[0]),([1,0,0],[1]),([1,0,1,0,0],[]),([1,1,0,0],[1]),([1,1,0,1,0,0,0,0],[1,3]),([1,1,0,1,0,0,1,0,0,0],[1,3]),([1,1,0,1,0,0,1,0,0,1,0,0],[]),([1,1,0,1,0,0,1,1],[1,3]),([1,1,1,0],[])],[2],[]⟩
abbrev znV (s:Bool) (K:KF) (h:AH):Prop:=PI (zGo s) K 2 [] h
abbrev znU (s:Bool) (K:KF) (b:Value) (h:AH):Prop:=PI (zGo s) K 3 [b] h
abbrev znT (s:Bool) (K:KF) (b d:Value) (h:AH):Prop:=PI (zGo s) K 4 [b,d] h
abbrev znS (s:Bool) (K:KF) (h:AH):Prop:=PI (zGo s) K 6 [] h
abbrev znR (s:Bool) (K:KF) (h:AH):Prop:=PI (zGo s) K 8 [] h
def zWY (H :
 Ev s (zS 173 h d) fun b=>
 PI (zGo s) K 1 [b.1] b.2):PI (zGo s) K 0 [d] h:=zB H
def zWX (H :
 EvO (zD E 173 1 f) fun B=>
 EvO (zG E 3 h B) fun C=>
 EvO (zC E .lss 3 C (iI 0)) fun g=>
 EvO (gdB g false (zD E 173 0 f)) fun D=>
 EvO (gdB g false (zG E 3 h D)) fun F=>
 EvO (gdB g false (zC E .neq 3 F (iI 1))) fun G=>
 EvO (gdB g false G) fun i=>
 EvO (gdB i true (zD E 173 0 f)) fun J=>
 EvO (gdB i true (zG E 3 h J)) fun L=>
 EvO (gdB i true (zC E .neq 3 L (iI 2))) fun j=>
 EvO (gdB g false (zAB i j (some (.bool false)))) fun k=>
 EvO (zAB g (some (.bool true)) k) fun b=>
 EvO (gdB b false (zD E 173 0 f)) fun l=>
 EvO (gdB b false (zG E 3 h l)) fun m=>
 EvO (gdB b false (zC E .eql 3 m (iI 1))) fun o=>
 EvO (gdB b false o) fun d=>
 EvO (gdB d true (zD E 173 2 f)) fun p=>
 EvO (gdB d true (zG E 34 h p)) fun q=>
 EvO (gdB d true (zN E (zk [(23,q)]) (zo zkv [1,0,0] 20) h)) fun r=>
 EvO (gdB d true (zC E .gtr 3 r (iI 0))) fun t=>
 EvO (gdB b false (zAB d t (some (.bool false)))) fun u=>
 EvO (zAB b (some (.bool true)) u) fun e=>
 EvO (gdB e false (zD E 173 2 f)) fun w=>
 EvO (gdB e false (zG E 34 h w)) fun x=>
 EvO (gdB e false (zN E (zk [(30,x)]) (zo zkv [1,0,0] 27) h)) fun y=>
 EvO (gdB e false (zC E .gtr 3 y (iI 8))) fun z=>
 EvO (zAB e (some (.bool true)) z) fun A=>
 BrK A (PI (zGo s) K 2 [] h) (PI (zGo s) K 3 [f] h)):PI (zGo s) K 1 [f] h:=zB H
theorem zM5:zN E (zk [(23,.slice a n c)]) (zo zkv [1,0,0] 20) h=some (iI (n:Int)):=by cases a <;> kernel_rfl
theorem zM4:zN E (zk [(30,.slice a n c)]) (zo zkv [1,0,0] 27) h=some (iI (n:Int)):=by cases a <;> kernel_rfl
def zWW (H :
 K .ret [(.bool false)] h):PI (zGo s) K 2 [] h:=zB H
def zWV (H :
 PI (zGo s) K 4 [b,(iI 0)] h):PI (zGo s) K 3 [b] h:=zB H
def zLq (H :
 EvO (zD E 173 2 b) fun e=>
 EvO (zG E 34 h e) fun f=>
 EvO (zN E (zk [(36,f)]) (zo zkv [1,1,0,1,0,0,0,0] 3) h) fun g=>
 EvO (zC E .lss 3 d g) fun i=>
 BrK i (PI (zGo s) K 5 [b,d] h) (PI (zGo s) K 8 [] h)):PI (zGo s) K 4 [b,d] h:=zB H
theorem zIb:zN E (zk [(36,.slice a n c)]) (zo zkv [1,1,0,1,0,0,0,0] 3) h=some (iI (n:Int)):=by cases a <;> kernel_rfl
def zWU (H :
 EvO (zD E 173 2 d) fun f=>
 EvO (zG E 34 h f) fun g=>
 EvO (zE E 34 g e) fun i=>
 EvO (zG E 173 h i) fun j=>
 Ev s (zR (zY E) (some (.func (.func 281) #[] #[])) [j] h) fun b=>
 EvO (zAW .not b.1) fun k=>
 BrK k (PI (zGo s) K 6 [] b.2) (PI (zGo s) K 7 [d,e] b.2)):PI (zGo s) K 5 [d,e] h:=zB H
def zWT (H :
 K .ret [(.bool false)] h):PI (zGo s) K 6 [] h:=zB H
def zWS (H :
 EvO (zC E .add 3 d (iI 1)) fun e=>
 PI (zGo s) K 4 [b,e] h):PI (zGo s) K 7 [b,d] h:=zB H
def zWR (H :
 K .ret [(.bool true)] h):PI (zGo s) K 8 [] h:=zB H
theorem zR3 {Rp:Value->Prop} (aa:h.ok) (H:PI (zGo true) (KR E [.tmp 2] fun x k=>(zi x=true/\Rp x)/\h.next<=k.wm) 0 [v0] h.fresh):∃ v,Rp v/\(zY E).call 281 [v0] h=some [(v,h)]:=zDT Tryz.f281 aa (zAA (zGo true) H)
noncomputable def B187:Code:=zh Tryz.f187
noncomputable def zog (s:Bool):Cx:=⟨E,s,none,B187,[([0],[0]),([1,0],[1])],[2],[]⟩
def zYv (H :
 Ev s (zS 173 h d) fun b=>
 PI (zog s) K 1 [b.1] b.2):PI (zog s) K 0 [d] h:=zB H
def zYu (H :
 EvO (zG E 173 h d) fun f=>
 Ev s (zR (zY E) (some (.func (.func 230) #[] #[])) [f] h) fun b=>
 EvO (gdB b.1 true (zG E 173 b.2 d)) fun g=>
 Ev s (gdW b.1 true (zR (zY E) (some (.func (.func 231) #[] #[])) [g] b.2) b.2) fun e=>
 EvO (gdB b.1 true (zC E .eql 29 e.1 (iI 0))) fun i=>
 EvO (zAB b.1 i (some (.bool false))) fun j=>
 K .ret [j] e.2):PI (zog s) K 1 [d] h:=zB H
theorem zSC {Rp:Value->Prop} (aa:h.ok) (H:PI (zog true) (KR E [.tmp 2] fun x k=>(zi x=true/\Rp x)/\h.next<=k.wm) 0 [v0] h.fresh):∃ v,Rp v/\(zY E).call 187 [v0] h=some [(v,h)]:=zDT Tryz.f187 aa (zAA (zog true) H)
noncomputable def zot:Code:=zh Tryz.f230
noncomputable def zGP (s:Bool):Cx:=⟨E,s,none,zot,[([0],[0]),([1,0,0],[1]),([1,0,1,0,0],[]),([1,1,0,0],[1]),([1,1,0,1,0,0,0,0],[1,3]),([1,1,0,1,0,0,1,0,0,0],[1,3]),([1,1,0,1,0,0,1,0,0,1,0],[1,3,4]),([1,1,0,1,0,0,1,0,0,1,1,0,0],[]),([1,1,0,1,0,0,1,1],[1,3]),([1,1,1,0],[])],[2],[]⟩
abbrev zni (s:Bool) (K:KF) (h:AH):Prop:=PI (zGP s) K 2 [] h
abbrev znh (s:Bool) (K:KF) (b:Value) (h:AH):Prop:=PI (zGP s) K 3 [b] h
abbrev zng (s:Bool) (K:KF) (b d:Value) (h:AH):Prop:=PI (zGP s) K 4 [b,d] h
abbrev znf (s:Bool) (K:KF) (h:AH):Prop:=PI (zGP s) K 7 [] h
abbrev zne (s:Bool) (K:KF) (h:AH):Prop:=PI (zGP s) K 9 [] h
def zXh (H :
 Ev s (zS 173 h d) fun b=>
 PI (zGP s) K 1 [b.1] b.2):PI (zGP s) K 0 [d] h:=zB H
def zXg (H :
 EvO (zD E 173 0 d) fun p=>
 EvO (zG E 3 h p) fun q=>
 EvO (zC E .neq 3 q (iI 2)) fun e=>
 EvO (gdB e false (zD E 173 1 d)) fun r=>
 EvO (gdB e false (zG E 3 h r)) fun t=>
 EvO (gdB e false (zC E .lss 3 t (iI 0))) fun u=>
 EvO (zAB e (some (.bool true)) u) fun f=>
 EvO (gdB f false (zD E 173 1 d)) fun w=>
 EvO (gdB f false (zG E 3 h w)) fun g=>
 EvO (gdB f false (zC E .gtr 3 g (iI 255))) fun i=>
 EvO (zAB f (some (.bool true)) i) fun b=>
 EvO (gdB b false (zD E 173 2 d)) fun j=>
 EvO (gdB b false (zG E 34 h j)) fun k=>
 EvO (gdB b false (zN E (zk [(20,k)]) (zo zot [1,0,0] 16) h)) fun l=>
 EvO (gdB b false (zC E .gtr 3 l (iI 8))) fun m=>
 EvO (zAB b (some (.bool true)) m) fun o=>
 BrK o (PI (zGP s) K 2 [] h) (PI (zGP s) K 3 [d] h)):PI (zGP s) K 1 [d] h:=zB H
theorem zM8:zN E (zk [(20,.slice a n c)]) (zo zot [1,0,0] 16) h=some (iI (n:Int)):=by cases a <;> kernel_rfl
def zXf (H :
 K .ret [(.bool false)] h):PI (zGP s) K 2 [] h:=zB H
def zXe (H :
 PI (zGP s) K 4 [b,(iI 0)] h):PI (zGP s) K 3 [b] h:=zB H
def zLw (H :
 EvO (zD E 173 2 b) fun e=>
 EvO (zG E 34 h e) fun f=>
 EvO (zN E (zk [(26,f)]) (zo zot [1,1,0,1,0,0,0,0] 3) h) fun g=>
 EvO (zC E .lss 3 d g) fun i=>
 BrK i (PI (zGP s) K 5 [b,d] h) (PI (zGP s) K 9 [] h)):PI (zGP s) K 4 [b,d] h:=zB H
theorem zIe:zN E (zk [(26,.slice a n c)]) (zo zot [1,1,0,1,0,0,0,0] 3) h=some (iI (n:Int)):=by cases a <;> kernel_rfl
def zXd (H :
 EvO (zD E 173 2 b) fun f=>
 EvO (zG E 34 h f) fun g=>
 EvO (zE E 34 g d) fun i=>
 EvO (zG E 173 h i) fun j=>
 Ev s (zR (zY E) (some (.func (.func 230) #[] #[])) [j] h) fun e=>
 PI (zGP s) K 6 [b,d,e.1] e.2):PI (zGP s) K 5 [b,d] h:=zB H
def zXc (H :
 EvO (zAW .not e) fun f=>
 BrK f (PI (zGP s) K 7 [] h) (PI (zGP s) K 8 [b,d] h)):PI (zGP s) K 6 [b,d,e] h:=zB H
def zXb (H :
 K .ret [(.bool false)] h):PI (zGP s) K 7 [] h:=zB H
def zXa (H :
 EvO (zC E .add 3 d (iI 1)) fun e=>
 PI (zGP s) K 4 [b,e] h):PI (zGP s) K 8 [b,d] h:=zB H
def zXZ (H :
 K .ret [(.bool true)] h):PI (zGP s) K 9 [] h:=zB H
theorem zR9 {Rp:Value->Prop} (aa:h.ok) (H:PI (zGP true) (KR E [.tmp 2] fun x k=>(zi x=true/\Rp x)/\h.next<=k.wm) 0 [v0] h.fresh):∃ v,Rp v/\(zY E).call 230 [v0] h=some [(v,h)]:=zDT Tryz.f230 aa (zAA (zGP true) H)
noncomputable def zky:Code:=zh Tryz.f138
noncomputable def zEp (s:Bool):Cx:=⟨E,s,none,zky,[([0],[0]),([1,0,0],[1]),([1,0,1,0,0],[]),([1,1,0,0],[1]),([1,1,0,1,0,0],[]),([1,1,1,0,0],[1]),([1,1,1,0,1,0,0,0,0],[1,3]),([1,1,1,0,1,0,0,1,0,0,0],[1,3]),([1,1,1,0,1,0,0,1,0,0,1,0],[1,3,4]),([1,1,1,0,1,0,0,1,0,0,1,1,0,0],[]),([1,1,1,0,1,0,0,1,1],[1,3]),([1,1,1,1,0],[])],[2],[]⟩
abbrev zoN (s:Bool) (K:KF) (h:AH):Prop:=PI (zEp s) K 2 [] h
abbrev zoM (s:Bool) (K:KF) (b:Value) (h:AH):Prop:=PI (zEp s) K 3 [b] h
abbrev zoL (s:Bool) (K:KF) (h:AH):Prop:=PI (zEp s) K 4 [] h
abbrev zoK (s:Bool) (K:KF) (b:Value) (h:AH):Prop:=PI (zEp s) K 5 [b] h
abbrev zoJ (s:Bool) (K:KF) (b d:Value) (h:AH):Prop:=PI (zEp s) K 6 [b,d] h
abbrev zoI (s:Bool) (K:KF) (h:AH):Prop:=PI (zEp s) K 9 [] h
abbrev zkY (s:Bool) (K:KF) (h:AH):Prop:=PI (zEp s) K 11 [] h
def zay (H :
 Ev s (zS 36 h d) fun b=>
 PI (zEp s) K 1 [b.1] b.2):PI (zEp s) K 0 [d] h:=zB H
def zax (H :
 EvO (zD E 36 0 d) fun k=>
 EvO (zG E 3 h k) fun l=>
 EvO (zC E .lss 3 l (iI (-3))) fun e=>
 EvO (gdB e false (zD E 36 0 d)) fun m=>
 EvO (gdB e false (zG E 3 h m)) fun o=>
 EvO (gdB e false (zC E .gtr 3 o (iI 31))) fun p=>
 EvO (zAB e (some (.bool true)) p) fun b=>
 EvO (gdB b false (zD E 36 1 d)) fun q=>
 EvO (gdB b false (zG E 34 h q)) fun f=>
 EvO (gdB b false (zN E (zk [(15,f)]) (zo zky [1,0,0] 11) h)) fun g=>
 EvO (gdB b false (zC E .gtr 3 g (iI 8))) fun i=>
 EvO (zAB b (some (.bool true)) i) fun j=>
 BrK j (PI (zEp s) K 2 [] h) (PI (zEp s) K 3 [d] h)):PI (zEp s) K 1 [d] h:=zB H
theorem zND:zN E (zk [(15,.slice a n c)]) (zo zky [1,0,0] 11) h=some (iI (n:Int)):=by cases a <;> kernel_rfl
def zaw (H :
 K .ret [(.bool false)] h):PI (zEp s) K 2 [] h:=zB H
def zav (H :
 EvO (zD E 36 0 d) fun k=>
 EvO (zG E 3 h k) fun l=>
 EvO (zC E .eql 3 l (iI (-3))) fun e=>
 EvO (gdB e false (zD E 36 0 d)) fun m=>
 EvO (gdB e false (zG E 3 h m)) fun o=>
 EvO (gdB e false (zC E .eql 3 o (iI (-1)))) fun p=>
 EvO (zAB e (some (.bool true)) p) fun b=>
 EvO (gdB b true (zD E 36 1 d)) fun q=>
 EvO (gdB b true (zG E 34 h q)) fun f=>
 EvO (gdB b true (zN E (zk [(29,f)]) (zo zky [1,1,0,0] 11) h)) fun g=>
 EvO (gdB b true (zC E .gtr 3 g (iI 0))) fun i=>
 EvO (zAB b i (some (.bool false))) fun j=>
 BrK j (PI (zEp s) K 4 [] h) (PI (zEp s) K 5 [d] h)):PI (zEp s) K 3 [d] h:=zB H
theorem zNC:zN E (zk [(29,.slice a n c)]) (zo zky [1,1,0,0] 11) h=some (iI (n:Int)):=by cases a <;> kernel_rfl
def zau (H :
 K .ret [(.bool false)] h):PI (zEp s) K 4 [] h:=zB H
def zat (H :
 PI (zEp s) K 6 [b,(iI 0)] h):PI (zEp s) K 5 [b] h:=zB H
def zMM (H :
 EvO (zD E 36 1 b) fun e=>
 EvO (zG E 34 h e) fun f=>
 EvO (zN E (zk [(35,f)]) (zo zky [1,1,1,0,1,0,0,0,0] 3) h) fun g=>
 EvO (zC E .lss 3 d g) fun i=>
 BrK i (PI (zEp s) K 7 [b,d] h) (PI (zEp s) K 11 [] h)):PI (zEp s) K 6 [b,d] h:=zB H
theorem zIh:zN E (zk [(35,.slice a n c)]) (zo zky [1,1,1,0,1,0,0,0,0] 3) h=some (iI (n:Int)):=by cases a <;> kernel_rfl
def zas (H :
 EvO (zD E 36 1 b) fun f=>
 EvO (zG E 34 h f) fun g=>
 EvO (zE E 34 g d) fun i=>
 EvO (zG E 173 h i) fun j=>
 Ev s (zR (zY E) (some (.func (.func 187) #[] #[])) [j] h) fun e=>
 PI (zEp s) K 8 [b,d,e.1] e.2):PI (zEp s) K 7 [b,d] h:=zB H
def zar (H :
 EvO (zAW .not e) fun f=>
 BrK f (PI (zEp s) K 9 [] h) (PI (zEp s) K 10 [b,d] h)):PI (zEp s) K 8 [b,d,e] h:=zB H
def zaq (H :
 K .ret [(.bool false)] h):PI (zEp s) K 9 [] h:=zB H
def zRa (H :
 EvO (zC E .add 3 d (iI 1)) fun e=>
 PI (zEp s) K 6 [b,e] h):PI (zEp s) K 10 [b,d] h:=zB H
def zRZ (H :
 K .ret [(.bool true)] h):PI (zEp s) K 11 [] h:=zB H
theorem zSE {Rp:Value->Prop} (aa:h.ok) (H:PI (zEp true) (KR E [.tmp 2] fun x k=>(zi x=true/\Rp x)/\h.next<=k.wm) 0 [v0] h.fresh):∃ v,Rp v/\(zY E).call 138 [v0] h=some [(v,h)]:=zDT Tryz.f138 aa (zAA (zEp true) H)
noncomputable def B139:Code:=zh Tryz.f139
noncomputable def zSJ (s:Bool):Cx:=⟨E,s,none,B139,[([0],[0,1]),([1,0,0],[2,3]),([1,0,1,0,0],[2,3]),([1,1,0,0],[2,3]),([1,1,0,1,0,0],[2,3]),([1,1,1,0],[2,3])],[4],[]⟩
def zap (H :
 Ev s (zS 52 h e) fun b=>
 Ev s (zS 52 b.2 f) fun d=>
 PI (zSJ s) K 1 [b.1,d.1] d.2):PI (zSJ s) K 0 [e,f] h:=zB H
def zao (H :
 EvO (zD E 52 0 b) fun e=>
 EvO (zG E 3 h e) fun f=>
 EvO (zD E 52 0 d) fun g=>
 EvO (zG E 3 h g) fun i=>
 EvO (zC E .neq 3 f i) fun j=>
 BrK j (PI (zSJ s) K 2 [b,d] h) (PI (zSJ s) K 3 [b,d] h)):PI (zSJ s) K 1 [b,d] h:=zB H
def zan (H :
 EvO (zD E 52 0 b) fun e=>
 EvO (zG E 3 h e) fun f=>
 EvO (zD E 52 0 d) fun g=>
 EvO (zG E 3 h g) fun i=>
 EvO (zC E .lss 3 f i) fun j=>
 K .ret [j] h):PI (zSJ s) K 2 [b,d] h:=zB H
def zam (H :
 EvO (zD E 52 1 b) fun e=>
 EvO (zG E 3 h e) fun f=>
 EvO (zD E 52 1 d) fun g=>
 EvO (zG E 3 h g) fun i=>
 EvO (zC E .neq 3 f i) fun j=>
 BrK j (PI (zSJ s) K 4 [b,d] h) (PI (zSJ s) K 5 [b,d] h)):PI (zSJ s) K 3 [b,d] h:=zB H
def zal (H :
 EvO (zD E 52 1 b) fun e=>
 EvO (zG E 3 h e) fun f=>
 EvO (zD E 52 1 d) fun g=>
 EvO (zG E 3 h g) fun i=>
 EvO (zC E .lss 3 f i) fun j=>
 K .ret [j] h):PI (zSJ s) K 4 [b,d] h:=zB H
def zak (H :
 EvO (zD E 52 2 b) fun e=>
 EvO (zG E 3 h e) fun f=>
 EvO (zD E 52 2 d) fun g=>
 EvO (zG E 3 h g) fun i=>
 EvO (zC E .lss 3 f i) fun j=>
 K .ret [j] h):PI (zSJ s) K 5 [b,d] h:=zB H
theorem zcv (aa:h.ok) (hv:zt v=true) (H:PI (zSJ s) (KR E [.tmp 4] fun x k=>x=v/\h.next<=k.wm) 0 [v0,v1] h.fresh):(zY E).call 139 [v0,v1] h=some [(v,h)]:=zA3 Tryz.f139 aa hv (zAA (zSJ s) H)
noncomputable def B85:Code:=zh Tryz.f85
noncomputable def C85 (s:Bool):Cx:=⟨E,s,none,B85,[([0],[0]),([1,0,0],[1]),([1,0,1,0,0],[]),([1,1,0,0],[1]),([1,1,0,1,0,0,0,0],[1,3]),([1,1,0,1,0,0,1,0,0,0],[1,3]),([1,1,0,1,0,0,1,0,0,1,0,0],[1,3,4]),([1,1,0,1,0,0,1,0,0,1,0,1,0,0],[]),([1,1,0,1,0,0,1,0,0,1,1,0],[1,3]),([1,1,0,1,0,0,1,0,0,1,1,1,0,0],[]),([1,1,0,1,0,0,1,1],[1,3]),([1,1,1,0,0],[1]),([1,1,1,0,1,0,0,0,0],[1,5]),([1,1,1,0,1,0,0,1,0,0,0],[1,5]),([1,1,1,0,1,0,0,1,0,0,1,0,0],[1,5,6]),([1,1,1,0,1,0,0,1,0,0,1,0,1,0,0],[]),([1,1,1,0,1,0,0,1,0,0,1,1,0],[1,5,6]),([1,1,1,0,1,0,0,1,0,0,1,1,1,0,0],[]),([1,1,1,0,1,0,0,1,1],[1,5]),([1,1,1,1,0],[])],[2],[]⟩
abbrev zqY (s:Bool) (K:KF) (h:AH):Prop:=PI (C85 s) K 2 [] h
abbrev zqX (s:Bool) (K:KF) (b:Value) (h:AH):Prop:=PI (C85 s) K 3 [b] h
abbrev zqW (s:Bool) (K:KF) (b d:Value) (h:AH):Prop:=PI (C85 s) K 4 [b,d] h
abbrev zqV (s:Bool) (K:KF) (h:AH):Prop:=PI (C85 s) K 7 [] h
abbrev zqU (s:Bool) (K:KF) (h:AH):Prop:=PI (C85 s) K 9 [] h
abbrev znN (s:Bool) (K:KF) (b d:Value) (h:AH):Prop:=PI (C85 s) K 10 [b,d] h
abbrev znM (s:Bool) (K:KF) (b d:Value) (h:AH):Prop:=PI (C85 s) K 12 [b,d] h
abbrev znL (s:Bool) (K:KF) (h:AH):Prop:=PI (C85 s) K 15 [] h
abbrev znK (s:Bool) (K:KF) (b d e:Value) (h:AH):Prop:=PI (C85 s) K 16 [b,d,e] h
abbrev znJ (s:Bool) (K:KF) (b d:Value) (h:AH):Prop:=PI (C85 s) K 18 [b,d] h
def zed (H :
 Ev s (zS 25 h d) fun b=>
 PI (C85 s) K 1 [b.1] b.2):PI (C85 s) K 0 [d] h:=zB H
def zec (H :
 EvO (zD E 25 0 d) fun q=>
 EvO (zG E 3 h q) fun r=>
 EvO (zC E .lss 3 r (iI 1)) fun f=>
 EvO (gdB f false (zD E 25 0 d)) fun t=>
 EvO (gdB f false (zG E 3 h t)) fun u=>
 EvO (gdB f false (zC E .gtr 3 u (iI 20000))) fun w=>
 EvO (zAB f (some (.bool true)) w) fun e=>
 EvO (gdB e false (zD E 25 1 d)) fun x=>
 EvO (gdB e false (zG E 22 h x)) fun g=>
 EvO (gdB e false (zN E (zk [(17,g)]) (zo B85 [1,0,0] 11) h)) fun i=>
 EvO (gdB e false (zC E .gtr 3 i (iI 4000))) fun j=>
 EvO (zAB e (some (.bool true)) j) fun b=>
 EvO (gdB b false (zD E 25 2 d)) fun k=>
 EvO (gdB b false (zG E 23 h k)) fun l=>
 EvO (gdB b false (zN E (zk [(23,l)]) (zo B85 [1,0,0] 17) h)) fun m=>
 EvO (gdB b false (zC E .gtr 3 m (iI 100000))) fun o=>
 EvO (zAB b (some (.bool true)) o) fun p=>
 BrK p (PI (C85 s) K 2 [] h) (PI (C85 s) K 3 [d] h)):PI (C85 s) K 1 [d] h:=zB H
theorem zP9:zN E (zk [(17,.slice a n c)]) (zo B85 [1,0,0] 11) h=some (iI (n:Int)):=by cases a <;> kernel_rfl
theorem zP8:zN E (zk [(23,.slice a n c)]) (zo B85 [1,0,0] 17) h=some (iI (n:Int)):=by cases a <;> kernel_rfl
def zeb (H :
 K .ret [(.bool false)] h):PI (C85 s) K 2 [] h:=zB H
def zea (H :
 PI (C85 s) K 4 [b,(iI 0)] h):PI (C85 s) K 3 [b] h:=zB H
def zPN (H :
 EvO (zD E 25 1 b) fun e=>
 EvO (zG E 22 h e) fun f=>
 EvO (zN E (zk [(29,f)]) (zo B85 [1,1,0,1,0,0,0,0] 3) h) fun g=>
 EvO (zC E .lss 3 d g) fun i=>
 BrK i (PI (C85 s) K 5 [b,d] h) (PI (C85 s) K 11 [b] h)):PI (C85 s) K 4 [b,d] h:=zB H
theorem zK8:zN E (zk [(29,.slice a n c)]) (zo B85 [1,1,0,1,0,0,0,0] 3) h=some (iI (n:Int)):=by cases a <;> kernel_rfl
def zeZ (H :
 EvO (zD E 25 1 b) fun f=>
 EvO (zG E 22 h f) fun g=>
 EvO (zE E 22 g d) fun i=>
 EvO (zG E 36 h i) fun j=>
 Ev s (zR (zY E) (some (.func (.func 138) #[] #[])) [j] h) fun e=>
 PI (C85 s) K 6 [b,d,e.1] e.2):PI (C85 s) K 5 [b,d] h:=zB H
def zeY (H :
 EvO (zAW .not e) fun f=>
 BrK f (PI (C85 s) K 7 [] h) (PI (C85 s) K 8 [b,d] h)):PI (C85 s) K 6 [b,d,e] h:=zB H
def zeX (H :
 K .ret [(.bool false)] h):PI (C85 s) K 7 [] h:=zB H
def zeW (H :
 EvO (zC E .gtr 3 e (iI 0)) fun b=>
 EvO (gdB b true (zD E 25 1 f)) fun o=>
 EvO (gdB b true (zG E 22 h o)) fun p=>
 EvO (gdB b true e) fun q=>
 EvO (gdB b true (zC E .sub 3 q (iI 1))) fun r=>
 EvO (gdB b true (zE E 22 p r)) fun t=>
 EvO (gdB b true (zG E 36 h t)) fun u=>
 EvO (gdB b true (zD E 25 1 f)) fun w=>
 EvO (gdB b true (zG E 22 h w)) fun g=>
 EvO (gdB b true e) fun i=>
 EvO (gdB b true (zE E 22 g i)) fun j=>
 EvO (gdB b true (zG E 36 h j)) fun k=>
 Ev s (gdW b true (zR (zY E) (some (.func (.func 88) #[] #[])) [u,k] h) h) fun d=>
 EvO (gdB b true (zC E .geq 3 d.1 (iI 0))) fun l=>
 EvO (zAB b l (some (.bool false))) fun m=>
 BrK m (PI (C85 s) K 9 [] d.2) (PI (C85 s) K 10 [f,e] d.2)):PI (C85 s) K 8 [f,e] h:=zB H
def zeV (H :
 K .ret [(.bool false)] h):PI (C85 s) K 9 [] h:=zB H
def zV6 (H :
 EvO (zC E .add 3 d (iI 1)) fun e=>
 PI (C85 s) K 4 [b,e] h):PI (C85 s) K 10 [b,d] h:=zB H
def zV5 (H :
 PI (C85 s) K 12 [b,(iI 0)] h):PI (C85 s) K 11 [b] h:=zB H
def zLj (H :
 EvO (zD E 25 2 b) fun e=>
 EvO (zG E 23 h e) fun f=>
 EvO (zN E (zk [(61,f)]) (zo B85 [1,1,1,0,1,0,0,0,0] 3) h) fun g=>
 EvO (zC E .lss 3 d g) fun i=>
 BrK i (PI (C85 s) K 13 [b,d] h) (PI (C85 s) K 19 [] h)):PI (C85 s) K 12 [b,d] h:=zB H
theorem zIa:zN E (zk [(61,.slice a n c)]) (zo B85 [1,1,1,0,1,0,0,0,0] 3) h=some (iI (n:Int)):=by cases a <;> kernel_rfl
def zV4 (H :
 EvO (zD E 25 2 d) fun f=>
 EvO (zG E 23 h f) fun g=>
 EvO (zE E 23 g e) fun i=>
 EvO (zG E 52 h i) fun j=>
 Ev s (zS 52 h (z8 E 52)) fun b=>
 Ev s (zf E 52 b.2 b.1 j) fun k=>
 PI (C85 s) K 14 [d,e,b.1] k.2):PI (C85 s) K 13 [d,e] h:=zB H
def zV3 (H :
 EvO (zD E 52 0 f) fun J=>
 EvO (zG E 3 h J) fun L=>
 EvO (zC E .lss 3 L (iI 0)) fun g=>
 EvO (gdB g false (zD E 52 0 f)) fun M=>
 EvO (gdB g false (zG E 3 h M)) fun N=>
 EvO (gdB g false (zD E 25 0 i)) fun O=>
 EvO (gdB g false (zG E 3 h O)) fun Q=>
 EvO (gdB g false (zC E .geq 3 N Q)) fun S=>
 EvO (zAB g (some (.bool true)) S) fun j=>
 EvO (gdB j false (zD E 52 2 f)) fun k=>
 EvO (gdB j false (zG E 3 h k)) fun l=>
 EvO (gdB j false (zC E .lss 3 l (iI 0))) fun m=>
 EvO (zAB j (some (.bool true)) m) fun d=>
 EvO (gdB d false (zD E 52 2 f)) fun o=>
 EvO (gdB d false (zG E 3 h o)) fun p=>
 EvO (gdB d false (zD E 25 0 i)) fun q=>
 EvO (gdB d false (zG E 3 h q)) fun r=>
 EvO (gdB d false (zC E .geq 3 p r)) fun t=>
 EvO (zAB d (some (.bool true)) t) fun e=>
 EvO (gdB e false (zD E 52 1 f)) fun u=>
 EvO (gdB e false (zG E 3 h u)) fun w=>
 EvO (gdB e false (zC E .lss 3 w (iI 0))) fun x=>
 EvO (zAB e (some (.bool true)) x) fun b=>
 EvO (gdB b false (zD E 52 1 f)) fun y=>
 EvO (gdB b false (zG E 3 h y)) fun z=>
 EvO (gdB b false (zD E 25 1 i)) fun A=>
 EvO (gdB b false (zG E 22 h A)) fun B=>
 EvO (gdB b false (zN E (zk [(102,B)]) (zo B85 [1,1,1,0,1,0,0,1,0,0,1,0,0] 32) h)) fun C=>
 EvO (gdB b false (zC E .geq 3 z C)) fun D=>
 EvO (zAB b (some (.bool true)) D) fun F=>
 BrK F (PI (C85 s) K 15 [] h) (PI (C85 s) K 16 [i,G,f] h)):PI (C85 s) K 14 [i,G,f] h:=zB H
theorem zM3:zN E (zk [(102,.slice a n c)]) (zo B85 [1,1,1,0,1,0,0,1,0,0,1,0,0] 32) h=some (iI (n:Int)):=by cases a <;> kernel_rfl
def zV2 (H :
 K .ret [(.bool false)] h):PI (C85 s) K 15 [] h:=zB H
def zV1 (H :
 EvO (zC E .gtr 3 e (iI 0)) fun b=>
 EvO (gdB b true (zD E 25 2 i)) fun k=>
 EvO (gdB b true (zG E 23 h k)) fun l=>
 EvO (gdB b true e) fun m=>
 EvO (gdB b true (zC E .sub 3 m (iI 1))) fun o=>
 EvO (gdB b true (zE E 23 l o)) fun p=>
 EvO (gdB b true (zG E 52 h p)) fun q=>
 EvO (gdB b true (zG E 52 h j)) fun r=>
 Ev s (gdW b true (zR (zY E) (some (.func (.func 139) #[] #[])) [q,r] h) h) fun d=>
 EvO (gdB b true (zAW .not d.1)) fun f=>
 EvO (zAB b f (some (.bool false))) fun g=>
 BrK g (PI (C85 s) K 17 [] d.2) (PI (C85 s) K 18 [i,e] d.2)):PI (C85 s) K 16 [i,e,j] h:=zB H
def zV0 (H :
 K .ret [(.bool false)] h):PI (C85 s) K 17 [] h:=zB H
def zVz (H :
 EvO (zC E .add 3 d (iI 1)) fun e=>
 PI (C85 s) K 12 [b,e] h):PI (C85 s) K 18 [b,d] h:=zB H
def zVy (H :
 K .ret [(.bool true)] h):PI (C85 s) K 19 [] h:=zB H
theorem zcF {Rp:Value->Prop} (aa:h.ok) (H:PI (C85 true) (KR E [.tmp 2] fun x k=>(zi x=true/\Rp x)/\h.next<=k.wm) 0 [v0] h.fresh):∃ v,Rp v/\(zY E).call 85 [v0] h=some [(v,h)]:=zDT Tryz.f85 aa (zAA (C85 true) H)
noncomputable def B23:Code:=zh Tryz.f23
noncomputable def C23 (s:Bool):Cx:=⟨E,s,none,B23,[([0],[0]),([1,0],[1]),([1,1,0,0],[3]),([1,1,0,1,0,0],[]),([1,1,1,0],[])],[2],[]⟩
def zfu (H :
 Ev s (zS 25 h d) fun b=>
 PI (C23 s) K 1 [b.1] b.2):PI (C23 s) K 0 [d] h:=zB H
def zft (H :
 EvO (zG E 25 h d) fun e=>
 Ev s (zR (zY E) (some (.func (.func 85) #[] #[])) [e] h) fun b=>
 PI (C23 s) K 2 [b.1] b.2):PI (C23 s) K 1 [d] h:=zB H
def zfs (H :
 EvO (zAW .not b) fun d=>
 BrK d (PI (C23 s) K 3 [] h) (PI (C23 s) K 4 [] h)):PI (C23 s) K 2 [b] h:=zB H
def zfr (H :
 K .ret [(iI 8)] h):PI (C23 s) K 3 [] h:=zB H
def zfq (H :
 K .ret [(iI 0)] h):PI (C23 s) K 4 [] h:=zB H
theorem zcN {Rp:Value->Prop} (aa:h.ok) (H:PI (C23 true) (KR E [.tmp 2] fun x k=>(zi x=true/\Rp x)/\h.next<=k.wm) 0 [v0] h.fresh):∃ v,Rp v/\(zY E).call 23 [v0] h=some [(v,h)]:=zDT Tryz.f23 aa (zAA (C23 true) H)
noncomputable def B19:Code:=zh Tryz.f19
noncomputable def C19 (s:Bool):Cx:=⟨E,s,none,B19,[([0],[0]),([1,0],[0])],[2],[]⟩
def zfw (H :
 PI (C19 s) K 1 [b] h):PI (C19 s) K 0 [b] h:=zB H
def zfv (H :
 Ev s (zR (zY E) (some (.func (.func 74) #[] #[])) (some [d,(.func (.func 75) #[] #[])]) h) fun b=>
 EvO (zAW .not b.1) fun e=>
 K .ret [e] b.2):PI (C19 s) K 1 [d] h:=zB H
theorem zge (aa:h.ok) (hv:zt v=true) (H:PI (C19 s) (KR E [.tmp 2] fun x k=>x=v/\h.next<=k.wm) 0 [v0] h.fresh):(zY E).call 19 [v0] h=some [(v,h)]:=zA3 Tryz.f19 aa hv (zAA (C19 s) H)
noncomputable def B74:Code:=zh Tryz.f74
noncomputable def C74 (s:Bool):Cx:=⟨E,s,none,B74,[([0],[0,1]),([1,0],[0,1])],[4],[]⟩
def zej (H :
 PI (C74 s) K 1 [b,d] h):PI (C74 s) K 0 [b,d] h:=zB H
def zei (H :
 Ev s (zR (zY E) (some (.func (.func 126) #[] #[])) [d,e] h) fun b=>
 EvO (zC E .geq 3 b.1 (iI 0)) fun f=>
 K .ret [f] b.2):PI (C74 s) K 1 [d,e] h:=zB H
theorem zgQ (aa:h.ok) (hv:zt v=true) (H:PI (C74 s) (KR E [.tmp 4] fun x k=>x=v/\h.next<=k.wm) 0 [v0,v1] h.fresh):(zY E).call 74 [v0,v1] h=some [(v,h)]:=zA3 Tryz.f74 aa hv (zAA (C74 s) H)
noncomputable def B75:Code:=zh Tryz.f75
noncomputable def C75 (s:Bool):Cx:=⟨E,s,none,B75,[([0],[0]),([1,0],[1])],[2],[]⟩
def zeh (H :
 Ev s (zS 32 h d) fun b=>
 PI (C75 s) K 1 [b.1] b.2):PI (C75 s) K 0 [d] h:=zB H
def zeg (H :
 EvO (zD E 32 1 b) fun d=>
 EvO (zG E 26 h d) fun e=>
 EvO (zN E (zk [(4,e)]) (zo B75 [1,0] 2) h) fun f=>
 EvO (zC E .gtr 3 f (iI 4000)) fun g=>
 K .ret [g] h):PI (C75 s) K 1 [b] h:=zB H
theorem zTe:zN E (zk [(4,.slice a n c)]) (zo B75 [1,0] 2) h=some (iI (n:Int)):=by cases a <;> kernel_rfl
theorem zgP (aa:h.ok) (hv:zt v=true) (H:PI (C75 s) (KR E [.tmp 2] fun x k=>x=v/\h.next<=k.wm) 0 [v0] h.fresh):(zY E).call 75 [v0] h=some [(v,h)]:=zA3 Tryz.f75 aa hv (zAA (C75 s) H)
noncomputable def zqt:Code:=zh Tryz.f126
noncomputable def zKY (s:Bool):Cx:=⟨E,s,none,zqt,[([0],[0,1]),([1,0,0],[0,1]),([1,0,1,0,0,0],[0,1,7,8]),([1,0,1,0,0,1,1,0,0,0],[0,1,7,8]),([1,0,1,0,0,1,1,0,0,1,0],[0,1,5,7,8]),([1,0,1,0,0,1,1,0,0,1,1,0,0],[5]),([1,0,1,0,0,1,1,1],[0,1,7,8]),([1,1,0],[])],[4],[]⟩
abbrev zoO (s:Bool) (K:KF) (b d e f:Value) (h:AH):Prop:=PI (zKY s) K 2 [b,d,e,f] h
def za7 (H :
 PI (zKY s) K 1 [b,d] h):PI (zKY s) K 0 [b,d] h:=zB H
def za6 (H :
 EvO (zN E (zk [(6,b)]) (zo zqt [1,0,0] 1) h) fun e=>
 PI (zKY s) K 2 [b,d,e,(iI 0)] h):PI (zKY s) K 1 [b,d] h:=zB H
theorem zQR:zN E (zk [(6,.slice a n c)]) (zo zqt [1,0,0] 1) h=some (iI (n:Int)):=by cases a <;> kernel_rfl
def zMN (H :
 EvO (zC E .lss 3 d b) fun g=>
 BrK g (PI (zKY s) K 3 [e,f,b,d] h) (PI (zKY s) K 7 [] h)):PI (zKY s) K 2 [e,f,b,d] h:=zB H
def za5 (H :
 PI (zKY s) K 4 [d,e,b,f,b] h):PI (zKY s) K 3 [d,e,f,b] h:=zB H
def za4 (H :
 EvO (zE E 83 d f) fun j=>
 EvO (zG E 32 h j) fun k=>
 Ev s (zR (zY E) e [k] h) fun b=>
 BrK b.1 (PI (zKY s) K 5 [f] b.2) (PI (zKY s) K 6 [d,e,g,i] b.2)):PI (zKY s) K 4 [d,e,f,g,i] h:=zB H
def za3 (H :
 K .ret [b] h):PI (zKY s) K 5 [b] h:=zB H
def za2 (H :
 EvO (zC E .add 3 f (iI 1)) fun g=>
 PI (zKY s) K 2 [b,d,e,g] h):PI (zKY s) K 6 [b,d,e,f] h:=zB H
def za1 (H :
 K .ret [(iI (-1))] h):PI (zKY s) K 7 [] h:=zB H
theorem zcy (aa:h.ok) (hv:zt v=true) (H:PI (zKY s) (KR E [.tmp 4] fun x k=>x=v/\h.next<=k.wm) 0 [v0,v1] h.fresh):(zY E).call 126 [v0,v1] h=some [(v,h)]:=zA3 Tryz.f126 aa hv (zAA (zKY s) H)
end Go.Proofs
namespace Go.Proofs
open Go Go.AM
set_option maxRecDepth 100000
theorem zlH:zAe E 253=some 1:=by kernel_rfl
theorem zlQ:tAS E 253=some (false,1):=by kernel_rfl
theorem zo8:z8 E 253=some (.int .u64 0):=by kernel_rfl
variable {s:Bool} {K:KF} {h:AH} {a:Option Addr} {n c:Nat} {b d e f g i j k l m o p q r t u w x y z A B C D F G J L M N O Q S U V W X Y Z v v0 v1 v2 v3 v4 v5 v8 v9 v10 v11 v12 v13 v14 v15 v16 v17 v18 v19 v20 v55:Value} {h1:AH} {Rp:Value->AH->Prop}
noncomputable def B235:Code:=zh Tryz.f235
noncomputable def zSG (s:Bool):Cx:=⟨E,s,none,B235,[([0],[0,1,2,3,4]),([1,0,0],[0,1,2,3,4]),([1,0,1,0,0],[1,2,3]),([1,0,1,0,1,0],[1,2]),([1,1,0],[1,2])],[10,11],[]⟩
def zLv (H :
 PI (zSG s) K 1 [b,d,e,f,g] h):PI (zSG s) K 0 [b,d,e,f,g] h:=zB H
def zLu (H :
 EvO (zE E 26 g d) fun k=>
 EvO (zG E 54 h k) fun l=>
 EvO (zE E 26 g b) fun m=>
 EvO (zG E 54 h m) fun o=>
 Ev s (zR (zY E) j [l,o] h) fun f=>
 EvO (zC E .lss 3 f.1 (iI 0)) fun e=>
 BrK e (PI (zSG s) K 2 [b,d,i] f.2) (PI (zSG s) K 4 [b,d] f.2)):PI (zSG s) K 1 [g,b,d,i,j] h:=zB H
def zXO (H :
 EvO (zv b) fun f=>
 EvO (zG E 3 h f) fun g=>
 EvO (zC E .add 3 g (iI 1)) fun i=>
 EvO (zv b) fun j=>
 Ev s (zf E 3 h j i) fun k=>
 PI (zSG s) K 3 [d,e] k.2):PI (zSG s) K 2 [d,e,b] h:=zB H
def zXN (H :
 K .ret [d,b] h):PI (zSG s) K 3 [b,d] h:=zB H
def zXM (H :
 K .ret [b,d] h):PI (zSG s) K 4 [b,d] h:=zB H
theorem zR7 (aa:h.ok) (hv:zi v=true) (H:PI (zSG true) (KR E [.tmp 10,.tmp 11] fun x k=>x=v/\h.next<=k.wm) 0 [v0,v1,v2,v3,v4] h.fresh):(zY E).call 235 [v0,v1,v2,v3,v4] h=some [(v,h)]:=zIs Tryz.f235 aa hv (zAA (zSG true) H)
theorem zcO (H:PI (zSG true) (KR E [.tmp 10,.tmp 11] fun x k=>(zi x=false\/k.wm<h.next)/\Rp x ⟨k.t,k.next,cond (Nat.ble h.wm k.wm) h.wm k.wm⟩) 0 [v0,v1,v2,v3,v4] h.fresh):Ev true ((zY E).call 235 [v0,v1,v2,v3,v4] h) fun x=>Rp x.1 x.2:=zD5 Tryz.f235 (zAA (zSG true) H)
noncomputable def zq9:Code:=zh Tryz.f196
noncomputable def zdA (s:Bool):Cx:=⟨E,s,none,zq9,[([0],[0,1,2,3,4,5]),([1,0],[0,1,2,3,4,5]),([1,1,0],[0,1,2,3,4,5]),([1,1,1,0],[0,1,2,4,5]),([1,1,1,1,0],[2])],[12],[]⟩
def zYJ (H :
 PI (zdA s) K 1 [b,d,e,f,g,i] h):PI (zdA s) K 0 [b,d,e,f,g,i] h:=zB H
def zYI (H :
 Ev s (zR (zY E) (some (.func (.func 235) #[] #[])) [d,g,i,e,f] h) fun b=>
 EvO (ze 0 b.1) fun k=>
 EvO (ze 1 b.1) fun l=>
 PI (zdA s) K 2 [d,k,l,j,e,f] b.2):PI (zdA s) K 1 [d,g,i,j,e,f] h:=zB H
def zYH (H :
 Ev s (zR (zY E) (some (.func (.func 235) #[] #[])) [d,i,j,e,f] h) fun b=>
 EvO (ze 0 b.1) fun k=>
 EvO (ze 1 b.1) fun l=>
 PI (zdA s) K 3 [d,g,k,e,f] b.2):PI (zdA s) K 2 [d,g,i,j,e,f] h:=zB H
def zYG (H :
 Ev s (zR (zY E) (some (.func (.func 235) #[] #[])) [d,e,f,g,i] h) fun b=>
 EvO (ze 0 b.1) fun k=>
 EvO (ze 1 b.1) fun j=>
 PI (zdA s) K 4 [j] b.2):PI (zdA s) K 3 [d,e,f,g,i] h:=zB H
def zYF (H :
 K .ret [b] h):PI (zdA s) K 4 [b] h:=zB H
theorem zkh (H:PI (zdA s) (KR E [.tmp 12] Rp) 0 [v0,v1,v2,v3,v4,v5] h):EvC E s Tryz.f196 [v0,v1,v2,v3,v4,v5] h Rp:=zAA (zdA s) H
theorem zgg:E.tab.fn.get 196=some Tryz.f196:=by kernel_rfl
theorem zcX:Tryz.f196.body=some zq9:=by kernel_rfl
theorem zgf (l:List Value) (h:AH):E.sum 196 l h=none:=by kernel_rfl
noncomputable def zrA:Code:=zh Tryz.f195
noncomputable def zoe (s:Bool):Cx:=⟨E,s,none,zrA,[([0],[0,1,2,3]),([1,0],[0,1,2,3])],[8],[]⟩
def zYL (H :
 PI (zoe s) K 1 [b,d,e,f] h):PI (zoe s) K 0 [b,d,e,f] h:=zB H
def zYK (H :
 EvO (zC E .sub 3 b (iI 1)) fun i=>
 EvO (zC E .add 3 b (iI 1)) fun j=>
 Ev s (zR (zY E) (some (.func (.func 196) #[] #[])) [e,i,b,j,f,g] h) fun d=>
 K .ret [d.1] d.2):PI (zoe s) K 1 [e,b,f,g] h:=zB H
theorem zki (H:PI (zoe s) (KR E [.tmp 8] Rp) 0 [v0,v1,v2,v3] h):EvC E s Tryz.f195 [v0,v1,v2,v3] h Rp:=zAA (zoe s) H
theorem zgi:E.tab.fn.get 195=some Tryz.f195:=by kernel_rfl
theorem zcY:Tryz.f195.body=some zrA:=by kernel_rfl
theorem zgh (l:List Value) (h:AH):E.sum 195 l h=none:=by kernel_rfl
noncomputable def zkx:Code:=zh Tryz.f147
noncomputable def zDb (s:Bool):Cx:=⟨E,s,none,zkx,[([0],[0,1,2,3]),([1,0],[0,1,2,3]),([1,1,0],[0,1,3,10]),([1,1,1,0],[0,1,3,10,11]),([1,1,1,1,0],[0,1,3,10,11,12]),([1,1,1,1,1,0],[0,1,3,10,11,12,13]),([1,1,1,1,1,1,0,0],[0,3,10,11,12,13,14]),([1,1,1,1,1,1,0,1,0,0,0],[0,3,10,11,12,13,14]),([1,1,1,1,1,1,0,1,0,0,1,0,0],[0,3,11,12,13,14]),([1,1,1,1,1,1,0,1,0,0,1,0,1,0],[0,3,11,12,13,14]),([1,1,1,1,1,1,0,1,0,0,1,0,1,1],[0,3,11,12,13,14]),([1,1,1,1,1,1,0,1,0,1],[0,3,11,12,13,14]),([1,1,1,1,1,1,1,0],[11,13]),([1,1,1,1,1,1,1,1,0,0],[13,55]),([1,1,1,1,1,1,1,1,0,1,0,0],[13]),([1,1,1,1,1,1,1,1,0,1,1,0],[13,55]),([1,1,1,1,1,1,1,1,0,1,1,1,0,0],[13]),([1,1,1,1,1,1,1,1,0,1,1,1,1,0],[13])],[8,9],[]⟩
abbrev zkX (s:Bool) (K:KF) (g i b d e f:Value) (h:AH):Prop:=PI (zDb s) K 11 [g,i,b,d,e,f] h
abbrev zkW (s:Bool) (K:KF) (b d:Value) (h:AH):Prop:=PI (zDb s) K 12 [b,d] h
def zaB (H :
 PI (zDb s) K 1 [b,d,e,f] h):PI (zDb s) K 0 [b,d,e,f] h:=zB H
def zaA (H :
 EvO (zC E .sub 3 e b) fun g=>
 PI (zDb s) K 2 [d,b,f,g] h):PI (zDb s) K 1 [d,b,e,f] h:=zB H
def zZ9 (H :
 Ev s (zS 3 h (z8 E 3)) fun d=>
 PI (zDb s) K 3 [e,f,g,b,d.1] d.2):PI (zDb s) K 2 [e,f,g,b] h:=zB H
def zZ8 (H :
 EvO (zp E (zk [(19,b)]) (zo zkx [1,1,1,0] 2)) fun i=>
 EvO (zC E .mul 3 i (iI 1)) fun j=>
 EvO (zC E .add 3 e j) fun k=>
 PI (zDb s) K 4 [f,e,g,b,d,k] h):PI (zDb s) K 3 [f,e,g,b,d] h:=zB H
def zZ7 (H :
 EvO (zp E (zk [(24,b)]) (zo zkx [1,1,1,1,0] 2)) fun j=>
 EvO (zC E .mul 3 j (iI 2)) fun k=>
 EvO (zC E .add 3 f k) fun l=>
 PI (zDb s) K 5 [g,f,i,b,d,e,l] h):PI (zDb s) K 4 [g,f,i,b,d,e] h:=zB H
def zZ6 (H :
 EvO (zp E (zk [(29,b)]) (zo zkx [1,1,1,1,1,0] 2)) fun k=>
 EvO (zC E .mul 3 k (iI 3)) fun l=>
 EvO (zC E .add 3 i l) fun m=>
 PI (zDb s) K 6 [g,j,b,d,e,f,m] h):PI (zDb s) K 5 [g,i,j,b,d,e,f] h:=zB H
def zZ5 (H :
 EvO (zC E .geq 3 b (iI 8)) fun k=>
 BrK k (PI (zDb s) K 7 [i,j,b,d,f,e,g] h) (PI (zDb s) K 12 [d,e] h)):PI (zDb s) K 6 [i,j,b,d,f,e,g] h:=zB H
def zZ4 (H :
 EvO (zC E .geq 3 g (iI 50)) fun k=>
 BrK k (PI (zDb s) K 8 [i,j,b,d,e,f] h) (PI (zDb s) K 11 [i,j,b,d,e,f] h)):PI (zDb s) K 7 [i,j,g,b,d,e,f] h:=zB H
def zZ3 (H :
 Ev s (zR (zY E) (some (.func (.func 195) #[] #[])) [g,d,b,i] h) fun j=>
 PI (zDb s) K 9 [g,i,b,j.1,e,f] j.2):PI (zDb s) K 8 [g,i,b,d,e,f] h:=zB H
def zZ2 (H :
 Ev s (zR (zY E) (some (.func (.func 195) #[] #[])) [g,e,b,i] h) fun j=>
 PI (zDb s) K 10 [g,i,b,d,j.1,f] j.2):PI (zDb s) K 9 [g,i,b,d,e,f] h:=zB H
def zRV (H :
 Ev s (zR (zY E) (some (.func (.func 195) #[] #[])) [g,f,b,i] h) fun j=>
 PI (zDb s) K 11 [g,i,b,d,e,j.1] j.2):PI (zDb s) K 10 [g,i,b,d,e,f] h:=zB H
def zRU (H :
 Ev s (zR (zY E) (some (.func (.func 196) #[] #[])) [i,d,e,f,b,j] h) fun g=>
 PI (zDb s) K 12 [b,g.1] g.2):PI (zDb s) K 11 [i,j,b,d,e,f] h:=zB H
def zRT (H :
 EvO (zG E 3 h b) fun e=>
 PI (zDb s) K 13 [d,e] h):PI (zDb s) K 12 [b,d] h:=zB H
def zRS (H :
 EvO (zC E .eql 3 d (iI 0)) fun e=>
 BrK e (PI (zDb s) K 14 [b] h) (PI (zDb s) K 15 [b,d] h)):PI (zDb s) K 13 [b,d] h:=zB H
def zRR (H :
 K .ret [b,(iI 1)] h):PI (zDb s) K 14 [b] h:=zB H
def zRQ (H :
 EvO (zC E .eql 3 d (iI 12)) fun e=>
 BrK e (PI (zDb s) K 16 [b] h) (PI (zDb s) K 17 [b] h)):PI (zDb s) K 15 [b,d] h:=zB H
def zRP (H :
 K .ret [b,(iI 2)] h):PI (zDb s) K 16 [b] h:=zB H
def zRO (H :
 K .ret [b,(iI 0)] h):PI (zDb s) K 17 [b] h:=zB H
theorem zSD {Rp:Value->Prop} (aa:h.ok) (H:PI (zDb true) (KR E [.tmp 8,.tmp 9] fun x k=>(zi x=true/\Rp x)/\h.next<=k.wm) 0 [v0,v1,v2,v3] h.fresh):∃ v,Rp v/\(zY E).call 147 [v0,v1,v2,v3] h=some [(v,h)]:=zDT Tryz.f147 aa (zAA (zDb true) H)
noncomputable def zrF:Code:=zh Tryz.f148
noncomputable def zN7 (s:Bool):Cx:=⟨E,s,none,zrF,[([0],[0,1,2]),([1,0],[0,2,8]),([1,1,0,0,0,0],[0,8,9]),([1,1,0,0,1,0,0],[0,8,9]),([1,1,0,0,1,0,1,0],[0,8,9]),([1,1,0,0,1,0,1,1],[0,8,9])],[],[]⟩
abbrev zn5 (s:Bool) (K:KF) (b d e:Value) (h:AH):Prop:=PI (zN7 s) K 2 [b,d,e] h
def zZ1 (H :
 PI (zN7 s) K 1 [b,e,d] h):PI (zN7 s) K 0 [b,d,e] h:=zB H
def zZ0 (H :
 EvO (zC E .sub 3 d (iI 1)) fun f=>
 PI (zN7 s) K 2 [b,e,f] h):PI (zN7 s) K 1 [b,d,e] h:=zB H
def zMD (H :
 EvO (zC E .lss 3 b d) fun f=>
 BrK f (PI (zN7 s) K 3 [e,b,d] h) (K .normal [] h)):PI (zN7 s) K 2 [e,b,d] h:=zB H
def zZz (H :
 EvO (zE E 26 b e) fun m=>
 EvO (zG E 54 h m) fun o=>
 EvO (zE E 26 b d) fun f=>
 EvO (zG E 54 h f) fun g=>
 EvO (zE E 26 b d) fun i=>
 Ev s (zf E 54 h i o) fun j=>
 EvO (zE E 26 b e) fun k=>
 Ev s (zf E 54 j.2 k g) fun l=>
 PI (zN7 s) K 4 [b,d,e] l.2):PI (zN7 s) K 3 [b,d,e] h:=zB H
def zZy (H :
 EvO (zC E .add 3 d (iI 1)) fun f=>
 PI (zN7 s) K 5 [b,f,e] h):PI (zN7 s) K 4 [b,d,e] h:=zB H
def zZx (H :
 EvO (zC E .sub 3 e (iI 1)) fun f=>
 PI (zN7 s) K 2 [b,d,f] h):PI (zN7 s) K 5 [b,d,e] h:=zB H
theorem zkp (H:PI (zN7 s) (KR E [] Rp) 0 [v0,v1,v2] h):EvC E s Tryz.f148 [v0,v1,v2,v3] h Rp:=zAA (zN7 s) H
theorem zgv:E.tab.fn.get 148=some Tryz.f148:=by kernel_rfl
theorem zcp:Tryz.f148.body=some zrF:=by kernel_rfl
theorem zgu (l:List Value) (h:AH):E.sum 148 l h=none:=by kernel_rfl
noncomputable def zk9:Code:=zh Tryz.f193
noncomputable def zof (s:Bool):Cx:=⟨E,s,none,zk9,[([0],[0]),([1,0],[0])],[2],[]⟩
def zYS (H :
 PI (zof s) K 1 [b] h):PI (zof s) K 0 [b] h:=zB H
def zYR (H :
 EvO (zN E (zk [(3,d)]) (zo zk9 [1,0] 1) h) fun e=>
 Ev s (zR (zY E) (some (.func (.func 93) #[] #[])) [e] h) fun b=>
 EvO (zp E (zk [(5,b.1)]) (zo zk9 [1,0] 3)) fun f=>
 K .ret [f] b.2):PI (zof s) K 1 [d] h:=zB H
theorem zSA (aa:h.ok) (hv:zi v=true) (H:PI (zof true) (KR E [.tmp 2] fun x k=>x=v/\h.next<=k.wm) 0 [v0] h.fresh):(zY E).call 193 [v0] h=some [(v,h)]:=zIs Tryz.f193 aa hv (zAA (zof true) H)
noncomputable def zPh:Code:=zh Tryz.f194
noncomputable def zdB (s:Bool):Cx:=⟨E,s,none,zPh,[([0],[0]),([1,0],[0]),([1,1,0],[0]),([1,1,1,0],[0]),([1,1,1,1,0],[0])],[2],[]⟩
def zYQ (H :
 PI (zdB s) K 1 [b] h):PI (zdB s) K 0 [b] h:=zB H
def zYP (H :
 EvO (zv b) fun d=>
 EvO (zG E 253 h d) fun e=>
 EvO (zv b) fun f=>
 EvO (zG E 253 h f) fun g=>
 EvO (zp E (zk [(8,g)]) (zo zPh [1,0] 6)) fun i=>
 EvO (zp E (zk [(5,e),(9,i)]) (zo zPh [1,0] 7)) fun j=>
 EvO (zv b) fun k=>
 Ev s (zf E 253 h k j) fun l=>
 PI (zdB s) K 2 [b] l.2):PI (zdB s) K 1 [b] h:=zB H
def zYO (H :
 EvO (zv b) fun d=>
 EvO (zG E 253 h d) fun e=>
 EvO (zv b) fun f=>
 EvO (zG E 253 h f) fun g=>
 EvO (zp E (zk [(17,g)]) (zo zPh [1,1,0] 6)) fun i=>
 EvO (zp E (zk [(14,e),(18,i)]) (zo zPh [1,1,0] 7)) fun j=>
 EvO (zv b) fun k=>
 Ev s (zf E 253 h k j) fun l=>
 PI (zdB s) K 3 [b] l.2):PI (zdB s) K 2 [b] h:=zB H
def zYN (H :
 EvO (zv b) fun d=>
 EvO (zG E 253 h d) fun e=>
 EvO (zv b) fun f=>
 EvO (zG E 253 h f) fun g=>
 EvO (zp E (zk [(26,g)]) (zo zPh [1,1,1,0] 6)) fun i=>
 EvO (zp E (zk [(23,e),(27,i)]) (zo zPh [1,1,1,0] 7)) fun j=>
 EvO (zv b) fun k=>
 Ev s (zf E 253 h k j) fun l=>
 PI (zdB s) K 4 [b] l.2):PI (zdB s) K 3 [b] h:=zB H
def zYM (H :
 EvO (zv b) fun d=>
 EvO (zG E 253 h d) fun e=>
 K .ret [e] h):PI (zdB s) K 4 [b] h:=zB H
theorem zkj (H:PI (zdB s) (KR E [.tmp 2] Rp) 0 [v0] h):EvC E s Tryz.f194 [v0] h Rp:=zAA (zdB s) H
theorem zgk:E.tab.fn.get 194=some Tryz.f194:=by kernel_rfl
theorem zcZ:Tryz.f194.body=some zPh:=by kernel_rfl
theorem zgj (l:List Value) (h:AH):E.sum 194 l h=none:=by kernel_rfl
noncomputable def zhG:Code:=zh Tryz.f153
noncomputable def zH4 (s:Bool):Cx:=⟨E,s,none,zhG,[([0],[0]),([1,0,0],[0,2]),([1,0,1,0,0],[0]),([1,0,1,0,1],[0]),([1,1,0,0],[0,2]),([1,1,0,1,0,0],[0,2]),([1,1,0,1,0,1],[0,2]),([1,1,1,0,0],[0,2]),([1,1,1,0,1,0,0],[0,2]),([1,1,1,0,1,0,1],[0,2]),([1,1,1,1,0],[0,2])],[2],[]⟩
abbrev zkS (s:Bool) (K:KF) (b d:Value) (h:AH):Prop:=PI (zH4 s) K 10 [b,d] h
def zH2 (H :
 PI (zH4 s) K 1 [b,(iI 0)] h):PI (zH4 s) K 0 [b] h:=zB H
def zH1 (H :
 EvO (zC E .geq 209 b (.int .u64 4294967296)) fun e=>
 BrK e (PI (zH4 s) K 2 [b] h) (PI (zH4 s) K 4 [b,d] h)):PI (zH4 s) K 1 [b,d] h:=zB H
def zH0 (H :
 EvO (zC E .geq 209 b (.int .u64 65536)) fun e=>
 BrK e (PI (zH4 s) K 5 [b,d] h) (PI (zH4 s) K 7 [b,d] h)):PI (zH4 s) K 4 [b,d] h:=zB H
def zZQ (H :
 EvO (zp E (zk [(9,b)]) (zo zhG [1,1,0,1,0,0] 1)) fun e=>
 PI (zH4 s) K 6 [e,d] h):PI (zH4 s) K 5 [b,d] h:=zB H
def zZP (H :
 EvO (zC E .add 3 d (iI 16)) fun e=>
 PI (zH4 s) K 7 [b,e] h):PI (zH4 s) K 6 [b,d] h:=zB H
def zHz (H :
 EvO (zC E .geq 209 b (.int .u64 256)) fun e=>
 BrK e (PI (zH4 s) K 8 [b,d] h) (PI (zH4 s) K 10 [b,d] h)):PI (zH4 s) K 7 [b,d] h:=zB H
def zZO (H :
 EvO (zp E (zk [(15,b)]) (zo zhG [1,1,1,0,1,0,0] 1)) fun e=>
 PI (zH4 s) K 9 [e,d] h):PI (zH4 s) K 8 [b,d] h:=zB H
def zZN (H :
 EvO (zC E .add 3 d (iI 8)) fun e=>
 PI (zH4 s) K 10 [b,e] h):PI (zH4 s) K 9 [b,d] h:=zB H
def zQ1 (H :
 EvO (zN E (zk [(20,b)]) (zo zhG [1,1,1,1,0] 2) h) fun e=>
 EvO (zC9 E 9 (some (.string ⟨#[0,1,2,2,3,3,3,3,4,4,4,4,4,4,4,4,5,5,5,5,5,5,5,5,5,5,5,5,5,5,5,5,6,6,6,6,6,6,6,6,6,6,6,6,6,6,6,6,6,6,6,6,6,6,6,6,6,6,6,6,6,6,6,6,7,7,7,7,7,7,7,7,7,7,7,7,7,7,7,7,7,7,7,7,7,7,7,7,7,7,7,7,7,7,7,7,7,7,7,7,7,7,7,7,7,7,7,7,7,7,7,7,7,7,7,7,7,7,7,7,7,7,7,7,7,7,7,7,8,8,8,8,8,8,8,8,8,8,8,8,8,8,8,8,8,8,8,8,8,8,8,8,8,8,8,8,8,8,8,8,8,8,8,8,8,8,8,8,8,8,8,8,8,8,8,8,8,8,8,8,8,8,8,8,8,8,8,8,8,8,8,8,8,8,8,8,8,8,8,8,8,8,8,8,8,8,8,8,8,8,8,8,8,8,8,8,8,8,8,8,8,8,8,8,8,8,8,8,8,8,8,8,8,8,8,8,8,8,8,8,8,8,8,8,8,8,8,8,8,8,8,8,8,8,8,8]⟩)) e) fun f=>
 EvO (zN E (zk [(22,f)]) (zo zhG [1,1,1,1,0] 4) h) fun g=>
 EvO (zC E .add 3 d g) fun i=>
 K .ret [i] h):PI (zH4 s) K 10 [b,d] h:=zB H
theorem zGO {Rp:Value->Prop} (aa:h.ok) (H:PI (zH4 true) (KR E [.tmp 2] fun x k=>(zi x=true/\Rp x)/\h.next<=k.wm) 0 [v0] h.fresh):∃ v,Rp v/\(zY E).call 153 [v0] h=some [(v,h)]:=zDT Tryz.f153 aa (zAA (zH4 true) H)
noncomputable def B93:Code:=zh Tryz.f93
noncomputable def C93 (s:Bool):Cx:=⟨E,s,none,B93,[([0],[0]),([1,0,0,0],[0]),([1,1,0],[0])],[2],[]⟩
def zeC (H :
 BrK (some (.bool false)) (PI (C93 s) K 1 [b] h) (PI (C93 s) K 2 [b] h)):PI (C93 s) K 0 [b] h:=zB H
def zeB (H :
 Ev s (zR (zY E) (some (.func (.func 153) #[] #[])) [d] h) fun b=>
 K .ret [b.1] b.2):PI (C93 s) K 2 [d] h:=zB H
theorem zcC (aa:h.ok) (hv:zi v=true) (H:PI (C93 true) (KR E [.tmp 2] fun x k=>x=v/\h.next<=k.wm) 0 [v0] h.fresh):(zY E).call 93 [v0] h=some [(v,h)]:=zIs Tryz.f93 aa hv (zAA (C93 true) H)
noncomputable def zSX:Code:=zh Tryz.f146
noncomputable def zGQ (s:Bool):Cx:=⟨E,s,none,zSX,[([0],[0,1,2]),([1,0],[0,1,8]),([1,1,0,0],[0,1,8]),([1,1,0,1,0],[0,1,8,9]),([1,1,0,1,1,0],[0,1,8,9,10]),([1,1,0,1,1,1,0,0,0,0],[0,1,8,9,10,11]),([1,1,0,1,1,1,0,0,1,0,0,0],[0,1,8,9,10,11]),([1,1,0,1,1,1,0,0,1,0,0,1,0,0],[0,1,8,9,10,11,12]),([1,1,0,1,1,1,0,0,1,0,0,1,0,1,0],[0,1,8,9,10,11,12]),([1,1,0,1,1,1,0,0,1,0,0,1,1],[0,1,8,9,10,11,12]),([1,1,0,1,1,1,0,0,1,1],[0,1,8,9,10,11])],[],[]⟩
abbrev zn7 (s:Bool) (K:KF) (e f g i b d:Value) (h:AH):Prop:=PI (zGQ s) K 5 [e,f,g,i,b,d] h
abbrev zn6 (s:Bool) (K:KF) (f g i j b d e:Value) (h:AH):Prop:=PI (zGQ s) K 9 [f,g,i,j,b,d,e] h
def zaK (H :
 EvO (zC E .sub 3 e b) fun f=>
 PI (zGQ s) K 1 [d,b,f] h):PI (zGQ s) K 0 [d,b,e] h:=zB H
def zaJ (H :
 EvO (zC E .geq 3 b (iI 8)) fun f=>
 BrK f (PI (zGQ s) K 2 [d,e,b] h) (K .normal [] h)):PI (zGQ s) K 1 [d,e,b] h:=zB H
def zaI (H :
 EvO (zN E (zk [(18,d)]) (zo zSX [1,1,0,0] 1) h) fun g=>
 Ev s (zS 253 h (z8 E 253)) fun b=>
 Ev s (zf E 253 b.2 b.1 g) fun i=>
 PI (zGQ s) K 3 [e,f,d,b.1] i.2):PI (zGQ s) K 2 [e,f,d] h:=zB H
def zaH (H :
 Ev s (zR (zY E) (some (.func (.func 193) #[] #[])) [b] h) fun d=>
 PI (zGQ s) K 4 [e,f,b,g,d.1] d.2):PI (zGQ s) K 3 [e,f,b,g] h:=zB H
def zaG (H :
 EvO (zp E (zk [(23,e)]) (zo zSX [1,1,0,1,1,0] 2)) fun i=>
 EvO (zC E .mul 3 i (iI 2)) fun j=>
 EvO (zC E .add 3 d j) fun k=>
 EvO (zC E .sub 3 k (iI 1)) fun l=>
 PI (zGQ s) K 5 [f,d,e,g,b,l] h):PI (zGQ s) K 4 [f,d,e,g,b] h:=zB H
def zME (H :
 EvO (zp E (zk [(30,f)]) (zo zSX [1,1,0,1,1,1,0,0,0,0] 3)) fun j=>
 EvO (zC E .mul 3 j (iI 2)) fun k=>
 EvO (zC E .add 3 e k) fun l=>
 EvO (zC E .add 3 l (iI 1)) fun m=>
 EvO (zC E .leq 3 b m) fun o=>
 BrK o (PI (zGQ s) K 6 [g,e,f,i,d,b] h) (K .normal [] h)):PI (zGQ s) K 5 [g,e,f,i,d,b] h:=zB H
def zaF (H :
 Ev s (zR (zY E) (some (.func (.func 194) #[] #[])) [f] h) fun e=>
 EvO (zC E .sub 140 b (.int .u64 1)) fun k=>
 EvO (zp E (zk [(38,e.1),(40,k)]) (zo zSX [1,1,0,1,1,1,0,0,1,0,0,0] 3)) fun l=>
 EvO (zN E (zk [(41,l)]) (zo zSX [1,1,0,1,1,1,0,0,1,0,0,0] 4) e.2) fun m=>
 PI (zGQ s) K 7 [g,i,j,f,b,d,m] e.2):PI (zGQ s) K 6 [g,i,j,f,b,d] h:=zB H
def zaE (H :
 EvO (zC E .geq 3 b f) fun k=>
 BrK k (PI (zGQ s) K 8 [g,i,f,j,d,e,b] h) (PI (zGQ s) K 9 [g,i,f,j,d,e,b] h)):PI (zGQ s) K 7 [g,i,f,j,d,e,b] h:=zB H
def zaD (H :
 EvO (zC E .sub 3 e f) fun k=>
 PI (zGQ s) K 9 [g,i,f,j,b,d,k] h):PI (zGQ s) K 8 [g,i,f,j,b,d,e] h:=zB H
def zaC (H :
 EvO (zC E .add 3 f e) fun u=>
 EvO (zC E .add 3 f e) fun w=>
 EvO (zE E 26 d w) fun i=>
 EvO (zG E 54 h i) fun j=>
 EvO (zE E 26 d b) fun k=>
 EvO (zG E 54 h k) fun l=>
 EvO (zE E 26 d b) fun m=>
 Ev s (zf E 54 h m j) fun o=>
 EvO (zE E 26 d u) fun p=>
 Ev s (zf E 54 o.2 p l) fun q=>
 PI (zGQ s) K 10 [d,f,r,t,g,b] q.2):PI (zGQ s) K 9 [d,f,r,t,g,b,e] h:=zB H
def zRW (H :
 EvO (zC E .add 3 d (iI 1)) fun j=>
 PI (zGQ s) K 5 [e,f,g,i,b,j] h):PI (zGQ s) K 10 [e,f,g,i,b,d] h:=zB H
theorem zkq (H:PI (zGQ s) (KR E [] Rp) 0 [v0,v1,v2] h):EvC E s Tryz.f146 [v0,v1,v2,v3] h Rp:=zAA (zGQ s) H
theorem zgx:E.tab.fn.get 146=some Tryz.f146:=by kernel_rfl
theorem zcq:Tryz.f146.body=some zSX:=by kernel_rfl
theorem zgw (l:List Value) (h:AH):E.sum 146 l h=none:=by kernel_rfl
noncomputable def zrB:Code:=zh Tryz.f192
noncomputable def zIJ (s:Bool):Cx:=⟨E,s,none,zrB,[([0],[0,1,2,3,4]),([1,0,0,0,0],[0,2,3,4,10]),([1,0,0,0,1,0,0],[0,2,3,4,10,11]),([1,0,0,0,1,1,0,0],[0,2,3,4,10,11]),([1,0,0,0,1,1,0,1,0],[0,2,3,4,10,11]),([1,0,0,0,1,1,1,0,0],[0,2,3,4,10,11]),([1,0,0,0,1,1,1,1,0],[0,2,3,4,10,11]),([1,0,0,0,1,1,1,1,1],[0,2,3,4,11])],[],[]⟩
abbrev znq (s:Bool) (K:KF) (d e f g b:Value) (h:AH):Prop:=PI (zIJ s) K 1 [d,e,f,g,b] h
abbrev znp (s:Bool) (K:KF) (e f g i b d:Value) (h:AH):Prop:=PI (zIJ s) K 5 [e,f,g,i,b,d] h
def zYY (H :
 PI (zIJ s) K 1 [b,e,f,g,d] h):PI (zIJ s) K 0 [b,d,e,f,g] h:=zB H
def zL1 (H :
 EvO (zC E .mul 3 (iI 2) b) fun i=>
 EvO (zC E .add 3 i (iI 1)) fun j=>
 PI (zIJ s) K 2 [d,e,f,g,b,j] h):PI (zIJ s) K 1 [d,e,f,g,b] h:=zB H
def zL0 (H :
 EvO (zC E .geq 3 b e) fun j=>
 BrK j (K .normal [] h) (PI (zIJ s) K 3 [f,e,g,i,d,b] h)):PI (zIJ s) K 2 [f,e,g,i,d,b] h:=zB H
def zYX (H :
 EvO (zC E .add 3 d (iI 1)) fun z=>
 EvO (zC E .lss 3 z j) fun b=>
 EvO (gdB b true k) fun A=>
 EvO (gdB b true g) fun B=>
 EvO (gdB b true i) fun C=>
 EvO (gdB b true d) fun D=>
 EvO (gdB b true (zC E .add 3 C D)) fun F=>
 EvO (gdB b true (zE E 26 B F)) fun l=>
 EvO (gdB b true (zG E 54 h l)) fun m=>
 EvO (gdB b true g) fun o=>
 EvO (gdB b true i) fun p=>
 EvO (gdB b true d) fun q=>
 EvO (gdB b true (zC E .add 3 p q)) fun r=>
 EvO (gdB b true (zC E .add 3 r (iI 1))) fun t=>
 EvO (gdB b true (zE E 26 o t)) fun u=>
 EvO (gdB b true (zG E 54 h u)) fun w=>
 Ev s (gdW b true (zR (zY E) A [m,w] h) h) fun e=>
 EvO (gdB b true (zC E .lss 3 e.1 (iI 0))) fun x=>
 EvO (zAB b x (some (.bool false))) fun y=>
 BrK y (PI (zIJ s) K 4 [g,j,i,k,f,d] e.2) (PI (zIJ s) K 5 [g,j,i,k,f,d] e.2)):PI (zIJ s) K 3 [g,j,i,k,f,d] h:=zB H
def zYW (H :
 EvO (zC E .add 3 d (iI 1)) fun j=>
 PI (zIJ s) K 5 [e,f,g,i,b,j] h):PI (zIJ s) K 4 [e,f,g,i,b,d] h:=zB H
def zYV (H :
 EvO (zC E .add 3 g d) fun q=>
 EvO (zE E 26 f q) fun r=>
 EvO (zG E 54 h r) fun t=>
 EvO (zC E .add 3 g e) fun i=>
 EvO (zE E 26 f i) fun j=>
 EvO (zG E 54 h j) fun k=>
 Ev s (zR (zY E) o [t,k] h) fun b=>
 EvO (zC E .lss 3 b.1 (iI 0)) fun l=>
 EvO (zAW .not l) fun m=>
 BrK m (K .ret [] b.2) (PI (zIJ s) K 6 [f,p,g,o,d,e] b.2)):PI (zIJ s) K 5 [f,p,g,o,d,e] h:=zB H
def zYU (H :
 EvO (zC E .add 3 f e) fun w=>
 EvO (zC E .add 3 f b) fun x=>
 EvO (zC E .add 3 f b) fun g=>
 EvO (zE E 26 d g) fun i=>
 EvO (zG E 54 h i) fun j=>
 EvO (zC E .add 3 f e) fun k=>
 EvO (zE E 26 d k) fun l=>
 EvO (zG E 54 h l) fun m=>
 EvO (zE E 26 d w) fun o=>
 Ev s (zf E 54 h o j) fun p=>
 EvO (zE E 26 d x) fun q=>
 Ev s (zf E 54 p.2 q m) fun r=>
 PI (zIJ s) K 7 [d,t,f,u,b] r.2):PI (zIJ s) K 6 [d,t,f,u,e,b] h:=zB H
def zYT (H :
 PI (zIJ s) K 1 [d,e,f,g,b] h):PI (zIJ s) K 7 [d,e,f,g,b] h:=zB H
theorem zkk (H:PI (zIJ s) (KR E [] Rp) 0 [v0,v1,v2,v3,v4] h):EvC E s Tryz.f192 [v0,v1,v2,v3,v4] h Rp:=zAA (zIJ s) H
theorem zgm:E.tab.fn.get 192=some Tryz.f192:=by kernel_rfl
theorem zca:Tryz.f192.body=some zrB:=by kernel_rfl
theorem zgl (l:List Value) (h:AH):E.sum 192 l h=none:=by kernel_rfl
noncomputable def zo5:Code:=zh Tryz.f145
noncomputable def zFs (s:Bool):Cx:=⟨E,s,none,zo5,[([0],[0,1,2,3]),([1,0],[0,1,2,3,8]),([1,1,0],[0,1,2,3,8,9]),([1,1,1,0,0],[0,3,8,9,10]),([1,1,1,0,1,0,0,0,0],[0,3,8,9,10,11]),([1,1,1,0,1,0,0,1,0,0],[0,3,8,9,10,11]),([1,1,1,0,1,0,0,1,1],[0,3,8,9,10,11]),([1,1,1,1,0],[0,3,8,9,10]),([1,1,1,1,1,0,0,0,0],[0,3,8,9,12]),([1,1,1,1,1,0,0,1,0,0,0],[0,3,8,9,12]),([1,1,1,1,1,0,0,1,0,0,1],[0,3,8,9,12]),([1,1,1,1,1,0,0,1,1],[0,3,8,9,12])],[],[]⟩
abbrev zn9 (s:Bool) (K:KF) (e f g i b d:Value) (h:AH):Prop:=PI (zFs s) K 4 [e,f,g,i,b,d] h
abbrev zn8 (s:Bool) (K:KF) (d e f g b:Value) (h:AH):Prop:=PI (zFs s) K 8 [d,e,f,g,b] h
def zaS (H :
 PI (zFs s) K 1 [d,b,e,f,b] h):PI (zFs s) K 0 [d,b,e,f] h:=zB H
def zaR (H :
 PI (zFs s) K 2 [b,d,e,f,g,(iI 0)] h):PI (zFs s) K 1 [b,d,e,f,g] h:=zB H
def zaQ (H :
 EvO (zC E .sub 3 e d) fun j=>
 PI (zFs s) K 3 [b,f,g,i,j] h):PI (zFs s) K 2 [b,d,e,f,g,i] h:=zB H
def zaP (H :
 EvO (zC E .sub 3 b (iI 1)) fun i=>
 EvO (zp E (zk [(18,i)]) (zo zo5 [1,1,1,0,0] 2)) fun j=>
 PI (zFs s) K 4 [d,e,f,g,b,j] h):PI (zFs s) K 3 [d,e,f,g,b] h:=zB H
def zMG (H :
 EvO (zC E .geq 3 d (iI 0)) fun j=>
 BrK j (PI (zFs s) K 5 [e,f,g,i,b,d] h) (PI (zFs s) K 7 [e,f,g,i,b] h)):PI (zFs s) K 4 [e,f,g,i,b,d] h:=zB H
def zaO (H :
 Ev s (zR (zY E) (some (.func (.func 192) #[] #[])) [e,d,b,g,f] h) fun j=>
 PI (zFs s) K 6 [e,f,g,i,b,d] j.2):PI (zFs s) K 5 [e,f,g,i,b,d] h:=zB H
def zaN (H :
 EvO (zC E .sub 3 d (iI 1)) fun j=>
 PI (zFs s) K 4 [e,f,g,i,b,j] h):PI (zFs s) K 6 [e,f,g,i,b,d] h:=zB H
def zaM (H :
 EvO (zC E .sub 3 b (iI 1)) fun i=>
 PI (zFs s) K 8 [d,e,f,g,i] h):PI (zFs s) K 7 [d,e,f,g,b] h:=zB H
def zMF (H :
 EvO (zC E .geq 3 b (iI 0)) fun i=>
 BrK i (PI (zFs s) K 9 [d,e,f,g,b] h) (K .normal [] h)):PI (zFs s) K 8 [d,e,f,g,b] h:=zB H
def zaL (H :
 EvO (zC E .add 3 e b) fun r=>
 EvO (zC E .add 3 e b) fun t=>
 EvO (zE E 26 d t) fun f=>
 EvO (zG E 54 h f) fun g=>
 EvO (zE E 26 d e) fun i=>
 EvO (zG E 54 h i) fun j=>
 EvO (zE E 26 d e) fun k=>
 Ev s (zf E 54 h k g) fun l=>
 EvO (zE E 26 d r) fun m=>
 Ev s (zf E 54 l.2 m j) fun o=>
 PI (zFs s) K 10 [d,p,e,q,b] o.2):PI (zFs s) K 9 [d,p,e,q,b] h:=zB H
def zRY (H :
 Ev s (zR (zY E) (some (.func (.func 192) #[] #[])) [d,g,b,f,e] h) fun i=>
 PI (zFs s) K 11 [d,e,f,g,b] i.2):PI (zFs s) K 10 [d,e,f,g,b] h:=zB H
def zRX (H :
 EvO (zC E .sub 3 b (iI 1)) fun i=>
 PI (zFs s) K 8 [d,e,f,g,i] h):PI (zFs s) K 11 [d,e,f,g,b] h:=zB H
theorem zkr (H:PI (zFs s) (KR E [] Rp) 0 [v0,v1,v2,v3] h):EvC E s Tryz.f145 [v0,v1,v2,v3] h Rp:=zAA (zFs s) H
theorem zgz:E.tab.fn.get 145=some Tryz.f145:=by kernel_rfl
theorem zcr:Tryz.f145.body=some zo5:=by kernel_rfl
theorem zgy (l:List Value) (h:AH):E.sum 145 l h=none:=by kernel_rfl
noncomputable def zrG:Code:=zh Tryz.f144
noncomputable def zJW (s:Bool):Cx:=⟨E,s,none,zrG,[([0],[0,1,2,3]),([1,0,0,0,0],[0,1,2,3,8]),([1,0,0,1,0,0,0],[0,1,2,3,8]),([1,0,0,1,0,0,1,0,0,0,0],[0,1,2,3,8,9]),([1,0,0,1,0,0,1,0,0,1,0,0],[0,1,2,3,8,9]),([1,0,0,1,0,0,1,0,0,1,1],[0,1,2,3,8,9]),([1,0,0,1,1],[0,1,2,3,8])],[],[]⟩
abbrev zoC (s:Bool) (K:KF) (b d e f g:Value) (h:AH):Prop:=PI (zJW s) K 1 [b,d,e,f,g] h
abbrev zoB (s:Bool) (K:KF) (b d e f g i:Value) (h:AH):Prop:=PI (zJW s) K 3 [b,d,e,f,g,i] h
abbrev zoA (s:Bool) (K:KF) (b d e f g:Value) (h:AH):Prop:=PI (zJW s) K 6 [b,d,e,f,g] h
def zaX (H :
 EvO (zC E .add 3 b (iI 1)) fun g=>
 PI (zJW s) K 1 [d,b,e,f,g] h):PI (zJW s) K 0 [d,b,e,f] h:=zB H
def zMI (H :
 EvO (zC E .lss 3 d b) fun i=>
 BrK i (PI (zJW s) K 2 [e,f,b,g,d] h) (K .normal [] h)):PI (zJW s) K 1 [e,f,b,g,d] h:=zB H
def zaW (H :
 PI (zJW s) K 3 [d,e,f,g,b,b] h):PI (zJW s) K 2 [d,e,f,g,b] h:=zB H
def zMH (H :
 EvO (zC E .gtr 3 f g) fun b=>
 EvO (gdB b true i) fun t=>
 EvO (gdB b true e) fun u=>
 EvO (gdB b true f) fun w=>
 EvO (gdB b true (zE E 26 u w)) fun x=>
 EvO (gdB b true (zG E 54 h x)) fun y=>
 EvO (gdB b true e) fun z=>
 EvO (gdB b true f) fun j=>
 EvO (gdB b true (zC E .sub 3 j (iI 1))) fun k=>
 EvO (gdB b true (zE E 26 z k)) fun l=>
 EvO (gdB b true (zG E 54 h l)) fun m=>
 Ev s (gdW b true (zR (zY E) t [y,m] h) h) fun d=>
 EvO (gdB b true (zC E .lss 3 d.1 (iI 0))) fun o=>
 EvO (zAB b o (some (.bool false))) fun p=>
 BrK p (PI (zJW s) K 4 [e,g,q,i,r,f] d.2) (PI (zJW s) K 6 [e,g,q,i,r] d.2)):PI (zJW s) K 3 [e,g,q,i,r,f] h:=zB H
def zaV (H :
 EvO (zC E .sub 3 d (iI 1)) fun q=>
 EvO (zC E .sub 3 d (iI 1)) fun r=>
 EvO (zE E 26 b r) fun t=>
 EvO (zG E 54 h t) fun u=>
 EvO (zE E 26 b d) fun e=>
 EvO (zG E 54 h e) fun f=>
 EvO (zE E 26 b d) fun g=>
 Ev s (zf E 54 h g u) fun i=>
 EvO (zE E 26 b q) fun j=>
 Ev s (zf E 54 i.2 j f) fun k=>
 PI (zJW s) K 5 [b,l,m,o,p,d] k.2):PI (zJW s) K 4 [b,l,m,o,p,d] h:=zB H
def zaU (H :
 EvO (zC E .sub 3 i (iI 1)) fun j=>
 PI (zJW s) K 3 [b,d,e,f,g,j] h):PI (zJW s) K 5 [b,d,e,f,g,i] h:=zB H
def zaT (H :
 EvO (zC E .add 3 g (iI 1)) fun i=>
 PI (zJW s) K 1 [b,d,e,f,i] h):PI (zJW s) K 6 [b,d,e,f,g] h:=zB H
theorem zks (H:PI (zJW s) (KR E [] Rp) 0 [v0,v1,v2,v3] h):EvC E s Tryz.f144 [v0,v1,v2,v3] h Rp:=zAA (zJW s) H
theorem zg1:E.tab.fn.get 144=some Tryz.f144:=by kernel_rfl
theorem zcs:Tryz.f144.body=some zrG:=by kernel_rfl
theorem zg0 (l:List Value) (h:AH):E.sum 144 l h=none:=by kernel_rfl
noncomputable def zrE:Code:=zh Tryz.f149
noncomputable def zBT (s:Bool):Cx:=⟨E,s,none,zrE,[([0],[0,1,2,3]),([1,0],[0,1,2,3]),([1,1,0,0],[0,1,2,3,9]),([1,1,0,1,0,0,0,0],[0,1,2,3,9,10]),([1,1,0,1,0,0,1,0,0,0,0,0,0,0],[0,1,2,3,9,10]),([1,1,0,1,0,0,1,0,0,0,0,0,1,0],[0,1,2,3,9,10]),([1,1,0,1,0,0,1,0,0,1,0,0],[0,1,2,3,9,10]),([1,1,0,1,0,0,1,0,0,1,0,1,0,0],[]),([1,1,0,1,0,0,1,0,0,1,1,0,0],[0,1,2,3,9,10]),([1,1,0,1,0,0,1,0,0,1,1,0,1,0,0],[]),([1,1,0,1,0,0,1,0,0,1,1,1,0],[0,1,2,3,9,10]),([1,1,0,1,0,0,1,0,0,1,1,1,1,0,0],[0,1,2,3,9,10]),([1,1,0,1,0,0,1,0,0,1,1,1,1,0,1,0,0],[0,1,2,3,9,10]),([1,1,0,1,0,0,1,0,0,1,1,1,1,0,1,0,1,0,0,0,0],[0,1,2,3,9,10,11]),([1,1,0,1,0,0,1,0,0,1,1,1,1,0,1,0,1,0,0,1,0,0,0,0],[0,1,2,3,9,10,11]),([1,1,0,1,0,0,1,0,0,1,1,1,1,0,1,0,1,0,0,1,0,0,1],[0,1,2,3,9,10,11]),([1,1,0,1,0,0,1,0,0,1,1,1,1,0,1,0,1,0,0,1,1],[0,1,2,3,9,10,11]),([1,1,0,1,0,0,1,0,0,1,1,1,1,1,0],[0,1,2,3,9,10]),([1,1,0,1,0,0,1,0,0,1,1,1,1,1,1,0,0],[0,1,2,3,9,10]),([1,1,0,1,0,0,1,0,0,1,1,1,1,1,1,0,1,0,0,0,0],[0,1,2,3,9,10,12]),([1,1,0,1,0,0,1,0,0,1,1,1,1,1,1,0,1,0,0,1,0,0,0,0],[0,1,2,3,9,10,12]),([1,1,0,1,0,0,1,0,0,1,1,1,1,1,1,0,1,0,0,1,0,0,1],[0,1,2,3,9,10,12]),([1,1,0,1,0,0,1,0,0,1,1,1,1,1,1,0,1,0,0,1,1],[0,1,2,3,9,10,12]),([1,1,0,1,0,0,1,1],[0,1,2,3,9,10]),([1,1,1,0],[])],[8],[]⟩
abbrev zn4 (s:Bool) (K:KF) (d e f g i b:Value) (h:AH):Prop:=PI (zBT s) K 3 [d,e,f,g,i,b] h
abbrev zn1 (s:Bool) (K:KF) (d e f g i b:Value) (h:AH):Prop:=PI (zBT s) K 4 [d,e,f,g,i,b] h
abbrev zn0 (s:Bool) (K:KF) (d e f g i b:Value) (h:AH):Prop:=PI (zBT s) K 6 [d,e,f,g,i,b] h
abbrev zkV (s:Bool) (K:KF) (e f g i j b d:Value) (h:AH):Prop:=PI (zBT s) K 13 [e,f,g,i,j,b,d] h
abbrev zZv (s:Bool) (K:KF) (d e f g i b:Value) (h:AH):Prop:=PI (zBT s) K 17 [d,e,f,g,i,b] h
abbrev zkU (s:Bool) (K:KF) (e f g i j b d:Value) (h:AH):Prop:=PI (zBT s) K 19 [e,f,g,i,j,b,d] h
abbrev zZt (s:Bool) (K:KF) (d e f g i b:Value) (h:AH):Prop:=PI (zBT s) K 23 [d,e,f,g,i,b] h
def zZw (H :
 PI (zBT s) K 1 [b,d,e,f] h):PI (zBT s) K 0 [b,d,e,f] h:=zB H
def zZu (H :
 EvO (zC E .add 3 b (iI 1)) fun g=>
 PI (zBT s) K 2 [d,b,e,f,g] h):PI (zBT s) K 1 [d,b,e,f] h:=zB H
def zZs (H :
 PI (zBT s) K 3 [b,d,e,f,g,(iI 0)] h):PI (zBT s) K 2 [b,d,e,f,g] h:=zB H
def zMC (H :
 EvO (zC E .lss 3 b (iI 5)) fun j=>
 BrK j (PI (zBT s) K 4 [d,e,f,g,i,b] h) (PI (zBT s) K 24 [] h)):PI (zBT s) K 3 [d,e,f,g,i,b] h:=zB H
def zMB (H :
 EvO (zC E .lss 3 f i) fun b=>
 EvO (gdB b true j) fun u=>
 EvO (gdB b true g) fun w=>
 EvO (gdB b true f) fun x=>
 EvO (gdB b true (zE E 26 w x)) fun y=>
 EvO (gdB b true (zG E 54 h y)) fun z=>
 EvO (gdB b true g) fun A=>
 EvO (gdB b true f) fun k=>
 EvO (gdB b true (zC E .sub 3 k (iI 1))) fun l=>
 EvO (gdB b true (zE E 26 A l)) fun m=>
 EvO (gdB b true (zG E 54 h m)) fun o=>
 Ev s (gdW b true (zR (zY E) u [z,o] h) h) fun d=>
 EvO (gdB b true (zC E .lss 3 d.1 (iI 0))) fun p=>
 EvO (gdB b true (zAW .not p)) fun q=>
 EvO (zAB b q (some (.bool false))) fun r=>
 BrK r (PI (zBT s) K 5 [g,t,i,j,f,e] d.2) (PI (zBT s) K 6 [g,t,i,j,f,e] d.2)):PI (zBT s) K 4 [g,t,i,j,f,e] h:=zB H
def zZr (H :
 EvO (zC E .add 3 i (iI 1)) fun j=>
 PI (zBT s) K 4 [d,e,f,g,j,b] h):PI (zBT s) K 5 [d,e,f,g,i,b] h:=zB H
def zZq (H :
 EvO (zC E .eql 3 e d) fun j=>
 BrK j (PI (zBT s) K 7 [] h) (PI (zBT s) K 8 [f,g,d,i,e,b] h)):PI (zBT s) K 6 [f,g,d,i,e,b] h:=zB H
def zZp (H :
 K .ret [(.bool true)] h):PI (zBT s) K 7 [] h:=zB H
def zZo (H :
 EvO (zC E .sub 3 e d) fun j=>
 EvO (zC E .lss 3 j (iI 50)) fun k=>
 BrK k (PI (zBT s) K 9 [] h) (PI (zBT s) K 10 [f,d,e,g,i,b] h)):PI (zBT s) K 8 [f,d,e,g,i,b] h:=zB H
def zZn (H :
 K .ret [(.bool false)] h):PI (zBT s) K 9 [] h:=zB H
def zRN (H :
 EvO (zC E .sub 3 d (iI 1)) fun q=>
 EvO (zC E .sub 3 d (iI 1)) fun r=>
 EvO (zE E 26 b r) fun t=>
 EvO (zG E 54 h t) fun u=>
 EvO (zE E 26 b d) fun f=>
 EvO (zG E 54 h f) fun g=>
 EvO (zE E 26 b d) fun i=>
 Ev s (zf E 54 h i u) fun j=>
 EvO (zE E 26 b q) fun k=>
 Ev s (zf E 54 j.2 k g) fun l=>
 PI (zBT s) K 11 [b,m,o,p,d,e] l.2):PI (zBT s) K 10 [b,m,o,p,d,e] h:=zB H
def zRM (H :
 EvO (zC E .sub 3 e d) fun j=>
 EvO (zC E .geq 3 j (iI 2)) fun k=>
 BrK k (PI (zBT s) K 12 [f,d,g,i,e,b] h) (PI (zBT s) K 17 [f,d,g,i,e,b] h)):PI (zBT s) K 11 [f,d,g,i,e,b] h:=zB H
def zRL (H :
 EvO (zC E .sub 3 d (iI 1)) fun j=>
 PI (zBT s) K 13 [e,f,g,i,d,b,j] h):PI (zBT s) K 12 [e,f,g,i,d,b] h:=zB H
def zJM (H :
 EvO (zC E .geq 3 d (iI 1)) fun k=>
 BrK k (PI (zBT s) K 14 [e,f,g,i,j,b,d] h) (PI (zBT s) K 17 [e,f,g,i,j,b] h)):PI (zBT s) K 13 [e,f,g,i,j,b,d] h:=zB H
def zRK (H :
 EvO (zE E 26 f b) fun o=>
 EvO (zG E 54 h o) fun p=>
 EvO (zC E .sub 3 b (iI 1)) fun q=>
 EvO (zE E 26 f q) fun r=>
 EvO (zG E 54 h r) fun t=>
 Ev s (zR (zY E) g [p,t] h) fun d=>
 EvO (zC E .lss 3 d.1 (iI 0)) fun i=>
 EvO (zAW .not i) fun j=>
 BrK j (PI (zBT s) K 17 [f,k,l,g,m,e] d.2) (PI (zBT s) K 15 [f,k,l,g,m,e,b] d.2)):PI (zBT s) K 14 [f,k,l,g,m,e,b] h:=zB H
def zRJ (H :
 EvO (zC E .sub 3 b (iI 1)) fun r=>
 EvO (zC E .sub 3 b (iI 1)) fun t=>
 EvO (zE E 26 d t) fun u=>
 EvO (zG E 54 h u) fun w=>
 EvO (zE E 26 d b) fun f=>
 EvO (zG E 54 h f) fun g=>
 EvO (zE E 26 d b) fun i=>
 Ev s (zf E 54 h i w) fun j=>
 EvO (zE E 26 d r) fun k=>
 Ev s (zf E 54 j.2 k g) fun l=>
 PI (zBT s) K 16 [d,m,o,p,q,e,b] l.2):PI (zBT s) K 15 [d,m,o,p,q,e,b] h:=zB H
def zRI (H :
 EvO (zC E .sub 3 d (iI 1)) fun k=>
 PI (zBT s) K 13 [e,f,g,i,j,b,k] h):PI (zBT s) K 16 [e,f,g,i,j,b,d] h:=zB H
def zRH (H :
 EvO (zC E .sub 3 d e) fun j=>
 EvO (zC E .geq 3 j (iI 2)) fun k=>
 BrK k (PI (zBT s) K 18 [f,g,d,i,e,b] h) (PI (zBT s) K 23 [f,g,d,i,e,b] h)):PI (zBT s) K 17 [f,g,d,i,e,b] h:=zB H
def zRG (H :
 EvO (zC E .add 3 d (iI 1)) fun j=>
 PI (zBT s) K 19 [e,f,g,i,d,b,j] h):PI (zBT s) K 18 [e,f,g,i,d,b] h:=zB H
def zJL (H :
 EvO (zC E .lss 3 d e) fun k=>
 BrK k (PI (zBT s) K 20 [f,g,e,i,j,b,d] h) (PI (zBT s) K 23 [f,g,e,i,j,b] h)):PI (zBT s) K 19 [f,g,e,i,j,b,d] h:=zB H
def zRF (H :
 EvO (zE E 26 f b) fun o=>
 EvO (zG E 54 h o) fun p=>
 EvO (zC E .sub 3 b (iI 1)) fun q=>
 EvO (zE E 26 f q) fun r=>
 EvO (zG E 54 h r) fun t=>
 Ev s (zR (zY E) g [p,t] h) fun d=>
 EvO (zC E .lss 3 d.1 (iI 0)) fun i=>
 EvO (zAW .not i) fun j=>
 BrK j (PI (zBT s) K 23 [f,k,l,g,m,e] d.2) (PI (zBT s) K 21 [f,k,l,g,m,e,b] d.2)):PI (zBT s) K 20 [f,k,l,g,m,e,b] h:=zB H
def zRE (H :
 EvO (zC E .sub 3 b (iI 1)) fun r=>
 EvO (zC E .sub 3 b (iI 1)) fun t=>
 EvO (zE E 26 d t) fun u=>
 EvO (zG E 54 h u) fun w=>
 EvO (zE E 26 d b) fun f=>
 EvO (zG E 54 h f) fun g=>
 EvO (zE E 26 d b) fun i=>
 Ev s (zf E 54 h i w) fun j=>
 EvO (zE E 26 d r) fun k=>
 Ev s (zf E 54 j.2 k g) fun l=>
 PI (zBT s) K 22 [d,m,o,p,q,e,b] l.2):PI (zBT s) K 21 [d,m,o,p,q,e,b] h:=zB H
def zRD (H :
 EvO (zC E .add 3 d (iI 1)) fun k=>
 PI (zBT s) K 19 [e,f,g,i,j,b,k] h):PI (zBT s) K 22 [e,f,g,i,j,b,d] h:=zB H
def zRC (H :
 EvO (zC E .add 3 b (iI 1)) fun j=>
 PI (zBT s) K 3 [d,e,f,g,i,j] h):PI (zBT s) K 23 [d,e,f,g,i,b] h:=zB H
def zRB (H :
 K .ret [(.bool false)] h):PI (zBT s) K 24 [] h:=zB H
theorem zko (H:PI (zBT s) (KR E [.tmp 8] Rp) 0 [v0,v1,v2,v3] h):EvC E s Tryz.f149 [v0,v1,v2,v3] h Rp:=zAA (zBT s) H
theorem zgt:E.tab.fn.get 149=some Tryz.f149:=by kernel_rfl
theorem zco:Tryz.f149.body=some zrE:=by kernel_rfl
theorem zgs (l:List Value) (h:AH):E.sum 149 l h=none:=by kernel_rfl
noncomputable def zrD:Code:=zh Tryz.f150
noncomputable def zFG (s:Bool):Cx:=⟨E,s,none,zrD,[([0],[0,1,2,3,4]),([1,0],[0,1,2,3,4]),([1,1,0],[0,1,2,4]),([1,1,1,0,0,0,0,0,0,0,0,0],[0,1,4,11,12]),([1,1,1,0,0,0,0,0,0,0,1,0],[0,1,4,11,12]),([1,1,1,0,0,0,0,1,0,0,0,0,0],[0,1,4,11,12]),([1,1,1,0,0,0,0,1,0,0,0,1,0],[0,1,4,11,12]),([1,1,1,0,0,0,0,1,1,0,0],[0,1,4,11,12]),([1,1,1,0,0,0,0,1,1,1,0],[0,1,4,11,12]),([1,1,1,0,0,0,0,1,1,1,1,0],[0,1,4,11,12]),([1,1,1,0,0,0,0,1,1,1,1,1],[0,1,4,11,12]),([1,1,1,1,0],[11])],[10],[]⟩
abbrev ziC (s:Bool) (K:KF) (e f g b d:Value) (h:AH):Prop:=PI (zFG s) K 3 [e,f,g,b,d] h
abbrev ziB (s:Bool) (K:KF) (e f g b d:Value) (h:AH):Prop:=PI (zFG s) K 5 [e,f,g,b,d] h
abbrev znz (s:Bool) (K:KF) (e f g b d:Value) (h:AH):Prop:=PI (zFG s) K 7 [e,f,g,b,d] h
def zZh (H :
 PI (zFG s) K 1 [b,d,e,f,g] h):PI (zFG s) K 0 [b,d,e,f,g] h:=zB H
def zZg (H :
 EvO (zE E 26 b l) fun p=>
 EvO (zG E 54 h p) fun q=>
 EvO (zE E 26 b d) fun e=>
 EvO (zG E 54 h e) fun f=>
 EvO (zE E 26 b d) fun g=>
 Ev s (zf E 54 h g q) fun i=>
 EvO (zE E 26 b l) fun j=>
 Ev s (zf E 54 i.2 j f) fun k=>
 PI (zFG s) K 2 [b,d,m,o] k.2):PI (zFG s) K 1 [b,d,m,l,o] h:=zB H
def zZf (H :
 EvO (zC E .add 3 b (iI 1)) fun g=>
 EvO (zC E .sub 3 e (iI 1)) fun i=>
 PI (zFG s) K 3 [d,b,f,g,i] h):PI (zFG s) K 2 [d,b,e,f] h:=zB H
def zMA (H :
 EvO (zC E .leq 3 d e) fun b=>
 EvO (gdB b true j) fun r=>
 EvO (gdB b true g) fun t=>
 EvO (gdB b true i) fun u=>
 EvO (gdB b true (zE E 26 t u)) fun w=>
 EvO (gdB b true (zG E 54 h w)) fun x=>
 EvO (gdB b true g) fun y=>
 EvO (gdB b true d) fun k=>
 EvO (gdB b true (zE E 26 y k)) fun l=>
 EvO (gdB b true (zG E 54 h l)) fun m=>
 Ev s (gdW b true (zR (zY E) r [x,m] h) h) fun f=>
 EvO (gdB b true (zC E .lss 3 f.1 (iI 0))) fun o=>
 EvO (gdB b true (zAW .not o)) fun p=>
 EvO (zAB b p (some (.bool false))) fun q=>
 BrK q (PI (zFG s) K 4 [g,i,j,d,e] f.2) (PI (zFG s) K 5 [g,i,j,d,e] f.2)):PI (zFG s) K 3 [g,i,j,d,e] h:=zB H
def zZe (H :
 EvO (zC E .add 3 b (iI 1)) fun i=>
 PI (zFG s) K 3 [e,f,g,i,d] h):PI (zFG s) K 4 [e,f,g,b,d] h:=zB H
def zL9 (H :
 EvO (zC E .leq 3 e d) fun b=>
 EvO (gdB b true j) fun q=>
 EvO (gdB b true g) fun r=>
 EvO (gdB b true i) fun t=>
 EvO (gdB b true (zE E 26 r t)) fun u=>
 EvO (gdB b true (zG E 54 h u)) fun w=>
 EvO (gdB b true g) fun x=>
 EvO (gdB b true d) fun k=>
 EvO (gdB b true (zE E 26 x k)) fun l=>
 EvO (gdB b true (zG E 54 h l)) fun m=>
 Ev s (gdW b true (zR (zY E) q [w,m] h) h) fun f=>
 EvO (gdB b true (zC E .lss 3 f.1 (iI 0))) fun o=>
 EvO (zAB b o (some (.bool false))) fun p=>
 BrK p (PI (zFG s) K 6 [g,i,j,e,d] f.2) (PI (zFG s) K 7 [g,i,j,e,d] f.2)):PI (zFG s) K 5 [g,i,j,e,d] h:=zB H
def zZd (H :
 EvO (zC E .sub 3 d (iI 1)) fun i=>
 PI (zFG s) K 5 [e,f,g,b,i] h):PI (zFG s) K 6 [e,f,g,b,d] h:=zB H
def zL8 (H :
 EvO (zC E .gtr 3 b d) fun i=>
 BrK i (PI (zFG s) K 11 [b] h) (PI (zFG s) K 8 [e,f,g,b,d] h)):PI (zFG s) K 7 [e,f,g,b,d] h:=zB H
def zZc (H :
 EvO (zE E 26 e d) fun p=>
 EvO (zG E 54 h p) fun q=>
 EvO (zE E 26 e b) fun f=>
 EvO (zG E 54 h f) fun g=>
 EvO (zE E 26 e b) fun i=>
 Ev s (zf E 54 h i q) fun j=>
 EvO (zE E 26 e d) fun k=>
 Ev s (zf E 54 j.2 k g) fun l=>
 PI (zFG s) K 9 [e,m,o,b,d] l.2):PI (zFG s) K 8 [e,m,o,b,d] h:=zB H
def zZb (H :
 EvO (zC E .add 3 b (iI 1)) fun i=>
 PI (zFG s) K 10 [e,f,g,i,d] h):PI (zFG s) K 9 [e,f,g,b,d] h:=zB H
def zRA (H :
 EvO (zC E .sub 3 d (iI 1)) fun i=>
 PI (zFG s) K 3 [e,f,g,b,i] h):PI (zFG s) K 10 [e,f,g,b,d] h:=zB H
def zJK (H :
 K .ret [b] h):PI (zFG s) K 11 [b] h:=zB H
theorem zkn (H:PI (zFG s) (KR E [.tmp 10] Rp) 0 [v0,v1,v2,v3,v4] h):EvC E s Tryz.f150 [v0,v1,v2,v3,v4] h Rp:=zAA (zFG s) H
theorem zgr:E.tab.fn.get 150=some Tryz.f150:=by kernel_rfl
theorem zcm:Tryz.f150.body=some zrD:=by kernel_rfl
theorem zgq (l:List Value) (h:AH):E.sum 150 l h=none:=by kernel_rfl
noncomputable def zrC:Code:=zh Tryz.f151
noncomputable def zBz (s:Bool):Cx:=⟨E,s,none,zrC,[([0],[0,1,2,3,4]),([1,0],[0,1,2,3,4]),([1,1,0],[0,1,2,4]),([1,1,1,0,0,0,0,0],[0,1,4,12,13]),([1,1,1,0,0,0,1,0],[0,1,4,12,13]),([1,1,1,1,0,0,0,0,0],[0,1,4,12,13]),([1,1,1,1,0,0,0,1,0],[0,1,4,12,13]),([1,1,1,1,1,0,0],[0,1,4,12,13]),([1,1,1,1,1,0,1,0,0],[0,1,13]),([1,1,1,1,1,0,1,0,1,0],[13]),([1,1,1,1,1,1,0],[0,1,4,12,13]),([1,1,1,1,1,1,1,0],[0,1,4,12,13]),([1,1,1,1,1,1,1,1,0],[0,1,4,12,13]),([1,1,1,1,1,1,1,1,1,0,0,0,0,0,0,0,0,0],[0,1,4,12,13]),([1,1,1,1,1,1,1,1,1,0,0,0,0,0,0,0,1,0],[0,1,4,12,13]),([1,1,1,1,1,1,1,1,1,0,0,0,0,1,0,0,0,0,0],[0,1,4,12,13]),([1,1,1,1,1,1,1,1,1,0,0,0,0,1,0,0,0,1,0],[0,1,4,12,13]),([1,1,1,1,1,1,1,1,1,0,0,0,0,1,1,0,0],[0,1,4,12,13]),([1,1,1,1,1,1,1,1,1,0,0,0,0,1,1,1,0],[0,1,4,12,13]),([1,1,1,1,1,1,1,1,1,0,0,0,0,1,1,1,1,0],[0,1,4,12,13]),([1,1,1,1,1,1,1,1,1,0,0,0,0,1,1,1,1,1],[0,1,4,12,13]),([1,1,1,1,1,1,1,1,1,1,0],[0,1,13]),([1,1,1,1,1,1,1,1,1,1,1,0],[13])],[10,11],[]⟩
abbrev zny (s:Bool) (K:KF) (e f g b d:Value) (h:AH):Prop:=PI (zBz s) K 3 [e,f,g,b,d] h
abbrev ziA (s:Bool) (K:KF) (e f g b d:Value) (h:AH):Prop:=PI (zBz s) K 5 [e,f,g,b,d] h
abbrev znx (s:Bool) (K:KF) (e f g b d:Value) (h:AH):Prop:=PI (zBz s) K 7 [e,f,g,b,d] h
abbrev zZZ (s:Bool) (K:KF) (e f g b d:Value) (h:AH):Prop:=PI (zBz s) K 13 [e,f,g,b,d] h
abbrev zZY (s:Bool) (K:KF) (e f g b d:Value) (h:AH):Prop:=PI (zBz s) K 15 [e,f,g,b,d] h
abbrev zkT (s:Bool) (K:KF) (e f g b d:Value) (h:AH):Prop:=PI (zBz s) K 17 [e,f,g,b,d] h
def zZa (H :
 PI (zBz s) K 1 [b,d,e,f,g] h):PI (zBz s) K 0 [b,d,e,f,g] h:=zB H
def zZX (H :
 EvO (zE E 26 b l) fun p=>
 EvO (zG E 54 h p) fun q=>
 EvO (zE E 26 b d) fun e=>
 EvO (zG E 54 h e) fun f=>
 EvO (zE E 26 b d) fun g=>
 Ev s (zf E 54 h g q) fun i=>
 EvO (zE E 26 b l) fun j=>
 Ev s (zf E 54 i.2 j f) fun k=>
 PI (zBz s) K 2 [b,d,m,o] k.2):PI (zBz s) K 1 [b,d,m,l,o] h:=zB H
def zZW (H :
 EvO (zC E .add 3 b (iI 1)) fun g=>
 EvO (zC E .sub 3 e (iI 1)) fun i=>
 PI (zBz s) K 3 [d,b,f,g,i] h):PI (zBz s) K 2 [d,b,e,f] h:=zB H
def zL7 (H :
 EvO (zC E .leq 3 d e) fun b=>
 EvO (gdB b true j) fun q=>
 EvO (gdB b true g) fun r=>
 EvO (gdB b true d) fun t=>
 EvO (gdB b true (zE E 26 r t)) fun u=>
 EvO (gdB b true (zG E 54 h u)) fun w=>
 EvO (gdB b true g) fun x=>
 EvO (gdB b true i) fun k=>
 EvO (gdB b true (zE E 26 x k)) fun l=>
 EvO (gdB b true (zG E 54 h l)) fun m=>
 Ev s (gdW b true (zR (zY E) q [w,m] h) h) fun f=>
 EvO (gdB b true (zC E .lss 3 f.1 (iI 0))) fun o=>
 EvO (zAB b o (some (.bool false))) fun p=>
 BrK p (PI (zBz s) K 4 [g,i,j,d,e] f.2) (PI (zBz s) K 5 [g,i,j,d,e] f.2)):PI (zBz s) K 3 [g,i,j,d,e] h:=zB H
def zZV (H :
 EvO (zC E .add 3 b (iI 1)) fun i=>
 PI (zBz s) K 3 [e,f,g,i,d] h):PI (zBz s) K 4 [e,f,g,b,d] h:=zB H
def zL6 (H :
 EvO (zC E .leq 3 e d) fun b=>
 EvO (gdB b true j) fun r=>
 EvO (gdB b true g) fun t=>
 EvO (gdB b true d) fun u=>
 EvO (gdB b true (zE E 26 t u)) fun w=>
 EvO (gdB b true (zG E 54 h w)) fun x=>
 EvO (gdB b true g) fun y=>
 EvO (gdB b true i) fun k=>
 EvO (gdB b true (zE E 26 y k)) fun l=>
 EvO (gdB b true (zG E 54 h l)) fun m=>
 Ev s (gdW b true (zR (zY E) r [x,m] h) h) fun f=>
 EvO (gdB b true (zC E .lss 3 f.1 (iI 0))) fun o=>
 EvO (gdB b true (zAW .not o)) fun p=>
 EvO (zAB b p (some (.bool false))) fun q=>
 BrK q (PI (zBz s) K 6 [g,i,j,e,d] f.2) (PI (zBz s) K 7 [g,i,j,e,d] f.2)):PI (zBz s) K 5 [g,i,j,e,d] h:=zB H
def zZU (H :
 EvO (zC E .sub 3 d (iI 1)) fun i=>
 PI (zBz s) K 5 [e,f,g,b,i] h):PI (zBz s) K 6 [e,f,g,b,d] h:=zB H
def zZT (H :
 EvO (zC E .gtr 3 d b) fun i=>
 BrK i (PI (zBz s) K 8 [e,f,b] h) (PI (zBz s) K 10 [e,f,g,d,b] h)):PI (zBz s) K 7 [e,f,g,d,b] h:=zB H
def zZS (H :
 EvO (zE E 26 d l) fun m=>
 EvO (zG E 54 h m) fun o=>
 EvO (zE E 26 d b) fun e=>
 EvO (zG E 54 h e) fun f=>
 EvO (zE E 26 d b) fun g=>
 Ev s (zf E 54 h g o) fun i=>
 EvO (zE E 26 d l) fun j=>
 Ev s (zf E 54 i.2 j f) fun k=>
 PI (zBz s) K 9 [b] k.2):PI (zBz s) K 8 [d,l,b] h:=zB H
def zZR (H :
 K .ret [b,(.bool true)] h):PI (zBz s) K 9 [b] h:=zB H
def zQ9 (H :
 EvO (zE E 26 e d) fun p=>
 EvO (zG E 54 h p) fun q=>
 EvO (zE E 26 e b) fun f=>
 EvO (zG E 54 h f) fun g=>
 EvO (zE E 26 e b) fun i=>
 Ev s (zf E 54 h i q) fun j=>
 EvO (zE E 26 e d) fun k=>
 Ev s (zf E 54 j.2 k g) fun l=>
 PI (zBz s) K 11 [e,m,o,b,d] l.2):PI (zBz s) K 10 [e,m,o,b,d] h:=zB H
def zQ8 (H :
 EvO (zC E .add 3 b (iI 1)) fun i=>
 PI (zBz s) K 12 [e,f,g,i,d] h):PI (zBz s) K 11 [e,f,g,b,d] h:=zB H
def zQ7 (H :
 EvO (zC E .sub 3 d (iI 1)) fun i=>
 PI (zBz s) K 13 [e,f,g,b,i] h):PI (zBz s) K 12 [e,f,g,b,d] h:=zB H
def zJJ (H :
 EvO (zC E .leq 3 d e) fun b=>
 EvO (gdB b true j) fun q=>
 EvO (gdB b true g) fun r=>
 EvO (gdB b true d) fun t=>
 EvO (gdB b true (zE E 26 r t)) fun u=>
 EvO (gdB b true (zG E 54 h u)) fun w=>
 EvO (gdB b true g) fun x=>
 EvO (gdB b true i) fun k=>
 EvO (gdB b true (zE E 26 x k)) fun l=>
 EvO (gdB b true (zG E 54 h l)) fun m=>
 Ev s (gdW b true (zR (zY E) q [w,m] h) h) fun f=>
 EvO (gdB b true (zC E .lss 3 f.1 (iI 0))) fun o=>
 EvO (zAB b o (some (.bool false))) fun p=>
 BrK p (PI (zBz s) K 14 [g,i,j,d,e] f.2) (PI (zBz s) K 15 [g,i,j,d,e] f.2)):PI (zBz s) K 13 [g,i,j,d,e] h:=zB H
def zQ6 (H :
 EvO (zC E .add 3 b (iI 1)) fun i=>
 PI (zBz s) K 13 [e,f,g,i,d] h):PI (zBz s) K 14 [e,f,g,b,d] h:=zB H
def zJI (H :
 EvO (zC E .leq 3 e d) fun b=>
 EvO (gdB b true j) fun r=>
 EvO (gdB b true g) fun t=>
 EvO (gdB b true d) fun u=>
 EvO (gdB b true (zE E 26 t u)) fun w=>
 EvO (gdB b true (zG E 54 h w)) fun x=>
 EvO (gdB b true g) fun y=>
 EvO (gdB b true i) fun k=>
 EvO (gdB b true (zE E 26 y k)) fun l=>
 EvO (gdB b true (zG E 54 h l)) fun m=>
 Ev s (gdW b true (zR (zY E) r [x,m] h) h) fun f=>
 EvO (gdB b true (zC E .lss 3 f.1 (iI 0))) fun o=>
 EvO (gdB b true (zAW .not o)) fun p=>
 EvO (zAB b p (some (.bool false))) fun q=>
 BrK q (PI (zBz s) K 16 [g,i,j,e,d] f.2) (PI (zBz s) K 17 [g,i,j,e,d] f.2)):PI (zBz s) K 15 [g,i,j,e,d] h:=zB H
def zQ5 (H :
 EvO (zC E .sub 3 d (iI 1)) fun i=>
 PI (zBz s) K 15 [e,f,g,b,i] h):PI (zBz s) K 16 [e,f,g,b,d] h:=zB H
def zJH (H :
 EvO (zC E .gtr 3 d b) fun i=>
 BrK i (PI (zBz s) K 21 [e,f,b] h) (PI (zBz s) K 18 [e,f,g,d,b] h)):PI (zBz s) K 17 [e,f,g,d,b] h:=zB H
def zQ4 (H :
 EvO (zE E 26 e d) fun p=>
 EvO (zG E 54 h p) fun q=>
 EvO (zE E 26 e b) fun f=>
 EvO (zG E 54 h f) fun g=>
 EvO (zE E 26 e b) fun i=>
 Ev s (zf E 54 h i q) fun j=>
 EvO (zE E 26 e d) fun k=>
 Ev s (zf E 54 j.2 k g) fun l=>
 PI (zBz s) K 19 [e,m,o,b,d] l.2):PI (zBz s) K 18 [e,m,o,b,d] h:=zB H
def zQ3 (H :
 EvO (zC E .add 3 b (iI 1)) fun i=>
 PI (zBz s) K 20 [e,f,g,i,d] h):PI (zBz s) K 19 [e,f,g,b,d] h:=zB H
def zQ2 (H :
 EvO (zC E .sub 3 d (iI 1)) fun i=>
 PI (zBz s) K 13 [e,f,g,b,i] h):PI (zBz s) K 20 [e,f,g,b,d] h:=zB H
def zJG (H :
 EvO (zE E 26 d l) fun m=>
 EvO (zG E 54 h m) fun o=>
 EvO (zE E 26 d b) fun e=>
 EvO (zG E 54 h e) fun f=>
 EvO (zE E 26 d b) fun g=>
 Ev s (zf E 54 h g o) fun i=>
 EvO (zE E 26 d l) fun j=>
 Ev s (zf E 54 i.2 j f) fun k=>
 PI (zBz s) K 22 [b] k.2):PI (zBz s) K 21 [d,l,b] h:=zB H
def zJF (H :
 K .ret [b,(.bool false)] h):PI (zBz s) K 22 [b] h:=zB H
theorem zkm (H:PI (zBz s) (KR E [.tmp 10,.tmp 11] Rp) 0 [v0,v1,v2,v3,v4] h):EvC E s Tryz.f151 [v0,v1,v2,v3,v4] h Rp:=zAA (zBz s) H
theorem zgp:E.tab.fn.get 151=some Tryz.f151:=by kernel_rfl
theorem zcl:Tryz.f151.body=some zrC:=by kernel_rfl
theorem zgo (l:List Value) (h:AH):E.sum 151 l h=none:=by kernel_rfl
noncomputable def B92:Code:=zh Tryz.f92
noncomputable def C92 (s:Bool):Cx:=⟨E,s,none,B92,[([0],[0,1,2,3,4]),([1,0],[0,1,2,3,4,10]),([1,1,0,0,0,0],[0,1,2,3,4,10,11]),([1,1,0,0,0,1,0,0],[0,1,2,3,4,10,11,12]),([1,1,0,0,0,1,0,1,0,0],[0,1,2,4]),([1,1,0,0,0,1,1,0,0],[0,1,2,3,4,10,11,12]),([1,1,0,0,0,1,1,0,1,0,0],[0,1,2,4]),([1,1,0,0,0,1,1,1,0,0],[0,1,2,3,4,10,11,12]),([1,1,0,0,0,1,1,1,0,1,0,0],[0,1,2,3,4,10,11,12]),([1,1,0,0,0,1,1,1,0,1,0,1],[0,1,2,3,4,10,11,12]),([1,1,0,0,0,1,1,1,1,0],[0,1,2,3,4,10,11,12]),([1,1,0,0,0,1,1,1,1,1,0,0],[0,1,2,3,4,10,11,12,13,14]),([1,1,0,0,0,1,1,1,1,1,0,1,0,0],[0,1,2,3,4,10,11,12,13]),([1,1,0,0,0,1,1,1,1,1,0,1,0,1,0],[0,1,2,3,4,10,11,12,13]),([1,1,0,0,0,1,1,1,1,1,0,1,0,1,1],[0,1,2,3,4,10,11,12,13]),([1,1,0,0,0,1,1,1,1,1,1,0,0],[0,1,2,3,4,10,11,12,13,14]),([1,1,0,0,0,1,1,1,1,1,1,0,1,0,0],[0,1,2,3,4,10,11,12,13]),([1,1,0,0,0,1,1,1,1,1,1,1,0,0],[0,1,2,3,4,10,11,12,13]),([1,1,0,0,0,1,1,1,1,1,1,1,0,1,0,0],[0,1,2,3,4,10,11,13]),([1,1,0,0,0,1,1,1,1,1,1,1,0,1,0,1,0],[0,2,3,4,10,11,15]),([1,1,0,0,0,1,1,1,1,1,1,1,1,0],[0,1,2,3,4,12,13]),([1,1,0,0,0,1,1,1,1,1,1,1,1,1,0],[0,1,2,3,4,12,16,17]),([1,1,0,0,0,1,1,1,1,1,1,1,1,1,1,0],[0,1,2,3,4,11,12,16]),([1,1,0,0,0,1,1,1,1,1,1,1,1,1,1,1,0],[0,1,2,3,4,11,12,16,18,19]),([1,1,0,0,0,1,1,1,1,1,1,1,1,1,1,1,1,0],[0,1,2,3,4,11,16,18,19,20]),([1,1,0,0,0,1,1,1,1,1,1,1,1,1,1,1,1,1,0,0],[0,1,2,3,4,11,16,18,20]),([1,1,0,0,0,1,1,1,1,1,1,1,1,1,1,1,1,1,0,1,0],[0,1,2,3,4,10,11,16]),([1,1,0,0,0,1,1,1,1,1,1,1,1,1,1,1,1,1,0,1,1],[0,2,3,4,10,11,16]),([1,1,0,0,0,1,1,1,1,1,1,1,1,1,1,1,1,1,1,0],[0,1,2,3,4,11,16,19,20]),([1,1,0,0,0,1,1,1,1,1,1,1,1,1,1,1,1,1,1,1,0],[0,1,2,3,4,10,11,16]),([1,1,0,0,0,1,1,1,1,1,1,1,1,1,1,1,1,1,1,1,1],[0,1,3,4,10,11,16])],[],[]⟩
abbrev zqR (s:Bool) (K:KF) (e f g i j b d:Value) (h:AH):Prop:=PI (C92 s) K 2 [e,f,g,i,j,b,d] h
abbrev znC (s:Bool) (K:KF) (f g i j k b d e:Value) (h:AH):Prop:=PI (C92 s) K 10 [f,g,i,j,k,b,d,e] h
abbrev znB (s:Bool) (K:KF) (i j k l m b d e f g:Value) (h:AH):Prop:=PI (C92 s) K 15 [i,j,k,l,m,b,d,e,f,g] h
abbrev znA (s:Bool) (K:KF) (g i j k l b d e f:Value) (h:AH):Prop:=PI (C92 s) K 16 [g,i,j,k,l,b,d,e,f] h
abbrev zm9 (s:Bool) (K:KF) (g i j k l b d e f:Value) (h:AH):Prop:=PI (C92 s) K 17 [g,i,j,k,l,b,d,e,f] h
abbrev zm8 (s:Bool) (K:KF) (e f g i j b d:Value) (h:AH):Prop:=PI (C92 s) K 20 [e,f,g,i,j,b,d] h
def zPK (H :
 PI (C92 s) K 1 [b,d,e,f,g,(.bool true)] h):PI (C92 s) K 0 [b,d,e,f,g] h:=zB H
def zPJ (H :
 PI (C92 s) K 2 [d,e,f,g,i,b,(.bool true)] h):PI (C92 s) K 1 [d,e,f,g,i,b] h:=zB H
def zPI (H :
 EvO (zC E .sub 3 f e) fun k=>
 PI (C92 s) K 3 [g,e,f,i,j,b,d,k] h):PI (C92 s) K 2 [g,e,f,i,j,b,d] h:=zB H
def zPH (H :
 EvO (zC E .leq 3 b (iI 12)) fun l=>
 BrK l (PI (C92 s) K 4 [f,g,i,j] h) (PI (C92 s) K 5 [f,g,i,k,j,d,e,b] h)):PI (C92 s) K 3 [f,g,i,k,j,d,e,b] h:=zB H
def zPG (H :
 Ev s (zR (zY E) (some (.func (.func 144) #[] #[])) [b,d,e,f] h) fun g=>
 K .ret [] g.2):PI (C92 s) K 4 [b,d,e,f] h:=zB H
def zeH (H :
 EvO (zC E .eql 3 j (iI 0)) fun l=>
 BrK l (PI (C92 s) K 6 [f,g,i,k] h) (PI (C92 s) K 7 [f,g,i,j,k,b,d,e] h)):PI (C92 s) K 5 [f,g,i,j,k,b,d,e] h:=zB H
def zeG (H :
 Ev s (zR (zY E) (some (.func (.func 145) #[] #[])) [b,d,e,f] h) fun g=>
 K .ret [] g.2):PI (C92 s) K 6 [b,d,e,f] h:=zB H
def zeF (H :
 EvO (zAW .not b) fun l=>
 BrK l (PI (C92 s) K 8 [f,g,i,j,k,b,d,e] h) (PI (C92 s) K 10 [f,g,i,j,k,b,d,e] h)):PI (C92 s) K 7 [f,g,i,j,k,b,d,e] h:=zB H
def zeE (H :
 Ev s (zR (zY E) (some (.func (.func 146) #[] #[])) [f,g,i,j] h) fun l=>
 PI (C92 s) K 9 [f,g,i,k,j,b,d,e] l.2):PI (C92 s) K 8 [f,g,i,k,j,b,d,e] h:=zB H
def zeD (H :
 EvO (zC E .sub 3 j (iI 1)) fun l=>
 PI (C92 s) K 10 [f,g,i,l,k,b,d,e] h):PI (C92 s) K 9 [f,g,i,j,k,b,d,e] h:=zB H
def zVg (H :
 Ev s (zR (zY E) (some (.func (.func 147) #[] #[])) [g,i,j,k] h) fun f=>
 EvO (ze 0 f.1) fun m=>
 EvO (ze 1 f.1) fun o=>
 PI (C92 s) K 11 [g,i,j,l,k,b,d,e,m,o] f.2):PI (C92 s) K 10 [g,i,j,l,k,b,d,e] h:=zB H
def zVf (H :
 EvO (zC E .eql 200 g (iI 2)) fun o=>
 BrK o (PI (C92 s) K 12 [i,j,k,l,m,b,d,e,f] h) (PI (C92 s) K 15 [i,j,k,l,m,b,d,e,f,g] h)):PI (C92 s) K 11 [i,j,k,l,m,b,d,e,f,g] h:=zB H
def zVe (H :
 Ev s (zR (zY E) (some (.func (.func 148) #[] #[])) [g,i,j,k] h) fun m=>
 PI (C92 s) K 13 [g,i,j,l,k,b,d,e,f] m.2):PI (C92 s) K 12 [g,i,j,l,k,b,d,e,f] h:=zB H
def zVd (H :
 EvO (zC E .sub 3 i (iI 1)) fun m=>
 EvO (zC E .sub 3 f g) fun o=>
 EvO (zC E .sub 3 m o) fun p=>
 PI (C92 s) K 14 [j,g,i,k,l,b,d,e,p] h):PI (C92 s) K 13 [j,g,i,k,l,b,d,e,f] h:=zB H
def zVc (H :
 PI (C92 s) K 15 [g,i,j,k,l,b,d,e,f,(iI 1)] h):PI (C92 s) K 14 [g,i,j,k,l,b,d,e,f] h:=zB H
def zVb (H :
 EvO (gdB b true d) fun p=>
 EvO (zAB b p (some (.bool false))) fun i=>
 EvO (gdB i true g) fun q=>
 EvO (gdB i true (zC E .eql 200 q (iI 1))) fun r=>
 EvO (zAB i r (some (.bool false))) fun t=>
 BrK t (PI (C92 s) K 16 [j,k,l,m,o,b,d,e,f] h) (PI (C92 s) K 17 [j,k,l,m,o,b,d,e,f] h)):PI (C92 s) K 15 [j,k,l,m,o,b,d,e,f,g] h:=zB H
def zVa (H :
 Ev s (zR (zY E) (some (.func (.func 149) #[] #[])) [i,j,k,l] h) fun g=>
 BrK g.1 (K .ret [] g.2) (PI (C92 s) K 17 [i,j,k,m,l,b,d,e,f] g.2)):PI (C92 s) K 16 [i,j,k,m,l,b,d,e,f] h:=zB H
def zVZ (H :
 EvO (zC E .gtr 3 g (iI 0)) fun b=>
 EvO (gdB b true l) fun x=>
 EvO (gdB b true f) fun y=>
 EvO (gdB b true g) fun z=>
 EvO (gdB b true (zC E .sub 3 z (iI 1))) fun A=>
 EvO (gdB b true (zE E 26 y A)) fun B=>
 EvO (gdB b true (zG E 54 h B)) fun C=>
 EvO (gdB b true f) fun D=>
 EvO (gdB b true d) fun m=>
 EvO (gdB b true (zE E 26 D m)) fun o=>
 EvO (gdB b true (zG E 54 h o)) fun p=>
 Ev s (gdW b true (zR (zY E) x [C,p] h) h) fun e=>
 EvO (gdB b true (zC E .lss 3 e.1 (iI 0))) fun q=>
 EvO (gdB b true (zAW .not q)) fun r=>
 EvO (zAB b r (some (.bool false))) fun t=>
 BrK t (PI (C92 s) K 18 [f,g,u,w,l,i,j,d] e.2) (PI (C92 s) K 20 [f,g,u,w,l,k,d] e.2)):PI (C92 s) K 17 [f,g,u,w,l,i,j,k,d] h:=zB H
def zVY (H :
 Ev s (zR (zY E) (some (.func (.func 150) #[] #[])) [f,k,g,e,i] h) fun j=>
 PI (C92 s) K 19 [f,g,l,i,b,d,j.1] j.2):PI (C92 s) K 18 [f,k,g,l,i,b,d,e] h:=zB H
def zVX (H :
 PI (C92 s) K 2 [f,e,g,i,j,b,d] h):PI (C92 s) K 19 [f,g,i,j,b,d,e] h:=zB H
def zVW (H :
 Ev s (zR (zY E) (some (.func (.func 151) #[] #[])) [f,g,i,d,j] h) fun e=>
 EvO (ze 0 e.1) fun l=>
 EvO (ze 1 e.1) fun m=>
 PI (C92 s) K 21 [f,g,i,k,j,b,l,m] e.2):PI (C92 s) K 20 [f,g,i,k,j,b,d] h:=zB H
def zVV (H :
 PI (C92 s) K 22 [f,g,i,j,k,e,b,d] h):PI (C92 s) K 21 [f,g,i,j,k,b,d,e] h:=zB H
def zVU (H :
 EvO (zC E .sub 3 b f) fun l=>
 EvO (zC E .sub 3 g b) fun m=>
 PI (C92 s) K 23 [i,f,g,j,k,d,e,b,l,m] h):PI (C92 s) K 22 [i,f,g,j,k,d,e,b] h:=zB H
def zVT (H :
 EvO (zp E (zk [(121,d)]) (zo B92 [1,1,0,0,0,1,1,1,1,1,1,1,1,1,1,1,0] 1)) fun o=>
 PI (C92 s) K 24 [i,j,k,l,m,b,e,f,g,o] h):PI (C92 s) K 23 [i,j,k,l,m,b,d,e,f,g] h:=zB H
def zVS (H :
 EvO (zC E .lss 3 e f) fun o=>
 BrK o (PI (C92 s) K 25 [i,j,k,l,m,b,d,e,g] h) (PI (C92 s) K 28 [i,j,k,l,m,b,d,f,g] h)):PI (C92 s) K 24 [i,j,k,l,m,b,d,e,f,g] h:=zB H
def zVR (H :
 EvO (zC E .geq 3 e f) fun m=>
 PI (C92 s) K 26 [g,i,j,k,l,m,b,d] h):PI (C92 s) K 25 [g,i,j,k,l,b,d,e,f] h:=zB H
def zVQ (H :
 Ev s (zR (zY E) (some (.func (.func 92) #[] #[])) [f,j,b,g,i] h) fun l=>
 PI (C92 s) K 27 [f,k,g,i,d,e,b] l.2):PI (C92 s) K 26 [f,j,k,g,i,d,e,b] h:=zB H
def zVP (H :
 EvO (zC E .add 3 e (iI 1)) fun k=>
 PI (C92 s) K 2 [f,k,g,i,j,b,d] h):PI (C92 s) K 27 [f,g,i,j,b,d,e] h:=zB H
def zVO (H :
 EvO (zC E .geq 3 e f) fun m=>
 PI (C92 s) K 29 [g,i,j,k,l,m,b,d] h):PI (C92 s) K 28 [g,i,j,k,l,b,d,e,f] h:=zB H
def zVN (H :
 EvO (zC E .add 3 b (iI 1)) fun l=>
 Ev s (zR (zY E) (some (.func (.func 92) #[] #[])) [f,l,k,g,i] h) fun m=>
 PI (C92 s) K 30 [f,j,g,i,d,e,b] m.2):PI (C92 s) K 29 [f,j,k,g,i,d,e,b] h:=zB H
def zVM (H :
 PI (C92 s) K 2 [f,g,e,i,j,b,d] h):PI (C92 s) K 30 [f,g,i,j,b,d,e] h:=zB H
theorem ziE (H:PI (C92 s) (KR E [] Rp) 0 [v0,v1,v2,v3,v4] h):EvC E s Tryz.f92 [v0,v1,v2,v3,v4] h Rp:=zAA (C92 s) H
theorem zcE:E.tab.fn.get 92=some Tryz.f92:=by kernel_rfl
theorem zPe:Tryz.f92.body=some B92:=by kernel_rfl
theorem zcD (l:List Value) (h:AH):E.sum 92 l h=none:=by kernel_rfl
noncomputable def B33:Code:=zh Tryz.f33
noncomputable def C33 (s:Bool):Cx:=⟨E,s,none,B33,[([0],[0,1]),([1],[0,1,4])],[],[]⟩
def zfm (H :
 EvO (zN E (zk [(5,b)]) (zo B33 [0] 1) h) fun e=>
 PI (C33 s) K 1 [b,d,e] h):PI (C33 s) K 0 [b,d] h:=zB H
theorem zTp:zN E (zk [(5,.slice a n c)]) (zo B33 [0] 1) h=some (iI (n:Int)):=by cases a <;> kernel_rfl
def zfl (H :
 EvO (zN E (zk [(9,b)]) (zo B33 [1] 3) h) fun g=>
 Ev s (zR (zY E) (some (.func (.func 93) #[] #[])) [g] h) fun d=>
 Ev s (zR (zY E) (some (.func (.func 92) #[] #[])) (some [e,(iI 0),b,d.1,f]) d.2) fun i=>
 K .normal [] i.2):PI (C33 s) K 1 [e,f,b] h:=zB H
theorem zoX (H:PI (C33 s) (KR E [] Rp) 0 [v0,v1] h):EvC E s Tryz.f33 [v0,v1] h Rp:=zAA (C33 s) H
theorem zkg:E.tab.fn.get 33=some Tryz.f33:=by kernel_rfl
theorem zgc:Tryz.f33.body=some B33:=by kernel_rfl
theorem zkf (l:List Value) (h:AH):E.sum 33 l h=none:=by kernel_rfl
end Go.Proofs
namespace Go.Proofs
open Go Go.AM
set_option maxRecDepth 100000
variable {s:Bool} {K:KF} {h:AH} {a:Option Addr} {n c:Nat} {b d e f g i j k l m o p q r t u w x y z A B C D F G J L M N O Q S U V W X Y Z v v0 v1 v2 v3 v4 v5 v6 v7 v8 v9 v10 v11 v12 v13 v26 v27 v28:Value} {h1:AH} {Rp:Value->AH->Prop}
noncomputable def B32:Code:=zh Tryz.f32
noncomputable def C32 (s:Bool):Cx:=⟨E,s,none,B32,[([0],[0]),([1,0,0],[0]),([1,0,1,0,0],[]),([1,1,0],[0])],[2],[]⟩
def zfp (H :
 PI (C32 s) K 1 [b] h):PI (C32 s) K 0 [b] h:=zB H
def zfo (H :
 EvO (zp E (zk [(3,b)]) (zo B32 [1,0,0] 1)) fun d=>
 BrK d (PI (C32 s) K 2 [] h) (PI (C32 s) K 3 [b] h)):PI (C32 s) K 1 [b] h:=zB H
def zfn (H :
 Ev s (zd E 26 0 (some []) h) fun b=>
 Ev s (zAH E .append [26,26] [b.1,e] b.2) fun d=>
 K .ret [d.1] d.2):PI (C32 s) K 3 [e] h:=zB H
theorem zgd (H:PI (C32 true) (KR E [.tmp 2] fun x k=>(zi x=false\/k.wm<h.next)/\Rp x ⟨k.t,k.next,cond (Nat.ble h.wm k.wm) h.wm k.wm⟩) 0 [v0] h.fresh):Ev true ((zY E).call 32 [v0] h) fun x=>Rp x.1 x.2:=zD5 Tryz.f32 (zAA (C32 true) H)
noncomputable def B36:Code:=zh Tryz.f36
noncomputable def C36 (s:Bool):Cx:=⟨E,s,none,B36,[([0],[0]),([1,0,0],[0]),([1,0,1,0,0],[0]),([1,1,0,0],[0]),([1,1,0,1,0,0,0,0],[0,3]),([1,1,0,1,0,0,1,0,0,0],[0,3]),([1,1,0,1,0,0,1,0,0,1,0,0],[0,3]),([1,1,0,1,0,0,1,0,0,1,0,1,0,0],[0,3,4]),([1,1,0,1,0,0,1,0,0,1,0,1,0,1,0,0,0,0],[0,3,4,5]),([1,1,0,1,0,0,1,0,0,1,0,1,0,1,0,0,1,0,0,0],[0,3,4,5]),([1,1,0,1,0,0,1,0,0,1,0,1,0,1,0,0,1,0,0,1,0,0],[0,3,4,5]),([1,1,0,1,0,0,1,0,0,1,0,1,0,1,0,0,1,0,0,1,0,1],[0,3,4,5]),([1,1,0,1,0,0,1,0,0,1,0,1,0,1,0,0,1,1],[0,3,4,5]),([1,1,0,1,0,0,1,0,0,1,0,1,1,0],[0,3]),([1,1,0,1,0,0,1,0,0,1,0,1,1,1,0],[0,3]),([1,1,0,1,0,0,1,1],[0,3]),([1,1,1,0],[0])],[2],[]⟩
abbrev zqi (s:Bool) (K:KF) (b d:Value) (h:AH):Prop:=PI (C36 s) K 4 [b,d] h
abbrev zqh (s:Bool) (K:KF) (b d e f:Value) (h:AH):Prop:=PI (C36 s) K 8 [b,d,e,f] h
def zfk (H :
 PI (C36 s) K 1 [b] h):PI (C36 s) K 0 [b] h:=zB H
def zfj (H :
 EvO (zN E (zk [(6,b)]) (zo B36 [1,0,0] 1) h) fun d=>
 EvO (zC E .lss 3 d (iI 2)) fun e=>
 BrK e (PI (C36 s) K 2 [b] h) (PI (C36 s) K 3 [b] h)):PI (C36 s) K 1 [b] h:=zB H
theorem zTo:zN E (zk [(6,.slice a n c)]) (zo B36 [1,0,0] 1) h=some (iI (n:Int)):=by cases a <;> kernel_rfl
def zfi (H :
 K .ret [b] h):PI (C36 s) K 2 [b] h:=zB H
def zfh (H :
 PI (C36 s) K 4 [b,(iI 1)] h):PI (C36 s) K 3 [b] h:=zB H
def zPZ (H :
 EvO (zN E (zk [(11,b)]) (zo B36 [1,1,0,1,0,0,0,0] 2) h) fun e=>
 EvO (zC E .lss 3 d e) fun f=>
 BrK f (PI (C36 s) K 5 [b,d] h) (PI (C36 s) K 16 [b] h)):PI (C36 s) K 4 [b,d] h:=zB H
theorem zLB:zN E (zk [(11,.slice a n c)]) (zo B36 [1,1,0,1,0,0,0,0] 2) h=some (iI (n:Int)):=by cases a <;> kernel_rfl
def zfg (H :
 EvO (zE E 26 b d) fun e=>
 EvO (zG E 54 h e) fun f=>
 EvO (zC E .sub 3 d (iI 1)) fun g=>
 EvO (zE E 26 b g) fun i=>
 EvO (zG E 54 h i) fun j=>
 EvO (zC E .eql 54 f j) fun k=>
 BrK k (PI (C36 s) K 6 [b,d] h) (PI (C36 s) K 15 [b,d] h)):PI (C36 s) K 5 [b,d] h:=zB H
def zff (H :
 EvO (zp E (zk [(26,b),(27,d)]) (zo B36 [1,1,0,1,0,0,1,0,0,1,0,0] 2)) fun e=>
 PI (C36 s) K 7 [b,d,e] h):PI (C36 s) K 6 [b,d] h:=zB H
def zfe (H :
 PI (C36 s) K 8 [b,d,e,(iI 1)] h):PI (C36 s) K 7 [b,d,e] h:=zB H
def zPY (H :
 EvO (zN E (zk [(30,e)]) (zo B36 [1,1,0,1,0,0,1,0,0,1,0,1,0,1,0,0,0,0] 2) h) fun g=>
 EvO (zC E .lss 3 f g) fun i=>
 BrK i (PI (C36 s) K 9 [b,d,e,f] h) (PI (C36 s) K 13 [b,d] h)):PI (C36 s) K 8 [b,d,e,f] h:=zB H
theorem zLA:zN E (zk [(30,.slice a n c)]) (zo B36 [1,1,0,1,0,0,1,0,0,1,0,1,0,1,0,0,0,0] 2) h=some (iI (n:Int)):=by cases a <;> kernel_rfl
def zfd (H :
 EvO (zE E 26 b d) fun g=>
 EvO (zG E 54 h g) fun i=>
 EvO (zC E .sub 3 d (iI 1)) fun j=>
 EvO (zE E 26 b j) fun k=>
 EvO (zG E 54 h k) fun l=>
 EvO (zC E .neq 54 i l) fun m=>
 BrK m (PI (C36 s) K 10 [e,f,b,d] h) (PI (C36 s) K 12 [e,f,b,d] h)):PI (C36 s) K 9 [e,f,b,d] h:=zB H
def zWQ (H :
 EvO (zE E 26 e f) fun g=>
 EvO (zG E 54 h g) fun i=>
 EvO (zE E 26 b d) fun j=>
 Ev s (zf E 54 h j i) fun k=>
 PI (C36 s) K 11 [b,d,e,f] k.2):PI (C36 s) K 10 [b,d,e,f] h:=zB H
def zWP (H :
 EvO (zC E .add 3 d (iI 1)) fun g=>
 PI (C36 s) K 12 [b,g,e,f] h):PI (C36 s) K 11 [b,d,e,f] h:=zB H
def zLp (H :
 EvO (zC E .add 3 f (iI 1)) fun g=>
 PI (C36 s) K 8 [b,d,e,g] h):PI (C36 s) K 12 [b,d,e,f] h:=zB H
def zWO (H :
 EvO (zp E (zk [(54,b),(55,d)]) (zo B36 [1,1,0,1,0,0,1,0,0,1,0,1,1,0] 2)) fun e=>
 Ev s (zAH E .clear [26] [e] h) fun f=>
 PI (C36 s) K 14 [b,d] f.2):PI (C36 s) K 13 [b,d] h:=zB H
def zWN (H :
 EvO (zp E (zk [(57,b),(58,d)]) (zo B36 [1,1,0,1,0,0,1,0,0,1,0,1,1,1,0] 2)) fun e=>
 K .ret [e] h):PI (C36 s) K 14 [b,d] h:=zB H
def zWM (H :
 EvO (zC E .add 3 d (iI 1)) fun e=>
 PI (C36 s) K 4 [b,e] h):PI (C36 s) K 15 [b,d] h:=zB H
def zWL (H :
 K .ret [b] h):PI (C36 s) K 16 [b] h:=zB H
theorem zgb (H:PI (C36 true) (KR E [.tmp 2] fun x k=>(zi x=false\/k.wm<h.next)/\Rp x ⟨k.t,k.next,cond (Nat.ble h.wm k.wm) h.wm k.wm⟩) 0 [v0] h.fresh):Ev true ((zY E).call 36 [v0] h) fun x=>Rp x.1 x.2:=zD5 Tryz.f36 (zAA (C36 true) H)
end Go.Proofs
namespace Go.Proofs
open Go Go.AM
set_option maxRecDepth 100000
theorem ziN:und E 219=some (.slice 26):=by kernel_rfl
theorem zhg {b o len c k:Nat} (h:k<len):zE E 219 (some (.slice (some ⟨b,o,none⟩) len c)) (some (iI (k:Int)))=some (.pointer (some ⟨b,o+k*1,none⟩)):=zAU ziN (by kernel_rfl) h
end Go.Proofs
