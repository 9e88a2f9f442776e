import Derived.Sort.AssemblyPlain
import Derived.Test.YthmnhjcmefjgjaaGreatDoorXAO
import Derived.Test.YthmnhjcmefjgjaaGreatDoorXAP
set_option linter.all false
set_option linter.unusedSectionVars false
set_option autoImplicit true
set_option relaxedAutoImplicit true
namespace Go.Proofs
open Go Go.AM
set_option maxRecDepth 100000
variable {s:Bool} {K:KF} {h:AH} {a:Option Addr} {n c:Nat} {v v0 v1 v2 v3 v4 v5 v8 v9 v10 v11 v12 v13 v14 v15 v16 v17 v18 v19 v20 v55:Value} {h1:AH} {Rp:Value->AH->Prop}
noncomputable def B235:Code:=zc Tryz.f235
noncomputable def zQ7 (s:Bool):Cx:=⟨E,s,none,B235,[([0],[0,1,2,3,4]),([1,0,0],[0,1,2,3,4]),([1,0,1,0,0],[1,2,3]),([1,0,1,0,1,0],[1,2]),([1,1,0],[1,2])],[10,11],[]⟩
theorem zLA (H :
 PI (zQ7 s) K 1 [v0,v1,v2,v3,v4] h):PI (zQ7 s) K 0 [v0,v1,v2,v3,v4] h:=zB H
theorem zK9 (H :
 EvO (zE E 26 v0 v2) fun x3=>
 EvO (zH E 54 h x3) fun x4=>
 EvO (zE E 26 v0 v1) fun x7=>
 EvO (zH E 54 h x7) fun x8=>
 Ev s (zQ (zW E) v4 [x4,x8] h) fun x9=>
 EvO (zC E .lss 3 x9.1 (.int .i64 0)) fun x10=>
 BrK x10 (PI (zQ7 s) K 2 [v1,v2,v3] x9.2) (PI (zQ7 s) K 4 [v1,v2] x9.2)):PI (zQ7 s) K 1 [v0,v1,v2,v3,v4] h:=zB H
theorem zV5 (H :
 EvO (zq v3) fun x1=>
 EvO (zH E 3 h x1) fun x2=>
 EvO (zC E .add 3 x2 (.int .i64 1)) fun x3=>
 EvO (zq v3) fun x4=>
 Ev s (ze E 3 h x4 x3) fun x5=>
 PI (zQ7 s) K 3 [v1,v2] x5.2):PI (zQ7 s) K 2 [v1,v2,v3] h:=zB H
theorem zV4 (H :
 K .ret [v2,v1] h):PI (zQ7 s) K 3 [v1,v2] h:=zB H
theorem zV3 (H :
 K .ret [v1,v2] h):PI (zQ7 s) K 4 [v1,v2] h:=zB H
theorem zQy (hok:h.ok) (hv:zh v=true) (H:PI (zQ7 true) (KR E [.tmp 10,.tmp 11] fun x k=>x=v/\h.next<=k.wm) 0 [v0,v1,v2,v3,v4] h.fresh):(zW E).call 235 [v0,v1,v2,v3,v4] h=some [(v,h)]:=zGD Tryz.f235 hok hv (zz (zQ7 true) H)
theorem zaU (H:PI (zQ7 true) (KR E [.tmp 10,.tmp 11] fun x k=>(zh x=false\/k.wm<h.next)/\Rp x ⟨k.t,k.next,cond (Nat.ble h.wm k.wm) h.wm k.wm⟩) 0 [v0,v1,v2,v3,v4] h.fresh):Ev true ((zW E).call 235 [v0,v1,v2,v3,v4] h) fun x=>Rp x.1 x.2:=zFb Tryz.f235 (zz (zQ7 true) H)
noncomputable def B196:Code:=zc Tryz.f196
noncomputable def zbD (s:Bool):Cx:=⟨E,s,none,B196,[([0],[0,1,2,3,4,5]),([1,0],[0,1,2,3,4,5]),([1,1,0],[0,1,2,3,4,5]),([1,1,1,0],[0,1,2,4,5]),([1,1,1,1,0],[2])],[12],[]⟩
theorem zW0 (H :
 PI (zbD s) K 1 [v0,v1,v2,v3,v4,v5] h):PI (zbD s) K 0 [v0,v1,v2,v3,v4,v5] h:=zB H
theorem zWz (H :
 Ev s (zQ (zW E) (some (.func (.func 235) #[] #[])) [v0,v1,v2,v4,v5] h) fun x5=>
 EvO (z6 0 x5.1) fun x7=>
 EvO (z6 1 x5.1) fun x8=>
 PI (zbD s) K 2 [v0,x7,x8,v3,v4,v5] x5.2):PI (zbD s) K 1 [v0,v1,v2,v3,v4,v5] h:=zB H
theorem zWy (H :
 Ev s (zQ (zW E) (some (.func (.func 235) #[] #[])) [v0,v2,v3,v4,v5] h) fun x5=>
 EvO (z6 0 x5.1) fun x7=>
 EvO (z6 1 x5.1) fun x8=>
 PI (zbD s) K 3 [v0,v1,x7,v4,v5] x5.2):PI (zbD s) K 2 [v0,v1,v2,v3,v4,v5] h:=zB H
theorem zWx (H :
 Ev s (zQ (zW E) (some (.func (.func 235) #[] #[])) [v0,v1,v2,v4,v5] h) fun x5=>
 EvO (z6 0 x5.1) fun x7=>
 EvO (z6 1 x5.1) fun x8=>
 PI (zbD s) K 4 [x8] x5.2):PI (zbD s) K 3 [v0,v1,v2,v4,v5] h:=zB H
theorem zWw (H :
 K .ret [v2] h):PI (zbD s) K 4 [v2] h:=zB H
theorem F196_ev (H:PI (zbD s) (KR E [.tmp 12] Rp) 0 [v0,v1,v2,v3,v4,v5] h):EvC E s Tryz.f196 [v0,v1,v2,v3,v4,v5] h Rp:=zz (zbD s) H
theorem zfE:E.tab.fn.get 196=some Tryz.f196:=by kernel_rfl
theorem zad:Tryz.f196.body=some B196:=by kernel_rfl
theorem zfD (l:List Value) (h:AH):E.sum 196 l h=none:=by kernel_rfl
noncomputable def B195:Code:=zc Tryz.f195
noncomputable def C195 (s:Bool):Cx:=⟨E,s,none,B195,[([0],[0,1,2,3]),([1,0],[0,1,2,3])],[8],[]⟩
theorem zW2 (H :
 PI (C195 s) K 1 [v0,v1,v2,v3] h):PI (C195 s) K 0 [v0,v1,v2,v3] h:=zB H
theorem zW1 (H :
 EvO (zC E .sub 3 v1 (.int .i64 1)) fun x2=>
 EvO (zC E .add 3 v1 (.int .i64 1)) fun x5=>
 Ev s (zQ (zW E) (some (.func (.func 196) #[] #[])) [v0,x2,v1,x5,v2,v3] h) fun x8=>
 K .ret [x8.1] x8.2):PI (C195 s) K 1 [v0,v1,v2,v3] h:=zB H
theorem F195_ev (H:PI (C195 s) (KR E [.tmp 8] Rp) 0 [v0,v1,v2,v3] h):EvC E s Tryz.f195 [v0,v1,v2,v3] h Rp:=zz (C195 s) H
theorem zfG:E.tab.fn.get 195=some Tryz.f195:=by kernel_rfl
theorem zae:Tryz.f195.body=some B195:=by kernel_rfl
theorem zfF (l:List Value) (h:AH):E.sum 195 l h=none:=by kernel_rfl
noncomputable def B147:Code:=zc Tryz.f147
noncomputable def zDO (s:Bool):Cx:=⟨E,s,none,B147,[([0],[0,1,2,3]),([1,0],[0,1,2,3]),([1,1,0],[0,1,3,10]),([1,1,1,0],[0,1,3,10,11]),([1,1,1,1,0],[0,1,3,10,11,12]),([1,1,1,1,1,0],[0,1,3,10,11,12,13]),([1,1,1,1,1,1,0,0],[0,3,10,11,12,13,14]),([1,1,1,1,1,1,0,1,0,0,0],[0,3,10,11,12,13,14]),([1,1,1,1,1,1,0,1,0,0,1,0,0],[0,3,11,12,13,14]),([1,1,1,1,1,1,0,1,0,0,1,0,1,0],[0,3,11,12,13,14]),([1,1,1,1,1,1,0,1,0,0,1,0,1,1],[0,3,11,12,13,14]),([1,1,1,1,1,1,0,1,0,1],[0,3,11,12,13,14]),([1,1,1,1,1,1,1,0],[11,13]),([1,1,1,1,1,1,1,1,0,0],[13,55]),([1,1,1,1,1,1,1,1,0,1,0,0],[13]),([1,1,1,1,1,1,1,1,0,1,1,0],[13,55]),([1,1,1,1,1,1,1,1,0,1,1,1,0,0],[13]),([1,1,1,1,1,1,1,1,0,1,1,1,1,0],[13])],[8,9],[]⟩
abbrev P147_11 (s:Bool) (K:KF) (v0 v3 v11 v12 v13 v14:Value) (h:AH):Prop:=PI (zDO s) K 11 [v0,v3,v11,v12,v13,v14] h
abbrev P147_12 (s:Bool) (K:KF) (v11 v13:Value) (h:AH):Prop:=PI (zDO s) K 12 [v11,v13] h
theorem zYq (H :
 PI (zDO s) K 1 [v0,v1,v2,v3] h):PI (zDO s) K 0 [v0,v1,v2,v3] h:=zB H
theorem zYp (H :
 EvO (zC E .sub 3 v2 v1) fun x2=>
 PI (zDO s) K 2 [v0,v1,v3,x2] h):PI (zDO s) K 1 [v0,v1,v2,v3] h:=zB H
theorem zYo (H :
 Ev s (zX 3 h (zAG E 3)) fun x0=>
 PI (zDO s) K 3 [v0,v1,v3,v10,x0.1] x0.2):PI (zDO s) K 2 [v0,v1,v3,v10] h:=zB H
theorem zYn (H :
 EvO (zi E (zl [(19,v10)]) (zn B147 [1,1,1,0] 2)) fun x2=>
 EvO (zC E .mul 3 x2 (.int .i64 1)) fun x3=>
 EvO (zC E .add 3 v1 x3) fun x4=>
 PI (zDO s) K 4 [v0,v1,v3,v10,v11,x4] h):PI (zDO s) K 3 [v0,v1,v3,v10,v11] h:=zB H
theorem zYm (H :
 EvO (zi E (zl [(24,v10)]) (zn B147 [1,1,1,1,0] 2)) fun x2=>
 EvO (zC E .mul 3 x2 (.int .i64 2)) fun x3=>
 EvO (zC E .add 3 v1 x3) fun x4=>
 PI (zDO s) K 5 [v0,v1,v3,v10,v11,v12,x4] h):PI (zDO s) K 4 [v0,v1,v3,v10,v11,v12] h:=zB H
theorem zYl (H :
 EvO (zi E (zl [(29,v10)]) (zn B147 [1,1,1,1,1,0] 2)) fun x2=>
 EvO (zC E .mul 3 x2 (.int .i64 3)) fun x3=>
 EvO (zC E .add 3 v1 x3) fun x4=>
 PI (zDO s) K 6 [v0,v3,v10,v11,v12,v13,x4] h):PI (zDO s) K 5 [v0,v1,v3,v10,v11,v12,v13] h:=zB H
theorem zYk (H :
 EvO (zC E .geq 3 v10 (.int .i64 8)) fun x1=>
 BrK x1 (PI (zDO s) K 7 [v0,v3,v10,v11,v12,v13,v14] h) (PI (zDO s) K 12 [v11,v13] h)):PI (zDO s) K 6 [v0,v3,v10,v11,v12,v13,v14] h:=zB H
theorem zYj (H :
 EvO (zC E .geq 3 v10 (.int .i64 50)) fun x1=>
 BrK x1 (PI (zDO s) K 8 [v0,v3,v11,v12,v13,v14] h) (PI (zDO s) K 11 [v0,v3,v11,v12,v13,v14] h)):PI (zDO s) K 7 [v0,v3,v10,v11,v12,v13,v14] h:=zB H
theorem zYi (H :
 Ev s (zQ (zW E) (some (.func (.func 195) #[] #[])) [v0,v12,v11,v3] h) fun x3=>
 PI (zDO s) K 9 [v0,v3,v11,x3.1,v13,v14] x3.2):PI (zDO s) K 8 [v0,v3,v11,v12,v13,v14] h:=zB H
theorem zYh (H :
 Ev s (zQ (zW E) (some (.func (.func 195) #[] #[])) [v0,v13,v11,v3] h) fun x3=>
 PI (zDO s) K 10 [v0,v3,v11,v12,x3.1,v14] x3.2):PI (zDO s) K 9 [v0,v3,v11,v12,v13,v14] h:=zB H
theorem zQb (H :
 Ev s (zQ (zW E) (some (.func (.func 195) #[] #[])) [v0,v14,v11,v3] h) fun x3=>
 PI (zDO s) K 11 [v0,v3,v11,v12,v13,x3.1] x3.2):PI (zDO s) K 10 [v0,v3,v11,v12,v13,v14] h:=zB H
theorem zQa (H :
 Ev s (zQ (zW E) (some (.func (.func 196) #[] #[])) [v0,v12,v13,v14,v11,v3] h) fun x5=>
 PI (zDO s) K 12 [v11,x5.1] x5.2):PI (zDO s) K 11 [v0,v3,v11,v12,v13,v14] h:=zB H
theorem zQZ (H :
 EvO (zH E 3 h v11) fun x0=>
 PI (zDO s) K 13 [v13,x0] h):PI (zDO s) K 12 [v11,v13] h:=zB H
theorem zQY (H :
 EvO (zC E .eql 3 v55 (.int .i64 0)) fun x0=>
 BrK x0 (PI (zDO s) K 14 [v13] h) (PI (zDO s) K 15 [v13,v55] h)):PI (zDO s) K 13 [v13,v55] h:=zB H
theorem zQX (H :
 K .ret [v13,(.int .i64 1)] h):PI (zDO s) K 14 [v13] h:=zB H
theorem zQW (H :
 EvO (zC E .eql 3 v55 (.int .i64 12)) fun x0=>
 BrK x0 (PI (zDO s) K 16 [v13] h) (PI (zDO s) K 17 [v13] h)):PI (zDO s) K 15 [v13,v55] h:=zB H
theorem zQV (H :
 K .ret [v13,(.int .i64 2)] h):PI (zDO s) K 16 [v13] h:=zB H
theorem zQU (H :
 K .ret [v13,(.int .i64 0)] h):PI (zDO s) K 17 [v13] h:=zB H
theorem zQ4 {Rp:Value->Prop} (hok:h.ok) (H:PI (zDO true) (KR E [.tmp 8,.tmp 9] fun x k=>(zh x=true/\Rp x)/\h.next<=k.wm) 0 [v0,v1,v2,v3] h.fresh):∃ v,Rp v/\(zW E).call 147 [v0,v1,v2,v3] h=some [(v,h)]:=zCy Tryz.f147 hok (zz (zDO true) H)
noncomputable def B148:Code:=zc Tryz.f148
noncomputable def zNG (s:Bool):Cx:=⟨E,s,none,B148,[([0],[0,1,2]),([1,0],[0,2,8]),([1,1,0,0,0,0],[0,8,9]),([1,1,0,0,1,0,0],[0,8,9]),([1,1,0,0,1,0,1,0],[0,8,9]),([1,1,0,0,1,0,1,1],[0,8,9])],[],[]⟩
abbrev P148_2 (s:Bool) (K:KF) (v0 v8 v9:Value) (h:AH):Prop:=PI (zNG s) K 2 [v0,v8,v9] h
theorem zYg (H :
 PI (zNG s) K 1 [v0,v2,v1] h):PI (zNG s) K 0 [v0,v1,v2] h:=zB H
theorem zYf (H :
 EvO (zC E .sub 3 v2 (.int .i64 1)) fun x1=>
 PI (zNG s) K 2 [v0,v8,x1] h):PI (zNG s) K 1 [v0,v2,v8] h:=zB H
theorem zLW (H :
 EvO (zC E .lss 3 v8 v9) fun x2=>
 BrK x2 (PI (zNG s) K 3 [v0,v8,v9] h) (K .normal [] h)):PI (zNG s) K 2 [v0,v8,v9] h:=zB H
theorem zYe (H :
 EvO (zE E 26 v0 v9) fun x6=>
 EvO (zH E 54 h x6) fun x7=>
 EvO (zE E 26 v0 v8) fun x10=>
 EvO (zH E 54 h x10) fun x11=>
 EvO (zE E 26 v0 v8) fun x12=>
 Ev s (ze E 54 h x12 x7) fun x13=>
 EvO (zE E 26 v0 v9) fun x14=>
 Ev s (ze E 54 x13.2 x14 x11) fun x15=>
 PI (zNG s) K 4 [v0,v8,v9] x15.2):PI (zNG s) K 3 [v0,v8,v9] h:=zB H
theorem zYd (H :
 EvO (zC E .add 3 v8 (.int .i64 1)) fun x1=>
 PI (zNG s) K 5 [v0,x1,v9] h):PI (zNG s) K 4 [v0,v8,v9] h:=zB H
theorem zYc (H :
 EvO (zC E .sub 3 v9 (.int .i64 1)) fun x1=>
 PI (zNG s) K 2 [v0,v8,x1] h):PI (zNG s) K 5 [v0,v8,v9] h:=zB H
theorem F148_ev (H:PI (zNG s) (KR E [] Rp) 0 [v0,v1,v2] h):EvC E s Tryz.f148 [v0,v1,v2,v3] h Rp:=zz (zNG s) H
theorem zfU:E.tab.fn.get 148=some Tryz.f148:=by kernel_rfl
theorem zaw:Tryz.f148.body=some B148:=by kernel_rfl
theorem zfT (l:List Value) (h:AH):E.sum 148 l h=none:=by kernel_rfl
noncomputable def B193:Code:=zc Tryz.f193
noncomputable def C193 (s:Bool):Cx:=⟨E,s,none,B193,[([0],[0]),([1,0],[0])],[2],[]⟩
theorem zW9 (H :
 PI (C193 s) K 1 [v0] h):PI (C193 s) K 0 [v0] h:=zB H
theorem zW8 (H :
 EvO (zO E (zl [(3,v0)]) (zn B193 [1,0] 1) h) fun x1=>
 Ev s (zQ (zW E) (some (.func (.func 93) #[] #[])) [x1] h) fun x2=>
 EvO (zi E (zl [(5,x2.1)]) (zn B193 [1,0] 3)) fun x3=>
 K .ret [x3] x2.2):PI (C193 s) K 1 [v0] h:=zB H
theorem zQ1 (hok:h.ok) (hv:zh v=true) (H:PI (C193 true) (KR E [.tmp 2] fun x k=>x=v/\h.next<=k.wm) 0 [v0] h.fresh):(zW E).call 193 [v0] h=some [(v,h)]:=zGD Tryz.f193 hok hv (zz (C193 true) H)
noncomputable def zOx:Code:=zc Tryz.f194
noncomputable def zbE (s:Bool):Cx:=⟨E,s,none,zOx,[([0],[0]),([1,0],[0]),([1,1,0],[0]),([1,1,1,0],[0]),([1,1,1,1,0],[0])],[2],[]⟩
theorem zW7 (H :
 PI (zbE s) K 1 [v0] h):PI (zbE s) K 0 [v0] h:=zB H
theorem zW6 (H :
 EvO (zq v0) fun x1=>
 EvO (zH E 253 h x1) fun x2=>
 EvO (zq v0) fun x4=>
 EvO (zH E 253 h x4) fun x5=>
 EvO (zi E (zl [(8,x5)]) (zn zOx [1,0] 6)) fun x6=>
 EvO (zi E (zl [(5,x2),(9,x6)]) (zn zOx [1,0] 7)) fun x7=>
 EvO (zq v0) fun x8=>
 Ev s (ze E 253 h x8 x7) fun x9=>
 PI (zbE s) K 2 [v0] x9.2):PI (zbE s) K 1 [v0] h:=zB H
theorem zW5 (H :
 EvO (zq v0) fun x1=>
 EvO (zH E 253 h x1) fun x2=>
 EvO (zq v0) fun x4=>
 EvO (zH E 253 h x4) fun x5=>
 EvO (zi E (zl [(17,x5)]) (zn zOx [1,1,0] 6)) fun x6=>
 EvO (zi E (zl [(14,x2),(18,x6)]) (zn zOx [1,1,0] 7)) fun x7=>
 EvO (zq v0) fun x8=>
 Ev s (ze E 253 h x8 x7) fun x9=>
 PI (zbE s) K 3 [v0] x9.2):PI (zbE s) K 2 [v0] h:=zB H
theorem zW4 (H :
 EvO (zq v0) fun x1=>
 EvO (zH E 253 h x1) fun x2=>
 EvO (zq v0) fun x4=>
 EvO (zH E 253 h x4) fun x5=>
 EvO (zi E (zl [(26,x5)]) (zn zOx [1,1,1,0] 6)) fun x6=>
 EvO (zi E (zl [(23,x2),(27,x6)]) (zn zOx [1,1,1,0] 7)) fun x7=>
 EvO (zq v0) fun x8=>
 Ev s (ze E 253 h x8 x7) fun x9=>
 PI (zbE s) K 4 [v0] x9.2):PI (zbE s) K 3 [v0] h:=zB H
theorem zW3 (H :
 EvO (zq v0) fun x1=>
 EvO (zH E 253 h x1) fun x2=>
 K .ret [x2] h):PI (zbE s) K 4 [v0] h:=zB H
theorem F194_ev (H:PI (zbE s) (KR E [.tmp 2] Rp) 0 [v0] h):EvC E s Tryz.f194 [v0] h Rp:=zz (zbE s) H
theorem zfI:E.tab.fn.get 194=some Tryz.f194:=by kernel_rfl
theorem zaf:Tryz.f194.body=some zOx:=by kernel_rfl
theorem zfH (l:List Value) (h:AH):E.sum 194 l h=none:=by kernel_rfl
noncomputable def B153:Code:=zc Tryz.f153
noncomputable def zJp (s:Bool):Cx:=⟨E,s,none,B153,[([0],[0]),([1,0,0],[0,2]),([1,0,1,0,0],[0]),([1,0,1,0,1],[0]),([1,1,0,0],[0,2]),([1,1,0,1,0,0],[0,2]),([1,1,0,1,0,1],[0,2]),([1,1,1,0,0],[0,2]),([1,1,1,0,1,0,0],[0,2]),([1,1,1,0,1,0,1],[0,2]),([1,1,1,1,0],[0,2])],[2],[]⟩
abbrev P153_10 (s:Bool) (K:KF) (v0 v2:Value) (h:AH):Prop:=PI (zJp s) K 10 [v0,v2] h
theorem zLO (H :
 PI (zJp s) K 1 [v0,(.int .i64 0)] h):PI (zJp s) K 0 [v0] h:=zB H
theorem zLN (H :
 EvO (zC E .geq 209 v0 (.int .u64 4294967296)) fun x1=>
 BrK x1 (PI (zJp s) K 2 [v0] h) (PI (zJp s) K 4 [v0,v2] h)):PI (zJp s) K 1 [v0,v2] h:=zB H
theorem zLM (H :
 EvO (zC E .geq 209 v0 (.int .u64 65536)) fun x1=>
 BrK x1 (PI (zJp s) K 5 [v0,v2] h) (PI (zJp s) K 7 [v0,v2] h)):PI (zJp s) K 4 [v0,v2] h:=zB H
theorem zLL (H :
 EvO (zC E .geq 209 v0 (.int .u64 256)) fun x1=>
 BrK x1 (PI (zJp s) K 8 [v0,v2] h) (PI (zJp s) K 10 [v0,v2] h)):PI (zJp s) K 7 [v0,v2] h:=zB H
theorem zX5 (H :
 EvO (zi E (zl [(15,v0)]) (zn B153 [1,1,1,0,1,0,0] 1)) fun x1=>
 PI (zJp s) K 9 [x1,v2] h):PI (zJp s) K 8 [v0,v2] h:=zB H
theorem zX4 (H :
 EvO (zC E .add 3 v2 (.int .i64 8)) fun x1=>
 PI (zJp s) K 10 [v0,x1] h):PI (zJp s) K 9 [v0,v2] h:=zB H
theorem zP7 (H :
 EvO (zO E (zl [(20,v0)]) (zn B153 [1,1,1,1,0] 2) h) fun x2=>
 EvO (zCv E 9 (some (.string ⟨#[0,1,2,2,3,3,3,3,4,4,4,4,4,4,4,4,5,5,5,5,5,5,5,5,5,5,5,5,5,5,5,5,6,6,6,6,6,6,6,6,6,6,6,6,6,6,6,6,6,6,6,6,6,6,6,6,6,6,6,6,6,6,6,6,7,7,7,7,7,7,7,7,7,7,7,7,7,7,7,7,7,7,7,7,7,7,7,7,7,7,7,7,7,7,7,7,7,7,7,7,7,7,7,7,7,7,7,7,7,7,7,7,7,7,7,7,7,7,7,7,7,7,7,7,7,7,7,7,8,8,8,8,8,8,8,8,8,8,8,8,8,8,8,8,8,8,8,8,8,8,8,8,8,8,8,8,8,8,8,8,8,8,8,8,8,8,8,8,8,8,8,8,8,8,8,8,8,8,8,8,8,8,8,8,8,8,8,8,8,8,8,8,8,8,8,8,8,8,8,8,8,8,8,8,8,8,8,8,8,8,8,8,8,8,8,8,8,8,8,8,8,8,8,8,8,8,8,8,8,8,8,8,8,8,8,8,8,8,8,8,8,8,8,8,8,8,8,8,8,8,8,8,8,8,8,8]⟩)) x2) fun x3=>
 EvO (zO E (zl [(22,x3)]) (zn B153 [1,1,1,1,0] 4) h) fun x4=>
 EvO (zC E .add 3 v2 x4) fun x5=>
 K .ret [x5] h):PI (zJp s) K 10 [v0,v2] h:=zB H
theorem zIr {Rp:Value->Prop} (hok:h.ok) (H:PI (zJp true) (KR E [.tmp 2] fun x k=>(zh x=true/\Rp x)/\h.next<=k.wm) 0 [v0] h.fresh):∃ v,Rp v/\(zW E).call 153 [v0] h=some [(v,h)]:=zCy Tryz.f153 hok (zz (zJp true) H)
noncomputable def B93:Code:=zc Tryz.f93
noncomputable def C93 (s:Bool):Cx:=⟨E,s,none,B93,[([0],[0]),([1,0,0,0],[0]),([1,1,0],[0])],[2],[]⟩
theorem zcJ (H :
 BrK (some (.bool false)) (PI (C93 s) K 1 [v0] h) (PI (C93 s) K 2 [v0] h)):PI (C93 s) K 0 [v0] h:=zB H
theorem zcI (H :
 Ev s (zQ (zW E) (some (.func (.func 153) #[] #[])) [v0] h) fun x1=>
 K .ret [x1.1] x1.2):PI (C93 s) K 2 [v0] h:=zB H
theorem zaG (hok:h.ok) (hv:zh v=true) (H:PI (C93 true) (KR E [.tmp 2] fun x k=>x=v/\h.next<=k.wm) 0 [v0] h.fresh):(zW E).call 93 [v0] h=some [(v,h)]:=zGD Tryz.f93 hok hv (zz (C93 true) H)
noncomputable def zRL:Code:=zc Tryz.f146
noncomputable def zF2 (s:Bool):Cx:=⟨E,s,none,zRL,[([0],[0,1,2]),([1,0],[0,1,8]),([1,1,0,0],[0,1,8]),([1,1,0,1,0],[0,1,8,9]),([1,1,0,1,1,0],[0,1,8,9,10]),([1,1,0,1,1,1,0,0,0,0],[0,1,8,9,10,11]),([1,1,0,1,1,1,0,0,1,0,0,0],[0,1,8,9,10,11]),([1,1,0,1,1,1,0,0,1,0,0,1,0,0],[0,1,8,9,10,11,12]),([1,1,0,1,1,1,0,0,1,0,0,1,0,1,0],[0,1,8,9,10,11,12]),([1,1,0,1,1,1,0,0,1,0,0,1,1],[0,1,8,9,10,11,12]),([1,1,0,1,1,1,0,0,1,1],[0,1,8,9,10,11])],[],[]⟩
abbrev P146_5 (s:Bool) (K:KF) (v0 v1 v8 v9 v10 v11:Value) (h:AH):Prop:=PI (zF2 s) K 5 [v0,v1,v8,v9,v10,v11] h
abbrev P146_9 (s:Bool) (K:KF) (v0 v1 v8 v9 v10 v11 v12:Value) (h:AH):Prop:=PI (zF2 s) K 9 [v0,v1,v8,v9,v10,v11,v12] h
theorem zYz (H :
 EvO (zC E .sub 3 v2 v1) fun x2=>
 PI (zF2 s) K 1 [v0,v1,x2] h):PI (zF2 s) K 0 [v0,v1,v2] h:=zB H
theorem zYy (H :
 EvO (zC E .geq 3 v8 (.int .i64 8)) fun x1=>
 BrK x1 (PI (zF2 s) K 2 [v0,v1,v8] h) (K .normal [] h)):PI (zF2 s) K 1 [v0,v1,v8] h:=zB H
theorem zYx (H :
 EvO (zO E (zl [(18,v8)]) (zn zRL [1,1,0,0] 1) h) fun x1=>
 Ev s (zX 253 h (zAG E 253)) fun x2=>
 Ev s (ze E 253 x2.2 x2.1 x1) fun x3=>
 PI (zF2 s) K 3 [v0,v1,v8,x2.1] x3.2):PI (zF2 s) K 2 [v0,v1,v8] h:=zB H
theorem zYw (H :
 Ev s (zQ (zW E) (some (.func (.func 193) #[] #[])) [v8] h) fun x1=>
 PI (zF2 s) K 4 [v0,v1,v8,v9,x1.1] x1.2):PI (zF2 s) K 3 [v0,v1,v8,v9] h:=zB H
theorem zYv (H :
 EvO (zi E (zl [(23,v8)]) (zn zRL [1,1,0,1,1,0] 2)) fun x2=>
 EvO (zC E .mul 3 x2 (.int .i64 2)) fun x3=>
 EvO (zC E .add 3 v1 x3) fun x4=>
 EvO (zC E .sub 3 x4 (.int .i64 1)) fun x5=>
 PI (zF2 s) K 5 [v0,v1,v8,v9,v10,x5] h):PI (zF2 s) K 4 [v0,v1,v8,v9,v10] h:=zB H
theorem zLX (H :
 EvO (zi E (zl [(30,v8)]) (zn zRL [1,1,0,1,1,1,0,0,0,0] 3)) fun x3=>
 EvO (zC E .mul 3 x3 (.int .i64 2)) fun x4=>
 EvO (zC E .add 3 v1 x4) fun x5=>
 EvO (zC E .add 3 x5 (.int .i64 1)) fun x6=>
 EvO (zC E .leq 3 v11 x6) fun x7=>
 BrK x7 (PI (zF2 s) K 6 [v0,v1,v8,v9,v10,v11] h) (K .normal [] h)):PI (zF2 s) K 5 [v0,v1,v8,v9,v10,v11] h:=zB H
theorem zYu (H :
 Ev s (zQ (zW E) (some (.func (.func 194) #[] #[])) [v9] h) fun x0=>
 EvO (zC E .sub 140 v10 (.int .u64 1)) fun x2=>
 EvO (zi E (zl [(38,x0.1),(40,x2)]) (zn zRL [1,1,0,1,1,1,0,0,1,0,0,0] 3)) fun x3=>
 EvO (zO E (zl [(41,x3)]) (zn zRL [1,1,0,1,1,1,0,0,1,0,0,0] 4) x0.2) fun x4=>
 PI (zF2 s) K 7 [v0,v1,v8,v9,v10,v11,x4] x0.2):PI (zF2 s) K 6 [v0,v1,v8,v9,v10,v11] h:=zB H
theorem zYt (H :
 EvO (zC E .geq 3 v12 v8) fun x2=>
 BrK x2 (PI (zF2 s) K 8 [v0,v1,v8,v9,v10,v11,v12] h) (PI (zF2 s) K 9 [v0,v1,v8,v9,v10,v11,v12] h)):PI (zF2 s) K 7 [v0,v1,v8,v9,v10,v11,v12] h:=zB H
theorem zYs (H :
 EvO (zC E .sub 3 v12 v8) fun x2=>
 PI (zF2 s) K 9 [v0,v1,v8,v9,v10,v11,x2] h):PI (zF2 s) K 8 [v0,v1,v8,v9,v10,v11,v12] h:=zB H
theorem zYr (H :
 EvO (zC E .add 3 v1 v12) fun x5=>
 EvO (zC E .add 3 v1 v12) fun x9=>
 EvO (zE E 26 v0 x9) fun x10=>
 EvO (zH E 54 h x10) fun x11=>
 EvO (zE E 26 v0 v11) fun x14=>
 EvO (zH E 54 h x14) fun x15=>
 EvO (zE E 26 v0 v11) fun x16=>
 Ev s (ze E 54 h x16 x11) fun x17=>
 EvO (zE E 26 v0 x5) fun x18=>
 Ev s (ze E 54 x17.2 x18 x15) fun x19=>
 PI (zF2 s) K 10 [v0,v1,v8,v9,v10,v11] x19.2):PI (zF2 s) K 9 [v0,v1,v8,v9,v10,v11,v12] h:=zB H
theorem zQc (H :
 EvO (zC E .add 3 v11 (.int .i64 1)) fun x1=>
 PI (zF2 s) K 5 [v0,v1,v8,v9,v10,x1] h):PI (zF2 s) K 10 [v0,v1,v8,v9,v10,v11] h:=zB H
theorem F146_ev (H:PI (zF2 s) (KR E [] Rp) 0 [v0,v1,v2] h):EvC E s Tryz.f146 [v0,v1,v2,v3] h Rp:=zz (zF2 s) H
theorem zfW:E.tab.fn.get 146=some Tryz.f146:=by kernel_rfl
theorem zax:Tryz.f146.body=some zRL:=by kernel_rfl
theorem zfV (l:List Value) (h:AH):E.sum 146 l h=none:=by kernel_rfl
noncomputable def B192:Code:=zc Tryz.f192
noncomputable def zHm (s:Bool):Cx:=⟨E,s,none,B192,[([0],[0,1,2,3,4]),([1,0,0,0,0],[0,2,3,4,10]),([1,0,0,0,1,0,0],[0,2,3,4,10,11]),([1,0,0,0,1,1,0,0],[0,2,3,4,10,11]),([1,0,0,0,1,1,0,1,0],[0,2,3,4,10,11]),([1,0,0,0,1,1,1,0,0],[0,2,3,4,10,11]),([1,0,0,0,1,1,1,1,0],[0,2,3,4,10,11]),([1,0,0,0,1,1,1,1,1],[0,2,3,4,11])],[],[]⟩
abbrev P192_1 (s:Bool) (K:KF) (v0 v2 v3 v4 v10:Value) (h:AH):Prop:=PI (zHm s) K 1 [v0,v2,v3,v4,v10] h
abbrev P192_5 (s:Bool) (K:KF) (v0 v2 v3 v4 v10 v11:Value) (h:AH):Prop:=PI (zHm s) K 5 [v0,v2,v3,v4,v10,v11] h
theorem zXF (H :
 PI (zHm s) K 1 [v0,v2,v3,v4,v1] h):PI (zHm s) K 0 [v0,v1,v2,v3,v4] h:=zB H
theorem zLG (H :
 EvO (zC E .mul 3 (.int .i64 2) v10) fun x1=>
 EvO (zC E .add 3 x1 (.int .i64 1)) fun x2=>
 PI (zHm s) K 2 [v0,v2,v3,v4,v10,x2] h):PI (zHm s) K 1 [v0,v2,v3,v4,v10] h:=zB H
theorem zLF (H :
 EvO (zC E .geq 3 v11 v2) fun x2=>
 BrK x2 (K .normal [] h) (PI (zHm s) K 3 [v0,v2,v3,v4,v10,v11] h)):PI (zHm s) K 2 [v0,v2,v3,v4,v10,v11] h:=zB H
theorem zXE (H :
 EvO (zC E .add 3 v11 (.int .i64 1)) fun x1=>
 EvO (zC E .lss 3 x1 v2) fun x3=>
 EvO (gdB x3 true v4) fun x5=>
 EvO (gdB x3 true v0) fun x6=>
 EvO (gdB x3 true v3) fun x7=>
 EvO (gdB x3 true v11) fun x8=>
 EvO (gdB x3 true (zC E .add 3 x7 x8)) fun x9=>
 EvO (gdB x3 true (zE E 26 x6 x9)) fun x10=>
 EvO (gdB x3 true (zH E 54 h x10)) fun x11=>
 EvO (gdB x3 true v0) fun x12=>
 EvO (gdB x3 true v3) fun x13=>
 EvO (gdB x3 true v11) fun x14=>
 EvO (gdB x3 true (zC E .add 3 x13 x14)) fun x15=>
 EvO (gdB x3 true (zC E .add 3 x15 (.int .i64 1))) fun x16=>
 EvO (gdB x3 true (zE E 26 x12 x16)) fun x17=>
 EvO (gdB x3 true (zH E 54 h x17)) fun x18=>
 Ev s (gdW x3 true (zQ (zW E) x5 [x11,x18] h) h) fun x19=>
 EvO (gdB x3 true (zC E .lss 3 x19.1 (.int .i64 0))) fun x20=>
 EvO (z7 x3 x20 (some (.bool false))) fun x21=>
 BrK x21 (PI (zHm s) K 4 [v0,v2,v3,v4,v10,v11] x19.2) (PI (zHm s) K 5 [v0,v2,v3,v4,v10,v11] x19.2)):PI (zHm s) K 3 [v0,v2,v3,v4,v10,v11] h:=zB H
theorem zXD (H :
 EvO (zC E .add 3 v11 (.int .i64 1)) fun x1=>
 PI (zHm s) K 5 [v0,v2,v3,v4,v10,x1] h):PI (zHm s) K 4 [v0,v2,v3,v4,v10,v11] h:=zB H
theorem zXC (H :
 EvO (zC E .add 3 v3 v10) fun x4=>
 EvO (zE E 26 v0 x4) fun x5=>
 EvO (zH E 54 h x5) fun x6=>
 EvO (zC E .add 3 v3 v11) fun x10=>
 EvO (zE E 26 v0 x10) fun x11=>
 EvO (zH E 54 h x11) fun x12=>
 Ev s (zQ (zW E) v4 [x6,x12] h) fun x13=>
 EvO (zC E .lss 3 x13.1 (.int .i64 0)) fun x14=>
 EvO (zAQ .not x14) fun x15=>
 BrK x15 (K .ret [] x13.2) (PI (zHm s) K 6 [v0,v2,v3,v4,v10,v11] x13.2)):PI (zHm s) K 5 [v0,v2,v3,v4,v10,v11] h:=zB H
theorem zXB (H :
 EvO (zC E .add 3 v3 v10) fun x3=>
 EvO (zC E .add 3 v3 v11) fun x7=>
 EvO (zC E .add 3 v3 v11) fun x11=>
 EvO (zE E 26 v0 x11) fun x12=>
 EvO (zH E 54 h x12) fun x13=>
 EvO (zC E .add 3 v3 v10) fun x17=>
 EvO (zE E 26 v0 x17) fun x18=>
 EvO (zH E 54 h x18) fun x19=>
 EvO (zE E 26 v0 x3) fun x20=>
 Ev s (ze E 54 h x20 x13) fun x21=>
 EvO (zE E 26 v0 x7) fun x22=>
 Ev s (ze E 54 x21.2 x22 x19) fun x23=>
 PI (zHm s) K 7 [v0,v2,v3,v4,v11] x23.2):PI (zHm s) K 6 [v0,v2,v3,v4,v10,v11] h:=zB H
theorem zXA (H :
 PI (zHm s) K 1 [v0,v2,v3,v4,v11] h):PI (zHm s) K 7 [v0,v2,v3,v4,v11] h:=zB H
theorem F192_ev (H:PI (zHm s) (KR E [] Rp) 0 [v0,v1,v2,v3,v4] h):EvC E s Tryz.f192 [v0,v1,v2,v3,v4] h Rp:=zz (zHm s) H
theorem zfK:E.tab.fn.get 192=some Tryz.f192:=by kernel_rfl
theorem zag:Tryz.f192.body=some B192:=by kernel_rfl
theorem zfJ (l:List Value) (h:AH):E.sum 192 l h=none:=by kernel_rfl
noncomputable def B145:Code:=zc Tryz.f145
noncomputable def zFV (s:Bool):Cx:=⟨E,s,none,B145,[([0],[0,1,2,3]),([1,0],[0,1,2,3,8]),([1,1,0],[0,1,2,3,8,9]),([1,1,1,0,0],[0,3,8,9,10]),([1,1,1,0,1,0,0,0,0],[0,3,8,9,10,11]),([1,1,1,0,1,0,0,1,0,0],[0,3,8,9,10,11]),([1,1,1,0,1,0,0,1,1],[0,3,8,9,10,11]),([1,1,1,1,0],[0,3,8,9,10]),([1,1,1,1,1,0,0,0,0],[0,3,8,9,12]),([1,1,1,1,1,0,0,1,0,0,0],[0,3,8,9,12]),([1,1,1,1,1,0,0,1,0,0,1],[0,3,8,9,12]),([1,1,1,1,1,0,0,1,1],[0,3,8,9,12])],[],[]⟩
abbrev P145_4 (s:Bool) (K:KF) (v0 v3 v8 v9 v10 v11:Value) (h:AH):Prop:=PI (zFV s) K 4 [v0,v3,v8,v9,v10,v11] h
abbrev P145_8 (s:Bool) (K:KF) (v0 v3 v8 v9 v12:Value) (h:AH):Prop:=PI (zFV s) K 8 [v0,v3,v8,v9,v12] h
theorem zY7 (H :
 PI (zFV s) K 1 [v0,v1,v2,v3,v1] h):PI (zFV s) K 0 [v0,v1,v2,v3] h:=zB H
theorem zY6 (H :
 PI (zFV s) K 2 [v0,v1,v2,v3,v8,(.int .i64 0)] h):PI (zFV s) K 1 [v0,v1,v2,v3,v8] h:=zB H
theorem zY5 (H :
 EvO (zC E .sub 3 v2 v1) fun x2=>
 PI (zFV s) K 3 [v0,v3,v8,v9,x2] h):PI (zFV s) K 2 [v0,v1,v2,v3,v8,v9] h:=zB H
theorem zY4 (H :
 EvO (zC E .sub 3 v10 (.int .i64 1)) fun x1=>
 EvO (zi E (zl [(18,x1)]) (zn B145 [1,1,1,0,0] 2)) fun x2=>
 PI (zFV s) K 4 [v0,v3,v8,v9,v10,x2] h):PI (zFV s) K 3 [v0,v3,v8,v9,v10] h:=zB H
theorem zLZ (H :
 EvO (zC E .geq 3 v11 (.int .i64 0)) fun x1=>
 BrK x1 (PI (zFV s) K 5 [v0,v3,v8,v9,v10,v11] h) (PI (zFV s) K 7 [v0,v3,v8,v9,v10] h)):PI (zFV s) K 4 [v0,v3,v8,v9,v10,v11] h:=zB H
theorem zY3 (H :
 Ev s (zQ (zW E) (some (.func (.func 192) #[] #[])) [v0,v11,v10,v8,v3] h) fun x5=>
 PI (zFV s) K 6 [v0,v3,v8,v9,v10,v11] x5.2):PI (zFV s) K 5 [v0,v3,v8,v9,v10,v11] h:=zB H
theorem zY2 (H :
 EvO (zC E .sub 3 v11 (.int .i64 1)) fun x1=>
 PI (zFV s) K 4 [v0,v3,v8,v9,v10,x1] h):PI (zFV s) K 6 [v0,v3,v8,v9,v10,v11] h:=zB H
theorem zY1 (H :
 EvO (zC E .sub 3 v10 (.int .i64 1)) fun x1=>
 PI (zFV s) K 8 [v0,v3,v8,v9,x1] h):PI (zFV s) K 7 [v0,v3,v8,v9,v10] h:=zB H
theorem zLY (H :
 EvO (zC E .geq 3 v12 (.int .i64 0)) fun x1=>
 BrK x1 (PI (zFV s) K 9 [v0,v3,v8,v9,v12] h) (K .normal [] h)):PI (zFV s) K 8 [v0,v3,v8,v9,v12] h:=zB H
theorem zY0 (H :
 EvO (zC E .add 3 v8 v12) fun x5=>
 EvO (zC E .add 3 v8 v12) fun x9=>
 EvO (zE E 26 v0 x9) fun x10=>
 EvO (zH E 54 h x10) fun x11=>
 EvO (zE E 26 v0 v8) fun x14=>
 EvO (zH E 54 h x14) fun x15=>
 EvO (zE E 26 v0 v8) fun x16=>
 Ev s (ze E 54 h x16 x11) fun x17=>
 EvO (zE E 26 v0 x5) fun x18=>
 Ev s (ze E 54 x17.2 x18 x15) fun x19=>
 PI (zFV s) K 10 [v0,v3,v8,v9,v12] x19.2):PI (zFV s) K 9 [v0,v3,v8,v9,v12] h:=zB H
theorem zQe (H :
 Ev s (zQ (zW E) (some (.func (.func 192) #[] #[])) [v0,v9,v12,v8,v3] h) fun x5=>
 PI (zFV s) K 11 [v0,v3,v8,v9,v12] x5.2):PI (zFV s) K 10 [v0,v3,v8,v9,v12] h:=zB H
theorem zQd (H :
 EvO (zC E .sub 3 v12 (.int .i64 1)) fun x1=>
 PI (zFV s) K 8 [v0,v3,v8,v9,x1] h):PI (zFV s) K 11 [v0,v3,v8,v9,v12] h:=zB H
theorem F145_ev (H:PI (zFV s) (KR E [] Rp) 0 [v0,v1,v2,v3] h):EvC E s Tryz.f145 [v0,v1,v2,v3] h Rp:=zz (zFV s) H
theorem zfY:E.tab.fn.get 145=some Tryz.f145:=by kernel_rfl
theorem zay:Tryz.f145.body=some B145:=by kernel_rfl
theorem zfX (l:List Value) (h:AH):E.sum 145 l h=none:=by kernel_rfl
noncomputable def B144:Code:=zc Tryz.f144
noncomputable def zIu (s:Bool):Cx:=⟨E,s,none,B144,[([0],[0,1,2,3]),([1,0,0,0,0],[0,1,2,3,8]),([1,0,0,1,0,0,0],[0,1,2,3,8]),([1,0,0,1,0,0,1,0,0,0,0],[0,1,2,3,8,9]),([1,0,0,1,0,0,1,0,0,1,0,0],[0,1,2,3,8,9]),([1,0,0,1,0,0,1,0,0,1,1],[0,1,2,3,8,9]),([1,0,0,1,1],[0,1,2,3,8])],[],[]⟩
abbrev P144_1 (s:Bool) (K:KF) (v0 v1 v2 v3 v8:Value) (h:AH):Prop:=PI (zIu s) K 1 [v0,v1,v2,v3,v8] h
abbrev P144_3 (s:Bool) (K:KF) (v0 v1 v2 v3 v8 v9:Value) (h:AH):Prop:=PI (zIu s) K 3 [v0,v1,v2,v3,v8,v9] h
abbrev P144_6 (s:Bool) (K:KF) (v0 v1 v2 v3 v8:Value) (h:AH):Prop:=PI (zIu s) K 6 [v0,v1,v2,v3,v8] h
theorem zZC (H :
 EvO (zC E .add 3 v1 (.int .i64 1)) fun x1=>
 PI (zIu s) K 1 [v0,v1,v2,v3,x1] h):PI (zIu s) K 0 [v0,v1,v2,v3] h:=zB H
theorem zLb (H :
 EvO (zC E .lss 3 v8 v2) fun x2=>
 BrK x2 (PI (zIu s) K 2 [v0,v1,v2,v3,v8] h) (K .normal [] h)):PI (zIu s) K 1 [v0,v1,v2,v3,v8] h:=zB H
theorem zZB (H :
 PI (zIu s) K 3 [v0,v1,v2,v3,v8,v8] h):PI (zIu s) K 2 [v0,v1,v2,v3,v8] h:=zB H
theorem zLa (H :
 EvO (zC E .gtr 3 v9 v1) fun x2=>
 EvO (gdB x2 true v3) fun x4=>
 EvO (gdB x2 true v0) fun x5=>
 EvO (gdB x2 true v9) fun x6=>
 EvO (gdB x2 true (zE E 26 x5 x6)) fun x7=>
 EvO (gdB x2 true (zH E 54 h x7)) fun x8=>
 EvO (gdB x2 true v0) fun x9=>
 EvO (gdB x2 true v9) fun x10=>
 EvO (gdB x2 true (zC E .sub 3 x10 (.int .i64 1))) fun x11=>
 EvO (gdB x2 true (zE E 26 x9 x11)) fun x12=>
 EvO (gdB x2 true (zH E 54 h x12)) fun x13=>
 Ev s (gdW x2 true (zQ (zW E) x4 [x8,x13] h) h) fun x14=>
 EvO (gdB x2 true (zC E .lss 3 x14.1 (.int .i64 0))) fun x15=>
 EvO (z7 x2 x15 (some (.bool false))) fun x16=>
 BrK x16 (PI (zIu s) K 4 [v0,v1,v2,v3,v8,v9] x14.2) (PI (zIu s) K 6 [v0,v1,v2,v3,v8] x14.2)):PI (zIu s) K 3 [v0,v1,v2,v3,v8,v9] h:=zB H
theorem zZA (H :
 EvO (zC E .sub 3 v9 (.int .i64 1)) fun x4=>
 EvO (zC E .sub 3 v9 (.int .i64 1)) fun x7=>
 EvO (zE E 26 v0 x7) fun x8=>
 EvO (zH E 54 h x8) fun x9=>
 EvO (zE E 26 v0 v9) fun x12=>
 EvO (zH E 54 h x12) fun x13=>
 EvO (zE E 26 v0 v9) fun x14=>
 Ev s (ze E 54 h x14 x9) fun x15=>
 EvO (zE E 26 v0 x4) fun x16=>
 Ev s (ze E 54 x15.2 x16 x13) fun x17=>
 PI (zIu s) K 5 [v0,v1,v2,v3,v8,v9] x17.2):PI (zIu s) K 4 [v0,v1,v2,v3,v8,v9] h:=zB H
theorem zY9 (H :
 EvO (zC E .sub 3 v9 (.int .i64 1)) fun x1=>
 PI (zIu s) K 3 [v0,v1,v2,v3,v8,x1] h):PI (zIu s) K 5 [v0,v1,v2,v3,v8,v9] h:=zB H
theorem zY8 (H :
 EvO (zC E .add 3 v8 (.int .i64 1)) fun x1=>
 PI (zIu s) K 1 [v0,v1,v2,v3,x1] h):PI (zIu s) K 6 [v0,v1,v2,v3,v8] h:=zB H
theorem F144_ev (H:PI (zIu s) (KR E [] Rp) 0 [v0,v1,v2,v3] h):EvC E s Tryz.f144 [v0,v1,v2,v3] h Rp:=zz (zIu s) H
theorem zfa:E.tab.fn.get 144=some Tryz.f144:=by kernel_rfl
theorem zaz:Tryz.f144.body=some B144:=by kernel_rfl
theorem zfZ (l:List Value) (h:AH):E.sum 144 l h=none:=by kernel_rfl
noncomputable def B149:Code:=zc Tryz.f149
noncomputable def zBM (s:Bool):Cx:=⟨E,s,none,B149,[([0],[0,1,2,3]),([1,0],[0,1,2,3]),([1,1,0,0],[0,1,2,3,9]),([1,1,0,1,0,0,0,0],[0,1,2,3,9,10]),([1,1,0,1,0,0,1,0,0,0,0,0,0,0],[0,1,2,3,9,10]),([1,1,0,1,0,0,1,0,0,0,0,0,1,0],[0,1,2,3,9,10]),([1,1,0,1,0,0,1,0,0,1,0,0],[0,1,2,3,9,10]),([1,1,0,1,0,0,1,0,0,1,0,1,0,0],[]),([1,1,0,1,0,0,1,0,0,1,1,0,0],[0,1,2,3,9,10]),([1,1,0,1,0,0,1,0,0,1,1,0,1,0,0],[]),([1,1,0,1,0,0,1,0,0,1,1,1,0],[0,1,2,3,9,10]),([1,1,0,1,0,0,1,0,0,1,1,1,1,0,0],[0,1,2,3,9,10]),([1,1,0,1,0,0,1,0,0,1,1,1,1,0,1,0,0],[0,1,2,3,9,10]),([1,1,0,1,0,0,1,0,0,1,1,1,1,0,1,0,1,0,0,0,0],[0,1,2,3,9,10,11]),([1,1,0,1,0,0,1,0,0,1,1,1,1,0,1,0,1,0,0,1,0,0,0,0],[0,1,2,3,9,10,11]),([1,1,0,1,0,0,1,0,0,1,1,1,1,0,1,0,1,0,0,1,0,0,1],[0,1,2,3,9,10,11]),([1,1,0,1,0,0,1,0,0,1,1,1,1,0,1,0,1,0,0,1,1],[0,1,2,3,9,10,11]),([1,1,0,1,0,0,1,0,0,1,1,1,1,1,0],[0,1,2,3,9,10]),([1,1,0,1,0,0,1,0,0,1,1,1,1,1,1,0,0],[0,1,2,3,9,10]),([1,1,0,1,0,0,1,0,0,1,1,1,1,1,1,0,1,0,0,0,0],[0,1,2,3,9,10,12]),([1,1,0,1,0,0,1,0,0,1,1,1,1,1,1,0,1,0,0,1,0,0,0,0],[0,1,2,3,9,10,12]),([1,1,0,1,0,0,1,0,0,1,1,1,1,1,1,0,1,0,0,1,0,0,1],[0,1,2,3,9,10,12]),([1,1,0,1,0,0,1,0,0,1,1,1,1,1,1,0,1,0,0,1,1],[0,1,2,3,9,10,12]),([1,1,0,1,0,0,1,1],[0,1,2,3,9,10]),([1,1,1,0],[])],[8],[]⟩
abbrev P149_3 (s:Bool) (K:KF) (v0 v1 v2 v3 v9 v10:Value) (h:AH):Prop:=PI (zBM s) K 3 [v0,v1,v2,v3,v9,v10] h
abbrev P149_4 (s:Bool) (K:KF) (v0 v1 v2 v3 v9 v10:Value) (h:AH):Prop:=PI (zBM s) K 4 [v0,v1,v2,v3,v9,v10] h
abbrev P149_6 (s:Bool) (K:KF) (v0 v1 v2 v3 v9 v10:Value) (h:AH):Prop:=PI (zBM s) K 6 [v0,v1,v2,v3,v9,v10] h
abbrev P149_13 (s:Bool) (K:KF) (v0 v1 v2 v3 v9 v10 v11:Value) (h:AH):Prop:=PI (zBM s) K 13 [v0,v1,v2,v3,v9,v10,v11] h
abbrev zYa (s:Bool) (K:KF) (v0 v1 v2 v3 v9 v10:Value) (h:AH):Prop:=PI (zBM s) K 17 [v0,v1,v2,v3,v9,v10] h
abbrev P149_19 (s:Bool) (K:KF) (v0 v1 v2 v3 v9 v10 v12:Value) (h:AH):Prop:=PI (zBM s) K 19 [v0,v1,v2,v3,v9,v10,v12] h
abbrev zYY (s:Bool) (K:KF) (v0 v1 v2 v3 v9 v10:Value) (h:AH):Prop:=PI (zBM s) K 23 [v0,v1,v2,v3,v9,v10] h
theorem zYb (H :
 PI (zBM s) K 1 [v0,v1,v2,v3] h):PI (zBM s) K 0 [v0,v1,v2,v3] h:=zB H
theorem zYZ (H :
 EvO (zC E .add 3 v1 (.int .i64 1)) fun x1=>
 PI (zBM s) K 2 [v0,v1,v2,v3,x1] h):PI (zBM s) K 1 [v0,v1,v2,v3] h:=zB H
theorem zYX (H :
 PI (zBM s) K 3 [v0,v1,v2,v3,v9,(.int .i64 0)] h):PI (zBM s) K 2 [v0,v1,v2,v3,v9] h:=zB H
theorem zLV (H :
 EvO (zC E .lss 3 v10 (.int .i64 5)) fun x1=>
 BrK x1 (PI (zBM s) K 4 [v0,v1,v2,v3,v9,v10] h) (PI (zBM s) K 24 [] h)):PI (zBM s) K 3 [v0,v1,v2,v3,v9,v10] h:=zB H
theorem zLU (H :
 EvO (zC E .lss 3 v9 v2) fun x2=>
 EvO (gdB x2 true v3) fun x4=>
 EvO (gdB x2 true v0) fun x5=>
 EvO (gdB x2 true v9) fun x6=>
 EvO (gdB x2 true (zE E 26 x5 x6)) fun x7=>
 EvO (gdB x2 true (zH E 54 h x7)) fun x8=>
 EvO (gdB x2 true v0) fun x9=>
 EvO (gdB x2 true v9) fun x10=>
 EvO (gdB x2 true (zC E .sub 3 x10 (.int .i64 1))) fun x11=>
 EvO (gdB x2 true (zE E 26 x9 x11)) fun x12=>
 EvO (gdB x2 true (zH E 54 h x12)) fun x13=>
 Ev s (gdW x2 true (zQ (zW E) x4 [x8,x13] h) h) fun x14=>
 EvO (gdB x2 true (zC E .lss 3 x14.1 (.int .i64 0))) fun x15=>
 EvO (gdB x2 true (zAQ .not x15)) fun x16=>
 EvO (z7 x2 x16 (some (.bool false))) fun x17=>
 BrK x17 (PI (zBM s) K 5 [v0,v1,v2,v3,v9,v10] x14.2) (PI (zBM s) K 6 [v0,v1,v2,v3,v9,v10] x14.2)):PI (zBM s) K 4 [v0,v1,v2,v3,v9,v10] h:=zB H
theorem zYW (H :
 EvO (zC E .add 3 v9 (.int .i64 1)) fun x1=>
 PI (zBM s) K 4 [v0,v1,v2,v3,x1,v10] h):PI (zBM s) K 5 [v0,v1,v2,v3,v9,v10] h:=zB H
theorem zYV (H :
 EvO (zC E .eql 3 v9 v2) fun x2=>
 BrK x2 (PI (zBM s) K 7 [] h) (PI (zBM s) K 8 [v0,v1,v2,v3,v9,v10] h)):PI (zBM s) K 6 [v0,v1,v2,v3,v9,v10] h:=zB H
theorem zYU (H :
 K .ret [(.bool true)] h):PI (zBM s) K 7 [] h:=zB H
theorem zYT (H :
 EvO (zC E .sub 3 v2 v1) fun x2=>
 EvO (zC E .lss 3 x2 (.int .i64 50)) fun x3=>
 BrK x3 (PI (zBM s) K 9 [] h) (PI (zBM s) K 10 [v0,v1,v2,v3,v9,v10] h)):PI (zBM s) K 8 [v0,v1,v2,v3,v9,v10] h:=zB H
theorem zYS (H :
 K .ret [(.bool false)] h):PI (zBM s) K 9 [] h:=zB H
theorem zQT (H :
 EvO (zC E .sub 3 v9 (.int .i64 1)) fun x4=>
 EvO (zC E .sub 3 v9 (.int .i64 1)) fun x7=>
 EvO (zE E 26 v0 x7) fun x8=>
 EvO (zH E 54 h x8) fun x9=>
 EvO (zE E 26 v0 v9) fun x12=>
 EvO (zH E 54 h x12) fun x13=>
 EvO (zE E 26 v0 v9) fun x14=>
 Ev s (ze E 54 h x14 x9) fun x15=>
 EvO (zE E 26 v0 x4) fun x16=>
 Ev s (ze E 54 x15.2 x16 x13) fun x17=>
 PI (zBM s) K 11 [v0,v1,v2,v3,v9,v10] x17.2):PI (zBM s) K 10 [v0,v1,v2,v3,v9,v10] h:=zB H
theorem zQS (H :
 EvO (zC E .sub 3 v9 v1) fun x2=>
 EvO (zC E .geq 3 x2 (.int .i64 2)) fun x3=>
 BrK x3 (PI (zBM s) K 12 [v0,v1,v2,v3,v9,v10] h) (PI (zBM s) K 17 [v0,v1,v2,v3,v9,v10] h)):PI (zBM s) K 11 [v0,v1,v2,v3,v9,v10] h:=zB H
theorem zQR (H :
 EvO (zC E .sub 3 v9 (.int .i64 1)) fun x1=>
 PI (zBM s) K 13 [v0,v1,v2,v3,v9,v10,x1] h):PI (zBM s) K 12 [v0,v1,v2,v3,v9,v10] h:=zB H
theorem zIo (H :
 EvO (zC E .geq 3 v11 (.int .i64 1)) fun x1=>
 BrK x1 (PI (zBM s) K 14 [v0,v1,v2,v3,v9,v10,v11] h) (PI (zBM s) K 17 [v0,v1,v2,v3,v9,v10] h)):PI (zBM s) K 13 [v0,v1,v2,v3,v9,v10,v11] h:=zB H
theorem zQQ (H :
 EvO (zE E 26 v0 v11) fun x3=>
 EvO (zH E 54 h x3) fun x4=>
 EvO (zC E .sub 3 v11 (.int .i64 1)) fun x7=>
 EvO (zE E 26 v0 x7) fun x8=>
 EvO (zH E 54 h x8) fun x9=>
 Ev s (zQ (zW E) v3 [x4,x9] h) fun x10=>
 EvO (zC E .lss 3 x10.1 (.int .i64 0)) fun x11=>
 EvO (zAQ .not x11) fun x12=>
 BrK x12 (PI (zBM s) K 17 [v0,v1,v2,v3,v9,v10] x10.2) (PI (zBM s) K 15 [v0,v1,v2,v3,v9,v10,v11] x10.2)):PI (zBM s) K 14 [v0,v1,v2,v3,v9,v10,v11] h:=zB H
theorem zQP (H :
 EvO (zC E .sub 3 v11 (.int .i64 1)) fun x4=>
 EvO (zC E .sub 3 v11 (.int .i64 1)) fun x7=>
 EvO (zE E 26 v0 x7) fun x8=>
 EvO (zH E 54 h x8) fun x9=>
 EvO (zE E 26 v0 v11) fun x12=>
 EvO (zH E 54 h x12) fun x13=>
 EvO (zE E 26 v0 v11) fun x14=>
 Ev s (ze E 54 h x14 x9) fun x15=>
 EvO (zE E 26 v0 x4) fun x16=>
 Ev s (ze E 54 x15.2 x16 x13) fun x17=>
 PI (zBM s) K 16 [v0,v1,v2,v3,v9,v10,v11] x17.2):PI (zBM s) K 15 [v0,v1,v2,v3,v9,v10,v11] h:=zB H
theorem zQO (H :
 EvO (zC E .sub 3 v11 (.int .i64 1)) fun x1=>
 PI (zBM s) K 13 [v0,v1,v2,v3,v9,v10,x1] h):PI (zBM s) K 16 [v0,v1,v2,v3,v9,v10,v11] h:=zB H
theorem zQN (H :
 EvO (zC E .sub 3 v2 v9) fun x2=>
 EvO (zC E .geq 3 x2 (.int .i64 2)) fun x3=>
 BrK x3 (PI (zBM s) K 18 [v0,v1,v2,v3,v9,v10] h) (PI (zBM s) K 23 [v0,v1,v2,v3,v9,v10] h)):PI (zBM s) K 17 [v0,v1,v2,v3,v9,v10] h:=zB H
theorem zQM (H :
 EvO (zC E .add 3 v9 (.int .i64 1)) fun x1=>
 PI (zBM s) K 19 [v0,v1,v2,v3,v9,v10,x1] h):PI (zBM s) K 18 [v0,v1,v2,v3,v9,v10] h:=zB H
theorem zIn (H :
 EvO (zC E .lss 3 v12 v2) fun x2=>
 BrK x2 (PI (zBM s) K 20 [v0,v1,v2,v3,v9,v10,v12] h) (PI (zBM s) K 23 [v0,v1,v2,v3,v9,v10] h)):PI (zBM s) K 19 [v0,v1,v2,v3,v9,v10,v12] h:=zB H
theorem zQL (H :
 EvO (zE E 26 v0 v12) fun x3=>
 EvO (zH E 54 h x3) fun x4=>
 EvO (zC E .sub 3 v12 (.int .i64 1)) fun x7=>
 EvO (zE E 26 v0 x7) fun x8=>
 EvO (zH E 54 h x8) fun x9=>
 Ev s (zQ (zW E) v3 [x4,x9] h) fun x10=>
 EvO (zC E .lss 3 x10.1 (.int .i64 0)) fun x11=>
 EvO (zAQ .not x11) fun x12=>
 BrK x12 (PI (zBM s) K 23 [v0,v1,v2,v3,v9,v10] x10.2) (PI (zBM s) K 21 [v0,v1,v2,v3,v9,v10,v12] x10.2)):PI (zBM s) K 20 [v0,v1,v2,v3,v9,v10,v12] h:=zB H
theorem zQK (H :
 EvO (zC E .sub 3 v12 (.int .i64 1)) fun x4=>
 EvO (zC E .sub 3 v12 (.int .i64 1)) fun x7=>
 EvO (zE E 26 v0 x7) fun x8=>
 EvO (zH E 54 h x8) fun x9=>
 EvO (zE E 26 v0 v12) fun x12=>
 EvO (zH E 54 h x12) fun x13=>
 EvO (zE E 26 v0 v12) fun x14=>
 Ev s (ze E 54 h x14 x9) fun x15=>
 EvO (zE E 26 v0 x4) fun x16=>
 Ev s (ze E 54 x15.2 x16 x13) fun x17=>
 PI (zBM s) K 22 [v0,v1,v2,v3,v9,v10,v12] x17.2):PI (zBM s) K 21 [v0,v1,v2,v3,v9,v10,v12] h:=zB H
theorem zQJ (H :
 EvO (zC E .add 3 v12 (.int .i64 1)) fun x1=>
 PI (zBM s) K 19 [v0,v1,v2,v3,v9,v10,x1] h):PI (zBM s) K 22 [v0,v1,v2,v3,v9,v10,v12] h:=zB H
theorem zQI (H :
 EvO (zC E .add 3 v10 (.int .i64 1)) fun x1=>
 PI (zBM s) K 3 [v0,v1,v2,v3,v9,x1] h):PI (zBM s) K 23 [v0,v1,v2,v3,v9,v10] h:=zB H
theorem zQH (H :
 K .ret [(.bool false)] h):PI (zBM s) K 24 [] h:=zB H
theorem F149_ev (H:PI (zBM s) (KR E [.tmp 8] Rp) 0 [v0,v1,v2,v3] h):EvC E s Tryz.f149 [v0,v1,v2,v3] h Rp:=zz (zBM s) H
theorem zfS:E.tab.fn.get 149=some Tryz.f149:=by kernel_rfl
theorem zav:Tryz.f149.body=some B149:=by kernel_rfl
theorem zfR (l:List Value) (h:AH):E.sum 149 l h=none:=by kernel_rfl
noncomputable def B150:Code:=zc Tryz.f150
noncomputable def zEv (s:Bool):Cx:=⟨E,s,none,B150,[([0],[0,1,2,3,4]),([1,0],[0,1,2,3,4]),([1,1,0],[0,1,2,4]),([1,1,1,0,0,0,0,0,0,0,0,0],[0,1,4,11,12]),([1,1,1,0,0,0,0,0,0,0,1,0],[0,1,4,11,12]),([1,1,1,0,0,0,0,1,0,0,0,0,0],[0,1,4,11,12]),([1,1,1,0,0,0,0,1,0,0,0,1,0],[0,1,4,11,12]),([1,1,1,0,0,0,0,1,1,0,0],[0,1,4,11,12]),([1,1,1,0,0,0,0,1,1,1,0],[0,1,4,11,12]),([1,1,1,0,0,0,0,1,1,1,1,0],[0,1,4,11,12]),([1,1,1,0,0,0,0,1,1,1,1,1],[0,1,4,11,12]),([1,1,1,1,0],[11])],[10],[]⟩
abbrev P150_3 (s:Bool) (K:KF) (v0 v1 v4 v11 v12:Value) (h:AH):Prop:=PI (zEv s) K 3 [v0,v1,v4,v11,v12] h
abbrev P150_5 (s:Bool) (K:KF) (v0 v1 v4 v11 v12:Value) (h:AH):Prop:=PI (zEv s) K 5 [v0,v1,v4,v11,v12] h
abbrev P150_7 (s:Bool) (K:KF) (v0 v1 v4 v11 v12:Value) (h:AH):Prop:=PI (zEv s) K 7 [v0,v1,v4,v11,v12] h
theorem zYM (H :
 PI (zEv s) K 1 [v0,v1,v2,v3,v4] h):PI (zEv s) K 0 [v0,v1,v2,v3,v4] h:=zB H
theorem zYL (H :
 EvO (zE E 26 v0 v3) fun x6=>
 EvO (zH E 54 h x6) fun x7=>
 EvO (zE E 26 v0 v1) fun x10=>
 EvO (zH E 54 h x10) fun x11=>
 EvO (zE E 26 v0 v1) fun x12=>
 Ev s (ze E 54 h x12 x7) fun x13=>
 EvO (zE E 26 v0 v3) fun x14=>
 Ev s (ze E 54 x13.2 x14 x11) fun x15=>
 PI (zEv s) K 2 [v0,v1,v2,v4] x15.2):PI (zEv s) K 1 [v0,v1,v2,v3,v4] h:=zB H
theorem zYK (H :
 EvO (zC E .add 3 v1 (.int .i64 1)) fun x1=>
 EvO (zC E .sub 3 v2 (.int .i64 1)) fun x3=>
 PI (zEv s) K 3 [v0,v1,v4,x1,x3] h):PI (zEv s) K 2 [v0,v1,v2,v4] h:=zB H
theorem zLT (H :
 EvO (zC E .leq 3 v11 v12) fun x2=>
 EvO (gdB x2 true v4) fun x4=>
 EvO (gdB x2 true v0) fun x5=>
 EvO (gdB x2 true v1) fun x6=>
 EvO (gdB x2 true (zE E 26 x5 x6)) fun x7=>
 EvO (gdB x2 true (zH E 54 h x7)) fun x8=>
 EvO (gdB x2 true v0) fun x9=>
 EvO (gdB x2 true v11) fun x10=>
 EvO (gdB x2 true (zE E 26 x9 x10)) fun x11=>
 EvO (gdB x2 true (zH E 54 h x11)) fun x12=>
 Ev s (gdW x2 true (zQ (zW E) x4 [x8,x12] h) h) fun x13=>
 EvO (gdB x2 true (zC E .lss 3 x13.1 (.int .i64 0))) fun x14=>
 EvO (gdB x2 true (zAQ .not x14)) fun x15=>
 EvO (z7 x2 x15 (some (.bool false))) fun x16=>
 BrK x16 (PI (zEv s) K 4 [v0,v1,v4,v11,v12] x13.2) (PI (zEv s) K 5 [v0,v1,v4,v11,v12] x13.2)):PI (zEv s) K 3 [v0,v1,v4,v11,v12] h:=zB H
theorem zYJ (H :
 EvO (zC E .add 3 v11 (.int .i64 1)) fun x1=>
 PI (zEv s) K 3 [v0,v1,v4,x1,v12] h):PI (zEv s) K 4 [v0,v1,v4,v11,v12] h:=zB H
theorem zLS (H :
 EvO (zC E .leq 3 v11 v12) fun x2=>
 EvO (gdB x2 true v4) fun x4=>
 EvO (gdB x2 true v0) fun x5=>
 EvO (gdB x2 true v1) fun x6=>
 EvO (gdB x2 true (zE E 26 x5 x6)) fun x7=>
 EvO (gdB x2 true (zH E 54 h x7)) fun x8=>
 EvO (gdB x2 true v0) fun x9=>
 EvO (gdB x2 true v12) fun x10=>
 EvO (gdB x2 true (zE E 26 x9 x10)) fun x11=>
 EvO (gdB x2 true (zH E 54 h x11)) fun x12=>
 Ev s (gdW x2 true (zQ (zW E) x4 [x8,x12] h) h) fun x13=>
 EvO (gdB x2 true (zC E .lss 3 x13.1 (.int .i64 0))) fun x14=>
 EvO (z7 x2 x14 (some (.bool false))) fun x15=>
 BrK x15 (PI (zEv s) K 6 [v0,v1,v4,v11,v12] x13.2) (PI (zEv s) K 7 [v0,v1,v4,v11,v12] x13.2)):PI (zEv s) K 5 [v0,v1,v4,v11,v12] h:=zB H
theorem zYI (H :
 EvO (zC E .sub 3 v12 (.int .i64 1)) fun x1=>
 PI (zEv s) K 5 [v0,v1,v4,v11,x1] h):PI (zEv s) K 6 [v0,v1,v4,v11,v12] h:=zB H
theorem zLR (H :
 EvO (zC E .gtr 3 v11 v12) fun x2=>
 BrK x2 (PI (zEv s) K 11 [v11] h) (PI (zEv s) K 8 [v0,v1,v4,v11,v12] h)):PI (zEv s) K 7 [v0,v1,v4,v11,v12] h:=zB H
theorem zYH (H :
 EvO (zE E 26 v0 v12) fun x6=>
 EvO (zH E 54 h x6) fun x7=>
 EvO (zE E 26 v0 v11) fun x10=>
 EvO (zH E 54 h x10) fun x11=>
 EvO (zE E 26 v0 v11) fun x12=>
 Ev s (ze E 54 h x12 x7) fun x13=>
 EvO (zE E 26 v0 v12) fun x14=>
 Ev s (ze E 54 x13.2 x14 x11) fun x15=>
 PI (zEv s) K 9 [v0,v1,v4,v11,v12] x15.2):PI (zEv s) K 8 [v0,v1,v4,v11,v12] h:=zB H
theorem zYG (H :
 EvO (zC E .add 3 v11 (.int .i64 1)) fun x1=>
 PI (zEv s) K 10 [v0,v1,v4,x1,v12] h):PI (zEv s) K 9 [v0,v1,v4,v11,v12] h:=zB H
theorem zQG (H :
 EvO (zC E .sub 3 v12 (.int .i64 1)) fun x1=>
 PI (zEv s) K 3 [v0,v1,v4,v11,x1] h):PI (zEv s) K 10 [v0,v1,v4,v11,v12] h:=zB H
theorem zIm (H :
 K .ret [v11] h):PI (zEv s) K 11 [v11] h:=zB H
theorem F150_ev (H:PI (zEv s) (KR E [.tmp 10] Rp) 0 [v0,v1,v2,v3,v4] h):EvC E s Tryz.f150 [v0,v1,v2,v3,v4] h Rp:=zz (zEv s) H
theorem zfQ:E.tab.fn.get 150=some Tryz.f150:=by kernel_rfl
theorem zat:Tryz.f150.body=some B150:=by kernel_rfl
theorem zfP (l:List Value) (h:AH):E.sum 150 l h=none:=by kernel_rfl
noncomputable def B151:Code:=zc Tryz.f151
noncomputable def zBo (s:Bool):Cx:=⟨E,s,none,B151,[([0],[0,1,2,3,4]),([1,0],[0,1,2,3,4]),([1,1,0],[0,1,2,4]),([1,1,1,0,0,0,0,0],[0,1,4,12,13]),([1,1,1,0,0,0,1,0],[0,1,4,12,13]),([1,1,1,1,0,0,0,0,0],[0,1,4,12,13]),([1,1,1,1,0,0,0,1,0],[0,1,4,12,13]),([1,1,1,1,1,0,0],[0,1,4,12,13]),([1,1,1,1,1,0,1,0,0],[0,1,13]),([1,1,1,1,1,0,1,0,1,0],[13]),([1,1,1,1,1,1,0],[0,1,4,12,13]),([1,1,1,1,1,1,1,0],[0,1,4,12,13]),([1,1,1,1,1,1,1,1,0],[0,1,4,12,13]),([1,1,1,1,1,1,1,1,1,0,0,0,0,0,0,0,0,0],[0,1,4,12,13]),([1,1,1,1,1,1,1,1,1,0,0,0,0,0,0,0,1,0],[0,1,4,12,13]),([1,1,1,1,1,1,1,1,1,0,0,0,0,1,0,0,0,0,0],[0,1,4,12,13]),([1,1,1,1,1,1,1,1,1,0,0,0,0,1,0,0,0,1,0],[0,1,4,12,13]),([1,1,1,1,1,1,1,1,1,0,0,0,0,1,1,0,0],[0,1,4,12,13]),([1,1,1,1,1,1,1,1,1,0,0,0,0,1,1,1,0],[0,1,4,12,13]),([1,1,1,1,1,1,1,1,1,0,0,0,0,1,1,1,1,0],[0,1,4,12,13]),([1,1,1,1,1,1,1,1,1,0,0,0,0,1,1,1,1,1],[0,1,4,12,13]),([1,1,1,1,1,1,1,1,1,1,0],[0,1,13]),([1,1,1,1,1,1,1,1,1,1,1,0],[13])],[10,11],[]⟩
abbrev P151_3 (s:Bool) (K:KF) (v0 v1 v4 v12 v13:Value) (h:AH):Prop:=PI (zBo s) K 3 [v0,v1,v4,v12,v13] h
abbrev P151_5 (s:Bool) (K:KF) (v0 v1 v4 v12 v13:Value) (h:AH):Prop:=PI (zBo s) K 5 [v0,v1,v4,v12,v13] h
abbrev P151_7 (s:Bool) (K:KF) (v0 v1 v4 v12 v13:Value) (h:AH):Prop:=PI (zBo s) K 7 [v0,v1,v4,v12,v13] h
abbrev zYE (s:Bool) (K:KF) (v0 v1 v4 v12 v13:Value) (h:AH):Prop:=PI (zBo s) K 13 [v0,v1,v4,v12,v13] h
abbrev zYD (s:Bool) (K:KF) (v0 v1 v4 v12 v13:Value) (h:AH):Prop:=PI (zBo s) K 15 [v0,v1,v4,v12,v13] h
abbrev P151_17 (s:Bool) (K:KF) (v0 v1 v4 v12 v13:Value) (h:AH):Prop:=PI (zBo s) K 17 [v0,v1,v4,v12,v13] h
theorem zYF (H :
 PI (zBo s) K 1 [v0,v1,v2,v3,v4] h):PI (zBo s) K 0 [v0,v1,v2,v3,v4] h:=zB H
theorem zYC (H :
 EvO (zE E 26 v0 v3) fun x6=>
 EvO (zH E 54 h x6) fun x7=>
 EvO (zE E 26 v0 v1) fun x10=>
 EvO (zH E 54 h x10) fun x11=>
 EvO (zE E 26 v0 v1) fun x12=>
 Ev s (ze E 54 h x12 x7) fun x13=>
 EvO (zE E 26 v0 v3) fun x14=>
 Ev s (ze E 54 x13.2 x14 x11) fun x15=>
 PI (zBo s) K 2 [v0,v1,v2,v4] x15.2):PI (zBo s) K 1 [v0,v1,v2,v3,v4] h:=zB H
theorem zYB (H :
 EvO (zC E .add 3 v1 (.int .i64 1)) fun x1=>
 EvO (zC E .sub 3 v2 (.int .i64 1)) fun x3=>
 PI (zBo s) K 3 [v0,v1,v4,x1,x3] h):PI (zBo s) K 2 [v0,v1,v2,v4] h:=zB H
theorem zLQ (H :
 EvO (zC E .leq 3 v12 v13) fun x2=>
 EvO (gdB x2 true v4) fun x4=>
 EvO (gdB x2 true v0) fun x5=>
 EvO (gdB x2 true v12) fun x6=>
 EvO (gdB x2 true (zE E 26 x5 x6)) fun x7=>
 EvO (gdB x2 true (zH E 54 h x7)) fun x8=>
 EvO (gdB x2 true v0) fun x9=>
 EvO (gdB x2 true v1) fun x10=>
 EvO (gdB x2 true (zE E 26 x9 x10)) fun x11=>
 EvO (gdB x2 true (zH E 54 h x11)) fun x12=>
 Ev s (gdW x2 true (zQ (zW E) x4 [x8,x12] h) h) fun x13=>
 EvO (gdB x2 true (zC E .lss 3 x13.1 (.int .i64 0))) fun x14=>
 EvO (z7 x2 x14 (some (.bool false))) fun x15=>
 BrK x15 (PI (zBo s) K 4 [v0,v1,v4,v12,v13] x13.2) (PI (zBo s) K 5 [v0,v1,v4,v12,v13] x13.2)):PI (zBo s) K 3 [v0,v1,v4,v12,v13] h:=zB H
theorem zYA (H :
 EvO (zC E .add 3 v12 (.int .i64 1)) fun x1=>
 PI (zBo s) K 3 [v0,v1,v4,x1,v13] h):PI (zBo s) K 4 [v0,v1,v4,v12,v13] h:=zB H
theorem zLP (H :
 EvO (zC E .leq 3 v12 v13) fun x2=>
 EvO (gdB x2 true v4) fun x4=>
 EvO (gdB x2 true v0) fun x5=>
 EvO (gdB x2 true v13) fun x6=>
 EvO (gdB x2 true (zE E 26 x5 x6)) fun x7=>
 EvO (gdB x2 true (zH E 54 h x7)) fun x8=>
 EvO (gdB x2 true v0) fun x9=>
 EvO (gdB x2 true v1) fun x10=>
 EvO (gdB x2 true (zE E 26 x9 x10)) fun x11=>
 EvO (gdB x2 true (zH E 54 h x11)) fun x12=>
 Ev s (gdW x2 true (zQ (zW E) x4 [x8,x12] h) h) fun x13=>
 EvO (gdB x2 true (zC E .lss 3 x13.1 (.int .i64 0))) fun x14=>
 EvO (gdB x2 true (zAQ .not x14)) fun x15=>
 EvO (z7 x2 x15 (some (.bool false))) fun x16=>
 BrK x16 (PI (zBo s) K 6 [v0,v1,v4,v12,v13] x13.2) (PI (zBo s) K 7 [v0,v1,v4,v12,v13] x13.2)):PI (zBo s) K 5 [v0,v1,v4,v12,v13] h:=zB H
theorem zX9 (H :
 EvO (zC E .sub 3 v13 (.int .i64 1)) fun x1=>
 PI (zBo s) K 5 [v0,v1,v4,v12,x1] h):PI (zBo s) K 6 [v0,v1,v4,v12,v13] h:=zB H
theorem zX8 (H :
 EvO (zC E .gtr 3 v12 v13) fun x2=>
 BrK x2 (PI (zBo s) K 8 [v0,v1,v13] h) (PI (zBo s) K 10 [v0,v1,v4,v12,v13] h)):PI (zBo s) K 7 [v0,v1,v4,v12,v13] h:=zB H
theorem zX7 (H :
 EvO (zE E 26 v0 v1) fun x6=>
 EvO (zH E 54 h x6) fun x7=>
 EvO (zE E 26 v0 v13) fun x10=>
 EvO (zH E 54 h x10) fun x11=>
 EvO (zE E 26 v0 v13) fun x12=>
 Ev s (ze E 54 h x12 x7) fun x13=>
 EvO (zE E 26 v0 v1) fun x14=>
 Ev s (ze E 54 x13.2 x14 x11) fun x15=>
 PI (zBo s) K 9 [v13] x15.2):PI (zBo s) K 8 [v0,v1,v13] h:=zB H
theorem zX6 (H :
 K .ret [v13,(.bool true)] h):PI (zBo s) K 9 [v13] h:=zB H
theorem zQF (H :
 EvO (zE E 26 v0 v13) fun x6=>
 EvO (zH E 54 h x6) fun x7=>
 EvO (zE E 26 v0 v12) fun x10=>
 EvO (zH E 54 h x10) fun x11=>
 EvO (zE E 26 v0 v12) fun x12=>
 Ev s (ze E 54 h x12 x7) fun x13=>
 EvO (zE E 26 v0 v13) fun x14=>
 Ev s (ze E 54 x13.2 x14 x11) fun x15=>
 PI (zBo s) K 11 [v0,v1,v4,v12,v13] x15.2):PI (zBo s) K 10 [v0,v1,v4,v12,v13] h:=zB H
theorem zQE (H :
 EvO (zC E .add 3 v12 (.int .i64 1)) fun x1=>
 PI (zBo s) K 12 [v0,v1,v4,x1,v13] h):PI (zBo s) K 11 [v0,v1,v4,v12,v13] h:=zB H
theorem zQD (H :
 EvO (zC E .sub 3 v13 (.int .i64 1)) fun x1=>
 PI (zBo s) K 13 [v0,v1,v4,v12,x1] h):PI (zBo s) K 12 [v0,v1,v4,v12,v13] h:=zB H
theorem zIl (H :
 EvO (zC E .leq 3 v12 v13) fun x2=>
 EvO (gdB x2 true v4) fun x4=>
 EvO (gdB x2 true v0) fun x5=>
 EvO (gdB x2 true v12) fun x6=>
 EvO (gdB x2 true (zE E 26 x5 x6)) fun x7=>
 EvO (gdB x2 true (zH E 54 h x7)) fun x8=>
 EvO (gdB x2 true v0) fun x9=>
 EvO (gdB x2 true v1) fun x10=>
 EvO (gdB x2 true (zE E 26 x9 x10)) fun x11=>
 EvO (gdB x2 true (zH E 54 h x11)) fun x12=>
 Ev s (gdW x2 true (zQ (zW E) x4 [x8,x12] h) h) fun x13=>
 EvO (gdB x2 true (zC E .lss 3 x13.1 (.int .i64 0))) fun x14=>
 EvO (z7 x2 x14 (some (.bool false))) fun x15=>
 BrK x15 (PI (zBo s) K 14 [v0,v1,v4,v12,v13] x13.2) (PI (zBo s) K 15 [v0,v1,v4,v12,v13] x13.2)):PI (zBo s) K 13 [v0,v1,v4,v12,v13] h:=zB H
theorem zQC (H :
 EvO (zC E .add 3 v12 (.int .i64 1)) fun x1=>
 PI (zBo s) K 13 [v0,v1,v4,x1,v13] h):PI (zBo s) K 14 [v0,v1,v4,v12,v13] h:=zB H
theorem zIk (H :
 EvO (zC E .leq 3 v12 v13) fun x2=>
 EvO (gdB x2 true v4) fun x4=>
 EvO (gdB x2 true v0) fun x5=>
 EvO (gdB x2 true v13) fun x6=>
 EvO (gdB x2 true (zE E 26 x5 x6)) fun x7=>
 EvO (gdB x2 true (zH E 54 h x7)) fun x8=>
 EvO (gdB x2 true v0) fun x9=>
 EvO (gdB x2 true v1) fun x10=>
 EvO (gdB x2 true (zE E 26 x9 x10)) fun x11=>
 EvO (gdB x2 true (zH E 54 h x11)) fun x12=>
 Ev s (gdW x2 true (zQ (zW E) x4 [x8,x12] h) h) fun x13=>
 EvO (gdB x2 true (zC E .lss 3 x13.1 (.int .i64 0))) fun x14=>
 EvO (gdB x2 true (zAQ .not x14)) fun x15=>
 EvO (z7 x2 x15 (some (.bool false))) fun x16=>
 BrK x16 (PI (zBo s) K 16 [v0,v1,v4,v12,v13] x13.2) (PI (zBo s) K 17 [v0,v1,v4,v12,v13] x13.2)):PI (zBo s) K 15 [v0,v1,v4,v12,v13] h:=zB H
theorem zQB (H :
 EvO (zC E .sub 3 v13 (.int .i64 1)) fun x1=>
 PI (zBo s) K 15 [v0,v1,v4,v12,x1] h):PI (zBo s) K 16 [v0,v1,v4,v12,v13] h:=zB H
theorem zIj (H :
 EvO (zC E .gtr 3 v12 v13) fun x2=>
 BrK x2 (PI (zBo s) K 21 [v0,v1,v13] h) (PI (zBo s) K 18 [v0,v1,v4,v12,v13] h)):PI (zBo s) K 17 [v0,v1,v4,v12,v13] h:=zB H
theorem zQA (H :
 EvO (zE E 26 v0 v13) fun x6=>
 EvO (zH E 54 h x6) fun x7=>
 EvO (zE E 26 v0 v12) fun x10=>
 EvO (zH E 54 h x10) fun x11=>
 EvO (zE E 26 v0 v12) fun x12=>
 Ev s (ze E 54 h x12 x7) fun x13=>
 EvO (zE E 26 v0 v13) fun x14=>
 Ev s (ze E 54 x13.2 x14 x11) fun x15=>
 PI (zBo s) K 19 [v0,v1,v4,v12,v13] x15.2):PI (zBo s) K 18 [v0,v1,v4,v12,v13] h:=zB H
theorem zP9 (H :
 EvO (zC E .add 3 v12 (.int .i64 1)) fun x1=>
 PI (zBo s) K 20 [v0,v1,v4,x1,v13] h):PI (zBo s) K 19 [v0,v1,v4,v12,v13] h:=zB H
theorem zP8 (H :
 EvO (zC E .sub 3 v13 (.int .i64 1)) fun x1=>
 PI (zBo s) K 13 [v0,v1,v4,v12,x1] h):PI (zBo s) K 20 [v0,v1,v4,v12,v13] h:=zB H
theorem zIi (H :
 EvO (zE E 26 v0 v1) fun x6=>
 EvO (zH E 54 h x6) fun x7=>
 EvO (zE E 26 v0 v13) fun x10=>
 EvO (zH E 54 h x10) fun x11=>
 EvO (zE E 26 v0 v13) fun x12=>
 Ev s (ze E 54 h x12 x7) fun x13=>
 EvO (zE E 26 v0 v1) fun x14=>
 Ev s (ze E 54 x13.2 x14 x11) fun x15=>
 PI (zBo s) K 22 [v13] x15.2):PI (zBo s) K 21 [v0,v1,v13] h:=zB H
theorem zIh (H :
 K .ret [v13,(.bool false)] h):PI (zBo s) K 22 [v13] h:=zB H
theorem F151_ev (H:PI (zBo s) (KR E [.tmp 10,.tmp 11] Rp) 0 [v0,v1,v2,v3,v4] h):EvC E s Tryz.f151 [v0,v1,v2,v3,v4] h Rp:=zz (zBo s) H
theorem zfO:E.tab.fn.get 151=some Tryz.f151:=by kernel_rfl
theorem zas:Tryz.f151.body=some B151:=by kernel_rfl
theorem zfN (l:List Value) (h:AH):E.sum 151 l h=none:=by kernel_rfl
noncomputable def B92:Code:=zc Tryz.f92
noncomputable def C92 (s:Bool):Cx:=⟨E,s,none,B92,[([0],[0,1,2,3,4]),([1,0],[0,1,2,3,4,10]),([1,1,0,0,0,0],[0,1,2,3,4,10,11]),([1,1,0,0,0,1,0,0],[0,1,2,3,4,10,11,12]),([1,1,0,0,0,1,0,1,0,0],[0,1,2,4]),([1,1,0,0,0,1,1,0,0],[0,1,2,3,4,10,11,12]),([1,1,0,0,0,1,1,0,1,0,0],[0,1,2,4]),([1,1,0,0,0,1,1,1,0,0],[0,1,2,3,4,10,11,12]),([1,1,0,0,0,1,1,1,0,1,0,0],[0,1,2,3,4,10,11,12]),([1,1,0,0,0,1,1,1,0,1,0,1],[0,1,2,3,4,10,11,12]),([1,1,0,0,0,1,1,1,1,0],[0,1,2,3,4,10,11,12]),([1,1,0,0,0,1,1,1,1,1,0,0],[0,1,2,3,4,10,11,12,13,14]),([1,1,0,0,0,1,1,1,1,1,0,1,0,0],[0,1,2,3,4,10,11,12,13]),([1,1,0,0,0,1,1,1,1,1,0,1,0,1,0],[0,1,2,3,4,10,11,12,13]),([1,1,0,0,0,1,1,1,1,1,0,1,0,1,1],[0,1,2,3,4,10,11,12,13]),([1,1,0,0,0,1,1,1,1,1,1,0,0],[0,1,2,3,4,10,11,12,13,14]),([1,1,0,0,0,1,1,1,1,1,1,0,1,0,0],[0,1,2,3,4,10,11,12,13]),([1,1,0,0,0,1,1,1,1,1,1,1,0,0],[0,1,2,3,4,10,11,12,13]),([1,1,0,0,0,1,1,1,1,1,1,1,0,1,0,0],[0,1,2,3,4,10,11,13]),([1,1,0,0,0,1,1,1,1,1,1,1,0,1,0,1,0],[0,2,3,4,10,11,15]),([1,1,0,0,0,1,1,1,1,1,1,1,1,0],[0,1,2,3,4,12,13]),([1,1,0,0,0,1,1,1,1,1,1,1,1,1,0],[0,1,2,3,4,12,16,17]),([1,1,0,0,0,1,1,1,1,1,1,1,1,1,1,0],[0,1,2,3,4,11,12,16]),([1,1,0,0,0,1,1,1,1,1,1,1,1,1,1,1,0],[0,1,2,3,4,11,12,16,18,19]),([1,1,0,0,0,1,1,1,1,1,1,1,1,1,1,1,1,0],[0,1,2,3,4,11,16,18,19,20]),([1,1,0,0,0,1,1,1,1,1,1,1,1,1,1,1,1,1,0,0],[0,1,2,3,4,11,16,18,20]),([1,1,0,0,0,1,1,1,1,1,1,1,1,1,1,1,1,1,0,1,0],[0,1,2,3,4,10,11,16]),([1,1,0,0,0,1,1,1,1,1,1,1,1,1,1,1,1,1,0,1,1],[0,2,3,4,10,11,16]),([1,1,0,0,0,1,1,1,1,1,1,1,1,1,1,1,1,1,1,0],[0,1,2,3,4,11,16,19,20]),([1,1,0,0,0,1,1,1,1,1,1,1,1,1,1,1,1,1,1,1,0],[0,1,2,3,4,10,11,16]),([1,1,0,0,0,1,1,1,1,1,1,1,1,1,1,1,1,1,1,1,1],[0,1,3,4,10,11,16])],[],[]⟩
abbrev P92_2 (s:Bool) (K:KF) (v0 v1 v2 v3 v4 v10 v11:Value) (h:AH):Prop:=PI (C92 s) K 2 [v0,v1,v2,v3,v4,v10,v11] h
abbrev P92_10 (s:Bool) (K:KF) (v0 v1 v2 v3 v4 v10 v11 v12:Value) (h:AH):Prop:=PI (C92 s) K 10 [v0,v1,v2,v3,v4,v10,v11,v12] h
abbrev P92_15 (s:Bool) (K:KF) (v0 v1 v2 v3 v4 v10 v11 v12 v13 v14:Value) (h:AH):Prop:=PI (C92 s) K 15 [v0,v1,v2,v3,v4,v10,v11,v12,v13,v14] h
abbrev P92_16 (s:Bool) (K:KF) (v0 v1 v2 v3 v4 v10 v11 v12 v13:Value) (h:AH):Prop:=PI (C92 s) K 16 [v0,v1,v2,v3,v4,v10,v11,v12,v13] h
abbrev P92_17 (s:Bool) (K:KF) (v0 v1 v2 v3 v4 v10 v11 v12 v13:Value) (h:AH):Prop:=PI (C92 s) K 17 [v0,v1,v2,v3,v4,v10,v11,v12,v13] h
abbrev P92_20 (s:Bool) (K:KF) (v0 v1 v2 v3 v4 v12 v13:Value) (h:AH):Prop:=PI (C92 s) K 20 [v0,v1,v2,v3,v4,v12,v13] h
theorem zOM (H :
 PI (C92 s) K 1 [v0,v1,v2,v3,v4,(.bool true)] h):PI (C92 s) K 0 [v0,v1,v2,v3,v4] h:=zB H
theorem zOL (H :
 PI (C92 s) K 2 [v0,v1,v2,v3,v4,v10,(.bool true)] h):PI (C92 s) K 1 [v0,v1,v2,v3,v4,v10] h:=zB H
theorem zOK (H :
 EvO (zC E .sub 3 v2 v1) fun x2=>
 PI (C92 s) K 3 [v0,v1,v2,v3,v4,v10,v11,x2] h):PI (C92 s) K 2 [v0,v1,v2,v3,v4,v10,v11] h:=zB H
theorem zOJ (H :
 EvO (zC E .leq 3 v12 (.int .i64 12)) fun x1=>
 BrK x1 (PI (C92 s) K 4 [v0,v1,v2,v4] h) (PI (C92 s) K 5 [v0,v1,v2,v3,v4,v10,v11,v12] h)):PI (C92 s) K 3 [v0,v1,v2,v3,v4,v10,v11,v12] h:=zB H
theorem zOI (H :
 Ev s (zQ (zW E) (some (.func (.func 144) #[] #[])) [v0,v1,v2,v4] h) fun x4=>
 K .ret [] x4.2):PI (C92 s) K 4 [v0,v1,v2,v4] h:=zB H
theorem zcO (H :
 EvO (zC E .eql 3 v3 (.int .i64 0)) fun x1=>
 BrK x1 (PI (C92 s) K 6 [v0,v1,v2,v4] h) (PI (C92 s) K 7 [v0,v1,v2,v3,v4,v10,v11,v12] h)):PI (C92 s) K 5 [v0,v1,v2,v3,v4,v10,v11,v12] h:=zB H
theorem zcN (H :
 Ev s (zQ (zW E) (some (.func (.func 145) #[] #[])) [v0,v1,v2,v4] h) fun x4=>
 K .ret [] x4.2):PI (C92 s) K 6 [v0,v1,v2,v4] h:=zB H
theorem zcM (H :
 EvO (zAQ .not v10) fun x1=>
 BrK x1 (PI (C92 s) K 8 [v0,v1,v2,v3,v4,v10,v11,v12] h) (PI (C92 s) K 10 [v0,v1,v2,v3,v4,v10,v11,v12] h)):PI (C92 s) K 7 [v0,v1,v2,v3,v4,v10,v11,v12] h:=zB H
theorem zcL (H :
 Ev s (zQ (zW E) (some (.func (.func 146) #[] #[])) [v0,v1,v2,v4] h) fun x4=>
 PI (C92 s) K 9 [v0,v1,v2,v3,v4,v10,v11,v12] x4.2):PI (C92 s) K 8 [v0,v1,v2,v3,v4,v10,v11,v12] h:=zB H
theorem zcK (H :
 EvO (zC E .sub 3 v3 (.int .i64 1)) fun x1=>
 PI (C92 s) K 10 [v0,v1,v2,x1,v4,v10,v11,v12] h):PI (C92 s) K 9 [v0,v1,v2,v3,v4,v10,v11,v12] h:=zB H
theorem zUL (H :
 Ev s (zQ (zW E) (some (.func (.func 147) #[] #[])) [v0,v1,v2,v4] h) fun x4=>
 EvO (z6 0 x4.1) fun x6=>
 EvO (z6 1 x4.1) fun x7=>
 PI (C92 s) K 11 [v0,v1,v2,v3,v4,v10,v11,v12,x6,x7] x4.2):PI (C92 s) K 10 [v0,v1,v2,v3,v4,v10,v11,v12] h:=zB H
theorem zUK (H :
 EvO (zC E .eql 200 v14 (.int .i64 2)) fun x1=>
 BrK x1 (PI (C92 s) K 12 [v0,v1,v2,v3,v4,v10,v11,v12,v13] h) (PI (C92 s) K 15 [v0,v1,v2,v3,v4,v10,v11,v12,v13,v14] h)):PI (C92 s) K 11 [v0,v1,v2,v3,v4,v10,v11,v12,v13,v14] h:=zB H
theorem zUJ (H :
 Ev s (zQ (zW E) (some (.func (.func 148) #[] #[])) [v0,v1,v2,v4] h) fun x4=>
 PI (C92 s) K 13 [v0,v1,v2,v3,v4,v10,v11,v12,v13] x4.2):PI (C92 s) K 12 [v0,v1,v2,v3,v4,v10,v11,v12,v13] h:=zB H
theorem zUI (H :
 EvO (zC E .sub 3 v2 (.int .i64 1)) fun x1=>
 EvO (zC E .sub 3 v13 v1) fun x4=>
 EvO (zC E .sub 3 x1 x4) fun x5=>
 PI (C92 s) K 14 [v0,v1,v2,v3,v4,v10,v11,v12,x5] h):PI (C92 s) K 13 [v0,v1,v2,v3,v4,v10,v11,v12,v13] h:=zB H
theorem zUH (H :
 PI (C92 s) K 15 [v0,v1,v2,v3,v4,v10,v11,v12,v13,(.int .i64 1)] h):PI (C92 s) K 14 [v0,v1,v2,v3,v4,v10,v11,v12,v13] h:=zB H
theorem zUG (H :
 EvO (gdB v10 true v11) fun x2=>
 EvO (z7 v10 x2 (some (.bool false))) fun x3=>
 EvO (gdB x3 true v14) fun x5=>
 EvO (gdB x3 true (zC E .eql 200 x5 (.int .i64 1))) fun x6=>
 EvO (z7 x3 x6 (some (.bool false))) fun x7=>
 BrK x7 (PI (C92 s) K 16 [v0,v1,v2,v3,v4,v10,v11,v12,v13] h) (PI (C92 s) K 17 [v0,v1,v2,v3,v4,v10,v11,v12,v13] h)):PI (C92 s) K 15 [v0,v1,v2,v3,v4,v10,v11,v12,v13,v14] h:=zB H
theorem zUF (H :
 Ev s (zQ (zW E) (some (.func (.func 149) #[] #[])) [v0,v1,v2,v4] h) fun x4=>
 BrK x4.1 (K .ret [] x4.2) (PI (C92 s) K 17 [v0,v1,v2,v3,v4,v10,v11,v12,v13] x4.2)):PI (C92 s) K 16 [v0,v1,v2,v3,v4,v10,v11,v12,v13] h:=zB H
theorem zUE (H :
 EvO (zC E .gtr 3 v1 (.int .i64 0)) fun x1=>
 EvO (gdB x1 true v4) fun x3=>
 EvO (gdB x1 true v0) fun x4=>
 EvO (gdB x1 true v1) fun x5=>
 EvO (gdB x1 true (zC E .sub 3 x5 (.int .i64 1))) fun x6=>
 EvO (gdB x1 true (zE E 26 x4 x6)) fun x7=>
 EvO (gdB x1 true (zH E 54 h x7)) fun x8=>
 EvO (gdB x1 true v0) fun x9=>
 EvO (gdB x1 true v13) fun x10=>
 EvO (gdB x1 true (zE E 26 x9 x10)) fun x11=>
 EvO (gdB x1 true (zH E 54 h x11)) fun x12=>
 Ev s (gdW x1 true (zQ (zW E) x3 [x8,x12] h) h) fun x13=>
 EvO (gdB x1 true (zC E .lss 3 x13.1 (.int .i64 0))) fun x14=>
 EvO (gdB x1 true (zAQ .not x14)) fun x15=>
 EvO (z7 x1 x15 (some (.bool false))) fun x16=>
 BrK x16 (PI (C92 s) K 18 [v0,v1,v2,v3,v4,v10,v11,v13] x13.2) (PI (C92 s) K 20 [v0,v1,v2,v3,v4,v12,v13] x13.2)):PI (C92 s) K 17 [v0,v1,v2,v3,v4,v10,v11,v12,v13] h:=zB H
theorem zUD (H :
 Ev s (zQ (zW E) (some (.func (.func 150) #[] #[])) [v0,v1,v2,v13,v4] h) fun x5=>
 PI (C92 s) K 19 [v0,v2,v3,v4,v10,v11,x5.1] x5.2):PI (C92 s) K 18 [v0,v1,v2,v3,v4,v10,v11,v13] h:=zB H
theorem zUC (H :
 PI (C92 s) K 2 [v0,v15,v2,v3,v4,v10,v11] h):PI (C92 s) K 19 [v0,v2,v3,v4,v10,v11,v15] h:=zB H
theorem zUB (H :
 Ev s (zQ (zW E) (some (.func (.func 151) #[] #[])) [v0,v1,v2,v13,v4] h) fun x5=>
 EvO (z6 0 x5.1) fun x7=>
 EvO (z6 1 x5.1) fun x8=>
 PI (C92 s) K 21 [v0,v1,v2,v3,v4,v12,x7,x8] x5.2):PI (C92 s) K 20 [v0,v1,v2,v3,v4,v12,v13] h:=zB H
theorem zUA (H :
 PI (C92 s) K 22 [v0,v1,v2,v3,v4,v17,v12,v16] h):PI (C92 s) K 21 [v0,v1,v2,v3,v4,v12,v16,v17] h:=zB H
theorem zT9 (H :
 EvO (zC E .sub 3 v16 v1) fun x2=>
 EvO (zC E .sub 3 v2 v16) fun x5=>
 PI (C92 s) K 23 [v0,v1,v2,v3,v4,v11,v12,v16,x2,x5] h):PI (C92 s) K 22 [v0,v1,v2,v3,v4,v11,v12,v16] h:=zB H
theorem zT8 (H :
 EvO (zi E (zl [(121,v12)]) (zn B92 [1,1,0,0,0,1,1,1,1,1,1,1,1,1,1,1,0] 1)) fun x1=>
 PI (C92 s) K 24 [v0,v1,v2,v3,v4,v11,v16,v18,v19,x1] h):PI (C92 s) K 23 [v0,v1,v2,v3,v4,v11,v12,v16,v18,v19] h:=zB H
theorem zT7 (H :
 EvO (zC E .lss 3 v18 v19) fun x2=>
 BrK x2 (PI (C92 s) K 25 [v0,v1,v2,v3,v4,v11,v16,v18,v20] h) (PI (C92 s) K 28 [v0,v1,v2,v3,v4,v11,v16,v19,v20] h)):PI (C92 s) K 24 [v0,v1,v2,v3,v4,v11,v16,v18,v19,v20] h:=zB H
theorem zT6 (H :
 EvO (zC E .geq 3 v18 v20) fun x2=>
 PI (C92 s) K 26 [v0,v1,v2,v3,v4,x2,v11,v16] h):PI (C92 s) K 25 [v0,v1,v2,v3,v4,v11,v16,v18,v20] h:=zB H
theorem zT5 (H :
 Ev s (zQ (zW E) (some (.func (.func 92) #[] #[])) [v0,v1,v16,v3,v4] h) fun x5=>
 PI (C92 s) K 27 [v0,v2,v3,v4,v10,v11,v16] x5.2):PI (C92 s) K 26 [v0,v1,v2,v3,v4,v10,v11,v16] h:=zB H
theorem zT4 (H :
 EvO (zC E .add 3 v16 (.int .i64 1)) fun x1=>
 PI (C92 s) K 2 [v0,x1,v2,v3,v4,v10,v11] h):PI (C92 s) K 27 [v0,v2,v3,v4,v10,v11,v16] h:=zB H
theorem zT3 (H :
 EvO (zC E .geq 3 v19 v20) fun x2=>
 PI (C92 s) K 29 [v0,v1,v2,v3,v4,x2,v11,v16] h):PI (C92 s) K 28 [v0,v1,v2,v3,v4,v11,v16,v19,v20] h:=zB H
theorem zT2 (H :
 EvO (zC E .add 3 v16 (.int .i64 1)) fun x2=>
 Ev s (zQ (zW E) (some (.func (.func 92) #[] #[])) [v0,x2,v2,v3,v4] h) fun x6=>
 PI (C92 s) K 30 [v0,v1,v3,v4,v10,v11,v16] x6.2):PI (C92 s) K 29 [v0,v1,v2,v3,v4,v10,v11,v16] h:=zB H
theorem zT1 (H :
 PI (C92 s) K 2 [v0,v1,v16,v3,v4,v10,v11] h):PI (C92 s) K 30 [v0,v1,v3,v4,v10,v11,v16] h:=zB H
theorem F92_ev (H:PI (C92 s) (KR E [] Rp) 0 [v0,v1,v2,v3,v4] h):EvC E s Tryz.f92 [v0,v1,v2,v3,v4] h Rp:=zz (C92 s) H
theorem zaI:E.tab.fn.get 92=some Tryz.f92:=by kernel_rfl
theorem zOt:Tryz.f92.body=some B92:=by kernel_rfl
theorem zaH (l:List Value) (h:AH):E.sum 92 l h=none:=by kernel_rfl
noncomputable def B33:Code:=zc Tryz.f33
noncomputable def C33 (s:Bool):Cx:=⟨E,s,none,B33,[([0],[0,1]),([1],[0,1,4])],[],[]⟩
theorem zd3 (H :
 EvO (zO E (zl [(5,v0)]) (zn B33 [0] 1) h) fun x1=>
 PI (C33 s) K 1 [v0,v1,x1] h):PI (C33 s) K 0 [v0,v1] h:=zB H
theorem zSX:zO E (zl [(5,.slice a n c)]) (zn B33 [0] 1) h=some (.int .i64 (n:Int)):=by cases a <;> kernel_rfl
theorem zd2 (H :
 EvO (zO E (zl [(9,v4)]) (zn B33 [1] 3) h) fun x3=>
 Ev s (zQ (zW E) (some (.func (.func 93) #[] #[])) [x3] h) fun x4=>
 Ev s (zQ (zW E) (some (.func (.func 92) #[] #[])) (some [v0,(.int .i64 0),v4,x4.1,v1]) x4.2) fun x6=>
 K .normal [] x6.2):PI (C33 s) K 1 [v0,v1,v4] h:=zB H
theorem F33_ev (H:PI (C33 s) (KR E [] Rp) 0 [v0,v1] h):EvC E s Tryz.f33 [v0,v1] h Rp:=zz (C33 s) H
theorem F33_get:E.tab.fn.get 33=some Tryz.f33:=by kernel_rfl
theorem ze5:Tryz.f33.body=some B33:=by kernel_rfl
theorem F33_sum (l:List Value) (h:AH):E.sum 33 l h=none:=by kernel_rfl
end Go.Proofs
namespace Go.Proofs
open Go Go.AM
set_option maxRecDepth 100000
variable {s:Bool} {K:KF} {h:AH} {a:Option Addr} {n c:Nat} {v v0 v1 v2 v3 v4 v5 v6 v7 v8 v9 v10 v11 v12 v13 v26 v27 v28:Value} {h1:AH} {Rp:Value->AH->Prop}
noncomputable def B95:Code:=zc Tryz.f95
noncomputable def C95 (s:Bool):Cx:=⟨E,s,none,B95,[([0],[0,1]),([1,0,0],[0,1]),([1,0,1,0,0,0],[0,1,7,8]),([1,0,1,0,0,1,1,0,0,0],[0,1,7,8]),([1,0,1,0,0,1,1,0,0,1,0],[0,1,5,7,8]),([1,0,1,0,0,1,1,0,0,1,1,0,0],[5]),([1,0,1,0,0,1,1,1],[0,1,7,8]),([1,1,0],[])],[4],[]⟩
abbrev P95_2 (s:Bool) (K:KF) (v0 v1 v7 v8:Value) (h:AH):Prop:=PI (C95 s) K 2 [v0,v1,v7,v8] h
theorem zcB (H :
 PI (C95 s) K 1 [v0,v1] h):PI (C95 s) K 0 [v0,v1] h:=zB H
theorem zcA (H :
 EvO (zO E (zl [(6,v0)]) (zn B95 [1,0,0] 1) h) fun x1=>
 PI (C95 s) K 2 [v0,v1,x1,(.int .i64 0)] h):PI (C95 s) K 1 [v0,v1] h:=zB H
theorem zSJ:zO E (zl [(6,.slice a n c)]) (zn B95 [1,0,0] 1) h=some (.int .i64 (n:Int)):=by cases a <;> kernel_rfl
theorem zOH (H :
 EvO (zC E .lss 3 v8 v7) fun x0=>
 BrK x0 (PI (C95 s) K 3 [v0,v1,v7,v8] h) (PI (C95 s) K 7 [] h)):PI (C95 s) K 2 [v0,v1,v7,v8] h:=zB H
theorem zb9 (H :
 PI (C95 s) K 4 [v0,v1,v8,v7,v8] h):PI (C95 s) K 3 [v0,v1,v7,v8] h:=zB H
theorem zb8 (H :
 EvO (zE E 26 v0 v5) fun x3=>
 EvO (zH E 54 h x3) fun x4=>
 Ev s (zQ (zW E) v1 [x4] h) fun x5=>
 BrK x5.1 (PI (C95 s) K 5 [v5] x5.2) (PI (C95 s) K 6 [v0,v1,v7,v8] x5.2)):PI (C95 s) K 4 [v0,v1,v5,v7,v8] h:=zB H
theorem zb7 (H :
 K .ret [v5] h):PI (C95 s) K 5 [v5] h:=zB H
theorem zb6 (H :
 EvO (zC E .add 3 v8 (.int .i64 1)) fun x0=>
 PI (C95 s) K 2 [v0,v1,v7,x0] h):PI (C95 s) K 6 [v0,v1,v7,v8] h:=zB H
theorem zb5 (H :
 K .ret [(.int .i64 (-1))] h):PI (C95 s) K 7 [] h:=zB H
theorem zeo (hok:h.ok) (hv:zg v=true) (H:PI (C95 s) (KR E [.tmp 4] fun x k=>x=v/\h.next<=k.wm) 0 [v0,v1] h.fresh):(zW E).call 95 [v0,v1] h=some [(v,h)]:=zAh Tryz.f95 hok hv (zz (C95 s) H)
noncomputable def B35:Code:=zc Tryz.f35
noncomputable def C35 (s:Bool):Cx:=⟨E,s,none,B35,[([0],[0,1]),([1,0,0],[0,1]),([1,0,1,0,0,0],[0,1,9,10,11]),([1,0,1,0,0,1,1,0,0,0],[0,1,9,10,11]),([1,0,1,0,0,1,1,0,0,1,0,0],[0,1,5,6,9,10,11]),([1,0,1,0,0,1,1,0,0,1,0,1,0,0],[]),([1,0,1,0,0,1,1,0,0,1,1,0],[0,1,5,6,9,10,11]),([1,0,1,0,0,1,1,0,0,1,1,1,0],[0,1,6,7,9,10,11]),([1,0,1,0,0,1,1,0,0,1,1,1,1,0],[0,1,8,9,10,11]),([1,0,1,0,0,1,1,0,0,1,1,1,1,1,0,0],[8]),([1,0,1,0,0,1,1,1],[0,1,9,10,11]),([1,1,0,0],[0,1]),([1,1,0,1,0,0],[]),([1,1,1,0],[])],[4],[]⟩
theorem zdz (H :
 PI (C35 s) K 1 [v0,v1] h):PI (C35 s) K 0 [v0,v1] h:=zB H
theorem zdy (H :
 EvO (zO E (zl [(9,v0)]) (zn B35 [1,0,0] 1) h) fun x1=>
 PI (C35 s) K 2 [v0,v1,v0,x1,(.int .i64 0)] h):PI (C35 s) K 1 [v0,v1] h:=zB H
theorem zSW:zO E (zl [(9,.slice a n c)]) (zn B35 [1,0,0] 1) h=some (.int .i64 (n:Int)):=by cases a <;> kernel_rfl
theorem zJm (H :
 EvO (zC E .lss 3 v11 v10) fun x0=>
 BrK x0 (PI (C35 s) K 3 [v0,v1,v9,v10,v11] h) (PI (C35 s) K 11 [v0,v1] h)):PI (C35 s) K 2 [v0,v1,v9,v10,v11] h:=zB H
theorem zOn (H :
 EvO (zE E 47 v9 v11) fun x1=>
 EvO (zH E 3 h x1) fun x2=>
 PI (C35 s) K 4 [v0,v1,v11,x2,v9,v10,v11] h):PI (C35 s) K 3 [v0,v1,v9,v10,v11] h:=zB H
theorem zOm (H :
 EvO (zO E (zl [(17,v1)]) (zn B35 [1,0,1,0,0,1,1,0,0,1,0,0] 2) h) fun x2=>
 EvO (zC E .geq 3 v5 x2) fun x3=>
 BrK x3 (PI (C35 s) K 5 [] h) (PI (C35 s) K 6 [v0,v1,v5,v6,v9,v10,v11] h)):PI (C35 s) K 4 [v0,v1,v5,v6,v9,v10,v11] h:=zB H
theorem zKV:zO E (zl [(17,.slice a n c)]) (zn B35 [1,0,1,0,0,1,1,0,0,1,0,0] 2) h=some (.int .i64 (n:Int)):=by cases a <;> kernel_rfl
theorem zOl (H :
 EvO (zE E 47 v1 v5) fun x2=>
 EvO (zH E 3 h x2) fun x3=>
 PI (C35 s) K 7 [v0,v1,v6,x3,v9,v10,v11] h):PI (C35 s) K 6 [v0,v1,v5,v6,v9,v10,v11] h:=zB H
theorem zOk (H :
 Ev s (zQ (zW E) (some (.func (.func 94) #[] #[])) [v6,v7] h) fun x2=>
 PI (C35 s) K 8 [v0,v1,x2.1,v9,v10,v11] x2.2):PI (C35 s) K 7 [v0,v1,v6,v7,v9,v10,v11] h:=zB H
theorem zOj (H :
 EvO (zC E .neq 3 v8 (.int .i64 0)) fun x1=>
 BrK x1 (PI (C35 s) K 9 [v8] h) (PI (C35 s) K 10 [v0,v1,v9,v10,v11] h)):PI (C35 s) K 8 [v0,v1,v8,v9,v10,v11] h:=zB H
theorem zOi (H :
 K .ret [v8] h):PI (C35 s) K 9 [v8] h:=zB H
theorem zK4 (H :
 EvO (zC E .add 3 v11 (.int .i64 1)) fun x0=>
 PI (C35 s) K 2 [v0,v1,v9,v10,x0] h):PI (C35 s) K 10 [v0,v1,v9,v10,v11] h:=zB H
theorem zU7 (H :
 EvO (zO E (zl [(31,v0)]) (zn B35 [1,1,0,0] 1) h) fun x1=>
 EvO (zO E (zl [(33,v1)]) (zn B35 [1,1,0,0] 3) h) fun x3=>
 EvO (zC E .lss 3 x1 x3) fun x4=>
 BrK x4 (PI (C35 s) K 12 [] h) (PI (C35 s) K 13 [] h)):PI (C35 s) K 11 [v0,v1] h:=zB H
theorem zPO:zO E (zl [(31,.slice a n c)]) (zn B35 [1,1,0,0] 1) h=some (.int .i64 (n:Int)):=by cases a <;> kernel_rfl
theorem zPN:zO E (zl [(33,.slice a n c)]) (zn B35 [1,1,0,0] 3) h=some (.int .i64 (n:Int)):=by cases a <;> kernel_rfl
theorem zU6 (H :
 K .ret [(.int .i64 0)] h):PI (C35 s) K 13 [] h:=zB H
theorem ze3 (hok:h.ok) (hv:zg v=true) (H:PI (C35 s) (KR E [.tmp 4] fun x k=>x=v/\h.next<=k.wm) 0 [v0,v1] h.fresh):(zW E).call 35 [v0,v1] h=some [(v,h)]:=zAh Tryz.f35 hok hv (zz (C35 s) H)
noncomputable def B34:Code:=zc Tryz.f34
noncomputable def C34 (s:Bool):Cx:=⟨E,s,none,B34,[([0],[0,1]),([1,0],[2,3])],[4],[]⟩
theorem zd1 (H :
 Ev s (zX 54 h v0) fun x0=>
 Ev s (zX 54 x0.2 v1) fun x1=>
 PI (C34 s) K 1 [x0.1,x1.1] x1.2):PI (C34 s) K 0 [v0,v1] h:=zB H
theorem zd0 (H :
 EvO (zi E (zl [(2,v2)]) (zn B34 [1,0] 0)) fun x0=>
 EvO (zi E (zl [(3,v3)]) (zn B34 [1,0] 1)) fun x1=>
 Ev s (zQ (zW E) (some (.func (.func 35) #[] #[])) [x0,x1] h) fun x2=>
 K .ret [x2.1] x2.2):PI (C34 s) K 1 [v2,v3] h:=zB H
theorem ze4 (hok:h.ok) (hv:zg v=true) (H:PI (C34 s) (KR E [.tmp 4] fun x k=>x=v/\h.next<=k.wm) 0 [v0,v1] h.fresh):(zW E).call 34 [v0,v1] h=some [(v,h)]:=zAh Tryz.f34 hok hv (zz (C34 s) H)
noncomputable def B32:Code:=zc Tryz.f32
noncomputable def C32 (s:Bool):Cx:=⟨E,s,none,B32,[([0],[0]),([1,0,0],[0]),([1,0,1,0,0],[]),([1,1,0],[0])],[2],[]⟩
theorem zd6 (H :
 PI (C32 s) K 1 [v0] h):PI (C32 s) K 0 [v0] h:=zB H
theorem zd5 (H :
 EvO (zi E (zl [(3,v0)]) (zn B32 [1,0,0] 1)) fun x1=>
 BrK x1 (PI (C32 s) K 2 [] h) (PI (C32 s) K 3 [v0] h)):PI (C32 s) K 1 [v0] h:=zB H
theorem zd4 (H :
 Ev s (zf E 26 0 (some []) h) fun x0=>
 Ev s (zAD E .append [26,26] [x0.1,v0] x0.2) fun x2=>
 K .ret [x2.1] x2.2):PI (C32 s) K 3 [v0] h:=zB H
theorem ze6 (H:PI (C32 true) (KR E [.tmp 2] fun x k=>(zh x=false\/k.wm<h.next)/\Rp x ⟨k.t,k.next,cond (Nat.ble h.wm k.wm) h.wm k.wm⟩) 0 [v0] h.fresh):Ev true ((zW E).call 32 [v0] h) fun x=>Rp x.1 x.2:=zFb Tryz.f32 (zz (C32 true) H)
noncomputable def B36:Code:=zc Tryz.f36
noncomputable def C36 (s:Bool):Cx:=⟨E,s,none,B36,[([0],[0]),([1,0,0],[0]),([1,0,1,0,0],[0]),([1,1,0,0],[0]),([1,1,0,1,0,0,0,0],[0,3]),([1,1,0,1,0,0,1,0,0,0],[0,3]),([1,1,0,1,0,0,1,0,0,1,0,0],[0,3]),([1,1,0,1,0,0,1,0,0,1,0,1,0,0],[0,3,4]),([1,1,0,1,0,0,1,0,0,1,0,1,0,1,0,0,0,0],[0,3,4,5]),([1,1,0,1,0,0,1,0,0,1,0,1,0,1,0,0,1,0,0,0],[0,3,4,5]),([1,1,0,1,0,0,1,0,0,1,0,1,0,1,0,0,1,0,0,1,0,0],[0,3,4,5]),([1,1,0,1,0,0,1,0,0,1,0,1,0,1,0,0,1,0,0,1,0,1],[0,3,4,5]),([1,1,0,1,0,0,1,0,0,1,0,1,0,1,0,0,1,1],[0,3,4,5]),([1,1,0,1,0,0,1,0,0,1,0,1,1,0],[0,3]),([1,1,0,1,0,0,1,0,0,1,0,1,1,1,0],[0,3]),([1,1,0,1,0,0,1,1],[0,3]),([1,1,1,0],[0])],[2],[]⟩
abbrev P36_4 (s:Bool) (K:KF) (v0 v3:Value) (h:AH):Prop:=PI (C36 s) K 4 [v0,v3] h
abbrev P36_8 (s:Bool) (K:KF) (v0 v3 v4 v5:Value) (h:AH):Prop:=PI (C36 s) K 8 [v0,v3,v4,v5] h
theorem zdx (H :
 PI (C36 s) K 1 [v0] h):PI (C36 s) K 0 [v0] h:=zB H
theorem zdw (H :
 EvO (zO E (zl [(6,v0)]) (zn B36 [1,0,0] 1) h) fun x1=>
 EvO (zC E .lss 3 x1 (.int .i64 2)) fun x2=>
 BrK x2 (PI (C36 s) K 2 [v0] h) (PI (C36 s) K 3 [v0] h)):PI (C36 s) K 1 [v0] h:=zB H
theorem zSV:zO E (zl [(6,.slice a n c)]) (zn B36 [1,0,0] 1) h=some (.int .i64 (n:Int)):=by cases a <;> kernel_rfl
theorem zdv (H :
 K .ret [v0] h):PI (C36 s) K 2 [v0] h:=zB H
theorem zdu (H :
 PI (C36 s) K 4 [v0,(.int .i64 1)] h):PI (C36 s) K 3 [v0] h:=zB H
theorem zOh (H :
 EvO (zO E (zl [(11,v0)]) (zn B36 [1,1,0,1,0,0,0,0] 2) h) fun x2=>
 EvO (zC E .lss 3 v3 x2) fun x3=>
 BrK x3 (PI (C36 s) K 5 [v0,v3] h) (PI (C36 s) K 16 [v0] h)):PI (C36 s) K 4 [v0,v3] h:=zB H
theorem zKU:zO E (zl [(11,.slice a n c)]) (zn B36 [1,1,0,1,0,0,0,0] 2) h=some (.int .i64 (n:Int)):=by cases a <;> kernel_rfl
theorem zdt (H :
 EvO (zE E 26 v0 v3) fun x2=>
 EvO (zH E 54 h x2) fun x3=>
 EvO (zC E .sub 3 v3 (.int .i64 1)) fun x6=>
 EvO (zE E 26 v0 x6) fun x7=>
 EvO (zH E 54 h x7) fun x8=>
 EvO (zC E .eql 54 x3 x8) fun x9=>
 BrK x9 (PI (C36 s) K 6 [v0,v3] h) (PI (C36 s) K 15 [v0,v3] h)):PI (C36 s) K 5 [v0,v3] h:=zB H
theorem zds (H :
 EvO (zi E (zl [(26,v0),(27,v3)]) (zn B36 [1,1,0,1,0,0,1,0,0,1,0,0] 2)) fun x2=>
 PI (C36 s) K 7 [v0,v3,x2] h):PI (C36 s) K 6 [v0,v3] h:=zB H
theorem zdr (H :
 PI (C36 s) K 8 [v0,v3,v4,(.int .i64 1)] h):PI (C36 s) K 7 [v0,v3,v4] h:=zB H
theorem zOg (H :
 EvO (zO E (zl [(30,v4)]) (zn B36 [1,1,0,1,0,0,1,0,0,1,0,1,0,1,0,0,0,0] 2) h) fun x2=>
 EvO (zC E .lss 3 v5 x2) fun x3=>
 BrK x3 (PI (C36 s) K 9 [v0,v3,v4,v5] h) (PI (C36 s) K 13 [v0,v3] h)):PI (C36 s) K 8 [v0,v3,v4,v5] h:=zB H
theorem zKT:zO E (zl [(30,.slice a n c)]) (zn B36 [1,1,0,1,0,0,1,0,0,1,0,1,0,1,0,0,0,0] 2) h=some (.int .i64 (n:Int)):=by cases a <;> kernel_rfl
theorem zdq (H :
 EvO (zE E 26 v4 v5) fun x2=>
 EvO (zH E 54 h x2) fun x3=>
 EvO (zC E .sub 3 v5 (.int .i64 1)) fun x6=>
 EvO (zE E 26 v4 x6) fun x7=>
 EvO (zH E 54 h x7) fun x8=>
 EvO (zC E .neq 54 x3 x8) fun x9=>
 BrK x9 (PI (C36 s) K 10 [v0,v3,v4,v5] h) (PI (C36 s) K 12 [v0,v3,v4,v5] h)):PI (C36 s) K 9 [v0,v3,v4,v5] h:=zB H
theorem zU5 (H :
 EvO (zE E 26 v4 v5) fun x4=>
 EvO (zH E 54 h x4) fun x5=>
 EvO (zE E 26 v0 v3) fun x6=>
 Ev s (ze E 54 h x6 x5) fun x7=>
 PI (C36 s) K 11 [v0,v3,v4,v5] x7.2):PI (C36 s) K 10 [v0,v3,v4,v5] h:=zB H
theorem zU4 (H :
 EvO (zC E .add 3 v3 (.int .i64 1)) fun x1=>
 PI (C36 s) K 12 [v0,x1,v4,v5] h):PI (C36 s) K 11 [v0,v3,v4,v5] h:=zB H
theorem zK3 (H :
 EvO (zC E .add 3 v5 (.int .i64 1)) fun x1=>
 PI (C36 s) K 8 [v0,v3,v4,x1] h):PI (C36 s) K 12 [v0,v3,v4,v5] h:=zB H
theorem zU3 (H :
 EvO (zi E (zl [(54,v0),(55,v3)]) (zn B36 [1,1,0,1,0,0,1,0,0,1,0,1,1,0] 2)) fun x2=>
 Ev s (zAD E .clear [26] [x2] h) fun x3=>
 PI (C36 s) K 14 [v0,v3] x3.2):PI (C36 s) K 13 [v0,v3] h:=zB H
theorem zU2 (H :
 EvO (zi E (zl [(57,v0),(58,v3)]) (zn B36 [1,1,0,1,0,0,1,0,0,1,0,1,1,1,0] 2)) fun x2=>
 K .ret [x2] h):PI (C36 s) K 14 [v0,v3] h:=zB H
theorem zU1 (H :
 EvO (zC E .add 3 v3 (.int .i64 1)) fun x1=>
 PI (C36 s) K 4 [v0,x1] h):PI (C36 s) K 15 [v0,v3] h:=zB H
theorem zU0 (H :
 K .ret [v0] h):PI (C36 s) K 16 [v0] h:=zB H
theorem ze2 (H:PI (C36 true) (KR E [.tmp 2] fun x k=>(zh x=false\/k.wm<h.next)/\Rp x ⟨k.t,k.next,cond (Nat.ble h.wm k.wm) h.wm k.wm⟩) 0 [v0] h.fresh):Ev true ((zW E).call 36 [v0] h) fun x=>Rp x.1 x.2:=zFb Tryz.f36 (zz (C36 true) H)
noncomputable def B37:Code:=zc Tryz.f37
noncomputable def C37 (s:Bool):Cx:=⟨E,s,none,B37,[([0],[0,1]),([1,0],[0,1]),([1,1,0,0],[0,1,5]),([1,1,0,1,0,0],[0]),([1,1,1,0,0],[0,1,5]),([1,1,1,0,1,0,0,0,0],[0,1,5,6]),([1,1,1,0,1,0,0,1,0,0,0],[0,1,5,6]),([1,1,1,0,1,0,0,1,0,0,1,0],[0,1,5,6,7]),([1,1,1,0,1,0,0,1,0,0,1,1,0,0],[0,1,5,6,7]),([1,1,1,0,1,0,0,1,0,0,1,1,0,1],[0,1,5,6]),([1,1,1,0,1,0,0,1,1],[0,1,5,6]),([1,1,1,1,0],[0,5]),([1,1,1,1,1,0],[0,5])],[4],[]⟩
abbrev P37_5 (s:Bool) (K:KF) (v0 v1 v5 v6:Value) (h:AH):Prop:=PI (C37 s) K 5 [v0,v1,v5,v6] h
theorem zOf (H :
 PI (C37 s) K 1 [v0,v1] h):PI (C37 s) K 0 [v0,v1] h:=zB H
theorem zOe (H :
 Ev s (zQ (zW E) (some (.func (.func 95) #[] #[])) [v0,v1] h) fun x2=>
 PI (C37 s) K 2 [v0,v1,x2.1] x2.2):PI (C37 s) K 1 [v0,v1] h:=zB H
theorem zOd (H :
 EvO (zC E .eql 3 v5 (.int .i64 (-1))) fun x1=>
 BrK x1 (PI (C37 s) K 3 [v0] h) (PI (C37 s) K 4 [v0,v1,v5] h)):PI (C37 s) K 2 [v0,v1,v5] h:=zB H
theorem zdp (H :
 K .ret [v0] h):PI (C37 s) K 3 [v0] h:=zB H
theorem zdo (H :
 EvO (zC E .add 3 v5 (.int .i64 1)) fun x1=>
 PI (C37 s) K 5 [v0,v1,v5,x1] h):PI (C37 s) K 4 [v0,v1,v5] h:=zB H
theorem zOc (H :
 EvO (zO E (zl [(17,v0)]) (zn B37 [1,1,1,0,1,0,0,0,0] 2) h) fun x2=>
 EvO (zC E .lss 3 v6 x2) fun x3=>
 BrK x3 (PI (C37 s) K 6 [v0,v1,v5,v6] h) (PI (C37 s) K 11 [v0,v5] h)):PI (C37 s) K 5 [v0,v1,v5,v6] h:=zB H
theorem zKS:zO E (zl [(17,.slice a n c)]) (zn B37 [1,1,1,0,1,0,0,0,0] 2) h=some (.int .i64 (n:Int)):=by cases a <;> kernel_rfl
theorem zdn (H :
 EvO (zE E 26 v0 v6) fun x2=>
 EvO (zH E 54 h x2) fun x3=>
 Ev s (zX 54 h (zAG E 54)) fun x4=>
 Ev s (ze E 54 x4.2 x4.1 x3) fun x5=>
 PI (C37 s) K 7 [v0,v1,v5,v6,x4.1] x5.2):PI (C37 s) K 6 [v0,v1,v5,v6] h:=zB H
theorem zdm (H :
 EvO (zH E 54 h v7) fun x1=>
 Ev s (zQ (zW E) v1 [x1] h) fun x2=>
 EvO (zAQ .not x2.1) fun x3=>
 BrK x3 (PI (C37 s) K 8 [v0,v1,v5,v6,v7] x2.2) (PI (C37 s) K 10 [v0,v1,v5,v6] x2.2)):PI (C37 s) K 7 [v0,v1,v5,v6,v7] h:=zB H
theorem zdl (H :
 EvO (zH E 54 h v7) fun x2=>
 EvO (zE E 26 v0 v5) fun x3=>
 Ev s (ze E 54 h x3 x2) fun x4=>
 PI (C37 s) K 9 [v0,v1,v5,v6] x4.2):PI (C37 s) K 8 [v0,v1,v5,v6,v7] h:=zB H
theorem zdk (H :
 EvO (zC E .add 3 v5 (.int .i64 1)) fun x1=>
 PI (C37 s) K 10 [v0,v1,x1,v6] h):PI (C37 s) K 9 [v0,v1,v5,v6] h:=zB H
theorem zK2 (H :
 EvO (zC E .add 3 v6 (.int .i64 1)) fun x1=>
 PI (C37 s) K 5 [v0,v1,v5,x1] h):PI (C37 s) K 10 [v0,v1,v5,v6] h:=zB H
theorem zUz (H :
 EvO (zi E (zl [(36,v0),(37,v5)]) (zn B37 [1,1,1,1,0] 2)) fun x2=>
 Ev s (zAD E .clear [26] [x2] h) fun x3=>
 PI (C37 s) K 12 [v0,v5] x3.2):PI (C37 s) K 11 [v0,v5] h:=zB H
theorem zUy (H :
 EvO (zi E (zl [(39,v0),(40,v5)]) (zn B37 [1,1,1,1,1,0] 2)) fun x2=>
 K .ret [x2] h):PI (C37 s) K 12 [v0,v5] h:=zB H
theorem zOu (H:PI (C37 true) (KR E [.tmp 4] fun x k=>(zh x=false\/k.wm<h.next)/\Rp x ⟨k.t,k.next,cond (Nat.ble h.wm k.wm) h.wm k.wm⟩) 0 [v0,v1] h.fresh):Ev true ((zW E).call 37 [v0,v1] h) fun x=>Rp x.1 x.2:=zFb Tryz.f37 (zz (C37 true) H)
noncomputable def B38:Code:=zc Tryz.f38
noncomputable def C38 (s:Bool):Cx:=⟨E,s,none,B38,[([0],[0]),([1,0],[1])],[2],[]⟩
theorem zdj (H :
 Ev s (zX 54 h v0) fun x0=>
 PI (C38 s) K 1 [x0.1] x0.2):PI (C38 s) K 0 [v0] h:=zB H
theorem zdi (H :
 EvO (zH E 54 h v1) fun x0=>
 EvO (zAi E 54 (some [(0,(.int .i64 0)),(1,(.int .i64 0))])) fun x1=>
 EvO (zC E .eql 54 x0 x1) fun x2=>
 K .ret [x2] h):PI (C38 s) K 1 [v1] h:=zB H
theorem ze1 (hok:h.ok) (hv:zg v=true) (H:PI (C38 s) (KR E [.tmp 2] fun x k=>x=v/\h.next<=k.wm) 0 [v0] h.fresh):(zW E).call 38 [v0] h=some [(v,h)]:=zAh Tryz.f38 hok hv (zz (C38 s) H)
noncomputable def B39:Code:=zc Tryz.f39
noncomputable def C39 (s:Bool):Cx:=⟨E,s,none,B39,[([0],[0,1]),([1,0],[1,2]),([1,1,0,0],[2,5,6]),([1,1,0,1,0,0,0,0],[2,5,6,7]),([1,1,0,1,0,0,1,0,0,0],[2,5,6,7]),([1,1,0,1,0,0,1,0,0,1,0,0,0],[2,5,6,7,26,27,28]),([1,1,0,1,0,0,1,0,0,1,0,0,1,1,0,0,0],[2,5,6,7,26,27,28]),([1,1,0,1,0,0,1,0,0,1,0,0,1,1,0,0,1,0,0],[2,5,6,7,9,26,27,28]),([1,1,0,1,0,0,1,0,0,1,0,0,1,1,0,0,1,0,1,0,0],[]),([1,1,0,1,0,0,1,0,0,1,0,0,1,1,0,0,1,1,0],[2,5,6,7,9,26,27,28]),([1,1,0,1,0,0,1,0,0,1,0,0,1,1,0,0,1,1,1,0],[2,5,6,7,9,26,27,28]),([1,1,0,1,0,0,1,0,0,1,0,0,1,1,1],[2,5,6,7,26,27,28]),([1,1,0,1,0,0,1,1],[2,5,6,7]),([1,1,1,0],[])],[4],[]⟩
abbrev P39_3 (s:Bool) (K:KF) (v2 v5 v6 v7:Value) (h:AH):Prop:=PI (C39 s) K 3 [v2,v5,v6,v7] h
abbrev P39_5 (s:Bool) (K:KF) (v2 v5 v6 v7 v26 v27 v28:Value) (h:AH):Prop:=PI (C39 s) K 5 [v2,v5,v6,v7,v26,v27,v28] h
abbrev P39_11 (s:Bool) (K:KF) (v2 v5 v6 v7 v26 v27 v28:Value) (h:AH):Prop:=PI (C39 s) K 11 [v2,v5,v6,v7,v26,v27,v28] h
abbrev P39_12 (s:Bool) (K:KF) (v2 v5 v6 v7:Value) (h:AH):Prop:=PI (C39 s) K 12 [v2,v5,v6,v7] h
abbrev P39_13 (s:Bool) (K:KF) (h:AH):Prop:=PI (C39 s) K 13 [] h
theorem zdh (H :
 Ev s (zX 25 h v0) fun x0=>
 PI (C39 s) K 1 [v1,x0.1] x0.2):PI (C39 s) K 0 [v0,v1] h:=zB H
theorem zdg (H :
 EvO (zH E 25 h v2) fun x0=>
 Ev s (zQ (zW E) (some (.func (.func 24) #[] #[])) [x0] h) fun x1=>
 Ev s (zf E 47 1 (some [(0,v1)]) x1.2) fun x3=>
 PI (C39 s) K 2 [v2,x1.1,x3.1] x3.2):PI (C39 s) K 1 [v1,v2] h:=zB H
theorem zdf (H :
 PI (C39 s) K 3 [v2,v5,v6,(.int .i64 0)] h):PI (C39 s) K 2 [v2,v5,v6] h:=zB H
theorem zOb (H :
 EvO (zO E (zl [(15,v6)]) (zn B39 [1,1,0,1,0,0,0,0] 2) h) fun x2=>
 EvO (zC E .lss 3 v7 x2) fun x3=>
 BrK x3 (PI (C39 s) K 4 [v2,v5,v6,v7] h) (PI (C39 s) K 13 [] h)):PI (C39 s) K 3 [v2,v5,v6,v7] h:=zB H
theorem zKR:zO E (zl [(15,.slice a n c)]) (zn B39 [1,1,0,1,0,0,0,0] 2) h=some (.int .i64 (n:Int)):=by cases a <;> kernel_rfl
theorem zde (H :
 EvO (zE E 47 v6 v7) fun x3=>
 EvO (zH E 3 h x3) fun x4=>
 EvO (zE E 49 v5 x4) fun x5=>
 EvO (zH E 23 h x5) fun x6=>
 EvO (zO E (zl [(26,x6)]) (zn B39 [1,1,0,1,0,0,1,0,0,0] 7) h) fun x7=>
 PI (C39 s) K 5 [v2,v5,v6,v7,x6,x7,(.int .i64 0)] h):PI (C39 s) K 4 [v2,v5,v6,v7] h:=zB H
theorem zSU:zO E (zl [(26,.slice a n c)]) (zn B39 [1,1,0,1,0,0,1,0,0,0] 7) h=some (.int .i64 (n:Int)):=by cases a <;> kernel_rfl
theorem zOa (H :
 EvO (zC E .lss 3 v28 v27) fun x0=>
 BrK x0 (PI (C39 s) K 6 [v2,v5,v6,v7,v26,v27,v28] h) (PI (C39 s) K 12 [v2,v5,v6,v7] h)):PI (C39 s) K 5 [v2,v5,v6,v7,v26,v27,v28] h:=zB H
theorem zdd (H :
 EvO (zE E 23 v26 v28) fun x0=>
 EvO (zH E 52 h x0) fun x1=>
 Ev s (zX 52 h (zAG E 52)) fun x2=>
 Ev s (ze E 52 x2.2 x2.1 x1) fun x3=>
 PI (C39 s) K 7 [v2,v5,v6,v7,x2.1,v26,v27,v28] x3.2):PI (C39 s) K 6 [v2,v5,v6,v7,v26,v27,v28] h:=zB H
theorem zdc (H :
 EvO (zD E 25 1 v2) fun x0=>
 EvO (zH E 22 h x0) fun x1=>
 EvO (zD E 52 1 v9) fun x2=>
 EvO (zH E 3 h x2) fun x3=>
 EvO (zE E 22 x1 x3) fun x4=>
 EvO (zD E 36 0 x4) fun x5=>
 EvO (zH E 3 h x5) fun x6=>
 EvO (zC E .neq 3 x6 (.int .i64 (-1))) fun x7=>
 BrK x7 (PI (C39 s) K 8 [] h) (PI (C39 s) K 9 [v2,v5,v6,v7,v9,v26,v27,v28] h)):PI (C39 s) K 7 [v2,v5,v6,v7,v9,v26,v27,v28] h:=zB H
theorem zdb (H :
 K .ret [(.bool true)] h):PI (C39 s) K 8 [] h:=zB H
theorem zda (H :
 EvO (zD E 52 2 v9) fun x1=>
 EvO (zH E 3 h x1) fun x2=>
 Ev s (zQ (zW E) (some (.func (.func 27) #[] #[])) [v6,x2] h) fun x3=>
 EvO (zAQ .not x3.1) fun x4=>
 BrK x4 (PI (C39 s) K 10 [v2,v5,v6,v7,v9,v26,v27,v28] x3.2) (PI (C39 s) K 11 [v2,v5,v6,v7,v26,v27,v28] x3.2)):PI (C39 s) K 9 [v2,v5,v6,v7,v9,v26,v27,v28] h:=zB H
theorem zUx (H :
 EvO (zD E 52 2 v9) fun x1=>
 EvO (zH E 3 h x1) fun x2=>
 Ev s (zf E 47 1 (some [(0,x2)]) h) fun x3=>
 Ev s (zAD E .append [47,47] [v6,x3.1] x3.2) fun x4=>
 PI (C39 s) K 11 [v2,v5,x4.1,v7,v26,v27,v28] x4.2):PI (C39 s) K 10 [v2,v5,v6,v7,v9,v26,v27,v28] h:=zB H
theorem zUw (H :
 EvO (zC E .add 3 v28 (.int .i64 1)) fun x0=>
 PI (C39 s) K 5 [v2,v5,v6,v7,v26,v27,x0] h):PI (C39 s) K 11 [v2,v5,v6,v7,v26,v27,v28] h:=zB H
theorem zUv (H :
 EvO (zC E .add 3 v7 (.int .i64 1)) fun x1=>
 PI (C39 s) K 3 [v2,v5,v6,x1] h):PI (C39 s) K 12 [v2,v5,v6,v7] h:=zB H
theorem zUu (H :
 K .ret [(.bool false)] h):PI (C39 s) K 13 [] h:=zB H
theorem zaL {Rp:Value->Prop} (hok:h.ok) (H:PI (C39 true) (KR E [.tmp 4] fun x k=>(zh x=true/\Rp x)/\h.next<=k.wm) 0 [v0,v1] h.fresh):∃ v,Rp v/\(zW E).call 39 [v0,v1] h=some [(v,h)]:=zCy Tryz.f39 hok (zz (C39 true) H)
noncomputable def B31:Code:=zc Tryz.f31
noncomputable def C31 (s:Bool):Cx:=⟨E,s,none,B31,[([0],[0,1]),([1,0],[1,2,3]),([1,1,0],[1,3,4]),([1,1,1,0],[1,3,4])],[3],[]⟩
abbrev P31_2 (s:Bool) (K:KF) (v1 v3 v4:Value) (h:AH):Prop:=PI (C31 s) K 2 [v1,v3,v4] h
theorem zeA (H :
 Ev s (zX 54 h v0) fun x0=>
 Ev s (zX 32 x0.2 (zAG E 32)) fun x1=>
 PI (C31 s) K 1 [v1,x0.1,x1.1] x1.2):PI (C31 s) K 0 [v0,v1] h:=zB H
theorem zd9 (H :
 EvO (zD E 32 1 v1) fun x0=>
 EvO (zH E 26 h x0) fun x1=>
 EvO (zH E 54 h v2) fun x3=>
 s=false/\(Ev s (zQ (zW E) (some (.func (.func 32) #[] #[])) [x1] h) fun x2=>
 EvO (zH E 54 x2.2 v2) fun u2_3=>veq 100 u2_3 x3=true ∧
 (Ev s (zf E 26 1 (some [(0,x3)]) x2.2) fun x4=>
 Ev s (zAD E .append [26,26] [x2.1,x4.1] x4.2) fun x5=>
 PI (C31 s) K 2 [v1,v3,x5.1] x5.2))/\(Ev s (zf E 26 1 (some [(0,x3)]) h) fun x4=>
 EvO (zH E 26 x4.2 x0) fun u4_1=>veq 100 u4_1 x1=true ∧
 (Ev s (zQ (zW E) (some (.func (.func 32) #[] #[])) [x1] x4.2) fun x2=>
 Ev s (zAD E .append [26,26] [x2.1,x4.1] x2.2) fun x5=>
 PI (C31 s) K 2 [v1,v3,x5.1] x5.2))):PI (C31 s) K 1 [v1,v2,v3] h:=zB H
theorem zd8 (H :
 Ev s (zQ (zW E) (some (.func (.func 33) #[] #[])) (some [v4,(.func (.func 34) #[] #[])]) h) fun x1=>
 PI (C31 s) K 3 [v1,v3,v4] x1.2):PI (C31 s) K 2 [v1,v3,v4] h:=zB H
theorem zd7 (H :
 EvO (zD E 32 0 v1) fun x0=>
 EvO (zH E 3 h x0) fun x1=>
 Ev s (zQ (zW E) (some (.func (.func 36) #[] #[])) [v4] h) fun x3=>
 EvO (zH E 3 x3.2 x0) fun u3_1=>veq 100 u3_1 x1=true ∧
 (Ev s (zQ (zW E) (some (.func (.func 16) #[] #[])) [x1,x3.1] x3.2) fun x4=>
 Ev s (ze E 32 x4.2 v3 x4.1) fun x5=>
 K .ret [v3] x5.2)):PI (C31 s) K 3 [v1,v3,v4] h:=zB H
theorem F31_ev (H:PI (C31 s) (KR E [.cell 3 32] Rp) 0 [v0,v1] h):EvC E s Tryz.f31 [v0,v1] h Rp:=zz (C31 s) H
theorem F31_get:E.tab.fn.get 31=some Tryz.f31:=by kernel_rfl
theorem ze7:Tryz.f31.body=some B31:=by kernel_rfl
theorem F31_sum (l:List Value) (h:AH):E.sum 31 l h=none:=by kernel_rfl
noncomputable def B7:Code:=zc Tryz.f7
noncomputable def C7 (s:Bool):Cx:=⟨E,s,none,B7,[([0],[0,1,2,3,4]),([1,0,0],[3,4,5,6,7]),([1,0,1,0,0],[]),([1,1,0,0],[3,4,5,6,7]),([1,1,0,1,0,0],[]),([1,1,1,0],[3,4,5,6,7]),([1,1,1,1,0],[3,4,5,6,7,11]),([1,1,1,1,1,0,0],[3,4,5,6,7,11,12]),([1,1,1,1,1,0,1,0,0],[]),([1,1,1,1,1,1,0,0],[3,4,5,6,11]),([1,1,1,1,1,1,0,1,0,0],[]),([1,1,1,1,1,1,1,0],[3,4,5,6,11]),([1,1,1,1,1,1,1,1,0],[3,4,5,6,11,13])],[10],[]⟩
abbrev P7_4 (s:Bool) (K:KF) (h:AH):Prop:=PI (C7 s) K 4 [] h
abbrev P7_10 (s:Bool) (K:KF) (h:AH):Prop:=PI (C7 s) K 10 [] h
theorem P7_0_of (H :
 Ev s (zX 25 h v0) fun x0=>
 Ev s (zX 25 x0.2 v1) fun x1=>
 Ev s (zX 32 x1.2 v2) fun x2=>
 PI (C7 s) K 1 [v3,v4,x0.1,x1.1,x2.1] x2.2):PI (C7 s) K 0 [v0,v1,v2,v3,v4] h:=zB H
theorem P7_1_of (H :
 Ev s (zQ (zW E) (some (.func (.func 13) #[] #[])) (some []) h) fun x0=>
 EvO (zAQ .not x0.1) fun x1=>
 BrK x1 (PI (C7 s) K 2 [] x0.2) (PI (C7 s) K 3 [v3,v4,v5,v6,v7] x0.2)):PI (C7 s) K 1 [v3,v4,v5,v6,v7] h:=zB H
theorem P7_3_of (H :
 EvO (zH E 25 h v5) fun x0=>
 EvO (zH E 25 h v6) fun x1=>
 Ev s (zf E 82 2 (some [(0,x0),(1,x1)]) h) fun x2=>
 Ev s (zQ (zW E) (some (.func (.func 14) #[] #[])) [x2.1] x2.2) fun x3=>
 EvO (zAQ .not x3.1) fun x4=>
 EvO (gdB x4 false (zH E 32 x3.2 v7)) fun x6=>
 Ev s (gdW x4 false (zf E 83 1 (some [(0,x6)]) x3.2) x3.2) fun x7=>
 Ev s (gdW x4 false (zQ (zW E) (some (.func (.func 19) #[] #[])) [x7.1] x7.2) x7.2) fun x8=>
 EvO (gdB x4 false (zAQ .not x8.1)) fun x9=>
 EvO (z7 x4 (some (.bool true)) x9) fun x10=>
 EvO (gdB x10 false (zH E 25 x8.2 v5)) fun x12=>
 EvO (gdB x10 false (zH E 25 x8.2 v6)) fun x13=>
 EvO (gdB x10 false (zH E 32 x8.2 v7)) fun x14=>
 Ev s (gdW x10 false (zQ (zW E) (some (.func (.func 15) #[] #[])) [x12,x13,x14] x8.2) x8.2) fun x15=>
 EvO (gdB x10 false (zC E .neq 29 x15.1 (.int .i64 0))) fun x16=>
 EvO (z7 x10 (some (.bool true)) x16) fun x17=>
 EvO (gdB x17 false (zH E 25 x15.2 v5)) fun x19=>
 Ev s (gdW x17 false (zQ (zW E) (some (.func (.func 23) #[] #[])) [x19] x15.2) x15.2) fun x20=>
 EvO (gdB x17 false (zC E .neq 29 x20.1 (.int .i64 0))) fun x21=>
 EvO (z7 x17 (some (.bool true)) x21) fun x22=>
 EvO (gdB x22 false (zH E 25 x20.2 v6)) fun x24=>
 Ev s (gdW x22 false (zQ (zW E) (some (.func (.func 23) #[] #[])) [x24] x20.2) x20.2) fun x25=>
 EvO (gdB x22 false (zC E .neq 29 x25.1 (.int .i64 0))) fun x26=>
 EvO (z7 x22 (some (.bool true)) x26) fun x27=>
 BrK x27 (PI (C7 s) K 4 [] x25.2) (PI (C7 s) K 5 [v3,v4,v5,v6,v7] x25.2)):PI (C7 s) K 3 [v3,v4,v5,v6,v7] h:=zB H
theorem P7_4_of (H :
 K .ret [(.bool true)] h):PI (C7 s) K 4 [] h:=zB H
theorem P7_5_of (H :
 EvO (zAt (.func 31) (some []) [v7]) fun x0=>
 PI (C7 s) K 6 [v3,v4,v5,v6,v7,x0] h):PI (C7 s) K 5 [v3,v4,v5,v6,v7] h:=zB H
theorem P7_6_of (H :
 EvO (zD E 32 1 v7) fun x0=>
 EvO (zH E 26 h x0) fun x1=>
 Ev s (zQ (zW E) (some (.func (.func 32) #[] #[])) [x1] h) fun x2=>
 Ev s (zQ (zW E) (some (.func (.func 37) #[] #[])) (some [x2.1,(.func (.func 38) #[] #[])]) x2.2) fun x3=>
 PI (C7 s) K 7 [v3,v4,v5,v6,v7,v11,x3.1] x3.2):PI (C7 s) K 6 [v3,v4,v5,v6,v7,v11] h:=zB H
theorem P7_7_of (H :
 EvO (zH E 25 h v5) fun x0=>
 EvO (zH E 25 h v6) fun x1=>
 EvO (zD E 32 0 v7) fun x2=>
 EvO (zH E 3 h x2) fun x3=>
 Ev s (zQ (zW E) (some (.func (.func 16) #[] #[])) [x3,v12] h) fun x5=>
 EvO (zH E 25 x5.2 v6) fun u5_1=>veq 100 u5_1 x1=true ∧
 (EvO (zH E 25 x5.2 v5) fun u5_0=>veq 100 u5_0 x0=true ∧
 (Ev s (zQ (zW E) (some (.func (.func 15) #[] #[])) [x0,x1,x5.1] x5.2) fun x6=>
 EvO (zC E .neq 29 x6.1 (.int .i64 360)) fun x7=>
 EvO (gdB x7 false (zH E 25 x6.2 v5)) fun x9=>
 EvO (gdB x7 false (zH E 25 x6.2 v6)) fun x10=>
 EvO (gdB x7 false v11) fun x11=>
 EvO (gdB x7 false (zD E 25 0 v5)) fun x12=>
 EvO (gdB x7 false (zH E 3 x6.2 x12)) fun x13=>
 EvO (gdB x7 false (zAi E 54 (some [(0,x13),(1,(.int .i64 0))]))) fun x14=>
 Ev s (gdW x7 false (zQ (zW E) x11 [x14] x6.2) x6.2) fun x15=>
 EvO (gdB x7 false (zH E 25 x15.2 v6)) fun u15_10=>veq 100 u15_10 x10=true ∧
 (EvO (gdB x7 false (zH E 25 x15.2 v5)) fun u15_9=>veq 100 u15_9 x9=true ∧
 (Ev s (gdW x7 false (zQ (zW E) (some (.func (.func 15) #[] #[])) [x9,x10,x15.1] x15.2) x15.2) fun x16=>
 EvO (gdB x7 false (zC E .neq 29 x16.1 (.int .i64 360))) fun x17=>
 EvO (z7 x7 (some (.bool true)) x17) fun x18=>
 EvO (gdB x18 false (zH E 25 x16.2 v5)) fun x20=>
 EvO (gdB x18 false (zH E 25 x16.2 v6)) fun x21=>
 EvO (gdB x18 false v11) fun x22=>
 EvO (gdB x18 false (zD E 25 0 v6)) fun x23=>
 EvO (gdB x18 false (zH E 3 x16.2 x23)) fun x24=>
 EvO (gdB x18 false (zAi E 54 (some [(0,(.int .i64 0)),(1,x24)]))) fun x25=>
 Ev s (gdW x18 false (zQ (zW E) x22 [x25] x16.2) x16.2) fun x26=>
 EvO (gdB x18 false (zH E 25 x26.2 v6)) fun u26_21=>veq 100 u26_21 x21=true ∧
 (EvO (gdB x18 false (zH E 25 x26.2 v5)) fun u26_20=>veq 100 u26_20 x20=true ∧
 (Ev s (gdW x18 false (zQ (zW E) (some (.func (.func 15) #[] #[])) [x20,x21,x26.1] x26.2) x26.2) fun x27=>
 EvO (gdB x18 false (zC E .neq 29 x27.1 (.int .i64 360))) fun x28=>
 EvO (z7 x18 (some (.bool true)) x28) fun x29=>
 BrK x29 (PI (C7 s) K 8 [] x27.2) (PI (C7 s) K 9 [v3,v4,v5,v6,v11] x27.2)))))))):PI (C7 s) K 7 [v3,v4,v5,v6,v7,v11,v12] h:=zB H
theorem P7_9_of (H :
 EvO (zC E .lss 3 v3 (.int .i64 0)) fun x1=>
 EvO (gdB x1 false v3) fun x3=>
 EvO (gdB x1 false (zD E 25 0 v5)) fun x4=>
 EvO (gdB x1 false (zH E 3 h x4)) fun x5=>
 EvO (gdB x1 false (zC E .geq 3 x3 x5)) fun x6=>
 EvO (z7 x1 (some (.bool true)) x6) fun x7=>
 EvO (gdB x7 false v4) fun x9=>
 EvO (gdB x7 false (zC E .lss 3 x9 (.int .i64 0))) fun x10=>
 EvO (z7 x7 (some (.bool true)) x10) fun x11=>
 EvO (gdB x11 false v4) fun x13=>
 EvO (gdB x11 false (zD E 25 0 v6)) fun x14=>
 EvO (gdB x11 false (zH E 3 h x14)) fun x15=>
 EvO (gdB x11 false (zC E .geq 3 x13 x15)) fun x16=>
 EvO (z7 x11 (some (.bool true)) x16) fun x17=>
 BrK x17 (PI (C7 s) K 10 [] h) (PI (C7 s) K 11 [v3,v4,v5,v6,v11] h)):PI (C7 s) K 9 [v3,v4,v5,v6,v11] h:=zB H
theorem zc1 (H :
 K .ret [(.bool true)] h):PI (C7 s) K 10 [] h:=zB H
theorem zc0 (H :
 PI (C7 s) K 12 [v3,v4,v5,v6,v11,(.func (.func 39) #[] #[])] h):PI (C7 s) K 11 [v3,v4,v5,v6,v11] h:=zB H
theorem zcz (H :
 EvO (zH E 25 h v5) fun x1=>
 EvO (zH E 25 h v6) fun x5=>
 Ev s (zQ (zW E) v13 [x1,v3] h) fun x3=>
 EvO (zH E 25 x3.2 v6) fun u3_5=>veq 100 u3_5 x5=true ∧
 (Ev s (zQ (zW E) v13 [x5,v4] x3.2) fun x7=>
 EvO (zi E (zl [(100,x3.1),(104,x7.1)]) (zn B7 [1,1,1,1,1,1,1,1,0] 8)) fun x8=>
 EvO (gdB x8 false (zH E 25 x7.2 v5)) fun x10=>
 EvO (gdB x8 false (zH E 25 x7.2 v6)) fun x11=>
 EvO (gdB x8 false v11) fun x12=>
 EvO (gdB x8 false v3) fun x13=>
 EvO (gdB x8 false v4) fun x14=>
 EvO (gdB x8 false (zAi E 54 (some [(0,x13),(1,x14)]))) fun x15=>
 Ev s (gdW x8 false (zQ (zW E) x12 [x15] x7.2) x7.2) fun x16=>
 EvO (gdB x8 false (zH E 25 x16.2 v6)) fun u16_11=>veq 100 u16_11 x11=true ∧
 (EvO (gdB x8 false (zH E 25 x16.2 v5)) fun u16_10=>veq 100 u16_10 x10=true ∧
 (Ev s (gdW x8 false (zQ (zW E) (some (.func (.func 15) #[] #[])) [x10,x11,x16.1] x16.2) x16.2) fun x17=>
 EvO (gdB x8 false (zC E .eql 29 x17.1 (.int .i64 360))) fun x18=>
 EvO (z7 x8 (some (.bool true)) x18) fun x19=>
 K .ret [x19] x17.2)))):PI (C7 s) K 12 [v3,v4,v5,v6,v11,v13] h:=zB H
theorem F7_flat (hok:h.ok) (hv:zg v=true) (H:PI (C7 s) (KR E [.tmp 10] fun x k=>x=v/\h.next<=k.wm) 0 [v0,v1,v2,v3,v4] h.fresh):(zW E).call 7 [v0,v1,v2,v3,v4] h=some [(v,h)]:=zAh Tryz.f7 hok hv (zz (C7 s) H)
end Go.Proofs
namespace Go.Proofs
open Go Go.AM
set_option maxRecDepth 100000
set_option maxHeartbeats 1000000
abbrev Dt:=Array (Int×Int)
def zBd (d:Dt):List Value:=d.toList.flatMap zG
theorem zBQ:∀ l:List (Int×Int),(l.flatMap zG).length=l.length*2
 | []=>rfl
 | x::l=>by simp only [List.flatMap_cons,List.length_append,List.length_cons,zBQ l];simp [zG];omega
theorem zE6 (d:Dt):(zBd d).length=d.size*2:=zBQ d.toList
theorem zI7:∀ (l:List (Int×Int)) (i:Nat) (x:Int×Int),l[i]?=some x->((l.flatMap zG).drop (i*2)).take 2=zG x
 | [],i,x,h=>by simp at h
 | y::l,0,x,h=>by simp at h;subst h;rfl
 | y::l,i+1,x,h=>by
  have:=zI7 l i x (by simpa using h)
  rw [show (i+1)*2=i*2+2 by omega]
  exact this
theorem zI6:∀ (l:List (Int×Int)) (i:Nat) (x:Int×Int),i<l.length->lput (l.flatMap zG) (i*2) (zG x)=(l.set i x).flatMap zG
 | [],i,x,h=>by simp at h
 | y::l,0,x,h=>by
  show Value.int .i64 x.1::Value.int .i64 x.2::lput (l.flatMap zG) 0 []=_
  have:lput (l.flatMap zG) 0 []=l.flatMap zG:=by cases l.flatMap zG <;> rfl
  rw [this];rfl
 | y::l,i+1,x,h=>by
  have:=zI6 l i x (by simpa using h)
  rw [show (i+1)*2=i*2+2 by omega]
  show Value.int .i64 y.1::Value.int .i64 y.2::lput (l.flatMap zG) (i*2) (zG x)=_
  rw [this];rfl
theorem zH4 (x:Int×Int):(zG x).all zr=true:=by simp [zG,zr]
structure SR (b ty es:Nat) (k0:AH) (d0:Dt) (k:AH) (d:Dt):Prop where
 fx:Fx (fun c=>c=b) k0 k
 g:k.get b=some (.row (zBd d) ty es false)
 wm:k.wm<=b\/d=d0
 wle:k.wm<=k0.wm
 sz:d.size=d0.size
 lt:b<k0.next
section
variable {b ty es:Nat} {k0 k:AH} {d0 d:Dt}
theorem SR.refl (hg:k.get b=some (.row (zBd d) ty es false)) (hl:b<k.next) (hok:k.ok):SR b ty es k d k d:=⟨Fx.refl hok,hg,.inr rfl,Nat.le_refl _,rfl,hl⟩
theorem SR.fresh (hg:k.get b=some (.row (zBd d) ty es false)) (hl:b<k.next):SR b ty es k.fresh d k.fresh d:=SR.refl hg hl (zAT k)
theorem SR.ok (R:SR b ty es k0 d0 k d):k.ok:=R.fx.ok
theorem SR.l (R:SR b ty es k0 d0 k d):b<k.next:=Nat.lt_of_lt_of_le R.lt R.fx.next
theorem SR.trans {k':AH} {d':Dt} (R:SR b ty es k0 d0 k d) (S:SR b ty es k d k' d'):SR b ty es k0 d0 k' d':=
 ⟨R.fx.trans S.fx fun c h=>.inl h,S.g,by
  rcases S.wm with h|h
  ·exact .inl h
  ·rcases R.wm with h2|h2
   ·have:=S.wle;exact .inl (by omega)
   ·exact .inr (h.trans h2),Nat.le_trans S.wle R.wle,S.sz.trans R.sz,R.lt⟩
theorem SR.ld (R:SR b ty es k0 d0 k d) {i:Nat} (hi:i<d.size):zH E 54 k (some (.pointer (some ⟨b,0+i*2,none⟩)))=some (.agg ⟨zG d[i]!⟩):=by
 rw [Nat.zero_add,za (P:=E) zFZ R.g (by rw [zE6];omega)]
 unfold zBd
 rw [zI7 d.toList i d[i]! (by simp [hi])]
theorem zHp (h:AH) (b:Nat) (o:Option AObj):(h.upd b o).wm<=b/\(h.upd b o).wm<=h.wm:=by
 show cond (Nat.ble h.wm b) h.wm b<=b/\cond (Nat.ble h.wm b) h.wm b<=h.wm
 cases hc:Nat.ble h.wm b with
 | true=>have:=ble_true.1 hc;simp only [cond_true];omega
 | false=>have:=ble_false.1 hc;simp only [cond_false];omega
theorem SR.st (R:SR b ty es k0 d0 k d) {i:Nat} (hi:i<d.size) (x:Int×Int) :
  ∃ m,ze E 54 k (some (.pointer (some ⟨b,0+i*2,none⟩))) (some (.agg ⟨zG x⟩))=one (undef,m)/\SR b ty es k0 d0 m (d.setIfInBounds i x):=by
 refine ⟨_,by rw [Nat.zero_add];exact zw (P:=E) zHg (cs:=zG x) R.g rfl rfl (by rw [zE6];omega) (zH4 x),R.fx.upd (.inl rfl) _,?_,.inl (zHp _ _ _).1,Nat.le_trans (zHp _ _ _).2 R.wle,by simpa using R.sz,R.lt⟩
 rw [zR]
 unfold zBd
 rw [zI6 _ _ _ (by simpa using hi)]
 simp
theorem SR.sw (R:SR b ty es k0 d0 k d) {i j:Nat} (hi:i<d.size) (hj:j<d.size) :
  ∃ m m',ze E 54 k (some (.pointer (some ⟨b,0+i*2,none⟩))) (some (.agg ⟨zG d[j]!⟩))=one (undef,m)/\ze E 54 m (some (.pointer (some ⟨b,0+j*2,none⟩))) (some (.agg ⟨zG d[i]!⟩))=one (undef,m')/\SR b ty es k0 d0 m' (Go.Sort.swp d i j):=by
 obtain ⟨m,e1,R1⟩:=R.st hi d[j]!
 obtain ⟨m',e2,R2⟩:=R1.st (i:=j) (by simpa using hj) d[i]!
 exact ⟨m,m',e1,e2,R2⟩
end
theorem zbS (d:Dt) (i j:Nat):(Go.Sort.swp d i j).size=d.size:=by simp [Go.Sort.swp]
def zCJ (cf:Value) (cm:Int×Int->Int×Int->Int):Prop:=∀ k x y,k.ok->zQ (zW E) (some cf) (some [.agg ⟨zG x⟩,.agg ⟨zG y⟩]) k=some [(.int .i64 (cm x y),k)]
abbrev zAW (cm:Int×Int->Int×Int->Int):Int×Int->Int×Int->Bool:=fun x y=>decide (cm x y<0)
theorem zNC {a c:Nat} (h:a+c<=9223372036854775807) (t:TypeId):zC E .add t (.int .i64 (a:Int)) (.int .i64 (c:Int))=some (.int .i64 ((a+c:Nat):Int)):=by
 rw [zAM t (by unfold zCx;omega)];rfl
theorem zBG {a:Nat} (h:a+1<=9223372036854775807) (t:TypeId):zC E .add t (.int .i64 (a:Int)) (.int .i64 1)=some (.int .i64 ((a+1:Nat):Int)):=zNC (c:=1) h t
theorem subN {a c:Nat} (h:c<=a) (ha:a<=9223372036854775807) (t:TypeId):zC E .sub t (.int .i64 (a:Int)) (.int .i64 (c:Int))=some (.int .i64 ((a-c:Nat):Int)):=by
 rw [zHR t (by unfold zCx;omega)]
 congr 2;omega
theorem zBg {a:Nat} (h:1<=a) (ha:a<=9223372036854775807) (t:TypeId):zC E .sub t (.int .i64 (a:Int)) (.int .i64 1)=some (.int .i64 ((a-1:Nat):Int)):=subN (c:=1) h ha t
theorem zJc {f:FuncId} {fn:Func} {c:Code} {args:List Value} {h:AH} {Q:Value->AH->Prop} (hok:h.ok) (hf:E.tab.fn.get f=some fn) (hb:fn.body=some c) (hsum:E.sum f args h=none) (hl:Nat.ble (zA1 args) fn.ntmps=true)
  (hev:Ev true (R.andThen (evC E (zW E) none (zc fn) ⟨⟨fn.ntmps,zCI args 0 .e⟩,h.fresh,[]⟩) (zAX E fn)) fun x=>Q x.1 x.2) :
  Ev true ((zW E).call f args h) fun x=>∃ k,Q x.1 k/\((h.next<=k.wm/\x.2=h)\/x.2=⟨k.t,k.next,cond (Nat.ble h.wm k.wm) h.wm k.wm⟩):=by
 rw [zBX hf hb hsum hl]
 obtain ⟨l,e,hne,h1,hl'⟩:=hev
 rw [e]
 match l,h1 rfl with
 | [x],_=>
  have hq:=hl' x (by simp)
  show Ev true (some [zbI h.wm (zBD h.fresh x)]) _
  rw [zN]
  unfold zBD
  cases hc:(zD0 h.fresh x&&zh x.1) with
  | true=>
   have hcl:zD0 h.fresh x=true:=by simp only [Bool.and_eq_true] at hc;exact hc.1
   simp only [cond_true]
   refine ⟨x.2,hq,.inl ⟨ble_true.1 hcl,?_⟩⟩
   show (⟨h.t,h.next,cond (Nat.ble h.wm (Nat.add h.next UNK)) h.wm (Nat.add h.next UNK)⟩:AH)=h
   have:Nat.ble h.wm (Nat.add h.next UNK)=true:=ble_true.2 hok
   rw [this];rfl
  | false=>
   simp only [cond_false]
   exact ⟨x.2,hq,.inr rfl⟩
theorem zDu {b ty es:Nat} {k:AH} {d:Dt} {f:FuncId} {fn:Func} {c:Code} {args:List Value} {Q:Value->Dt->Prop} (hg:k.get b=some (.row (zBd d) ty es false)) (hbl:b<k.next) (hok:k.ok)
  (hf:E.tab.fn.get f=some fn) (hb:fn.body=some c) (hsum:E.sum f args k=none) (hl:Nat.ble (zA1 args) fn.ntmps=true)
  (hev:Ev true (R.andThen (evC E (zW E) none (zc fn) ⟨⟨fn.ntmps,zCI args 0 .e⟩,k.fresh,[]⟩) (zAX E fn)) fun x=>∃ d',Q x.1 d'/\SR b ty es k.fresh d x.2 d') :
  Ev true ((zW E).call f args k) fun x=>∃ d',Q x.1 d'/\SR b ty es k d x.2 d':=by
 refine (zJc (Q:=fun v m=>∃ d',Q v d'/\SR b ty es k.fresh d m d') hok hf hb hsum hl hev).mono ?_
 rintro ⟨v,m⟩ ⟨k1,⟨d',hq,R⟩,⟨h1,h2⟩|h2⟩
 ·simp only at h2 hq ⊢
  subst h2
  have:d'=d:=by
   rcases R.wm with h|h
   ·omega
   ·exact h
  subst this
  exact ⟨_,hq,SR.refl hg hbl hok⟩
 ·simp only at h2 hq ⊢
  subst h2
  refine ⟨d',hq,R.fx.back,R.g,?_,?_,R.sz,hbl⟩
  ·rcases R.wm with h|h
   ·refine .inl ?_
    show cond (Nat.ble k.wm k1.wm) k.wm k1.wm<=b
    cases hc:Nat.ble k.wm k1.wm with
    | true=>have:=ble_true.1 hc;simp only [cond_true];omega
    | false=>simpa using h
   ·exact .inr h
  ·show cond (Nat.ble k.wm k1.wm) k.wm k1.wm<=k.wm
   cases hc:Nat.ble k.wm k1.wm with
   | true=>exact Nat.le_refl _
   | false=>have:=ble_false.1 hc;simp only [cond_false];omega
abbrev RS (b ty es:Nat) (k:AH) (d:Dt) (Q:Value->Dt->Prop):Value->AH->Prop:=fun x m=>∃ d',Q x d'/\SR b ty es k.fresh d m d'
abbrev QF (F:Dt):Value->Dt->Prop:=fun x d'=>x=.tuple #[]/\d'=F
abbrev KS (b ty es:Nat) (k:AH) (d F:Dt):KF:=KR E [] (RS b ty es k d (QF F))
abbrev sl (b n c:Nat):Value:=.slice (some ⟨b,0,none⟩) n c
theorem zIF {b ty es:Nat} {k h:AH} {d d' F:Dt} (R:SR b ty es k.fresh d h d') (e:d'=F):KS b ty es k d F .normal [] h:=by
 rw [KS,zMW]
 exact ⟨zCC ▸ trivial,d',⟨rfl,e⟩,R⟩
theorem ks_ret {b ty es:Nat} {k h:AH} {d d' F:Dt} (R:SR b ty es k.fresh d h d') (e:d'=F):KS b ty es k d F .ret [] h:=by
 rw [KS,zMW]
 exact ⟨zT ▸ trivial,d',⟨rfl,e⟩,R⟩
section
variable {b ty es c:Nat} {k:AH} {d:Dt}
theorem call148 {cf:Value} (hg:k.get b=some (.row (zBd d) ty es false)) (hbl:b<k.next) (hok:k.ok) {n:Nat} (hs:d.size=n) (hn:d.size<=1000000) {a e:Nat} (he0:1<=e) (hae:a<=e) (he:e<=d.size) :
  Ev true ((zW E).call 148 [sl b n c,.int .i64 (a:Int),.int .i64 (e:Int),cf] k) fun x=>∃ d',QF (Go.Sort.reverseRange d a e) x.1 d'/\SR b ty es k d x.2 d':=by
 subst hs
 refine zDu hg hbl hok zfU zaw (zfT _ _) (by kernel_rfl) (F148_ev (Rp:=RS b ty es k d (QF (Go.Sort.reverseRange d a e))) (zYg ?_))
 try simp only [zA]
 refine zYf ?_
 simp only [zA,zBg he0 (show e<=9223372036854775807 by omega)]
 have loop:∀ (m i j:Nat),j<=i+m->i<=d.size->j<d.size->∀ d' h,SR b ty es k.fresh d h d'->Go.Sort.reverseLoop i j d'=Go.Sort.reverseRange d a e->P148_2 true (KS b ty es k d (Go.Sort.reverseRange d a e)) (sl b d.size c) (.int .i64 (i:Int)) (.int .i64 (j:Int)) h:=by
  intro m
  induction m with
  | zero=>
   intro i j hm hi hj d' h R hF
   refine zLW ?_
   simp only [zA,zY,show decide ((i:Int)<(j:Int))=false from decide_eq_false (by omega),zk]
   exact zIF R (by rw [← hF];unfold Go.Sort.reverseLoop;rw [if_neg (by omega)])
  | succ m ih=>
   intro i j hm hi hj d' h R hF
   refine zLW ?_
   simp only [zA,zY,zAA]
   refine ⟨fun hlt=>zYe ?_,fun hge=>zIF R (by rw [← hF];unfold Go.Sort.reverseLoop;rw [if_neg (by omega)])⟩
   have hsz:=R.sz
   obtain ⟨m1,m2,e1,e2,R2⟩:=R.sw (i:=i) (j:=j) (by omega) (by omega)
   simp only [zA,zAK (show i<d.size by omega),zAK hj,R.ld (i:=i) (by omega),R.ld (i:=j) (by omega),e1,e2,zL]
   refine zYd ?_
   simp only [zA,zBG (show i+1<=9223372036854775807 by omega)]
   refine zYc ?_
   simp only [zA,zBg (show 1<=j by omega) (show j<=9223372036854775807 by omega)]
   refine ih (i+1) (j-1) (by omega) (by omega) (by omega) _ _ R2 ?_
   rw [← hF]
   conv=>rhs;unfold Go.Sort.reverseLoop
   rw [if_pos (by omega)]
 exact loop (e-1) a (e-1) (by omega) (by omega) (by omega) d _ (SR.fresh hg hbl) rfl
end
end Go.Proofs
namespace Go.Proofs
open Go Go.AM Go.Sort
set_option maxRecDepth 100000
set_option maxHeartbeats 1000000
theorem zTc (t:TypeId) {a b:Int} (h:zCx (a*b)):zC E .mul t (.int .i64 a) (.int .i64 b)=some (.int .i64 (a*b)):=by
 show some (Value.int .i64 (zBr .i64 (a*b)))=_
 rw [zC0 h]
theorem ft:(false==true)=false:=rfl
section
variable {b ty es c:Nat} {k:AH} {d:Dt} {cf:Value} {cm:Int×Int->Int×Int->Int}
theorem zSi (hn:d.size<=1000000) (hc:zCJ cf cm) {K:KF} {a:Nat} {v2 v8:Value}:∀ (j:Nat) (d':Dt) (h:AH),j<d.size->SR b ty es k.fresh d h d'->
  (∀ h2 d2,SR b ty es k.fresh d h2 d2->d2=insInner (zAW cm) a j d'->P144_6 true K (sl b d.size c) (.int .i64 (a:Int)) v2 cf v8 h2)->
  P144_3 true K (sl b d.size c) (.int .i64 (a:Int)) v2 cf v8 (.int .i64 (j:Int)) h:=by
 intro j
 induction j with
 | zero=>
  intro d' h hj R hK
  refine zLa ?_
  simp only [zA,zAH,show decide ((a:Int)<((0:Nat):Int))=false from decide_eq_false (by omega),zM,zP,ft,cond_false,zL,zJ,zk]
  exact hK h d' R rfl
 | succ j ih=>
  intro d' h hj R hK
  have hsz:=R.sz
  refine zLa ?_
  by_cases hlt:a<j+1
  rotate_left
  ·simp only [zA,zAH,show decide ((a:Int)<((j+1:Nat):Int))=false from decide_eq_false (by omega),zM,zP,ft,cond_false,zL,zJ,zk]
   exact hK h d' R (by simp only [insInner];rw [if_neg (by simp;omega)])
  ·simp only [zA,zAH,show decide ((a:Int)<((j+1:Nat):Int))=true from decide_eq_true (by omega),zM,zP,beq_self_eq_true,cond_true,zAK hj,R.ld (i:=j+1) (by omega),zBg (show 1<=j+1 by omega) (show j+1<=9223372036854775807 by omega),Nat.add_sub_cancel,zAK (show j<d.size by omega),R.ld (i:=j) (by omega),hc _ _ _ R.ok,zN,zY,zJ,zAA]
   refine ⟨fun h1=>zZA ?_,fun h1=>hK h d' R (by simp only [insInner];rw [if_neg (by simp;omega)])⟩
   obtain ⟨m1,m2,e1,e2,R2⟩:=R.sw (i:=j+1) (j:=j) (by omega) (by omega)
   simp only [zA,zAK hj,R.ld (i:=j+1) (by omega),zBg (show 1<=j+1 by omega) (show j+1<=9223372036854775807 by omega),Nat.add_sub_cancel,zAK (show j<d.size by omega),R.ld (i:=j) (by omega),e1,e2,zL]
   refine zY9 ?_
   simp only [zA,zBg (show 1<=j+1 by omega) (show j+1<=9223372036854775807 by omega),Nat.add_sub_cancel]
   exact ih _ _ (by omega) R2 fun h2 d2 R3 e=>hK h2 d2 R3 (by
    rw [e]
    conv=>rhs;simp only [insInner]
    rw [if_pos (by simp [h1];omega)])
theorem zTQ (hg:k.get b=some (.row (zBd d) ty es false)) (hbl:b<k.next) (hok:k.ok) {n:Nat} (hs:d.size=n) (hn:d.size<=1000000) (hc:zCJ cf cm) {a e:Nat} (hae:a<=e) (he:e<=d.size) :
  Ev true ((zW E).call 144 [sl b n c,.int .i64 (a:Int),.int .i64 (e:Int),cf] k) fun x=>∃ d',QF (insertionSort (zAW cm) d a e) x.1 d'/\SR b ty es k d x.2 d':=by
 subst hs
 refine zDu hg hbl hok zfa zaz (zfZ _ _) (by kernel_rfl) (F144_ev (Rp:=RS b ty es k d (QF (insertionSort (zAW cm) d a e))) (zZC ?_))
 simp only [zA,zBG (show a+1<=9223372036854775807 by omega)]
 have loop:∀ (m i:Nat),e<=i+m->i<=d.size+1->∀ d' h,SR b ty es k.fresh d h d'->insOuter (zAW cm) a e i d'=insertionSort (zAW cm) d a e->
   P144_1 true (KS b ty es k d (insertionSort (zAW cm) d a e)) (sl b d.size c) (.int .i64 (a:Int)) (.int .i64 (e:Int)) cf (.int .i64 (i:Int)) h:=by
  intro m
  induction m with
  | zero=>
   intro i hm hi d' h R hF
   refine zLb ?_
   simp only [zA,zY,show decide ((i:Int)<(e:Int))=false from decide_eq_false (by omega),zk]
   exact zIF R (by rw [← hF];unfold insOuter;rw [if_neg (by omega)])
  | succ m ih=>
   intro i hm hi d' h R hF
   refine zLb ?_
   simp only [zA,zY,zAA]
   refine ⟨fun hlt=>zZB ?_,fun hge=>zIF R (by rw [← hF];unfold insOuter;rw [if_neg (by omega)])⟩
   try simp only [zA]
   refine zSi hn hc i d' h (by omega) R fun h2 d2 R2 e2=>zY8 ?_
   simp only [zA,zBG (show i+1<=9223372036854775807 by omega)]
   refine ih (i+1) (by omega) (by omega) d2 h2 R2 ?_
   rw [← hF,e2]
   conv=>rhs;unfold insOuter
   rw [if_pos (by omega)]
 exact loop e (a+1) (by omega) (by omega) d _ (SR.fresh hg hbl) rfl
theorem sift_ok (hn:d.size<=1000000) (hc:zCJ cf cm) {hi first:Nat} (hh:first+hi<=d.size) {K:KF} {F:Dt} (hK:∀ ex h2 d2,(ex=.normal\/ex=.ret)->SR b ty es k.fresh d h2 d2->d2=F->K ex [] h2) :
  ∀ (m root:Nat) (d':Dt) (h:AH),hi<=root+m->root<=d.size->SR b ty es k.fresh d h d'->siftDown (zAW cm) hi first root d'=F->
  P192_1 true K (sl b d.size c) (.int .i64 (hi:Int)) (.int .i64 (first:Int)) cf (.int .i64 (root:Int)) h:=by
 intro m
 induction m with
 | zero=>
  intro root d' h hm hr R hF
  have hsz:=R.sz
  refine zLG ?_
  try simp only [zA]
  rw [zTc 3 (a:=2) (b:=(root:Int)) (by unfold zCx;omega)]
  try simp only [zA]
  rw [zAM 3 (a:=2*(root:Int)) (b:=1) (by unfold zCx;omega),show 2*(root:Int)+1=((2*root+1:Nat):Int) by omega]
  try simp only [zA]
  refine zLF ?_
  simp only [zA,zAP,show decide ((hi:Int)<=((2*root+1:Nat):Int))=true from decide_eq_true (by omega),zu]
  exact hK _ _ _ (.inl rfl) R (by rw [← hF];unfold siftDown;rw [dif_pos (by omega)])
 | succ m ih=>
  intro root d' h hm hr R hF
  have hsz:=R.sz
  refine zLG ?_
  try simp only [zA]
  rw [zTc 3 (a:=2) (b:=(root:Int)) (by unfold zCx;omega)]
  try simp only [zA]
  rw [zAM 3 (a:=2*(root:Int)) (b:=1) (by unfold zCx;omega),show 2*(root:Int)+1=((2*root+1:Nat):Int) by omega]
  try simp only [zA]
  refine zLF ?_
  simp only [zA,zAP,zAA]
  refine ⟨fun h1=>hK _ _ _ (.inl rfl) R (by rw [← hF];unfold siftDown;rw [dif_pos (by omega)]),fun h1=>zXE ?_⟩
  have rest:∀ child:Nat,child<hi->root<child->(∀ D,(if !zAW cm d'[first+root]! d'[first+child]! then d' else siftDown (zAW cm) hi first child (swp d' (first+root) (first+child)))=D->D=F)->
    P192_5 true K (sl b d.size c) (.int .i64 (hi:Int)) (.int .i64 (first:Int)) cf (.int .i64 (root:Int)) (.int .i64 (child:Int)) h:=by
   intro child hch hrc hD
   refine zXC ?_
   simp only [zA,zNC (show first+root<=9223372036854775807 by omega),zNC (show first+child<=9223372036854775807 by omega),zAK (show first+root<d.size by omega),zAK (show first+child<d.size by omega),R.ld (i:=first+root) (by omega),R.ld (i:=first+child) (by omega),hc _ _ _ R.ok,zN,zY,zv]
   by_cases hlt:cm d'[first+root]! d'[first+child]! < 0
   ·simp only [hlt,decide_true,Bool.not_true,zk]
    refine zXB ?_
    obtain ⟨m1,m2,e1,e2,R2⟩:=R.sw (i:=first+root) (j:=first+child) (by omega) (by omega)
    simp only [zA,zNC (show first+root<=9223372036854775807 by omega),zNC (show first+child<=9223372036854775807 by omega),zAK (show first+root<d.size by omega),zAK (show first+child<d.size by omega),R.ld (i:=first+root) (by omega),R.ld (i:=first+child) (by omega),e1,e2,zL]
    refine zXA ?_
    try simp only [zA]
    exact ih child _ _ (by omega) (by omega) R2 (hD _ (by simp [hlt]))
   ·simp only [hlt,decide_false,Bool.not_false,zu]
    exact hK _ _ _ (.inr rfl) R (hD _ (by simp [hlt]))
  have hu:siftDown (zAW cm) hi first root d'=if 2*root+1+1<hi&&zAW cm d'[first+(2*root+1)]! d'[first+(2*root+1)+1]! then
    (if !zAW cm d'[first+root]! d'[first+(2*root+2)]! then d' else if 2*root+2<hi then siftDown (zAW cm) hi first (2*root+2) (swp d' (first+root) (first+(2*root+2))) else d')
    else if !zAW cm d'[first+root]! d'[first+(2*root+1)]! then d' else siftDown (zAW cm) hi first (2*root+1) (swp d' (first+root) (first+(2*root+1))):=by
   conv=>lhs;unfold siftDown
   rw [dif_neg (by omega)]
   rfl
  rw [hu] at hF
  simp only [zA,zBG (show 2*root+1+1<=9223372036854775807 by omega),zY]
  by_cases h2:2*root+1+1<hi
  ·simp only [show decide (((2*root+1+1:Nat):Int)<(hi:Int))=true from decide_eq_true (by omega),zM,zP,beq_self_eq_true,cond_true,zA,zNC (show first+(2*root+1)<=9223372036854775807 by omega),zAK (show first+(2*root+1)<d.size by omega),R.ld (i:=first+(2*root+1)) (by omega),zBG (show first+(2*root+1)+1<=9223372036854775807 by omega),zAK (show first+(2*root+1)+1<d.size by omega),R.ld (i:=first+(2*root+1)+1) (by omega),hc _ _ _ R.ok,zN,zY,zJ,zAA]
   refine ⟨fun h3=>zXD ?_,fun h3=>rest (2*root+1) (by omega) (by omega) fun D hD=>?_⟩
   ·simp only [zA,zBG (show 2*root+1+1<=9223372036854775807 by omega)]
    refine rest (2*root+1+1) (by omega) (by omega) fun D hD=>?_
    rw [if_pos (by simp [h2,h3]),if_pos (show 2*root+2<hi from h2)] at hF
    rw [← hF,← hD]
   ·rw [if_neg (by simp [h3])] at hF
    rw [← hF,← hD]
  ·simp only [show decide (((2*root+1+1:Nat):Int)<(hi:Int))=false from decide_eq_false (by omega),zM,zP,ft,cond_false,zA,zL,zJ,zk]
   refine rest (2*root+1) (by omega) (by omega) fun D hD=>?_
   rw [if_neg (by simp [h2])] at hF
   rw [← hF,← hD]
theorem zTN (hg:k.get b=some (.row (zBd d) ty es false)) (hbl:b<k.next) (hok:k.ok) {n:Nat} (hs:d.size=n) (hn:d.size<=1000000) (hc:zCJ cf cm) {lo hi first:Nat} (hlo:lo<=d.size) (hh:first+hi<=d.size) :
  Ev true ((zW E).call 192 [sl b n c,.int .i64 (lo:Int),.int .i64 (hi:Int),.int .i64 (first:Int),cf] k) fun x=>∃ d',QF (siftDown (zAW cm) hi first lo d) x.1 d'/\SR b ty es k d x.2 d':=by
 subst hs
 refine zDu hg hbl hok zfK zag (zfJ _ _) (by kernel_rfl) (F192_ev (Rp:=RS b ty es k d (QF (siftDown (zAW cm) hi first lo d))) (zXF ?_))
 try simp only [zA]
 refine sift_ok hn hc hh (F:=siftDown (zAW cm) hi first lo d) (fun ex h2 d2 hx R e=>?_) hi lo d _ (by omega) hlo (SR.fresh hg hbl) rfl
 rcases hx with rfl|rfl
 ·exact zIF R e
 ·exact ks_ret R e
end
theorem zRh {T:Tm} {o:Oper} {op:BinOp} {t u:TypeId} {x y:Operand} {va vb v:Value} (ho:o.op=.binOp op t x y u) (h1:rho T x=va) (h2:rho T y=vb) (fx:zp T x=true) (fy:zp T y=true)
  (fast:zC E op t va vb=none) (hg:eqGuard op t x y va vb=pure ()) (hv:binOp op t va vb=pure v) (fv:zh v=true):zi E T o=some v:=by
 have hx:zC3 E.prog (execOp (rho T) o)=some (.value v):=by
  unfold execOp
  simp only [ho,h1,h2]
  show zC3 E.prog (Bind.bind (Bind.bind (eqGuard op t x y va vb) fun _=>binOp op t va vb) fun x=>pure (Next.value x))=_
  rw [hg,hv]
  rfl
 have hf:(o.op.operands.toList.all (zp T)&&zDH o.op)=true:=by
  rw [ho]
  show (zp T x&&(zp T y&&true))&&true=true
  rw [fx,fy];rfl
 have hp:zBR E T o=some v:=by
  unfold zBR
  rw [hf,hx]
  simp only [cond_true,fv]
 simp only [zi,ho,pBin,h1,h2,fast,zGV,fx,fy,Bool.and_self,cond_true,hp]
theorem zGv {T:Tm} {o:Oper} {u cc:Nat} (ho:o.op=.binOp .quo 3 (.tmp u) (.const (.int .i64 (cc:Int))) 3) {a:Nat} (h1:T.get u=.int .i64 (a:Int)) (hc:0<cc) (ha:a<=9223372036854775807):zi E T o=some (.int .i64 ((a / cc:Nat):Int)):=by
 refine zRh ho (va:=.int .i64 (a:Int)) (vb:=.int .i64 (cc:Int)) h1 rfl (by show zh (T.get u)=true;rw [h1];rfl) rfl rfl rfl ?_ rfl
 show Op.intDiv .quo .i64 (a:Int) (cc:Int)=_
 unfold Op.intDiv
 rw [if_neg (by omega)]
 have:IntKind.i64.wrap ((a:Int).tdiv (cc:Int))=((a / cc:Nat):Int):=by
  rw [← zEw]
  have e:(a:Int).tdiv (cc:Int)=((a / cc:Nat):Int):=rfl
  rw [e]
  refine zC0 ?_
  have:=Nat.div_le_self a cc
  have h2:(0:Int)<=((a / cc:Nat):Int):=Int.natCast_nonneg _
  have h3:((a / cc:Nat):Int)<=(a:Int):=by exact_mod_cast this
  unfold zCx;omega
 show pure (Value.int .i64 (IntKind.i64.wrap ((a:Int).tdiv (cc:Int))))=_
 rw [this]
theorem quo145 {x:Nat} (h:x<=9223372036854775807):zi E (zl [(18,.int .i64 (x:Int))]) (zn B145 [1,1,1,0,0] 2)=some (.int .i64 ((x / 2:Nat):Int)):=zGv (u:=18) (cc:=2) (by kernel_rfl) (by kernel_rfl) (by omega) h
section
variable {b ty es c:Nat} {k:AH} {d:Dt} {cf:Value} {cm:Int×Int->Int×Int->Int}
theorem call145 (hg:k.get b=some (.row (zBd d) ty es false)) (hbl:b<k.next) (hok:k.ok) {n:Nat} (hs:d.size=n) (hn:d.size<=1000000) (hc:zCJ cf cm) {a e:Nat} (hae:a<e) (he:e<=d.size) :
  Ev true ((zW E).call 145 [sl b n c,.int .i64 (a:Int),.int .i64 (e:Int),cf] k) fun x=>∃ d',QF (heapSort (zAW cm) d a e) x.1 d'/\SR b ty es k d x.2 d':=by
 subst hs
 refine zDu hg hbl hok zfY zay (zfX _ _) (by kernel_rfl) (F145_ev (Rp:=RS b ty es k d (QF (heapSort (zAW cm) d a e))) (zY7 ?_))
 try simp only [zA]
 refine zY6 ?_
 try simp only [zA]
 refine zY5 ?_
 simp only [zA,subN (show a<=e by omega) (show e<=9223372036854775807 by omega)]
 refine zY4 ?_
 simp only [zA,zBg (show 1<=e-a by omega) (show e-a<=9223372036854775807 by omega),quo145 (show e-a-1<=9223372036854775807 by omega)]
 have pop:∀ (r:Nat),r<=e-a->∀ d' h,SR b ty es k.fresh d h d'->heapPop (zAW cm) a r d'=heapSort (zAW cm) d a e->
   P145_8 true (KS b ty es k d (heapSort (zAW cm) d a e)) (sl b d.size c) cf (.int .i64 (a:Int)) (.int .i64 0) (.int .i64 ((r:Int)-1)) h:=by
  intro r
  induction r with
  | zero=>
   intro hr d' h R hF
   refine zLY ?_
   simp only [zA,zAP,show decide ((0:Int)<=((0:Nat):Int)-1)=false from rfl,zk]
   exact zIF R hF
  | succ r ih=>
   intro hr d' h R hF
   have hsz:=R.sz
   rw [show ((r+1:Nat):Int)-1=(r:Int) by omega]
   refine zLY ?_
   simp only [zA,zAP,show decide ((0:Int)<=(r:Int))=true from decide_eq_true (by omega),zu]
   refine zY0 ?_
   obtain ⟨m1,m2,e1,e2,R2⟩:=R.sw (i:=a) (j:=a+r) (by omega) (by omega)
   simp only [zA,zNC (show a+r<=9223372036854775807 by omega),zAK (show a+r<d.size by omega),zAK (show a<d.size by omega),R.ld (i:=a) (by omega),R.ld (i:=a+r) (by omega),e1,e2,zL]
   refine zQe ?_
   have hz:=zbS d' a (a+r)
   simp only [zA,zS]
   refine (zTN (lo:=0) (hi:=r) (first:=a) R2.g R2.l R2.ok (R2.sz) (by omega) hc (by omega) (by omega)).mono fun x hx=>?_
   obtain ⟨d3,⟨_,e3⟩,R3⟩:=hx
   have R4:=R2.trans R3
   refine zQd ?_
   try simp only [zA]
   rw [zHR 3 (a:=(r:Int)) (b:=1) (by unfold zCx;omega)]
   try simp only [zA]
   exact ih (by omega) d3 _ R4 (by rw [← hF,e3];rfl)
 have build:∀ (r:Nat),r<=d.size->∀ d' h,SR b ty es k.fresh d h d'->heapPop (zAW cm) a (e-a) (heapBuild (zAW cm) (e-a) a r d')=heapSort (zAW cm) d a e->
   P145_4 true (KS b ty es k d (heapSort (zAW cm) d a e)) (sl b d.size c) cf (.int .i64 (a:Int)) (.int .i64 0) (.int .i64 ((e-a:Nat):Int)) (.int .i64 ((r:Int)-1)) h:=by
  intro r
  induction r with
  | zero=>
   intro hr d' h R hF
   refine zLZ ?_
   simp only [zA,zAP,show decide ((0:Int)<=((0:Nat):Int)-1)=false from rfl,zk]
   refine zY1 ?_
   try simp only [zA]
   rw [zHR 3 (a:=((e-a:Nat):Int)) (b:=1) (by unfold zCx;omega)]
   try simp only [zA]
   exact pop (e-a) (Nat.le_refl _) d' h R hF
  | succ r ih=>
   intro hr d' h R hF
   have hsz:=R.sz
   rw [show ((r+1:Nat):Int)-1=(r:Int) by omega]
   refine zLZ ?_
   simp only [zA,zAP,show decide ((0:Int)<=(r:Int))=true from decide_eq_true (by omega),zu]
   refine zY3 ?_
   simp only [zA,zS]
   refine (zTN (lo:=r) (hi:=e-a) (first:=a) R.g R.l R.ok R.sz (by omega) hc (by omega) (by omega)).mono fun x hx=>?_
   obtain ⟨d3,⟨_,e3⟩,R3⟩:=hx
   refine zY2 ?_
   try simp only [zA]
   rw [zHR 3 (a:=(r:Int)) (b:=1) (by unfold zCx;omega)]
   try simp only [zA]
   exact ih (by omega) d3 _ (R.trans R3) (by rw [← hF,e3];rfl)
 have:=build ((e-a-1) / 2+1) (by omega) d _ (SR.fresh hg hbl) rfl
 rw [show (((e-a-1) / 2+1:Nat):Int)-1=(((e-a-1) / 2:Nat):Int) by omega] at this
 exact this
end
theorem zGB {m:AH} {w b:Nat} {o:Option AObj} (h:m.get b=o):AH.get ⟨m.t,m.next,w⟩ b=o:=h
section
variable {b ty es c:Nat} {k:AH} {d:Dt} {cf:Value} {cm:Int×Int->Int×Int->Int}
theorem zMv (hg:k.get b=some (.row (zBd d) ty es false)) (hbl:b<k.next) (hok:k.ok) {n:Nat} (hs:d.size=n) (hn:d.size<=1000000) (hc:zCJ cf cm) {x y sw:Nat} (hx:x<d.size) (hy:y<d.size) {z:Int} (hsw:k.get sw=some (.row [.int .i64 z] 3 0 false)) (hswl:sw<k.next) (hne:sw≠b) :
  Ev true ((zW E).call 235 [sl b n c,.int .i64 (x:Int),.int .i64 (y:Int),ptr sw,cf] k) fun r=>((r.1=.tuple #[.int .i64 (x:Int),.int .i64 (y:Int)]\/r.1=.tuple #[.int .i64 (y:Int),.int .i64 (x:Int)])/\Fx (fun c=>c=sw) k r.2/\∃ z,r.2.get sw=some (.row [.int .i64 z] 3 0 false)):=by
 subst hs
 have e0:k.fresh.get b=some (.row (zBd d) ty es false):=hg
 have R:=SR.fresh (ty:=ty) (es:=es) hg hbl
 by_cases hlt:cm d[y]! d[x]! < 0
 ·refine zaU (Rp:=fun v m=>(v=.tuple #[.int .i64 (x:Int),.int .i64 (y:Int)]\/v=.tuple #[.int .i64 (y:Int),.int .i64 (x:Int)])/\Fx (fun c=>c=sw) k m/\∃ z,m.get sw=some (.row [.int .i64 z] 3 0 false)) (zLA ?_)
  try simp only [zA]
  refine zK9 ?_
  simp only [zA,zAK hx,zAK hy,R.ld hx,R.ld hy,hc _ _ _ R.ok,zN,zY,hlt,decide_true,zu]
  refine zV5 ?_
  have hl:zH E 3 k.fresh (some (ptr sw))=some (.int .i64 z):=zF (P:=E) zAS (o:=0) hsw
  obtain ⟨z',hz'⟩:∃ z',zC E .add 3 (.int .i64 z) (.int .i64 1)=some (.int .i64 z'):=⟨_,zJg 3 z 1⟩
  have hst:ze E 3 k.fresh (some (ptr sw)) (some (.int .i64 z'))=one (undef,k.fresh.upd sw (some (.row [.int .i64 z'] 3 0 false))):=zw (P:=E) ts_3 (x:=.int .i64 z') (cs:=[.int .i64 z']) (o:=0) (h:=k.fresh) (vs:=[.int .i64 z]) hsw rfl rfl (by simp) rfl
  have f:=(Fx.refl (P:=fun c=>c=sw) (zAT k)).upd (b:=sw) (.inl rfl) (some (.row [.int .i64 z'] 3 0 false))
  have hgs:=zR k.fresh sw (some (.row [.int .i64 z'] 3 0 false))
  have hwm:=(zHp k.fresh sw (some (.row [.int .i64 z'] 3 0 false))).1
  generalize k.fresh.upd sw (some (.row [.int .i64 z'] 3 0 false))=m at f hgs hwm hst
  simp only [zA,zAu,hl,hz',hst,zL]
  refine zV4 ?_
  simp only [zA,zPe,zT,true_and]
  exact ⟨.inr (Nat.lt_of_le_of_lt hwm hswl),.inr True.intro,f.back,z',zGB hgs⟩
 ·have:(zW E).call 235 [sl b d.size c,.int .i64 (x:Int),.int .i64 (y:Int),ptr sw,cf] k=some [(.tuple #[.int .i64 (x:Int),.int .i64 (y:Int)],k)]:=by
   refine zQy hok rfl (zLA ?_)
   try simp only [zA]
   refine zK9 ?_
   simp only [zA,zAK hx,zAK hy,R.ld hx,R.ld hy,hc _ _ _ R.ok,zN,zY,hlt,decide_false,zk]
   refine zV3 ?_
   simp only [zA,zPe,zT,true_and]
   show k.next<=k.next+UNK
   omega
  rw [this,zN]
  exact ⟨.inl rfl,Fx.refl hok,z,hsw⟩
theorem swCall {sw:Nat} {z0:Int} {f:FuncId} {fn:Func} {cc:Code} {args:List Value} {Q:Value->Prop} (hsw:k.get sw=some (.row [.int .i64 z0] 3 0 false)) (hok:k.ok)
  (hf:E.tab.fn.get f=some fn) (hb:fn.body=some cc) (hsum:E.sum f args k=none) (hl:Nat.ble (zA1 args) fn.ntmps=true)
  (hev:Ev true (R.andThen (evC E (zW E) none (zc fn) ⟨⟨fn.ntmps,zCI args 0 .e⟩,k.fresh,[]⟩) (zAX E fn)) fun x=>Q x.1/\Fx (fun c=>c=sw) k.fresh x.2/\∃ z,x.2.get sw=some (.row [.int .i64 z] 3 0 false)) :
  Ev true ((zW E).call f args k) fun x=>Q x.1/\Fx (fun c=>c=sw) k x.2/\∃ z,x.2.get sw=some (.row [.int .i64 z] 3 0 false):=by
 refine (zJc (Q:=fun v m=>Q v/\Fx (fun c=>c=sw) k.fresh m/\∃ z,m.get sw=some (.row [.int .i64 z] 3 0 false)) hok hf hb hsum hl hev).mono ?_
 rintro ⟨v,m⟩ ⟨k1,⟨hq,f,z,hz⟩,⟨h1,h2⟩|h2⟩
 ·simp only at h2 hq ⊢
  subst h2
  exact ⟨hq,Fx.refl hok,z0,hsw⟩
 ·simp only at h2 hq ⊢
  subst h2
  exact ⟨hq,f.back,z,zGB hz⟩
structure PV (b ty es:Nat) (d:Dt) (sw:Nat) (k0 k:AH):Prop where
 g:k.get b=some (.row (zBd d) ty es false)
 l:b<k.next
 hz:∃ z,k.get sw=some (.row [.int .i64 z] 3 0 false)
 sl:sw<k.next
 ne:sw≠b
 fx:Fx (fun c=>c=sw) k0 k
theorem PV.step {sw:Nat} {k0 k m:AH} (p:PV b ty es d sw k0 k) (f:Fx (fun c=>c=sw) k m) (hz:∃ z,m.get sw=some (.row [.int .i64 z] 3 0 false)):PV b ty es d sw k0 m:=
 ⟨(f.get b p.l (fun h=>p.ne h.symm)).trans p.g,Nat.lt_of_lt_of_le p.l f.next,hz,Nat.lt_of_lt_of_le p.sl f.next,p.ne,p.fx.trans f fun c h=>.inl h⟩
theorem PV.start {sw:Nat} {k:AH} (hok:k.ok) (hg:k.get b=some (.row (zBd d) ty es false)) (hl:b<k.next) (hz:∃ z,k.get sw=some (.row [.int .i64 z] 3 0 false)) (hsl:sw<k.next) (hne:sw≠b):PV b ty es d sw k k:=⟨hg,hl,hz,hsl,hne,Fx.refl hok⟩
theorem PV.fresh {sw:Nat} {k0 k:AH} (p:PV b ty es d sw k0 k):PV b ty es d sw k.fresh k.fresh:=⟨p.g,p.l,p.hz,p.sl,p.ne,Fx.refl (zAT k)⟩
theorem ex0 {a b:Value}:z6 0 (some (.tuple #[a,b]))=some a:=rfl
theorem ex1 {a b:Value}:z6 1 (some (.tuple #[a,b]))=some b:=rfl
theorem zTM {sw:Nat} {k0:AH} (p:PV b ty es d sw k0 k) (hok:k.ok) {n:Nat} (hs:d.size=n) (hn:d.size<=1000000) (hc:zCJ cf cm) {x y z:Nat} (hx:x<d.size) (hy:y<d.size) (hz:z<d.size) :
  Ev true ((zW E).call 196 [sl b n c,.int .i64 (x:Int),.int .i64 (y:Int),.int .i64 (z:Int),ptr sw,cf] k) fun r=>(∃ q:Nat,r.1=.int .i64 (q:Int)/\(q=x\/q=y\/q=z))/\PV b ty es d sw k r.2:=by
 obtain ⟨z0,hz0⟩:=p.hz
 refine (swCall (Q:=fun v=>∃ q:Nat,v=.int .i64 (q:Int)/\(q=x\/q=y\/q=z)) hz0 hok zfE zad (zfD _ _) (by kernel_rfl) (F196_ev (Rp:=fun v m=>(∃ q:Nat,v=.int .i64 (q:Int)/\(q=x\/q=y\/q=z))/\Fx (fun c=>c=sw) k.fresh m/\∃ z,m.get sw=some (.row [.int .i64 z] 3 0 false)) (zW0 ?_))).mono ?_
 rotate_left
 ·rintro ⟨v,m⟩ ⟨hq,f,hz⟩
  exact ⟨hq,(PV.start hok p.g p.l p.hz p.sl p.ne).step f hz⟩
 try simp only [zA]
 refine zWz ?_
 simp only [zA,zS]
 have pf:=p.fresh
 obtain ⟨z1,hz1⟩:=pf.hz
 refine (zMv (c:=c) pf.g pf.l (zAT k) hs hn hc hx hy hz1 pf.sl pf.ne).mono ?_
 rintro ⟨v,m⟩ ⟨hv,f,hz2⟩
 have p1:=pf.step f hz2
 obtain ⟨i,j,hi,hj,hij,rfl⟩:∃ i j:Nat,i<d.size/\j<d.size/\((i=x\/i=y)/\(j=x\/j=y))/\v=.tuple #[.int .i64 (i:Int),.int .i64 (j:Int)]:=by
  rcases hv with h|h
  ·exact ⟨x,y,hx,hy,⟨.inl rfl,.inr rfl⟩,h⟩
  ·exact ⟨y,x,hy,hx,⟨.inr rfl,.inl rfl⟩,h⟩
 simp only [zA,ex0,ex1]
 refine zWy ?_
 simp only [zA,zS]
 obtain ⟨z3,hz3⟩:=p1.hz
 refine (zMv (c:=c) p1.g p1.l f.ok hs hn hc hj hz hz3 p1.sl p1.ne).mono ?_
 rintro ⟨v2,m2⟩ ⟨hv2,f2,hz4⟩
 have p2:=p1.step f2 hz4
 obtain ⟨i2,j2,hi2,hij2,rfl⟩:∃ i2 j2:Nat,i2<d.size/\(i2=j\/i2=z)/\v2=.tuple #[.int .i64 (i2:Int),.int .i64 (j2:Int)]:=by
  rcases hv2 with h|h
  ·exact ⟨j,z,hj,.inl rfl,h⟩
  ·exact ⟨z,j,hz,.inr rfl,h⟩
 simp only [zA,ex0,ex1]
 refine zWx ?_
 simp only [zA,zS]
 obtain ⟨z5,hz5⟩:=p2.hz
 refine (zMv (c:=c) p2.g p2.l f2.ok hs hn hc hi hi2 hz5 p2.sl p2.ne).mono ?_
 rintro ⟨v3,m3⟩ ⟨hv3,f3,hz6⟩
 have p3:=p2.step f3 hz6
 obtain ⟨i3,j3,hij3,rfl⟩:∃ i3 j3:Nat,(j3=i\/j3=i2)/\v3=.tuple #[.int .i64 (i3:Int),.int .i64 (j3:Int)]:=by
  rcases hv3 with h|h
  ·exact ⟨i,i2,.inr rfl,h⟩
  ·exact ⟨i2,i,.inl rfl,h⟩
 simp only [zA,ex0,ex1]
 refine zWw ?_
 try simp only [zA]
 rw [zAJ]
 refine ⟨zT ▸ trivial,⟨j3,rfl,?_⟩,p3.fx,p3.hz⟩
 omega
theorem zMx {sw:Nat} {k0:AH} (p:PV b ty es d sw k0 k) (hok:k.ok) {n:Nat} (hs:d.size=n) (hn:d.size<=1000000) (hc:zCJ cf cm) {x:Nat} (hx0:1<=x) (hx:x+1<d.size) :
  Ev true ((zW E).call 195 [sl b n c,.int .i64 (x:Int),ptr sw,cf] k) fun r=>(∃ q:Nat,r.1=.int .i64 (q:Int)/\x-1<=q/\q<=x+1)/\PV b ty es d sw k r.2:=by
 obtain ⟨z0,hz0⟩:=p.hz
 refine (swCall (Q:=fun v=>∃ q:Nat,v=.int .i64 (q:Int)/\x-1<=q/\q<=x+1) hz0 hok zfG zae (zfF _ _) (by kernel_rfl) (F195_ev (Rp:=fun v m=>(∃ q:Nat,v=.int .i64 (q:Int)/\x-1<=q/\q<=x+1)/\Fx (fun c=>c=sw) k.fresh m/\∃ z,m.get sw=some (.row [.int .i64 z] 3 0 false)) (zW2 ?_))).mono ?_
 rotate_left
 ·rintro ⟨v,m⟩ ⟨hq,f,hz⟩
  exact ⟨hq,(PV.start hok p.g p.l p.hz p.sl p.ne).step f hz⟩
 try simp only [zA]
 refine zW1 ?_
 simp only [zA,zS,zBg hx0 (show x<=9223372036854775807 by omega),zBG (show x+1<=9223372036854775807 by omega)]
 refine (zTM (c:=c) p.fresh (zAT k) hs hn hc (x:=x-1) (y:=x) (z:=x+1) (by omega) (by omega) hx).mono ?_
 rintro ⟨v,m⟩ ⟨⟨q,hq,hq2⟩,p1⟩
 simp only at hq
 subst hq
 try simp only [zA]
 rw [zAJ]
 exact ⟨zT ▸ trivial,⟨q,rfl,by omega,by omega⟩,p1.fx,p1.hz⟩
end
end Go.Proofs
