import Derived.Test.YthmnhjcmefjgjaaGreatDoorXAP
import Derived.Test.YthmnhjcmefjgjaaGreatDoorXAF
set_option linter.all false
set_option linter.unusedSectionVars false
set_option autoImplicit true
set_option relaxedAutoImplicit true
namespace Go.Proofs
open Go Go.AM
set_option maxRecDepth 100000
set_option maxHeartbeats 1000000
theorem bf_subw (t:TypeId) (a b:Int):zE E .sub t (.int .i64 a) (.int .i64 b)=some (.int .i64 (zB5 .i64 (a-b))):=rfl
def zAG (x:Value):Prop:=∃ b:Bool,x=.bool b
abbrev KB (k:AH) (rs:List ResultVar) (Rp:Value->Prop):KF:=KR E rs (fun x m=>(zg x=true/\Rp x)/\k.next<=m.wm)
def SpecB (f:FuncId) (h0:AH) (kk nn:Int) (v:Value):Prop:=∀ k,Ext h0 k->∃ b:Bool,(zV E).call f [.agg #[.int .i64 kk,.int .i64 nn,v]] k=some [(.bool b,k)]
mutual
theorem spec230 {h0:AH}:∀ {v:Value} {l:List GT},RT h0 v l->∀ (kk nn:Int),SpecB 230 h0 kk nn v
 | v,l,.mk (els:=els) ha hn hc,kk,nn=>by
  intro k hk
  have hrt:RT h0 v l:=.mk ha hn hc
  have hch:=specs230 hc
  have hlen:=RC.length hc
  obtain ⟨sa,sc,rfl⟩:=hrt.slice
  have key:∃ x,zAG x/\(zV E).call 230 [.agg #[.int .i64 kk,.int .i64 nn,.slice sa l.length sc]] k=some [(x,k)]:=by
   refine F230_flatE hk.ok (P230_0_of ?_)
   obtain ⟨k1,e1,n1,t1,o1,f1⟩:=nwF k (.row [.int .i64 kk,.int .i64 nn,.slice sa l.length sc] 173 0 false)
   simp only [ze,zL,zS,zA,e1,zb]
   have l0:=zD (P:=E) zAS (o:=0) t1
   have l1:=zD (P:=E) zAS (o:=1) t1
   have l2:=zD (P:=E) zC2 (o:=2) t1
   simp only [lnth] at l0 l1 l2
   have ex:=hk.trans o1.ext
   have no:P230_2 true (KB k [.tmp 2] zAG) k1:=P230_2_of (by simp only [zA,zAN,zX,true_and];exact ⟨⟨rfl,_,rfl⟩,o1.wm⟩)
   have no':P230_7 true (KB k [.tmp 2] zAG) k1:=P230_7_of (by simp only [zA,zAN,zX,true_and];exact ⟨⟨rfl,_,rfl⟩,o1.wm⟩)
   have yes':P230_9 true (KB k [.tmp 2] zAG) k1:=P230_9_of (by simp only [zA,zAN,zX,true_and];exact ⟨⟨rfl,_,rfl⟩,o1.wm⟩)
   have loop:∀ (m i:Nat),i+m=l.length->P230_4 true (KB k [.tmp 2] zAG) (.pointer (some ⟨k.next,0,none⟩)) (.int .i64 (i:Int)) k1:=by
    intro m
    induction m with
    | zero=>
     intro i hi
     refine P230_4_of ?_
     simp only [zAW,Nat.zero_add,l2,zA,len230_4_3,zd,show decide ((i:Int)<(l.length:Int))=false from decide_eq_false (by omega),zAE]
     exact yes'
    | succ m ih=>
     intro i hi
     refine P230_4_of ?_
     simp only [zAW,Nat.zero_add,l2,zA,len230_4_3,zd,show decide ((i:Int)<(l.length:Int))=true from decide_eq_true (by omega),zAK]
     refine P230_5_of ?_
     obtain ⟨x,hx⟩:∃ x,els[i]?=some x:=⟨_,List.getElem?_eq_getElem (by omega)⟩
     obtain ⟨p1,q1,w1⟩:=idx34 ha ex hx
     obtain ⟨ck,cn,cv,rfl,hs⟩:=hch i x hx
     obtain ⟨b,hb⟩:=hs k1 ex
     simp only [zAW,Nat.zero_add,l2,zA,q1,w1,zZ,hb,zO]
     refine P230_6_of ?_
     simp only [zA,zz]
     cases b with
     | false=>simp only [Bool.not_false,zAK];exact no'
     | true=>
      simp only [Bool.not_true,zAE]
      refine P230_8_of ?_
      simp only [zA,zAJ _ (add1 (show i<l.length by omega) (by omega))]
      exact ih (i+1) (by omega)
   have yes:P230_3 true (KB k [.tmp 2] zAG) (.pointer (some ⟨k.next,0,none⟩)) k1:=P230_3_of (by simp only [zA];exact loop l.length 0 (by omega))
   refine P230_1_of ?_
   by_cases h1:kk=2 <;> by_cases h2:nn<0 <;> by_cases h3:255<nn <;> by_cases h4:(8:Int)<(l.length:Int) <;>
    simp only [fa_173_0,fa_173_1,zAW,Nat.zero_add,Nat.add_zero,l0,l1,l2,zA,len230_1_16,zBY,zd,zAM,h1,h2,h3,h4,decide_true,decide_false,Bool.not_true,Bool.not_false,zM,beq_self_eq_true,show (true==false)=false from rfl,show (false==true)=false from rfl,cond_true,cond_false,zK,zAK,zAE] <;> first|exact no|exact yes
  obtain ⟨x,⟨b,rfl⟩,hx⟩:=key
  exact ⟨b,hx⟩
theorem specs230 {h0:AH}:∀ {els:List (List Value)} {ts:List GT},RC h0 els ts->∀ (i:Nat) (e:List Value),els[i]?=some e->
  ∃ (k n:Int) (v:Value),e=[.int .i64 k,.int .i64 n,v]/\SpecB 230 h0 k n v
 | _,_,.nil,i,e,h=>by simp at h
 | _,_,.cons hv hs,0,e,h=>by simp at h;exact ⟨_,_,_,h.symm,spec230 hv _ _⟩
 | _,_,.cons hv hs,i+1,e,h=>by
  simp only [List.getElem?_cons_succ] at h
  exact specs230 hs i e h
end
mutual
theorem spec281 {h0:AH}:∀ {v:Value} {l:List GT},RT h0 v l->∀ (kk nn:Int),SpecB 281 h0 kk nn v
 | v,l,.mk (els:=els) ha hn hc,kk,nn=>by
  intro k hk
  have hrt:RT h0 v l:=.mk ha hn hc
  have hch:=specs281 hc
  have hlen:=RC.length hc
  obtain ⟨sa,sc,rfl⟩:=hrt.slice
  have key:∃ x,zAG x/\(zV E).call 281 [.agg #[.int .i64 kk,.int .i64 nn,.slice sa l.length sc]] k=some [(x,k)]:=by
   refine F281_flatE hk.ok (P281_0_of ?_)
   obtain ⟨k1,e1,n1,t1,o1,f1⟩:=nwF k (.row [.int .i64 kk,.int .i64 nn,.slice sa l.length sc] 173 0 false)
   simp only [ze,zL,zS,zA,e1,zb]
   have l0:=zD (P:=E) zAS (o:=0) t1
   have l1:=zD (P:=E) zAS (o:=1) t1
   have l2:=zD (P:=E) zC2 (o:=2) t1
   simp only [lnth] at l0 l1 l2
   have ex:=hk.trans o1.ext
   have no:P281_2 true (KB k [.tmp 2] zAG) k1:=P281_2_of (by simp only [zA,zAN,zX,true_and];exact ⟨⟨rfl,_,rfl⟩,o1.wm⟩)
   have no':P281_6 true (KB k [.tmp 2] zAG) k1:=P281_6_of (by simp only [zA,zAN,zX,true_and];exact ⟨⟨rfl,_,rfl⟩,o1.wm⟩)
   have yes':P281_8 true (KB k [.tmp 2] zAG) k1:=P281_8_of (by simp only [zA,zAN,zX,true_and];exact ⟨⟨rfl,_,rfl⟩,o1.wm⟩)
   have loop:∀ (m i:Nat),i+m=l.length->P281_4 true (KB k [.tmp 2] zAG) (.pointer (some ⟨k.next,0,none⟩)) (.int .i64 (i:Int)) k1:=by
    intro m
    induction m with
    | zero=>
     intro i hi
     refine P281_4_of ?_
     simp only [zAW,Nat.zero_add,l2,zA,len281_4_3,zd,show decide ((i:Int)<(l.length:Int))=false from decide_eq_false (by omega),zAE]
     exact yes'
    | succ m ih=>
     intro i hi
     refine P281_4_of ?_
     simp only [zAW,Nat.zero_add,l2,zA,len281_4_3,zd,show decide ((i:Int)<(l.length:Int))=true from decide_eq_true (by omega),zAK]
     refine P281_5_of ?_
     obtain ⟨x,hx⟩:∃ x,els[i]?=some x:=⟨_,List.getElem?_eq_getElem (by omega)⟩
     obtain ⟨p1,q1,w1⟩:=idx34 ha ex hx
     obtain ⟨ck,cn,cv,rfl,hs⟩:=hch i x hx
     obtain ⟨b,hb⟩:=hs k1 ex
     simp only [zAW,Nat.zero_add,l2,zA,q1,w1,zZ,hb,zO,zz]
     cases b with
     | false=>simp only [Bool.not_false,zAK];exact no'
     | true=>
      simp only [Bool.not_true,zAE]
      refine P281_7_of ?_
      simp only [zA,zAJ _ (add1 (show i<l.length by omega) (by omega))]
      exact ih (i+1) (by omega)
   have yes:P281_3 true (KB k [.tmp 2] zAG) (.pointer (some ⟨k.next,0,none⟩)) k1:=P281_3_of (by simp only [zA];exact loop l.length 0 (by omega))
   refine P281_1_of ?_
   cases h1:decide (nn<0) <;> cases h2:decide (kk=1) <;> cases h3:decide (kk=2) <;> cases h4:decide ((0:Int)<(l.length:Int)) <;> cases h5:decide ((8:Int)<(l.length:Int)) <;>
    simp only [fa_173_0,fa_173_1,zAW,Nat.zero_add,Nat.add_zero,l0,l1,l2,zA,len281_1_20,len281_1_27,zBY,zAU,zd,zAM,h1,h2,h3,h4,h5,decide_true,decide_false,Bool.not_true,Bool.not_false,zM,zn,beq_self_eq_true,show (true==false)=false from rfl,show (false==true)=false from rfl,cond_true,cond_false,zK,zAK,zAE] <;> first|exact no|exact yes
  obtain ⟨x,⟨b,rfl⟩,hx⟩:=key
  exact ⟨b,hx⟩
theorem specs281 {h0:AH}:∀ {els:List (List Value)} {ts:List GT},RC h0 els ts->∀ (i:Nat) (e:List Value),els[i]?=some e->
  ∃ (k n:Int) (v:Value),e=[.int .i64 k,.int .i64 n,v]/\SpecB 281 h0 k n v
 | _,_,.nil,i,e,h=>by simp at h
 | _,_,.cons hv hs,0,e,h=>by simp at h;exact ⟨_,_,_,h.symm,spec281 hv _ _⟩
 | _,_,.cons hv hs,i+1,e,h=>by
  simp only [List.getElem?_cons_succ] at h
  exact specs281 hs i e h
end
def CntOut (x:Value):Prop:=∃ (n:Int) (b:Bool),x=.tuple #[.int .i64 n,.bool b]
def SpecC (h0:AH) (kk nn:Int) (v:Value):Prop:=∀ k (a d:Int),Ext h0 k->∃ (n:Int) (b:Bool),(zV E).call 280 [.agg #[.int .i64 kk,.int .i64 nn,v],.int .i64 a,.int .i64 d] k=some [(.tuple #[.int .i64 n,.bool b],k)]
mutual
theorem spec280 {h0:AH}:∀ {v:Value} {l:List GT},RT h0 v l->∀ (kk nn:Int),SpecC h0 kk nn v
 | v,l,.mk (els:=els) ha hn hc,kk,nn=>by
  intro k a d hk
  have hrt:RT h0 v l:=.mk ha hn hc
  have hch:=specs280 hc
  have hlen:=RC.length hc
  obtain ⟨sa,sc,rfl⟩:=hrt.slice
  have key:∃ x,CntOut x/\(zV E).call 280 [.agg #[.int .i64 kk,.int .i64 nn,.slice sa l.length sc],.int .i64 a,.int .i64 d] k=some [(x,k)]:=by
   refine F280_flatE hk.ok (P280_0_of ?_)
   obtain ⟨k1,e1,n1,t1,o1,f1⟩:=nwF k (.row [.int .i64 kk,.int .i64 nn,.slice sa l.length sc] 173 0 false)
   simp only [ze,zL,zS,zA,e1,zb]
   have l2:=zD (P:=E) zC2 (o:=2) t1
   simp only [lnth] at l2
   have ex:=hk.trans o1.ext
   have no:∀ n,P280_3 true (KB k [.tmp 4,.tmp 5] CntOut) (.int .i64 n) k1:=fun n=>P280_3_of (by simp only [zA,kR_2,zX,true_and];exact ⟨⟨rfl,_,_,rfl⟩,o1.wm⟩)
   have no':∀ n,P280_9 true (KB k [.tmp 4,.tmp 5] CntOut) (.int .i64 n) k1:=fun n=>P280_9_of (by simp only [zA,kR_2,zX,true_and];exact ⟨⟨rfl,_,_,rfl⟩,o1.wm⟩)
   have yes':∀ n,P280_11 true (KB k [.tmp 4,.tmp 5] CntOut) (.int .i64 n) k1:=fun n=>P280_11_of (by simp only [zA,kR_2,zX,true_and];exact ⟨⟨rfl,_,_,rfl⟩,o1.wm⟩)
   have loop:∀ (m i:Nat),i+m=l.length->∀ n:Int,P280_5 true (KB k [.tmp 4,.tmp 5] CntOut) (.int .i64 n) (.int .i64 d) (.pointer (some ⟨k.next,0,none⟩)) (.int .i64 (i:Int)) k1:=by
    intro m
    induction m with
    | zero=>
     intro i hi n
     refine P280_5_of ?_
     simp only [zAW,Nat.zero_add,l2,zA,len280_5_3,zd,show decide ((i:Int)<(l.length:Int))=false from decide_eq_false (by omega),zAE]
     exact yes' n
    | succ m ih=>
     intro i hi n
     refine P280_5_of ?_
     simp only [zAW,Nat.zero_add,l2,zA,len280_5_3,zd,show decide ((i:Int)<(l.length:Int))=true from decide_eq_true (by omega),zAK]
     refine P280_6_of ?_
     obtain ⟨x,hx⟩:∃ x,els[i]?=some x:=⟨_,List.getElem?_eq_getElem (by omega)⟩
     obtain ⟨p1,q1,w1⟩:=idx34 ha ex hx
     obtain ⟨ck,cn,cv,rfl,hs⟩:=hch i x hx
     obtain ⟨n2,b,hb⟩:=hs k1 n (zB5 .i64 (d+1)) ex
     simp only [zAW,Nat.zero_add,l2,zA,q1,w1,bf_addw,zZ,hb,zO,zAH,lnth]
     refine P280_7_of ?_
     simp only [zA]
     refine P280_8_of ?_
     simp only [zA,zz]
     cases b with
     | false=>simp only [Bool.not_false,zAK];exact no' n2
     | true=>
      simp only [Bool.not_true,zAE]
      refine P280_10_of ?_
      simp only [zA,zAJ _ (add1 (show i<l.length by omega) (by omega))]
      exact ih (i+1) (by omega) n2
   refine P280_1_of ?_
   simp only [zA,bf_subw]
   refine P280_2_of ?_
   have yes:P280_4 true (KB k [.tmp 4,.tmp 5] CntOut) (.int .i64 (zB5 .i64 (a-1))) (.int .i64 d) (.pointer (some ⟨k.next,0,none⟩)) k1:=P280_4_of (by simp only [zA];exact loop l.length 0 (by omega) _)
   by_cases h1:zB5 .i64 (a-1)<0 <;> by_cases h2:200<d <;>
    simp only [zA,zd,zAM,h1,h2,decide_true,decide_false,zM,beq_self_eq_true,show (true==false)=false from rfl,show (false==true)=false from rfl,cond_true,cond_false,zK,zAK,zAE] <;> first|exact no _|exact yes
  obtain ⟨x,⟨n,b,rfl⟩,hx⟩:=key
  exact ⟨n,b,hx⟩
theorem specs280 {h0:AH}:∀ {els:List (List Value)} {ts:List GT},RC h0 els ts->∀ (i:Nat) (e:List Value),els[i]?=some e->
  ∃ (k n:Int) (v:Value),e=[.int .i64 k,.int .i64 n,v]/\SpecC h0 k n v
 | _,_,.nil,i,e,h=>by simp at h
 | _,_,.cons hv hs,0,e,h=>by simp at h;exact ⟨_,_,_,h.symm,spec280 hv _ _⟩
 | _,_,.cons hv hs,i+1,e,h=>by
  simp only [List.getElem?_cons_succ] at h
  exact specs280 hs i e h
end
theorem call264 {h0 k:AH} {v:Value} {l:List GT} (hr:RT h0 v l) (hk:Ext h0 k) (kk nn:Int):∃ x,zAG x/\(zV E).call 264 [.agg ⟨[.int .i64 kk,.int .i64 nn,v]⟩] k=some [(x,k)]:=by
 refine F264_flatE hk.ok (P264_0_of ?_)
 obtain ⟨k1,e1,n1,t1,o1,f1⟩:=nwF k (.row [.int .i64 kk,.int .i64 nn,v] 173 0 false)
 simp only [ze,zL,zS,zA,e1,zb]
 have a1:=zW (P:=E) zBq (o:=0) t1 (by simp)
 simp only [List.drop_zero,List.take] at a1
 have ex:=hk.trans o1.ext
 obtain ⟨n,b,hb⟩:=spec280 hr kk nn k1 2000 1 ex
 obtain ⟨c,hc⟩:=spec281 hr kk nn k1 ex
 refine P264_1_of ?_
 simp only [a1,zA,zZ,hb,zO,zAH,lnth]
 refine P264_2_of ?_
 cases b with
 | true=>simp only [a1,zA,zM,zY,beq_self_eq_true,cond_true,zZ,hc,zO,zK,zAN,zX,true_and];exact ⟨⟨rfl,_,rfl⟩,o1.wm⟩
 | false=>simp only [a1,zA,zM,zY,show (false==true)=false from rfl,cond_false,zL,zK,zAN,zX,true_and];exact ⟨⟨rfl,_,rfl⟩,o1.wm⟩
theorem call231 {h0 k:AH} {v:Value} {l:List GT} (hr:RT h0 v l) (hk:Ext h0 k) (kk nn:Int):∃ x,(∃ n:Int,x=.int .i64 n)/\(zV E).call 231 [.agg ⟨[.int .i64 kk,.int .i64 nn,v]⟩] k=some [(x,k)]:=by
 refine F231_flatE hk.ok (P231_0_of ?_)
 obtain ⟨k1,e1,n1,t1,o1,f1⟩:=nwF k (.row [.int .i64 kk,.int .i64 nn,v] 173 0 false)
 simp only [ze,zL,zS,zA,e1,zb]
 have a1:=zW (P:=E) zBq (o:=0) t1 (by simp)
 simp only [List.drop_zero,List.take] at a1
 obtain ⟨x,⟨b,rfl⟩,hb⟩:=call264 hr (hk.trans o1.ext) kk nn
 refine P231_1_of ?_
 simp only [a1,zA,zZ,hb,zO,zz]
 cases b with
 | true=>simp only [Bool.not_true,zAE];refine P231_3_of ?_;simp only [zA,zAN,zX,true_and];exact ⟨⟨rfl,_,rfl⟩,o1.wm⟩
 | false=>simp only [Bool.not_false,zAK];refine P231_2_of ?_;simp only [zA,zAN,zX,true_and];exact ⟨⟨rfl,_,rfl⟩,o1.wm⟩
theorem call187 {h0 k:AH} {v:Value} {l:List GT} (hr:RT h0 v l) (hk:Ext h0 k) (kk nn:Int):∃ x,zAG x/\(zV E).call 187 [.agg ⟨[.int .i64 kk,.int .i64 nn,v]⟩] k=some [(x,k)]:=by
 refine F187_flatE hk.ok (P187_0_of ?_)
 obtain ⟨k1,e1,n1,t1,o1,f1⟩:=nwF k (.row [.int .i64 kk,.int .i64 nn,v] 173 0 false)
 simp only [ze,zL,zS,zA,e1,zb]
 have a1:=zW (P:=E) zBq (o:=0) t1 (by simp)
 simp only [List.drop_zero,List.take] at a1
 have ex:=hk.trans o1.ext
 obtain ⟨b,hb⟩:=spec230 hr kk nn k1 ex
 obtain ⟨x,⟨n,rfl⟩,hc⟩:=call231 hr ex kk nn
 refine P187_1_of ?_
 simp only [a1,zA,zZ,hb,zO]
 cases b with
 | true=>simp only [a1,zA,zM,zY,beq_self_eq_true,cond_true,zZ,hc,zO,zAU,zK,zAN,zX,true_and];exact ⟨⟨rfl,_,rfl⟩,o1.wm⟩
 | false=>simp only [a1,zA,zM,zY,show (false==true)=false from rfl,cond_false,zL,zK,zAN,zX,true_and];exact ⟨⟨rfl,_,rfl⟩,o1.wm⟩
end Go.Proofs
namespace Go.Proofs
open Go Go.AM
set_option maxRecDepth 100000
set_option maxHeartbeats 2000000
theorem nwUp {k l:AH} (o:Own k l) (x y:AObj):∃ m,(l.new x).upd l.next (some y)=m/\m.next=l.next+1/\m.get l.next=some y/\Own k m/\∀ b,b<l.next->m.get b=l.get b:=
 ⟨_,rfl,rfl,zR _ _ _,(o.new x).upd o.ext.next _,fun b hb=>by rw [zQ (by omega),zI (by omega)]⟩
theorem call138 {h0 k:AH} {g:Int} {v:Value} {l:List GT} (hr:RT h0 v l) (hk:Ext h0 k):∃ x,zAG x/\(zV E).call 138 [.agg ⟨[.int .i64 g,v]⟩] k=some [(x,k)]:=by
 have hs:=hr.slice
 cases hr with
 | @mk _ els _ ha hn hc=>
 have hlen:=RC.length hc
 obtain ⟨sa,sc,rfl⟩:=hs
 refine F138_flatE hk.ok (P138_0_of ?_)
 obtain ⟨k1,e1,n1,t1,o1,f1⟩:=nwF k (.row [.int .i64 g,.slice sa l.length sc] 36 0 false)
 simp only [ze,zL,zS,zA,e1,zb]
 have l0:=zD (P:=E) zAS (o:=0) t1
 have l1:=zD (P:=E) zC2 (o:=1) t1
 simp only [lnth] at l0 l1
 have ex:=hk.trans o1.ext
 have no:P138_2 true (KB k [.tmp 2] zAG) k1:=P138_2_of (by simp only [zA,zAN,zX,true_and];exact ⟨⟨rfl,_,rfl⟩,o1.wm⟩)
 have no4:P138_4 true (KB k [.tmp 2] zAG) k1:=P138_4_of (by simp only [zA,zAN,zX,true_and];exact ⟨⟨rfl,_,rfl⟩,o1.wm⟩)
 have no9:P138_9 true (KB k [.tmp 2] zAG) k1:=P138_9_of (by simp only [zA,zAN,zX,true_and];exact ⟨⟨rfl,_,rfl⟩,o1.wm⟩)
 have yes:P138_11 true (KB k [.tmp 2] zAG) k1:=P138_11_of (by simp only [zA,zAN,zX,true_and];exact ⟨⟨rfl,_,rfl⟩,o1.wm⟩)
 have loop:∀ (m i:Nat),i+m=l.length->P138_6 true (KB k [.tmp 2] zAG) (.pointer (some ⟨k.next,0,none⟩)) (.int .i64 (i:Int)) k1:=by
  intro m
  induction m with
  | zero=>
   intro i hi
   refine P138_6_of ?_
   simp only [zBh,Nat.zero_add,l1,zA,len138_6_3,zd,show decide ((i:Int)<(l.length:Int))=false from decide_eq_false (by omega),zAE]
   exact yes
  | succ m ih=>
   intro i hi
   refine P138_6_of ?_
   simp only [zBh,Nat.zero_add,l1,zA,len138_6_3,zd,show decide ((i:Int)<(l.length:Int))=true from decide_eq_true (by omega),zAK]
   refine P138_7_of ?_
   obtain ⟨x,hx⟩:∃ x,els[i]?=some x:=⟨_,List.getElem?_eq_getElem (by omega)⟩
   obtain ⟨p1,q1,w1⟩:=idx34 ha ex hx
   obtain ⟨ck,cn,cv,cl,rfl,hcr,_⟩:=RC.at hc i x hx
   obtain ⟨y,⟨b,rfl⟩,hb⟩:=call187 hcr ex ck cn
   simp only [zBh,Nat.zero_add,l1,zA,q1,w1,zZ,hb,zO]
   refine P138_8_of ?_
   simp only [zA,zz]
   cases b with
   | false=>simp only [Bool.not_false,zAK];exact no9
   | true=>
    simp only [Bool.not_true,zAE]
    refine P138_10_of ?_
    simp only [zA,zAJ _ (add1 (show i<l.length by omega) (by omega))]
    exact ih (i+1) (by omega)
 have go:P138_5 true (KB k [.tmp 2] zAG) (.pointer (some ⟨k.next,0,none⟩)) k1:=P138_5_of (by simp only [zA];exact loop l.length 0 (by omega))
 have mid:P138_3 true (KB k [.tmp 2] zAG) (.pointer (some ⟨k.next,0,none⟩)) k1:=by
  refine P138_3_of ?_
  cases h1:decide (g=-3) <;> cases h2:decide (g=-1) <;> cases h3:decide ((0:Int)<(l.length:Int)) <;>
   simp only [zA7,zBh,Nat.zero_add,Nat.add_zero,l0,l1,zA,len138_3_11,zAU,zAM,h1,h2,h3,zM,beq_self_eq_true,show (true==false)=false from rfl,show (false==true)=false from rfl,cond_true,cond_false,zK,zAK,zAE] <;> first|exact no4|exact go
 refine P138_1_of ?_
 cases h1:decide (g < -3) <;> cases h2:decide (31<g) <;> cases h3:decide ((8:Int)<(l.length:Int)) <;>
  simp only [zA7,zBh,Nat.zero_add,Nat.add_zero,l0,l1,zA,len138_1_11,zd,zAM,h1,h2,h3,zM,beq_self_eq_true,show (true==false)=false from rfl,show (false==true)=false from rfl,cond_true,cond_false,zK,zAK,zAE] <;> first|exact no|exact mid
theorem call139 {k:AH} {e f:Int×Int×Int} (hok:k.ok):∃ x,zAG x/\(zV E).call 139 [.agg ⟨zP e⟩,.agg ⟨zP f⟩] k=some [(x,k)]:=by
 refine F139_flatE hok (P139_0_of ?_)
 obtain ⟨k1,e1,n1,t1,o1,f1⟩:=nwF k (.row (zP e) 52 0 false)
 obtain ⟨k2,e2,n2,t2,o2,f2⟩:=nw o1 (.row (zP f) 52 0 false)
 simp only [ze,zL,zS,zA,e1,e2,zb]
 have g1:=(f2 k.next (by omega)).trans t1
 have l0:=zD (P:=E) zAS (o:=0) g1
 have l1:=zD (P:=E) zAS (o:=1) g1
 have l2:=zD (P:=E) zAS (o:=2) g1
 have m0:=zD (P:=E) zAS (o:=0) t2
 have m1:=zD (P:=E) zAS (o:=1) t2
 have m2:=zD (P:=E) zAS (o:=2) t2
 simp only [lnth,zP] at l0 l1 l2 m0 m1 m2
 refine P139_1_of ?_
 simp only [zDB,Nat.add_zero,l0,m0,zA,zBY,brK_n]
 refine ⟨fun _=>P139_2_of ?_,fun _=>P139_3_of ?_⟩
 ·simp only [zDB,Nat.add_zero,l0,m0,zA,zd,zAN,zX,true_and];exact ⟨⟨rfl,_,rfl⟩,o2.wm⟩
 simp only [zBW,Nat.zero_add,l1,m1,zA,zBY,brK_n]
 refine ⟨fun _=>P139_4_of ?_,fun _=>P139_5_of ?_⟩
 ·simp only [zBW,Nat.zero_add,l1,m1,zA,zd,zAN,zX,true_and];exact ⟨⟨rfl,_,rfl⟩,o2.wm⟩
 ·simp only [zA1,Nat.zero_add,l2,m2,zA,zd,zAN,zX,true_and];exact ⟨⟨rfl,_,rfl⟩,o2.wm⟩
theorem subN1 {i:Nat} (hi:0<i) (hn:i<=9223372036854775807):zE E .sub 3 (.int .i64 (i:Int)) (.int .i64 1)=some (.int .i64 ((i-1:Nat):Int)):=by
 rw [bf_sub _ (show in64 ((i:Int)-1) by unfold in64;omega)]
 congr 2;omega
theorem call85 {k:AH} {x:Value} {L:GL} (hok:k.ok) (hx:RL k x L):∃ y,zAG y/\(zV E).call 85 [x] k=some [(y,k)]:=by
 obtain ⟨vl,ve,els,rfl,x2,x3,x4⟩:=hx.ex
 refine F85_flatE hok (P85_0_of ?_)
 obtain ⟨k1,e1,n1,t1,o1,f1⟩:=nwF k (.row [.int .i64 L.n,vl,ve] 25 0 false)
 simp only [ze,zL,zS,zA,e1,zb]
 have l0:=zD (P:=E) zAS (o:=0) t1
 have l1:=zD (P:=E) ta_22 (o:=1) t1
 have l2:=zD (P:=E) ta_23 (o:=2) t1
 simp only [lnth] at l0 l1 l2
 have hL:=RLab.length x3
 obtain ⟨sa,sc,hvl⟩:=x2.slice
 obtain ⟨sb,sd,hve⟩:=x4.slice
 rw [List.length_map] at hve
 have no:P85_2 true (KB k [.tmp 2] zAG) k1:=P85_2_of (by simp only [zA,zAN,zX,true_and];exact ⟨⟨rfl,_,rfl⟩,o1.wm⟩)
 have no7:P85_7 true (KB k [.tmp 2] zAG) k1:=P85_7_of (by simp only [zA,zAN,zX,true_and];exact ⟨⟨rfl,_,rfl⟩,o1.wm⟩)
 have no9:P85_9 true (KB k [.tmp 2] zAG) k1:=P85_9_of (by simp only [zA,zAN,zX,true_and];exact ⟨⟨rfl,_,rfl⟩,o1.wm⟩)
 have eloop:L.eds.length<=100000->∀ (m i:Nat),i+m=L.eds.length->∀ l,Own k l->l.get k.next=some (.row [.int .i64 L.n,vl,ve] 25 0 false)->k.next<l.next->
   P85_12 true (KB k [.tmp 2] zAG) (.pointer (some ⟨k.next,0,none⟩)) (.int .i64 (i:Int)) l:=by
  intro hb m
  induction m with
  | zero=>
   intro i hi l ol tl hn
   have l2:=zD (P:=E) ta_23 (o:=2) tl
   simp only [lnth] at l2
   refine P85_12_of ?_
   rw [hve] at l2
   simp only [zBI,Nat.zero_add,l2,zA,len85_12_3,zd,show decide ((i:Int)<(L.eds.length:Int))=false from decide_eq_false (by omega),zAE]
   exact P85_19_of (by simp only [zA,zAN,zX,true_and];exact ⟨⟨rfl,_,rfl⟩,ol.wm⟩)
  | succ m ih=>
   intro i hi l ol tl hn
   have l2:=zD (P:=E) ta_23 (o:=2) tl
   simp only [lnth] at l2
   have hil:i<L.eds.length:=by omega
   obtain ⟨e,he⟩:∃ e,L.eds[i]?=some e:=⟨_,List.getElem?_eq_getElem hil⟩
   have hx':(L.eds.map zP)[i]?=some (zP e):=by rw [List.getElem?_map,he];rfl
   obtain ⟨p1,q1,w1⟩:=idx23 x4 ol.ext hx'
   refine P85_12_of ?_
   have l2':=l2
   rw [hve] at l2'
   simp only [zBI,Nat.zero_add,l2',zA,len85_12_3,zd,show decide ((i:Int)<(L.eds.length:Int))=true from decide_eq_true (by omega),zAK]
   refine P85_13_of ?_
   obtain ⟨l1',e3,n3,t3,o3,f3⟩:=nwUp ol (.row [.int .i64 0,.int .i64 0,.int .i64 0] 52 0 false) (.row (zP e) 52 0 false)
   simp only [zBI,Nat.zero_add,l2,zA,q1,w1,z_52,ze,zL,zS,box52,e3]
   have tl':=(f3 k.next hn).trans tl
   have a0:=zD (P:=E) zAS (o:=0) tl'
   have a1:=zD (P:=E) ta_22 (o:=1) tl'
   have a2:=zD (P:=E) ta_23 (o:=2) tl'
   have b0:=zD (P:=E) zAS (o:=0) t3
   have b1:=zD (P:=E) zAS (o:=1) t3
   have b2:=zD (P:=E) zAS (o:=2) t3
   simp only [lnth,zP] at a0 a1 a2 b0 b1 b2
   have next:P85_16 true (KB k [.tmp 2] zAG) (.pointer (some ⟨k.next,0,none⟩)) (.int .i64 (i:Int)) (.pointer (some ⟨l.next,0,none⟩)) l1':=by
    have on:P85_18 true (KB k [.tmp 2] zAG) (.pointer (some ⟨k.next,0,none⟩)) (.int .i64 (i:Int)) l1':=by
     refine P85_18_of ?_
     simp only [zA,zAJ _ (add1 hil (by omega))]
     exact ih (i+1) (by omega) l1' o3 tl' (by omega)
    refine P85_16_of ?_
    simp only [zA,zAM]
    by_cases h0:(0:Int)<(i:Int)
    ·obtain ⟨f,hf⟩:∃ f,L.eds[i-1]?=some f:=⟨_,List.getElem?_eq_getElem (by omega)⟩
     have hy':(L.eds.map zP)[i-1]?=some (zP f):=by rw [List.getElem?_map,hf];rfl
     obtain ⟨p2,q2,w2⟩:=idx23 x4 o3.ext hy'
     have ag:=zW (P:=E) ta_52 (o:=0) t3 (by simp [zP])
     rw [show ((zP e).drop 0).take 3=zP e from rfl] at ag
     obtain ⟨y,⟨b,rfl⟩,hc⟩:=call139 (e:=f) (f:=e) o3.ext.ok
     simp only [h0,decide_true,zM,zY,beq_self_eq_true,cond_true,zBI,Nat.zero_add,a2,zA,subN1 (show 0<i by omega) (by omega),q2,w2,ag,zZ,hc,zO,zz,zK]
     cases b with
     | true=>simp only [Bool.not_true,zAE];exact on
     | false=>simp only [Bool.not_false,zAK];exact P85_17_of (by simp only [zA,zAN,zX,true_and];exact ⟨⟨rfl,_,rfl⟩,o3.wm⟩)
    ·simp only [h0,decide_false,zM,zY,show (false==true)=false from rfl,cond_false,zA,zL,zK,zAE]
     exact on
   have no15:P85_15 true (KB k [.tmp 2] zAG) l1':=P85_15_of (by simp only [zA,zAN,zX,true_and];exact ⟨⟨rfl,_,rfl⟩,o3.wm⟩)
   refine P85_14_of ?_
   rw [hvl] at a1
   cases h1:decide (e.1<0) <;> cases h2:decide (L.n<=e.1) <;> cases h3:decide (e.2.2<0) <;> cases h4:decide (L.n<=e.2.2) <;> cases h5:decide (e.2.1<0) <;> cases h6:decide ((els.length:Int)<=e.2.1) <;>
    simp only [zB1,zAj,zDB,zBW,zA1,Nat.zero_add,Nat.add_zero,a0,a1,b0,b1,b2,zA,len85_14_32,zd,zA2,h1,h2,h3,h4,h5,h6,zM,beq_self_eq_true,show (true==false)=false from rfl,show (false==true)=false from rfl,cond_true,cond_false,zK,zAK,zAE] <;> first|exact no15|exact next
 have lloop:els.length<=4000->L.eds.length<=100000->∀ (m i:Nat),i+m=els.length->P85_4 true (KB k [.tmp 2] zAG) (.pointer (some ⟨k.next,0,none⟩)) (.int .i64 (i:Int)) k1:=by
  intro hb hb2 m
  induction m with
  | zero=>
   intro i hi
   refine P85_4_of ?_
   have l1':=l1
   rw [hvl] at l1'
   simp only [zAj,Nat.zero_add,l1',zA,len85_4_3,zd,show decide ((i:Int)<(els.length:Int))=false from decide_eq_false (by omega),zAE]
   refine P85_11_of ?_
   simp only [zA]
   exact eloop hb2 L.eds.length 0 (by omega) k1 o1 t1 (by omega)
  | succ m ih=>
   intro i hi
   have hil:i<els.length:=by omega
   obtain ⟨x,hx⟩:∃ x,els[i]?=some x:=⟨_,List.getElem?_eq_getElem hil⟩
   obtain ⟨p1,q1,w1⟩:=idx22 x2 o1.ext hx
   obtain ⟨g,v,l,rfl,hr,_⟩:=RLab.at x3 i x hx
   obtain ⟨y,⟨b,rfl⟩,hcl⟩:=call138 (g:=g) hr o1.ext
   refine P85_4_of ?_
   have l1':=l1
   rw [hvl] at l1'
   simp only [zAj,Nat.zero_add,l1',zA,len85_4_3,zd,show decide ((i:Int)<(els.length:Int))=true from decide_eq_true (by omega),zAK]
   refine P85_5_of ?_
   simp only [zAj,Nat.zero_add,l1,zA,q1,w1,zZ,hcl,zO]
   refine P85_6_of ?_
   simp only [zA,zz]
   have on:P85_10 true (KB k [.tmp 2] zAG) (.pointer (some ⟨k.next,0,none⟩)) (.int .i64 (i:Int)) k1:=by
    refine P85_10_of ?_
    simp only [zA,zAJ _ (add1 hil (by omega))]
    exact ih (i+1) (by omega)
   cases b with
   | false=>simp only [Bool.not_false,zAK];exact no7
   | true=>
    simp only [Bool.not_true,zAE]
    refine P85_8_of ?_
    simp only [zA,zAM]
    by_cases h0:(0:Int)<(i:Int)
    ·obtain ⟨z,hz⟩:∃ z,els[i-1]?=some z:=⟨_,List.getElem?_eq_getElem (by omega)⟩
     obtain ⟨p2,q2,w2⟩:=idx22 x2 o1.ext hz
     obtain ⟨g2,v2,l2',rfl,hr2,_⟩:=RLab.at x3 (i-1) z hz
     obtain ⟨y,⟨c,rfl,_⟩,hc⟩:=call88 (g:=g2) (g':=g) hr2 hr o1.ext
     simp only [h0,decide_true,zM,zY,beq_self_eq_true,cond_true,zAj,Nat.zero_add,l1,zA,subN1 (show 0<i by omega) (by omega),q1,w1,q2,w2,zZ,hc,zO,zA2,zK,zAL]
     exact ⟨fun _=>no9,fun _=>on⟩
    ·simp only [h0,decide_false,zM,zY,show (false==true)=false from rfl,cond_false,zA,zL,zK,zAE]
     exact on
 refine P85_1_of ?_
 have go:els.length<=4000->L.eds.length<=100000->P85_3 true (KB k [.tmp 2] zAG) (.pointer (some ⟨k.next,0,none⟩)) k1:=fun h1 h2=>P85_3_of (by simp only [zA];exact lloop h1 h2 els.length 0 (by omega))
 rw [hvl] at l1
 rw [hve] at l2
 cases h1:decide (L.n<1) <;> cases h2:decide (20000<L.n) <;> cases h3:decide ((4000:Int)<(els.length:Int)) <;> cases h4:decide ((100000:Int)<(L.eds.length:Int)) <;>
  simp only [zB1,zAj,zBI,Nat.zero_add,Nat.add_zero,l0,l1,l2,zA,len85_1_11,len85_1_17,zd,zAM,h1,h2,h3,h4,zM,beq_self_eq_true,show (true==false)=false from rfl,show (false==true)=false from rfl,cond_true,cond_false,zK,zAK,zAE] <;>
  first|exact no|exact go (by have:=of_decide_eq_false h3;omega) (by have:=of_decide_eq_false h4;omega)
theorem call23 {k:AH} {x:Value} {L:GL} (hok:k.ok) (hx:RL k x L):∃ n:Int,(zV E).call 23 [x] k=some [(.int .i64 n,k)]:=by
 obtain ⟨vl,ve,els,rfl,x2,x3,x4⟩:=id hx.ex
 have key:∃ y,(∃ n:Int,y=.int .i64 n)/\(zV E).call 23 [.agg #[.int .i64 L.n,vl,ve]] k=some [(y,k)]:=by
  refine F23_flatE hok (P23_0_of ?_)
  obtain ⟨k1,e1,n1,t1,o1,f1⟩:=nwF k (.row [.int .i64 L.n,vl,ve] 25 0 false)
  simp only [ze,zL,zS,zA,e1,zb]
  have a1:=zW (P:=E) ta_25 (o:=0) t1 (by simp)
  simp only [List.drop_zero,List.take] at a1
  obtain ⟨y,⟨b,rfl⟩,hb⟩:=call85 o1.ext.ok (hx.ext o1.ext)
  refine P23_1_of ?_
  simp only [a1,zA,zZ,hb,zO]
  refine P23_2_of ?_
  simp only [zA,zz]
  cases b with
  | true=>simp only [Bool.not_true,zAE];refine P23_4_of ?_;simp only [zA,zAN,zX,true_and];exact ⟨⟨rfl,_,rfl⟩,o1.wm⟩
  | false=>simp only [Bool.not_false,zAK];refine P23_3_of ?_;simp only [zA,zAN,zX,true_and];exact ⟨⟨rfl,_,rfl⟩,o1.wm⟩
 obtain ⟨y,⟨n,rfl⟩,h⟩:=key
 exact ⟨n,h⟩
abbrev Ed:=Int×Int×Int
def etc (S:List Ed):List Value:=(S.map zP).flatten
theorem eds_all (S:List Ed):∀ u∈S.map zP,u.length=3:=by
 intro u hu
 obtain ⟨e,_,rfl⟩:=List.mem_map.1 hu
 rfl
theorem etc_len (S:List Ed):(etc S).length=S.length*3:=by
 have:=flat_len (S.map zP) (eds_all S)
 rw [List.length_map] at this;exact this
def CellE (h:AH) (c:Value) (S:List Ed):Prop:=(c=.slice none 0 0/\S=[])\/∃ b,c=.slice (some ⟨b,0,none⟩) S.length (UNK+3)/\h.get b=some (.row (etc S) 52 3 false)/\b<h.next
structure LoL (loc:Nat) (h:AH) (bs:Nat) (cells:List Value) (EE:List (List Ed)):Prop where
 s:h.get bs=some (.row cells 23 0 false)
 len:cells.length=EE.length
 lts:bs<h.next
 locs:loc<=bs
 cell:∀ (i:Nat) (c:Value) (S:List Ed),cells[i]?=some c->EE[i]?=some S->CellE h c S
 blk:∀ (i:Nat) (c:Value) (b:Nat),cells[i]?=some c->zr c b->b≠bs/\loc<=b
 dis:∀ (i j:Nat) (c d:Value) (b:Nat),cells[i]?=some c->cells[j]?=some d->zr c b->zr d b->i=j
theorem CellE.lt {h:AH} {c:Value} {S:List Ed} (k:CellE h c S) {b:Nat} (hb:zr c b):b<h.next:=by
 obtain ⟨n,cap,rfl⟩:=hb
 rcases k with ⟨e,_⟩|⟨b',e,_,hlt⟩
 ·cases e
 ·simp only [Value.slice.injEq,Option.some.injEq,Addr.mk.injEq] at e
  rw [e.1.1];exact hlt
theorem CellE.fx {P:Nat->Prop} {h h':AH} {c:Value} {S:List Ed} (k:CellE h c S) (f:Fx P h h') (hn:∀ b,zr c b->¬ P b):CellE h' c S:=by
 rcases k with e|⟨b,e,hg,hlt⟩
 ·exact .inl e
 ·exact .inr ⟨b,e,(f.get b hlt (hn b ⟨_,_,e⟩)).trans hg,Nat.lt_of_lt_of_le hlt f.next⟩
theorem CellE.leaf {h:AH} {c:Value} {S:List Ed} (k:CellE h c S):zp c=true/\zi c=[c]/\veq 100 c c=true:=by
 rcases k with ⟨rfl,_⟩|⟨b,rfl,_⟩ <;> exact ⟨rfl,rfl,zCJ _ _ _ _⟩
theorem CellE.arr {h:AH} {c:Value} {S:List Ed} (k:CellE h c S):Arr h 3 c (S.map zP):=by
 rcases k with ⟨rfl,rfl⟩|⟨b,rfl,hg,hlt⟩
 ·exact .nil _ _
 ·have:=Arr.row (z:=3) (c:=UNK+3) (o:=0) (els:=S.map zP) hg hlt (by rw [etc_len,List.length_map];omega) (fun i e he=>⟨eds_all S e (List.mem_of_getElem? he),by rw [Nat.zero_add];exact flat_get _ (eds_all S) i e he⟩)
  rw [List.length_map] at this
  exact this
theorem LoL.fx {P:Nat->Prop} {loc bs:Nat} {h h':AH} {cells:List Value} {EE:List (List Ed)} (G:LoL loc h bs cells EE) (f:Fx P h h') (h2:¬ P bs) (h3:∀ (i:Nat) (c:Value) (b:Nat),cells[i]?=some c->zr c b->¬ P b):LoL loc h' bs cells EE:=
 ⟨(f.get bs G.lts h2).trans G.s,G.len,Nat.lt_of_lt_of_le G.lts f.next,G.locs,fun i c S hc hS=>(G.cell i c S hc hS).fx f (fun b hb=>h3 i c b hc hb),G.blk,G.dis⟩
theorem LoL.same {loc bs:Nat} {h:AH} {cells:List Value} {EE:List (List Ed)} (G:LoL loc h bs cells EE) (w:Nat):LoL loc ⟨h.t,h.next,w⟩ bs cells EE:=
 ⟨G.s,G.len,G.lts,G.locs,fun i c S hc hS=>G.cell i c S hc hS,G.blk,G.dis⟩
theorem elt23:Elt 23 52 3:=elt_of elt_23 und_23 ta_52 (by kernel_rfl)
theorem mk49 {n:Nat} (hn:n<=1000000) {h:AH}:zAk E 49 (some (.int .i64 (n:Int))) (some (.int .i64 (n:Int))) h=one (.slice (some ⟨h.next,0,none⟩) n n,h.new (.row (List.replicate n (.slice none 0 0)) 23 0 false)):=
 mkSlice (by obtain ⟨i,a⟩:=ti_of ta_23 z_23 (by kernel_rfl);exact ⟨i,elt_49,a⟩) rfl hn
theorem bs23 {a b c:Value} {h:AH}:zh E 23 1 (some [(0,.agg #[a,b,c])]) h=one (.slice (some ⟨h.next,0,none⟩) 1 1,h.new (.row [a,b,c] 52 0 false)):=by kernel_rfl
theorem append_ed {h:AH} (hok:h.ok) {c:Value} {S:List Ed} (hc:CellE h c S) (hS:S.length+1<=1000000) (e:Ed) :
  ∃ h3,zAO E .append [23,23] (some [c,.slice (some ⟨h.next,0,none⟩) 1 1]) (h.new (.row (zP e) 52 0 false))=one (.slice (some ⟨h.next+1,0,none⟩) (S.length+1) (UNK+3),h3) ∧
   h3.get (h.next+1)=some (.row (etc (S++[e])) 52 3 false)/\h3.next=h.next+2/\Fx (fun x=>zr c x) h h3:=by
 have hrow:=zF h (.row (zP e) 52 0 false)
 have hst:etc (S++[e])=etc S++zP e:=by simp [etc]
 rcases hc with ⟨rfl,rfl⟩|⟨bl,rfl,hg,hlt⟩
 ·refine ⟨_,append_nil elt23 hrow rfl,?_,rfl,((Fx.refl hok).new _).new _⟩
  rw [hst]
  exact zF (h.new _) _
 ·have hg':(h.new (.row (zP e) 52 0 false)).get bl=some (.row (etc S) 52 3 false):=by rw [zI (by omega)];exact hg
  refine ⟨_,zC0 elt23 (by omega) hg' (etc_len S) hS hrow rfl (by simp [zP,zp]),?_,rfl,?_⟩
  ·rw [hst]
   exact zF ((h.new _).upd bl none) _
  ·have f1:Fx (fun x=>zr (.slice (some ⟨bl,0,none⟩) S.length (UNK+3)) x) h (h.new (.row (zP e) 52 0 false)):=(Fx.refl hok).new _
   exact (f1.upd (.inl ⟨_,_,rfl⟩) none).new _
def outGo:List (List Ed)->List Ed->List (List Ed)
 | EE,[]=>EE
 | EE,e::l=>outGo (EE.set e.1.toNat ((EE[e.1.toNat]?.getD [])++[e])) l
def outOf (L:GL):List (List Ed):=outGo (List.replicate L.n.toNat []) L.eds
theorem call24 {k:AH} {x:Value} {L:GL} (hok:k.ok) (hx:RL k x L) (hL:zAZ L=false) {N:Nat} (hN:L.n=(N:Int)) :
  Ev true ((zV E).call 24 [x] k) fun y=>∃ bs cells,y.1=.slice (some ⟨bs,0,none⟩) N N/\LoL k.next y.2 bs cells (outOf L)/\cells.length=N/\(∀ S∈outOf L,S.length<=100000)/\Fx NoB k y.2:=by
 obtain ⟨z1,z2,z3,z4⟩:=zBC hL
 obtain ⟨vl,ve,els,rfl,x2,x3,x4⟩:=hx.ex
 obtain ⟨sb,sd,hve⟩:=x4.slice
 rw [List.length_map] at hve
 refine F24_some (Rp:=fun v m=>∃ bs cells,v=.slice (some ⟨bs,0,none⟩) N N/\LoL k.next m bs cells (outOf L)/\cells.length=N/\(∀ S∈outOf L,S.length<=100000)/\Fx NoB k m) (P24_0_of ?_)
 obtain ⟨k1,e1,n1,t1,o1,f1⟩:=nwF k (.row [.int .i64 L.n,vl,ve] 25 0 false)
 simp only [ze,zL,zS,zA,e1,zb]
 have l0:=zD (P:=E) zAS (o:=0) t1
 simp only [lnth] at l0
 refine P24_1_of ?_
 obtain ⟨k2,e2,n2,t2,o2,f2⟩:=nw o1 (.row (List.replicate N (.slice none 0 0)) 23 0 false)
 simp only [zB1,Nat.add_zero,l0,zA,hN,mk49 (show N<=1000000 by omega),e2,zL]
 refine P24_2_of ?_
 simp only [zA]
 have hrep:∀ (i:Nat) (c:Value),(List.replicate N (Value.slice none 0 0))[i]?=some c->c=.slice none 0 0:=fun i c h=>by
  rw [List.getElem?_replicate] at h
  split at h
  ·exact (Option.some.inj h).symm
  ·cases h
 have hnb:∀ c,¬ zr (.slice none 0 0) c:=by rintro c ⟨n,cap,h⟩;cases h
 have G0:LoL k.next k2 k1.next (List.replicate N (.slice none 0 0)) (List.replicate N []):=
  ⟨t2,by simp,by omega,by omega,fun i c S hc hS=>.inl ⟨hrep i c hc,by rw [List.getElem?_replicate] at hS;split at hS <;> simp_all⟩,fun i c b hc hb=>absurd (by rw [hrep i c hc] at hb;exact hb) (hnb b),fun i j c d b hc hd hb _=>absurd (by rw [hrep i c hc] at hb;exact hb) (hnb b)⟩
 have loop:∀ (m j:Nat),j+m=L.eds.length->∀ kk cells EE,Own k kk->kk.get k.next=some (.row [.int .i64 L.n,vl,ve] 25 0 false)->k.next<k1.next->LoL k.next kk k1.next cells EE->(∀ (i:Nat) (c:Value) (b:Nat),cells[i]?=some c->zr c b->b≠k.next)->cells.length=N->(∀ S∈EE,S.length<=j)->outGo EE (L.eds.drop j)=outOf L->
   P24_3 true (KR E [.tmp 2] fun v m=>(zg v=false\/m.wm<k.next)/\(fun v m=>∃ bs cells,v=.slice (some ⟨bs,0,none⟩) N N/\LoL k.next m bs cells (outOf L)/\cells.length=N/\(∀ S∈outOf L,S.length<=100000)/\Fx NoB k m) v ⟨m.t,m.next,cond (Nat.ble k.wm m.wm) k.wm m.wm⟩) (.pointer (some ⟨k.next,0,none⟩)) (.slice (some ⟨k1.next,0,none⟩) N N) (.int .i64 (j:Int)) kk:=by
  intro m
  induction m with
  | zero=>
   intro j hj kk cells EE ho tb hb1 hG hnk hNc hlen hout
   have l2:=zD (P:=E) ta_23 (o:=2) tb
   simp only [lnth] at l2
   rw [hve] at l2
   refine P24_3_of ?_
   simp only [zBI,Nat.zero_add,l2,zA,len24_3_3,zd,show decide ((j:Int)<(L.eds.length:Int))=false from decide_eq_false (by omega),zAE]
   refine P24_7_of ?_
   simp only [zA,zAN,zX,true_and]
   have hO:EE=outOf L:=by rw [← hout,List.drop_eq_nil_of_le (show L.eds.length<=j by omega)];rfl
   subst hO
   refine ⟨.inl rfl,k1.next,cells,rfl,hG.same _,hNc,fun S hS=>by have:=hlen S hS;omega,?_⟩
   refine ⟨?_,ho.ext.next,fun c hc _=>ho.ext.get c hc,fun m h1 _ h3=>?_⟩
   ·show cond (Nat.ble k.wm kk.wm) k.wm kk.wm<=kk.next+UNK
    have:=ho.ext.ok
    unfold AH.ok at this
    cases hcc:Nat.ble k.wm kk.wm with
    | true=>rw [ble_true] at hcc;simp only [cond_true];omega
    | false=>exact this
   ·show m<=cond (Nat.ble k.wm kk.wm) k.wm kk.wm
    have:=ho.wm
    cases hcc:Nat.ble k.wm kk.wm with
    | true=>exact h1
    | false=>simp only [cond_false];omega
  | succ m ih=>
   intro j hj kk cells EE ho tb hb1 hG hnk hNc hlen hout
   have hjn:j<L.eds.length:=by omega
   have l2:=zD (P:=E) ta_23 (o:=2) tb
   simp only [lnth] at l2
   refine P24_3_of ?_
   have l2':=l2
   rw [hve] at l2'
   simp only [zBI,Nat.zero_add,l2',zA,len24_3_3,zd,show decide ((j:Int)<(L.eds.length:Int))=true from decide_eq_true (by omega),zAK]
   refine P24_4_of ?_
   have hate:L.eds[j]?=some L.eds[j]:=List.getElem?_eq_getElem hjn
   obtain ⟨⟨f1',f2'⟩,_,_⟩:=bad_edges hL hate
   rw [drop_at hate] at hout
   generalize hee:L.eds[j]=e at hout f1' f2'
   have hx':(L.eds.map zP)[j]?=some (zP e):=by rw [List.getElem?_map,hate,hee];rfl
   obtain ⟨p1,q1,w1⟩:=idx23 x4 ho.ext hx'
   obtain ⟨k3,e3,n3,t3,o3,f3⟩:=nwUp ho (.row [.int .i64 0,.int .i64 0,.int .i64 0] 52 0 false) (.row (zP e) 52 0 false)
   simp only [zBI,Nat.zero_add,l2,zA,q1,w1,z_52,ze,zL,zS,box52,e3]
   refine P24_5_of ?_
   have fb:Fx NoB kk k3:=⟨o3.ext.ok,by omega,fun c hc _=>f3 c hc,fun m h1 _ h3=>by
    rw [← e3]
    exact zx (show m<=(kk.new _).wm from h1) h3⟩
   have hG1:=hG.fx fb (fun h=>h) (fun _ _ _ _ _ h=>h)
   have hkn:=ho.ext.next
   have hk1k:=hG.lts
   obtain ⟨fr,hfr0⟩:=Int.eq_ofNat_of_zero_le f1'
   have hfr:fr<cells.length:=by omega
   have hfr':fr<EE.length:=by rw [← hG.len];exact hfr
   have hcell:cells[fr]?=some cells[fr]:=List.getElem?_eq_getElem hfr
   have hSS:EE[fr]?=some EE[fr]:=List.getElem?_eq_getElem hfr'
   have c0:=zD (P:=E) zAS (o:=0) t3
   have ag:=zW (P:=E) ta_52 (o:=0) t3 (by simp [zP])
   rw [show ((zP e).drop 0).take 3=zP e from rfl] at ag
   simp only [lnth,zP] at c0
   rw [hfr0] at c0
   have ls:=zD (P:=E) ta_23 (o:=0+fr*1) hG1.s
   rw [zAa,show 0+fr*1=fr by omega,hcell] at ls
   have ia1:=ia_49 (b:=k1.next) (o:=0) (c:=N) (len:=N) (k:=fr) (by omega)
   rw [show 0+fr*1=fr by omega] at ia1
   have hC:=hG1.cell fr _ _ hcell hSS
   obtain ⟨clf,cc1,cveq⟩:=hC.leaf
   have hSl:=hlen _ (List.getElem_mem hfr')
   obtain ⟨h3,r1,r2,r3,r4⟩:=append_ed o3.ext.ok hC (by omega) e
   have f2x:Fx NoB k3 (k3.new (.row (zP e) 52 0 false)):=(Fx.refl o3.ext.ok).new _
   have hG2:=hG1.fx f2x (fun h=>h) (fun _ _ _ _ _ h=>h)
   have tb2:(k3.new (.row (zP e) 52 0 false)).get kk.next=_:=(zI (by omega)).trans t3
   have d0:zG E 3 (k3.new (.row (zP e) 52 0 false)) (some (.pointer (some ⟨kk.next,0,none⟩)))=some (.int .i64 (fr:Int)):=by
    rw [zD (P:=E) zAS (o:=0) tb2]
    simp only [lnth,zP,hfr0]
   have ls2:=zD (P:=E) ta_23 (o:=0+fr*1) hG2.s
   rw [zAa,show 0+fr*1=fr by omega,hcell] at ls2
   have hcl:∀ x,zr cells[fr] x->x≠k1.next/\k.next<=x:=fun x hx=>hG1.blk fr _ x hcell hx
   have tb3:h3.get kk.next=some (.row (zP e) 52 0 false):=(r4.get kk.next (by omega) (fun hx=>by have:=(hG.cell fr _ _ hcell hSS).lt hx;omega)).trans t3
   have e0:=zD (P:=E) zAS (o:=0) tb3
   simp only [lnth,zP] at e0
   rw [hfr0] at e0
   have hs3:h3.get k1.next=_:=(r4.get k1.next hG1.lts (fun hx=>(hcl _ hx).1 rfl)).trans hG1.s
   have hsto:=z0 (P:=E) ts_23 (o:=fr) hs3 (zDH (some ⟨k3.next+1,0,none⟩) (EE[fr].length+1) (UNK+3)) rfl (by omega) rfl
   rw [lput_set _ _ _ hfr] at hsto
   have bs:zh E 23 1 (some [(0,.agg ⟨zP e⟩)]) k3=one (.slice (some ⟨k3.next,0,none⟩) 1 1,k3.new (.row (zP e) 52 0 false)):=bs23
   simp only [zA,zDB,Nat.add_zero,c0,ia1,ls,ag,bs,zL,ls2,d0,cveq,zCf,true_and,r1,e0,hsto]
   refine P24_6_of ?_
   simp only [zA,zAJ _ (add1 hjn (by omega))]
   have f5:Fx (fun c=>c=k1.next\/zr cells[fr] c) k3 (h3.upd k1.next (some (.row (cells.set fr (.slice (some ⟨k3.next+1,0,none⟩) (EE[fr].length+1) (UNK+3))) 23 0 false))):=
    (r4.mono (P':=fun c=>c=k1.next\/zr cells[fr] c) (fun c hc=>.inl (.inr hc))).upd (.inl (.inl rfl)) _
   have o5:=f5.own o3 (fun c hc=>hc.elim (fun h=>by rw [h];exact hG.locs) fun h=>(hcl c h).2)
   have hset:∀ (i:Nat) (c:Value),(cells.set fr (.slice (some ⟨k3.next+1,0,none⟩) (EE[fr].length+1) (UNK+3)))[i]?=some c->(i=fr/\c=.slice (some ⟨k3.next+1,0,none⟩) (EE[fr].length+1) (UNK+3))\/(i≠fr/\cells[i]?=some c):=by
    intro i c hc
    by_cases hi:i=fr
    ·subst hi
     rw [List.getElem?_set_self hfr] at hc
     exact .inl ⟨rfl,(Option.some.inj hc).symm⟩
    ·rw [List.getElem?_set_ne (fun h=>hi h.symm)] at hc
     exact .inr ⟨hi,hc⟩
   have hnew:∀ b,zr (.slice (some ⟨k3.next+1,0,none⟩) (EE[fr].length+1) (UNK+3)) b->b=k3.next+1:=by
    rintro b ⟨n,cap,h⟩
    simp only [Value.slice.injEq,Option.some.injEq,Addr.mk.injEq] at h
    exact h.1.1.symm
   have hltb:∀ (i:Nat) (c:Value) (b:Nat),cells[i]?=some c->zr c b->b<k3.next:=fun i c b hc hb=>by
    have hi:i<EE.length:=by rw [← hG.len];exact (List.getElem?_eq_some_iff.1 hc).1
    exact (hG1.cell i c _ hc (List.getElem?_eq_getElem hi)).lt hb
   refine ih (j+1) (by omega) _ (cells.set fr (.slice (some ⟨k3.next+1,0,none⟩) (EE[fr].length+1) (UNK+3))) (EE.set fr (EE[fr]++[e])) o5 ?_ hb1 ?_ ?_ (by simp [hNc]) ?_ ?_
   ·rw [zQ (by omega)]
    refine (r4.get k.next (by omega) (fun hx=>hnk fr _ _ hcell hx rfl)).trans ((f3 k.next (by omega)).trans tb)
   ·refine ⟨zR _ _ _,by simp [hG.len],?_,hG.locs,?_,?_,?_⟩
    ·show k1.next<h3.next;have:=hG1.lts;omega
    ·intro i c S hc hS
     rcases hset i c hc with ⟨rfl,rfl⟩|⟨hi,hc'⟩
     ·rw [List.getElem?_set_self hfr'] at hS
      cases hS
      refine .inr ⟨k3.next+1,by simp,?_,by show _<h3.next;omega⟩
      rw [zQ (by have:=hG1.lts;omega)];exact r2
     ·rw [List.getElem?_set_ne (fun h=>hi h.symm)] at hS
      refine (hG1.cell i c S hc' hS).fx f5 (fun b hb=>?_)
      rintro (rfl|hb2)
      ·exact (hG1.blk i c _ hc' hb).1 rfl
      ·exact hi (hG1.dis i fr _ _ b hc' hcell hb hb2)
    ·intro i c b hc hb
     rcases hset i c hc with ⟨rfl,rfl⟩|⟨hi,hc'⟩
     ·rw [hnew b hb];have:=hG1.lts;exact ⟨by omega,by omega⟩
     ·exact hG1.blk i c b hc' hb
    ·intro i j' c d b hc hd hb hb2
     rcases hset i c hc with ⟨hi,hc'⟩|⟨hi,hc'⟩ <;> rcases hset j' d hd with ⟨hj',hd'⟩|⟨hj',hd'⟩
     ·rw [hi,hj']
     ·subst hc'
      have:=hltb j' d b hd' hb2
      rw [hnew b hb] at this;omega
     ·subst hd'
      have:=hltb i c b hc' hb
      rw [hnew b hb2] at this;omega
     ·exact hG1.dis i j' c d b hc' hd' hb hb2
   ·intro i c b hc hb
    rcases hset i c hc with ⟨rfl,rfl⟩|⟨hi,hc'⟩
    ·rw [hnew b hb];omega
    ·exact hnk i c b hc' hb
   ·intro S hS
    rcases List.mem_or_eq_of_mem_set hS with h|h
    ·have:=hlen S h;omega
    ·rw [h];simp;exact hSl
   ·rw [← hout]
    simp only [outGo,hfr0]
    rw [show ((fr:Int)).toNat=fr from rfl,hSS]
    rfl
 refine loop L.eds.length 0 (by omega) k2 _ _ o2 ((f2 k.next (by omega)).trans t1) (by omega) G0 (fun i c b hc hb=>absurd (by rw [hrep i c hc] at hb;exact hb) (hnb b)) (by simp) (fun S hS=>by rw [List.eq_of_mem_replicate hS];simp) ?_
 rw [List.drop_zero]
 show _=outGo (List.replicate L.n.toNat []) L.eds
 rw [hN];rfl
abbrev i1 (n:Int):List Value:=[.int .i64 n]
theorem idx47 {h k:AH} {v:Value} {l:List Int} (ha:Arr h 1 v (l.map i1)) (e:Ext h k) {i:Nat} {n:Int} (hi:l[i]?=some n) :
  ∃ p,zH E 47 (some v) (some (.int .i64 (i:Int)))=some p/\zG E 3 k (some p)=some (.int .i64 n):=by
 have hx:(l.map i1)[i]?=some (i1 n):=by rw [List.getElem?_map,hi];rfl
 obtain ⟨b,o,c,vs,ty,es,ro,rfl,hb,hlt,hle,hz,hl⟩:=ha.load hx
 have hil:i<(l.map i1).length:=(List.getElem?_eq_some_iff.1 hx).1
 refine ⟨_,ia_47 hil,?_⟩
 rw [zD (P:=E) zAS ((e.get b hlt).trans hb),zAa]
 have:((vs.drop (o+i*1)).take 1)[0]?=some (.int .i64 n):=by rw [hz];rfl
 rw [List.getElem?_take_of_lt (by omega),List.getElem?_drop] at this
 simpa using this
theorem LS.arr {lo:Nat} {k:AH} {v:Value} {L:List Int} (h:LS lo k v L):Arr k 1 v (L.map i1):=by
 obtain ⟨b,c,rfl,h1,h2,h3⟩:=h
 have key:∀ es,k.get b=some (.row (ints L) 3 es false)->Arr k 1 (.slice (some ⟨b,0,none⟩) L.length c) (L.map i1):=by
  intro es hb
  have:=Arr.row (z:=1) (c:=c) (o:=0) (els:=L.map i1) hb h2 (by simp [ints]) (fun i e he=>by
   rw [List.getElem?_map] at he
   obtain ⟨n,hn,rfl⟩:=Option.map_eq_some_iff.1 he
   refine ⟨rfl,?_⟩
   have hil:i<L.length:=(List.getElem?_eq_some_iff.1 hn).1
   rw [show 0+i*1=i by omega,List.drop_eq_getElem_cons (by simpa [ints] using hil)]
   simp [ints,(List.getElem?_eq_some_iff.1 hn).2])
  rw [List.length_map] at this
  exact this
 rcases h3 with ⟨_,_,hb⟩|⟨_,hb⟩
 ·exact key _ hb
 ·exact key _ hb
theorem idx_in {α:Type} [DecidableEq α] (l:List α) (x:α):decide (0<=zt (fun i=>decide (l[i]?=some x)) l.length 0)=decide (x∈l):=by
 by_cases h:x∈l
 ·rw [decide_eq_true h,decide_eq_true]
  rcases Int.lt_or_le (zt (fun i=>decide (l[i]?=some x)) l.length 0) 0 with h'|h'
  ·have:=(zBe l.length 0).2 h'
   obtain ⟨i,hi⟩:=List.getElem?_of_mem h
   have h2:=this i (Nat.zero_le _) (by have:=(List.getElem?_eq_some_iff.1 hi).1;omega)
   simp [hi] at h2
  ·exact h'
 ·rw [decide_eq_false h,decide_eq_false]
  have:zt (fun i=>decide (l[i]?=some x)) l.length 0<0:=(zBe l.length 0).1 fun j _ _=>by
   refine decide_eq_false fun hj=>h (List.mem_of_getElem? hj)
  omega
theorem call87 {h0 k:AH} {v:Value} {l:List Int} {x:Int} (ha:Arr h0 1 v (l.map i1)) (hn:l.length<=9223372036854775807) (hk:Ext h0 k) :
  (zV E).call 87 [v,.int .i64 x] k=some [(.int .i64 (zt (fun i=>decide (l[i]?=some x)) l.length 0),k)]:=by
 obtain ⟨ad,c,hv⟩:=ha.slice
 rw [List.length_map] at hv
 refine F87_flat (s:=true) hk.ok rfl (P87_0_of ?_)
 simp only [zA]
 refine P87_1_of ?_
 have loop:∀ (m i:Nat),i+m=l.length->P87_2 true (KR E [.tmp 2] (fun y l'=>y=.int .i64 (zt (fun i=>decide (l[i]?=some x)) m i)/\k.next<=l'.wm)) v (.int .i64 x) (.int .i64 (l.length:Int)) (.int .i64 (i:Int)) k.fresh:=by
  intro m
  induction m with
  | zero=>
   intro i hi
   refine P87_2_of ?_
   simp only [zd,zA,zAL]
   refine ⟨fun h=>by omega,fun _=>P87_7_of ?_⟩
   simp [zA,zAN,zX,zt]
  | succ m ih=>
   intro i hi
   have hin:i<l.length:=by omega
   refine P87_2_of ?_
   simp only [zd,zA,zAL]
   refine ⟨fun _=>P87_3_of ?_,fun h=>by omega⟩
   simp only [zA]
   refine P87_4_of ?_
   obtain ⟨p,q1,q2⟩:=idx47 ha hk.fresh (List.getElem?_eq_getElem hin)
   simp only [zA,q1,q2,zAU,zAL]
   refine ⟨fun h=>P87_5_of ?_,fun h=>P87_6_of ?_⟩
   ·simp only [zA,zAN,zX,true_and,zt,List.getElem?_eq_getElem hin,← h,decide_true,if_true]
    rw [zAx];omega
   ·simp only [zA,zAJ _ (add1 hin hn)]
    have:=ih (i+1) (by omega)
    have hne:decide (l[i]?=some x)=false:=decide_eq_false (by rw [List.getElem?_eq_getElem hin];intro e;exact h (Option.some.inj e).symm)
    simp only [zt,hne,Bool.false_eq_true,if_false]
    exact this
 rw [hv]
 simp only [zA,len87_1_1]
 rw [← hv]
 exact loop l.length 0 (by omega)
theorem call27 {h0 k:AH} {v:Value} {l:List Int} {x:Int} (ha:Arr h0 1 v (l.map i1)) (hn:l.length<=9223372036854775807) (hk:Ext h0 k) :
  (zV E).call 27 [v,.int .i64 x] k=some [(.bool (decide (x∈l)),k)]:=by
 refine F27_flat (s:=true) hk.ok rfl (P27_0_of ?_)
 simp only [zA]
 refine P27_1_of ?_
 simp only [zA,zZ,call87 ha hn hk.fresh,zO,zA2,idx_in,zAN,zX,true_and]
 rw [zAx];omega
theorem ev_eqp (a b c d:Int):eqInts E 54 [.int .i64 a,.int .i64 b] [.int .i64 c,.int .i64 d]=zAm [.int .i64 a,.int .i64 b] [.int .i64 c,.int .i64 d]:=by kernel_rfl
theorem bf_eqp (p q:Int×Int):zE E .eql 54 (.agg ⟨zJ p⟩) (.agg ⟨zJ q⟩)=some (.bool (decide (p=q))):=by
 obtain ⟨a,b⟩:=p
 obtain ⟨c,d⟩:=q
 have h:eqInts E 54 (zJ (a,b)) (zJ (c,d))=some (decide ((a,b)=(c,d))):=by
  simp only [zJ,ev_eqp,zAm]
  by_cases h1:a=c <;> by_cases h2:b=d <;> simp [h1,h2,zC9,show keq IntKind.i64 IntKind.i64=true from rfl]
 unfold zE
 simp only [h]
theorem idx26 {h k:AH} {v:Value} {els:List (List Value)} (ha:Arr h 2 v els) (e:Ext h k) {i:Nat} {x:List Value} (hi:els[i]?=some x) :
  ∃ p,zH E 26 (some v) (some (.int .i64 (i:Int)))=some p/\zG E 54 k (some p)=some (.agg ⟨x⟩):=idx_agg und_26 ts_54 ta_54 ha e hi
theorem call86 {h0 k:AH} {v:Value} {l:List (Int×Int)} {x:Int×Int} (ha:Arr h0 2 v (l.map zJ)) (hn:l.length<=9223372036854775807) (hk:Ext h0 k) :
  (zV E).call 86 [v,.agg ⟨zJ x⟩] k=some [(.int .i64 (zt (fun i=>decide (l[i]?=some x)) l.length 0),k)]:=by
 obtain ⟨ad,c,hv⟩:=ha.slice
 rw [List.length_map] at hv
 refine F86_flat (s:=true) hk.ok rfl (P86_0_of ?_)
 obtain ⟨k1,e1,n1,t1,o1,f1⟩:=nwF k (.row (zJ x) 54 0 false)
 simp only [ze,zL,zS,zA,e1,zb]
 have ag:=zW (P:=E) ta_54 (o:=0) t1 (by simp [zJ])
 rw [show ((zJ x).drop 0).take 2=zJ x from rfl] at ag
 have ex:=hk.trans o1.ext
 refine P86_1_of ?_
 have loop:∀ (m i:Nat),i+m=l.length->P86_2 true (KR E [.tmp 2] (fun y l'=>y=.int .i64 (zt (fun i=>decide (l[i]?=some x)) m i)/\k.next<=l'.wm)) v (.pointer (some ⟨k.next,0,none⟩)) (.int .i64 (l.length:Int)) (.int .i64 (i:Int)) k1:=by
  intro m
  induction m with
  | zero=>
   intro i hi
   refine P86_2_of ?_
   simp only [zd,zA,zAL]
   refine ⟨fun h=>by omega,fun _=>P86_7_of ?_⟩
   simp only [zA,zAN,zX,zt,true_and];exact o1.wm
  | succ m ih=>
   intro i hi
   have hin:i<l.length:=by omega
   refine P86_2_of ?_
   simp only [zd,zA,zAL]
   refine ⟨fun _=>P86_3_of ?_,fun h=>by omega⟩
   simp only [zA]
   refine P86_4_of ?_
   have hx':(l.map zJ)[i]?=some (zJ l[i]):=by rw [List.getElem?_map,List.getElem?_eq_getElem hin];rfl
   obtain ⟨p,q1,q2⟩:=idx26 ha ex hx'
   simp only [zA,ag,q1,q2,bf_eqp,zAL]
   refine ⟨fun h=>P86_5_of ?_,fun h=>P86_6_of ?_⟩
   ·simp only [zA,zAN,zX,true_and,zt,List.getElem?_eq_getElem hin,← h,decide_true,if_true]
    exact o1.wm
   ·simp only [zA,zAJ _ (add1 hin hn)]
    have:=ih (i+1) (by omega)
    have hne:decide (l[i]?=some x)=false:=decide_eq_false (by rw [List.getElem?_eq_getElem hin];intro e;exact h (Option.some.inj e).symm)
    simp only [zt,hne,Bool.false_eq_true,if_false]
    exact this
 rw [hv]
 simp only [zA,len86_1_1]
 rw [← hv]
 exact loop l.length 0 (by omega)
theorem call26 {h0 k:AH} {v:Value} {l:List (Int×Int)} {x:Int×Int} (ha:Arr h0 2 v (l.map zJ)) (hn:l.length<=9223372036854775807) (hk:Ext h0 k) :
  (zV E).call 26 [v,.agg ⟨zJ x⟩] k=some [(.bool (decide (x∈l)),k)]:=by
 refine F26_flat (s:=true) hk.ok rfl (P26_0_of ?_)
 obtain ⟨k1,e1,n1,t1,o1,f1⟩:=nwF k (.row (zJ x) 54 0 false)
 simp only [ze,zL,zS,zA,e1,zb]
 have ag:=zW (P:=E) ta_54 (o:=0) t1 (by simp [zJ])
 rw [show ((zJ x).drop 0).take 2=zJ x from rfl] at ag
 refine P26_1_of ?_
 simp only [ag,zA,zZ,call86 ha hn (hk.trans o1.ext),zO,zA2,idx_in,zAN,zX,true_and]
 exact ⟨congrArg Value.bool (decide_eq_decide.2 Iff.rfl),o1.wm⟩
theorem idx83 {h k:AH} {v:Value} {els:List (List Value)} (ha:Arr h 2 v els) (e:Ext h k) {i:Nat} {x:List Value} (hi:els[i]?=some x) :
  ∃ p,zH E 83 (some v) (some (.int .i64 (i:Int)))=some p/\zG E 32 k (some p)=some (.agg ⟨x⟩):=idx_agg und_83 ts_32 ta_32 ha e hi
theorem call126 {h0:AH} {v f:Value} {els:List (List Value)} {p:Nat->Bool} (ha:Arr h0 2 v els) (hn:els.length<=9223372036854775807)
  (hf:∀ k,Ext h0 k->∀ i e,els[i]?=some e->za (zV E) (some f) (some [.agg ⟨e⟩]) k=some [(.bool (p i),k)]) {k:AH} (hk:Ext h0 k) :
  (zV E).call 126 [v,f] k=some [(.int .i64 (zt p els.length 0),k)]:=by
 obtain ⟨ad,c,hv⟩:=ha.slice
 refine F126_flat (s:=true) hk.ok rfl (P126_0_of ?_)
 simp only [zA]
 refine P126_1_of ?_
 have loop:∀ (m i:Nat),i+m=els.length->P126_2 true (KR E [.tmp 2] (fun x l=>x=.int .i64 (zt p m i)/\k.next<=l.wm)) v f (.int .i64 (els.length:Int)) (.int .i64 (i:Int)) k.fresh:=by
  intro m
  induction m with
  | zero=>
   intro i hi
   refine P126_2_of ?_
   simp only [zd,zA,zAL]
   refine ⟨fun h=>by omega,fun _=>P126_7_of ?_⟩
   simp [zA,zAN,zX,zt]
  | succ m ih=>
   intro i hi
   have hin:i<els.length:=by omega
   refine P126_2_of ?_
   simp only [zd,zA,zAL]
   refine ⟨fun _=>P126_3_of ?_,fun h=>by omega⟩
   simp only [zA]
   refine P126_4_of ?_
   obtain ⟨q,q1,q2⟩:=idx83 ha hk.fresh (List.getElem?_eq_getElem hin)
   simp only [zA,q1,q2,hf _ hk.fresh i _ (List.getElem?_eq_getElem hin),zO,zBD]
   refine ⟨fun h=>P126_5_of ?_,fun h=>P126_6_of ?_⟩
   ·simp only [zA,zAN,zX,true_and,zt,h,if_true];rw [zAx];omega
   ·simp only [zA,zAJ _ (add1 hin hn),zt,h,Bool.false_eq_true,if_false]
    exact ih (i+1) (by omega)
 rw [hv]
 simp only [zA,len126_1_1]
 rw [← hv]
 exact loop els.length 0 (by omega)
theorem call75 {h0 k:AH} {e:List Value} {B:GB} (hr:RB h0 e B) (hk:Ext h0 k):(zV E).call 75 [.agg ⟨e⟩] k=some [(.bool (decide ((4000:Int)<(B.prs.length:Int))),k)]:=by
 obtain ⟨vp,rfl,e2⟩:=hr.ex
 obtain ⟨ad,c,hv⟩:=e2.slice
 rw [List.length_map] at hv
 refine F75_flat (s:=true) hk.ok rfl (P75_0_of ?_)
 obtain ⟨k1,e1,n1,t1,o1,f1⟩:=nwF k (.row [.int .i64 B.kind,vp] 32 0 false)
 simp only [ze,zL,zS,zA,e1,zb]
 have l1:=zD (P:=E) ta_26 (o:=1) t1
 simp only [lnth] at l1
 rw [hv] at l1
 refine P75_1_of ?_
 simp only [fa_32_1,Nat.zero_add,l1,zA,len75_1_2,zAM,zAN,zX,true_and]
 exact o1.wm
def longAt (Bs:List GB) (i:Nat):Bool:=match Bs[i]? with
 | some B=>decide ((4000:Int)<(B.prs.length:Int))
 | none=>false
theorem call19 {h0 k:AH} {v:Value} {els:List (List Value)} {Bs:List GB} (ha:Arr h0 2 v els) (hn:els.length=Bs.length) (hle:els.length<=9223372036854775807) (hr:∀ (i:Nat) (e:List Value) (B:GB),els[i]?=some e->Bs[i]?=some B->RB h0 e B) (hk:Ext h0 k) :
  (zV E).call 19 [v] k=some [(.bool (!decide (0<=zt (longAt Bs) els.length 0)),k)]:=by
 refine F19_flat (s:=true) hk.ok rfl (P19_0_of ?_)
 simp only [zA]
 refine P19_1_of ?_
 have h126:∀ k',Ext h0 k'->(zV E).call 126 [v,.func (.func 75) #[] #[]] k'=some [(.int .i64 (zt (longAt Bs) els.length 0),k')]:=fun k' hk'=>call126 ha hle (fun k2 hk2 i e he=>by
  have hil:=(List.getElem?_eq_some_iff.1 he).1
  have hB:Bs[i]?=some Bs[i]:=List.getElem?_eq_getElem (by omega)
  rw [zZ,call75 (hr i e _ he hB) hk2]
  simp only [longAt,hB]) hk'
 have h74:(zV E).call 74 [v,.func (.func 75) #[] #[]] k.fresh=some [(.bool (decide (0<=zt (longAt Bs) els.length 0)),k.fresh)]:=by
  refine F74_flat (s:=true) hk.fresh.ok rfl (P74_0_of ?_)
  simp only [zA]
  refine P74_1_of ?_
  simp only [zA,zZ,h126 _ hk.fresh.fresh,zO,zA2,zAN,zX,true_and]
  rw [zAx];omega
 simp only [zA,zZ,h74,zO,zz,zAN,zX,true_and]
 rw [zAx];omega
def IS (lo:Nat) (h:AH) (v:Value) (l:List Int):Prop:=(v=.slice none 0 0/\l=[])\/LS lo h v l
theorem IS.arr {lo:Nat} {h:AH} {v:Value} {l:List Int} (x:IS lo h v l):Arr h 1 v (l.map i1):=by
 rcases x with ⟨rfl,rfl⟩|x
 ·exact .nil _ _
 ·exact x.arr
theorem LS.blk {lo:Nat} {h:AH} {v:Value} {l:List Int} (x:LS lo h v l) {b:Nat} (hb:zr v b):lo<=b/\b<h.next:=by
 obtain ⟨c,cp,rfl,h1,h2,_⟩:=x
 obtain ⟨n,cap,e⟩:=hb
 simp only [Value.slice.injEq,Option.some.injEq,Addr.mk.injEq] at e
 rw [← e.1.1];exact ⟨h1,h2⟩
theorem IS.blk {lo:Nat} {h:AH} {v:Value} {l:List Int} (x:IS lo h v l) {b:Nat} (hb:zr v b):lo<=b/\b<h.next:=by
 rcases x with ⟨rfl,_⟩|x
 ·obtain ⟨n,cap,e⟩:=hb;cases e
 ·exact x.blk hb
theorem IS.mono {lo:Nat} {k k':AH} {v:Value} {L:List Int} (h:IS lo k v L) (hn:k.next<=k'.next) (hg:∀ b,b<k.next->zr v b->k'.get b=k.get b):IS lo k' v L:=by
 rcases h with h|h
 ·exact .inl h
 ·exact .inr (h.mono hn fun b _ h2 h3=>hg b h2 h3)
theorem IS.slice {lo:Nat} {h:AH} {v:Value} {l:List Int} (x:IS lo h v l):∃ a c,v=.slice a l.length c:=by
 rcases x with ⟨rfl,rfl⟩|⟨b,c,rfl,_⟩
 ·exact ⟨_,_,rfl⟩
 ·exact ⟨_,_,rfl⟩
theorem IS.app {lo:Nat} {h:AH} {v:Value} {l:List Int} (x:IS lo h v l) (hlo:lo<=h.next) (hl:l.length<=999998) (u:Int) :
  ∃ m,zAO E .append [47,47] (some [v,.slice (some ⟨h.next,0,none⟩) 1 1]) (h.new (.row [.int .i64 u] 3 0 false))=one (.slice (some ⟨h.next+1,0,none⟩) (l.length+1) (UNK+1),m) ∧
   LS lo m (.slice (some ⟨h.next+1,0,none⟩) (l.length+1) (UNK+1)) (l++[u])/\m.next=h.next+2/\(h.ok->Fx (fun c=>zr v c) h m):=by
 have hrow:=zF h (.row [.int .i64 u] 3 0 false)
 rcases x with ⟨rfl,rfl⟩|x
 ·refine ⟨_,append_nil elt47 hrow rfl,⟨h.next+1,UNK+1,by simp,by omega,by show h.next+1<h.next+1+1;omega,.inr ⟨rfl,zF (h.new _) _⟩⟩,rfl,fun hok=>((Fx.refl hok).new _).new _⟩
 ·obtain ⟨b0,c0,e0,hb0,hlt0,hc0⟩:=x.ex
  have xb:LS b0 h v l:=⟨b0,c0,e0,Nat.le_refl _,hlt0,hc0⟩
  have x1:LS b0 (h.new (.row [.int .i64 u] 3 0 false)) v l:=xb.mono (by simp) fun b _ hb _=>zI (by omega)
  obtain ⟨v',k1,a1,rfl,a3,a4,a5,a6,a7,a8⟩:=x1.app (by omega) hrow
  have e1:(h.new (.row [.int .i64 u] 3 0 false)).next=h.next+1:=rfl
  rw [e1] at a1 a3 a4 a5
  exact ⟨k1,a1,⟨h.next+1,UNK+1,by simp,by omega,by omega,.inr ⟨rfl,a4⟩⟩,by omega,fun hok=>⟨a6 (zB4 hok _),by omega,fun c hc hn=>(a5 c (by omega) hn).trans (zI (by omega)),fun m h1 h2 h3=>a8 m h1 (h2 b0 ⟨_,_,e0⟩)⟩⟩
def addL (prs:List (Int×Int)) (x:Ed) (ln:List Int) (t:Int):List Int:=if (x.2.2,t)∈prs/\t ∉ ln then ln++[t] else ln
def AddR (lo b16:Nat) (vn:Value) (ln':List Int) (h h':AH):Prop:=∃ vn',h'.get b16=some (.row [vn'] 47 0 false)/\IS lo h' vn' ln'/\Fx (fun c=>c=b16\/zr vn c) h h'/\(∀ c,zr vn' c->zr vn c\/h.next<=c)
theorem call25 {h:AH} {b6 b15 b16 lo:Nat} {kind t:Int} {x:Ed} {vp vn:Value} {prs:List (Int×Int)} {ln:List Int} (hok:h.ok) (g6:h.get b6=some (.row [.int .i64 kind,vp] 32 0 false)) (ap:Arr h 2 vp (prs.map zJ)) (hp:prs.length<=9223372036854775807)
  (g15:h.get b15=some (.row (zP x) 52 0 false)) (g16:h.get b16=some (.row [vn] 47 0 false)) (hb16:b16<h.next) (hv:IS lo h vn ln) (hlo:lo<=h.next) (hln:ln.length<=900000) (hd:¬ zr vn b16) :
  Ev true ((zV E).call 25 [.int .i64 t,ptr b6,ptr b15,ptr b16] h) fun y=>y.1=.tuple #[]/\AddR lo b16 vn (addL prs x ln t) h y.2:=by
 have hk:=Ext.refl hok
 have f6:h.fresh.get b6=some (.row [.int .i64 kind,vp] 32 0 false):=g6
 have f15:h.fresh.get b15=some (.row (zP x) 52 0 false):=g15
 have f16:h.fresh.get b16=some (.row [vn] 47 0 false):=g16
 have l6:=zD (P:=E) ta_26 (o:=1) f6
 have l15:=zD (P:=E) zAS (o:=2) f15
 have l16:=zD (P:=E) ta_47 (o:=0) f16
 simp only [lnth,zP] at l6 l15 l16
 have c26:=call26 (x:=(x.2.2,t)) ap hp hk.fresh
 have c27:=call27 (x:=t) hv.arr (by omega) hk.fresh
 have pb:zAu E 54 (some [(0,.int .i64 x.2.2),(1,.int .i64 t)])=some (.agg ⟨zJ (x.2.2,t)⟩):=pb54
 by_cases hc:(x.2.2,t)∈prs/\t ∉ ln
 ·
  obtain ⟨h1,h2⟩:=hc
  have heq:addL prs x ln t=ln++[t]:=if_pos ⟨h1,h2⟩
  rw [heq]
  refine F25_some (Rp:=fun v m=>v=.tuple #[]/\AddR lo b16 vn (ln++[t]) h m) (P25_0_of ?_)
  simp only [fa_32_1,zA1,Nat.zero_add,l6,l15,zA,pb,zZ,c26,zO,h1,decide_true,zM,zY,beq_self_eq_true,cond_true,l16,c27,h2,decide_false,zz,Bool.not_false,zK,zAK]
  refine P25_1_of ?_
  obtain ⟨m,a1,a2,a3,a4⟩:=(show IS lo h.fresh vn ln from hv.mono (Nat.le_refl _) fun _ _ _=>rfl).app hlo (by omega) t
  have a4:=a4 (ok_fresh h)
  have m16:m.get b16=some (.row [vn] 47 0 false):=(a4.get b16 hb16 hd).trans f16
  have hst:=z0 (P:=E) ts_47 (o:=0) m16 (zDH (some ⟨h.fresh.next+1,0,none⟩) (ln.length+1) (UNK+1)) rfl (by simp) rfl
  have hput:lput [vn] 0 [Value.slice (some ⟨h.fresh.next+1,0,none⟩) (ln.length+1) (UNK+1)]=[.slice (some ⟨h.fresh.next+1,0,none⟩) (ln.length+1) (UNK+1)]:=rfl
  rw [hput] at hst
  simp only [l16,zA,bs47,zL,a1,hst,kR_0,zX,ne_normal,true_and]
  have hnm:m.next=h.next+2:=a3
  have hf:Fx (fun c=>c=b16\/zr vn c) h.fresh (m.upd b16 (some (.row [.slice (some ⟨h.fresh.next+1,0,none⟩) (ln.length+1) (UNK+1)] 47 0 false))):=
   (a4.mono (P':=fun c=>c=b16\/zr vn c) fun c hc=>.inl (.inr hc)).upd (.inl (.inl rfl)) _
  have hwm:(m.upd b16 (some (.row [.slice (some ⟨h.fresh.next+1,0,none⟩) (ln.length+1) (UNK+1)] 47 0 false))).wm<=b16:=(zCm m b16 _).2
  have hls:LS lo (m.upd b16 (some (.row [.slice (some ⟨h.fresh.next+1,0,none⟩) (ln.length+1) (UNK+1)] 47 0 false))) (.slice (some ⟨h.fresh.next+1,0,none⟩) (ln.length+1) (UNK+1)) (ln++[t]):=
   a2.mono (Nat.le_refl _) fun b _ hb hbk=>zQ (by
    obtain ⟨n,cap,e⟩:=hbk
    simp only [Value.slice.injEq,Option.some.injEq,Addr.mk.injEq] at e
    have:=e.1.1
    simp only [zb] at this
    omega)
  refine ⟨.inr (by omega),_,zR _ _ _,?_,?_,?_⟩
  ·exact .inr (hls.mono (Nat.le_refl _) fun _ _ _ _=>rfl)
  ·refine ⟨?_,hf.next,fun c hc hn=>hf.get c hc hn,fun w h1 h2 h3=>?_⟩
   ·show cond (Nat.ble h.wm _) h.wm _<=m.next+UNK
    cases hcc:Nat.ble h.wm (m.upd b16 (some (.row [.slice (some ⟨h.fresh.next+1,0,none⟩) (ln.length+1) (UNK+1)] 47 0 false))).wm with
    | true=>rw [ble_true] at hcc;simp only [cond_true];have:=hwm;omega
    | false=>simp only [cond_false];omega
   ·show w<=cond (Nat.ble h.wm _) h.wm _
    cases hcc:Nat.ble h.wm (m.upd b16 (some (.row [.slice (some ⟨h.fresh.next+1,0,none⟩) (ln.length+1) (UNK+1)] 47 0 false))).wm with
    | true=>exact h1
    | false=>
     simp only [cond_false]
     exact hf.wm w (by rw [zAx];omega) h2 h3
  ·rintro c ⟨n,cap,e⟩
   simp only [Value.slice.injEq,Option.some.injEq,Addr.mk.injEq] at e
   have:=e.1.1
   simp only [zb] at this
   exact .inr (by omega)
 ·
  have heq:addL prs x ln t=ln:=if_neg hc
  rw [heq]
  have:(zV E).call 25 [.int .i64 t,ptr b6,ptr b15,ptr b16] h=some [(.tuple #[],h)]:=by
   refine F25_flat1 hok rfl (P25_0_of ?_)
   by_cases h1:(x.2.2,t)∈prs
   ·have h2:t∈ln:=by
     by_cases h:t∈ln
     ·exact h
     ·exact absurd ⟨h1,h⟩ hc
    simp only [fa_32_1,zA1,Nat.zero_add,l6,l15,zA,pb,zZ,c26,zO,h1,decide_true,zM,zY,beq_self_eq_true,cond_true,l16,c27,h2,zz,Bool.not_true,zK,zAE,kR_0,ne_normal,true_and]
    rw [zAx];omega
   ·simp only [fa_32_1,zA1,Nat.zero_add,l6,l15,zA,pb,zZ,c26,zO,h1,decide_false,zM,zY,show (false==true)=false from rfl,cond_false,zL,zK,zAE,kR_0,ne_normal,true_and]
    rw [zAx];omega
  rw [this,zO]
  exact ⟨rfl,vn,g16,hv,Fx.refl hok,fun c h=>.inl h⟩
end Go.Proofs
namespace Go.Proofs
open Go Go.AM
set_option maxRecDepth 100000
theorem rem_ok {T:Tm} {o:Oper} {u v:Nat} (ho:o.op=.binOp .rem 3 (.tmp u) (.tmp v) 3) {a:Int} {n:Nat} (hn:0<n) (h1:T.get u=.int .i64 a) (h2:T.get v=.int .i64 (n:Int)):zAQ E T o=some (.int .i64 (a.tmod n)):=by
 have hz:¬ ((n:Int)=0):=by omega
 simp only [zAQ,ho,pBin,rho,h1,h2]
 have hb:zE E .rem 3 (.int .i64 a) (.int .i64 (n:Int))=none:=rfl
 rw [hb]
 have hx:zCi E.prog (execOp (rho T) o)=some (.value (.int .i64 (a.tmod n))):=by
  unfold execOp
  simp only [ho,rho,h1,h2]
  show zCi E.prog (Bind.bind (Bind.bind (eqGuard .rem 3 (.tmp u) (.tmp v) (.int .i64 a) (.int .i64 (n:Int))) fun _=>binOp .rem 3 (.int .i64 a) (.int .i64 (n:Int))) fun x=>pure (Next.value x))=_
  have e1:binOp .rem 3 (.int .i64 a) (.int .i64 (n:Int))=pure (.int .i64 (a.tmod n)):=by
   have:binOp .rem 3 (.int .i64 a) (.int .i64 (n:Int))=Op.intDiv .rem .i64 a (n:Int):=rfl
   rw [this]
   unfold Op.intDiv
   rw [if_neg hz]
  rw [e1]
  rfl
 have hf:(o.op.operands.toList.all (zo T)&&zCt o.op)=true:=by
  rw [ho]
  show (zo T (.tmp u)&&(zo T (.tmp v)&&true))&&true=true
  simp only [zo,h1,h2];rfl
 simp only [pBinSlow,zo,h1,h2,show zg (.int .i64 a)=true from rfl,show zg (.int .i64 (n:Int))=true from rfl,Bool.and_self,cond_true,zBU,hf,hx]
 rfl
end Go.Proofs
namespace Go.Proofs
open Go Go.AM
set_option maxRecDepth 100000
set_option maxHeartbeats 4000000
structure Cxt (g:AH) (lo a4 a5 a6 b15 bs2:Nat) (L M:GL) (kind:Int) (prs:List (Int×Int)) (x:Ed) (cells2:List Value) (vlL veL vlM veM vp:Value) (elsL elsM:List (List Value)):Prop where
 r4:g.get a4=some (.row [.int .i64 L.n,vlL,veL] 25 0 false)
 r5:g.get a5=some (.row [.int .i64 M.n,vlM,veM] 25 0 false)
 r6:g.get a6=some (.row [.int .i64 kind,vp] 32 0 false)
 r15:g.get b15=some (.row (zP x) 52 0 false)
 l4:a4<g.next
 l5:a5<g.next
 l6:a6<g.next
 l15:b15<g.next
 aL:Arr g 2 vlL elsL
 lL:RLab g elsL L.labs
 aM:Arr g 2 vlM elsM
 lM:RLab g elsM M.labs
 ap:Arr g 2 vp (prs.map zJ)
 hp:prs.length<=4000
 O2:LoL lo g bs2 cells2 (outOf M)
structure Hs (k g:AH) (h:AH) (v21 vn:Value) (lc ln:List Int):Prop where
 ow:Own k h
 ex:Ext g h
 kg:k.next<=g.next
 r16:h.get g.next=some (.row [vn] 47 0 false)
 lt:g.next<h.next
 ic:LS (g.next+1) h v21 lc
 ins:IS (g.next+1) h vn ln
 dis:∀ c,zr v21 c->¬ zr vn c
theorem Hs.step {k g h m:AH} {v21 vn:Value} {lc ln:List Int} (H:Hs k g h v21 vn lc ln) (ho:Own k m) (hn:h.next<=m.next) (hg:∀ b,b<h.next->m.get b=h.get b):Hs k g m v21 vn lc ln:=
 ⟨ho,⟨ho.ext.ok,Nat.le_trans H.ex.next hn,fun b hb=>(hg b (Nat.lt_of_lt_of_le hb H.ex.next)).trans (H.ex.get b hb)⟩,H.kg,(hg _ H.lt).trans H.r16,Nat.lt_of_lt_of_le H.lt hn,
  H.ic.mono hn fun b _ hb _=>hg b hb,H.ins.mono hn fun b hb _=>hg b hb,H.dis⟩
theorem Hs.add {k g h h':AH} {v21 vn:Value} {lc ln ln':List Int} (H:Hs k g h v21 vn lc ln) (A:AddR (g.next+1) g.next vn ln' h h'):∃ vn',Hs k g h' v21 vn' lc ln':=by
 obtain ⟨vn',a1,a2,a3,a4⟩:=A
 have hlo:∀ c,c=g.next\/zr vn c->g.next<=c:=by
  rintro c (rfl|hc)
  ·exact Nat.le_refl _
  ·have:=(H.ins.blk hc).1;omega
 have hk:=H.kg
 refine ⟨vn',a3.own H.ow fun c hc=>Nat.le_trans H.kg (hlo c hc),⟨a3.ok,Nat.le_trans H.ex.next a3.next,fun b hb=>(a3.get b (Nat.lt_of_lt_of_le hb H.ex.next) fun hc=>by have:=hlo b hc;omega).trans (H.ex.get b hb)⟩,H.kg,a1,Nat.lt_of_lt_of_le H.lt a3.next,?_,a2,?_⟩
 ·refine H.ic.mono a3.next fun b h1 h2 h3=>a3.get b h2 ?_
  rintro (hc|hc)
  ·omega
  ·exact H.dis b h3 hc
 ·intro c h1 h2
  rcases a4 c h2 with h3|h3
  ·exact H.dis c h1 h3
  ·have:=(H.ic.blk h1).2;omega
theorem Hs.calm {k g h:AH} {v21 vn:Value} {lc ln:List Int} (H:Hs k g h v21 vn lc ln) (hl:lc.length<=999998) (u:Int) :
  ∃ m,zAO E .append [47,47] (some [v21,.slice (some ⟨h.next,0,none⟩) 1 1]) (h.new (.row [.int .i64 u] 3 0 false))=one (.slice (some ⟨h.next+1,0,none⟩) (lc.length+1) (UNK+1),m) ∧
   Hs k g m (.slice (some ⟨h.next+1,0,none⟩) (lc.length+1) (UNK+1)) vn (lc++[u]) ln:=by
 have hgl:=H.lt
 have hk:=H.kg
 obtain ⟨m,a1,a2,a3,a4⟩:=IS.app (.inr H.ic) (by omega) hl u
 have a4:=a4 H.ow.ext.ok
 have hlo:∀ c,zr v21 c->g.next+1<=c:=fun c hc=>(H.ic.blk hc).1
 refine ⟨m,a1,a4.own H.ow (fun c hc=>by have:=hlo c hc;omega),⟨a4.ok,Nat.le_trans H.ex.next a4.next,fun b hb=>(a4.get b (Nat.lt_of_lt_of_le hb H.ex.next) fun hc=>by have:=hlo b hc;omega).trans (H.ex.get b hb)⟩,H.kg,
  (a4.get _ H.lt fun hc=>by have:=hlo _ hc;omega).trans H.r16,Nat.lt_of_lt_of_le H.lt a4.next,a2,H.ins.mono a4.next fun b hb hbk=>a4.get b hb fun hc=>H.dis b hc hbk,?_⟩
 rintro c ⟨n,cap,e⟩ h2
 simp only [Value.slice.injEq,Option.some.injEq,Addr.mk.injEq] at e
 have:=(H.ins.blk h2).2
 have:=e.1.1
 omega
def gateAt (M:GL) (y:Ed) (g:Int):Prop:=∃ l,M.labs[y.2.1.toNat]?=some (g,l)
structure DoneE (M:GL) (kind:Int) (prs:List (Int×Int)) (x:Ed) (cx:CL) (lc ln:List Int) (y:Ed):Prop where
 same:M.labs[y.2.1.toNat]?=some cx->(x.2.2,y.2.2)∈prs->ln≠[]
 calm:kind=2->gateAt M y (-1)->y.2.2∈lc
theorem DoneE.mono {M:GL} {kind:Int} {prs:List (Int×Int)} {x:Ed} {cx:CL} {lc ln lc' ln':List Int} {y:Ed} (d:DoneE M kind prs x cx lc ln y) (h1:∀ u∈lc,u∈lc') (h2:ln≠[]->ln'≠[]):DoneE M kind prs x cx lc' ln' y:=
 ⟨fun a b=>h2 (d.same a b),fun a b=>h1 _ (d.calm a b)⟩
structure Pure5 (M:GL) (prs:List (Int×Int)) (x:Ed) (lc ln:List Int):Prop where
 cN:lc.Nodup
 cR:∀ u∈lc,0<=u/\u<M.n
 nN:ln.Nodup
 nR:∀ v∈ln,(x.2.2,v)∈prs
theorem nodup_le {α:Type} [DecidableEq α]:∀ {l m:List α},l.Nodup->(∀ a∈l,a∈m)->l.length<=m.length
 | [],m,_,_=>Nat.zero_le _
 | a::l,m,hn,hs=>by
  rw [List.nodup_cons] at hn
  have h1:a∈m:=hs a (by simp)
  have:=nodup_le (m:=m.erase a) hn.2 fun b hb=>(List.mem_erase_of_ne (fun e=>by subst e;exact hn.1 hb)).2 (hs b (by simp [hb]))
  rw [List.length_erase_of_mem h1] at this
  have:0<m.length:=List.length_pos_of_mem h1
  simp only [List.length_cons];omega
theorem Pure5.lenc {M:GL} {prs:List (Int×Int)} {x:Ed} {lc ln:List Int} (p:Pure5 M prs x lc ln) {N:Nat} (hN:M.n=(N:Int)):lc.length<=N:=by
 have:=nodup_le (m:=(List.range N).map (fun (i:Nat)=>(i:Int))) p.cN fun u hu=>by
  obtain ⟨h1,h2⟩:=p.cR u hu
  obtain ⟨n,rfl⟩:=Int.eq_ofNat_of_zero_le h1
  exact List.mem_map.2 ⟨n,List.mem_range.2 (by omega),rfl⟩
 simpa using this
theorem Pure5.lenn {M:GL} {prs:List (Int×Int)} {x:Ed} {lc ln:List Int} (p:Pure5 M prs x lc ln):ln.length<=prs.length:=by
 have:=nodup_le (l:=ln.map fun v=>(x.2.2,v)) (m:=prs) (by
  have hn:=p.nN
  clear p
  induction ln with
  | nil=>simp
  | cons a l ih=>
   rw [List.nodup_cons] at hn
   rw [List.map_cons,List.nodup_cons]
   refine ⟨fun h=>?_,ih hn.2⟩
   obtain ⟨b,hb,e⟩:=List.mem_map.1 h
   cases e
   exact hn.1 hb) fun q hq=>by
  obtain ⟨v,hv,rfl⟩:=List.mem_map.1 hq
  exact p.nR v hv
 simpa using this
theorem Pure5.addL {M:GL} {prs:List (Int×Int)} {x:Ed} {lc ln:List Int} (p:Pure5 M prs x lc ln) (t:Int):Pure5 M prs x lc (addL prs x ln t)/\(ln≠[]->Proofs.addL prs x ln t≠[])/\((x.2.2,t)∈prs->Proofs.addL prs x ln t≠[]):=by
 unfold Proofs.addL
 split
 ·rename_i h
  refine ⟨⟨p.cN,p.cR,?_,?_⟩,fun _=>by simp,fun _=>by simp⟩
  ·rw [List.nodup_append]
   exact ⟨p.nN,by simp,fun a ha b hb e=>by simp at hb;subst hb;subst e;exact h.2 ha⟩
  ·intro v hv
   rcases List.mem_append.1 hv with hv|hv
   ·exact p.nR v hv
   ·simp at hv;subst hv;exact h.1
 ·rename_i h
  refine ⟨p,id,fun h1=>?_⟩
  by_cases h2:t∈ln
  ·intro e;rw [e] at h2;cases h2
  ·exact absurd ⟨h1,h2⟩ h
theorem Pure5.app {M:GL} {prs:List (Int×Int)} {x:Ed} {lc ln:List Int} (p:Pure5 M prs x lc ln) {u:Int} (h:u ∉ lc) (h1:0<=u/\u<M.n):Pure5 M prs x (lc++[u]) ln:=by
 refine ⟨?_,?_,p.nN,p.nR⟩
 ·rw [List.nodup_append]
  exact ⟨p.cN,by simp,fun a ha b hb e=>by simp at hb;subst hb;subst e;exact h ha⟩
 ·intro v hv
  rcases List.mem_append.1 hv with hv|hv
  ·exact p.cR v hv
  ·simp at hv;subst hv;exact h1
theorem idx22f {h k:AH} {v:Value} {els:List (List Value)} (ha:Arr h 2 v els) (e:Ext h k) {i:Nat} {g:Int} {r:List Value} (hi:els[i]?=some (.int .i64 g::r)) :
  ∃ p q,zH E 22 (some v) (some (.int .i64 (i:Int)))=some p/\zC E 36 0 (some p)=some q/\zG E 3 k (some q)=some (.int .i64 g):=by
 obtain ⟨b,o,c,vs,ty,es,ro,rfl,hb,hlt,hle,hz,hl⟩:=ha.load hi
 have hil:i<els.length:=(List.getElem?_eq_some_iff.1 hi).1
 refine ⟨_,_,zAF und_22 ts_36 hil,zA7,?_⟩
 rw [zD (P:=E) zAS ((e.get b hlt).trans hb),zAa,Nat.add_zero]
 have:((vs.drop (o+i*2)).take 2)[0]?=some (.int .i64 g):=by rw [hz];rfl
 rw [List.getElem?_take_of_lt (by omega),List.getElem?_drop] at this
 simpa using this
abbrev clos25 (a6 b15 b16:Nat):Value:=.func (.func 25) #[] #[ptr a6,ptr b15,ptr b16]
theorem wCall25 {a6 b15 b16:Nat} {t:Value} {h:AH}:za (zV E) (some (clos25 a6 b15 b16)) (some [t]) h=(zV E).call 25 [t,ptr a6,ptr b15,ptr b16] h:=by
 rw [wCall_fn];rfl
structure Grow (lc0 ln0 lc ln:List Int):Prop where
 pre:∃ t,lc=lc0++t
 ne:ln0≠[]->ln≠[]
theorem Grow.refl (lc ln:List Int):Grow lc ln lc ln:=⟨⟨[],by simp⟩,id⟩
theorem Grow.trans {a b c d e f:List Int} (x:Grow a b c d) (y:Grow c d e f):Grow a b e f:=by
 obtain ⟨t,rfl⟩:=x.pre
 obtain ⟨u,rfl⟩:=y.pre
 exact ⟨⟨t++u,by simp⟩,fun h=>y.ne (x.ne h)⟩
theorem Grow.mem {a b c d:List Int} (x:Grow a b c d):∀ u∈a,u∈c:=by
 obtain ⟨t,rfl⟩:=x.pre
 intro u hu;simp [hu]
section
variable {k g:AH} {lo a4 a5 a6 b15 bs2:Nat} {L M:GL} {kind:Int} {prs:List (Int×Int)} {x:Ed} {cells2:List Value} {vlL veL vlM veM vp:Value} {elsL elsM:List (List Value)}
theorem Hs.call {h:AH} {v21 vn:Value} {lc ln:List Int} (C:Cxt g lo a4 a5 a6 b15 bs2 L M kind prs x cells2 vlL veL vlM veM vp elsL elsM) (H:Hs k g h v21 vn lc ln) (P:Pure5 M prs x lc ln) (t:Int) :
  Ev true ((zV E).call 25 [.int .i64 t,ptr a6,ptr b15,ptr g.next] h) fun y=>y.1=.tuple #[]/\∃ vn',Hs k g y.2 v21 vn' lc (addL prs x ln t):=by
 have hp:=C.hp
 have hl:=P.lenn
 have hlt:=H.lt
 refine (call25 (lo:=g.next+1) H.ow.ext.ok ((H.ex.get _ C.l6).trans C.r6) (C.ap.ext H.ex) (by omega) ((H.ex.get _ C.l15).trans C.r15) H.r16 H.lt H.ins (by omega) (by omega) (fun hb=>by have:=(H.ins.blk hb).1;omega)).mono fun y hy=>?_
 exact ⟨hy.1,H.add hy.2⟩
theorem edges5 {K:KF} {v9 v10 v18 v22 v65 v66 v67 v111 v112 v113 cS:Value} {S:List Ed} {cx:CL} {lc0 ln0:List Int} {N:Nat}
  (C:Cxt g lo a4 a5 a6 b15 bs2 L M kind prs x cells2 vlL veL vlM veM vp elsL elsM) (hcx:L.labs[x.2.1.toNat]?=some cx) (hx1:0<=x.2.1) (hN:M.n=(N:Int)) (hN2:N<=20000)
  (ha:Arr g 3 cS (S.map zP)) (hSl:S.length<=100000) (hy:∀ y∈S,(0<=y.2.1/\y.2.1<M.labs.length)/\0<=y.2.2/\y.2.2<M.n)
  (hK:∀ h v21 vn lc ln,Hs k g h v21 vn lc ln->Pure5 M prs x lc ln->Grow lc0 ln0 lc ln->(∀ y∈S,DoneE M kind prs x cx lc ln y)->P5_32 true K (ptr a4) (ptr a5) (ptr a6) v9 v10 (ptr b15) (ptr g.next) (clos25 a6 b15 g.next) v18 v21 v22 v65 v66 v67 v111 v112 v113 h) :
  ∀ (m j:Nat),j+m=S.length->∀ h v21 vn lc ln,Hs k g h v21 vn lc ln->Pure5 M prs x lc ln->Grow lc0 ln0 lc ln->(∀ (i:Nat) (y:Ed),i<j->S[i]?=some y->DoneE M kind prs x cx lc ln y)->
   P5_25 true K (ptr a4) (ptr a5) (ptr a6) v9 v10 (ptr b15) (ptr g.next) (clos25 a6 b15 g.next) v18 v21 v22 v65 v66 v67 v111 v112 v113 cS (.int .i64 (S.length:Int)) (.int .i64 (j:Int)) h:=by
 intro m
 induction m with
 | zero=>
  intro j hj h v21 vn lc ln H P G D
  refine P5_25_of ?_
  simp only [zA,zd,show decide ((j:Int)<(S.length:Int))=false from decide_eq_false (by omega),zAE]
  refine hK h v21 vn lc ln H P G fun y hy=>?_
  obtain ⟨i,hi⟩:=List.getElem?_of_mem hy
  exact D i y (by have:=(List.getElem?_eq_some_iff.1 hi).1;omega) hi
 | succ m ih=>
  intro j hj h v21 vn lc ln H P G D
  have hjn:j<S.length:=by omega
  obtain ⟨y,hyj⟩:∃ y,S[j]?=some y:=⟨_,List.getElem?_eq_getElem hjn⟩
  obtain ⟨⟨hy1,hy2⟩,hy3,hy4⟩:=hy y (List.mem_of_getElem? hyj)
  refine P5_25_of ?_
  simp only [zA,zd,show decide ((j:Int)<(S.length:Int))=true from decide_eq_true (by omega),zAK]
  refine P5_26_of ?_
  have hx':(S.map zP)[j]?=some (zP y):=by rw [List.getElem?_map,hyj];rfl
  obtain ⟨p1,q1,w1⟩:=idx23 ha H.ex hx'
  obtain ⟨m1,e1,n1,t1,o1,f1⟩:=nwUp H.ow (.row [.int .i64 0,.int .i64 0,.int .i64 0] 52 0 false) (.row (zP y) 52 0 false)
  simp only [zA,q1,w1,z_52,ze,zL,zS,box52,e1]
  have H1:=H.step o1 (by omega) f1
  obtain ⟨la,hla⟩:=Int.eq_ofNat_of_zero_le hy1
  obtain ⟨lx,hlx⟩:=Int.eq_ofNat_of_zero_le hx1
  have hlaM:la<elsM.length:=by rw [RLab.length C.lM];omega
  obtain ⟨eM,heM⟩:∃ e,elsM[la]?=some e:=⟨_,List.getElem?_eq_getElem hlaM⟩
  obtain ⟨gy,vy,ly,rfl,hry,hlabM⟩:=RLab.at C.lM la eM heM
  have hxl:lx<L.labs.length:=by have:=(List.getElem?_eq_some_iff.1 hcx).1;rw [hlx] at this;simpa using this
  obtain ⟨eL,heL⟩:∃ e,elsL[lx]?=some e:=⟨_,List.getElem?_eq_getElem (by rw [RLab.length C.lL];exact hxl)⟩
  obtain ⟨gx,vx,ll,rfl,hrx,hlabL⟩:=RLab.at C.lL lx eL heL
  have hcx':cx=(gx,ll):=by
   rw [hlx] at hcx
   rw [show ((lx:Int)).toNat=lx from rfl,hlabL] at hcx
   exact (Option.some.inj hcx).symm
  have hlabM':M.labs[y.2.1.toNat]?=some (gy,ly):=by rw [hla];exact hlabM
  obtain ⟨p2,q2,w2⟩:=idx22 C.aM H1.ex heM
  obtain ⟨p3,q3,w3⟩:=idx22 C.aL H1.ex heL
  obtain ⟨b,hb,hc28⟩:=call28 (g:=gy) (g':=gx) hry hrx H1.ex
  have r4:=(H1.ex.get _ C.l4).trans C.r4
  have r5:=(H1.ex.get _ C.l5).trans C.r5
  have r15:=(H1.ex.get _ C.l15).trans C.r15
  have b4:=zD (P:=E) ta_22 (o:=1) r4
  have b5:=zD (P:=E) ta_22 (o:=1) r5
  have b15':=zD (P:=E) zAS (o:=1) r15
  have c1:=zD (P:=E) zAS (o:=1) t1
  simp only [lnth,zP,hla,hlx] at b4 b5 b15' c1
  refine P5_27_of ?_
  simp only [zAj,zBW,Nat.zero_add,b4,b5,b15',c1,zA,q2,w2,q3,w3,zZ,hc28,zO]
  have rest:∀ h2 vn2 ln2,Hs k g h2 v21 vn2 lc ln2->Pure5 M prs x lc ln2->(ln≠[]->ln2≠[])->(M.labs[y.2.1.toNat]?=some cx->(x.2.2,y.2.2)∈prs->ln2≠[])->h2.get h.next=some (.row (zP y) 52 0 false)->
    P5_29 true K (ptr a4) (ptr a5) (ptr a6) v9 v10 (ptr b15) (ptr g.next) (clos25 a6 b15 g.next) v18 v21 v22 (ptr h.next) v65 v66 v67 v111 v112 v113 cS (.int .i64 (S.length:Int)) (.int .i64 (j:Int)) h2:=by
   intro h2 vn2 ln2 H2 P2 hne hsame t2
   have on:∀ h3 v21' lc',Hs k g h3 v21' vn2 lc' ln2->Pure5 M prs x lc' ln2->(∃ t,lc'=lc++t)->(kind=2->gateAt M y (-1)->y.2.2∈lc')->
     P5_31 true K (ptr a4) (ptr a5) (ptr a6) v9 v10 (ptr b15) (ptr g.next) (clos25 a6 b15 g.next) v18 v21' v22 v65 v66 v67 v111 v112 v113 cS (.int .i64 (S.length:Int)) (.int .i64 (j:Int)) h3:=by
    intro h3 v21' lc' H3 P3 hpre hcalm
    refine P5_31_of ?_
    simp only [zAJ _ (add1 hjn (by omega)),zA]
    have G2:Grow lc ln lc' ln2:=⟨hpre,hne⟩
    refine ih (j+1) (by omega) h3 v21' vn2 lc' ln2 H3 P3 (G.trans G2) fun i z hi hz=>?_
    by_cases hij:i=j
    ·subst hij
     rw [hyj] at hz;cases hz
     exact ⟨hsame,hcalm⟩
    ·exact (D i z (by omega) hz).mono G2.mem G2.ne
   have r5:=(H2.ex.get _ C.l5).trans C.r5
   have r6:=(H2.ex.get _ C.l6).trans C.r6
   have d5:=zD (P:=E) ta_22 (o:=1) r5
   have d6:=zD (P:=E) zAS (o:=0) r6
   have e1:=zD (P:=E) zAS (o:=1) t2
   have e2:=zD (P:=E) zAS (o:=2) t2
   simp only [lnth,zP,hla] at d5 d6 e1 e2
   obtain ⟨p4,p5,q4,q5,w5⟩:=idx22f C.aM H2.ex heM
   have c27:=call27 (x:=y.2.2) H2.ic.arr (by have:=P2.lenc hN;omega) (Ext.refl H2.ow.ext.ok)
   refine P5_29_of ?_
   by_cases hk2:kind=2
   ·by_cases hg:gy=-1
    ·by_cases hin:y.2.2∈lc
     ·simp only [fa_32_0,zAj,zBW,zA1,Nat.zero_add,Nat.add_zero,d6,d5,e1,e2,zA,zAU,hk2,hg,hin,decide_true,zM,zY,beq_self_eq_true,cond_true,q4,q5,w5,zK,zZ,c27,zO,zz,Bool.not_true,zAE]
      exact on h2 v21 lc H2 P2 ⟨[],by simp⟩ fun _ _=>hin
     ·simp only [fa_32_0,zAj,zBW,zA1,Nat.zero_add,Nat.add_zero,d6,d5,e1,e2,zA,zAU,hk2,hg,hin,decide_true,decide_false,zM,zY,beq_self_eq_true,cond_true,q4,q5,w5,zK,zZ,c27,zO,zz,Bool.not_false,zAK]
      refine P5_30_of ?_
      obtain ⟨m2,a1,H3⟩:=H2.calm (by have:=P2.lenc hN;omega) y.2.2
      simp only [zA1,Nat.zero_add,e2,zA,bs47,zL,a1]
      exact on _ _ _ H3 (P2.app hin ⟨hy3,hy4⟩) ⟨_,rfl⟩ fun _ _=>by simp
    ·simp only [fa_32_0,zAj,zBW,zA1,Nat.zero_add,Nat.add_zero,d6,d5,e1,e2,zA,zAU,hk2,hg,decide_true,decide_false,zM,zY,beq_self_eq_true,show (false==true)=false from rfl,cond_true,cond_false,zL,q4,q5,w5,zK,zAE]
     refine on h2 v21 lc H2 P2 ⟨[],by simp⟩ fun _ hgt=>?_
     obtain ⟨l,hl⟩:=hgt
     rw [hlabM'] at hl
     cases hl
     exact absurd rfl hg
   ·simp only [fa_32_0,zAj,zBW,zA1,Nat.zero_add,Nat.add_zero,d6,d5,e1,e2,zA,zAU,hk2,decide_false,zM,zY,show (false==true)=false from rfl,cond_false,zL,zK,zAE]
    exact on h2 v21 lc H2 P2 ⟨[],by simp⟩ fun h2 _=>absurd h2 hk2
  cases b with
  | false=>
   rw [zAE]
   refine rest m1 vn ln H1 P id (fun hs _=>?_) t1
   rw [hlabM',hcx'] at hs
   have:=hb (Option.some.inj hs)
   cases this
  | true=>
   rw [zAK]
   refine P5_28_of ?_
   have c2:=zD (P:=E) zAS (o:=2) t1
   simp only [lnth,zP] at c2
   simp only [zA1,Nat.zero_add,c2,zA,wCall25]
   have hne:=n1
   have hgh:=H.lt
   have hcall:=call25 (lo:=g.next+1) (t:=y.2.2) (x:=x) (prs:=prs) H1.ow.ext.ok ((H1.ex.get _ C.l6).trans C.r6) (C.ap.ext H1.ex) (by have:=C.hp;omega) ((H1.ex.get _ C.l15).trans C.r15) H1.r16 H1.lt H1.ins (by have:=H1.lt;omega) (by have:=P.lenn;have:=C.hp;omega) (fun hb=>by have:=(H1.ins.blk hb).1;omega)
   refine hcall.mono fun z hz=>?_
   obtain ⟨vn',H2⟩:=H1.add hz.2
   obtain ⟨P2,n2,n3⟩:=P.addL y.2.2
   refine rest z.2 vn' _ H2 P2 n2 (fun _ hin=>n3 hin) ?_
   obtain ⟨_,_,_,hfx,_⟩:=hz.2
   refine (hfx.get h.next (by omega) ?_).trans t1
   rintro (hc|hc)
   ·omega
   ·have:=(H.ins.blk hc).2;omega
end
structure DoneS (M:GL) (kind:Int) (prs:List (Int×Int)) (x:Ed) (cx:CL) (inner:Bool) (lc ln:List Int) (u:Int):Prop where
 stay:kind=2->inner=true->(x.2.2,u)∈prs->ln≠[]
 eds:∀ S,(outOf M)[u.toNat]?=some S->∀ y∈S,DoneE M kind prs x cx lc ln y
theorem DoneS.mono {M:GL} {kind:Int} {prs:List (Int×Int)} {x:Ed} {cx:CL} {inner:Bool} {lc ln lc' ln':List Int} {u:Int} (d:DoneS M kind prs x cx inner lc ln u) (G:Grow lc ln lc' ln'):DoneS M kind prs x cx inner lc' ln' u:=
 ⟨fun a b c=>G.ne (d.stay a b c),fun S hS y hy=>(d.eds S hS y hy).mono G.mem G.ne⟩
section
variable {k g:AH} {lo a4 a5 a6 b15 bs2:Nat} {L M:GL} {kind:Int} {prs:List (Int×Int)} {x:Ed} {cells2:List Value} {vlL veL vlM veM vp:Value} {elsL elsM:List (List Value)}
theorem calm5 {K:KF} {v9 v65 v66 v67 v111 v112 v113:Value} {inner:Bool} {cx:CL} {t:Int} {ln0:List Int} {N:Nat}
  (C:Cxt g lo a4 a5 a6 b15 bs2 L M kind prs x cells2 vlL veL vlM veM vp elsL elsM) (hcx:L.labs[x.2.1.toNat]?=some cx) (hx1:0<=x.2.1) (hN:M.n=(N:Int)) (hN2:N<=20000) (hc2:cells2.length=N)
  (hS:∀ (i:Nat) (S:List Ed),(outOf M)[i]?=some S->S.length<=100000/\∀ y∈S,(0<=y.2.1/\y.2.1<M.labs.length)/\0<=y.2.2/\y.2.2<M.n)
  (hK:∀ h v21 vn lc ln,Hs k g h v21 vn lc ln->Pure5 M prs x lc ln->Grow [t] ln0 lc ln->(∀ u∈lc,DoneS M kind prs x cx inner lc ln u)->P5_33 true K (ptr a4) (ptr a5) (ptr a6) v9 (.slice (some ⟨bs2,0,none⟩) N N) (ptr b15) (ptr g.next) (clos25 a6 b15 g.next) (.bool inner) v65 v66 v67 v111 v112 v113 h) :
  ∀ (m i:Nat),N<=i+m->∀ h v21 vn lc ln,Hs k g h v21 vn lc ln->Pure5 M prs x lc ln->Grow [t] ln0 lc ln->(∀ (j:Nat) (u:Int),j<i->lc[j]?=some u->DoneS M kind prs x cx inner lc ln u)->
   P5_21 true K (ptr a4) (ptr a5) (ptr a6) v9 (.slice (some ⟨bs2,0,none⟩) N N) (ptr b15) (ptr g.next) (clos25 a6 b15 g.next) (.bool inner) v21 (.int .i64 (i:Int)) v65 v66 v67 v111 v112 v113 h:=by
 intro m
 induction m with
 | zero=>
  intro i hi h v21 vn lc ln H P G D
  have hl:=P.lenc hN
  obtain ⟨ad,cp,hv⟩:=(IS.slice (lo:=g.next+1) (.inr H.ic))
  refine P5_21_of ?_
  rw [hv]
  simp only [zA,len5_21_2,zd,show decide ((i:Int)<(lc.length:Int))=false from decide_eq_false (by omega),zAE]
  refine hK h v21 vn lc ln H P G fun u hu=>?_
  obtain ⟨j,hj⟩:=List.getElem?_of_mem hu
  exact D j u (by have:=(List.getElem?_eq_some_iff.1 hj).1;omega) hj
 | succ m ih=>
  intro i hi h v21 vn lc ln H P G D
  have hl:=P.lenc hN
  obtain ⟨ad,cp,hv⟩:=(IS.slice (lo:=g.next+1) (.inr H.ic))
  refine P5_21_of ?_
  rw [hv]
  simp only [zA,len5_21_2,zd,zAL]
  rw [← hv]
  refine ⟨fun hlt=>?_,fun hge=>?_⟩
  rotate_left
  ·refine hK h v21 vn lc ln H P G fun u hu=>?_
   obtain ⟨j,hj⟩:=List.getElem?_of_mem hu
   exact D j u (by have:=(List.getElem?_eq_some_iff.1 hj).1;omega) hj
  have hil:i<lc.length:=by omega
  obtain ⟨u,hu⟩:∃ u,lc[i]?=some u:=⟨_,List.getElem?_eq_getElem hil⟩
  obtain ⟨hu1,hu2⟩:=P.cR u (List.mem_of_getElem? hu)
  obtain ⟨un,rfl⟩:=Int.eq_ofNat_of_zero_le hu1
  have hunN:un<N:=by omega
  have rest:∀ h2 vn2 ln2,Hs k g h2 v21 vn2 lc ln2->Pure5 M prs x lc ln2->(ln≠[]->ln2≠[])->(kind=2->inner=true->(x.2.2,(un:Int))∈prs->ln2≠[])->
    P5_24 true K (ptr a4) (ptr a5) (ptr a6) v9 (.slice (some ⟨bs2,0,none⟩) N N) (ptr b15) (ptr g.next) (clos25 a6 b15 g.next) (.bool inner) v21 (.int .i64 (i:Int)) v65 v66 v67 v111 v112 v113 h2:=by
   intro h2 vn2 ln2 H2 P2 hne hst
   obtain ⟨p,q1,q2⟩:=idx47 H2.ic.arr (Ext.refl H2.ow.ext.ok) hu
   obtain ⟨cc,hcell⟩:∃ c,cells2[un]?=some c:=⟨_,List.getElem?_eq_getElem (by omega)⟩
   obtain ⟨SS,hout⟩:∃ S,(outOf M)[un]?=some S:=⟨_,List.getElem?_eq_getElem (by rw [← C.O2.len];omega)⟩
   have hC:=C.O2.cell un _ _ hcell hout
   obtain ⟨hSl,hSy⟩:=hS un _ hout
   have gs:=(H2.ex.get _ C.O2.lts).trans C.O2.s
   have ls:=zD (P:=E) ta_23 (o:=0+un*1) gs
   rw [zAa,show 0+un*1=un by omega,hcell] at ls
   have ia:=ia_49 (b:=bs2) (o:=0) (c:=N) (len:=N) (k:=un) hunN
   rw [show 0+un*1=un by omega] at ia
   have harr:=hC.arr
   obtain ⟨ad3,cp3,hv3⟩:=harr.slice
   rw [List.length_map] at hv3
   refine P5_24_of ?_
   simp only [zA,q1,q2,ia,ls]
   rw [hv3]
   simp only [len5_24_7,zA]
   rw [← hv3]
   refine edges5 (lc0:=lc) (ln0:=ln2) C hcx hx1 hN hN2 harr hSl hSy (fun h3 v21' vn3 lc3 ln3 H3 P3 G3 D3=>?_) SS.length 0 (by omega) h2 v21 vn2 lc ln2 H2 P2 (Grow.refl _ _) (fun i y h=>absurd h (Nat.not_lt_zero _))
   refine P5_32_of ?_
   simp only [zA,zAJ _ (add1 hil (by omega))]
   have G4:Grow lc ln lc3 ln3:=⟨G3.pre,fun h=>G3.ne (hne h)⟩
   refine ih (i+1) (by omega) h3 v21' vn3 lc3 ln3 H3 P3 (G.trans G4) fun j w hj hw=>?_
   obtain ⟨tl,htl⟩:=G3.pre
   have hw':lc[j]?=some w:=by
    rw [htl,List.getElem?_append_left (by omega)] at hw;exact hw
   by_cases hji:j=i
   ·subst hji
    rw [hu] at hw'
    cases hw'
    exact ⟨fun a b c=>G3.ne (hst a b c),fun S hS' y hy=>by
     rw [show ((un:Int)).toNat=un from rfl,hout] at hS'
     cases hS'
     exact D3 y hy⟩
   ·exact (D j w (by omega) hw').mono G4
  refine P5_22_of ?_
  have r6:=(H.ex.get _ C.l6).trans C.r6
  have d6:=zD (P:=E) zAS (o:=0) r6
  simp only [lnth] at d6
  by_cases hi1:inner=true
  ·by_cases hk2:kind=2
   ·simp only [zA,hi1,zM,beq_self_eq_true,cond_true,fa_32_0,Nat.add_zero,d6,zAU,hk2,decide_true,zK,zAK]
    refine P5_23_of ?_
    obtain ⟨p,q1,q2⟩:=idx47 H.ic.arr (Ext.refl H.ow.ext.ok) hu
    simp only [zA,q1,q2,wCall25]
    refine (H.call C P (un:Int)).mono fun z hz=>?_
    obtain ⟨_,vn',H2⟩:=hz
    obtain ⟨P2,n2,n3⟩:=P.addL (un:Int)
    have:=rest z.2 vn' _ H2 P2 n2 fun _ _ h=>n3 h
    rw [hi1] at this
    exact this
   ·simp only [zA,hi1,zM,beq_self_eq_true,cond_true,fa_32_0,Nat.add_zero,d6,zAU,hk2,decide_false,zK,zAE]
    have:=rest h vn ln H P id fun h2=>absurd h2 hk2
    rw [hi1] at this
    exact this
  ·have hi2:inner=false:=by cases inner with|true=>exact absurd rfl hi1|false=>rfl
   simp only [zA,hi2,zM,show (false==true)=false from rfl,cond_false,zK,zAE]
   have:=rest h vn ln H P id fun _ h2=>absurd h2 hi1
   rw [hi2] at this
   exact this
def Shown (M:GL) (kind:Int) (prs:List (Int×Int)) (x:Ed) (cx:CL) (inner:Bool) (t:Int):Prop:=
 ∀ lc ln,t∈lc->(∀ u∈lc,0<=u/\u<M.n)->(∀ u∈lc,DoneS M kind prs x cx inner lc ln u)->ln≠[]
structure Hn (k g:AH) (h:AH) (vn:Value) (ln:List Int):Prop where
 ow:Own k h
 ex:Ext g h
 kg:k.next<=g.next
 r16:h.get g.next=some (.row [vn] 47 0 false)
 lt:g.next<h.next
 ins:IS (g.next+1) h vn ln
theorem set5 {K:KF} {v9 v65 v66 v67 v111:Value} {inner:Bool} {cx:CL} {st:List Int} {N:Nat}
  (C:Cxt g lo a4 a5 a6 b15 bs2 L M kind prs x cells2 vlL veL vlM veM vp elsL elsM) (hcx:L.labs[x.2.1.toNat]?=some cx) (hx1:0<=x.2.1) (hN:M.n=(N:Int)) (hN2:N<=20000) (hc2:cells2.length=N)
  (hS:∀ (i:Nat) (S:List Ed),(outOf M)[i]?=some S->S.length<=100000/\∀ y∈S,(0<=y.2.1/\y.2.1<M.labs.length)/\0<=y.2.2/\y.2.2<M.n)
  (hst:Arr g 1 v111 (st.map i1)) (hsl:st.length<=1000000) (hsR:∀ t∈st,0<=t/\t<M.n) (hsh:∀ t∈st,Shown M kind prs x cx inner t)
  (hK:∀ h vn ln,Hn k g h vn ln->ln.Nodup->(∀ v∈ln,(x.2.2,v)∈prs)->(st≠[]->ln≠[])->P5_34 true K (ptr a4) (ptr a5) (ptr a6) v9 (.slice (some ⟨bs2,0,none⟩) N N) (ptr b15) (ptr g.next) v65 v66 v67 h) :
  ∀ (m j:Nat),j+m=st.length->∀ h vn ln,Hn k g h vn ln->ln.Nodup->(∀ v∈ln,(x.2.2,v)∈prs)->(j≠0->ln≠[])->
   P5_17 true K (ptr a4) (ptr a5) (ptr a6) v9 (.slice (some ⟨bs2,0,none⟩) N N) (ptr b15) (ptr g.next) (clos25 a6 b15 g.next) (.bool inner) v65 v66 v67 v111 (.int .i64 (st.length:Int)) (.int .i64 (j:Int)) h:=by
 intro m
 induction m with
 | zero=>
  intro j hj h vn ln H hn hr hne
  refine P5_17_of ?_
  simp only [zA,zd,show decide ((j:Int)<(st.length:Int))=false from decide_eq_false (by omega),zAE]
  exact hK h vn ln H hn hr fun h=>hne fun h2=>h (List.length_eq_zero_iff.1 (by omega))
 | succ m ih=>
  intro j hj h vn ln H hn hr hne
  have hjn:j<st.length:=by omega
  obtain ⟨t,ht⟩:∃ t,st[j]?=some t:=⟨_,List.getElem?_eq_getElem hjn⟩
  have htm:=List.mem_of_getElem? ht
  refine P5_17_of ?_
  simp only [zA,zd,show decide ((j:Int)<(st.length:Int))=true from decide_eq_true (by omega),zAK]
  refine P5_18_of ?_
  obtain ⟨p,q1,q2⟩:=idx47 hst H.ex ht
  simp only [zA,q1,q2]
  refine P5_19_of ?_
  obtain ⟨m1,e1,n1,t1,o1,f1⟩:=nw H.ow (.row [.int .i64 t] 3 0 false)
  simp only [zA,bs47,zL,e1]
  refine P5_20_of ?_
  simp only [zA]
  have hlt:=H.lt
  have Hs1:Hs k g m1 (.slice (some ⟨h.next,0,none⟩) 1 1) vn [t] ln:=by
   refine ⟨o1,⟨o1.ext.ok,by have:=H.ex.next;omega,fun b hb=>(f1 b (Nat.lt_of_lt_of_le hb H.ex.next)).trans (H.ex.get b hb)⟩,H.kg,(f1 _ H.lt).trans H.r16,by omega,⟨h.next,1,rfl,by omega,by omega,.inl ⟨rfl,rfl,t1⟩⟩,H.ins.mono (by omega) fun b hb _=>f1 b hb,?_⟩
   rintro c ⟨n,cap,e⟩ h2
   simp only [Value.slice.injEq,Option.some.injEq,Addr.mk.injEq] at e
   have:=(H.ins.blk h2).2
   have:=e.1.1
   omega
  have P1:Pure5 M prs x [t] ln:=⟨by simp,fun u hu=>by simp at hu;rw [hu];exact hsR t htm,hn,hr⟩
  refine calm5 (t:=t) (ln0:=ln) C hcx hx1 hN hN2 hc2 hS (fun h2 v21 vn2 lc ln2 H2 P2 G2 D2=>?_) N 0 (by omega) m1 _ vn [t] ln Hs1 P1 (Grow.refl _ _) (fun j u h=>absurd h (Nat.not_lt_zero _))
  refine P5_33_of ?_
  simp only [zAJ _ (add1 hjn (by omega)),zA]
  exact ih (j+1) (by omega) h2 vn2 ln2 ⟨H2.ow,H2.ex,H2.kg,H2.r16,H2.lt,H2.ins⟩ P2.nN P2.nR fun _=>hsh _ htm lc ln2 (G2.mem _ (by simp)) P2.cR D2
end
theorem outGo_get:∀ (l:List Ed) (EE:List (List Ed)) (i:Nat) (S:List Ed),(outGo EE l)[i]?=some S->∃ S0,EE[i]?=some S0/\∀ y,y∈S ↔ y∈S0\/(y∈l/\y.1.toNat=i)
 | [],EE,i,S,h=>⟨S,h,fun y=>by simp⟩
 | e::l,EE,i,S,h=>by
  simp only [outGo] at h
  obtain ⟨S0,h0,hS⟩:=outGo_get l _ i S h
  by_cases hi:e.1.toNat=i
  ·subst hi
   rw [List.getElem?_set] at h0
   simp only [if_true] at h0
   split at h0
   ·rename_i hlt
    cases h0
    refine ⟨EE[e.1.toNat],List.getElem?_eq_getElem hlt,fun y=>?_⟩
    rw [hS y,List.getElem?_eq_getElem hlt]
    simp only [Option.getD_some,List.mem_append,List.mem_cons,List.not_mem_nil,or_false]
    constructor
    ·rintro ((h|rfl)|⟨h1,h2⟩)
     ·exact .inl h
     ·exact .inr ⟨.inl rfl,rfl⟩
     ·exact .inr ⟨.inr h1,h2⟩
    ·rintro (h|⟨rfl|h1,h2⟩)
     ·exact .inl (.inl h)
     ·exact .inl (.inr rfl)
     ·exact .inr ⟨h1,h2⟩
   ·cases h0
  ·rw [List.getElem?_set_ne hi] at h0
   refine ⟨S0,h0,fun y=>?_⟩
   rw [hS y]
   simp only [List.mem_cons]
   constructor
   ·rintro (h|⟨h1,h2⟩)
    ·exact .inl h
    ·exact .inr ⟨.inr h1,h2⟩
   ·rintro (h|⟨rfl|h1,h2⟩)
    ·exact .inl h
    ·exact absurd h2 hi
    ·exact .inr ⟨h1,h2⟩
theorem outOf_mem {L:GL} {i:Nat} {S:List Ed} (h:(outOf L)[i]?=some S) (y:Ed):y∈S ↔ y∈L.eds/\y.1.toNat=i:=by
 obtain ⟨S0,h0,hS⟩:=outGo_get _ _ i S h
 rw [List.getElem?_replicate] at h0
 split at h0
 ·cases h0;rw [hS y];simp
 ·cases h0
theorem outGo_len:∀ (l:List Ed) (EE:List (List Ed)),(outGo EE l).length=EE.length
 | [],EE=>rfl
 | e::l,EE=>by simp only [outGo];rw [outGo_len l];simp
theorem outOf_len (L:GL):(outOf L).length=L.n.toNat:=by unfold outOf;rw [outGo_len];simp
structure Law5 (L M:GL) (kind:Int) (prs:List (Int×Int)):Prop where
 rng:∀ p∈prs,(0<=p.1/\p.1<L.n)/\(0<=p.2/\p.2<M.n)
 zero:((0:Int),(0:Int))∈prs
 step:∀ (s t:Int) (x:Ed) (cx:CL),(s,t)∈prs->x∈L.eds->x.1=s->L.labs[x.2.1.toNat]?=some cx->Shown M kind prs x cx (decide (cx.1=-1)) t
structure Fix5 (k g:AH) (lo1 lo2 a4 a5 a6 bs1 bs2:Nat) (L M:GL) (kind:Int) (prs:List (Int×Int)) (cells1 cells2:List Value) (vlL veL vlM veM vp:Value) (elsL elsM:List (List Value)):Prop where
 r4:g.get a4=some (.row [.int .i64 L.n,vlL,veL] 25 0 false)
 r5:g.get a5=some (.row [.int .i64 M.n,vlM,veM] 25 0 false)
 r6:g.get a6=some (.row [.int .i64 kind,vp] 32 0 false)
 l4:a4<g.next
 l5:a5<g.next
 l6:a6<g.next
 kg:k.next<=g.next
 aL:Arr g 2 vlL elsL
 lL:RLab g elsL L.labs
 aM:Arr g 2 vlM elsM
 lM:RLab g elsM M.labs
 ap:Arr g 2 vp (prs.map zJ)
 hp:prs.length<=4000
 O1:LoL lo1 g bs1 cells1 (outOf L)
 O2:LoL lo2 g bs2 cells2 (outOf M)
theorem LoL.ext {lo bs:Nat} {g h:AH} {cells:List Value} {EE:List (List Ed)} (G:LoL lo g bs cells EE) (e:Ext g h):LoL lo h bs cells EE:=
 ⟨(e.get _ G.lts).trans G.s,G.len,Nat.lt_of_lt_of_le G.lts e.next,G.locs,fun i c S hc hS=>by
  rcases G.cell i c S hc hS with h1|⟨b,h1,h2,h3⟩
  ·exact .inl h1
  ·exact .inr ⟨b,h1,(e.get b h3).trans h2,Nat.lt_of_lt_of_le h3 e.next⟩,G.blk,G.dis⟩
theorem rem_idx {a:Int} {n:Nat} (hn:0<n) (hn2:n<=1000000):∃ i:Nat,i<n/\in64 (a.tmod n+n)/\(a.tmod n+n).tmod n=(i:Int):=by
 have h1:a.tmod n<n:=Int.tmod_lt_of_pos a (by omega)
 have h2:-(n:Int)<a.tmod n:=by
  have:=Int.tmod_lt_of_pos (-a) (show (0:Int)<n by omega)
  rw [Int.neg_tmod] at this
  omega
 have h3:0<=a.tmod n+n:=by omega
 have h4:(a.tmod n+n).tmod n<n:=Int.tmod_lt_of_pos _ (by omega)
 have h5:0<=(a.tmod n+n).tmod n:=Int.tmod_nonneg _ h3
 obtain ⟨i,hi⟩:=Int.eq_ofNat_of_zero_le h5
 exact ⟨i,by omega,by unfold in64;omega,hi⟩
end Go.Proofs
namespace Go.Proofs
open Go Go.AM
set_option maxRecDepth 100000
set_option maxHeartbeats 8000000
theorem tm2 {u v:Nat} (h:u≠v) (x y:Value):(zj [(u,x),(v,y)]).get u=x/\(zj [(u,x),(v,y)]).get v=y:=by
 constructor
 ·simp [zj,Tm.get_put]
 ·simp only [zj,Tm.get_put];rw [if_neg (fun e=>h e.symm),if_pos trivial]
theorem remA {a:Int} {n:Nat} (hn:0<n):zAQ E (zj [(81,.int .i64 a),(86,.int .i64 (n:Int))]) (zy B5 [1,1,1,1,1,0,1,0,0,1,1,0,0,1,1,0] 10)=some (.int .i64 (a.tmod n)):=
 rem_ok (u:=81) (v:=86) (by kernel_rfl) hn (tm2 (by decide) _ _).1 (tm2 (by decide) _ _).2
theorem remB {a:Int} {n:Nat} (hn:0<n):zAQ E (zj [(93,.int .i64 a),(98,.int .i64 (n:Int))]) (zy B5 [1,1,1,1,1,0,1,0,0,1,1,0,0,1,1,0] 22)=some (.int .i64 (a.tmod n)):=
 rem_ok (u:=93) (v:=98) (by kernel_rfl) hn (tm2 (by decide) _ _).1 (tm2 (by decide) _ _).2
theorem veq_ed (e:Ed):veq 100 (.agg ⟨zP e⟩) (.agg ⟨zP e⟩)=true:=by
 show veqs 99 (zP e) (zP e)=true
 simp only [zP,veqs,zCf,Bool.and_self]
section
variable {k g0:AH} {lo1 lo2 a4 a5 a6 bs1 bs2:Nat} {L M:GL} {kind:Int} {prs:List (Int×Int)} {cells1 cells2:List Value} {vlL veL vlM veM vp:Value} {elsL elsM:List (List Value)}
theorem eds_of {M:GL} (hM:zAZ M=false) {i:Nat} {S:List Ed} (h:(outOf M)[i]?=some S):∀ y∈S,(0<=y.2.1/\y.2.1<M.labs.length)/\0<=y.2.2/\y.2.2<M.n:=by
 intro y hy
 obtain ⟨h1,_⟩:=(outOf_mem h y).1 hy
 obtain ⟨j,hj⟩:=List.getElem?_of_mem h1
 obtain ⟨_,b,c⟩:=bad_edges hM hj
 exact ⟨c,b⟩
theorem rounds5 {K:KF} {v65:Value} {ch:List Int} {N1 N2:Nat} (F:Fix5 k g0 lo1 lo2 a4 a5 a6 bs1 bs2 L M kind prs cells1 cells2 vlL veL vlM veM vp elsL elsM) (W:Law5 L M kind prs)
  (hL:zAZ L=false) (hM:zAZ M=false) (hN1:L.n=(N1:Int)) (hN2:M.n=(N2:Int)) (hc1:cells1.length=N1) (hc2:cells2.length=N2) (hS1:∀ S∈outOf L,S.length<=100000) (hS2:∀ S∈outOf M,S.length<=100000)
  (hch:Arr g0 1 v65 (ch.map i1)) (hchl:ch.length<=20) (hend:∀ h,Own k h->K .ret [.bool true] h) :
  ∀ (m i:Nat),i+m=ch.length->∀ h v12 st s,Own k h->Ext g0 h->Arr h 1 v12 (st.map i1)->st.length<=100000->st≠[]->(∀ t∈st,(s,t)∈prs)->
   P5_8 true K (ptr a4) (ptr a5) (ptr a6) (.slice (some ⟨bs1,0,none⟩) N1 N1) (.slice (some ⟨bs2,0,none⟩) N2 N2) (.int .i64 s) v12 v65 (.int .i64 (ch.length:Int)) (.int .i64 (i:Int)) h:=by
 obtain ⟨z1,z2,z3,z4⟩:=zBC hM
 intro m
 induction m with
 | zero=>
  intro i hi h v12 st s ho he hst hsl hne hR
  refine P5_8_of ?_
  simp only [zA,zd,show decide ((i:Int)<(ch.length:Int))=false from decide_eq_false (by omega),zAE]
  exact P5_38_of (by simp only [zA];exact hend h ho)
 | succ m ih=>
  intro i hi h v12 st s ho he hst hsl hne hR
  have hin:i<ch.length:=by omega
  obtain ⟨c,hc⟩:∃ c,ch[i]?=some c:=⟨_,List.getElem?_eq_getElem hin⟩
  obtain ⟨t0,ht0⟩:∃ t,t∈st:=by
   cases st with
   | nil=>exact absurd rfl hne
   | cons a l=>exact ⟨a,by simp⟩
  obtain ⟨⟨hs1,hs2⟩,_⟩:=W.rng _ (hR t0 ht0)
  simp only at hs1 hs2
  obtain ⟨sn,rfl⟩:=Int.eq_ofNat_of_zero_le hs1
  have hsN:sn<N1:=by omega
  refine P5_8_of ?_
  simp only [zA,zd,show decide ((i:Int)<(ch.length:Int))=true from decide_eq_true (by omega),zAK]
  refine P5_9_of ?_
  obtain ⟨p,q1,q2⟩:=idx47 hch he hc
  simp only [zA,q1,q2]
  have O1:=F.O1.ext he
  obtain ⟨cc,hcell⟩:∃ c,cells1[sn]?=some c:=⟨_,List.getElem?_eq_getElem (by omega)⟩
  obtain ⟨SS,hout⟩:∃ S,(outOf L)[sn]?=some S:=⟨_,List.getElem?_eq_getElem (by rw [← O1.len];omega)⟩
  have hC:=O1.cell sn _ _ hcell hout
  have hSl:=hS1 _ (List.mem_of_getElem? hout)
  have ls:=zD (P:=E) ta_23 (o:=0+sn*1) O1.s
  rw [zAa,show 0+sn*1=sn by omega,hcell] at ls
  have ia:=ia_49 (b:=bs1) (o:=0) (c:=N1) (len:=N1) (k:=sn) hsN
  rw [show 0+sn*1=sn by omega] at ia
  have harr:=hC.arr
  obtain ⟨_,_,cveq⟩:=hC.leaf
  obtain ⟨ad3,cp3,hv3⟩:=harr.slice
  rw [List.length_map] at hv3
  subst hv3
  refine P5_10_of ?_
  simp only [zA,ia,ls,len5_10_4,zAU,zAL]
  refine ⟨fun _=>P5_11_of (by simp only [zA];exact hend h ho),fun hnz=>?_⟩
  have hpos:0<SS.length:=by omega
  obtain ⟨ix,hix,hin64,hrem⟩:=rem_idx (a:=c) hpos (by omega)
  obtain ⟨x,hx⟩:∃ x,SS[ix]?=some x:=⟨_,List.getElem?_eq_getElem hix⟩
  have hxS:=List.mem_of_getElem? hx
  have hx':(SS.map zP)[ix]?=some (zP x):=by rw [List.getElem?_map,hx];rfl
  obtain ⟨hxe,hxf⟩:=(outOf_mem hout x).1 hxS
  obtain ⟨⟨hxl1,hxl2⟩,hxt1,hxt2⟩:=eds_of hL hout x hxS
  obtain ⟨jx,hjx⟩:=List.getElem?_of_mem hxe
  obtain ⟨⟨hxs1,_⟩,_⟩:=bad_edges hL hjx
  have hxs:x.1=(sn:Int):=by omega
  obtain ⟨m0,e0,n0,t0',o0,f0⟩:=nw ho (.row [.int .i64 0,.int .i64 0,.int .i64 0] 52 0 false)
  have E0:Ext h m0:=⟨o0.ext.ok,by omega,f0⟩
  obtain ⟨px,qx,wx⟩:=idx23 harr (Ext.refl ho.ext.ok) hx'
  have wx0:zG E 52 m0 (some px)=some (.agg ⟨zP x⟩):=by
   obtain ⟨px',qx',wx'⟩:=idx23 harr E0 hx'
   rw [qx] at qx';cases qx';exact wx'
  have O10:=O1.ext E0
  have ls0:=zD (P:=E) ta_23 (o:=0+sn*1) O10.s
  rw [zAa,show 0+sn*1=sn by omega,hcell] at ls0
  have hst0:=z0 (P:=E) ts_52 (o:=0) (x:=.agg ⟨zP x⟩) (cs:=zP x) t0' rfl rfl (by simp) (by simp [zP,zp])
  rw [show lput [Value.int .i64 0,.int .i64 0,.int .i64 0] 0 (zP x)=zP x from rfl] at hst0
  obtain ⟨g,eg,ng,tg,og,fg⟩:=up o0 (b:=h.next) (by have:=ho.ext.next;omega) (.row (zP x) 52 0 false)
  have Eg:Ext h g:=⟨og.ext.ok,by omega,fun b hb=>(fg b (by omega)).trans (f0 b hb)⟩
  refine P5_12_of ?_
  simp only [zA,ia,ls,len5_12_9,len5_12_15,len5_12_21,remA hpos,zAJ _ hin64,remB hpos,hrem,qx,wx,z_52,ze,zL,zS,e0,wx0,veq_ed,ls0,cveq,true_and,hst0,eg,zCf,len5_12_9,len5_12_15,len5_12_21]
  refine P5_13_of ?_
  obtain ⟨g1,e1,n1,t1,o1,f1⟩:=nw og (.row [.slice none 0 0] 47 0 false)
  simp only [z_47,ze,zL,zDH,e1]
  refine P5_14_of ?_
  simp only [zAp,zA]
  have E1:Ext g g1:=⟨o1.ext.ok,by omega,f1⟩
  have Fg:Ext g0 g:=he.trans Eg
  have hg0:=he.next
  have C:Cxt g lo2 a4 a5 a6 h.next bs2 L M kind prs x cells2 vlL veL vlM veM vp elsL elsM:=
   ⟨(Fg.get _ F.l4).trans F.r4,(Fg.get _ F.l5).trans F.r5,(Fg.get _ F.l6).trans F.r6,tg,by have:=F.l4;omega,by have:=F.l5;omega,by have:=F.l6;omega,by omega,F.aL.ext Fg,F.lL.ext Fg,F.aM.ext Fg,F.lM.ext Fg,F.ap.ext Fg,F.hp,F.O2.ext Fg⟩
  obtain ⟨lx,hlx⟩:=Int.eq_ofNat_of_zero_le hxl1
  have hlxn:lx<L.labs.length:=by omega
  obtain ⟨cx,hcx⟩:∃ c,L.labs[lx]?=some c:=⟨_,List.getElem?_eq_getElem hlxn⟩
  have hcx':L.labs[x.2.1.toNat]?=some cx:=by rw [hlx];exact hcx
  obtain ⟨eL,heL⟩:∃ e,elsL[lx]?=some e:=⟨_,List.getElem?_eq_getElem (by rw [RLab.length F.lL];exact hlxn)⟩
  obtain ⟨gx,vx,ll,rfl,hrx,hlabL⟩:=RLab.at F.lL lx eL heL
  rw [hcx] at hlabL
  cases hlabL
  obtain ⟨p2,p3,r2,r3,w3⟩:=idx22f C.aL E1 heL
  have k4:=(E1.get _ C.l4).trans C.r4
  have k15:=(E1.get _ C.l15).trans C.r15
  have d4:=zD (P:=E) ta_22 (o:=1) k4
  have d15:=zD (P:=E) zAS (o:=1) k15
  simp only [lnth,zP,hlx] at d4 d15
  refine P5_15_of ?_
  simp only [zAj,zBW,Nat.zero_add,d4,d15,zA,r2,r3,w3,zAU]
  refine P5_16_of ?_
  obtain ⟨ad4,cp4,hv4⟩:=hst.slice
  rw [List.length_map] at hv4
  subst hv4
  simp only [zA,len5_16_1]
  refine set5 (st:=st) (cx:=(gx,ll)) (N:=N2) C hcx' hxl1 hN2 (by omega) hc2 (fun i S hS=>⟨hS2 S (List.mem_of_getElem? hS),eds_of hM hS⟩) (hst.ext Eg) (by omega) (fun t ht=>(W.rng _ (hR t ht)).2) (fun t ht=>W.step sn t x (gx,ll) (hR t ht) hxe hxs hcx') (fun h2 vn ln H hn hr hne2=>?_) st.length 0 (by omega) g1 (.slice none 0 0) [] ⟨o1,E1,by have:=og.ext.next;omega,t1,by omega,.inl ⟨rfl,rfl⟩⟩ (by simp) (by simp) (fun h=>absurd rfl h)
  have hlnne:=hne2 hne
  obtain ⟨ad5,cp5,hv5⟩:=H.ins.slice
  have c16:=zD (P:=E) ta_47 (o:=0) H.r16
  simp only [lnth] at c16
  refine P5_34_of ?_
  have hlen0:¬ ((ln.length:Int)=0):=by
   have:=List.length_pos_iff.2 hlnne
   omega
  rw [hv5] at c16
  simp only [c16,zA,len5_34_1,zAU,hlen0,decide_false,zAE]
  refine P5_36_of ?_
  have k15':=(H.ex.get _ C.l15).trans C.r15
  have d15':=zD (P:=E) zAS (o:=2) k15'
  simp only [lnth,zP] at d15'
  simp only [zA1,Nat.zero_add,d15',zA,c16]
  refine P5_37_of ?_
  simp only [zAJ _ (add1 hin (by omega)),zA]
  have hPl:ln.length<=prs.length:=(Pure5.lenn (M:=M) (lc:=[]) ⟨by simp,by simp,hn,hr⟩)
  have hpp:=F.hp
  have harr2:=H.ins.arr
  rw [hv5] at harr2
  exact ih (i+1) (by omega) h2 _ ln x.2.2 H.ow (Fg.trans H.ex) harr2 (by omega) hlnne hr
end
theorem check0 {L M:GL} {B:GB} (h:checkV L M B=0):zAZ L=false/\zAZ M=false/\zBt B=0/\relV L M B=true:=by
 unfold checkV at h
 split at h
 ·cases h
 ·rename_i h1
  rw [Bool.or_eq_true,not_or] at h1
  split at h
  ·rename_i h2;exact absurd h h2
  ·rename_i h2
   split at h
   ·rename_i h3;exact ⟨by simpa using h1.1,by simpa using h1.2,by simpa using h2,h3⟩
   ·cases h
theorem idx_one (p:Nat->Bool):decide (0<=zt p 1 0)=p 0:=by
 cases h:p 0 <;> simp [zt,h]
theorem arr2 {k:AH} {b:Nat} {e f:List Value} {z:Nat} {ty:TypeId} (he:e.length=z) (hf:f.length=z) (h:k.get b=some (.row (e++f) ty 0 false)) (hl:b<k.next):Arr k z (.slice (some ⟨b,0,none⟩) 2 2) [e,f]:=by
 refine Arr.row (els:=[e,f]) h hl (by simp [he,hf];omega) fun i x hx=>?_
 match i with
 | 0=>simp at hx;subst hx;exact ⟨he,by simp [← he]⟩
 | 1=>simp at hx;subst hx;exact ⟨hf,by rw [show 0+1*z=e.length by omega,List.drop_left];rw [← hf];simp⟩
 | i+2=>simp at hx
theorem call5 {k:AH} {x y:Value} {L M:GL} {e:List Value} {B:GB} {v65:Value} {ch:List Int} (hok:k.ok) (hx:RL k x L) (hy:RL k y M) (he:RB k e B) (hch:Arr k 1 v65 (ch.map i1))
  (law:checkV L M B=0->Law5 L M B.kind B.prs):(zV E).call 5 [x,y,.agg ⟨e⟩,v65] k=some [(.bool true,k)]:=by
 obtain ⟨vl,ve,elsL,rfl,x2,x3,x4⟩:=id hx.ex
 obtain ⟨wl,we,elsM,rfl,y2,y3,y4⟩:=id hy.ex
 obtain ⟨vp,rfl,e2⟩:=id he.ex
 obtain ⟨xa,xb,hvl⟩:=x2.slice
 obtain ⟨xc,xd,hve⟩:=x4.slice
 obtain ⟨ya,yb,hwl⟩:=y2.slice
 obtain ⟨yc,yd,hwe⟩:=y4.slice
 obtain ⟨pa,pb,hvp⟩:=e2.slice
 obtain ⟨ca,cb,hv65⟩:=hch.slice
 rw [List.length_map] at hve hwe hvp hv65
 subst hv65
 refine F5_flat (s:=true) hok rfl (P5_0_of ?_)
 obtain ⟨k1,e1,n1,t1,o1,f1⟩:=nwF k (.row [.int .i64 L.n,vl,ve] 25 0 false)
 obtain ⟨k2,e2',n2,t2,o2,f2⟩:=nw o1 (.row [.int .i64 M.n,wl,we] 25 0 false)
 obtain ⟨k3,e3,n3,t3,o3,f3⟩:=nw o2 (.row [.int .i64 B.kind,vp] 32 0 false)
 simp only [ze,zL,zS,zA,e1,e2',e3,zb]
 refine P5_1_of ?_
 simp only [zZ,call13,zO,zz,zA,Bool.not_true,zAE]
 have g4:=((f3 _ (by omega)).trans (f2 _ (by omega))).trans t1
 have g5:=(f3 _ (by omega)).trans t2
 have fin:∀ h,Own k h->P5_4 true (KR E [.tmp 8] fun x l=>x=.bool true/\k.next<=l.wm) h:=fun h ho=>P5_4_of (by simp only [zA,zAN,zX,true_and];exact ho.wm)
 refine P5_3_of ?_
 have a4:=zW (P:=E) ta_25 (o:=0) g4 (by simp)
 have a5:=zW (P:=E) ta_25 (o:=0) g5 (by simp)
 simp only [List.drop_zero,List.take] at a4 a5
 obtain ⟨k4,e4,n4,t4,o4,f4⟩:=nw o3 (.row [.int .i64 L.n,vl,ve,.int .i64 M.n,wl,we] 25 0 false)
 have X4:Ext k k4:=o4.ext
 obtain ⟨b14,c14⟩:=call14 (k:=k4) (v:=.slice (some ⟨k3.next,0,none⟩) 2 2) (els:=[[.int .i64 L.n,vl,ve],[.int .i64 M.n,wl,we]]) (Ls:=[L,M]) o4.ext.ok (arr2 rfl rfl t4 (by omega)) rfl (by simp) (fun i ee LL h1 h2=>by
  match i with
  | 0=>simp at h1 h2;subst h1 h2;exact hx.ext X4
  | 1=>simp at h1 h2;subst h1 h2;exact hy.ext X4
  | i+2=>simp at h1)
 simp only [a4,a5,zA,bs82,zL,e4,zZ,c14,zO,zz]
 cases b14 with
 | false=>
  simp only [Bool.not_false,zA,zM,zY,show (true==false)=false from rfl,cond_false,zL,zK,cond_true,zAK]
  exact fin _ o4
 | true=>
 have h6:=(f4 _ (by omega)).trans t3
 have a6:=zW (P:=E) ta_32 (o:=0) h6 (by simp)
 simp only [List.drop_zero,List.take] at a6
 obtain ⟨k5,e5,n5,t5,o5,f5⟩:=nw o4 (.row [.int .i64 B.kind,vp] 32 0 false)
 have hc19:=call19 (h0:=k5) (k:=k5) (v:=.slice (some ⟨k4.next,0,none⟩) 1 1) (els:=[[.int .i64 B.kind,vp]]) (Bs:=[B])
  (Arr.row (els:=[[.int .i64 B.kind,vp]]) t5 (by omega) (by simp) (fun i ee hee=>by
   match i with
   | 0=>simp at hee;subst hee;exact ⟨rfl,rfl⟩
   | i+1=>simp at hee)) rfl (by simp) (fun i ee BB h1 h2=>by
   match i with
   | 0=>simp at h1 h2;subst h1 h2;exact he.ext o5.ext
   | i+1=>simp at h1) (Ext.refl o5.ext.ok)
 simp only [List.length_cons,List.length_nil,Nat.zero_add,idx_one,longAt,List.getElem?_cons_zero] at hc19
 have hc19':(zV E).call 19 [.slice (some ⟨k4.next,0,none⟩) 1 1] k5=some [(.bool (!decide ((4000:Int)<(B.prs.length:Int))),k5)]:=hc19
 simp only [Bool.not_true,zA,zM,zY,beq_self_eq_true,cond_true,a6,bs83,zL,e5,zZ,hc19',zO,zz,zK,cond_false]
 by_cases hlong:(4000:Int)<(B.prs.length:Int)
 ·simp only [hlong,decide_true,Bool.not_true,Bool.not_false,zA,zM,zY,show (true==false)=false from rfl,cond_false,zL,zK,cond_true,zAK]
  exact fin _ o5
 simp only [hlong,decide_false,Bool.not_false,Bool.not_true,zA,zM,beq_self_eq_true,cond_true]
 simp only [len5_3_13,zA,zAM,zK,cond_false]
 by_cases hmany:(20:Int)<(ch.length:Int)
 ·simp only [hmany,decide_true,zA,zM,zY,show (true==false)=false from rfl,cond_false,zL,zK,cond_true,zAK]
  exact fin _ o5
 have i4:=(f5 _ (by omega)).trans ((f4 _ (by omega)).trans g4)
 have i5:=(f5 _ (by omega)).trans ((f4 _ (by omega)).trans g5)
 have i6:=(f5 _ (by omega)).trans h6
 have c4:=zW (P:=E) ta_25 (o:=0) i4 (by simp)
 have c5:=zW (P:=E) ta_25 (o:=0) i5 (by simp)
 have c6:=zW (P:=E) ta_32 (o:=0) i6 (by simp)
 simp only [List.drop_zero,List.take] at c4 c5 c6
 have hc15:=call15 o5.ext.ok (hx.ext o5.ext) (hy.ext o5.ext) (he.ext o5.ext)
 obtain ⟨r1,hc23a⟩:=call23 o5.ext.ok (hx.ext o5.ext)
 obtain ⟨r2,hc23b⟩:=call23 o5.ext.ok (hy.ext o5.ext)
 simp only [hmany,decide_false,zA,zM,zY,beq_self_eq_true,cond_true,c4,c5,c6,zZ,hc15,zO,zBY,zK,cond_false]
 by_cases hck:checkV L M B=0
 rotate_left
 ·simp only [hck,decide_false,Bool.not_false,zA,zM,zY,show (true==false)=false from rfl,cond_false,zL,zK,cond_true,zAK]
  exact fin _ o5
 simp only [hck,decide_true,Bool.not_true,zA,zM,zY,beq_self_eq_true,cond_true,c4,hc23a,zO,zBY,zK,cond_false]
 by_cases hr1:r1=0
 rotate_left
 ·simp only [hr1,decide_false,Bool.not_false,zA,zM,zY,show (true==false)=false from rfl,cond_false,zL,zK,cond_true,zAK]
  exact fin _ o5
 simp only [hr1,decide_true,Bool.not_true,zA,zM,zY,beq_self_eq_true,cond_true,c5,hc23b,zO,zBY,zK,cond_false]
 by_cases hr2:r2=0
 rotate_left
 ·simp only [hr2,decide_false,Bool.not_false,zAK]
  exact fin _ o5
 simp only [hr2,decide_true,Bool.not_true,zAE]
 obtain ⟨hL,hM,hlk,_⟩:=check0 hck
 have W:=law hck
 obtain ⟨zl1,zl2,_,_⟩:=zBC hL
 obtain ⟨zm1,zm2,_,_⟩:=zBC hM
 obtain ⟨N1,hN1⟩:=Int.eq_ofNat_of_zero_le (show 0<=L.n by omega)
 obtain ⟨N2,hN2⟩:=Int.eq_ofNat_of_zero_le (show 0<=M.n by omega)
 refine P5_5_of ?_
 simp only [c4,c5,zA,zZ]
 refine (call24 o5.ext.ok (hx.ext o5.ext) hL hN1).mono fun u hu=>?_
 obtain ⟨w1,h1⟩:=u
 obtain ⟨bs1,cells1,hw1,O1,hc1,hS1,fx1⟩:=hu
 simp only at hw1 O1 fx1 ⊢
 subst hw1
 have j4:=(fx1.get _ (by omega) (fun h=>h)).trans i4
 have j5:=(fx1.get _ (by omega) (fun h=>h)).trans i5
 have j6:=(fx1.get _ (by omega) (fun h=>h)).trans i6
 have d5:=zW (P:=E) ta_25 (o:=0) j5 (by simp)
 simp only [List.drop_zero,List.take] at d5
 have ow1:=fx1.own o5 (fun _ h=>h.elim)
 have hveq:veq 100 (.agg ⟨[.int .i64 M.n,wl,we]⟩) (.agg ⟨[.int .i64 M.n,wl,we]⟩)=true:=by rw [hwl,hwe];exact veq_slice3
 simp only [d5,zA,hveq,true_and]
 refine (call24 ow1.ext.ok (hy.ext ow1.ext) hM hN2).mono fun u hu=>?_
 obtain ⟨w2,h2⟩:=u
 obtain ⟨bs2,cells2,hw2,O2,hc2,hS2,fx2⟩:=hu
 simp only at hw2 O2 fx2 ⊢
 subst hw2
 have ow2:=fx2.own ow1 (fun _ h=>h.elim)
 have O1':=O1.fx fx2 (fun h=>h) (fun _ _ _ _ _ h=>h)
 have hn1:=fx1.next
 have hn2:=fx2.next
 have l4:=(fx2.get _ (by omega) (fun h=>h)).trans j4
 have l5:=(fx2.get _ (by omega) (fun h=>h)).trans j5
 have l6:=(fx2.get _ (by omega) (fun h=>h)).trans j6
 refine P5_6_of ?_
 obtain ⟨g0,eg,ng,tg,og,fg⟩:=nw ow2 (.row [.int .i64 0] 3 0 false)
 simp only [bs47,zL,eg,zA]
 have Eg:Ext h2 g0:=⟨og.ext.ok,by omega,fg⟩
 refine P5_7_of ?_
 simp only [len5_7_1,zA]
 have hset:LS k.next g0 (.slice (some ⟨h2.next,0,none⟩) 1 1) [0]:=⟨h2.next,1,rfl,by have:=ow2.ext.next;omega,by omega,.inl ⟨rfl,rfl,tg⟩⟩
 have hchg:=hch.ext og.ext
 refine rounds5 (k:=k) (g0:=g0) (N1:=N1) (N2:=N2) (kind:=B.kind) (prs:=B.prs) ⟨(fg _ (by omega)).trans l4,(fg _ (by omega)).trans l5,(fg _ (by omega)).trans l6,by omega,by omega,by omega,og.ext.next,x2.ext og.ext,x3.ext og.ext,y2.ext og.ext,y3.ext og.ext,e2.ext og.ext,by omega,O1'.ext Eg,O2.ext Eg⟩ W hL hM hN1 hN2 hc1 hc2 hS1 hS2 hchg (by omega) (fun h ho=>by
  simp only [zAN,zX,true_and];exact ho.wm) ch.length 0 (by omega) g0 _ [0] 0 og (Ext.refl og.ext.ok) hset.arr (by simp) (by simp) (fun t ht=>by simp at ht;subst ht;exact W.zero)
end Go.Proofs
namespace Go.Proofs
open Go Go.AM
set_option maxHeartbeats 1000000
def lexc:List Int->List Int->Int
 | [],[]=>0
 | [],_::_=>-1
 | _::_,[]=>1
 | a::aas,b::bs=>if c3 a b=0 then lexc aas bs else c3 a b
mutual
def encT:GT->List Int
 | .mk k n l=>k::n::(l.length:Int)::encL l
def encL:List GT->List Int
 | []=>[]
 | t::ts=>encT t++encL ts
end
theorem c3_zero {a b:Int}:c3 a b=0 ↔ a=b:=by
 unfold c3
 split
 ·constructor
  ·intro h;cases h
  ·intro h;omega
 ·split
  ·constructor
   ·intro h;cases h
   ·intro h;omega
  ·constructor
   ·intro;omega
   ·intro;rfl
theorem c3_neg {a b:Int}:c3 a b<0 ↔ a<b:=by
 unfold c3
 split
 ·constructor <;> intro <;> omega
 ·split <;> constructor <;> intro h <;> first|omega|(exfalso;revert h;decide)
mutual
theorem cmpT_lex:∀ (t u:GT) (r r':List Int),lexc (encT t++r) (encT u++r')=if cmpT t u=0 then lexc r r' else cmpT t u
 | .mk k n l,.mk k' n' l',r,r'=>by
  simp only [encT,List.cons_append,lexc,cmpT,orI]
  by_cases h1:c3 k k'=0
  ·by_cases h2:c3 n n'=0
   ·by_cases h3:c3 (l.length:Int) (l'.length:Int)=0
    ·have hlen:l.length=l'.length:=by have:=c3_zero.1 h3;omega
     simp only [h1,h2,h3,ne_eq,not_true_eq_false,if_true,if_false]
     exact cmpL_lex l l' hlen r r'
    ·simp only [h1,h2,h3,ne_eq,not_true_eq_false,not_false_eq_true,if_true,if_false]
   ·simp only [h1,h2,ne_eq,not_true_eq_false,not_false_eq_true,if_true,if_false]
  ·simp only [h1,ne_eq,not_true_eq_false,not_false_eq_true,if_true,if_false]
theorem cmpL_lex:∀ (l l':List GT),l.length=l'.length->∀ (r r':List Int),lexc (encL l++r) (encL l'++r')=if cmpL l l'=0 then lexc r r' else cmpL l l'
 | [],[],_,r,r'=>by simp [encL,cmpL]
 | t::ts,u::us,h,r,r'=>by
  simp only [encL,List.append_assoc,cmpL]
  rw [cmpT_lex t u,cmpL_lex ts us (by simpa using h) r r']
  by_cases h1:cmpT t u=0 <;> simp [h1]
 | [],_::_,h,_,_=>by simp at h
 | _::_,[],h,_,_=>by simp at h
end
theorem cmpL_lex0:∀ (l l':List GT),lexc (encL l) (encL l')=cmpL l l'
 | [],[]=>rfl
 | [],.mk k n l::us=>by simp [encL,encT,lexc,cmpL]
 | .mk k n l::ts,[]=>by simp [encL,encT,lexc,cmpL]
 | t::ts,u::us=>by
  simp only [encL,cmpL]
  rw [cmpT_lex t u,cmpL_lex0 ts us]
  by_cases h1:cmpT t u=0 <;> simp [h1]
def kc (c:CL):List Int:=c.1::encL c.2
theorem cmpLab_lex (c d:CL):cmpLab c.1 c.2 d.1 d.2=lexc (kc c) (kc d):=by
 simp only [cmpLab,orI,kc,lexc,cmpL_lex0]
 by_cases h:c3 c.1 d.1=0
 ·simp only [h,ne_eq,not_true_eq_false,if_false,if_true]
  by_cases h2:cmpL c.2 d.2=0
  ·rw [h2];simp
  ·simp [h2]
 ·simp [h]
theorem lex_self:∀ a:List Int,lexc a a=0
 | []=>rfl
 | a::aas=>by simp [lexc,c3_zero.2 rfl,lex_self aas]
theorem lex_flip:∀ a b:List Int,(lexc a b<0 ↔ 0<lexc b a)
 | [],[]=>by simp [lexc]
 | [],_::_=>by simp [lexc]
 | _::_,[]=>by simp [lexc]
 | a::aas,b::bs=>by
  simp only [lexc]
  rcases Int.lt_trichotomy a b with h|h|h
  ·have h1:c3 a b=-1:=by unfold c3;rw [if_pos h]
   have h2:c3 b a=1:=by unfold c3;rw [if_neg (by omega),if_pos h]
   simp [h1,h2]
  ·subst h
   simp only [c3_zero.2 rfl,if_true]
   exact lex_flip aas bs
  ·have h1:c3 a b=1:=by unfold c3;rw [if_neg (by omega),if_pos h]
   have h2:c3 b a=-1:=by unfold c3;rw [if_pos h]
   simp [h1,h2]
theorem lex_trans:∀ a b c:List Int,lexc a b<0->lexc b c<0->lexc a c<0
 | a,[],c,h1,h2=>by cases a <;> simp [lexc] at h1
 | [],b::bs,c,h1,h2=>by
  cases c with
  | nil=>simp [lexc] at h2
  | cons x xs=>simp [lexc]
 | a::aas,b::bs,c,h1,h2=>by
  cases c with
  | nil=>simp [lexc] at h2
  | cons x xs=>
   simp only [lexc] at h1 h2 ⊢
   by_cases e1:c3 a b=0
   ·rw [if_pos e1] at h1
    have:=c3_zero.1 e1
    subst this
    by_cases e2:c3 a x=0
    ·rw [if_pos e2] at h2 ⊢
     exact lex_trans aas bs xs h1 h2
    ·rw [if_neg e2] at h2 ⊢;exact h2
   ·rw [if_neg e1] at h1
    have hab:=c3_neg.1 h1
    by_cases e2:c3 b x=0
    ·have:=c3_zero.1 e2
     subst this
     rw [if_neg e1];exact h1
    ·rw [if_neg e2] at h2
     have hbx:=c3_neg.1 h2
     have:c3 a x<0:=c3_neg.2 (by omega)
     rw [if_neg (by omega)];exact this
mutual
theorem cmpT_eq:∀ t u:GT,cmpT t u=0->t=u
 | .mk k n l,.mk k' n' l',h=>by
  simp only [cmpT,orI] at h
  by_cases h1:c3 k k'=0
  ·by_cases h2:c3 n n'=0
   ·by_cases h3:c3 (l.length:Int) (l'.length:Int)=0
    ·simp only [h1,h2,h3,ne_eq,not_true_eq_false,if_false] at h
     rw [c3_zero.1 h1,c3_zero.1 h2,cmpL_eq l l' h]
    ·simp only [h1,h2,h3,ne_eq,not_true_eq_false,not_false_eq_true,if_true,if_false] at h
   ·simp only [h1,h2,ne_eq,not_true_eq_false,not_false_eq_true,if_true,if_false] at h
  ·simp only [h1,ne_eq,not_true_eq_false,not_false_eq_true,if_true,if_false] at h
theorem cmpL_eq:∀ l m:List GT,cmpL l m=0->l=m
 | [],[],_=>rfl
 | [],_::_,h=>by simp [cmpL] at h
 | _::_,[],h=>by simp [cmpL] at h
 | t::ts,u::us,h=>by
  simp only [cmpL] at h
  by_cases h1:cmpT t u=0
  ·simp only [h1,ne_eq,not_true_eq_false,if_false] at h
   rw [cmpT_eq t u h1,cmpL_eq ts us h]
  ·simp only [h1,ne_eq,not_false_eq_true,if_true] at h
end
def clt (c d:CL):Prop:=lexc (kc c) (kc d)<0
theorem kc_eq {c d:CL} (h:lexc (kc c) (kc d)=0):c=d:=by
 rw [← cmpLab_lex] at h
 obtain ⟨g,l⟩:=c
 obtain ⟨g',l'⟩:=d
 simp only [cmpLab,orI] at h
 by_cases h1:c3 g g'=0
 ·simp only [h1,ne_eq,not_true_eq_false,if_false] at h
  have h2:cmpL l l'=0:=by
   by_cases h3:cmpL l l'=0
   ·exact h3
   ·simp [h3] at h
  rw [c3_zero.1 h1,cmpL_eq l l' h2]
 ·simp [h1] at h
abbrev Sorted (cs:List CL):Prop:=cs.Pairwise clt
theorem zBX {ls:List CL} {c x:CL} {q:Nat} (h:ls[q]?=some x):cmpLb ls c q=lexc (kc x) (kc c):=by
 unfold cmpLb;rw [h];exact cmpLab_lex x c
theorem sorted_get {cs:List CL} (hs:Sorted cs) {i j:Nat} {x y:CL} (hx:cs[i]?=some x) (hy:cs[j]?=some y) (hij:i<j):clt x y:=by
 obtain ⟨h1,rfl⟩:=List.getElem?_eq_some_iff.1 hx
 obtain ⟨h2,rfl⟩:=List.getElem?_eq_some_iff.1 hy
 exact List.pairwise_iff_getElem.1 hs i j h1 h2 hij
theorem bsGo_ok {ls:List CL} (hs:Sorted ls) (c:CL):∀ (m i j:Nat),j<=i+m->i<=j->j<=ls.length->(∀ q,q<i->cmpLb ls c q<0)->(∀ q,j<=q->q<ls.length->0<=cmpLb ls c q)->
  bsGo ls c m i j<=ls.length/\(∀ q,q<bsGo ls c m i j->cmpLb ls c q<0)/\∀ q,bsGo ls c m i j<=q->q<ls.length->0<=cmpLb ls c q
 | 0,i,j,h1,h2,h3,ha,hb=>by
  have:i=j:=by omega
  subst this
  exact ⟨h3,ha,hb⟩
 | m+1,i,j,h1,h2,h3,ha,hb=>by
  simp only [bsGo]
  by_cases hij:i<j
  ·rw [if_pos hij]
   have hq:(i+j) / 2<ls.length:=by omega
   obtain ⟨x,hx⟩:∃ x,ls[(i+j) / 2]?=some x:=⟨_,List.getElem?_eq_getElem hq⟩
   by_cases hc:cmpLb ls c ((i+j) / 2)<0
   ·rw [if_pos hc]
    refine bsGo_ok hs c m _ j (by omega) (by omega) h3 (fun q hq'=>?_) hb
    by_cases e:q=(i+j) / 2
    ·rw [e];exact hc
    ·obtain ⟨y,hy⟩:∃ y,ls[q]?=some y:=⟨_,List.getElem?_eq_getElem (by omega)⟩
     rw [zBX hx] at hc
     rw [zBX hy]
     exact lex_trans _ _ _ (sorted_get hs hy hx (by omega)) hc
   ·rw [if_neg hc]
    refine bsGo_ok hs c m i _ (by omega) (by omega) (by omega) ha fun q hq1 hq2=>?_
    by_cases e:q=(i+j) / 2
    ·rw [e];omega
    ·obtain ⟨y,hy⟩:∃ y,ls[q]?=some y:=⟨_,List.getElem?_eq_getElem hq2⟩
     rw [zBX hx] at hc
     rw [zBX hy]
     have hxy:=sorted_get hs hx hy (by omega)
     rcases Int.lt_or_le (lexc (kc y) (kc c)) 0 with h|h
     ·exact absurd (lex_trans _ _ _ hxy h) hc
     ·exact h
  ·rw [if_neg hij]
   have:i=j:=by omega
   subst this
   exact ⟨h3,ha,hb⟩
theorem bsI_ok {ls:List CL} (hs:Sorted ls) (c:CL):bsI ls c<=ls.length/\(∀ q,q<bsI ls c->cmpLb ls c q<0)/\∀ q,bsI ls c<=q->q<ls.length->0<=cmpLb ls c q:=
 bsGo_ok hs c ls.length 0 ls.length (by omega) (Nat.zero_le _) (Nat.le_refl _) (fun q h=>absurd h (Nat.not_lt_zero _)) (fun q h1 h2=>by omega)
theorem bs_found {ls:List CL} (hs:Sorted ls) {c:CL} (hc:c∈ls):bsB ls c=true/\ls[bsI ls c]?=some c:=by
 obtain ⟨q,hq⟩:=List.getElem?_of_mem hc
 obtain ⟨h1,h2,h3⟩:=bsI_ok hs c
 have hql:=(List.getElem?_eq_some_iff.1 hq).1
 have hz:cmpLb ls c q=0:=by rw [zBX hq];exact lex_self _
 have hle:bsI ls c<=q:=by
  rcases Nat.lt_or_ge q (bsI ls c) with h|h
  ·have:=h2 q h;omega
  ·exact h
 have he:bsI ls c=q:=by
  rcases Nat.lt_or_ge (bsI ls c) q with h|h
  ·obtain ⟨x,hx⟩:∃ x,ls[bsI ls c]?=some x:=⟨_,List.getElem?_eq_getElem (by omega)⟩
   have h4:=h3 (bsI ls c) (Nat.le_refl _) (by omega)
   rw [zBX hx] at h4
   have h5:=sorted_get hs hx hq h
   unfold clt at h5
   omega
  ·omega
 refine ⟨?_,by rw [he];exact hq⟩
 unfold bsB
 rw [he]
 simp [hql,hz]
theorem bs_hit {ls:List CL} {c:CL} (h:bsB ls c=true):ls[bsI ls c]?=some c:=by
 unfold bsB at h
 simp only [Bool.and_eq_true,decide_eq_true_eq] at h
 obtain ⟨x,hx⟩:∃ x,ls[bsI ls c]?=some x:=⟨_,List.getElem?_eq_getElem h.1⟩
 have h2:=h.2
 rw [zBX hx] at h2
 rw [hx,kc_eq h2]
theorem numL_ok {cs:List CL} (hs:Sorted cs) (c:CL):Sorted (numL cs c).2/\(∀ d∈cs,d∈(numL cs c).2)/\(c.1≠-1->c∈(numL cs c).2):=by
 unfold numL
 by_cases h:c.1=-1
 ·rw [if_pos h];exact ⟨hs,fun d hd=>hd,fun h2=>absurd h h2⟩
 ·rw [if_neg h]
  simp only
  by_cases hb:bsB cs c=true
  ·rw [if_pos hb]
   exact ⟨hs,fun d hd=>hd,fun _=>List.mem_of_getElem? (bs_hit hb)⟩
  ·rw [if_neg hb]
   obtain ⟨h1,h2,h3⟩:=bsI_ok hs c
   have hsp:cs=cs.take (bsI cs c)++cs.drop (bsI cs c):=(List.take_append_drop _ _).symm
   refine ⟨?_,fun d hd=>?_,fun _=>by simp⟩
   ·rw [hsp] at hs
    obtain ⟨p1,p2,p3⟩:=List.pairwise_append.1 hs
    refine List.pairwise_append.2 ⟨p1,List.pairwise_cons.2 ⟨fun d hd=>?_,p2⟩,fun a ha d hd=>?_⟩
    ·obtain ⟨q,hq⟩:=List.getElem?_of_mem hd
     rw [List.getElem?_drop] at hq
     have h4:=h3 (bsI cs c+q) (by omega) (List.getElem?_eq_some_iff.1 hq).1
     rw [zBX hq] at h4
     have hne:lexc (kc d) (kc c)≠0:=by
      intro e
      have:=kc_eq e
      subst this
      exact hb (bs_found (by rw [hsp];exact hs) (List.mem_of_getElem? hq)).1
     exact (lex_flip _ _).2 (by omega)
    ·rcases List.mem_cons.1 hd with rfl|hd
     ·obtain ⟨q,hq⟩:=List.getElem?_of_mem ha
      have hql:=(List.getElem?_eq_some_iff.1 hq).1
      rw [List.length_take] at hql
      rw [List.getElem?_take_of_lt (by omega)] at hq
      have h4:=h2 q (by omega)
      rw [zBX hq] at h4
      exact h4
     ·exact p3 a ha d hd
   ·rw [hsp,List.mem_append] at hd
    simp only [List.mem_append,List.mem_cons]
    rcases hd with hd|hd
    ·exact .inl hd
    ·exact .inr (.inr hd)
theorem numAll_ok:∀ (l:List CL) {cs:List CL},Sorted cs->Sorted (zBL cs l).2/\(∀ d∈cs,d∈(zBL cs l).2)/\∀ c∈l,c.1≠-1->c∈(zBL cs l).2
 | [],cs,hs=>⟨hs,fun d hd=>hd,fun c hc=>by cases hc⟩
 | c::l,cs,hs=>by
  obtain ⟨a1,a2,a3⟩:=numL_ok hs c
  obtain ⟨b1,b2,b3⟩:=numAll_ok l a1
  simp only [zBL]
  refine ⟨b1,fun d hd=>b2 d (a2 d hd),fun d hd h=>?_⟩
  rcases List.mem_cons.1 hd with rfl|hd
  ·exact b2 _ (a3 h)
  ·exact b3 d hd h
def zCs (cs:List CL) (c:CL):Int:=if c.1=-1 then 0 else ((bsI cs c:Nat):Int)+1
theorem numAll_fix:∀ (l:List CL) {cs:List CL},Sorted cs->(∀ c∈l,c.1≠-1->c∈cs)->zBL cs l=(l.map (zCs cs),cs)
 | [],cs,_,_=>rfl
 | c::l,cs,hs,h=>by
  have h1:numL cs c=(zCs cs c,cs):=by
   unfold numL zCs
   by_cases hc:c.1=-1
   ·rw [if_pos hc,if_pos hc]
   ·rw [if_neg hc,if_neg hc,if_pos (bs_found hs (h c (by simp) hc)).1]
  simp only [zBL,h1,numAll_fix l hs fun d hd=>h d (by simp [hd]),List.map_cons]
theorem numOf_inj {cs:List CL} (hs:Sorted cs) {c d:CL} (hc:c.1≠-1->c∈cs) (hd:d.1≠-1->d∈cs) (h:zCs cs c=zCs cs d):(c.1=-1/\d.1=-1)\/c=d:=by
 unfold zCs at h
 by_cases h1:c.1=-1
 ·by_cases h2:d.1=-1
  ·exact .inl ⟨h1,h2⟩
  ·rw [if_pos h1,if_neg h2] at h;omega
 ·by_cases h2:d.1=-1
  ·rw [if_neg h1,if_pos h2] at h;omega
  ·rw [if_neg h1,if_neg h2] at h
   have e:bsI cs c=bsI cs d:=by omega
   have a:=(bs_found hs (hc h1)).2
   have b:=(bs_found hs (hd h2)).2
   rw [e,b] at a
   exact .inr (Option.some.inj a).symm
end Go.Proofs
