import Derived.ChangeArms
import Derived.DataReads
import Derived.Test.YthmnhjcmefjgjaaGreatDoorXAE
set_option linter.all false
set_option linter.unusedSectionVars false
set_option autoImplicit true
set_option relaxedAutoImplicit true
namespace Go.Proofs
open Go Go.AM
set_option maxRecDepth 100000
theorem call154 {n:Int} {h:AH} (hok:h.ok):(zV E).call 154 [.int .i64 n] h=some [(.bool false,h)]:=by
 refine F154_flat (s:=true) hok rfl (P154_0_of ?_)
 simp only [zA]
 refine P154_1_of ?_
 simp [zA,zBY,zAN,zX]
theorem call94 {a b:Int} {h:AH} (hok:h.ok):(zV E).call 94 [.int .i64 a,.int .i64 b] h=some [(.int .i64 (if a<b then -1 else if b<a then 1 else 0),h)]:=by
 have hf:=ok_fresh h
 refine F94_flat (s:=true) hok rfl (P94_0_of ?_)
 simp only [zA]
 refine P94_1_of ?_
 simp only [zA,zZ,call154 hf,zO]
 refine P94_2_of ?_
 simp only [zA,zZ,call154 hf,zO]
 refine P94_3_of ?_
 simp only [zA,zAE]
 refine P94_7_of ?_
 simp only [zA,zAE]
 refine P94_9_of ?_
 simp only [zA,zd,zAL]
 refine ⟨fun h1=>P94_10_of ?_,fun h1=>P94_11_of ?_⟩
 ·simp [zA,zAN,zX,h1]
 simp only [zA,zAM,zAL]
 refine ⟨fun h2=>P94_12_of ?_,fun h2=>P94_13_of ?_⟩
 ·simp [zA,zAN,zX,h1,h2]
 ·simp [zA,zAN,zX,h1,h2]
inductive Arr (h:AH) (z:Nat):Value->List (List Value)->Prop
 | nil (a:Option Addr) (c:Nat):Arr h z (.slice a 0 c) []
 | row {b o c:Nat} {vs:List Value} {ty es:Nat} {ro:Bool} {els:List (List Value)} (hb:h.get b=some (.row vs ty es ro)) (hlt:b<h.next) (hl:o+els.length*z<=vs.length)
   (hz:∀ i e,els[i]?=some e->e.length=z/\(vs.drop (o+i*z)).take z=e):Arr h z (.slice (some ⟨b,o,none⟩) els.length c) els
theorem Arr.ext {h k:AH} {z:Nat} {v:Value} {els:List (List Value)} (a:Arr h z v els) (e:Ext h k):Arr k z v els:=by
 cases a with
 | nil a c=>exact .nil a c
 | row hb hlt hl hz=>exact .row ((e.get _ hlt).trans hb) (Nat.lt_of_lt_of_le hlt e.next) hl hz
def zt (p:Nat->Bool):Nat->Nat->Int
 | 0,_=>-1
 | n+1,i=>if p i then (i:Int) else zt p n (i+1)
theorem zBe {p:Nat->Bool}:∀ (n i:Nat),(∀ j,i<=j->j<i+n->p j=false) ↔ zt p n i<0
 | 0,i=>by simp [zt];intro j h1 h2;omega
 | n+1,i=>by
  simp only [zt]
  constructor
  ·intro h
   rw [h i (Nat.le_refl _) (by omega)]
   simp only [Bool.false_eq_true,if_false]
   exact (zBe n (i+1)).1 fun j h1 h2=>h j (by omega) (by omega)
  ·intro h j h1 h2
   cases hp:p i with
   | true=>rw [hp] at h;simp at h;omega
   | false=>
    rw [hp] at h
    simp only [Bool.false_eq_true,if_false] at h
    by_cases e:j=i
    ·rw [e,hp]
    ·exact (zBe n (i+1)).2 h j (by omega) (by omega)
theorem add1 {i n:Nat} (hi:i<n) (hn:n<=9223372036854775807):in64 ((i:Int)+1):=by unfold in64;omega
theorem call220 {h0:AH} {v f:Value} {els:List (List Value)} {p:Nat->Bool} (ha:Arr h0 2 v els) (hn:els.length<=9223372036854775807)
  (hf:∀ k,Ext h0 k->∀ i e,els[i]?=some e->za (zV E) (some f) (some [.agg ⟨e⟩]) k=some [(.bool (p i),k)]) {k:AH} (hk:Ext h0 k) :
  (zV E).call 220 [v,f] k=some [(.int .i64 (zt p els.length 0),k)]:=by
 refine F220_flat (s:=true) hk.ok rfl (P220_0_of ?_)
 simp only [zA]
 refine P220_1_of ?_
 have loop:∀ (m i:Nat),i+m=els.length->P220_2 true (KR E [.tmp 2] (fun x l=>x=.int .i64 (zt p m i)/\k.next<=l.wm)) v f (.int .i64 (els.length:Int)) (.int .i64 (i:Int)) k.fresh:=by
  intro m
  induction m with
  | zero=>
   intro i hi
   refine P220_2_of ?_
   simp only [zd,zA,zAL]
   refine ⟨fun h=>by omega,fun _=>P220_7_of ?_⟩
   simp [zA,zAN,zX,zt]
  | succ m ih=>
   intro i hi
   have ha':=ha
   cases ha' with
   | nil a c=>simp at hi
   | @row b o c vs ty es ro _ hb hlt hl hz=>
   have hin:i<els.length:=by omega
   refine P220_2_of ?_
   simp only [zd,zA,zAL]
   refine ⟨fun _=>P220_3_of ?_,fun h=>by omega⟩
   simp only [zA]
   refine P220_4_of ?_
   obtain ⟨hz1,hz2⟩:=hz i els[i] (List.getElem?_eq_getElem hin)
   have hb':k.fresh.get b=some (.row vs ty es ro):=(hk.get b hlt).trans hb
   have hle:o+i*2+2<=vs.length:=by
    have:(i+1)*2<=els.length*2:=Nat.mul_le_mul_right _ (by omega)
    omega
   simp only [zA,ia_132 hin,zW ta_134 hb' hle,hz2,hf _ hk.fresh i _ (List.getElem?_eq_getElem hin),zO,zBD]
   refine ⟨fun h=>P220_5_of ?_,fun h=>P220_6_of ?_⟩
   ·simp [zA,zAN,zX,zt,h]
   ·simp only [zAJ _ (add1 hin hn),zA]
    have:=ih (i+1) (by omega)
    simp only [zt,h]
    simpa using this
 have h0:=loop els.length 0 (by omega)
 cases ha with
 | nil a c=>
  simp only [zA,len220_1_1]
  exact h0
 | row hb hlt hl hz=>
  simp only [zA,len220_1_1]
  exact h0
theorem call173 {h0:AH} {v f:Value} {els:List (List Value)} {p:Nat->Bool} (ha:Arr h0 2 v els) (hn:els.length<=9223372036854775807)
  (hf:∀ k,Ext h0 k->∀ i e,els[i]?=some e->za (zV E) (some f) (some [.agg ⟨e⟩]) k=some [(.bool (p i),k)]) {k:AH} (hk:Ext h0 k) :
  (zV E).call 173 [v,f] k=some [(.bool (decide (0<=zt p els.length 0)),k)]:=by
 refine F173_flat (s:=true) hk.ok rfl (P173_0_of ?_)
 simp only [zA]
 refine P173_1_of ?_
 simp only [zA,zZ,call220 ha hn hf hk.fresh,zO,zA2]
 simp [zA,zAN,zX]
theorem call243 {h0:AH} {v f:Value} {els:List (List Value)} {p:Nat->Bool} (ha:Arr h0 3 v els) (hn:els.length<=9223372036854775807)
  (hf:∀ k,Ext h0 k->∀ i e,els[i]?=some e->za (zV E) (some f) (some [.agg ⟨e⟩]) k=some [(.bool (p i),k)]) {k:AH} (hk:Ext h0 k) :
  (zV E).call 243 [v,f] k=some [(.int .i64 (zt p els.length 0),k)]:=by
 refine F243_flat (s:=true) hk.ok rfl (P243_0_of ?_)
 simp only [zA]
 refine P243_1_of ?_
 have loop:∀ (m i:Nat),i+m=els.length->P243_2 true (KR E [.tmp 2] (fun x l=>x=.int .i64 (zt p m i)/\k.next<=l.wm)) v f (.int .i64 (els.length:Int)) (.int .i64 (i:Int)) k.fresh:=by
  intro m
  induction m with
  | zero=>
   intro i hi
   refine P243_2_of ?_
   simp only [zd,zA,zAL]
   refine ⟨fun h=>by omega,fun _=>P243_7_of ?_⟩
   simp [zA,zAN,zX,zt]
  | succ m ih=>
   intro i hi
   have ha':=ha
   cases ha' with
   | nil a c=>simp at hi
   | @row b o c vs ty es ro _ hb hlt hl hz=>
   have hin:i<els.length:=by omega
   refine P243_2_of ?_
   simp only [zd,zA,zAL]
   refine ⟨fun _=>P243_3_of ?_,fun h=>by omega⟩
   simp only [zA]
   refine P243_4_of ?_
   obtain ⟨hz1,hz2⟩:=hz i els[i] (List.getElem?_eq_getElem hin)
   have hb':k.fresh.get b=some (.row vs ty es ro):=(hk.get b hlt).trans hb
   have hle:o+i*3+3<=vs.length:=by
    have:(i+1)*3<=els.length*3:=Nat.mul_le_mul_right _ (by omega)
    omega
   simp only [zA,ia_34 hin,zW zBq hb' hle,hz2,hf _ hk.fresh i _ (List.getElem?_eq_getElem hin),zO,zBD]
   refine ⟨fun h=>P243_5_of ?_,fun h=>P243_6_of ?_⟩
   ·simp [zA,zAN,zX,zt,h]
   ·simp only [zAJ _ (add1 hin hn),zA]
    have:=ih (i+1) (by omega)
    simp only [zt,h]
    simpa using this
 have h0:=loop els.length 0 (by omega)
 cases ha with
 | nil a c=>
  simp only [zA,len243_1_1]
  exact h0
 | row hb hlt hl hz=>
  simp only [zA,len243_1_1]
  exact h0
theorem call215 {h0:AH} {v f:Value} {els:List (List Value)} {p:Nat->Bool} (ha:Arr h0 3 v els) (hn:els.length<=9223372036854775807)
  (hf:∀ k,Ext h0 k->∀ i e,els[i]?=some e->za (zV E) (some f) (some [.agg ⟨e⟩]) k=some [(.bool (p i),k)]) {k:AH} (hk:Ext h0 k) :
  (zV E).call 215 [v,f] k=some [(.bool (decide (0<=zt p els.length 0)),k)]:=by
 refine F215_flat (s:=true) hk.ok rfl (P215_0_of ?_)
 simp only [zA]
 refine P215_1_of ?_
 simp only [zA,zZ,call243 ha hn hf hk.fresh,zO,zA2]
 simp [zA,zAN,zX]
inductive GT where
 | mk (k n:Int) (l:List GT)
mutual
inductive RT (h:AH):Value->List GT->Prop
 | mk {v:Value} {els:List (List Value)} {ts:List GT} (ha:Arr h 3 v els) (hn:els.length<=9223372036854775807) (hc:RC h els ts):RT h v ts
inductive RC (h:AH):List (List Value)->List GT->Prop
 | nil:RC h [] []
 | cons {k n:Int} {v:Value} {l:List GT} {els:List (List Value)} {ts:List GT} (hv:RT h v l) (hs:RC h els ts):RC h ([.int .i64 k,.int .i64 n,v]::els) (.mk k n l::ts)
end
mutual
theorem RT.ext {h k:AH} (e:Ext h k):∀ {v:Value} {ts:List GT},RT h v ts->RT k v ts
 | _,_,.mk ha hn hc=>.mk (ha.ext e) hn (RC.ext e hc)
theorem RC.ext {h k:AH} (e:Ext h k):∀ {els:List (List Value)} {ts:List GT},RC h els ts->RC k els ts
 | _,_,.nil=>.nil
 | _,_,.cons hv hs=>.cons (RT.ext e hv) (RC.ext e hs)
end
theorem RC.at {h:AH}:∀ {els:List (List Value)} {ts:List GT},RC h els ts->∀ (i:Nat) (e:List Value),els[i]?=some e->∃ (k n:Int) (v:Value) (l:List GT),e=[.int .i64 k,.int .i64 n,v]/\RT h v l/\ts[i]?=some (GT.mk k n l)
 | _,_,.nil,i,e,h=>by simp at h
 | _,_,.cons hv hs,0,e,h=>by simp at h;exact ⟨_,_,_,_,h.symm,hv,rfl⟩
 | _,_,.cons hv hs,i+1,e,h=>by simp only [List.getElem?_cons_succ] at h;obtain ⟨k,n,v,l,a,b,c⟩:=RC.at hs i e h;exact ⟨k,n,v,l,a,b,by simpa using c⟩
theorem RC.length {h:AH}:∀ {els:List (List Value)} {ts:List GT},RC h els ts->els.length=ts.length
 | _,_,.nil=>rfl
 | _,_,.cons _ hs=>by simp [RC.length hs]
theorem RT.slice {h:AH} {v:Value} {ts:List GT} (r:RT h v ts):∃ a c,v=.slice a ts.length c:=by
 cases r with
 | mk ha hn hc=>
  have:=RC.length hc
  cases ha with
  | nil a c=>simp at this;exact ⟨a,c,by rw [← this]⟩
  | row=>rw [← this];exact ⟨_,_,rfl⟩
theorem Arr.load {h:AH} {z:Nat} {v:Value} {els:List (List Value)} (ha:Arr h z v els) {i:Nat} {e:List Value} (hi:els[i]?=some e) :
  ∃ b o c vs ty es ro,v=.slice (some ⟨b,o,none⟩) els.length c/\h.get b=some (.row vs ty es ro)/\b<h.next/\o+i*z+z<=vs.length/\(vs.drop (o+i*z)).take z=e/\e.length=z:=by
 cases ha with
 | nil a c=>simp at hi
 | @row b o c vs ty es ro _ hb hlt hl hz=>
  have hlt':i<els.length:=(List.getElem?_eq_some_iff.1 hi).1
  refine ⟨b,o,c,vs,ty,es,ro,rfl,hb,hlt,?_,(hz i e hi).2,(hz i e hi).1⟩
  have:(i+1)*z<=els.length*z:=Nat.mul_le_mul_right _ (by omega)
  rw [Nat.add_mul] at this
  omega
abbrev row2 (a d:Int) (ty:TypeId):AObj:=.row [.int .i64 a,.int .i64 d] ty 0 false
theorem max268 (a b:Int) (h:AH):zN E (zj [(19,.int .i64 a),(20,.int .i64 b)]) (zy B268 [1,1,0] 6) h=some (.int .i64 (if b > a then b else a)):=by kernel_rfl
theorem upd2 {h:AH} {b:Nat} {a d x:Int} {ty:TypeId} (hb:h.get b=some (row2 a d ty)):zu E 3 h (some (.pointer (some ⟨b,0,none⟩))) (some (.int .i64 x))=one (undef,h.upd b (some (row2 x d ty))):=by
 rw [z0 (P:=E) ts_3 hb (cells_int _ _) rfl (by simp) rfl];rfl
theorem upd2' {h:AH} {b:Nat} {a d x:Int} {ty:TypeId} (hb:h.get b=some (row2 a d ty)):zu E 3 h (some (.pointer (some ⟨b,1,none⟩))) (some (.int .i64 x))=one (undef,h.upd b (some (row2 a x ty))):=by
 rw [z0 (P:=E) ts_3 hb (cells_int _ _) rfl (by simp) rfl];rfl
mutual
def cntT:GT->Int->Int×Int->Int×Int
 | .mk _ _ l,deep,s=>cntL l deep (zB5 .i64 (s.1+1),if deep > s.2 then deep else s.2)
def cntL:List GT->Int->Int×Int->Int×Int
 | [],_,s=>s
 | t::ts,deep,s=>if 2000<s.1\/200<s.2 then s else cntL ts deep (cntT t (zB5 .i64 (deep+1)) s)
end
def Counts (k0:AH) (b:Nat) (ty:TypeId) (s:Int×Int) (k:AH):Prop:=Chg k0 b k/\k.wm<=b/\k.get b=some (row2 s.1 s.2 ty)
theorem zC5 {h:AH} {v:Value} {ts:List GT} (r:RT h v ts):zp v=true:=by obtain ⟨a,c,rfl⟩:=r.slice;rfl
mutual
theorem call268 {h0:AH}:∀ {v:Value} {ts:List GT},RT h0 v ts->∀ {k:AH} {b:Nat} {a d kk nn deep:Int} {ty:TypeId},Ext h0 k->h0.next<=b->b<k.next->k.get b=some (row2 a d ty)->
  Ev true ((zV E).call 268 [.pointer (some ⟨b,0,none⟩),.agg #[.int .i64 kk,.int .i64 nn,v],.int .i64 deep] k) fun x=>Counts k b ty (cntT (.mk kk nn ts) deep (a,d)) x.2
 | v,ts,.mk (els:=els) ha hn hc,k,b,a,d,kk,nn,deep,ty,hk,hb0,hbk,hb=>by
  refine F268_some (Rp:=fun _ k'=>Counts k b ty (cntT (.mk kk nn ts) deep (a,d)) k') (P268_0_of ?_)
  have hrt:RT h0 v ts:=.mk ha hn hc
  simp only [ze,zL,zS]
  refine P268_1_of ?_
  have e1:=(Chg.refl (ok_fresh k) b).new (.row [.int .i64 kk,.int .i64 nn,v] 173 0 false)
  have g1:(k.fresh.new (.row [.int .i64 kk,.int .i64 nn,v] 173 0 false)).get b=some (row2 a d ty):=by rw [zI (by simp;omega)];exact hb
  have l1:=zD (P:=E) zAS (o:=0) g1
  simp only [lnth] at l1
  simp only [zA,zBH,fa_306_0,Nat.add_zero,l1,bf_addw,upd2 g1,zL]
  refine P268_2_of ?_
  have e2:=e1.upd (some (row2 (zB5 .i64 (a+1)) d ty))
  generalize hk2:(k.fresh.new (.row [.int .i64 kk,.int .i64 nn,v] 173 0 false)).upd b (some (row2 (zB5 .i64 (a+1)) d ty))=k2 at e2
  have g2:k2.get b=some (row2 (zB5 .i64 (a+1)) d ty):=by rw [← hk2,zR]
  have t2:k2.get k.next=some (.row [.int .i64 kk,.int .i64 nn,v] 173 0 false):=by rw [← hk2,zQ (by omega)];exact zF _ _
  have l2:=zD (P:=E) zAS (o:=1) g2
  simp only [lnth] at l2
  simp only [zA,zBH,fa_306_1,Nat.zero_add,l2,max268,upd2' g2,zL]
  refine P268_3_of ?_
  rw [show cntT (.mk kk nn ts) deep (a,d)=cntL ts deep (zB5 .i64 (a+1),if deep > d then deep else d) from rfl]
  generalize (if deep > d then deep else d)=d'
  have e3:=e2.upd (some (row2 (zB5 .i64 (a+1)) d' ty))
  generalize hk3:k2.upd b (some (row2 (zB5 .i64 (a+1)) d' ty))=k3 at e3
  have g3:k3.get b=some (row2 (zB5 .i64 (a+1)) d' ty):=by rw [← hk3,zR]
  have t3:k3.get k.next=some (.row [.int .i64 kk,.int .i64 nn,v] 173 0 false):=by rw [← hk3,zQ (by omega)];exact t2
  have w3:k3.wm<=b:=by rw [← hk3];exact (zCm _ _ _).2
  have l3:=zD (P:=E) zC2 (o:=2) t3
  simp only [lnth] at l3
  obtain ⟨sa,sc,hv⟩:=hrt.slice
  have hlen:=RC.length hc
  subst hv
  simp only [zAW,Nat.zero_add,l3,zA,zb,len268_3_2]
  refine loop268 hc (i:=0) (all:=els) (by simp) ha hn hlen hk hb0 hbk e3 g3 w3 fun ex k' hex hc'=>?_
  simp only [kR_0,hex,true_and]
  have hw':=hc'.2.1
  refine ⟨.inr (by omega),hc'.1.of_fresh,?_,hc'.2.2⟩
  show cond (Nat.ble k.wm k'.wm) k.wm k'.wm<=b
  cases hcc:Nat.ble k.wm k'.wm with
  | true=>rw [ble_true] at hcc;simp only [cond_true];omega
  | false=>simp only [cond_false];omega
theorem loop268 {h0:AH}:∀ {els:List (List Value)} {ts:List GT},RC h0 els ts->∀ {i:Nat} {all:List (List Value)} {sa:Option Addr} {len sc:Nat},all.drop i=els->Arr h0 3 (.slice sa len sc) all->all.length<=9223372036854775807->all.length=len->
  ∀ {k0 k:AH} {b:Nat} {a d deep:Int} {ty:TypeId} {K:KF},Ext h0 k0->h0.next<=b->b<k0.next->Chg k0.fresh b k->k.get b=some (row2 a d ty)->k.wm<=b->
  (∀ ex k',zCj ex=true->Counts k0.fresh b ty (cntL ts deep (a,d)) k'->K ex [] k')->P268_4 true K (.pointer (some ⟨b,0,none⟩)) (.int .i64 deep) (.slice sa len sc) (.int .i64 (len:Int)) (.int .i64 (i:Int)) k
 | els,ts,hc,i,all,sa,len,sc,hd,ha,hn,hlen,k0,k,b,a,d,deep,ty,K,h1,h2,h3,h4,h5,h6,hK=>by
  refine P268_4_of ?_
  simp only [zd,zA,zAL]
  refine ⟨fun hi=>P268_5_of ?_,fun hni=>?_⟩
  rotate_left
  ·have:els=[]:=by rw [← hd];exact List.drop_eq_nil_of_le (by omega)
   have hts:ts=[]:=by have:=RC.length hc;rw [‹els=[]›] at this;simpa using this.symm
   rw [hts] at hK
   exact hK _ _ rfl ⟨h4,h6,h5⟩
  have hil:i<all.length:=by omega
  match els,ts,hc,hd with
  | _,_,.nil,hd=>
   have:=congrArg List.length hd
   simp at this
   omega
  | _,_,.cons (k:=tk) (n:=tn) (v:=tv) hv hs,hd=>
   have hi':all[i]?=some [.int .i64 tk,.int .i64 tn,tv]:=by
    have:=congrArg (·[0]?) hd
    simpa [List.getElem?_drop] using this
   obtain ⟨b',o,c,vs,ty',es,ro,hv',hb',hlt,hle,hz,_⟩:=ha.load hi'
   simp only [Value.slice.injEq] at hv'
   obtain ⟨hsa,hl',hsc⟩:=hv'
   subst hsa
   have e0:Ext h0 k:=Chg.ext h1.fresh h2 h4
   have gb':k.get b'=some (.row vs ty' es ro):=(e0.get _ hlt).trans hb'
   have hkk:k0.next<=k.next:=h4.next
   simp only [ia_34 (show i<len by omega),zA,zW zBq gb' hle,hz,z_173,ze,zL,zS]
   have gk:=zF k (.row [.int .i64 0,.int .i64 0,.slice none 0 0] 173 0 false)
   rw [z0 (P:=E) ts_173 gk (zS _) rfl (by simp) (by simp [zp];exact zC5 hv)]
   simp only [zL]
   have hlp:lput [Value.int .i64 0,.int .i64 0,.slice none 0 0] 0 [.int .i64 tk,.int .i64 tn,tv]=[.int .i64 tk,.int .i64 tn,tv]:=rfl
   rw [hlp]
   have e5:=(h4.new (.row [.int .i64 0,.int .i64 0,.slice none 0 0] 173 0 false)).updNew (c:=k.next) (by simpa using h4.next) (some (.row [.int .i64 tk,.int .i64 tn,tv] 173 0 false))
   have w5:((k.new (.row [.int .i64 0,.int .i64 0,.slice none 0 0] 173 0 false)).upd k.next (some (.row [.int .i64 tk,.int .i64 tn,tv] 173 0 false))).wm<=b:=Nat.le_trans (zCm _ _ _).1 h6
   generalize hk5:(k.new (.row [.int .i64 0,.int .i64 0,.slice none 0 0] 173 0 false)).upd k.next (some (.row [.int .i64 tk,.int .i64 tn,tv] 173 0 false))=k5 at e5 w5
   have n5:k5.next=k.next+1:=by rw [← hk5];rfl
   have g5:k5.get b=some (row2 a d ty):=by rw [← hk5,zQ (by omega),zI (by omega)];exact h5
   have t5:k5.get k.next=some (.row [.int .i64 tk,.int .i64 tn,tv] 173 0 false):=by rw [← hk5,zR]
   refine P268_6_of ?_
   have l0:=zD (P:=E) zAS (o:=0) g5
   have l1:=zD (P:=E) zAS (o:=1) g5
   simp only [lnth] at l0 l1
   simp only [zA,zBH,fa_306_0,Nat.add_zero,l0,zAM,zM]
   have next:¬ (2000:Int)<a->¬ (200:Int)<d->P268_7 true K (.pointer (some ⟨b,0,none⟩)) (.int .i64 deep) (.pointer (some ⟨k.next,0,none⟩)) (.slice (some ⟨b',o,none⟩) len sc) (.int .i64 (len:Int)) (.int .i64 (i:Int)) k5:=by
    intro hn1 hn2
    refine P268_7_of ?_
    have l5:=zW (P:=E) zBq (o:=0) t5 (by simp)
    simp only [zA,l5,bf_addw,zZ]
    refine (call268 hv (k:=k5) (a:=a) (d:=d) (ty:=ty) (Chg.ext h1.fresh h2 e5) h2 (by omega) g5).mono fun x hx=>?_
    obtain ⟨c1,wx,c2⟩:=hx
    refine P268_8_of ?_
    simp only [zAJ _ (add1 hil hn),zA]
    have:=loop268 hs (i:=i+1) (all:=all) (by rw [← List.drop_drop,hd];rfl) ha hn hlen h1 h2 h3 (deep:=deep) (e5.trans c1) c2 wx (by simpa [cntL,hn1,hn2] using hK)
    exact this
   by_cases hgt:(2000:Int)<a
   ·simp only [hgt,decide_true,show ((true==false)=false) from rfl,cond_false,zA,zK,cond_true,zAK]
    exact hK _ _ rfl ⟨e5,w5,by simpa [cntL,hgt] using g5⟩
   ·simp only [hgt,decide_false,show ((false==false)=true) from rfl,cond_true,zA,zBH,fa_306_1,Nat.zero_add,l1,zAM,zK,cond_false,zAL]
    exact ⟨fun h2=>hK _ _ rfl ⟨e5,w5,by simpa [cntL,h2] using g5⟩,fun h2=>next hgt h2⟩
end
theorem call269 {k:AH} {b:Nat} {a d:Int} {ty:TypeId} (hok:k.ok) (hb:k.get b=some (row2 a d ty)):(zV E).call 269 [.pointer (some ⟨b,0,none⟩)] k=some [(.bool (decide (2000<a\/200<d)),k)]:=by
 refine F269_flat (s:=true) hok rfl (P269_0_of ?_)
 simp only [zA]
 refine P269_1_of ?_
 have hb':k.fresh.get b=some (row2 a d ty):=hb
 have l0:=zD (P:=E) zAS (o:=0) hb'
 have l1:=zD (P:=E) zAS (o:=1) hb'
 simp only [lnth] at l0 l1
 simp only [zA,zBH,fa_306_0,Nat.add_zero,l0,zAM,zM]
 by_cases hgt:(2000:Int)<a
 ·simp [hgt,zA,zK,zAN,zX]
 ·by_cases hd:(200:Int)<d
  ·simp [hgt,hd,zA,zK,zAN,zX,zBH,fa_306_1,l1,zAM]
  ·simp [hgt,hd,zA,zK,zAN,zX,zBH,fa_306_1,l1,zAM]
def sizeT (t:GT):Int×Int:=if 2000<(cntT t 1 (0,0)).1\/200<(cntT t 1 (0,0)).2 then (2001,201) else cntT t 1 (0,0)
theorem call244 {h0 k:AH} {kk nn:Int} {v:Value} {l:List GT} (hr:RT h0 v l) (hk:Ext h0 k) :
  (zV E).call 244 [.agg #[.int .i64 kk,.int .i64 nn,v]] k=some [(.tuple #[.int .i64 (sizeT (.mk kk nn l)).1,.int .i64 (sizeT (.mk kk nn l)).2],k)]:=by
 refine F244_flat1 hk.ok rfl (P244_0_of ?_)
 simp only [ze,zL,zS,zA]
 refine P244_1_of ?_
 simp only [z_306,ze,zL,zS]
 refine P244_2_of ?_
 have e1:=(hk.fresh.new (.row [.int .i64 kk,.int .i64 nn,v] 173 0 false)).new (.row [.int .i64 0,.int .i64 0] 306 0 false)
 have t1:((k.fresh.new (.row [.int .i64 kk,.int .i64 nn,v] 173 0 false)).new (.row [.int .i64 0,.int .i64 0] 306 0 false)).get k.next=some (.row [.int .i64 kk,.int .i64 nn,v] 173 0 false):=by
  rw [zI (by simp)];exact zF k.fresh _
 have g1:((k.fresh.new (.row [.int .i64 kk,.int .i64 nn,v] 173 0 false)).new (.row [.int .i64 0,.int .i64 0] 306 0 false)).get (k.next+1)=some (row2 0 0 306):=zF (k.fresh.new _) _
 have n1:((k.fresh.new (.row [.int .i64 kk,.int .i64 nn,v] 173 0 false)).new (.row [.int .i64 0,.int .i64 0] 306 0 false)).next=k.next+2:=rfl
 have w1:((k.fresh.new (.row [.int .i64 kk,.int .i64 nn,v] 173 0 false)).new (.row [.int .i64 0,.int .i64 0] 306 0 false)).wm=k.next+UNK:=rfl
 simp only [zb,AH.next_new]
 generalize ((k.fresh.new (.row [.int .i64 kk,.int .i64 nn,v] 173 0 false)).new (.row [.int .i64 0,.int .i64 0] 306 0 false))=k1 at e1 t1 g1 n1 w1
 have lt:=zW (P:=E) zBq (o:=0) t1 (by simp)
 have hkn:=hk.next
 simp only [lt,zA,zZ]
 refine (call268 hr (k:=k1) (b:=k.next+1) e1 (by omega) (by omega) g1).mono fun x hx=>?_
 obtain ⟨c1,_,c2⟩:=hx
 refine P244_3_of ?_
 simp only [zZ,call269 c1.ok c2,zO,zAL]
 have hwm:k.next<=x.2.wm:=c1.wm k.next (by omega) (by omega) (by omega)
 have l0:=zD (P:=E) zAS (o:=0) c2
 have l1:=zD (P:=E) zAS (o:=1) c2
 simp only [lnth] at l0 l1
 refine ⟨fun hov=>P244_4_of ?_,fun hov=>P244_5_of ?_⟩
 ·simp [zA,kR_2,zX,sizeT,hov,hwm]
 ·simp only [zA,fa_306_0,fa_306_1,Nat.add_zero,Nat.zero_add,l0,l1,kR_2,zX,true_and,sizeT,hov,if_false]
  exact hwm
mutual
def okT:GT->Bool
 | .mk k n l=>decide (k=2)&&decide (0<=n)&&decide (n<256)&&decide (l.length<=8)&&okL l
def okL:List GT->Bool
 | []=>true
 | t::ts=>okT t&&okL ts
end
theorem okL_iff:∀ {ts:List GT},okL ts=true ↔ ∀ (i:Nat) (t:GT),ts[i]?=some t->okT t=true
 | []=>by simp [okL]
 | t::ts=>by
  simp only [okL,Bool.and_eq_true,okL_iff (ts:=ts)]
  constructor
  ·rintro ⟨a,b⟩ i u hu
   cases i with
   | zero=>simp at hu;rw [← hu];exact a
   | succ i=>exact b i u (by simpa using hu)
  ·intro h
   exact ⟨h 0 t rfl,fun i u hu=>h (i+1) u (by simpa using hu)⟩
def pNot (ts:List GT) (f:GT->Bool) (i:Nat):Bool:=match ts[i]? with
 | some t=>!f t
 | none=>false
theorem idx_ok {ts:List GT}:decide (0<=zt (pNot ts okT) ts.length 0)=!okL ts:=by
 have h:=zBe (p:=pNot ts okT) ts.length 0
 cases hb:okL ts with
 | true=>
  have:zt (pNot ts okT) ts.length 0<0:=h.1 fun j _ hj=>by
   unfold pNot
   cases ht:ts[j]? with
   | none=>rfl
   | some t=>simp [okL_iff.1 hb j t ht]
  rw [decide_eq_false (by omega)];rfl
 | false=>
  have:¬ zt (pNot ts okT) ts.length 0<0:=by
   intro hneg
   have:=h.2 hneg
   have hall:okL ts=true:=okL_iff.2 fun i t ht=>by
    have hi:=(List.getElem?_eq_some_iff.1 ht).1
    have:=this i (Nat.zero_le _) (by omega)
    simpa [pNot,ht] using this
   rw [hall] at hb;cases hb
  rw [decide_eq_true (by omega)];rfl
abbrev clos (f:FuncId) (b:Nat):Value:=.func (.func f) #[] #[.pointer (some ⟨b,0,none⟩)]
def Spec245 (h0:AH) (kk nn:Int) (v:Value) (l:List GT):Prop:=∀ (k:AH) (b:Nat),Ext h0 k->b<k.next->k.get b=some (.row [clos 245 b] 247 0 false)->
 (zV E).call 245 [.agg #[.int .i64 kk,.int .i64 nn,v],.pointer (some ⟨b,0,none⟩)] k=some [(.bool (okT (.mk kk nn l)),k)]
theorem call246 {h0:AH} {kk nn:Int} {v:Value} {l:List GT} (hs:Spec245 h0 kk nn v l) {k:AH} {b:Nat} (hk:Ext h0 k) (hbk:b<k.next) (hb:k.get b=some (.row [clos 245 b] 247 0 false)) :
  (zV E).call 246 [.agg #[.int .i64 kk,.int .i64 nn,v],.pointer (some ⟨b,0,none⟩)] k=some [(.bool (!okT (.mk kk nn l)),k)]:=by
 refine F246_flat (s:=true) hk.ok rfl (P246_0_of ?_)
 simp only [ze,zL,zS,zA]
 refine P246_1_of ?_
 have e1:=hk.fresh.new (.row [.int .i64 kk,.int .i64 nn,v] 173 0 false)
 have t1:=zF k.fresh (.row [.int .i64 kk,.int .i64 nn,v] 173 0 false)
 have g1:(k.fresh.new (.row [.int .i64 kk,.int .i64 nn,v] 173 0 false)).get b=some (.row [clos 245 b] 247 0 false):=by rw [zI (by simp;omega)];exact hb
 have lt:=zW (P:=E) zBq (o:=0) t1 (by simp)
 have lc:=zD (P:=E) ta_247 (o:=0) g1
 simp only [lnth] at lc
 simp only [List.drop_zero,List.take] at lt
 simp only [zb] at lt
 simp only [zb,lt,lc,zA,wCall_fn]
 have:=hs _ _ e1 (by simp;omega) g1
 simp only [List.nil_append,List.cons_append,this,zO,zz,zA,zAN,zX]
 simp [wm_new]
mutual
theorem spec245 {h0:AH}:∀ {v:Value} {l:List GT},RT h0 v l->∀ (kk nn:Int),Spec245 h0 kk nn v l
 | v,l,.mk (els:=els) ha hn hc,kk,nn=>by
  intro k b hk hbk hb
  have hrt:RT h0 v l:=.mk ha hn hc
  have hch:=specs245 hc
  have hlen:=RC.length hc
  obtain ⟨sa,sc,hv⟩:=hrt.slice
  subst hv
  refine F245_flat (s:=true) hk.ok rfl (P245_0_of ?_)
  simp only [ze,zL,zS,zA]
  refine P245_1_of ?_
  have e1:=hk.fresh.new (.row [.int .i64 kk,.int .i64 nn,.slice sa l.length sc] 173 0 false)
  have t1:=zF k.fresh (.row [.int .i64 kk,.int .i64 nn,.slice sa l.length sc] 173 0 false)
  have g1:(k.fresh.new (.row [.int .i64 kk,.int .i64 nn,.slice sa l.length sc] 173 0 false)).get b=some (.row [clos 245 b] 247 0 false):=by rw [zI (by simp;omega)];exact hb
  have w1:(k.fresh.new (.row [.int .i64 kk,.int .i64 nn,.slice sa l.length sc] 173 0 false)).wm=k.next+UNK:=rfl
  have n1:(k.fresh.new (.row [.int .i64 kk,.int .i64 nn,.slice sa l.length sc] 173 0 false)).next=k.next+1:=rfl
  simp only [zb] at t1 ⊢
  generalize k.fresh.new (.row [.int .i64 kk,.int .i64 nn,.slice sa l.length sc] 173 0 false)=k1 at e1 t1 g1 w1 n1
  have l0:=zD (P:=E) zAS (o:=0) t1
  have l1:=zD (P:=E) zAS (o:=1) t1
  have l2:=zD (P:=E) zC2 (o:=2) t1
  simp only [lnth] at l0 l1 l2
  have hcf:(zV E).call 215 [.slice sa l.length sc,.func (.func 246) #[] #[.pointer (some ⟨b,0,none⟩)]] k1=some [(.bool (decide (0<=zt (pNot l okT) els.length 0)),k1)]:=by
   refine call215 (h0:=k1) (ha.ext e1) hn (fun k2 hk2 i e he=>?_) (Ext.refl e1.ok)
   obtain ⟨ck,cn,cv,cl,q1,q2,q3,q4⟩:=hch i e he
   subst q1
   have:=call246 q4 (e1.trans hk2) (Nat.lt_of_lt_of_le (by omega:b<k1.next) hk2.next) ((hk2.get b (by omega)).trans g1)
   simp only [wCall_fn,List.nil_append,List.cons_append,pNot,q3]
   exact this
  rw [hlen,idx_ok] at hcf
  simp only [fa_173_0,fa_173_1,zAW,Nat.add_zero,Nat.zero_add,l0,zA,zAU,zM,zK,okT]
  by_cases c1:kk=2
  ·by_cases c2:0<=nn
   ·by_cases c3:nn<256
    ·by_cases c4:l.length<=8
     ·have c4':(l.length:Int)<=8:=by omega
      simp [c1,c2,c3,c4,c4',l1,l2,zA,zA2,zd,bf_leq,len245_1_16,zK,zM,zY,zAp,zZ,hcf,zO,zz,zAN,zX,w1]
     ·have c4':¬ (l.length:Int)<=8:=by omega
      simp [c1,c2,c3,c4,c4',l1,l2,zA,zA2,zd,bf_leq,len245_1_16,zK,zM,zY,zL,zAN,zX,w1]
    ·simp [c1,c2,c3,l1,zA,zA2,zd,zK,zM,zY,zL,zAN,zX,w1]
   ·simp [c1,c2,l1,zA,zA2,zK,zM,zY,zL,zAN,zX,w1]
  ·simp [c1,zA,zK,zM,zY,zL,zAN,zX,w1]
theorem specs245 {h0:AH}:∀ {els:List (List Value)} {ts:List GT},RC h0 els ts->∀ (i:Nat) (e:List Value),els[i]?=some e->
  ∃ (k n:Int) (v:Value) (l:List GT),e=[.int .i64 k,.int .i64 n,v]/\RT h0 v l/\ts[i]?=some (.mk k n l)/\Spec245 h0 k n v l
 | _,_,.nil,i,e,h=>by simp at h
 | _,_,.cons hv hs,0,e,h=>by simp at h;exact ⟨_,_,_,_,h.symm,hv,rfl,spec245 hv _ _⟩
 | _,_,.cons hv hs,i+1,e,h=>by
  simp only [List.getElem?_cons_succ] at h
  obtain ⟨k,n,v,l,a,b,c,d⟩:=specs245 hs i e h
  exact ⟨k,n,v,l,a,b,by simpa using c,d⟩
end
def isVal (t:GT):Bool:=decide ((sizeT t).1<=2000)&&okT t
theorem call217 {h0 k:AH} {kk nn:Int} {v:Value} {l:List GT} (hr:RT h0 v l) (hk:Ext h0 k) :
  (zV E).call 217 [.agg #[.int .i64 kk,.int .i64 nn,v]] k=some [(.bool (isVal (.mk kk nn l)),k)]:=by
 refine F217_flat (s:=true) hk.ok rfl (P217_0_of ?_)
 simp only [ze,zL,zS,zA]
 refine P217_1_of ?_
 have e1:=hk.fresh.new (.row [.int .i64 kk,.int .i64 nn,v] 173 0 false)
 have t1:=zF k.fresh (.row [.int .i64 kk,.int .i64 nn,v] 173 0 false)
 have w1:(k.fresh.new (.row [.int .i64 kk,.int .i64 nn,v] 173 0 false)).wm=k.next+UNK:=rfl
 have n1:(k.fresh.new (.row [.int .i64 kk,.int .i64 nn,v] 173 0 false)).next=k.next+1:=rfl
 simp only [zb] at t1 ⊢
 generalize k.fresh.new (.row [.int .i64 kk,.int .i64 nn,v] 173 0 false)=k1 at e1 t1 w1 n1
 have lt:=zW (P:=E) zBq (o:=0) t1 (by simp)
 simp only [List.drop_zero,List.take] at lt
 simp only [lt,zA,zZ,call244 hr e1,zO,zAH,lnth]
 refine P217_2_of ?_
 simp only [zA,zAM,zAL]
 refine ⟨fun hov=>P217_3_of ?_,fun hov=>P217_4_of ?_⟩
 ·simp only [zA,zAN,zX,true_and,isVal]
  refine ⟨?_,by omega⟩
  rw [decide_eq_false (by omega)];rfl
 ·simp only [z_247,ze,zL,cells_func]
  refine P217_5_of ?_
  have g0:=zF k1 (.row [.nilFunc] 247 0 false)
  simp only [zi,zAp,zA]
  rw [z0 (P:=E) ts_247 (cs:=[clos 245 k1.next]) g0 rfl rfl (by simp) rfl]
  simp only [zL]
  refine P217_6_of ?_
  have e2:=(e1.new (.row [.nilFunc] 247 0 false)).upd (b:=k1.next) e1.next (some (.row (lput [.nilFunc] 0 [clos 245 k1.next]) 247 0 false))
  have g2:((k1.new (.row [.nilFunc] 247 0 false)).upd k1.next (some (.row (lput [.nilFunc] 0 [clos 245 k1.next]) 247 0 false))).get k1.next=some (.row [clos 245 k1.next] 247 0 false):=zR _ _ _
  have t2:((k1.new (.row [.nilFunc] 247 0 false)).upd k1.next (some (.row (lput [.nilFunc] 0 [clos 245 k1.next]) 247 0 false))).get k.next=some (.row [.int .i64 kk,.int .i64 nn,v] 173 0 false):=by
   rw [zQ (by omega),zI (by omega)];exact t1
  have w2:k.next<=((k1.new (.row [.nilFunc] 247 0 false)).upd k1.next (some (.row (lput [.nilFunc] 0 [clos 245 k1.next]) 247 0 false))).wm:=zx (by rw [wm_new];omega) (by omega)
  have n2:((k1.new (.row [.nilFunc] 247 0 false)).upd k1.next (some (.row (lput [.nilFunc] 0 [clos 245 k1.next]) 247 0 false))).next=k1.next+1:=rfl
  generalize ((k1.new (.row [.nilFunc] 247 0 false)).upd k1.next (some (.row (lput [.nilFunc] 0 [clos 245 k1.next]) 247 0 false)))=k2 at e2 g2 t2 w2 n2
  have lc:=zD (P:=E) ta_247 (o:=0) g2
  have lt2:=zW (P:=E) zBq (o:=0) t2 (by simp)
  simp only [lnth,List.drop_zero,List.take] at lc lt2
  simp only [lc,lt2,zA,wCall_fn,List.nil_append,List.cons_append,spec245 hr kk nn _ _ e2 (by omega) g2,zO,zAN,zX,true_and]
  refine ⟨?_,w2⟩
  unfold isVal
  rw [decide_eq_true (by omega)];rfl
structure Own (k l:AH):Prop where
 ext:Ext k l
 wm:k.next<=l.wm
theorem Own.fresh (k:AH):Own k k.fresh:=⟨⟨ok_fresh k,Nat.le_refl _,fun _ _=>rfl⟩,by rw [zAx];omega⟩
theorem Own.new {k l:AH} (o:Own k l) (x:AObj):Own k (l.new x):=⟨o.ext.new x,o.wm⟩
theorem Own.upd {k l:AH} (o:Own k l) {b:Nat} (hb:k.next<=b) (x:Option AObj):Own k (l.upd b x):=⟨o.ext.upd hb x,zx o.wm hb⟩
theorem zCf (n:Nat) (k:IntKind) (a:Int):veq n (.int k a) (.int k a)=true:=by cases n <;> (show (decide (k=k)&&decide (a=a))=true;simp)
theorem zCJ (n:Nat) (a:Option Addr) (m c:Nat):veq n (.slice a m c) (.slice a m c)=true:=by cases n <;> (show (decide (a=a)&&Nat.beq m m&&Nat.beq c c)=true;simp [Nat.beq_refl])
def orI:List Int->Int
 | []=>0
 | a::l=>if a≠0 then a else orI l
theorem call171 {k:AH} {is:List Int} {b c:Nat} {ty es:Nat} {ro:Bool} (hn:is.length<=1000) (hok:k.ok) (hb:k.get b=some (.row (is.map (Value.int .i64)) ty es ro)) :
  (zV E).call 171 [.slice (some ⟨b,0,none⟩) is.length c] k=some [(.int .i64 (orI is),k)]:=by
 refine F171_flat (s:=true) hok rfl (P171_0_of ?_)
 simp only [zA]
 refine P171_1_of ?_
 simp only [zA]
 refine P171_2_of ?_
 simp only [zA,len171_2_1]
 have hb':k.fresh.get b=some (.row (is.map (Value.int .i64)) ty es ro):=hb
 have loop:∀ (js:List Int) (i:Nat),is.drop i=js->P171_3 true (KR E [.tmp 2] (fun x l=>x=.int .i64 (orI js)/\k.next<=l.wm)) (.int .i64 0) (.slice (some ⟨b,0,none⟩) is.length c) (.int .i64 (is.length:Int)) (.int .i64 (i:Int)) k.fresh:=by
  intro js
  induction js with
  | nil=>
   intro i hi
   have:is.length<=i:=List.drop_eq_nil_iff.1 hi
   refine P171_3_of ?_
   simp only [zd,zA,zAL]
   refine ⟨fun h=>by omega,fun _=>P171_8_of ?_⟩
   simp [zA,zAN,zX,orI]
  | cons j js ih=>
   intro i hi
   have hlt:i<is.length:=by
    rcases Nat.lt_or_ge i is.length with h|h
    ·exact h
    ·rw [List.drop_eq_nil_of_le h] at hi;cases hi
   have hj:is[i]?=some j:=by have:=congrArg (·[0]?) hi;simpa [List.getElem?_drop] using this
   refine P171_3_of ?_
   simp only [zd,zA,zAL]
   refine ⟨fun _=>P171_4_of ?_,fun h=>by omega⟩
   have hl:lnth (is.map (Value.int .i64)) (0+i*1)=some (.int .i64 j):=by rw [zAa];simp [hj]
   simp only [ia_47 hlt,zA,zD zAS hb',hl]
   refine P171_5_of ?_
   simp only [zA,zBY,brK_n]
   refine ⟨fun h=>P171_6_of ?_,fun h=>P171_7_of ?_⟩
   ·simp [zA,zAN,zX,orI,h]
   ·simp only [zAJ _ (add1 hlt (by omega)),zA]
    have:=ih (i+1) (by rw [← List.drop_drop,hi];rfl)
    simp only [orI,h,ne_eq,not_true,if_false]
    simpa using this
 exact loop is 0 rfl
theorem bs47_2 {a b:Int} {h:AH}:zh E 47 2 (some [(0,.int .i64 a),(1,.int .i64 b)]) h=one (.slice (some ⟨h.next,0,none⟩) 2 2,h.new (.row [.int .i64 a,.int .i64 b] 3 0 false)):=by kernel_rfl
theorem bs47_3 {a b c:Int} {h:AH}:zh E 47 3 (some [(0,.int .i64 a),(1,.int .i64 b),(2,.int .i64 c)]) h=one (.slice (some ⟨h.next,0,none⟩) 3 3,h.new (.row [.int .i64 a,.int .i64 b,.int .i64 c] 3 0 false)):=by kernel_rfl
def c3 (a b:Int):Int:=if a<b then -1 else if b<a then 1 else 0
theorem or2 {h:AH} (hok:h.ok) (a b:Int):(zV E).call 171 [.slice (some ⟨h.next,0,none⟩) 2 2] (h.new (.row [.int .i64 a,.int .i64 b] 3 0 false))=some [(.int .i64 (orI [a,b]),h.new (.row [.int .i64 a,.int .i64 b] 3 0 false))]:=
 call171 (is:=[a,b]) (by simp) (zB4 hok _) (zF _ _)
theorem or3 {h:AH} (hok:h.ok) (a b c:Int):(zV E).call 171 [.slice (some ⟨h.next,0,none⟩) 3 3] (h.new (.row [.int .i64 a,.int .i64 b,.int .i64 c] 3 0 false))=some [(.int .i64 (orI [a,b,c]),h.new (.row [.int .i64 a,.int .i64 b,.int .i64 c] 3 0 false))]:=
 call171 (is:=[a,b,c]) (by simp) (zB4 hok _) (zF _ _)
def zCV (c:Nat->Int) (n1 n2:Nat):Nat->Nat->Int
 | 0,_=>if n1<n2 then -1 else 0
 | m+1,i=>if n2<=i then 1 else if c i≠0 then c i else zCV c n1 n2 m (i+1)
theorem call247 {h0:AH} {v1 v2 f:Value} {els1 els2:List (List Value)} {cf:Nat->Int} (ha1:Arr h0 3 v1 els1) (ha2:Arr h0 3 v2 els2) (hn:els1.length<=9223372036854775807) (hlf:∀ (i:Nat) (e:List Value),els1[i]?=some e->e.all zp=true) (hlf2:∀ (i:Nat) (e:List Value),els2[i]?=some e->e.all zp=true)
  (hf:∀ k,Ext h0 k->∀ (i:Nat) (e1 e2:List Value),els1[i]?=some e1->els2[i]?=some e2->za (zV E) (some f) (some [.agg ⟨e1⟩,.agg ⟨e2⟩]) k=some [(.int .i64 (cf i),k)]) {k:AH} (hk:Ext h0 k) :
  (zV E).call 247 [v1,v2,f] k=some [(.int .i64 (zCV cf els1.length els2.length els1.length 0),k)]:=by
 have hs1:∃ a c,v1=.slice a els1.length c:=by cases ha1 with|nil a c=>exact ⟨a,c,rfl⟩|row=>exact ⟨_,_,rfl⟩
 have hs2:∃ a c,v2=.slice a els2.length c:=by cases ha2 with|nil a c=>exact ⟨a,c,rfl⟩|row=>exact ⟨_,_,rfl⟩
 obtain ⟨a1,c1,rfl⟩:=hs1
 obtain ⟨a2,c2,rfl⟩:=hs2
 refine F247_flat (s:=true) hk.ok rfl (P247_0_of ?_)
 simp only [zA]
 refine P247_1_of ?_
 simp only [zA,len247_1_1]
 have loop:∀ (m i:Nat),i+m=els1.length->∀ l,Own k l->P247_2 true (KR E [.tmp 6] (fun x l=>x=.int .i64 (zCV cf els1.length els2.length m i)/\k.next<=l.wm)) (.slice a1 els1.length c1) (.slice a2 els2.length c2) f (.slice a1 els1.length c1) (.int .i64 (els1.length:Int)) (.int .i64 (i:Int)) l:=by
  intro m
  induction m with
  | zero=>
   intro i hi l hl
   refine P247_2_of ?_
   simp only [zd,zA,zAL]
   refine ⟨fun h=>by omega,fun _=>P247_11_of ?_⟩
   simp only [zA,len247_11_1,len247_11_3,zd,zAL]
   have:=hl.wm
   refine ⟨fun h=>P247_12_of ?_,fun h=>P247_13_of ?_⟩
   ·have h':els1.length<els2.length:=by omega
    simp [zA,zAN,zX,zCV,h',this]
   ·have h':¬ els1.length<els2.length:=by omega
    simp [zA,zAN,zX,zCV,h',this]
  | succ m ih=>
   intro i hi l hl
   have hin:i<els1.length:=by omega
   refine P247_2_of ?_
   simp only [zd,zA,zAL]
   refine ⟨fun _=>P247_3_of ?_,fun h=>by omega⟩
   obtain ⟨b,o,c,vs,ty,es,ro,hv,hb,hlt,hle,hz,hzl⟩:=ha1.load (List.getElem?_eq_getElem hin)
   simp only [Value.slice.injEq] at hv
   obtain ⟨hv1,_,hv3⟩:=hv
   subst hv1
   have gb:l.get b=some (.row vs ty es ro):=(hl.ext.get b (Nat.lt_of_lt_of_le hlt hk.next)).trans ((hk.get b hlt).trans hb)
   simp only [zA,ia_34 hin,zW zBq gb hle,hz,z_173,ze,zL,zS]
   have hkl:=hl.ext.next
   rw [z0 (P:=E) ts_173 (zF l _) (zS _) hzl (by simp) (hlf i _ (List.getElem?_eq_getElem hin))]
   simp only [zL]
   refine P247_4_of ?_
   simp only [zA,len247_4_2,zA2,zAL]
   have o1:=(hl.new (.row [.int .i64 0,.int .i64 0,.slice none 0 0] 173 0 false)).upd (b:=l.next) hkl (some (.row (lput [.int .i64 0,.int .i64 0,.slice none 0 0] 0 els1[i]) 173 0 false))
   have t1:((l.new (.row [.int .i64 0,.int .i64 0,.slice none 0 0] 173 0 false)).upd l.next (some (.row (lput [.int .i64 0,.int .i64 0,.slice none 0 0] 0 els1[i]) 173 0 false))).get l.next=some (.row (lput [.int .i64 0,.int .i64 0,.slice none 0 0] 0 els1[i]) 173 0 false):=zR _ _ _
   have n1:((l.new (.row [.int .i64 0,.int .i64 0,.slice none 0 0] 173 0 false)).upd l.next (some (.row (lput [.int .i64 0,.int .i64 0,.slice none 0 0] 0 els1[i]) 173 0 false))).next=l.next+1:=rfl
   have hput:∀ (e:List Value),e.length=3->lput [Value.int .i64 0,.int .i64 0,.slice none 0 0] 0 e=e:=by
    intro e he
    match e,he with
    | [x,y,z],_=>rfl
   rw [hput _ hzl] at o1 t1 n1
   rw [hput _ hzl]
   generalize ((l.new (.row [.int .i64 0,.int .i64 0,.slice none 0 0] 173 0 false)).upd l.next (some (.row els1[i] 173 0 false)))=l1 at o1 t1 n1
   refine ⟨fun h=>P247_5_of ?_,fun h=>P247_6_of ?_⟩
   ·have h':els2.length<=i:=by omega
    simp [zA,zAN,zX,zCV,h',o1.wm]
   ·have hin2:i<els2.length:=by omega
    obtain ⟨b',o',c',vs',ty',es',ro',hv',hb',hlt',hle',hz',hzl'⟩:=ha2.load (List.getElem?_eq_getElem hin2)
    simp only [Value.slice.injEq] at hv'
    obtain ⟨hv1',_,hv3'⟩:=hv'
    subst hv1'
    have gb':l1.get b'=some (.row vs' ty' es' ro'):=(o1.ext.get b' (Nat.lt_of_lt_of_le hlt' hk.next)).trans ((hk.get b' hlt').trans hb')
    simp only [zA,ia_34 hin2,zW zBq gb' hle',hz',z_173,ze,zL,zS]
    rw [z0 (P:=E) ts_173 (zF l1 _) (zS _) hzl' (by simp) (hlf2 i _ (List.getElem?_eq_getElem hin2))]
    simp only [zL]
    refine P247_7_of ?_
    rw [hput _ hzl']
    have o2:=(o1.new (.row [.int .i64 0,.int .i64 0,.slice none 0 0] 173 0 false)).upd (b:=l1.next) (by omega) (some (.row els2[i] 173 0 false))
    have t2:((l1.new (.row [.int .i64 0,.int .i64 0,.slice none 0 0] 173 0 false)).upd l1.next (some (.row els2[i] 173 0 false))).get l1.next=some (.row els2[i] 173 0 false):=zR _ _ _
    have t1':((l1.new (.row [.int .i64 0,.int .i64 0,.slice none 0 0] 173 0 false)).upd l1.next (some (.row els2[i] 173 0 false))).get l.next=some (.row els1[i] 173 0 false):=by rw [zQ (by omega),zI (by omega)];exact t1
    generalize ((l1.new (.row [.int .i64 0,.int .i64 0,.slice none 0 0] 173 0 false)).upd l1.next (some (.row els2[i] 173 0 false)))=l2 at o2 t2 t1'
    have la:=zW (P:=E) zBq (o:=0) t1' (by omega)
    have lb:=zW (P:=E) zBq (o:=0) t2 (by omega)
    rw [List.drop_zero,List.take_of_length_le (by omega)] at la lb
    simp only [zA,la,lb,hf l2 (hk.trans o2.ext) i _ _ (List.getElem?_eq_getElem hin) (List.getElem?_eq_getElem hin2),zO]
    refine P247_8_of ?_
    have h':¬ els2.length<=i:=by omega
    simp only [zA,zBY,brK_n]
    refine ⟨fun hc=>P247_9_of ?_,fun hc=>P247_10_of ?_⟩
    ·simp [zA,zAN,zX,zCV,h',hc,o2.wm]
    ·simp only [zAJ _ (add1 hin hn),zA]
     have:=ih (i+1) (by omega) l2 o2
     simp only [zCV,h',if_false,hc,ne_eq,not_true]
     simpa using this
 exact loop els1.length 0 (by omega) _ (Own.fresh k)
theorem zn (w:Bool) (x:Option Value):gdB undef w x=some undef:=rfl
theorem zq (w:Bool) (x:R (Value×AH)) (h:AH):gdW undef w x h=one (undef,h):=rfl
mutual
def cmpT:GT->GT->Int
 | .mk k n l,.mk k' n' l'=>if orI [c3 k k',c3 n n',c3 l.length l'.length]≠0 then orI [c3 k k',c3 n n',c3 l.length l'.length] else cmpL l l'
def cmpL:List GT->List GT->Int
 | [],[]=>0
 | [],_::_=>-1
 | _::_,[]=>1
 | t::ts,u::us=>if cmpT t u≠0 then cmpT t u else cmpL ts us
end
def cmpAt (ts us:List GT) (i:Nat):Int:=match ts[i]?,us[i]? with
 | some t,some u=>cmpT t u
 | _,_=>0
theorem cmpFrom_eq (ts us:List GT):∀ (m i:Nat),i+m=ts.length->zCV (cmpAt ts us) ts.length us.length m i=(if i<=us.length then cmpL (ts.drop i) (us.drop i) else if m=0 then 0 else 1)
 | 0,i,h=>by
  have ht:ts.drop i=[]:=List.drop_eq_nil_of_le (by omega)
  simp only [zCV,ht]
  by_cases hi:i<=us.length
  ·rw [if_pos hi]
   cases hu:us.drop i with
   | nil=>
    have:=List.drop_eq_nil_iff.1 hu
    rw [if_neg (by omega)];rfl
   | cons u us'=>
    have:i<us.length:=by
     rcases Nat.lt_or_ge i us.length with h'|h'
     ·exact h'
     ·rw [List.drop_eq_nil_of_le h'] at hu;cases hu
    rw [if_pos (by omega)];rfl
  ·rw [if_neg hi,if_neg (by omega)];rfl
 | m+1,i,h=>by
  have hlt:i<ts.length:=by omega
  simp only [zCV]
  by_cases hi:us.length<=i
  ·rw [if_pos hi]
   by_cases he:i<=us.length
   ·rw [if_pos he]
    have hu:us.drop i=[]:=List.drop_eq_nil_of_le hi
    rw [hu,List.drop_eq_getElem_cons hlt];rfl
   ·rw [if_neg he];simp
  ·rw [if_neg hi,if_pos (show i<=us.length by omega)]
   have hui:i<us.length:=by omega
   rw [List.drop_eq_getElem_cons hlt,List.drop_eq_getElem_cons hui]
   have hat:cmpAt ts us i=cmpT ts[i] us[i]:=by unfold cmpAt;rw [List.getElem?_eq_getElem hlt,List.getElem?_eq_getElem hui]
   rw [hat]
   simp only [cmpL]
   rw [cmpFrom_eq ts us m (i+1) (by omega),if_pos (show i+1<=us.length by omega)]
def Spec219 (h0:AH) (kk nn:Int) (v:Value) (l:List GT):Prop:=∀ (k:AH) (kk' nn':Int) (v':Value) (l':List GT),RT h0 v' l'->Ext h0 k->
 (zV E).call 219 [.agg #[.int .i64 kk,.int .i64 nn,v],.agg #[.int .i64 kk',.int .i64 nn',v']] k=some [(.int .i64 (cmpT (.mk kk nn l) (.mk kk' nn' l')),k)]
theorem RC.leafs {h:AH} {els:List (List Value)} {ts:List GT} (hc:RC h els ts) (i:Nat) (e:List Value) (he:els[i]?=some e):e.all zp=true:=by
 obtain ⟨k,n,v,l,rfl,hv,_⟩:=RC.at hc i e he
 have:=zC5 hv
 simp [zp];exact this
mutual
theorem spec219 {h0:AH}:∀ {v:Value} {l:List GT},RT h0 v l->∀ (kk nn:Int),Spec219 h0 kk nn v l
 | v,l,.mk (els:=els) ha hn hc,kk,nn=>by
  intro k kk' nn' v' l' hr' hk
  have hrt:RT h0 v l:=.mk ha hn hc
  have hch:=specs219 hc
  have hlen:=RC.length hc
  obtain ⟨sa,sc,hv⟩:=hrt.slice
  obtain ⟨sa',sc',hv'⟩:=hr'.slice
  subst hv
  subst hv'
  refine F219_flat (s:=true) hk.ok rfl (P219_0_of ?_)
  simp only [ze,zL,zS,zA]
  refine P219_1_of ?_
  have o1:=((Own.fresh k).new (.row [.int .i64 kk,.int .i64 nn,.slice sa l.length sc] 173 0 false)).new (.row [.int .i64 kk',.int .i64 nn',.slice sa' l'.length sc'] 173 0 false)
  have t1:((k.fresh.new (.row [.int .i64 kk,.int .i64 nn,.slice sa l.length sc] 173 0 false)).new (.row [.int .i64 kk',.int .i64 nn',.slice sa' l'.length sc'] 173 0 false)).get k.next=some (.row [.int .i64 kk,.int .i64 nn,.slice sa l.length sc] 173 0 false):=by
   rw [zI (by simp)];exact zF k.fresh _
  have t2:((k.fresh.new (.row [.int .i64 kk,.int .i64 nn,.slice sa l.length sc] 173 0 false)).new (.row [.int .i64 kk',.int .i64 nn',.slice sa' l'.length sc'] 173 0 false)).get (k.next+1)=some (.row [.int .i64 kk',.int .i64 nn',.slice sa' l'.length sc'] 173 0 false):=zF (k.fresh.new _) _
  have n1:((k.fresh.new (.row [.int .i64 kk,.int .i64 nn,.slice sa l.length sc] 173 0 false)).new (.row [.int .i64 kk',.int .i64 nn',.slice sa' l'.length sc'] 173 0 false)).next=k.next+2:=rfl
  simp only [zb,AH.next_new]
  generalize ((k.fresh.new (.row [.int .i64 kk,.int .i64 nn,.slice sa l.length sc] 173 0 false)).new (.row [.int .i64 kk',.int .i64 nn',.slice sa' l'.length sc'] 173 0 false))=k1 at o1 t1 t2 n1
  have l0:=zD (P:=E) zAS (o:=0) t1
  have l1:=zD (P:=E) zAS (o:=1) t1
  have l2:=zD (P:=E) zC2 (o:=2) t1
  have m0:=zD (P:=E) zAS (o:=0) t2
  have m1:=zD (P:=E) zAS (o:=1) t2
  have m2:=zD (P:=E) zC2 (o:=2) t2
  simp only [lnth] at l0 l1 l2 m0 m1 m2
  simp only [fa_173_0,fa_173_1,zAW,Nat.add_zero,Nat.zero_add,l0,l1,l2,m0,m1,m2,zA,len219_1_12,len219_1_15,zZ,call94 o1.ext.ok,zO,zCf,zCJ,true_and,bs47_3,zL]
  rw [or3 o1.ext.ok]
  simp only [zO,zA]
  refine P219_2_of ?_
  have o2:=o1.new (.row [.int .i64 (c3 kk kk'),.int .i64 (c3 nn nn'),.int .i64 (c3 l.length l'.length)] 3 0 false)
  have s1:(k1.new (.row [.int .i64 (c3 kk kk'),.int .i64 (c3 nn nn'),.int .i64 (c3 l.length l'.length)] 3 0 false)).get k.next=_:=(zI (by omega)).trans t1
  have s2:(k1.new (.row [.int .i64 (c3 kk kk'),.int .i64 (c3 nn nn'),.int .i64 (c3 l.length l'.length)] 3 0 false)).get (k.next+1)=_:=(zI (by omega)).trans t2
  simp only [zA,zBY,brK_n]
  show (_->P219_3 _ _ _ (k1.new (.row [.int .i64 (c3 kk kk'),.int .i64 (c3 nn nn'),.int .i64 (c3 l.length l'.length)] 3 0 false)))/\(_->P219_4 _ _ _ _ (k1.new (.row [.int .i64 (c3 kk kk'),.int .i64 (c3 nn nn'),.int .i64 (c3 l.length l'.length)] 3 0 false)))
  generalize (k1.new (.row [.int .i64 (c3 kk kk'),.int .i64 (c3 nn nn'),.int .i64 (c3 l.length l'.length)] 3 0 false))=k2 at o2 s1 s2
  refine ⟨fun h=>P219_3_of ?_,fun h=>P219_4_of ?_⟩
  ·have h':orI [c3 kk kk',c3 nn nn',c3 l.length l'.length]≠0:=h
   simp only [zA,zAN,zX,true_and,cmpT,if_pos h']
   exact ⟨rfl,o2.wm⟩
  ·have h':¬ orI [c3 kk kk',c3 nn nn',c3 l.length l'.length]≠0:=fun hc=>hc h
   have p2:=zD (P:=E) zC2 (o:=2) s1
   have q2:=zD (P:=E) zC2 (o:=2) s2
   simp only [lnth] at p2 q2
   cases hr' with
   | @mk _ els' _ ha' hn' hc'=>
    have hlen':=RC.length hc'
    have:=call247 (h0:=h0) (f:=.func (.func 219) #[] #[]) (cf:=cmpAt l l') ha ha' hn (RC.leafs hc) (RC.leafs hc') (fun k3 hk3 i e1 e2 he1 he2=>by
     obtain ⟨ck,cn,cv,cl,q1,q2',q3,q4⟩:=hch i e1 he1
     obtain ⟨dk,dn,dv,dl,r1,r2,r3⟩:=RC.at hc' i e2 he2
     subst q1
     subst r1
     have:=q4 k3 dk dn dv dl r2 hk3
     simp only [zZ,cmpAt,q3,r3]
     exact this) (hk.trans o2.ext)
    simp only [zAW,Nat.zero_add,p2,q2,zA,zZ,this,zO,zAN,zX,true_and,cmpT,if_neg h']
    refine ⟨?_,o2.wm⟩
    rw [hlen,hlen',cmpFrom_eq _ _ _ _ (by omega),if_pos (Nat.zero_le _)]
    simp
theorem specs219 {h0:AH}:∀ {els:List (List Value)} {ts:List GT},RC h0 els ts->∀ (i:Nat) (e:List Value),els[i]?=some e->
  ∃ (k n:Int) (v:Value) (l:List GT),e=[.int .i64 k,.int .i64 n,v]/\RT h0 v l/\ts[i]?=some (.mk k n l)/\Spec219 h0 k n v l
 | _,_,.nil,i,e,h=>by simp at h
 | _,_,.cons hv hs,0,e,h=>by simp at h;exact ⟨_,_,_,_,h.symm,hv,rfl,spec219 hv _ _⟩
 | _,_,.cons hv hs,i+1,e,h=>by
  simp only [List.getElem?_cons_succ] at h
  obtain ⟨k,n,v,l,a,b,c,d⟩:=specs219 hs i e h
  exact ⟨k,n,v,l,a,b,by simpa using c,d⟩
end
theorem call218 {h0 k:AH} {v v':Value} {l l':List GT} (hr:RT h0 v l) (hr':RT h0 v' l') (hk:Ext h0 k):(zV E).call 218 [v,v',.func (.func 219) #[] #[]] k=some [(.int .i64 (cmpL l l'),k)]:=by
 refine F218_flat (s:=true) hk.ok rfl (P218_0_of ?_)
 simp only [zA]
 refine P218_1_of ?_
 cases hr with
 | @mk _ els _ ha hn hc=>
 cases hr' with
 | @mk _ els' _ ha' hn' hc'=>
  have hlen:=RC.length hc
  have hlen':=RC.length hc'
  have:=call247 (h0:=h0) (f:=.func (.func 219) #[] #[]) (cf:=cmpAt l l') ha ha' hn (RC.leafs hc) (RC.leafs hc') (fun k3 hk3 i e1 e2 he1 he2=>by
   obtain ⟨ck,cn,cv,cl,q1,q2',q3⟩:=RC.at hc i e1 he1
   obtain ⟨dk,dn,dv,dl,r1,r2,r3⟩:=RC.at hc' i e2 he2
   subst q1
   subst r1
   have:=spec219 q2' ck cn k3 dk dn dv dl r2 hk3
   simp only [zZ,cmpAt,q3,r3]
   exact this) hk.fresh
  simp only [zA,zZ,this,zO,zAN,zX,true_and]
  refine ⟨?_,by simp⟩
  rw [hlen,hlen',cmpFrom_eq _ _ _ _ (by omega),if_pos (Nat.zero_le _)]
  simp
def cmpLab (g:Int) (l:List GT) (g':Int) (l':List GT):Int:=orI [c3 g g',cmpL l l']
theorem call168 {h0 k:AH} {g g':Int} {v v':Value} {l l':List GT} (hr:RT h0 v l) (hr':RT h0 v' l') (hk:Ext h0 k) :
  (zV E).call 168 [.agg #[.int .i64 g,v],.agg #[.int .i64 g',v']] k=some [(.int .i64 (cmpLab g l g' l'),k)]:=by
 obtain ⟨sa,sc,hv⟩:=hr.slice
 obtain ⟨sa',sc',hv'⟩:=hr'.slice
 subst hv
 subst hv'
 refine F168_flat (s:=true) hk.ok rfl (P168_0_of ?_)
 simp only [ze,zL,zS,zA]
 refine P168_1_of ?_
 have o1:=((Own.fresh k).new (.row [.int .i64 g,.slice sa l.length sc] 36 0 false)).new (.row [.int .i64 g',.slice sa' l'.length sc'] 36 0 false)
 have t1:((k.fresh.new (.row [.int .i64 g,.slice sa l.length sc] 36 0 false)).new (.row [.int .i64 g',.slice sa' l'.length sc'] 36 0 false)).get k.next=some (.row [.int .i64 g,.slice sa l.length sc] 36 0 false):=by
  rw [zI (by simp)];exact zF k.fresh _
 have t2:((k.fresh.new (.row [.int .i64 g,.slice sa l.length sc] 36 0 false)).new (.row [.int .i64 g',.slice sa' l'.length sc'] 36 0 false)).get (k.next+1)=some (.row [.int .i64 g',.slice sa' l'.length sc'] 36 0 false):=zF (k.fresh.new _) _
 simp only [zb,AH.next_new]
 generalize ((k.fresh.new (.row [.int .i64 g,.slice sa l.length sc] 36 0 false)).new (.row [.int .i64 g',.slice sa' l'.length sc'] 36 0 false))=k1 at o1 t1 t2
 have l0:=zD (P:=E) zAS (o:=0) t1
 have l1:=zD (P:=E) zC2 (o:=1) t1
 have m0:=zD (P:=E) zAS (o:=0) t2
 have m1:=zD (P:=E) zC2 (o:=1) t2
 simp only [lnth] at l0 l1 m0 m1
 simp only [zA7,zBh,Nat.add_zero,Nat.zero_add,l0,l1,m0,m1,zA,zZ,call94 o1.ext.ok,zO,zCJ,true_and,call218 hr hr' (hk.trans o1.ext),bs47_2,zL]
 rw [or2 o1.ext.ok]
 simp only [zO,zAN,zX,true_and]
 exact ⟨rfl,o1.wm⟩
theorem call216 {h0 k:AH} {kk nn:Int} {v:Value} {l:List GT} (hr:RT h0 v l) (hk:Ext h0 k):(zV E).call 216 [.agg #[.int .i64 kk,.int .i64 nn,v]] k=some [(.bool (!isVal (.mk kk nn l)),k)]:=by
 refine F216_flat (s:=true) hk.ok rfl (P216_0_of ?_)
 simp only [ze,zL,zS,zA]
 refine P216_1_of ?_
 have o1:=(Own.fresh k).new (.row [.int .i64 kk,.int .i64 nn,v] 173 0 false)
 have t1:=zF k.fresh (.row [.int .i64 kk,.int .i64 nn,v] 173 0 false)
 simp only [zb] at t1 ⊢
 generalize k.fresh.new (.row [.int .i64 kk,.int .i64 nn,v] 173 0 false)=k1 at o1 t1
 have lt:=zW (P:=E) zBq (o:=0) t1 (by simp)
 simp only [List.drop_zero,List.take] at lt
 simp only [lt,zA,zZ,call217 hr (hk.trans o1.ext),zO,zz,zAN,zX,true_and]
 exact o1.wm
def bare (g:Int):Bool:=decide (g=-3)||decide (g=-1)
def zCz (g:Int) (l:List GT):Bool:=decide (g < -3)||decide (32<=g)||decide (8<l.length)||(bare g&&decide (0<l.length))||decide (0<=zt (pNot l isVal) l.length 0)
theorem call167 {h0 k:AH} {g:Int} {v:Value} {l:List GT} (hr:RT h0 v l) (hk:Ext h0 k):(zV E).call 167 [.agg #[.int .i64 g,v]] k=some [(.int .i64 (if zCz g l then 170 else 0),k)]:=by
 refine F167_flat (s:=true) hk.ok rfl (P167_0_of ?_)
 have hr0:=hr
 obtain ⟨sa,sc,hv⟩:=hr.slice
 subst hv
 simp only [ze,zL,zS,zA]
 refine P167_1_of ?_
 have o1:=(Own.fresh k).new (.row [.int .i64 g,.slice sa l.length sc] 36 0 false)
 have t1:=zF k.fresh (.row [.int .i64 g,.slice sa l.length sc] 36 0 false)
 simp only [zb] at t1 ⊢
 generalize k.fresh.new (.row [.int .i64 g,.slice sa l.length sc] 36 0 false)=k1 at o1 t1
 have l0:=zD (P:=E) zAS (o:=0) t1
 have l1:=zD (P:=E) zC2 (o:=1) t1
 simp only [lnth] at l0 l1
 have hb:P167_2 true (KR E [.tmp 2] (fun x m=>x=.int .i64 (if zCz g l then 170 else 0)/\k.next<=m.wm)) (.pointer (some ⟨k.next,0,none⟩)) (.bool (bare g)) k1:=by
  refine P167_2_of ?_
  have hcf:(zV E).call 215 [.slice sa l.length sc,.func (.func 216) #[] #[]] k1=some [(.bool (decide (0<=zt (pNot l isVal) l.length 0)),k1)]:=by
   cases hr0 with
   | @mk _ els _ ha hn hc=>
    have:=call215 (h0:=h0) (f:=.func (.func 216) #[] #[]) (p:=pNot l isVal) ha hn (fun k2 hk2 i e he=>by
     obtain ⟨ck,cn,cv,cl,q1,q2,q3⟩:=RC.at hc i e he
     subst q1
     simp only [zZ,pNot,q3]
     exact call216 q2 hk2) (hk.trans o1.ext)
    rw [RC.length hc] at this
    exact this
  have hend:∀ b:Bool,(BrK (some (.bool b)) (P167_3 true (KR E [.tmp 2] (fun x m=>x=.int .i64 (if b then 170 else 0)/\k.next<=m.wm)) k1) (P167_4 true (KR E [.tmp 2] (fun x m=>x=.int .i64 (if b then 170 else 0)/\k.next<=m.wm)) k1)):=by
   intro b
   cases b with
   | true=>
    rw [zAK]
    refine P167_3_of ?_
    simp [zA,zAN,zX,o1.wm]
   | false=>
    rw [zAE]
    refine P167_4_of ?_
    simp [zA,zAN,zX,o1.wm]
  have hE:=hend (zCz g l)
  simp only [zA7,zBh,Nat.add_zero,Nat.zero_add,l0,zA,zd,zM,zK]
  by_cases c1:g < -3
  ·simpa [zCz,c1,zA,zM,zY,zn,zq,zK,zL] using hE
  ·by_cases c2:32<=g
   ·simpa [zCz,c1,c2,l0,zA7,zA2,zA,zM,zY,zn,zq,zK,zL] using hE
   ·by_cases c3:8<l.length
    ·have c3':(8:Int)<l.length:=by omega
     simpa [zCz,c1,c2,c3,c3',l0,l1,zA7,zBh,zA2,zAM,zC8,zA,zM,zY,zn,zq,zK,zL] using hE
    ·have c3':¬ (8:Int)<l.length:=by omega
     by_cases c4:bare g=true
     ·by_cases c5:0<l.length
      ·have c5':(0:Int)<l.length:=by omega
       simpa [zCz,c1,c2,c3,c3',c4,c5,c5',l0,l1,zA7,zBh,zA2,zAM,zC8,len167_2_19,zA,zM,zY,zn,zq,zK,zL,hcf,zO,zZ] using hE
      ·have c5':¬ (0:Int)<l.length:=by omega
       simpa [zCz,c1,c2,c3,c3',c4,c5,c5',l0,l1,zA7,zBh,zA2,zAM,zC8,len167_2_19,zA,zM,zY,zn,zq,zK,zL,hcf,zO,zZ] using hE
     ·simpa [zCz,c1,c2,c3,c3',c4,l0,l1,zA7,zBh,zA2,zAM,zC8,len167_2_19,zA,zM,zY,zn,zq,zK,zL,hcf,zO,zZ] using hE
 simp only [zA7,Nat.add_zero,l0,zA,zAU,zM]
 by_cases c1:g=-3
 ·simp only [c1,decide_true,show ((true==false)=false) from rfl,cond_false,zA,zK,cond_true]
  simpa [bare,c1] using hb
 ·by_cases c2:g=-1
  ·simp only [c1,c2,decide_true,decide_false,show ((false==false)=true) from rfl,cond_false,zA,zK,cond_true,zA7,Nat.add_zero,l0,zAU]
   simpa [bare,c1,c2,l0,zA,zAU] using hb
  ·simp only [c1,c2,decide_true,decide_false,show ((false==false)=true) from rfl,cond_false,zA,zK,cond_true,zA7,Nat.add_zero,l0,zAU]
   simpa [bare,c1,c2,l0,zA,zAU] using hb
end Go.Proofs
namespace Go.Proofs
open Go Go.AM
set_option maxRecDepth 100000
set_option maxHeartbeats 2000000
structure GL where
 n:Int
 labs:List (Int×List GT)
 eds:List (Int×Int×Int)
inductive RLab (h:AH):List (List Value)->List (Int×List GT)->Prop
 | nil:RLab h [] []
 | cons {g:Int} {v:Value} {l:List GT} {els:List (List Value)} {ls:List (Int×List GT)} (hv:RT h v l) (hs:RLab h els ls):RLab h ([.int .i64 g,v]::els) ((g,l)::ls)
def zP (e:Int×Int×Int):List Value:=[.int .i64 e.1,.int .i64 e.2.1,.int .i64 e.2.2]
structure RL (h:AH) (x:Value) (L:GL):Prop where
 ex:∃ vl ve elsL,x=.agg #[.int .i64 L.n,vl,ve]/\Arr h 2 vl elsL/\RLab h elsL L.labs/\Arr h 3 ve (L.eds.map zP)
theorem RLab.ext {h k:AH} (e:Ext h k):∀ {els:List (List Value)} {ls:List (Int×List GT)},RLab h els ls->RLab k els ls
 | _,_,.nil=>.nil
 | _,_,.cons hv hs=>.cons (hv.ext e) (RLab.ext e hs)
theorem RLab.length {h:AH}:∀ {els:List (List Value)} {ls:List (Int×List GT)},RLab h els ls->els.length=ls.length
 | _,_,.nil=>rfl
 | _,_,.cons _ hs=>by simp [RLab.length hs]
theorem RLab.at {h:AH}:∀ {els:List (List Value)} {ls:List (Int×List GT)},RLab h els ls->∀ (i:Nat) (e:List Value),els[i]?=some e->∃ (g:Int) (v:Value) (l:List GT),e=[.int .i64 g,v]/\RT h v l/\ls[i]?=some (g,l)
 | _,_,.nil,i,e,h=>by simp at h
 | _,_,.cons hv hs,0,e,h=>by simp at h;exact ⟨_,_,_,h.symm,hv,rfl⟩
 | _,_,.cons hv hs,i+1,e,h=>by simp only [List.getElem?_cons_succ] at h;obtain ⟨g,v,l,a,b,c⟩:=RLab.at hs i e h;exact ⟨g,v,l,a,b,by simpa using c⟩
theorem RL.ext {h k:AH} {x:Value} {L:GL} (r:RL h x L) (e:Ext h k):RL k x L:=by
 obtain ⟨vl,ve,els,a,b,c,d⟩:=r.ex
 exact ⟨vl,ve,els,a,b.ext e,c.ext e,d.ext e⟩
theorem Arr.slice {h:AH} {z:Nat} {v:Value} {els:List (List Value)} (a:Arr h z v els):∃ ad c,v=.slice ad els.length c:=by
 cases a with
 | nil a c=>exact ⟨a,c,rfl⟩
 | row=>exact ⟨_,_,rfl⟩
theorem call169 {k:AH} {a b:Int} (hok:k.ok):(zV E).call 169 [.int .i64 a,.int .i64 b] k=some [(.bool (decide (0<=a)&&decide (a<b)),k)]:=by
 refine F169_flat (s:=true) hok rfl (P169_0_of ?_)
 simp only [zA]
 refine P169_1_of ?_
 simp only [zA,zA2,zM]
 by_cases c1:0<=a
 ·simp [c1,zA,zd,zK,zAN,zX]
 ·simp [c1,zA,zd,zK,zAN,zX]
def cmpE (e f:Int×Int×Int):Int:=orI [c3 e.1 f.1,c3 e.2.1 f.2.1,c3 e.2.2 f.2.2]
theorem call170 {k:AH} {e f:Int×Int×Int} (hok:k.ok):(zV E).call 170 [.agg ⟨zP e⟩,.agg ⟨zP f⟩] k=some [(.int .i64 (cmpE e f),k)]:=by
 refine F170_flat (s:=true) hok rfl (P170_0_of ?_)
 simp only [ze,zL,zS,zA]
 refine P170_1_of ?_
 have o1:=((Own.fresh k).new (.row (zP e) 52 0 false)).new (.row (zP f) 52 0 false)
 have t1:((k.fresh.new (.row (zP e) 52 0 false)).new (.row (zP f) 52 0 false)).get k.next=some (.row (zP e) 52 0 false):=by
  rw [zI (by simp)];exact zF k.fresh _
 have t2:((k.fresh.new (.row (zP e) 52 0 false)).new (.row (zP f) 52 0 false)).get (k.next+1)=some (.row (zP f) 52 0 false):=zF (k.fresh.new _) _
 simp only [zb,AH.next_new]
 generalize ((k.fresh.new (.row (zP e) 52 0 false)).new (.row (zP f) 52 0 false))=k1 at o1 t1 t2
 have l0:=zD (P:=E) zAS (o:=0) t1
 have l1:=zD (P:=E) zAS (o:=1) t1
 have l2:=zD (P:=E) zAS (o:=2) t1
 have m0:=zD (P:=E) zAS (o:=0) t2
 have m1:=zD (P:=E) zAS (o:=1) t2
 have m2:=zD (P:=E) zAS (o:=2) t2
 simp only [lnth,zP] at l0 l1 l2 m0 m1 m2
 simp only [zDB,zBW,zA1,Nat.add_zero,Nat.zero_add,l0,l1,l2,m0,m1,m2,zA,zZ,call94 o1.ext.ok,zO,zCf,true_and,bs47_3,zL]
 rw [or3 o1.ext.ok]
 simp only [zO,zA,zAN,zX,true_and]
 exact ⟨rfl,o1.wm⟩
def zB7 (ls:List (Int×List GT)) (i:Nat):Bool:=match ls[i]? with
 | some x=>zCz x.1 x.2||(decide (0<i)&&match ls[i-1]? with
  | some y=>decide (0<=cmpLab y.1 y.2 x.1 x.2)
  | none=>false)
 | none=>false
def zB2 (n m:Int) (es:List (Int×Int×Int)) (i:Nat):Bool:=match es[i]? with
 | some e=>!(decide (0<=e.1)&&decide (e.1<n))||!(decide (0<=e.2.2)&&decide (e.2.2<n))||!(decide (0<=e.2.1)&&decide (e.2.1<m))||(decide (0<i)&&match es[i-1]? with
  | some f=>decide (0<=cmpE f e)
  | none=>false)
 | none=>false
def zAD (p:Nat->Bool):Nat->Nat->Bool
 | 0,_=>false
 | m+1,i=>p i||zAD p m (i+1)
theorem zBZ {p:Nat->Bool}:∀ {m i:Nat},zAD p m i=false->∀ j,i<=j->j<i+m->p j=false
 | 0,i,_,j,h1,h2=>by omega
 | m+1,i,h,j,h1,h2=>by
  simp only [zAD,Bool.or_eq_false_iff] at h
  by_cases e:j=i
  ·rw [e];exact h.1
  ·exact zBZ h.2 j (by omega) (by omega)
def zBi (L:GL):Bool:=decide (L.n<1)||decide (20000<L.n)||decide (4000<L.labs.length)||decide (100000<L.eds.length)
def zAZ (L:GL):Bool:=zBi L||zAD (zB7 L.labs) L.labs.length 0||zAD (zB2 L.n L.labs.length L.eds) L.eds.length 0
abbrev kf8 (k:AH) (b:Bool):KF:=KR E [.tmp 2] (fun x m=>x=.int .i64 (if b then 8 else 0)/\k.next<=m.wm)
theorem put2:∀ (e:List Value),e.length=2->lput [Value.int .i64 0,.slice none 0 0] 0 e=e:=by
 intro e he
 match e,he with
 | [x,y],_=>rfl
theorem put3i:∀ (e:List Value),e.length=3->lput [Value.int .i64 0,.int .i64 0,.int .i64 0] 0 e=e:=by
 intro e he
 match e,he with
 | [x,y,z],_=>rfl
theorem sub1 {i:Nat} (h:0<i) (hi:i<=9223372036854775807) (t:TypeId):zE E .sub t (.int .i64 (i:Int)) (.int .i64 1)=some (.int .i64 ((i-1:Nat):Int)):=by
 rw [bf_sub _ (by unfold in64;omega)]
 congr 2;omega
theorem call121 {h0 k:AH} {x:Value} {L:GL} (hr:RL h0 x L) (hk:Ext h0 k):(zV E).call 121 [x] k=some [(.int .i64 (if zAZ L then 8 else 0),k)]:=by
 obtain ⟨vl,ve,elsL,hx,haL,hL,haE⟩:=hr.ex
 obtain ⟨aL,cL,hvl⟩:=haL.slice
 obtain ⟨aE,cE,hve⟩:=haE.slice
 rw [RLab.length hL] at hvl
 rw [List.length_map] at hve
 subst hvl
 subst hve
 subst hx
 refine F121_flat (s:=true) hk.ok rfl (P121_0_of ?_)
 simp only [ze,zL,zS,zA]
 refine P121_1_of ?_
 have o1:=(Own.fresh k).new (.row [.int .i64 L.n,.slice aL L.labs.length cL,.slice aE L.eds.length cE] 25 0 false)
 have t1:=zF k.fresh (.row [.int .i64 L.n,.slice aL L.labs.length cL,.slice aE L.eds.length cE] 25 0 false)
 simp only [zb] at t1 ⊢
 have n1:(k.fresh.new (.row [.int .i64 L.n,.slice aL L.labs.length cL,.slice aE L.eds.length cE] 25 0 false)).next=k.next+1:=rfl
 generalize k.fresh.new (.row [.int .i64 L.n,.slice aL L.labs.length cL,.slice aE L.eds.length cE] 25 0 false)=k1 at o1 t1 n1
 have box:∀ l,Ext k1 l->l.get k.next=some (.row [.int .i64 L.n,.slice aL L.labs.length cL,.slice aE L.eds.length cE] 25 0 false):=fun l hl=>(hl.get _ (by omega)).trans t1
 have edges:∀ (hs:zBi L=false) (m i:Nat),i+m=L.eds.length->∀ l,Ext k1 l->k.next<=l.wm->
   P121_11 true (kf8 k (zAD (zB2 L.n L.labs.length L.eds) m i)) (.pointer (some ⟨k.next,0,none⟩)) (.func (.func 169) #[] #[]) (.slice aE L.eds.length cE) (.int .i64 (L.eds.length:Int)) (.int .i64 (i:Int)) l:=by
  intro hs m
  have hle:L.eds.length<=100000:=by simp [zBi] at hs;omega
  induction m with
  | zero=>
   intro i hi l hl hw
   refine P121_11_of ?_
   simp only [zd,zA,zAL]
   refine ⟨fun h=>by omega,fun _=>P121_16_of ?_⟩
   simp [zA,zAN,zX,zAD,hw]
  | succ m ih=>
   intro i hi l hl hw
   have hin:i<L.eds.length:=by omega
   refine P121_11_of ?_
   simp only [zd,zA,zAL]
   refine ⟨fun _=>P121_12_of ?_,fun h=>by omega⟩
   have hat:(L.eds.map zP)[i]?=some (zP L.eds[i]):=by simp [hin]
   obtain ⟨b,o,c,vs,ty,es,ro,hv,hb,hlt,hle2,hz,hzl⟩:=haE.load hat
   simp only [Value.slice.injEq] at hv
   obtain ⟨hv1,_,hv3⟩:=hv
   subst hv1
   have he0:Ext h0 l:=(hk.trans o1.ext).trans hl
   have gb:l.get b=some (.row vs ty es ro):=(he0.get b hlt).trans hb
   simp only [zA,ia_23 hin,zW ta_52 gb hle2,hz,z_52,ze,zL,zS]
   rw [z0 (P:=E) ts_52 (x:=.agg ⟨zP L.eds[i]⟩) (cs:=zP L.eds[i]) (zF l _) rfl hzl (by simp) (by simp [zP,zp])]
   simp only [zL]
   rw [put3i _ hzl]
   have hkl:=hl.next
   have e2:=(hl.new (.row [.int .i64 0,.int .i64 0,.int .i64 0] 52 0 false)).upd (b:=l.next) hkl (some (.row (zP L.eds[i]) 52 0 false))
   have w2:k.next<=((l.new (.row [.int .i64 0,.int .i64 0,.int .i64 0] 52 0 false)).upd l.next (some (.row (zP L.eds[i]) 52 0 false))).wm:=zx (by rw [wm_new];exact hw) (by omega)
   have t2:((l.new (.row [.int .i64 0,.int .i64 0,.int .i64 0] 52 0 false)).upd l.next (some (.row (zP L.eds[i]) 52 0 false))).get l.next=some (.row (zP L.eds[i]) 52 0 false):=zR _ _ _
   have g2:((l.new (.row [.int .i64 0,.int .i64 0,.int .i64 0] 52 0 false)).upd l.next (some (.row (zP L.eds[i]) 52 0 false))).get b=some (.row vs ty es ro):=by
    have h1:=hk.next
    have h2:=o1.ext.next
    rw [zQ (by omega),zI (by omega)];exact gb
   generalize ((l.new (.row [.int .i64 0,.int .i64 0,.int .i64 0] 52 0 false)).upd l.next (some (.row (zP L.eds[i]) 52 0 false)))=l2 at e2 w2 t2 g2
   refine P121_13_of ?_
   have b2:=box l2 e2
   have ok2:=e2.ok
   have n0:=zD (P:=E) zAS (o:=0) b2
   have n1:=zD (P:=E) ta_22 (o:=1) b2
   have n2:=zD (P:=E) ta_23 (o:=2) b2
   have c0:=zD (P:=E) zAS (o:=0) t2
   have c1:=zD (P:=E) zAS (o:=1) t2
   have c2:=zD (P:=E) zAS (o:=2) t2
   have ca:=zW (P:=E) ta_52 (o:=0) t2 (by simp [zP])
   rw [List.drop_zero,List.take_of_length_le (by simp [zP])] at ca
   simp only [lnth,zP] at n0 n1 n2 c0 c1 c2
   have hend:∀ bad:Bool,zB2 L.n L.labs.length L.eds i=bad->(BrK (some (.bool bad)) (P121_14 true (kf8 k (zAD (zB2 L.n L.labs.length L.eds) (m+1) i)) l2) (P121_15 true (kf8 k (zAD (zB2 L.n L.labs.length L.eds) (m+1) i)) (.pointer (some ⟨k.next,0,none⟩)) (.func (.func 169) #[] #[]) (.slice (some ⟨b,o,none⟩) L.eds.length cE) (.int .i64 (L.eds.length:Int)) (.int .i64 (i:Int)) l2)):=by
    intro bad hbad
    cases bad with
    | true=>
     rw [zAK]
     refine P121_14_of ?_
     simp [zA,zAN,zX,w2,zAD,hbad]
    | false=>
     rw [zAE]
     refine P121_15_of ?_
     simp only [zAJ _ (add1 hin (by omega)),zA]
     have:=ih (i+1) (by omega) l2 e2 w2
     simp only [zAD,hbad,Bool.false_or]
     simpa using this
   simp only [zDB,zBW,zA1,zB1,Nat.add_zero,Nat.zero_add,n0,c0,c1,c2,zA,zZ,call169 ok2,zO,zz,zM,zY]
   have hatE:L.eds[i]?=some L.eds[i]:=List.getElem?_eq_getElem hin
   have q2:=call169 (k:=l2) (a:=L.eds[i].2.2) (b:=L.n) ok2
   have q3:=call169 (k:=l2) (a:=L.eds[i].2.1) (b:=(L.labs.length:Int)) ok2
   have hedge:zB2 L.n L.labs.length L.eds i=(!(decide (0<=L.eds[i].1)&&decide (L.eds[i].1<L.n))||!(decide (0<=L.eds[i].2.2)&&decide (L.eds[i].2.2<L.n))||!(decide (0<=L.eds[i].2.1)&&decide (L.eds[i].2.1<(L.labs.length:Int)))||(decide (0<i)&&match L.eds[i-1]? with
    | some f=>decide (0<=cmpE f L.eds[i])
    | none=>false)):=by simp only [zB2,hatE]
   generalize (decide (0<=L.eds[i].1)&&decide (L.eds[i].1<L.n))=A at hedge ⊢
   generalize (decide (0<=L.eds[i].2.2)&&decide (L.eds[i].2.2<L.n))=B at hedge q2
   generalize (decide (0<=L.eds[i].2.1)&&decide (L.eds[i].2.1<(L.labs.length:Int)))=D at hedge q3
   cases A with
   | false=>
    have:=hend true (by rw [hedge];rfl)
    simpa only [Bool.not_false,Bool.not_true,beq_self_eq_true,show (true==false)=false from rfl,show (false==true)=false from rfl,cond_true,cond_false,zA,zO,zz,zM,zY,zn,zq,zK,zL] using this
   | true=>
    simp only [Bool.not_false,Bool.not_true,beq_self_eq_true,show (true==false)=false from rfl,show (false==true)=false from rfl,cond_true,cond_false,zA,zO,zz,zM,zY,zK,zL,zDB,zBW,zA1,zB1,zAj,zBI,Nat.add_zero,Nat.zero_add,n0,n1,n2,c0,c1,c2,zZ,q2]
    cases B with
    | false=>
     have:=hend true (by rw [hedge];rfl)
     simpa only [Bool.not_false,Bool.not_true,beq_self_eq_true,show (true==false)=false from rfl,show (false==true)=false from rfl,cond_true,cond_false,zA,zO,zz,zM,zY,zn,zq,zK,zL] using this
    | true=>
     simp only [Bool.not_false,Bool.not_true,beq_self_eq_true,show (true==false)=false from rfl,show (false==true)=false from rfl,cond_true,cond_false,zA,zO,zz,zM,zY,zK,zL,zDB,zBW,zA1,zB1,zAj,zBI,Nat.add_zero,Nat.zero_add,n0,n1,n2,c0,c1,c2,zZ,len121_13_22,q3]
     cases D with
     | false=>
      have:=hend true (by rw [hedge];rfl)
      simpa only [Bool.not_false,Bool.not_true,beq_self_eq_true,show (true==false)=false from rfl,show (false==true)=false from rfl,cond_true,cond_false,zA,zO,zz,zM,zY,zn,zq,zK,zL] using this
     | true=>
      simp only [Bool.not_false,Bool.not_true,beq_self_eq_true,show (true==false)=false from rfl,show (false==true)=false from rfl,cond_true,cond_false,zA,zO,zz,zM,zY,zK,zL,zAM]
      by_cases d4:0<i
      ·have d4':(0:Int)<i:=by omega
       have hin':i-1<L.eds.length:=by omega
       have hat':(L.eds.map zP)[i-1]?=some (zP L.eds[i-1]):=by simp [hin']
       obtain ⟨b',o',c',vs',ty',es',ro',hv',hb',hlt',hle2',hz',hzl'⟩:=haE.load hat'
       simp only [Value.slice.injEq] at hv'
       obtain ⟨hv1',_,_⟩:=hv'
       cases hv1'
       rw [hb] at hb'
       cases hb'
       have hee:zB2 L.n L.labs.length L.eds i=decide (0<=cmpE L.eds[i-1] L.eds[i]):=by rw [hedge,List.getElem?_eq_getElem hin'];simp [d4]
       have:=hend (decide (0<=cmpE L.eds[i-1] L.eds[i])) hee
       simpa only [d4',zAM,decide_true,Bool.not_false,Bool.not_true,beq_self_eq_true,show (true==false)=false from rfl,show (false==true)=false from rfl,cond_true,cond_false,zA,zO,zz,zM,zY,zK,zL,zBI,Nat.zero_add,n2,sub1 d4 (by omega:i<=9223372036854775807),ia_23 hin',zW ta_52 g2 hle2',hz',ca,zZ,call170 ok2,zA2] using this
      ·have d4':¬ (0:Int)<i:=by omega
       have:=hend false (by rw [hedge];simp [d4])
       simpa only [d4',zAM,decide_false,Bool.not_false,Bool.not_true,beq_self_eq_true,show (true==false)=false from rfl,show (false==true)=false from rfl,cond_true,cond_false,zA,zO,zz,zM,zY,zn,zq,zK,zL] using this
 have labels:∀ (hs:zBi L=false) (m i:Nat),i+m=L.labs.length->∀ l,Ext k1 l->k.next<=l.wm->
   P121_4 true (kf8 k (zAD (zB7 L.labs) m i||zAD (zB2 L.n L.labs.length L.eds) L.eds.length 0)) (.pointer (some ⟨k.next,0,none⟩)) (.slice aL L.labs.length cL) (.int .i64 (L.labs.length:Int)) (.int .i64 (i:Int)) l:=by
  intro hs m
  have hle:L.labs.length<=4000:=by simp [zBi] at hs;omega
  induction m with
  | zero=>
   intro i hi l hl hw
   refine P121_4_of ?_
   simp only [zd,zA,zAL]
   refine ⟨fun h=>by omega,fun _=>P121_9_of ?_⟩
   simp only [zA]
   refine P121_10_of ?_
   have b2:=box l hl
   have n2:=zD (P:=E) ta_23 (o:=2) b2
   simp only [lnth] at n2
   simp only [zBI,Nat.zero_add,n2,zA,len121_10_2]
   have:=edges hs L.eds.length 0 (by omega) l hl hw
   simpa [zAD] using this
  | succ m ih=>
   intro i hi l hl hw
   have hin:i<L.labs.length:=by omega
   have hin2:i<elsL.length:=by rw [RLab.length hL];exact hin
   refine P121_4_of ?_
   simp only [zd,zA,zAL]
   refine ⟨fun _=>P121_5_of ?_,fun h=>by omega⟩
   obtain ⟨g,v,lt,hel,hrt,hatL⟩:=RLab.at hL i _ (List.getElem?_eq_getElem hin2)
   obtain ⟨b,o,c,vs,ty,es,ro,hv,hb,hlt,hle2,hz,hzl⟩:=haL.load (List.getElem?_eq_getElem hin2)
   rw [hel] at hz hzl
   simp only [Value.slice.injEq] at hv
   obtain ⟨hv1,_,hv3⟩:=hv
   subst hv1
   have he0:Ext h0 l:=(hk.trans o1.ext).trans hl
   have gb:l.get b=some (.row vs ty es ro):=(he0.get b hlt).trans hb
   simp only [zA,ia_22 hin,zW ta_36 gb hle2,hz,z_36,ze,zL,zS]
   rw [z0 (P:=E) ts_36 (x:=.agg ⟨[.int .i64 g,v]⟩) (cs:=[.int .i64 g,v]) (zF l _) rfl hzl (by simp) (by simp [zp];exact zC5 hrt)]
   simp only [zL]
   rw [put2 _ hzl]
   have hkl:=hl.next
   have e2:=(hl.new (.row [.int .i64 0,.slice none 0 0] 36 0 false)).upd (b:=l.next) hkl (some (.row [.int .i64 g,v] 36 0 false))
   have w2:k.next<=((l.new (.row [.int .i64 0,.slice none 0 0] 36 0 false)).upd l.next (some (.row [.int .i64 g,v] 36 0 false))).wm:=zx (by rw [wm_new];exact hw) (by omega)
   have t2:((l.new (.row [.int .i64 0,.slice none 0 0] 36 0 false)).upd l.next (some (.row [.int .i64 g,v] 36 0 false))).get l.next=some (.row [.int .i64 g,v] 36 0 false):=zR _ _ _
   have g2:((l.new (.row [.int .i64 0,.slice none 0 0] 36 0 false)).upd l.next (some (.row [.int .i64 g,v] 36 0 false))).get b=some (.row vs ty es ro):=by
    have h1:=hk.next
    have h2:=o1.ext.next
    rw [zQ (by omega),zI (by omega)];exact gb
   generalize ((l.new (.row [.int .i64 0,.slice none 0 0] 36 0 false)).upd l.next (some (.row [.int .i64 g,v] 36 0 false)))=l2 at e2 w2 t2 g2
   refine P121_6_of ?_
   have b2:=box l2 e2
   have he2:Ext h0 l2:=(hk.trans o1.ext).trans e2
   have n1:=zD (P:=E) ta_22 (o:=1) b2
   have ca:=zW (P:=E) ta_36 (o:=0) t2 (by simp)
   simp only [lnth,List.drop_zero,List.take] at n1 ca
   have hend:∀ bad:Bool,zB7 L.labs i=bad->(BrK (some (.bool bad)) (P121_7 true (kf8 k (zAD (zB7 L.labs) (m+1) i||zAD (zB2 L.n L.labs.length L.eds) L.eds.length 0)) l2) (P121_8 true (kf8 k (zAD (zB7 L.labs) (m+1) i||zAD (zB2 L.n L.labs.length L.eds) L.eds.length 0)) (.pointer (some ⟨k.next,0,none⟩)) (.slice (some ⟨b,o,none⟩) L.labs.length cL) (.int .i64 (L.labs.length:Int)) (.int .i64 (i:Int)) l2)):=by
    intro bad hbad
    cases bad with
    | true=>
     rw [zAK]
     refine P121_7_of ?_
     simp [zA,zAN,zX,w2,zAD,hbad]
    | false=>
     rw [zAE]
     refine P121_8_of ?_
     simp only [zAJ _ (add1 hin (by omega)),zA]
     have:=ih (i+1) (by omega) l2 e2 w2
     simp only [zAD,hbad,Bool.false_or]
     simpa using this
   simp only [ca,zA,zZ,call167 hrt he2,zO,zBY]
   have hlab:zB7 L.labs i=(zCz g lt||(decide (0<i)&&match L.labs[i-1]? with
    | some y=>decide (0<=cmpLab y.1 y.2 g lt)
    | none=>false)):=by simp only [zB7,hatL]
   cases hA:zCz g lt with
   | true=>
    have:=hend true (by rw [hlab,hA];rfl)
    simpa only [hA,if_true,show (!decide ((170:Int)=0))=true from rfl,Bool.not_false,Bool.not_true,beq_self_eq_true,show (true==false)=false from rfl,show (false==true)=false from rfl,cond_true,cond_false,zA,zO,zz,zM,zY,zn,zq,zK,zL] using this
   | false=>
    simp only [hA,Bool.false_eq_true,if_false,decide_true,Bool.not_false,Bool.not_true,beq_self_eq_true,show (true==false)=false from rfl,show (false==true)=false from rfl,cond_true,cond_false,zA,zO,zz,zM,zY,zn,zq,zK,zL,zAM]
    by_cases d4:0<i
    ·have d4':(0:Int)<i:=by omega
     have hin':i-1<L.labs.length:=by omega
     have hin2':i-1<elsL.length:=by rw [RLab.length hL];exact hin'
     obtain ⟨g',v',lt',hel',hrt',hatL'⟩:=RLab.at hL (i-1) _ (List.getElem?_eq_getElem hin2')
     obtain ⟨b',o',c',vs',ty',es',ro',hv',hb',hlt',hle2',hz',hzl'⟩:=haL.load (List.getElem?_eq_getElem hin2')
     rw [hel'] at hz' hzl'
     simp only [Value.slice.injEq] at hv'
     obtain ⟨hv1',_,_⟩:=hv'
     cases hv1'
     rw [hb] at hb'
     cases hb'
     have hee:zB7 L.labs i=decide (0<=cmpLab g' lt' g lt):=by rw [hlab,hA,hatL'];simp [d4]
     have:=hend (decide (0<=cmpLab g' lt' g lt)) hee
     simpa only [d4',zAM,decide_true,Bool.not_false,Bool.not_true,beq_self_eq_true,show (true==false)=false from rfl,show (false==true)=false from rfl,cond_true,cond_false,zA,zO,zz,zM,zY,zn,zq,zK,zL,zAj,Nat.zero_add,n1,sub1 d4 (by omega:i<=9223372036854775807),ia_22 hin',zW ta_36 g2 hle2',hz',ca,zZ,call168 hrt' hrt he2,zA2] using this
    ·have d4':¬ (0:Int)<i:=by omega
     have:=hend false (by rw [hlab,hA];simp [d4])
     simpa only [d4',zAM,decide_false,Bool.not_false,Bool.not_true,beq_self_eq_true,show (true==false)=false from rfl,show (false==true)=false from rfl,cond_true,cond_false,zA,zO,zz,zM,zY,zn,zq,zK,zL] using this
 have n0:=zD (P:=E) zAS (o:=0) t1
 have n1':=zD (P:=E) ta_22 (o:=1) t1
 have n2:=zD (P:=E) ta_23 (o:=2) t1
 simp only [lnth] at n0 n1' n2
 have hend:∀ bad:Bool,zBi L=bad->(BrK (some (.bool bad)) (P121_2 true (kf8 k (zAZ L)) k1) (P121_3 true (kf8 k (zAZ L)) (.pointer (some ⟨k.next,0,none⟩)) k1)):=by
  intro bad hbad
  cases bad with
  | true=>
   rw [zAK]
   refine P121_2_of ?_
   simp [zA,zAN,zX,o1.wm,zAZ,hbad]
  | false=>
   rw [zAE]
   refine P121_3_of ?_
   simp only [zAj,Nat.zero_add,n1',zA,len121_3_2]
   have:=labels hbad L.labs.length 0 (by omega) k1 (Ext.refl o1.ext.ok) o1.wm
   simp only [zAZ,hbad,Bool.false_or]
   simpa using this
 simp only [zB1,Nat.add_zero,n0,zA,zd]
 by_cases d1:L.n<1
 ·have:=hend true (by simp [zBi,d1])
  simpa only [d1,decide_true,Bool.not_false,Bool.not_true,beq_self_eq_true,show (true==false)=false from rfl,show (false==true)=false from rfl,cond_true,cond_false,zA,zO,zz,zM,zY,zn,zq,zK,zL] using this
 ·simp only [d1,decide_false,Bool.not_false,Bool.not_true,beq_self_eq_true,show (true==false)=false from rfl,show (false==true)=false from rfl,cond_true,cond_false,zA,zO,zz,zM,zY,zn,zq,zK,zL,zB1,Nat.add_zero,n0,zAM]
  by_cases d2:20000<L.n
  ·have:=hend true (by simp [zBi,d2])
   simpa only [d2,decide_true,Bool.not_false,Bool.not_true,beq_self_eq_true,show (true==false)=false from rfl,show (false==true)=false from rfl,cond_true,cond_false,zA,zO,zz,zM,zY,zn,zq,zK,zL] using this
  ·simp only [d2,decide_false,Bool.not_false,Bool.not_true,beq_self_eq_true,show (true==false)=false from rfl,show (false==true)=false from rfl,cond_true,cond_false,zA,zO,zz,zM,zY,zn,zq,zK,zL,zAj,Nat.zero_add,n1',len121_1_11,zAM]
   by_cases d3:4000<L.labs.length
   ·have d3':(4000:Int)<L.labs.length:=by omega
    have:=hend true (by simp [zBi,d3])
    simpa only [d3',decide_true,Bool.not_false,Bool.not_true,beq_self_eq_true,show (true==false)=false from rfl,show (false==true)=false from rfl,cond_true,cond_false,zA,zO,zz,zM,zY,zn,zq,zK,zL] using this
   ·have d3':¬ (4000:Int)<L.labs.length:=by omega
    simp only [d3',decide_false,Bool.not_false,Bool.not_true,beq_self_eq_true,show (true==false)=false from rfl,show (false==true)=false from rfl,cond_true,cond_false,zA,zO,zz,zM,zY,zn,zq,zK,zL,zBI,Nat.zero_add,n2,len121_1_17,zAM]
    by_cases d4:100000<L.eds.length
    ·have d4':(100000:Int)<L.eds.length:=by omega
     have:=hend true (by simp [zBi,d4])
     simpa only [d4',zAM,decide_true,Bool.not_false,Bool.not_true,beq_self_eq_true,show (true==false)=false from rfl,show (false==true)=false from rfl,cond_true,cond_false,zA,zO,zz,zM,zY,zn,zq,zK,zL] using this
    ·have d4':¬ (100000:Int)<L.eds.length:=by omega
     have:=hend false (by simp [zBi,d1,d2,d3,d4])
     simpa only [d4',zAM,decide_false,Bool.not_false,Bool.not_true,beq_self_eq_true,show (true==false)=false from rfl,show (false==true)=false from rfl,cond_true,cond_false,zA,zO,zz,zM,zY,zn,zq,zK,zL] using this
end Go.Proofs
namespace Go.Proofs
open Go Go.AM
structure More (w:World) (σ:Sg) (h:AH) (σ':Sg) (h':AH):Prop where
 le:Sg.le σ σ'
 ext:Ext h h'
 hr:HR w.heap.size σ' h' w
theorem More.refl {w:World} {σ:Sg} {h:AH} (H:HR w.heap.size σ h w) (ok:h.ok):More w σ h σ h:=⟨Sg.le_refl σ,Ext.refl ok,H⟩
theorem More.trans {w:World} {σ σ1 σ2:Sg} {h h1 h2:AH} (a:More w σ h σ1 h1) (b:More w σ1 h1 σ2 h2):More w σ h σ2 h2:=⟨Sg.le_trans a.le b.le,a.ext.trans b.ext,b.hr⟩
theorem More.ok {w:World} {σ σ':Sg} {h h':AH} (a:More w σ h σ' h'):h'.ok:=a.ext.ok
theorem HR.addRO {σ:Sg} {h:AH} {w:World} (H:HR w.heap.size σ h w) (hok:h.ok) {vs:List Value} {el:TypeId} {cs:Array Value} {frz:Nat×Nat} {l:AM.Loc} (hb:w.heap[l.blk]?=some (.cells cs el frz))
  (hsz:l.base+vs.length<=cs.size) (hc:∀ i v,vs[i]?=some v->∃ v',cs[l.base+i]?=some v'/\VR σ v v') :
  More w σ h (σ.ext h.next l) (h.new (.row vs el 0 true)):=by
 have hlt:l.blk<w.heap.size:=zAc hb
 have le:Sg.le σ (σ.ext h.next l):=Sg.le_ext H.free
 refine ⟨le,(Ext.refl hok).new _,?_,?_,?_,?_,Nat.le_refl _⟩
 ·intro b m e
  unfold Sg.ext at e
  split at e
  ·rename_i hb;subst hb;simp
  ·have:=H.dom _ _ e;simp;omega
 ·intro b hb
  rw [AH.get_new]
  simp at hb
  rw [if_neg (by omega)];exact H.fresh b (by omega)
 ·intro b x e
  rw [AH.get_new] at e
  by_cases hb':b=h.next
  ·subst hb'
   rw [if_pos rfl] at e
   cases e
   exact ⟨l,Sg.ext_self ..,⟨cs,el,frz,hb,hsz,fun i v hi=>(let ⟨v',a,b⟩:=hc i v hi;⟨v',a,b.mono le⟩),fun e=>(by cases e),rfl,fun _ e=>(by cases e),fun e=>absurd rfl e⟩,fun e=>(by cases e)⟩
  ·rw [if_neg hb'] at e
   obtain ⟨m,a,c,d⟩:=H.live b x e
   refine ⟨m,le _ _ a,c.mono le rfl (fun i es v lm hi hs=>?_),d⟩
   rw [AH.get_new] at hi
   have hin:i≠h.next:=by intro e;subst e;rw [H.free] at hs;cases hs
   rw [if_neg hin] at hi
   exact ⟨hi,rfl⟩
 ·have other:∀ b' o2 l2,(h.new (.row vs el 0 true)).get b'=some o2->(σ.ext h.next l) b'=some l2->l.blk=l2.blk->b'≠h.next->isRO o2=true:=by
   intro b' o2 l2 e2 s2 hblk hne
   rw [AH.get_new,if_neg hne] at e2
   unfold Sg.ext at s2
   rw [if_neg hne] at s2
   obtain ⟨m,a,c,d⟩:=H.live b' _ e2
   rw [s2] at a;cases a
   cases hro:isRO o2 with
   | true=>rfl
   | false=>have:=d hro;omega
  intro b b' o1 o2 l1 l2 e1 e2 s1 s2 hblk hne
  by_cases hb1:b=h.next
  ·subst hb1
   have e1':=e1
   rw [AH.get_new,if_pos rfl] at e1';cases e1'
   have s1':=s1
   rw [Sg.ext_self] at s1';cases s1'
   exact ⟨rfl,other _ _ _ e2 s2 hblk (fun e=>hne e.symm)⟩
  ·by_cases hb2:b'=h.next
   ·subst hb2
    have e1':=e2
    rw [AH.get_new,if_pos rfl] at e1';cases e1'
    have s1':=s2
    rw [Sg.ext_self] at s1';cases s1'
    exact ⟨other _ _ _ e1 s1 hblk.symm hb1,rfl⟩
   ·rw [AH.get_new,if_neg hb1] at e1
    rw [AH.get_new,if_neg hb2] at e2
    unfold Sg.ext at s1 s2
    rw [if_neg hb1] at s1
    rw [if_neg hb2] at s2
    exact H.inj b b' o1 o2 l1 l2 e1 e2 s1 s2 hblk hne
inductive Els {α:Type} (R:List Value->α->Prop):List (List Value)->List α->Prop
 | nil:Els R [] []
 | cons {e:List Value} {a:α} {es:List (List Value)} {aas:List α} (h:R e a) (hs:Els R es aas):Els R (e::es) (a::aas)
theorem Els.mono {α:Type} {R S:List Value->α->Prop} (H:∀ e a,R e a->S e a):∀ {es:List (List Value)} {aas:List α},Els R es aas->Els S es aas
 | _,_,.nil=>.nil
 | _,_,.cons h hs=>.cons (H _ _ h) (Els.mono H hs)
theorem flat_len {z:Nat}:∀ (els:List (List Value)),(∀ e∈els,e.length=z)->els.flatten.length=els.length*z
 | [],_=>by simp
 | e::es,H=>by
  rw [List.flatten_cons,List.length_append,H e (by simp),flat_len es fun x hx=>H x (by simp [hx]),List.length_cons,Nat.add_mul];omega
theorem flat_get {z:Nat}:∀ (els:List (List Value)),(∀ e∈els,e.length=z)->∀ k e,els[k]?=some e->(els.flatten.drop (k*z)).take z=e
 | [],_,k,e,h=>by simp at h
 | x::es,H,0,e,h=>by
  simp at h;subst h
  rw [List.flatten_cons,Nat.zero_mul,List.drop_zero]
  have:=H x (by simp)
  rw [← this,List.take_left'];rfl
 | x::es,H,k+1,e,h=>by
  rw [List.flatten_cons]
  have hx:=H x (by simp)
  rw [show (k+1)*z=x.length+k*z by rw [hx,Nat.add_mul];omega,← List.drop_drop,List.drop_left']
  ·exact flat_get es (fun y hy=>H y (by simp [hy])) k e (by simpa using h)
  ·rfl
theorem flat_at {z:Nat}:∀ (els:List (List Value)),(∀ e∈els,e.length=z)->∀ i v,els.flatten[i]?=some v->∃ k e j,els[k]?=some e/\e[j]?=some v/\i=k*z+j
 | [],_,i,v,h=>by simp at h
 | x::es,H,i,v,h=>by
  have hx:=H x (by simp)
  rw [List.flatten_cons] at h
  by_cases hi:i<x.length
  ·rw [List.getElem?_append_left hi] at h
   exact ⟨0,x,i,rfl,h,by omega⟩
  ·rw [List.getElem?_append_right (by omega)] at h
   obtain ⟨k,e,j,a,b,c⟩:=flat_at es (fun y hy=>H y (by simp [hy])) _ _ h
   exact ⟨k+1,e,j,by simpa using a,b,by rw [Nat.add_mul];omega⟩
theorem cell_get {w:World} {a:Addr} {v:Value} (h:w.cell? a=some v):∃ C el frz,w.heap[a.block]?=some (.cells C el frz)/\a.spot=none/\C[a.off]?=some v:=by
 unfold World.cell? at h
 split at h
 ·rename_i C el frz hb
  cases hs:a.spot with
  | some s=>rw [hs] at h;simp at h
  | none=>rw [hs] at h;exact ⟨C,el,frz,hb,rfl,by simpa using h⟩
 ·cases h
theorem add_off (a:Addr) (n:Nat):(a.add n).off=a.off+n:=by unfold Addr.add;split <;> simp_all
theorem add_blk (a:Addr) (n:Nat):(a.add n).block=a.block:=by unfold Addr.add;split <;> rfl
theorem row_at {w:World} {base z i:Nat} {a:Addr} {cs:List Value} (hz:0<z) (h:w.cells? base (a.add (i*z)) z=some cs) :
  ∃ C el frz,w.heap[a.block]?=some (.cells C el frz)/\cs.length=z/\(i=0->a.spot=none)/\∀ j,j<z->C[a.off+i*z+j]?=cs[j]?:=by
 obtain ⟨_,hl,hg⟩:=World.cells?_some h
 have h0:=hg 0 hz
 have hv:∃ v,cs[0]?=some v:=⟨_,List.getElem?_eq_getElem (by omega)⟩
 obtain ⟨v,hv⟩:=hv
 rw [hv] at h0
 obtain ⟨C,el,frz,hb,hs,_⟩:=cell_get h0
 rw [add_blk,add_blk] at hb
 refine ⟨C,el,frz,hb,hl,fun hi=>?_,fun j hj=>?_⟩
 ·subst hi
  simp only [Nat.zero_mul] at hs
  have e:∀ b:Addr,b.add 0=b:=fun b=>by simp [Addr.add]
  rw [e,e] at hs;exact hs
 ·have hj':=hg j hj
  obtain ⟨u,hu⟩:∃ u,cs[j]?=some u:=⟨_,List.getElem?_eq_getElem (by omega)⟩
  rw [hu] at hj' ⊢
  obtain ⟨C',el',frz',hb',_,hc'⟩:=cell_get hj'
  rw [add_blk,add_blk,hb] at hb'
  cases hb'
  rw [add_off,add_off] at hc'
  exact hc'
section
variable {H:Type} {enc:TypeId×Value->H} {P:Program} {w:World} {base:Nat} {held:Bool}
def Step (enc:TypeId×Value->H) (P:Program) (w:World) (base:Nat) (held:Bool) {α:Type} (R:AH->List Value->α->Prop) (n:Nat) (t:TypeId):Prop:=
 ∀ (cs:List Value) (x:DataW H×List MemPlace) (σ:Sg) (h:AH),h.ok->HR w.heap.size σ h w->DataW.trod enc P w base (fun _=>true) held n t cs=some x->
  ∃ σ' h' vs a,More w σ h σ' h'/\VRs σ' vs cs/\R h' vs a
theorem build_els {α:Type} {R:AH->List Value->α->Prop} (hR:∀ h k es a,Ext h k->R h es a->R k es a) {e:TypeId} {z n:Nat} (hz:0<z) (hcz:P.cellsOf e=z) {a:Addr} {C:Array Value} {el:TypeId} {frz:Nat×Nat} (hC:w.heap[a.block]?=some (.cells C el frz))
  (step:Step enc P w base held R n e):∀ (m i:Nat) (σ:Sg) (h:AH),h.ok->HR w.heap.size σ h w->
   (∀ k,k<m->∃ x,(w.cells? base (a.add ((i+k)*z)) z).bind (DataW.trod enc P w base (fun _=>true) held n e)=some x)->
   ∃ σ' h' els aas,More w σ h σ' h'/\Els (R h') els aas/\els.length=m/\∀ k u,els[k]?=some u->u.length=z/\∀ j v,u[j]?=some v->∃ v',C[a.off+(i+k)*z+j]?=some v'/\VR σ' v v':=by
 intro m
 induction m with
 | zero=>intro i σ h hok hH _;exact ⟨σ,h,[],[],.refl hH hok,.nil,rfl,fun k u hk=>by simp at hk⟩
 | succ m ih=>
  intro i σ h hok hH hr
  obtain ⟨x,hx⟩:=hr 0 (by omega)
  obtain ⟨cs,hcs,htr⟩:=Option.bind_eq_some_iff.1 hx
  obtain ⟨C',el',frz',hb,hl,_,hg⟩:=row_at hz hcs
  rw [hC] at hb
  cases hb
  obtain ⟨σ1,h1,vs,b,m1,v1,r1⟩:=step cs x σ h hok hH htr
  obtain ⟨σ2,h2,els,aas,m2,e2,l2,g2⟩:=ih (i+1) σ1 h1 m1.ok m1.hr (fun k hk=>by
   have:=hr (k+1) (by omega)
   rw [show i+1+k=i+(k+1) by omega];exact this)
  refine ⟨σ2,h2,vs::els,b::aas,m1.trans m2,.cons (hR _ _ _ _ m2.ext r1) e2,by simp [l2],fun k u hk=>?_⟩
  cases k with
  | zero=>
   simp at hk;subst hk
   refine ⟨by rw [v1.length,hl],fun j v hj=>?_⟩
   obtain ⟨v',q1,q2⟩:=v1.get hj
   have hjz:j<z:=by have:=(List.getElem?_eq_some_iff.1 q1).1;omega
   exact ⟨v',by rw [hg j hjz];exact q1,q2.mono m2.le⟩
  | succ k=>
   simp only [List.getElem?_cons_succ] at hk
   rw [show i+(k+1)=i+1+k by omega]
   exact g2 k u hk
theorem zCW {α:Type} {R:AH->List Value->α->Prop} (hR:∀ h k es a,Ext h k->R h es a->R k es a) {t e:TypeId} {z n:Nat} (ht:P.underlying t=some (.slice e)) (hz:0<z) (hcz:P.cellsOf e=z)
  (step:∀ m,n=m+1->Step enc P w base held R m e) :
  ∀ (cs:List Value) (x:DataW H×List MemPlace) (σ:Sg) (h:AH),h.ok->HR w.heap.size σ h w->DataW.trod enc P w base (fun _=>true) held n t cs=some x->
   ∃ σ' h' v v' els aas,cs=[v']/\More w σ h σ' h'/\VR σ' v v'/\Arr h' z v els/\Els (R h') els aas/\els.length<=9223372036854775807:=by
 intro cs x σ h hok hH htr
 rcases DataW.trod_slice ht htr with ⟨rfl,_⟩|⟨a,len,cap,elems,rest,m,hm,rfl,_,_,hlc,hcm,hel,hE,hS,_⟩
 ·exact ⟨σ,h,.slice none 0 0,_,[],[],rfl,.refl hH hok,.sliceN 0 0,.nil _ _,.nil,by simp⟩
 have hmax:len<=9223372036854775807:=by unfold maxLen at hcm;omega
 by_cases hcap:cap=0
 ·subst hcap
  obtain rfl:len=0:=by omega
  exact ⟨σ,h,.slice (some ⟨0,0,some 0⟩) 0 0,_,[],[],rfl,.refl hH hok,.sliceS a,.nil _ _,.nil,by simp⟩
 have first:∃ cs0,w.cells? base (a.add (0*z)) z=some cs0:=by
  by_cases hl:len=0
  ·obtain ⟨s1,s2⟩:=hS rfl
   have:=s2 0 (by omega)
   rw [hl,Nat.add_zero,hcz,List.getElem?_eq_getElem (by omega)] at this
   obtain ⟨c0,q,_⟩:=Option.bind_eq_some_iff.1 this
   exact ⟨c0,q⟩
  ·have:=hE 0 (by omega)
   rw [hcz,List.getElem?_eq_getElem (by omega)] at this
   obtain ⟨c0,q,_⟩:=Option.bind_eq_some_iff.1 this
   exact ⟨c0,q⟩
 obtain ⟨cs0,hcs0⟩:=first
 obtain ⟨C,el,frz,hC,_,hsp,_⟩:=row_at hz hcs0
 have hsp:=hsp rfl
 obtain ⟨ablk,aoff,asp⟩:=a
 simp only at hsp hC
 subst hsp
 obtain ⟨σ1,h1,els,aas,m1,e1,l1,g1⟩:=build_els (a:=⟨ablk,aoff,none⟩) hR hz hcz hC (step m hm) len 0 σ h hok hH (fun k hk=>by
  have:=hE k hk
  rw [hcz,List.getElem?_eq_getElem (by omega)] at this
  rw [Nat.zero_add]
  exact ⟨_,this⟩)
 have hlen:∀ u∈els,u.length=z:=fun u hu=>by
  obtain ⟨k,hk⟩:=List.getElem?_of_mem hu
  exact (g1 k u hk).1
 have hfl:=flat_len els hlen
 have m2:=HR.addRO m1.hr m1.ok (vs:=els.flatten) (l:=⟨ablk,aoff,0,0⟩) hC (by
  by_cases h0:els.flatten.length=0
  ·rw [h0]
   simp only [Nat.add_zero]
   obtain ⟨C',_,_,hb',hl',_,hg'⟩:=row_at hz hcs0
   simp only at hb'
   rw [hC] at hb'
   cases hb'
   have:=hg' 0 hz
   simp only [Nat.zero_mul,Nat.add_zero] at this
   have h2:aoff<C.size:=by
    rcases Nat.lt_or_ge aoff C.size with h|h
    ·exact h
    ·rw [Array.getElem?_eq_none h,List.getElem?_eq_getElem (by omega)] at this;cases this
   omega
  ·have hlt:els.flatten.length-1<els.flatten.length:=by omega
   obtain ⟨k,u,j,a1,a2,a3⟩:=flat_at els hlen _ _ (List.getElem?_eq_getElem hlt)
   obtain ⟨v',q1,_⟩:=(g1 k u a1).2 j _ a2
   have:=(Array.getElem?_eq_some_iff.1 q1).1
   simp only [Nat.zero_add] at this
   simp only
   omega) (fun i v hi=>by
  obtain ⟨k,u,j,a1,a2,a3⟩:=flat_at els hlen _ _ hi
  obtain ⟨v',q1,q2⟩:=(g1 k u a1).2 j _ a2
  refine ⟨v',?_,q2⟩
  simp only [Nat.zero_add] at q1
  simp only
  rw [a3,← Nat.add_assoc];exact q1)
 refine ⟨_,_,.slice (some ⟨h1.next,0,none⟩) els.length cap,.slice (some ⟨ablk,aoff,none⟩) len cap,els,aas,rfl,m1.trans m2,?_,?_,e1.mono fun u a r=>hR _ _ _ _ m2.ext r,by omega⟩
 ·have:=VR.slice (σ:=σ1.ext h1.next ⟨ablk,aoff,0,0⟩) (b:=h1.next) (l:=⟨ablk,aoff,0,0⟩) 0 len cap (Sg.ext_self ..) (by unfold maxLen at hcm;unfold UNK;omega)
  rw [l1]
  exact this
 ·refine .row (vs:=els.flatten) (ty:=el) (es:=0) (ro:=true) (by rw [AH.get_new,if_pos rfl]) (by simp) (by rw [hfl];omega) fun i u hu=>⟨(g1 i u hu).1,by rw [Nat.zero_add];exact flat_get els hlen i u hu⟩
end
end Go.Proofs
namespace Go.Proofs
open Go Go.AM
set_option maxRecDepth 100000
set_option maxHeartbeats 1000000
def badAt (Ls:List GL) (i:Nat):Bool:=match Ls[i]? with
 | some L=>zAZ L
 | none=>false
theorem put3g:∀ (e:List Value),e.length=3->lput [Value.int .i64 0,.slice none 0 0,.slice none 0 0] 0 e=e:=by
 intro e he
 match e,he with
 | [x,y,z],_=>rfl
theorem RL.leafs {h:AH} {e:List Value} {L:GL} (r:RL h (.agg ⟨e⟩) L):e.all zp=true/\e.length=3:=by
 obtain ⟨vl,ve,els,a,b,c,d⟩:=r.ex
 obtain ⟨x1,x2,rfl⟩:=b.slice
 obtain ⟨y1,y2,rfl⟩:=d.slice
 simp only [Value.agg.injEq] at a
 have:e=[.int .i64 L.n,.slice x1 els.length x2,.slice y1 (L.eds.map zP).length y2]:=by
  have:=congrArg Array.toList a
  simpa using this
 rw [this]
 simp [zp]
theorem call70 {h0 k:AH} {v:Value} {els:List (List Value)} {Ls:List GL} (ha:Arr h0 3 v els) (hn:els.length=Ls.length) (hle:els.length<=1000) (hr:∀ (i:Nat) (e:List Value) (L:GL),els[i]?=some e->Ls[i]?=some L->RL h0 (.agg ⟨e⟩) L) (hk:Ext h0 k) :
  (zV E).call 70 [v] k=some [(.int .i64 (if zAD (badAt Ls) els.length 0 then 8 else 0),k)]:=by
 obtain ⟨ad,c,hv⟩:=ha.slice
 subst hv
 refine F70_flat (s:=true) hk.ok rfl (P70_0_of ?_)
 simp only [zA]
 refine P70_1_of ?_
 simp only [zA,len70_1_1]
 have loop:∀ (m i:Nat),i+m=els.length->∀ l,Own k l->P70_2 true (KR E [.tmp 2] (fun x l=>x=.int .i64 (if zAD (badAt Ls) m i then 8 else 0)/\k.next<=l.wm)) (.slice ad els.length c) (.int .i64 (els.length:Int)) (.int .i64 (i:Int)) l:=by
  intro m
  induction m with
  | zero=>
   intro i hi l hl
   refine P70_2_of ?_
   simp only [zd,zA,zAL]
   refine ⟨fun h=>by omega,fun _=>P70_7_of ?_⟩
   simp [zA,zAN,zX,zAD,hl.wm]
  | succ m ih=>
   intro i hi l hl
   have hin:i<els.length:=by omega
   have hin':i<Ls.length:=by omega
   refine P70_2_of ?_
   simp only [zd,zA,zAL]
   refine ⟨fun _=>P70_3_of ?_,fun h=>by omega⟩
   obtain ⟨b,o,c',vs,ty,es,ro,hv,hb,hlt,hle2,hz,hzl⟩:=ha.load (List.getElem?_eq_getElem hin)
   simp only [Value.slice.injEq] at hv
   obtain ⟨hv1,_,hv3⟩:=hv
   subst hv1
   have hRL:=hr i _ _ (List.getElem?_eq_getElem hin) (List.getElem?_eq_getElem hin')
   have he0:Ext h0 l:=hk.trans hl.ext
   have gb:l.get b=some (.row vs ty es ro):=(he0.get b hlt).trans hb
   simp only [zA,ia_82 hin,zW ta_25 gb hle2,hz,z_25,ze,zL,zS]
   rw [z0 (P:=E) ts_25 (x:=.agg ⟨els[i]⟩) (cs:=els[i]) (zF l _) rfl hzl (by simp) hRL.leafs.1]
   simp only [zL]
   rw [put3g _ hzl]
   have hkl:=hl.ext.next
   have o2:=(hl.new (.row [.int .i64 0,.slice none 0 0,.slice none 0 0] 25 0 false)).upd (b:=l.next) hkl (some (.row els[i] 25 0 false))
   have t2:((l.new (.row [.int .i64 0,.slice none 0 0,.slice none 0 0] 25 0 false)).upd l.next (some (.row els[i] 25 0 false))).get l.next=some (.row els[i] 25 0 false):=zR _ _ _
   generalize ((l.new (.row [.int .i64 0,.slice none 0 0,.slice none 0 0] 25 0 false)).upd l.next (some (.row els[i] 25 0 false)))=l2 at o2 t2
   refine P70_4_of ?_
   have ca:=zW (P:=E) ta_25 (o:=0) t2 (by omega)
   rw [List.drop_zero,List.take_of_length_le (by omega)] at ca
   simp only [ca,zA,zZ,call121 hRL (hk.trans o2.ext),zO,zBY]
   have hat:badAt Ls i=zAZ Ls[i]:=by unfold badAt;rw [List.getElem?_eq_getElem hin']
   cases hb:zAZ Ls[i] with
   | true=>
    simp only [if_true,show (!decide ((8:Int)=0))=true from rfl,zAK]
    refine P70_5_of ?_
    simp [zA,zAN,zX,zAD,hat,hb,o2.wm]
   | false=>
    simp only [Bool.false_eq_true,if_false,decide_true,Bool.not_true,zAE]
    refine P70_6_of ?_
    simp only [zAJ _ (add1 hin (by omega)),zA]
    have:=ih (i+1) (by omega) l2 o2
    simp only [zAD,hat,hb,Bool.false_or]
    simpa using this
 exact loop els.length 0 (by omega) _ (Own.fresh k)
def isMan (k:Int):Bool:=decide (k=1)||decide (k=2)
theorem call105 {k:AH} {a:Int} (hok:k.ok):(zV E).call 105 [.int .i64 a] k=some [(.bool (isMan a),k)]:=by
 refine F105_flat (s:=true) hok rfl (P105_0_of ?_)
 simp only [zA]
 refine P105_1_of ?_
 simp only [zA,zAU]
 by_cases c:a=1
 ·simp [c,isMan,zA,zM,zK,zAN,zX]
 ·simp [c,isMan,zA,zM,zK,zAN,zX,zAU]
def zJ (p:Int×Int):List Value:=[.int .i64 p.1,.int .i64 p.2]
def cmpP (p q:Int×Int):Int:=orI [c3 p.1 q.1,c3 p.2 q.2]
theorem ia54_0 {b o:Nat}:zH E 54 (some (.pointer (some ⟨b,o,none⟩))) (some (.int .i64 0))=some (.pointer (some ⟨b,o+0,none⟩)):=ia_54 (k:=0) (by omega)
theorem ia54_1 {b o:Nat}:zH E 54 (some (.pointer (some ⟨b,o,none⟩))) (some (.int .i64 1))=some (.pointer (some ⟨b,o+1,none⟩)):=ia_54 (k:=1) (by omega)
theorem call122 {k:AH} {e f:Int×Int} (hok:k.ok):(zV E).call 122 [.agg ⟨zJ e⟩,.agg ⟨zJ f⟩] k=some [(.int .i64 (cmpP e f),k)]:=by
 refine F122_flat (s:=true) hok rfl (P122_0_of ?_)
 simp only [ze,zL,zS,zA]
 refine P122_1_of ?_
 have o1:=((Own.fresh k).new (.row (zJ e) 54 0 false)).new (.row (zJ f) 54 0 false)
 have t1:((k.fresh.new (.row (zJ e) 54 0 false)).new (.row (zJ f) 54 0 false)).get k.next=some (.row (zJ e) 54 0 false):=by
  rw [zI (by simp)];exact zF k.fresh _
 have t2:((k.fresh.new (.row (zJ e) 54 0 false)).new (.row (zJ f) 54 0 false)).get (k.next+1)=some (.row (zJ f) 54 0 false):=zF (k.fresh.new _) _
 simp only [zb,AH.next_new]
 generalize ((k.fresh.new (.row (zJ e) 54 0 false)).new (.row (zJ f) 54 0 false))=k1 at o1 t1 t2
 have l0:=zD (P:=E) zAS (o:=0) t1
 have l1:=zD (P:=E) zAS (o:=1) t1
 have m0:=zD (P:=E) zAS (o:=0) t2
 have m1:=zD (P:=E) zAS (o:=1) t2
 simp only [lnth,zJ] at l0 l1 m0 m1
 simp only [ia54_0,ia54_1,Nat.add_zero,Nat.zero_add,l0,l1,m0,m1,zA,zZ,call94 o1.ext.ok,zO,zCf,true_and,bs47_2,zL]
 rw [or2 o1.ext.ok]
 simp only [zO,zA,zAN,zX,true_and]
 exact ⟨rfl,o1.wm⟩
structure GB where
 kind:Int
 prs:List (Int×Int)
structure RB (h:AH) (e:List Value) (B:GB):Prop where
 ex:∃ vp,e=[.int .i64 B.kind,vp]/\Arr h 2 vp (B.prs.map zJ)
theorem RB.ext {h k:AH} {e:List Value} {B:GB} (r:RB h e B) (x:Ext h k):RB k e B:=let ⟨v,a,b⟩:=r.ex;⟨v,a,b.ext x⟩
def zCO (ps:List (Int×Int)) (i:Nat):Bool:=match ps[i]? with
 | some p=>decide (p.1<0)||decide (p.2<0)||(decide (0<i)&&match ps[i-1]? with
  | some q=>decide (0<=cmpP q p)
  | none=>false)
 | none=>false
def zBt (B:GB):Int:=if isMan B.kind=false then 361 else if 200000<B.prs.length then 360 else if zAD (zCO B.prs) B.prs.length 0 then 360 else 0
def errAt (Bs:List GB) (i:Nat):Int:=match Bs[i]? with
 | some B=>zBt B
 | none=>0
def zA8 (Bs:List GB):Nat->Nat->Int
 | 0,_=>0
 | m+1,i=>if errAt Bs i≠0 then errAt Bs i else zA8 Bs m (i+1)
abbrev kfe (k:AH) (n:Int):KF:=KR E [.tmp 2] (fun x m=>x=.int .i64 n/\k.next<=m.wm)
theorem put2b:∀ (e:List Value),e.length=2->lput [Value.int .i64 0,.int .i64 0] 0 e=e:=by
 intro e he
 match e,he with
 | [x,y],_=>rfl
theorem call71 {h0 k:AH} {v:Value} {els:List (List Value)} {Bs:List GB} (ha:Arr h0 2 v els) (hn:els.length=Bs.length) (hle:els.length<=1000) (hr:∀ (i:Nat) (e:List Value) (B:GB),els[i]?=some e->Bs[i]?=some B->RB h0 e B) (hk:Ext h0 k) :
  (zV E).call 71 [v] k=some [(.int .i64 (zA8 Bs els.length 0),k)]:=by
 obtain ⟨ad,c,hv⟩:=ha.slice
 subst hv
 refine F71_flat (s:=true) hk.ok rfl (P71_0_of ?_)
 simp only [zA]
 refine P71_1_of ?_
 simp only [zA,len71_1_1]
 have loop:∀ (m i:Nat),i+m=els.length->∀ l,Own k l->P71_2 true (kfe k (zA8 Bs m i)) (.slice ad els.length c) (.int .i64 (els.length:Int)) (.int .i64 (i:Int)) l:=by
  intro m
  induction m with
  | zero=>
   intro i hi l hl
   refine P71_2_of ?_
   simp only [zd,zA,zAL]
   refine ⟨fun h=>by omega,fun _=>P71_15_of ?_⟩
   simp [zA,zAN,zX,zA8,hl.wm]
  | succ m ih=>
   intro i hi l hl
   have hin:i<els.length:=by omega
   have hin':i<Bs.length:=by omega
   refine P71_2_of ?_
   simp only [zd,zA,zAL]
   refine ⟨fun _=>P71_3_of ?_,fun h=>by omega⟩
   obtain ⟨b,o,c',vs,ty,es,ro,hv,hb,hlt,hle2,hz,hzl⟩:=ha.load (List.getElem?_eq_getElem hin)
   simp only [Value.slice.injEq] at hv
   obtain ⟨hv1,_,hv3⟩:=hv
   subst hv1
   obtain ⟨vp,hel,hap⟩:=(hr i _ _ (List.getElem?_eq_getElem hin) (List.getElem?_eq_getElem hin')).ex
   have hat:errAt Bs i=zBt Bs[i]:=by unfold errAt;rw [List.getElem?_eq_getElem hin']
   generalize hB:Bs[i]=B at hel hap hat
   obtain ⟨ap,cp,hvp⟩:=hap.slice
   rw [List.length_map] at hvp
   subst hvp
   rw [hel] at hz hzl
   have he0:Ext h0 l:=hk.trans hl.ext
   have gb:l.get b=some (.row vs ty es ro):=(he0.get b hlt).trans hb
   simp only [zA,ia_83 hin,zW ta_32 gb hle2,hz,z_32,ze,zL,zS]
   rw [z0 (P:=E) ts_32 (x:=.agg ⟨[.int .i64 B.kind,.slice ap B.prs.length cp]⟩) (cs:=[.int .i64 B.kind,.slice ap B.prs.length cp]) (zF l _) rfl hzl (by simp) (by simp [zp])]
   simp only [zL]
   rw [put2 _ hzl]
   have hkl:=hl.ext.next
   have o2:=(hl.new (.row [.int .i64 0,.slice none 0 0] 32 0 false)).upd (b:=l.next) hkl (some (.row [.int .i64 B.kind,.slice ap B.prs.length cp] 32 0 false))
   have t2:((l.new (.row [.int .i64 0,.slice none 0 0] 32 0 false)).upd l.next (some (.row [.int .i64 B.kind,.slice ap B.prs.length cp] 32 0 false))).get l.next=some (.row [.int .i64 B.kind,.slice ap B.prs.length cp] 32 0 false):=zR _ _ _
   have n2:((l.new (.row [.int .i64 0,.slice none 0 0] 32 0 false)).upd l.next (some (.row [.int .i64 B.kind,.slice ap B.prs.length cp] 32 0 false))).next=l.next+1:=rfl
   generalize ((l.new (.row [.int .i64 0,.slice none 0 0] 32 0 false)).upd l.next (some (.row [.int .i64 B.kind,.slice ap B.prs.length cp] 32 0 false)))=l2 at o2 t2 n2
   refine P71_4_of ?_
   have c0:=zD (P:=E) zAS (o:=0) t2
   have c1:=zD (P:=E) ta_26 (o:=1) t2
   simp only [lnth] at c0 c1
   simp only [fa_32_0,Nat.add_zero,c0,zA,zZ,call105 o2.ext.ok,zO,zz]
   cases hm:isMan B.kind with
   | false=>
    have hee:errAt Bs i=361:=by rw [hat];unfold zBt;rw [if_pos hm]
    simp only [Bool.not_false,zAK]
    refine P71_5_of ?_
    simp [zA,zAN,zX,zA8,hee,o2.wm]
   | true=>
    simp only [Bool.not_true,zAE]
    refine P71_6_of ?_
    simp only [fa_32_1,Nat.zero_add,c1,zA,len71_6_2,zAM,zAL]
    refine ⟨fun hbig=>P71_7_of ?_,fun hbig=>P71_8_of ?_⟩
    ·have hee:errAt Bs i=360:=by rw [hat];unfold zBt;rw [if_neg (by rw [hm];simp),if_pos (by omega)]
     simp [zA,zAN,zX,zA8,hee,o2.wm]
    ·simp only [fa_32_1,Nat.zero_add,c1,zA,len71_8_2]
     have hbig':B.prs.length<=200000:=by omega
     have hlk:zBt B=if zAD (zCO B.prs) B.prs.length 0 then 360 else 0:=by unfold zBt;rw [if_neg (by rw [hm];simp),if_neg (by omega)]
     have pairs:∀ (m2 j:Nat),j+m2=B.prs.length->∀ l3,Ext l2 l3->k.next<=l3.wm->
       (zAD (zCO B.prs) m2 j=true->zA8 Bs (m+1) i=360)->(zAD (zCO B.prs) m2 j=false->zA8 Bs (m+1) i=zA8 Bs m (i+1))->
       P71_9 true (kfe k (zA8 Bs (m+1) i)) (.pointer (some ⟨l.next,0,none⟩)) (.slice (some ⟨b,o,none⟩) els.length c) (.int .i64 (els.length:Int)) (.int .i64 (i:Int)) (.slice ap B.prs.length cp) (.int .i64 (B.prs.length:Int)) (.int .i64 (j:Int)) l3:=by
      intro m2
      induction m2 with
      | zero=>
       intro j hj l3 hl3 hw3 h1 h2
       refine P71_9_of ?_
       simp only [zd,zA,zAL]
       refine ⟨fun h=>by omega,fun _=>P71_14_of ?_⟩
       simp only [zAJ _ (add1 hin (by omega)),zA]
       have:=ih (i+1) (by omega) l3 ⟨o2.ext.trans hl3,hw3⟩
       rw [h2 rfl]
       simpa using this
      | succ m2 ih2=>
       intro j hj l3 hl3 hw3 h1 h2
       have hjn:j<B.prs.length:=by omega
       refine P71_9_of ?_
       simp only [zd,zA,zAL]
       refine ⟨fun _=>P71_10_of ?_,fun h=>by omega⟩
       have hatp:(B.prs.map zJ)[j]?=some (zJ B.prs[j]):=by simp [hjn]
       obtain ⟨b',o',c2',vs',ty',es',ro',hv',hb',hlt',hle2',hz',hzl'⟩:=hap.load hatp
       simp only [Value.slice.injEq] at hv'
       obtain ⟨hv1',_,_⟩:=hv'
       subst hv1'
       have he3:Ext h0 l3:=(hk.trans o2.ext).trans hl3
       have gb':l3.get b'=some (.row vs' ty' es' ro'):=(he3.get b' hlt').trans hb'
       simp only [zA,ia_26 hjn,zW ta_54 gb' hle2',hz',z_54,ze,zL,zS]
       rw [z0 (P:=E) ts_54 (x:=.agg ⟨zJ B.prs[j]⟩) (cs:=zJ B.prs[j]) (zF l3 _) rfl hzl' (by simp) (by simp [zJ,zp])]
       simp only [zL]
       rw [put2b _ hzl']
       have hkl3:=hl3.next
       have e4:=(hl3.new (.row [.int .i64 0,.int .i64 0] 54 0 false)).upd (b:=l3.next) hkl3 (some (.row (zJ B.prs[j]) 54 0 false))
       have w4:k.next<=((l3.new (.row [.int .i64 0,.int .i64 0] 54 0 false)).upd l3.next (some (.row (zJ B.prs[j]) 54 0 false))).wm:=zx (by rw [wm_new];exact hw3) (by omega)
       have t4:((l3.new (.row [.int .i64 0,.int .i64 0] 54 0 false)).upd l3.next (some (.row (zJ B.prs[j]) 54 0 false))).get l3.next=some (.row (zJ B.prs[j]) 54 0 false):=zR _ _ _
       have g4:((l3.new (.row [.int .i64 0,.int .i64 0] 54 0 false)).upd l3.next (some (.row (zJ B.prs[j]) 54 0 false))).get b'=some (.row vs' ty' es' ro'):=by
        have q1:=hk.next
        rw [zQ (by omega),zI (by omega)];exact gb'
       generalize ((l3.new (.row [.int .i64 0,.int .i64 0] 54 0 false)).upd l3.next (some (.row (zJ B.prs[j]) 54 0 false)))=l4 at e4 w4 t4 g4
       refine P71_11_of ?_
       have ok4:=e4.ok
       have bx:l4.get l.next=some (.row [.int .i64 B.kind,.slice (some ⟨b',o',none⟩) B.prs.length cp] 32 0 false):=(e4.get _ (by omega)).trans t2
       have d0:=zD (P:=E) zAS (o:=0) t4
       have d1:=zD (P:=E) zAS (o:=1) t4
       have da:=zW (P:=E) ta_54 (o:=0) t4 (by simp [zJ])
       have dp:=zD (P:=E) ta_26 (o:=1) bx
       rw [List.drop_zero,List.take_of_length_le (by simp [zJ])] at da
       simp only [lnth,zJ] at d0 d1 dp
       have hatj:B.prs[j]?=some B.prs[j]:=List.getElem?_eq_getElem hjn
       have hpb:zCO B.prs j=(decide (B.prs[j].1<0)||decide (B.prs[j].2<0)||(decide (0<j)&&match B.prs[j-1]? with
        | some q=>decide (0<=cmpP q B.prs[j])
        | none=>false)):=by simp only [zCO,hatj]
       have hend:∀ bad:Bool,zCO B.prs j=bad->(BrK (some (.bool bad)) (P71_12 true (kfe k (zA8 Bs (m+1) i)) l4) (P71_13 true (kfe k (zA8 Bs (m+1) i)) (.pointer (some ⟨l.next,0,none⟩)) (.slice (some ⟨b,o,none⟩) els.length c) (.int .i64 (els.length:Int)) (.int .i64 (i:Int)) (.slice (some ⟨b',o',none⟩) B.prs.length cp) (.int .i64 (B.prs.length:Int)) (.int .i64 (j:Int)) l4)):=by
        intro bad hbad
        cases bad with
        | true=>
         rw [zAK,h1 (by simp [zAD,hbad])]
         refine P71_12_of ?_
         simp [zA,zAN,zX,w4]
        | false=>
         rw [zAE]
         refine P71_13_of ?_
         simp only [zAJ _ (add1 hjn (by omega)),zA]
         have:=ih2 (j+1) (by omega) l4 e4 w4 (fun h=>h1 (by simp [zAD,h])) (fun h=>h2 (by simp [zAD,hbad,h]))
         simpa using this
       simp only [ia54_0,Nat.add_zero,d0,zA,zd]
       by_cases p1:B.prs[j].1<0
       ·have:=hend true (by rw [hpb];simp [p1])
        simpa only [p1,decide_true,Bool.not_false,Bool.not_true,beq_self_eq_true,show (true==false)=false from rfl,show (false==true)=false from rfl,cond_true,cond_false,zA,zO,zz,zM,zY,zn,zq,zK,zL] using this
       ·simp only [p1,decide_false,Bool.not_false,Bool.not_true,beq_self_eq_true,show (true==false)=false from rfl,show (false==true)=false from rfl,cond_true,cond_false,zA,zO,zz,zM,zY,zn,zq,zK,zL,ia54_1,d1,zd]
        by_cases p2:B.prs[j].2<0
        ·have:=hend true (by rw [hpb];simp [p2])
         simpa only [p2,decide_true,Bool.not_false,Bool.not_true,beq_self_eq_true,show (true==false)=false from rfl,show (false==true)=false from rfl,cond_true,cond_false,zA,zO,zz,zM,zY,zn,zq,zK,zL] using this
        ·simp only [p2,decide_false,Bool.not_false,Bool.not_true,beq_self_eq_true,show (true==false)=false from rfl,show (false==true)=false from rfl,cond_true,cond_false,zA,zO,zz,zM,zY,zn,zq,zK,zL,zAM]
         by_cases p3:0<j
         ·have p3':(0:Int)<j:=by omega
          have hjn':j-1<B.prs.length:=by omega
          have hatp':(B.prs.map zJ)[j-1]?=some (zJ B.prs[j-1]):=by simp [hjn']
          obtain ⟨b5,o5,c5,vs5,ty5,es5,ro5,hv5,hb5,hlt5,hle5,hz5,hzl5⟩:=hap.load hatp'
          simp only [Value.slice.injEq] at hv5
          obtain ⟨hv15,_,_⟩:=hv5
          cases hv15
          rw [hb'] at hb5
          cases hb5
          have hee:zCO B.prs j=decide (0<=cmpP B.prs[j-1] B.prs[j]):=by rw [hpb,List.getElem?_eq_getElem hjn'];simp [p1,p2,p3]
          have:=hend (decide (0<=cmpP B.prs[j-1] B.prs[j])) hee
          simpa only [p3',zAM,decide_true,Bool.not_false,Bool.not_true,beq_self_eq_true,show (true==false)=false from rfl,show (false==true)=false from rfl,cond_true,cond_false,zA,zO,zz,zM,zY,zn,zq,zK,zL,fa_32_1,Nat.zero_add,dp,sub1 p3 (by omega:j<=9223372036854775807),ia_26 hjn',zW ta_54 g4 hle5,hz5,da,zZ,call122 ok4,zA2] using this
         ·have p3':¬ (0:Int)<j:=by omega
          have:=hend false (by rw [hpb];simp [p1,p2,p3])
          simpa only [p3',zAM,decide_false,Bool.not_false,Bool.not_true,beq_self_eq_true,show (true==false)=false from rfl,show (false==true)=false from rfl,cond_true,cond_false,zA,zO,zz,zM,zY,zn,zq,zK,zL] using this
     refine pairs B.prs.length 0 (by omega) l2 (Ext.refl o2.ext.ok) o2.wm ?_ ?_
     ·intro h
      simp [zA8,hat,hlk,h]
     ·intro h
      simp [zA8,hat,hlk,h]
 exact loop els.length 0 (by omega) _ (Own.fresh k)
end Go.Proofs
