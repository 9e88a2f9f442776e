import Derived.Sort.AssemblyPlain
import Derived.Laws.Bits64
import Derived.ChangeArms
import Derived.DataReads
import Derived.Lib.ItoaNum
import Derived.Test.YthmnhjcmefjgjaaGreatDoorXAH
import Derived.Test.YthmnhjcmefjgjaaGreatDoorXAF
import Derived.Test.YthmnhjcmefjgjaaGreatDoorXAE
import Derived.Test.YthmnhjcmefjgjaaGreatDoorXAG
import Derived.Test.YthmnhjcmefjgjaaGreatDoorXAD
set_option linter.all false
set_option linter.unusedSectionVars false
set_option autoImplicit true
set_option relaxedAutoImplicit true
namespace Go.Proofs
open Go Go.AM
set_option maxRecDepth 100000
set_option maxHeartbeats 1000000
theorem Fx.back {P:Nat->Prop} {k h:AH} (f:Fx P k.fresh h):Fx P k ⟨h.t,h.next,cond (Nat.ble k.wm h.wm) k.wm h.wm⟩:=by
 refine ⟨?_,f.next,fun c hc hn=>f.get c hc hn,fun m h1 h2 h3=>?_⟩
 ·have:=f.ok
  unfold AH.ok at this
  show cond (Nat.ble k.wm h.wm) k.wm h.wm<=h.next+UNK
  cases hc:Nat.ble k.wm h.wm with
  | true=>have:=ble_true.1 hc;simp only [cond_true];omega
  | false=>simpa using this
 ·have:=f.wm m (by rw [wm_fresh];omega) h2 h3
  show m<=cond (Nat.ble k.wm h.wm) k.wm h.wm
  cases Nat.ble k.wm h.wm
  ·exact this
  ·exact h1
theorem Fx.ext1 {h0 k l:AH} {b:Nat} (f:Fx (fun c=>c=b) k l) (e:Ext h0 k) (hb:h0.next<=b):Ext h0 l:=
 ⟨f.ok,Nat.le_trans e.next f.next,fun c hc=>(f.get c (Nat.lt_of_lt_of_le hc e.next) (by omega)).trans (e.get c hc)⟩
theorem box173 {h:AH} {a b:Int} {v:Value} (hl:isLeaf v=true):wStore E 173 (h.new (.row [.int .i64 0,.int .i64 0,.slice none 0 0] 173 0 false)) (some (ptr h.next)) (some (.agg ⟨[.int .i64 a,.int .i64 b,v]⟩))=one (undef,(h.new (.row [.int .i64 0,.int .i64 0,.slice none 0 0] 173 0 false)).upd h.next (some (.row [.int .i64 a,.int .i64 b,v] 173 0 false))):=by
 rw [store_of (P:=E) ts_173 (x:=.agg ⟨[.int .i64 a,.int .i64 b,v]⟩) (cs:=[.int .i64 a,.int .i64 b,v]) (get_new_self h _) rfl rfl (by simp) (by simp [isLeaf] at hl ⊢;exact hl)]
 rfl
theorem f13_get:E.tab.fn.get 13=some Tryz.f13:=by kernel_rfl
theorem f13_body:Tryz.f13.body=some (bodyOf Tryz.f13):=by kernel_rfl
theorem call13 {k:AH}:(recI E).call 13 [] k=some [(.bool true,k)]:=call_sum f13_get f13_body (by kernel_rfl)
theorem veq_slice3 {n:Int} {a b:Option Addr} {m c m' c':Nat}:veq 100 (.agg #[.int .i64 n,.slice a m c,.slice b m' c']) (.agg #[.int .i64 n,.slice a m c,.slice b m' c'])=true:=by
 show veqs 99 [.int .i64 n,.slice a m c,.slice b m' c'] [.int .i64 n,.slice a m c,.slice b m' c']=true
 simp only [veqs,veq_int,veq_slice,Bool.and_self]
end Go.Proofs
namespace Go.Proofs
open Go Go.AM
set_option maxRecDepth 100000
theorem nwF (k:AH) (x:AObj):∃ m,k.fresh.new x=m/\m.next=k.next+1/\m.get k.next=some x/\Own k m/\∀ b,b<k.next->m.get b=k.get b:=
 ⟨_,rfl,rfl,get_new_self k.fresh x,(Own.fresh k).new x,fun b hb=>by rw [get_new_ne (by simp;omega)];rfl⟩
theorem nw {k l:AH} (o:Own k l) (x:AObj):∃ m,l.new x=m/\m.next=l.next+1/\m.get l.next=some x/\Own k m/\∀ b,b<l.next->m.get b=l.get b:=
 ⟨_,rfl,rfl,get_new_self l x,o.new x,fun b hb=>get_new_ne (by omega)⟩
theorem up {k l:AH} (o:Own k l) {b:Nat} (hb:k.next<=b) (x:AObj):∃ m,l.upd b (some x)=m/\m.next=l.next/\m.get b=some x/\Own k m/\∀ c,c≠b->m.get c=l.get c:=
 ⟨_,rfl,rfl,get_upd_self _ _ _,o.upd hb _,fun c hc=>get_upd_ne hc⟩
theorem idx_agg {T et z:Nat} (hT:und E T=some (.slice et)) (hz:tsize E et=some z) (hta:tAS E et=some (true,z)) {h k:AH} {v:Value} {els:List (List Value)} (ha:Arr h z v els) (e:Ext h k) {i:Nat} {x:List Value} (hi:els[i]?=some x) :
  ∃ p,pIndexAddr E T (some v) (some (.int .i64 (i:Int)))=some p/\rLoad E et k (some p)=some (.agg ⟨x⟩):=by
 obtain ⟨b,o,c,vs,ty,es,ro,rfl,hb,hlt,hle,hx,hl⟩:=ha.load hi
 have hil:i<els.length:=(List.getElem?_eq_some_iff.1 hi).1
 refine ⟨_,indexSlice_of hT hz hil,?_⟩
 rw [load_agg hta ((e.get b hlt).trans hb) hle,hx]
theorem idx34 {h k:AH} {v:Value} {els:List (List Value)} (ha:Arr h 3 v els) (e:Ext h k) {i:Nat} {x:List Value} (hi:els[i]?=some x) :
  ∃ p,pIndexAddr E 34 (some v) (some (.int .i64 (i:Int)))=some p/\rLoad E 173 k (some p)=some (.agg ⟨x⟩):=idx_agg und_34 ts_173 ta_173 ha e hi
theorem idx22 {h k:AH} {v:Value} {els:List (List Value)} (ha:Arr h 2 v els) (e:Ext h k) {i:Nat} {x:List Value} (hi:els[i]?=some x) :
  ∃ p,pIndexAddr E 22 (some v) (some (.int .i64 (i:Int)))=some p/\rLoad E 36 k (some p)=some (.agg ⟨x⟩):=idx_agg und_22 ts_36 ta_36 ha e hi
theorem idx23 {h k:AH} {v:Value} {els:List (List Value)} (ha:Arr h 3 v els) (e:Ext h k) {i:Nat} {x:List Value} (hi:els[i]?=some x) :
  ∃ p,pIndexAddr E 23 (some v) (some (.int .i64 (i:Int)))=some p/\rLoad E 52 k (some p)=some (.agg ⟨x⟩):=idx_agg und_23 ts_52 ta_52 ha e hi
def ordI (a b:Int):Int:=if a<b then -1 else if b<a then 1 else 0
theorem call232 {k:AH} {a b:Int} (hok:k.ok):(recI E).call 232 [.int .i64 a,.int .i64 b] k=some [(.int .i64 (ordI a b),k)]:=by
 refine F232_flat (s:=true) hok rfl (P232_0_of ?_)
 refine P232_1_of ?_
 simp only [evO_some,bf_lss,brK_d]
 refine ⟨fun h1=>P232_2_of ?_,fun h1=>P232_3_of ?_⟩
 ·simp [evO_some,kR_1,ne_ret,ordI,h1]
 simp only [evO_some,bf_gtr,brK_d]
 refine ⟨fun h2=>P232_4_of ?_,fun h2=>P232_5_of ?_⟩
 ·simp [evO_some,kR_1,ne_ret,ordI,h1,h2]
 ·simp [evO_some,kR_1,ne_ret,ordI,h1,h2]
mutual
def cmpR:GT->GT->Int
 | .mk k n l,.mk k' n' l'=>if ordI k k'=0 then (if ordI n n'=0 then (if ordI l.length l'.length=0 then cmpRL l l' else ordI l.length l'.length) else ordI n n') else ordI k k'
def cmpRL:List GT->List GT->Int
 | t::ts,u::us=>if cmpR t u=0 then cmpRL ts us else cmpR t u
 | [],_=>0
 | _::_,[]=>0
end
def Spec188 (h0:AH) (kk nn:Int) (v:Value) (l:List GT):Prop:=∀ (k:AH) (kk' nn':Int) (v':Value) (l':List GT),RT h0 v' l'->Ext h0 k->
 (recI E).call 188 [.agg #[.int .i64 kk,.int .i64 nn,v],.agg #[.int .i64 kk',.int .i64 nn',v']] k=some [(.int .i64 (cmpR (.mk kk nn l) (.mk kk' nn' l')),k)]
theorem ordI_len {a b:Nat} (h:ordI (a:Int) (b:Int)=0):a=b:=by
 unfold ordI at h
 split at h
 ·cases h
 ·split at h
  ·cases h
  ·omega
mutual
theorem spec188 {h0:AH}:∀ {v:Value} {l:List GT},RT h0 v l->∀ (kk nn:Int),Spec188 h0 kk nn v l
 | v,l,.mk (els:=els) ha hn hc,kk,nn=>by
  intro k kk' nn' v' l' hr' hk
  have hrt:RT h0 v l:=.mk ha hn hc
  have hch:=specs188 hc
  have hlen:=RC.length hc
  obtain ⟨sa,sc,rfl⟩:=hrt.slice
  obtain ⟨sa',sc',rfl⟩:=hr'.slice
  refine F188_flat (s:=true) hk.ok rfl (P188_0_of ?_)
  obtain ⟨k1,e1,n1,t1,o1,f1⟩:=nwF k (.row [.int .i64 kk,.int .i64 nn,.slice sa l.length sc] 173 0 false)
  obtain ⟨k2,e2,n2,t2,o2,f2⟩:=nw o1 (.row [.int .i64 kk',.int .i64 nn',.slice sa' l'.length sc'] 173 0 false)
  simp only [new_row,ev_one,cells_agg,evO_some,e1,e2,next_fresh]
  have g1:=(f2 k.next (by omega)).trans t1
  have l0:=load_leaf (P:=E) ta_3 (o:=0) g1
  have l1:=load_leaf (P:=E) ta_3 (o:=1) g1
  have l2:=load_leaf (P:=E) ta_34 (o:=2) g1
  have m0:=load_leaf (P:=E) ta_3 (o:=0) t2
  have m1:=load_leaf (P:=E) ta_3 (o:=1) t2
  have m2:=load_leaf (P:=E) ta_34 (o:=2) t2
  simp only [lnth] at l0 l1 l2 m0 m1 m2
  have ex2:=hk.trans o2.ext
  have stop:∀ c:Int,P188_10 true (KR E [.tmp 4] fun x m=>x=.int .i64 c/\k.next<=m.wm) (.int .i64 c) k2:=by
   intro c
   refine P188_10_of ?_
   simp only [evO_some,kR_1,ne_ret,true_and];exact o2.wm
  have quit:∀ (c i:Int),c≠0->P188_7 true (KR E [.tmp 4] fun x m=>x=.int .i64 c/\k.next<=m.wm) (.pointer (some ⟨k.next,0,none⟩)) (.pointer (some ⟨k1.next,0,none⟩)) (.int .i64 c) (.int .i64 i) k2:=by
   intro c i hc0
   refine P188_7_of ?_
   simp only [fa_173_2,Nat.zero_add,l2,evO_some,len188_7_3,bf_lss,gdB_bool,bf_eql,hc0,decide_false]
   by_cases hi:i<(l.length:Int)
   ·simp only [hi,decide_true,beq_self_eq_true,cond_true,evO_some,pick_bool,gdB_bool,bf_eql,hc0,decide_false,brK_f];exact stop c
   ·simp only [hi,decide_false,show (false==true)=false from rfl,cond_false,evO_some,pick_bool,brK_f];exact stop c
  have loop:∀ (m i:Nat),i+m=l.length->l.length=l'.length->P188_7 true (KR E [.tmp 4] fun x m=>x=.int .i64 (cmpRL (l.drop i) (l'.drop i))/\k.next<=m.wm) (.pointer (some ⟨k.next,0,none⟩)) (.pointer (some ⟨k1.next,0,none⟩)) (.int .i64 0) (.int .i64 (i:Int)) k2:=by
   intro m
   induction m with
   | zero=>
    intro i hi hl
    have:l.drop i=[]:=List.drop_eq_nil_of_le (by omega)
    rw [this]
    refine P188_7_of ?_
    simp only [fa_173_2,Nat.zero_add,l2,evO_some,len188_7_3,bf_lss,show decide ((i:Int)<(l.length:Int))=false from decide_eq_false (by omega),gdB_bool,show (false==true)=false from rfl,cond_false,pick_bool,brK_f]
    exact stop 0
   | succ m ih=>
    intro i hi hl
    have hil:i<l.length:=by omega
    have hil':i<l'.length:=by omega
    refine P188_7_of ?_
    simp only [fa_173_2,Nat.zero_add,l2,evO_some,len188_7_3,bf_lss,show decide ((i:Int)<(l.length:Int))=true from decide_eq_true (by omega),gdB_bool,beq_self_eq_true,cond_true,bf_eql,decide_true,pick_bool,brK_t]
    refine P188_8_of ?_
    cases hr' with
    | @mk _ els' _ ha' hn' hc'=>
     have hlen':=RC.length hc'
     obtain ⟨x,hx⟩:∃ x,els[i]?=some x:=⟨_,List.getElem?_eq_getElem (by omega)⟩
     obtain ⟨y,hy⟩:∃ y,els'[i]?=some y:=⟨_,List.getElem?_eq_getElem (by omega)⟩
     obtain ⟨p1,q1,w1⟩:=idx34 ha ex2 hx
     obtain ⟨p2,q2,w2⟩:=idx34 ha' ex2 hy
     obtain ⟨ck,cn,cv,cl,rfl,r1,r2,r3⟩:=hch i x hx
     obtain ⟨dk,dn,dv,dl,rfl,s1,s2⟩:=RC.at hc' i y hy
     have hcall:=r3 k2 dk dn dv dl s1 ex2
     have e3:l.drop i=GT.mk ck cn cl::l.drop (i+1):=by rw [List.drop_eq_getElem_cons hil,(List.getElem?_eq_some_iff.1 r2).2]
     have e4:l'.drop i=GT.mk dk dn dl::l'.drop (i+1):=by rw [List.drop_eq_getElem_cons hil',(List.getElem?_eq_some_iff.1 s2).2]
     simp only [fa_173_2,Nat.zero_add,l2,m2,evO_some,q1,w1,q2,w2,wCall_0,hcall,ev_some]
     refine P188_9_of ?_
     simp only [evO_some,bf_add _ (add1 hil (by omega))]
     rw [e3,e4]
     simp only [cmpRL]
     by_cases hz:cmpR (GT.mk ck cn cl) (GT.mk dk dn dl)=0
     ·rw [if_pos hz,hz];exact ih (i+1) (by omega) hl
     ·rw [if_neg hz];exact quit _ _ hz
  refine P188_1_of ?_
  simp only [fa_173_0,Nat.add_zero,l0,m0,evO_some,wCall_0,call232 o2.ext.ok,ev_some]
  refine P188_2_of ?_
  simp only [evO_some,bf_eql,brK_d,cmpR]
  refine ⟨fun h1=>?_,fun h1=>?_⟩
  rotate_left
  ·rw [if_neg h1]
   refine P188_4_of ?_
   simp only [evO_some,bf_eql,h1,decide_false,brK_f]
   refine P188_6_of ?_
   exact quit _ _ h1
  rw [if_pos h1]
  refine P188_3_of ?_
  simp only [fa_173_1,Nat.zero_add,l1,m1,evO_some,wCall_0,call232 o2.ext.ok,ev_some]
  refine P188_4_of ?_
  simp only [evO_some,bf_eql,brK_d]
  refine ⟨fun h2=>?_,fun h2=>?_⟩
  rotate_left
  ·rw [if_neg h2]
   refine P188_6_of ?_
   exact quit _ _ h2
  rw [if_pos h2]
  refine P188_5_of ?_
  simp only [fa_173_2,Nat.zero_add,l2,m2,evO_some,len188_5_2,len188_5_5,wCall_0,call232 o2.ext.ok,ev_some]
  refine P188_6_of ?_
  by_cases h3:ordI (l.length:Int) (l'.length:Int)=0
  ·rw [if_pos h3,h3]
   have:=loop l.length 0 (by omega) (ordI_len h3)
   simpa using this
  ·rw [if_neg h3];exact quit _ _ h3
theorem specs188 {h0:AH}:∀ {els:List (List Value)} {ts:List GT},RC h0 els ts->∀ (i:Nat) (e:List Value),els[i]?=some e->
  ∃ (k n:Int) (v:Value) (l:List GT),e=[.int .i64 k,.int .i64 n,v]/\RT h0 v l/\ts[i]?=some (.mk k n l)/\Spec188 h0 k n v l
 | _,_,.nil,i,e,h=>by simp at h
 | _,_,.cons hv hs,0,e,h=>by simp at h;exact ⟨_,_,_,_,h.symm,hv,rfl,spec188 hv _ _⟩
 | _,_,.cons hv hs,i+1,e,h=>by
  simp only [List.getElem?_cons_succ] at h
  obtain ⟨k,n,v,l,a,b,c,d⟩:=specs188 hs i e h
  exact ⟨k,n,v,l,a,b,by simpa using c,d⟩
end
end Go.Proofs
namespace Go.Proofs
open Go Go.AM
set_option maxRecDepth 100000
set_option maxHeartbeats 1000000
abbrev Dt:=Array (Int×Int)
section
variable {b ty es:Nat} {k0 k:AH} {d0 d:Dt}
end
theorem subN {a c:Nat} (h:c<=a) (ha:a<=9223372036854775807) (t:TypeId):binFast E .sub t (.int .i64 (a:Int)) (.int .i64 (c:Int))=some (.int .i64 ((a-c:Nat):Int)):=by
 rw [bf_sub t (by unfold in64;omega)]
 congr 2;omega
abbrev sl (b n c:Nat):Value:=.slice (some ⟨b,0,none⟩) n c
section
variable {b ty es c:Nat} {k:AH} {d:Dt}
end
end Go.Proofs
namespace Go.Proofs
open Go Go.AM Go.Sort
set_option maxRecDepth 100000
set_option maxHeartbeats 1000000
theorem get_wm {m:AH} {w b:Nat} {o:Option AObj} (h:m.get b=o):AH.get ⟨m.t,m.next,w⟩ b=o:=h
section
variable {b ty es c:Nat} {k:AH} {d:Dt} {cf:Value} {cm:Int×Int->Int×Int->Int}
end
theorem arr_flat {z:Nat} {vs:List Value}:∀ (els:List (List Value)) (o:Nat),o+els.length*z<=vs.length->(∀ (i:Nat) (e:List Value),els[i]?=some e->e.length=z/\(vs.drop (o+i*z)).take z=e)->(vs.drop o).take (els.length*z)=els.flatten
 | [],o,_,_=>by simp
 | e::es,o,h,H=>by
  have h0:=H 0 e rfl
  rw [Nat.zero_mul,Nat.add_zero] at h0
  have ih:=arr_flat (z:=z) (vs:=vs) es (o+z) (by rw [List.length_cons,Nat.add_mul] at h;omega) fun i x hx=>by
   have:=H (i+1) x (by simpa using hx)
   rw [show o+(i+1)*z=o+z+i*z by rw [Nat.add_mul];omega] at this
   exact this
  rw [List.flatten_cons,← ih,List.length_cons,show (es.length+1)*z=z+es.length*z by rw [Nat.add_mul];omega,List.take_add,List.drop_drop,h0.2]
theorem append_all {t e z:Nat} (H:Elt t e z) {h:AH} {b b2 o n c:Nat} {vs us:List Value} {ty ty2 es2:Nat} {ro2:Bool} (hb:h.get b=some (.row [] ty 0 false)) (hb2:h.get b2=some (.row vs ty2 es2 ro2)) (hn0:n≠0) (hn:n<=1000000)
  (hl:o+n*z<=vs.length) (hu:(vs.drop o).take (n*z)=us) :
  wBuiltinO E .append [t,t] (some [.slice (some ⟨b,0,none⟩) 0 0,.slice (some ⟨b2,o,none⟩) n c]) h=one (.slice (some ⟨h.next,0,none⟩) n (UNK+z),h.new (.row us e z false)):=by
 obtain ⟨ti,e1,e2,e3⟩:=H.ti
 show v2 (appendV E [t,t] (.slice (some ⟨b,0,none⟩) 0 0) (.slice (some ⟨b2,o,none⟩) n c) h)=_
 have hlen:us.length=n*z:=by rw [← hu,List.length_take,List.length_drop];omega
 have hn1:Nat.beq n 0=false:=by cases n with|zero=>exact absurd rfl hn0|succ n=>rfl
 have hn2:Nat.ble n 0=false:=by cases n with|zero=>exact absurd rfl hn0|succ n=>rfl
 have hn3:Nat.ble n 1000000=true:=ble_true.2 (by omega)
 simp only [appendV,H.el,H.un,isIntD,cond_false,e1,appendSrc,sliceCells,hb2,e2,ltake_eq,ldrop_eq,llen_eq,hu,hlen,Nat.beq_refl,if_true,e3,cond_true,appendTo,hn1,hb,appendRow,show Nat.ble UNK 0=false from rfl,hn2,Nat.zero_mul,List.drop_nil,List.take_nil,List.length_nil,show Nat.beq 0 0=true from rfl,List.nil_append,appendNew,hn3,v2,Nat.zero_add]
end Go.Proofs
namespace Go.Proofs
open Go Go.AM
set_option maxRecDepth 100000
theorem ordI_c3 (a b:Int):ordI a b=c3 a b:=rfl
mutual
theorem cmpR_eq:∀ t u:GT,cmpR t u=cmpT t u
 | .mk k n l,.mk k' n' l'=>by
  have h:=cmpRL_eq l l'
  simp only [cmpR,cmpT,orI,ordI_c3]
  by_cases h1:c3 k k'=0
  ·by_cases h2:c3 n n'=0
   ·by_cases h3:c3 (l.length:Int) (l'.length:Int)=0
    ·simp [h1,h2,h3,h (ordI_len h3)]
    ·simp [h1,h2,h3]
   ·simp [h1,h2]
  ·simp [h1]
theorem cmpRL_eq:∀ l l':List GT,l.length=l'.length->cmpRL l l'=cmpL l l'
 | [],[],_=>rfl
 | t::ts,u::us,h=>by
  simp only [cmpRL,cmpL,cmpR_eq t u,cmpRL_eq ts us (by simpa using h)]
  by_cases e:cmpT t u=0 <;> simp [e]
 | [],_::_,h=>by simp at h
 | _::_,[],h=>by simp at h
end
theorem cmpL_end {l l':List GT} {i:Nat} (h1:i<=l.length) (h2:i<=l'.length) (h:i=l.length\/i=l'.length):cmpL (l.drop i) (l'.drop i)=c3 l.length l'.length:=by
 cases e:l.drop i with
 | nil=>
  have e1:l.length<=i:=by simpa using e
  cases e':l'.drop i with
  | nil=>
   have e2:l'.length<=i:=by simpa using e'
   have:l.length=l'.length:=by omega
   simp [cmpL,c3,this]
  | cons y ys=>
   have e2:i<l'.length:=by
    rcases Nat.lt_or_ge i l'.length with h|h
    ·exact h
    ·rw [List.drop_eq_nil_of_le h] at e';cases e'
   simp only [cmpL,c3]
   rw [if_pos (by omega)]
 | cons x xs=>
  have e1:i<l.length:=by
   rcases Nat.lt_or_ge i l.length with h|h
   ·exact h
   ·rw [List.drop_eq_nil_of_le h] at e;cases e
  have e2:l'.drop i=[]:=List.drop_eq_nil_of_le (by omega)
  rw [e2]
  simp only [cmpL,c3]
  rw [if_neg (by omega),if_pos (by omega)]
theorem lab_or (g:Int) (l:List GT) (g':Int) (l':List GT):cmpLab g l g' l'=if c3 g g'=0 then cmpL l l' else c3 g g':=by
 simp only [cmpLab,orI]
 by_cases h:c3 g g'=0 <;> by_cases h2:cmpL l l'=0 <;> simp [h,h2]
theorem spec188' {h0 k:AH} {e e':List Value} {els els':List (List Value)} {ts ts':List GT} (hc:RC h0 els ts) (hc':RC h0 els' ts') {i:Nat} (he:els[i]?=some e) (he':els'[i]?=some e') (hk:Ext h0 k) :
  ∃ t u,ts[i]?=some t/\ts'[i]?=some u/\(recI E).call 188 [.agg ⟨e⟩,.agg ⟨e'⟩] k=some [(.int .i64 (cmpT t u),k)]:=by
 obtain ⟨ck,cn,cv,cl,rfl,r1,r2,r3⟩:=specs188 hc i e he
 obtain ⟨dk,dn,dv,dl,rfl,s1,s2⟩:=RC.at hc' i e' he'
 exact ⟨_,_,r2,s2,by rw [← cmpR_eq];exact r3 k dk dn dv dl s1 hk⟩
theorem call140 {h0 k:AH} {v v':Value} {l l':List GT} (hr:RT h0 v l) (hr':RT h0 v' l') (hk:Ext h0 k):(recI E).call 140 [v,v'] k=some [(.int .i64 (cmpL l l'),k)]:=by
 have hs:=hr.slice
 have hs':=hr'.slice
 cases hr with
 | @mk _ els _ ha hn hc=>
 cases hr' with
 | @mk _ els' _ ha' hn' hc'=>
 have hlen:=RC.length hc
 have hlen':=RC.length hc'
 obtain ⟨sa,sc,rfl⟩:=hs
 obtain ⟨sa',sc',rfl⟩:=hs'
 refine F140_flat (s:=true) hk.ok rfl (P140_0_of ?_)
 refine P140_1_of ?_
 have hkf:=hk.fresh
 have fin:c3 l.length l'.length=cmpL l l'->P140_7 true (KR E [.tmp 2] fun x m=>x=.int .i64 (cmpL l l')/\k.next<=m.wm) (.slice sa l.length sc) (.slice sa' l'.length sc') k.fresh:=by
  intro hc
  refine P140_7_of ?_
  simp only [evO_some,len140_7_1,len140_7_3,wCall_0,call94 hkf.ok,ev_some,kR_1,ne_ret,true_and]
  exact ⟨congrArg (Value.int .i64) hc,by rw [wm_fresh];omega⟩
 have loop:∀ (m i:Nat),i+m=l.length->i<=l'.length->cmpL (l.drop i) (l'.drop i)=cmpL l l'->P140_2 true (KR E [.tmp 2] fun x m=>x=.int .i64 (cmpL l l')/\k.next<=m.wm) (.slice sa l.length sc) (.slice sa' l'.length sc') (.int .i64 (i:Int)) k.fresh:=by
  intro m
  induction m with
  | zero=>
   intro i hi hi2 hV
   refine P140_2_of ?_
   simp only [evO_some,len140_2_2,bf_lss,show decide ((i:Int)<(l.length:Int))=false from decide_eq_false (by omega),gdB_bool,show (false==true)=false from rfl,cond_false,pick_bool,brK_f]
   exact fin (by rw [← hV,cmpL_end (by omega) hi2 (by omega)])
  | succ m ih=>
   intro i hi hi2 hV
   refine P140_2_of ?_
   simp only [evO_some,len140_2_2,bf_lss,show decide ((i:Int)<(l.length:Int))=true from decide_eq_true (by omega),gdB_bool,beq_self_eq_true,cond_true,len140_2_7,pick_bool,brK_d]
   refine ⟨fun hi'=>P140_3_of ?_,fun hni=>fin (by rw [← hV,cmpL_end (by omega) hi2 (by omega)])⟩
   have hi':i<l'.length:=by omega
   have hil:i<l.length:=by omega
   obtain ⟨x,hx⟩:∃ x,els[i]?=some x:=⟨_,List.getElem?_eq_getElem (by omega)⟩
   obtain ⟨y,hy⟩:∃ y,els'[i]?=some y:=⟨_,List.getElem?_eq_getElem (by omega)⟩
   obtain ⟨p1,q1,w1⟩:=idx34 ha hkf hx
   obtain ⟨p2,q2,w2⟩:=idx34 ha' hkf hy
   obtain ⟨t,u,ht,hu,hcall⟩:=spec188' hc hc' hx hy hkf
   have e3:l.drop i=t::l.drop (i+1):=by rw [List.drop_eq_getElem_cons hil,(List.getElem?_eq_some_iff.1 ht).2]
   have e4:l'.drop i=u::l'.drop (i+1):=by rw [List.drop_eq_getElem_cons hi',(List.getElem?_eq_some_iff.1 hu).2]
   rw [e3,e4] at hV
   simp only [cmpL] at hV
   simp only [evO_some,q1,w1,q2,w2,wCall_0,hcall,ev_some]
   refine P140_4_of ?_
   simp only [evO_some,bf_neq,brK_n]
   refine ⟨fun hne=>P140_5_of ?_,fun he=>P140_6_of ?_⟩
   ·simp only [evO_some,kR_1,ne_ret,true_and]
    rw [if_pos hne] at hV
    exact ⟨by rw [hV],by rw [wm_fresh];omega⟩
   ·simp only [evO_some,bf_add _ (add1 (show i<l.length by omega) (by omega))]
    rw [if_neg (by simp [he])] at hV
    exact ih (i+1) (by omega) (by omega) hV
 have:=loop l.length 0 (by omega) (by omega) (by simp)
 exact this
theorem call88 {h0 k:AH} {g g':Int} {v v':Value} {l l':List GT} (hr:RT h0 v l) (hr':RT h0 v' l') (hk:Ext h0 k) :
  (recI E).call 88 [.agg ⟨[.int .i64 g,v]⟩,.agg ⟨[.int .i64 g',v']⟩] k=some [(.int .i64 (cmpLab g l g' l'),k)]:=by
 refine F88_flat (s:=true) hk.ok rfl (P88_0_of ?_)
 obtain ⟨k1,e1,n1,t1,o1,f1⟩:=nwF k (.row [.int .i64 g,v] 36 0 false)
 obtain ⟨k2,e2,n2,t2,o2,f2⟩:=nw o1 (.row [.int .i64 g',v'] 36 0 false)
 simp only [new_row,ev_one,cells_agg,evO_some,e1,e2,next_fresh]
 have g1:=(f2 k.next (by omega)).trans t1
 have l0:=load_leaf (P:=E) ta_3 (o:=0) g1
 have l1:=load_leaf (P:=E) ta_34 (o:=1) g1
 have m0:=load_leaf (P:=E) ta_3 (o:=0) t2
 have m1:=load_leaf (P:=E) ta_34 (o:=1) t2
 simp only [lnth] at l0 l1 m0 m1
 have ex2:=hk.trans o2.ext
 refine P88_1_of ?_
 simp only [fa_36_0,Nat.add_zero,l0,m0,evO_some,wCall_0,call94 ex2.ok,ev_some]
 refine P88_2_of ?_
 simp only [evO_some,bf_neq,brK_n]
 refine ⟨fun hne=>P88_3_of ?_,fun he=>P88_4_of ?_⟩
 ·simp only [evO_some,kR_1,ne_ret,true_and]
  have hne:¬ c3 g g'=0:=hne
  exact ⟨congrArg (Value.int .i64) (show c3 g g'=_ by rw [lab_or,if_neg hne]),o2.wm⟩
 ·simp only [fa_36_1,Nat.zero_add,l1,m1,evO_some,wCall_0,call140 hr hr' ex2,ev_some,kR_1,ne_ret,true_and]
  have he:c3 g g'=0:=he
  exact ⟨by rw [lab_or,if_pos he],o2.wm⟩
end Go.Proofs
namespace Go.Proofs
open Go Go.AM
set_option maxRecDepth 100000
set_option maxHeartbeats 1000000
theorem bf_subw (t:TypeId) (a b:Int):binFast E .sub t (.int .i64 a) (.int .i64 b)=some (.int .i64 (wrapF .i64 (a-b))):=rfl
abbrev KB (k:AH) (rs:List ResultVar) (Rp:Value->Prop):KF:=KR E rs (fun x m=>(isFlat x=true/\Rp x)/\k.next<=m.wm)
def BoolIf (Q:Prop) (x:Value):Prop:=∃ b:Bool,x=.bool b/\(b=true->Q)
def SpecB (f:FuncId) (h0:AH) (kk nn:Int) (v:Value) (Q:Prop):Prop:=∀ k,Ext h0 k->∃ b:Bool,(b=true->Q)/\(recI E).call f [.agg #[.int .i64 kk,.int .i64 nn,v]] k=some [(.bool b,k)]
mutual
theorem spec230 {h0:AH}:∀ {v:Value} {l:List GT},RT h0 v l->∀ (kk nn:Int),SpecB 230 h0 kk nn v (okT (.mk kk nn l)=true)
 | v,l,.mk (els:=els) ha hn hc,kk,nn=>by
  intro k hk
  have hrt:RT h0 v l:=.mk ha hn hc
  have hch:=specs230 hc
  have hlen:=RC.length hc
  obtain ⟨sa,sc,rfl⟩:=hrt.slice
  have key:∃ x,BoolIf (okT (.mk kk nn l)=true) x/\(recI E).call 230 [.agg #[.int .i64 kk,.int .i64 nn,.slice sa l.length sc]] k=some [(x,k)]:=by
   refine F230_flatE hk.ok (P230_0_of ?_)
   obtain ⟨k1,e1,n1,t1,o1,f1⟩:=nwF k (.row [.int .i64 kk,.int .i64 nn,.slice sa l.length sc] 173 0 false)
   simp only [new_row,ev_one,cells_agg,evO_some,e1,next_fresh]
   have l0:=load_leaf (P:=E) ta_3 (o:=0) t1
   have l1:=load_leaf (P:=E) ta_3 (o:=1) t1
   have l2:=load_leaf (P:=E) ta_34 (o:=2) t1
   simp only [lnth] at l0 l1 l2
   have ex:=hk.trans o1.ext
   have no:P230_2 true (KB k [.tmp 2] (BoolIf (okT (.mk kk nn l)=true))) k1:=P230_2_of (by simp only [evO_some,kR_1,ne_ret,true_and];exact ⟨⟨rfl,_,rfl,fun h=>by cases h⟩,o1.wm⟩)
   have no':P230_7 true (KB k [.tmp 2] (BoolIf (okT (.mk kk nn l)=true))) k1:=P230_7_of (by simp only [evO_some,kR_1,ne_ret,true_and];exact ⟨⟨rfl,_,rfl,fun h=>by cases h⟩,o1.wm⟩)
   have yes':okT (.mk kk nn l)=true->P230_9 true (KB k [.tmp 2] (BoolIf (okT (.mk kk nn l)=true))) k1:=fun h=>P230_9_of (by simp only [evO_some,kR_1,ne_ret,true_and];exact ⟨⟨rfl,_,rfl,fun _=>h⟩,o1.wm⟩)
   have loop:(kk=2/\¬ nn<0/\¬ 255<nn/\¬ (8:Int)<(l.length:Int))->∀ (m i:Nat),i+m=l.length->(∀ (j:Nat) (t:GT),j<i->l[j]?=some t->okT t=true)->P230_4 true (KB k [.tmp 2] (BoolIf (okT (.mk kk nn l)=true))) (.pointer (some ⟨k.next,0,none⟩)) (.int .i64 (i:Int)) k1:=by
    intro hcond m
    induction m with
    | zero=>
     intro i hi hp
     refine P230_4_of ?_
     simp only [fa_173_2,Nat.zero_add,l2,evO_some,len230_4_3,bf_lss,show decide ((i:Int)<(l.length:Int))=false from decide_eq_false (by omega),brK_f]
     refine yes' ?_
     simp only [okT,Bool.and_eq_true,decide_eq_true_eq]
     exact ⟨⟨⟨⟨hcond.1,by omega⟩,by omega⟩,by omega⟩,okL_iff.2 fun j t hj=>hp j t (by have:=(List.getElem?_eq_some_iff.1 hj).1;omega) hj⟩
    | succ m ih=>
     intro i hi hp
     refine P230_4_of ?_
     simp only [fa_173_2,Nat.zero_add,l2,evO_some,len230_4_3,bf_lss,show decide ((i:Int)<(l.length:Int))=true from decide_eq_true (by omega),brK_t]
     refine P230_5_of ?_
     obtain ⟨x,hx⟩:∃ x,els[i]?=some x:=⟨_,List.getElem?_eq_getElem (by omega)⟩
     obtain ⟨p1,q1,w1⟩:=idx34 ha ex hx
     obtain ⟨ck,cn,cv,cl,rfl,hcl,hs⟩:=hch i x hx
     obtain ⟨b,hbt,hb⟩:=hs k1 ex
     simp only [fa_173_2,Nat.zero_add,l2,evO_some,q1,w1,wCall_0,hb,ev_some]
     refine P230_6_of ?_
     simp only [evO_some,uf_not]
     cases b with
     | false=>simp only [Bool.not_false,brK_t];exact no'
     | true=>
      simp only [Bool.not_true,brK_f]
      refine P230_8_of ?_
      simp only [evO_some,bf_add _ (add1 (show i<l.length by omega) (by omega))]
      refine ih (i+1) (by omega) fun j t hj ht=>?_
      rcases Nat.lt_succ_iff_lt_or_eq.1 hj with h|h
      ·exact hp j t h ht
      ·subst h;rw [hcl] at ht;cases ht;exact hbt rfl
   have yes:(kk=2/\¬ nn<0/\¬ 255<nn/\¬ (8:Int)<(l.length:Int))->P230_3 true (KB k [.tmp 2] (BoolIf (okT (.mk kk nn l)=true))) (.pointer (some ⟨k.next,0,none⟩)) k1:=fun h=>P230_3_of (by exact loop h l.length 0 (by omega) fun j t hj=>by omega)
   refine P230_1_of ?_
   cases h1:decide (kk=2) <;> cases h2:decide (nn<0) <;> cases h3:decide (255<nn) <;> cases h4:decide ((8:Int)<(l.length:Int)) <;>
    simp only [fa_173_0,fa_173_1,fa_173_2,Nat.zero_add,Nat.add_zero,l0,l1,l2,evO_some,len230_1_16,bf_neq,bf_lss,bf_gtr,h1,h2,h3,h4,decide_true,decide_false,Bool.not_true,Bool.not_false,gdB_bool,beq_self_eq_true,show (true==false)=false from rfl,show (false==true)=false from rfl,cond_true,cond_false,pick_bool,brK_t,brK_f] <;> first|exact no|exact yes ⟨of_decide_eq_true h1,of_decide_eq_false h2,of_decide_eq_false h3,of_decide_eq_false h4⟩
  obtain ⟨x,⟨b,rfl,hbt⟩,hx⟩:=key
  exact ⟨b,hbt,hx⟩
theorem specs230 {h0:AH}:∀ {els:List (List Value)} {ts:List GT},RC h0 els ts->∀ (i:Nat) (e:List Value),els[i]?=some e->
  ∃ (k n:Int) (v:Value) (l:List GT),e=[.int .i64 k,.int .i64 n,v]/\ts[i]?=some (.mk k n l)/\SpecB 230 h0 k n v (okT (.mk k n l)=true)
 | _,_,.nil,i,e,h=>by simp at h
 | _,_,.cons hv hs,0,e,h=>by simp at h;exact ⟨_,_,_,_,h.symm,rfl,spec230 hv _ _⟩
 | _,_,.cons hv hs,i+1,e,h=>by
  simp only [List.getElem?_cons_succ] at h
  obtain ⟨k,n,v,l,a,b,c⟩:=specs230 hs i e h
  exact ⟨k,n,v,l,a,by simpa using b,c⟩
end
mutual
theorem spec281 {h0:AH}:∀ {v:Value} {l:List GT},RT h0 v l->∀ (kk nn:Int),SpecB 281 h0 kk nn v True
 | v,l,.mk (els:=els) ha hn hc,kk,nn=>by
  intro k hk
  have hrt:RT h0 v l:=.mk ha hn hc
  have hch:=specs281 hc
  have hlen:=RC.length hc
  obtain ⟨sa,sc,rfl⟩:=hrt.slice
  have key:∃ x,BoolIf True x/\(recI E).call 281 [.agg #[.int .i64 kk,.int .i64 nn,.slice sa l.length sc]] k=some [(x,k)]:=by
   refine F281_flatE hk.ok (P281_0_of ?_)
   obtain ⟨k1,e1,n1,t1,o1,f1⟩:=nwF k (.row [.int .i64 kk,.int .i64 nn,.slice sa l.length sc] 173 0 false)
   simp only [new_row,ev_one,cells_agg,evO_some,e1,next_fresh]
   have l0:=load_leaf (P:=E) ta_3 (o:=0) t1
   have l1:=load_leaf (P:=E) ta_3 (o:=1) t1
   have l2:=load_leaf (P:=E) ta_34 (o:=2) t1
   simp only [lnth] at l0 l1 l2
   have ex:=hk.trans o1.ext
   have no:P281_2 true (KB k [.tmp 2] (BoolIf True)) k1:=P281_2_of (by simp only [evO_some,kR_1,ne_ret,true_and];exact ⟨⟨rfl,_,rfl,fun _=>trivial⟩,o1.wm⟩)
   have no':P281_6 true (KB k [.tmp 2] (BoolIf True)) k1:=P281_6_of (by simp only [evO_some,kR_1,ne_ret,true_and];exact ⟨⟨rfl,_,rfl,fun _=>trivial⟩,o1.wm⟩)
   have yes':P281_8 true (KB k [.tmp 2] (BoolIf True)) k1:=P281_8_of (by simp only [evO_some,kR_1,ne_ret,true_and];exact ⟨⟨rfl,_,rfl,fun _=>trivial⟩,o1.wm⟩)
   have loop:∀ (m i:Nat),i+m=l.length->P281_4 true (KB k [.tmp 2] (BoolIf True)) (.pointer (some ⟨k.next,0,none⟩)) (.int .i64 (i:Int)) k1:=by
    intro m
    induction m with
    | zero=>
     intro i hi
     refine P281_4_of ?_
     simp only [fa_173_2,Nat.zero_add,l2,evO_some,len281_4_3,bf_lss,show decide ((i:Int)<(l.length:Int))=false from decide_eq_false (by omega),brK_f]
     exact yes'
    | succ m ih=>
     intro i hi
     refine P281_4_of ?_
     simp only [fa_173_2,Nat.zero_add,l2,evO_some,len281_4_3,bf_lss,show decide ((i:Int)<(l.length:Int))=true from decide_eq_true (by omega),brK_t]
     refine P281_5_of ?_
     obtain ⟨x,hx⟩:∃ x,els[i]?=some x:=⟨_,List.getElem?_eq_getElem (by omega)⟩
     obtain ⟨p1,q1,w1⟩:=idx34 ha ex hx
     obtain ⟨ck,cn,cv,rfl,hs⟩:=hch i x hx
     obtain ⟨b,_,hb⟩:=hs k1 ex
     simp only [fa_173_2,Nat.zero_add,l2,evO_some,q1,w1,wCall_0,hb,ev_some,uf_not]
     cases b with
     | false=>simp only [Bool.not_false,brK_t];exact no'
     | true=>
      simp only [Bool.not_true,brK_f]
      refine P281_7_of ?_
      simp only [evO_some,bf_add _ (add1 (show i<l.length by omega) (by omega))]
      exact ih (i+1) (by omega)
   have yes:P281_3 true (KB k [.tmp 2] (BoolIf True)) (.pointer (some ⟨k.next,0,none⟩)) k1:=P281_3_of (by exact loop l.length 0 (by omega))
   refine P281_1_of ?_
   cases h1:decide (nn<0) <;> cases h2:decide (kk=1) <;> cases h3:decide (kk=2) <;> cases h4:decide ((0:Int)<(l.length:Int)) <;> cases h5:decide ((8:Int)<(l.length:Int)) <;>
    simp only [fa_173_0,fa_173_1,fa_173_2,Nat.zero_add,Nat.add_zero,l0,l1,l2,evO_some,len281_1_20,len281_1_27,bf_neq,bf_eql,bf_lss,bf_gtr,h1,h2,h3,h4,h5,decide_true,decide_false,Bool.not_true,Bool.not_false,gdB_bool,gdB_undef,beq_self_eq_true,show (true==false)=false from rfl,show (false==true)=false from rfl,cond_true,cond_false,pick_bool,brK_t,brK_f] <;> first|exact no|exact yes
  obtain ⟨x,⟨b,rfl,hbt⟩,hx⟩:=key
  exact ⟨b,hbt,hx⟩
theorem specs281 {h0:AH}:∀ {els:List (List Value)} {ts:List GT},RC h0 els ts->∀ (i:Nat) (e:List Value),els[i]?=some e->
  ∃ (k n:Int) (v:Value),e=[.int .i64 k,.int .i64 n,v]/\SpecB 281 h0 k n v True
 | _,_,.nil,i,e,h=>by simp at h
 | _,_,.cons hv hs,0,e,h=>by simp at h;exact ⟨_,_,_,h.symm,spec281 hv _ _⟩
 | _,_,.cons hv hs,i+1,e,h=>by
  simp only [List.getElem?_cons_succ] at h
  exact specs281 hs i e h
end
mutual
def szT:GT->Int
 | .mk _ _ l=>1+szL l
def szL:List GT->Int
 | []=>0
 | t::ts=>szT t+szL ts
end
mutual
def dpT:GT->Int->Bool
 | .mk _ _ l,d=>decide (d<=200)&&dpL l (d+1)
def dpL:List GT->Int->Bool
 | [],_=>true
 | t::ts,d=>dpT t d&&dpL ts d
end
mutual
theorem szT_pos:∀ t:GT,1<=szT t
 | .mk _ _ l=>by have:=szL_pos l;simp only [szT];omega
theorem szL_pos:∀ l:List GT,0<=szL l
 | []=>Int.le_refl _
 | t::ts=>by have:=szT_pos t;have:=szL_pos ts;simp only [szL];omega
end
theorem szL_app:∀ l m:List GT,szL (l++m)=szL l+szL m
 | [],m=>by simp [szL]
 | t::l,m=>by simp only [List.cons_append,szL,szL_app l m];omega
theorem dpL_iff:∀ {l:List GT} {d:Int},dpL l d=true ↔ ∀ (i:Nat) (t:GT),l[i]?=some t->dpT t d=true
 | [],_=>by simp [dpL]
 | t::ts,d=>by
  simp only [dpL,Bool.and_eq_true,dpL_iff (l:=ts)]
  constructor
  ·rintro ⟨a,b⟩ i u hu
   cases i with
   | zero=>simp at hu;rw [← hu];exact a
   | succ i=>exact b i u (by simpa using hu)
  ·intro h
   exact ⟨h 0 t rfl,fun i u hu=>h (i+1) u (by simpa using hu)⟩
def CntP (t:GT) (a d n:Int) (b:Bool):Prop:=b=true->0<=a->a<=2000->0<=d->n=a-szT t/\0<=n/\dpT t d=true
def CntOut (t:GT) (a d:Int) (x:Value):Prop:=∃ (n:Int) (b:Bool),x=.tuple #[.int .i64 n,.bool b]/\CntP t a d n b
def SpecC (h0:AH) (kk nn:Int) (v:Value) (l:List GT):Prop:=∀ k (a d:Int),Ext h0 k->∃ (n:Int) (b:Bool),CntP (.mk kk nn l) a d n b/\(recI E).call 280 [.agg #[.int .i64 kk,.int .i64 nn,v],.int .i64 a,.int .i64 d] k=some [(.tuple #[.int .i64 n,.bool b],k)]
mutual
theorem spec280 {h0:AH}:∀ {v:Value} {l:List GT},RT h0 v l->∀ (kk nn:Int),SpecC h0 kk nn v l
 | v,l,.mk (els:=els) ha hn hc,kk,nn=>by
  intro k a d hk
  have hrt:RT h0 v l:=.mk ha hn hc
  have hch:=specs280 hc
  have hlen:=RC.length hc
  obtain ⟨sa,sc,rfl⟩:=hrt.slice
  have key:∃ x,CntOut (.mk kk nn l) a d x/\(recI E).call 280 [.agg #[.int .i64 kk,.int .i64 nn,.slice sa l.length sc],.int .i64 a,.int .i64 d] k=some [(x,k)]:=by
   refine F280_flatE hk.ok (P280_0_of ?_)
   obtain ⟨k1,e1,n1,t1,o1,f1⟩:=nwF k (.row [.int .i64 kk,.int .i64 nn,.slice sa l.length sc] 173 0 false)
   simp only [new_row,ev_one,cells_agg,evO_some,e1,next_fresh]
   have l2:=load_leaf (P:=E) ta_34 (o:=2) t1
   simp only [lnth] at l2
   have ex:=hk.trans o1.ext
   have no:∀ n,P280_3 true (KB k [.tmp 4,.tmp 5] (CntOut (.mk kk nn l) a d)) (.int .i64 n) k1:=fun n=>P280_3_of (by simp only [evO_some,kR_2,ne_ret,true_and];exact ⟨⟨rfl,_,_,rfl,fun h=>by cases h⟩,o1.wm⟩)
   have no':∀ n,P280_9 true (KB k [.tmp 4,.tmp 5] (CntOut (.mk kk nn l) a d)) (.int .i64 n) k1:=fun n=>P280_9_of (by simp only [evO_some,kR_2,ne_ret,true_and];exact ⟨⟨rfl,_,_,rfl,fun h=>by cases h⟩,o1.wm⟩)
   have yes':∀ n,CntP (.mk kk nn l) a d n true->P280_11 true (KB k [.tmp 4,.tmp 5] (CntOut (.mk kk nn l) a d)) (.int .i64 n) k1:=fun n hn=>P280_11_of (by simp only [evO_some,kR_2,ne_ret,true_and];exact ⟨⟨rfl,_,_,rfl,hn⟩,o1.wm⟩)
   have loop:¬ 200<d->∀ (m i:Nat),i+m=l.length->∀ n:Int,(0<=a->a<=2000->0<=d->n=a-1-szL (l.take i)/\0<=n/\∀ (j:Nat) (t:GT),j<i->l[j]?=some t->dpT t (d+1)=true)->P280_5 true (KB k [.tmp 4,.tmp 5] (CntOut (.mk kk nn l) a d)) (.int .i64 n) (.int .i64 d) (.pointer (some ⟨k.next,0,none⟩)) (.int .i64 (i:Int)) k1:=by
    intro hd m
    induction m with
    | zero=>
     intro i hi n hp
     refine P280_5_of ?_
     simp only [fa_173_2,Nat.zero_add,l2,evO_some,len280_5_3,bf_lss,show decide ((i:Int)<(l.length:Int))=false from decide_eq_false (by omega),brK_f]
     refine yes' n fun _ h1 h2 h3=>?_
     obtain ⟨p1,p2,p3⟩:=hp h1 h2 h3
     rw [List.take_of_length_le (by omega)] at p1
     refine ⟨by simp only [szT];omega,p2,?_⟩
     simp only [dpT,Bool.and_eq_true,decide_eq_true_eq]
     exact ⟨by omega,dpL_iff.2 fun j t hj=>p3 j t (by have:=(List.getElem?_eq_some_iff.1 hj).1;omega) hj⟩
    | succ m ih=>
     intro i hi n hp
     refine P280_5_of ?_
     simp only [fa_173_2,Nat.zero_add,l2,evO_some,len280_5_3,bf_lss,show decide ((i:Int)<(l.length:Int))=true from decide_eq_true (by omega),brK_t]
     refine P280_6_of ?_
     obtain ⟨x,hx⟩:∃ x,els[i]?=some x:=⟨_,List.getElem?_eq_getElem (by omega)⟩
     obtain ⟨p1,q1,w1⟩:=idx34 ha ex hx
     obtain ⟨ck,cn,cv,cl,rfl,hcl,hs⟩:=hch i x hx
     obtain ⟨n2,b,hbt,hb⟩:=hs k1 n (wrapF .i64 (d+1)) ex
     simp only [fa_173_2,Nat.zero_add,l2,evO_some,q1,w1,bf_addw,wCall_0,hb,ev_some,pExtract,lnth]
     refine P280_7_of ?_
     refine P280_8_of ?_
     simp only [evO_some,uf_not]
     cases b with
     | false=>simp only [Bool.not_false,brK_t];exact no' n2
     | true=>
      simp only [Bool.not_true,brK_f]
      refine P280_10_of ?_
      simp only [evO_some,bf_add _ (add1 (show i<l.length by omega) (by omega))]
      refine ih (i+1) (by omega) n2 fun h1 h2 h3=>?_
      obtain ⟨p1,p2,p3⟩:=hp h1 h2 h3
      have hz:=szL_pos (l.take i)
      rw [wrap_in (show in64 (d+1) by unfold in64;omega)] at hbt
      obtain ⟨q1,q2,q3⟩:=hbt rfl p2 (by omega) (by omega)
      refine ⟨?_,q2,fun j t hj ht=>?_⟩
      ·rw [List.take_succ,hcl,szL_app];simp only [Option.toList,szL];omega
      ·rcases Nat.lt_succ_iff_lt_or_eq.1 hj with h|h
       ·exact p3 j t h ht
       ·subst h;rw [hcl] at ht;cases ht;exact q3
   refine P280_1_of ?_
   simp only [evO_some,bf_subw]
   refine P280_2_of ?_
   have yes:¬ wrapF .i64 (a-1)<0->¬ 200<d->P280_4 true (KB k [.tmp 4,.tmp 5] (CntOut (.mk kk nn l) a d)) (.int .i64 (wrapF .i64 (a-1))) (.int .i64 d) (.pointer (some ⟨k.next,0,none⟩)) k1:=fun h1 h2=>P280_4_of (by exact loop h2 l.length 0 (by omega) _ fun h3 h4 h5=>by rw [wrap_in (show in64 (a-1) by unfold in64;omega)] at h1 ⊢;exact ⟨by simp [szL],by omega,fun j t hj=>by omega⟩)
   by_cases h1:wrapF .i64 (a-1)<0 <;> by_cases h2:200<d <;>
    simp only [evO_some,bf_lss,bf_gtr,h1,h2,decide_true,decide_false,gdB_bool,beq_self_eq_true,show (true==false)=false from rfl,show (false==true)=false from rfl,cond_true,cond_false,pick_bool,brK_t,brK_f] <;> first|exact no _|exact yes h1 h2
  obtain ⟨x,⟨n,b,rfl,hbt⟩,hx⟩:=key
  exact ⟨n,b,hbt,hx⟩
theorem specs280 {h0:AH}:∀ {els:List (List Value)} {ts:List GT},RC h0 els ts->∀ (i:Nat) (e:List Value),els[i]?=some e->
  ∃ (k n:Int) (v:Value) (l:List GT),e=[.int .i64 k,.int .i64 n,v]/\ts[i]?=some (.mk k n l)/\SpecC h0 k n v l
 | _,_,.nil,i,e,h=>by simp at h
 | _,_,.cons hv hs,0,e,h=>by simp at h;exact ⟨_,_,_,_,h.symm,rfl,spec280 hv _ _⟩
 | _,_,.cons hv hs,i+1,e,h=>by
  simp only [List.getElem?_cons_succ] at h
  obtain ⟨k,n,v,l,a,b,c⟩:=specs280 hs i e h
  exact ⟨k,n,v,l,a,by simpa using b,c⟩
end
theorem call264 {h0 k:AH} {v:Value} {l:List GT} (hr:RT h0 v l) (hk:Ext h0 k) (kk nn:Int):∃ x,BoolIf (szT (.mk kk nn l)<=2000/\dpT (.mk kk nn l) 1=true) x/\(recI E).call 264 [.agg ⟨[.int .i64 kk,.int .i64 nn,v]⟩] k=some [(x,k)]:=by
 refine F264_flatE hk.ok (P264_0_of ?_)
 obtain ⟨k1,e1,n1,t1,o1,f1⟩:=nwF k (.row [.int .i64 kk,.int .i64 nn,v] 173 0 false)
 simp only [new_row,ev_one,cells_agg,evO_some,e1,next_fresh]
 have a1:=load_agg (P:=E) ta_173 (o:=0) t1 (by simp)
 simp only [List.drop_zero,List.take] at a1
 have ex:=hk.trans o1.ext
 obtain ⟨n,b,hbt,hb⟩:=spec280 hr kk nn k1 2000 1 ex
 obtain ⟨c,_,hc⟩:=spec281 hr kk nn k1 ex
 refine P264_1_of ?_
 simp only [a1,evO_some,wCall_0,hb,ev_some,pExtract,lnth]
 refine P264_2_of ?_
 cases b with
 | true=>simp only [a1,evO_some,gdB_bool,gdW_bool,beq_self_eq_true,cond_true,wCall_0,hc,ev_some,pick_bool,kR_1,ne_ret,true_and];exact ⟨⟨rfl,_,rfl,fun _=>by have:=hbt rfl (by omega) (by omega) (by omega);exact ⟨by omega,this.2.2⟩⟩,o1.wm⟩
 | false=>simp only [a1,evO_some,gdB_bool,gdW_bool,show (false==true)=false from rfl,cond_false,ev_one,pick_bool,kR_1,ne_ret,true_and];exact ⟨⟨rfl,_,rfl,fun h=>by cases h⟩,o1.wm⟩
theorem call231 {h0 k:AH} {v:Value} {l:List GT} (hr:RT h0 v l) (hk:Ext h0 k) (kk nn:Int):∃ x,(∃ n:Int,x=.int .i64 n/\(n=0->szT (.mk kk nn l)<=2000/\dpT (.mk kk nn l) 1=true))/\(recI E).call 231 [.agg ⟨[.int .i64 kk,.int .i64 nn,v]⟩] k=some [(x,k)]:=by
 refine F231_flatE hk.ok (P231_0_of ?_)
 obtain ⟨k1,e1,n1,t1,o1,f1⟩:=nwF k (.row [.int .i64 kk,.int .i64 nn,v] 173 0 false)
 simp only [new_row,ev_one,cells_agg,evO_some,e1,next_fresh]
 have a1:=load_agg (P:=E) ta_173 (o:=0) t1 (by simp)
 simp only [List.drop_zero,List.take] at a1
 obtain ⟨x,⟨b,rfl,hbt⟩,hb⟩:=call264 hr (hk.trans o1.ext) kk nn
 refine P231_1_of ?_
 simp only [a1,evO_some,wCall_0,hb,ev_some,uf_not]
 cases b with
 | true=>simp only [Bool.not_true,brK_f];refine P231_3_of ?_;simp only [evO_some,kR_1,ne_ret,true_and];exact ⟨⟨rfl,_,rfl,fun _=>hbt rfl⟩,o1.wm⟩
 | false=>simp only [Bool.not_false,brK_t];refine P231_2_of ?_;simp only [evO_some,kR_1,ne_ret,true_and];exact ⟨⟨rfl,_,rfl,fun h=>by omega⟩,o1.wm⟩
mutual
theorem cntT_fit:∀ (t:GT) (d:Int) (s:Int×Int),dpT t d=true->0<=d->0<=s.1->s.1+szT t<=2000->s.2<=200->(cntT t d s).1=s.1+szT t/\(cntT t d s).2<=200
 | .mk k n l,d,s,h1,h2,h3,h4,h5=>by
  simp only [dpT,Bool.and_eq_true,decide_eq_true_eq] at h1
  have hz:=szL_pos l
  simp only [szT] at h4 ⊢
  simp only [cntT]
  rw [wrap_in (show in64 (s.1+1) by unfold in64;omega)]
  have:=cntL_fit l d (s.1+1,if d > s.2 then d else s.2) h1.2 h1.1 h2 (by simp only;omega) (by simp only;omega) (by simp only;split <;> omega)
  simp only at this
  exact ⟨by omega,this.2⟩
theorem cntL_fit:∀ (l:List GT) (d:Int) (s:Int×Int),dpL l (d+1)=true->d<=200->0<=d->0<=s.1->s.1+szL l<=2000->s.2<=200->(cntL l d s).1=s.1+szL l/\(cntL l d s).2<=200
 | [],d,s,_,_,_,_,_,h=>by simp [cntL,szL,h]
 | t::ts,d,s,h1,h2,h3,h4,h5,h6=>by
  simp only [dpL,Bool.and_eq_true] at h1
  have hz:=szL_pos ts
  have hz2:=szT_pos t
  simp only [szL] at h5 ⊢
  simp only [cntL]
  rw [if_neg (by omega),wrap_in (show in64 (d+1) by unfold in64;omega)]
  obtain ⟨a,b⟩:=cntT_fit t (d+1) s h1.1 (by omega) h4 (by omega) h6
  obtain ⟨a',b'⟩:=cntL_fit ts d (cntT t (d+1) s) h1.2 h2 h3 (by omega) (by omega) b
  exact ⟨by omega,b'⟩
end
theorem val_fit {t:GT} (h1:szT t<=2000) (h2:dpT t 1=true) (h3:okT t=true):isVal t=true:=by
 obtain ⟨a,b⟩:=cntT_fit t 1 (0,0) h2 (by omega) (by simp) (by simpa using h1) (by simp)
 simp only [Int.zero_add] at a
 unfold isVal sizeT
 rw [h3,if_neg (by omega)]
 simp only [Bool.and_true,decide_eq_true_eq]
 omega
theorem call187 {h0 k:AH} {v:Value} {l:List GT} (hr:RT h0 v l) (hk:Ext h0 k) (kk nn:Int):∃ x,BoolIf (isVal (.mk kk nn l)=true) x/\(recI E).call 187 [.agg ⟨[.int .i64 kk,.int .i64 nn,v]⟩] k=some [(x,k)]:=by
 refine F187_flatE hk.ok (P187_0_of ?_)
 obtain ⟨k1,e1,n1,t1,o1,f1⟩:=nwF k (.row [.int .i64 kk,.int .i64 nn,v] 173 0 false)
 simp only [new_row,ev_one,cells_agg,evO_some,e1,next_fresh]
 have a1:=load_agg (P:=E) ta_173 (o:=0) t1 (by simp)
 simp only [List.drop_zero,List.take] at a1
 have ex:=hk.trans o1.ext
 obtain ⟨b,hbt,hb⟩:=spec230 hr kk nn k1 ex
 obtain ⟨x,⟨n,rfl,hn⟩,hc⟩:=call231 hr ex kk nn
 refine P187_1_of ?_
 simp only [a1,evO_some,wCall_0,hb,ev_some]
 cases b with
 | true=>simp only [a1,evO_some,gdB_bool,gdW_bool,beq_self_eq_true,cond_true,wCall_0,hc,ev_some,bf_eql,pick_bool,kR_1,ne_ret,true_and];exact ⟨⟨rfl,_,rfl,fun h=>by have:=hn (of_decide_eq_true h);exact val_fit this.1 this.2 (hbt rfl)⟩,o1.wm⟩
 | false=>simp only [a1,evO_some,gdB_bool,gdW_bool,show (false==true)=false from rfl,cond_false,ev_one,pick_bool,kR_1,ne_ret,true_and];exact ⟨⟨rfl,_,rfl,fun h=>by cases h⟩,o1.wm⟩
end Go.Proofs
namespace Go.Proofs
open Go Go.AM
set_option maxRecDepth 100000
set_option maxHeartbeats 2000000
theorem nwUp {k l:AH} (o:Own k l) (x y:AObj):∃ m,(l.new x).upd l.next (some y)=m/\m.next=l.next+1/\m.get l.next=some y/\Own k m/\∀ b,b<l.next->m.get b=l.get b:=
 ⟨_,rfl,rfl,get_upd_self _ _ _,(o.new x).upd o.ext.next _,fun b hb=>by rw [get_upd_ne (by omega),get_new_ne (by omega)]⟩
theorem badLab_of {g:Int} {l:List GT} (c1:¬ g < -3) (c2:¬ 31<g) (c3:¬ (8:Int)<(l.length:Int)) (c4:(bare g&&decide ((0:Int)<(l.length:Int)))=false) (c5:∀ (j:Nat) (t:GT),l[j]?=some t->isVal t=true):badLab g l=false:=by
 have h5:idxFrom (pNot l isVal) l.length 0<0:=(idxFrom_neg _ _).1 fun j _ _=>by
  unfold pNot
  cases ht:l[j]? with
  | none=>rfl
  | some t=>simp [c5 j t ht]
 simp only [badLab,Bool.or_eq_false_iff,decide_eq_false_iff_not]
 refine ⟨⟨⟨⟨c1,by omega⟩,by omega⟩,?_⟩,by omega⟩
 cases hb:bare g with
 | false=>rfl
 | true=>
  rw [hb] at c4
  simp only [Bool.true_and,decide_eq_false_iff_not] at c4 ⊢
  omega
theorem c3_val (a b:Int):(a<b/\c3 a b=-1)\/(a=b/\c3 a b=0)\/(b<a/\c3 a b=1):=by
 unfold c3
 split
 ·exact .inl ⟨by assumption,rfl⟩
 ·split
  ·exact .inr (.inr ⟨by assumption,rfl⟩)
  ·exact .inr (.inl ⟨by omega,rfl⟩)
theorem cmpE_lt (e f:Int×Int×Int):cmpE e f<0 ↔ e.1<f.1\/(e.1=f.1/\(e.2.1<f.2.1\/(e.2.1=f.2.1/\e.2.2<f.2.2))):=by
 simp only [cmpE,orI]
 rcases c3_val e.1 f.1 with ⟨a,a'⟩|⟨a,a'⟩|⟨a,a'⟩ <;> rcases c3_val e.2.1 f.2.1 with ⟨b,b'⟩|⟨b,b'⟩|⟨b,b'⟩ <;> rcases c3_val e.2.2 f.2.2 with ⟨c,c'⟩|⟨c,c'⟩|⟨c,c'⟩ <;> rw [a',b',c'] <;> simp <;> omega
theorem anyFrom_of {p:Nat->Bool}:∀ {m i:Nat},(∀ j,i<=j->j<i+m->p j=false)->anyFrom p m i=false
 | 0,_,_=>rfl
 | m+1,i,h=>by
  simp only [anyFrom,Bool.or_eq_false_iff]
  exact ⟨h i (by omega) (by omega),anyFrom_of fun j h1 h2=>h j (by omega) (by omega)⟩
theorem badLts_of {L:GL} (h1:badSize L=false) (h2:∀ j,j<L.labs.length->labBadAt L.labs j=false) (h3:∀ j,j<L.eds.length->edBadAt L.n L.labs.length L.eds j=false):badLts L=false:=by
 unfold badLts
 rw [h1,anyFrom_of fun j _ h=>h2 j (by omega),anyFrom_of fun j _ h=>h3 j (by omega)]
 rfl
theorem edBad_of {n m:Int} {es:List (Int×Int×Int)} {i:Nat} {e:Int×Int×Int} (he:es[i]?=some e) (r:0<=e.1/\e.1<n/\0<=e.2.2/\e.2.2<n/\0<=e.2.1/\e.2.1<m) (hp:0<i->∀ f,es[i-1]?=some f->cmpE f e<0):edBadAt n m es i=false:=by
 unfold edBadAt
 obtain ⟨a1,a2,a3,a4,a5,a6⟩:=r
 simp only [he,a1,a2,a3,a4,a5,a6,decide_true,Bool.and_self,Bool.not_true,Bool.false_or]
 by_cases hi:0<i
 ·rw [decide_eq_true hi]
  cases hf:es[i-1]? with
  | none=>rfl
  | some f=>exact (Bool.true_and _).trans (decide_eq_false (by have:=hp hi f hf;omega))
 ·rw [decide_eq_false hi];rfl
theorem labBad_of {ls:List (Int×List GT)} {i:Nat} {x:Int×List GT} (he:ls[i]?=some x) (h1:badLab x.1 x.2=false) (hp:0<i->∀ y,ls[i-1]?=some y->cmpLab y.1 y.2 x.1 x.2<0):labBadAt ls i=false:=by
 unfold labBadAt
 simp only [he,h1,Bool.false_or]
 by_cases hi:0<i
 ·rw [decide_eq_true hi]
  cases hf:ls[i-1]? with
  | none=>rfl
  | some f=>exact (Bool.true_and _).trans (decide_eq_false (by have:=hp hi f hf;omega))
 ·rw [decide_eq_false hi];rfl
theorem call138 {h0 k:AH} {g:Int} {v:Value} {l:List GT} (hr:RT h0 v l) (hk:Ext h0 k):∃ x,BoolIf (badLab g l=false) x/\(recI E).call 138 [.agg ⟨[.int .i64 g,v]⟩] k=some [(x,k)]:=by
 have hs:=hr.slice
 cases hr with
 | @mk _ els _ ha hn hc=>
 have hlen:=RC.length hc
 obtain ⟨sa,sc,rfl⟩:=hs
 refine F138_flatE hk.ok (P138_0_of ?_)
 obtain ⟨k1,e1,n1,t1,o1,f1⟩:=nwF k (.row [.int .i64 g,.slice sa l.length sc] 36 0 false)
 simp only [new_row,ev_one,cells_agg,evO_some,e1,next_fresh]
 have l0:=load_leaf (P:=E) ta_3 (o:=0) t1
 have l1:=load_leaf (P:=E) ta_34 (o:=1) t1
 simp only [lnth] at l0 l1
 have ex:=hk.trans o1.ext
 have no:P138_2 true (KB k [.tmp 2] (BoolIf (badLab g l=false))) k1:=P138_2_of (by simp only [evO_some,kR_1,ne_ret,true_and];exact ⟨⟨rfl,_,rfl,fun h=>by cases h⟩,o1.wm⟩)
 have no4:P138_4 true (KB k [.tmp 2] (BoolIf (badLab g l=false))) k1:=P138_4_of (by simp only [evO_some,kR_1,ne_ret,true_and];exact ⟨⟨rfl,_,rfl,fun h=>by cases h⟩,o1.wm⟩)
 have no9:P138_9 true (KB k [.tmp 2] (BoolIf (badLab g l=false))) k1:=P138_9_of (by simp only [evO_some,kR_1,ne_ret,true_and];exact ⟨⟨rfl,_,rfl,fun h=>by cases h⟩,o1.wm⟩)
 have yes:badLab g l=false->P138_11 true (KB k [.tmp 2] (BoolIf (badLab g l=false))) k1:=fun h=>P138_11_of (by simp only [evO_some,kR_1,ne_ret,true_and];exact ⟨⟨rfl,_,rfl,fun _=>h⟩,o1.wm⟩)
 have loop:¬ g < -3->¬ 31<g->¬ (8:Int)<(l.length:Int)->(bare g&&decide ((0:Int)<(l.length:Int)))=false->∀ (m i:Nat),i+m=l.length->(∀ (j:Nat) (t:GT),j<i->l[j]?=some t->isVal t=true)->P138_6 true (KB k [.tmp 2] (BoolIf (badLab g l=false))) (.pointer (some ⟨k.next,0,none⟩)) (.int .i64 (i:Int)) k1:=by
  intro c1 c2 c3 c4 m
  induction m with
  | zero=>
   intro i hi hp
   refine P138_6_of ?_
   simp only [fa_36_1,Nat.zero_add,l1,evO_some,len138_6_3,bf_lss,show decide ((i:Int)<(l.length:Int))=false from decide_eq_false (by omega),brK_f]
   exact yes (badLab_of c1 c2 c3 c4 fun j t hj=>hp j t (by have:=(List.getElem?_eq_some_iff.1 hj).1;omega) hj)
  | succ m ih=>
   intro i hi hp
   refine P138_6_of ?_
   simp only [fa_36_1,Nat.zero_add,l1,evO_some,len138_6_3,bf_lss,show decide ((i:Int)<(l.length:Int))=true from decide_eq_true (by omega),brK_t]
   refine P138_7_of ?_
   obtain ⟨x,hx⟩:∃ x,els[i]?=some x:=⟨_,List.getElem?_eq_getElem (by omega)⟩
   obtain ⟨p1,q1,w1⟩:=idx34 ha ex hx
   obtain ⟨ck,cn,cv,cl,rfl,hcr,hcl⟩:=RC.at hc i x hx
   obtain ⟨y,⟨b,rfl,hbt⟩,hb⟩:=call187 hcr ex ck cn
   simp only [fa_36_1,Nat.zero_add,l1,evO_some,q1,w1,wCall_0,hb,ev_some]
   refine P138_8_of ?_
   simp only [evO_some,uf_not]
   cases b with
   | false=>simp only [Bool.not_false,brK_t];exact no9
   | true=>
    simp only [Bool.not_true,brK_f]
    refine P138_10_of ?_
    simp only [evO_some,bf_add _ (add1 (show i<l.length by omega) (by omega))]
    refine ih (i+1) (by omega) fun j t hj ht=>?_
    rcases Nat.lt_succ_iff_lt_or_eq.1 hj with h|h
    ·exact hp j t h ht
    ·subst h;rw [hcl] at ht;cases ht;exact hbt rfl
 have go:¬ g < -3->¬ 31<g->¬ (8:Int)<(l.length:Int)->(bare g&&decide ((0:Int)<(l.length:Int)))=false->P138_5 true (KB k [.tmp 2] (BoolIf (badLab g l=false))) (.pointer (some ⟨k.next,0,none⟩)) k1:=fun c1 c2 c3 c4=>P138_5_of (by exact loop c1 c2 c3 c4 l.length 0 (by omega) fun j t hj=>by omega)
 have mid:¬ g < -3->¬ 31<g->¬ (8:Int)<(l.length:Int)->P138_3 true (KB k [.tmp 2] (BoolIf (badLab g l=false))) (.pointer (some ⟨k.next,0,none⟩)) k1:=by
  intro c1 c2 c3
  refine P138_3_of ?_
  cases h1:decide (g=-3) <;> cases h2:decide (g=-1) <;> cases h3:decide ((0:Int)<(l.length:Int)) <;>
   simp only [fa_36_0,fa_36_1,Nat.zero_add,Nat.add_zero,l0,l1,evO_some,len138_3_11,bf_eql,bf_gtr,h1,h2,h3,gdB_bool,beq_self_eq_true,show (true==false)=false from rfl,show (false==true)=false from rfl,cond_true,cond_false,pick_bool,brK_t,brK_f] <;> first|exact no4|exact go c1 c2 c3 (by simp only [bare,h1,h2,h3];rfl)
 refine P138_1_of ?_
 cases h1:decide (g < -3) <;> cases h2:decide (31<g) <;> cases h3:decide ((8:Int)<(l.length:Int)) <;>
  simp only [fa_36_0,fa_36_1,Nat.zero_add,Nat.add_zero,l0,l1,evO_some,len138_1_11,bf_lss,bf_gtr,h1,h2,h3,gdB_bool,beq_self_eq_true,show (true==false)=false from rfl,show (false==true)=false from rfl,cond_true,cond_false,pick_bool,brK_t,brK_f] <;> first|exact no|exact mid (of_decide_eq_false h1) (of_decide_eq_false h2) (of_decide_eq_false h3)
theorem call139 {k:AH} {e f:Int×Int×Int} (hok:k.ok):(recI E).call 139 [.agg ⟨edCells e⟩,.agg ⟨edCells f⟩] k=some [(.bool (decide (cmpE e f<0)),k)]:=by
 refine F139_flat (s:=true) hok rfl (P139_0_of ?_)
 obtain ⟨k1,e1,n1,t1,o1,f1⟩:=nwF k (.row (edCells e) 52 0 false)
 obtain ⟨k2,e2,n2,t2,o2,f2⟩:=nw o1 (.row (edCells f) 52 0 false)
 simp only [new_row,ev_one,cells_agg,evO_some,e1,e2,next_fresh]
 have g1:=(f2 k.next (by omega)).trans t1
 have l0:=load_leaf (P:=E) ta_3 (o:=0) g1
 have l1:=load_leaf (P:=E) ta_3 (o:=1) g1
 have l2:=load_leaf (P:=E) ta_3 (o:=2) g1
 have m0:=load_leaf (P:=E) ta_3 (o:=0) t2
 have m1:=load_leaf (P:=E) ta_3 (o:=1) t2
 have m2:=load_leaf (P:=E) ta_3 (o:=2) t2
 simp only [lnth,edCells] at l0 l1 l2 m0 m1 m2
 refine P139_1_of ?_
 simp only [fa_52_0,Nat.add_zero,l0,m0,evO_some,bf_neq,brK_n]
 refine ⟨fun h1=>P139_2_of ?_,fun h1=>P139_3_of ?_⟩
 ·simp only [fa_52_0,Nat.add_zero,l0,m0,evO_some,bf_lss,kR_1,ne_ret,true_and];exact ⟨congrArg Value.bool (decide_eq_decide.2 (by rw [cmpE_lt];omega)),o2.wm⟩
 simp only [fa_52_1,Nat.zero_add,l1,m1,evO_some,bf_neq,brK_n]
 refine ⟨fun h2=>P139_4_of ?_,fun h2=>P139_5_of ?_⟩
 ·simp only [fa_52_1,Nat.zero_add,l1,m1,evO_some,bf_lss,kR_1,ne_ret,true_and];exact ⟨congrArg Value.bool (decide_eq_decide.2 (by rw [cmpE_lt];omega)),o2.wm⟩
 ·simp only [fa_52_2,Nat.zero_add,l2,m2,evO_some,bf_lss,kR_1,ne_ret,true_and];exact ⟨congrArg Value.bool (decide_eq_decide.2 (by rw [cmpE_lt];omega)),o2.wm⟩
theorem subN1 {i:Nat} (hi:0<i) (hn:i<=9223372036854775807):binFast E .sub 3 (.int .i64 (i:Int)) (.int .i64 1)=some (.int .i64 ((i-1:Nat):Int)):=by
 rw [bf_sub _ (show in64 ((i:Int)-1) by unfold in64;omega)]
 congr 2;omega
theorem call85 {k:AH} {x:Value} {L:GL} (hok:k.ok) (hx:RL k x L):∃ y,BoolIf (badLts L=false) y/\(recI E).call 85 [x] k=some [(y,k)]:=by
 obtain ⟨vl,ve,els,rfl,x2,x3,x4⟩:=hx.ex
 refine F85_flatE hok (P85_0_of ?_)
 obtain ⟨k1,e1,n1,t1,o1,f1⟩:=nwF k (.row [.int .i64 L.n,vl,ve] 25 0 false)
 simp only [new_row,ev_one,cells_agg,evO_some,e1,next_fresh]
 have l0:=load_leaf (P:=E) ta_3 (o:=0) t1
 have l1:=load_leaf (P:=E) ta_22 (o:=1) t1
 have l2:=load_leaf (P:=E) ta_23 (o:=2) t1
 simp only [lnth] at l0 l1 l2
 have hL:=RLab.length x3
 obtain ⟨sa,sc,hvl⟩:=x2.slice
 obtain ⟨sb,sd,hve⟩:=x4.slice
 rw [List.length_map] at hve
 have no:P85_2 true (KB k [.tmp 2] (BoolIf (badLts L=false))) k1:=P85_2_of (by simp only [evO_some,kR_1,ne_ret,true_and];exact ⟨⟨rfl,_,rfl,fun h=>by cases h⟩,o1.wm⟩)
 have no7:P85_7 true (KB k [.tmp 2] (BoolIf (badLts L=false))) k1:=P85_7_of (by simp only [evO_some,kR_1,ne_ret,true_and];exact ⟨⟨rfl,_,rfl,fun h=>by cases h⟩,o1.wm⟩)
 have no9:P85_9 true (KB k [.tmp 2] (BoolIf (badLts L=false))) k1:=P85_9_of (by simp only [evO_some,kR_1,ne_ret,true_and];exact ⟨⟨rfl,_,rfl,fun h=>by cases h⟩,o1.wm⟩)
 have eloop:L.eds.length<=100000->badSize L=false->(∀ j,j<L.labs.length->labBadAt L.labs j=false)->∀ (m i:Nat),i+m=L.eds.length->(∀ j,j<i->edBadAt L.n L.labs.length L.eds j=false)->∀ l,Own k l->l.get k.next=some (.row [.int .i64 L.n,vl,ve] 25 0 false)->k.next<l.next->
   P85_12 true (KB k [.tmp 2] (BoolIf (badLts L=false))) (.pointer (some ⟨k.next,0,none⟩)) (.int .i64 (i:Int)) l:=by
  intro hb hz hlb m
  induction m with
  | zero=>
   intro i hi hp l ol tl hn
   have l2:=load_leaf (P:=E) ta_23 (o:=2) tl
   simp only [lnth] at l2
   refine P85_12_of ?_
   rw [hve] at l2
   simp only [fa_25_2,Nat.zero_add,l2,evO_some,len85_12_3,bf_lss,show decide ((i:Int)<(L.eds.length:Int))=false from decide_eq_false (by omega),brK_f]
   exact P85_19_of (by simp only [evO_some,kR_1,ne_ret,true_and];exact ⟨⟨rfl,_,rfl,fun _=>badLts_of hz hlb fun j hj=>hp j (by omega)⟩,ol.wm⟩)
  | succ m ih=>
   intro i hi hp l ol tl hn
   have l2:=load_leaf (P:=E) ta_23 (o:=2) tl
   simp only [lnth] at l2
   have hil:i<L.eds.length:=by omega
   obtain ⟨e,he⟩:∃ e,L.eds[i]?=some e:=⟨_,List.getElem?_eq_getElem hil⟩
   have hx':(L.eds.map edCells)[i]?=some (edCells e):=by rw [List.getElem?_map,he];rfl
   obtain ⟨p1,q1,w1⟩:=idx23 x4 ol.ext hx'
   refine P85_12_of ?_
   have l2':=l2
   rw [hve] at l2'
   simp only [fa_25_2,Nat.zero_add,l2',evO_some,len85_12_3,bf_lss,show decide ((i:Int)<(L.eds.length:Int))=true from decide_eq_true (by omega),brK_t]
   refine P85_13_of ?_
   obtain ⟨l1',e3,n3,t3,o3,f3⟩:=nwUp ol (.row [.int .i64 0,.int .i64 0,.int .i64 0] 52 0 false) (.row (edCells e) 52 0 false)
   simp only [fa_25_2,Nat.zero_add,l2,evO_some,q1,w1,z_52,new_row,ev_one,cells_agg,box52,e3]
   have tl':=(f3 k.next hn).trans tl
   have a0:=load_leaf (P:=E) ta_3 (o:=0) tl'
   have a1:=load_leaf (P:=E) ta_22 (o:=1) tl'
   have a2:=load_leaf (P:=E) ta_23 (o:=2) tl'
   have b0:=load_leaf (P:=E) ta_3 (o:=0) t3
   have b1:=load_leaf (P:=E) ta_3 (o:=1) t3
   have b2:=load_leaf (P:=E) ta_3 (o:=2) t3
   simp only [lnth,edCells] at a0 a1 a2 b0 b1 b2
   have next:(0<=e.1/\e.1<L.n/\0<=e.2.2/\e.2.2<L.n/\0<=e.2.1/\e.2.1<(L.labs.length:Int))->P85_16 true (KB k [.tmp 2] (BoolIf (badLts L=false))) (.pointer (some ⟨k.next,0,none⟩)) (.int .i64 (i:Int)) (.pointer (some ⟨l.next,0,none⟩)) l1':=by
    intro hrg
    have on:(0<i->∀ f,L.eds[i-1]?=some f->cmpE f e<0)->P85_18 true (KB k [.tmp 2] (BoolIf (badLts L=false))) (.pointer (some ⟨k.next,0,none⟩)) (.int .i64 (i:Int)) l1':=by
     intro hpv
     refine P85_18_of ?_
     simp only [evO_some,bf_add _ (add1 hil (by omega))]
     refine ih (i+1) (by omega) (fun j hj=>?_) l1' o3 tl' (by omega)
     rcases Nat.lt_succ_iff_lt_or_eq.1 hj with h|h
     ·exact hp j h
     ·subst h;exact edBad_of he hrg hpv
    refine P85_16_of ?_
    simp only [evO_some,bf_gtr]
    by_cases h0:(0:Int)<(i:Int)
    ·obtain ⟨f,hf⟩:∃ f,L.eds[i-1]?=some f:=⟨_,List.getElem?_eq_getElem (by omega)⟩
     have hy':(L.eds.map edCells)[i-1]?=some (edCells f):=by rw [List.getElem?_map,hf];rfl
     obtain ⟨p2,q2,w2⟩:=idx23 x4 o3.ext hy'
     have ag:=load_agg (P:=E) ta_52 (o:=0) t3 (by simp [edCells])
     rw [show ((edCells e).drop 0).take 3=edCells e from rfl] at ag
     have hc:=call139 (e:=f) (f:=e) o3.ext.ok
     cases hdec:decide (cmpE f e<0) <;> rw [hdec] at hc
     ·simp only [h0,decide_true,gdB_bool,gdW_bool,beq_self_eq_true,cond_true,fa_25_2,Nat.zero_add,a2,evO_some,subN1 (show 0<i by omega) (by omega),q2,w2,ag,wCall_0,hc,ev_some,uf_not,pick_bool]
      simp only [Bool.not_false,brK_t];exact P85_17_of (by simp only [evO_some,kR_1,ne_ret,true_and];exact ⟨⟨rfl,_,rfl,fun h=>by cases h⟩,o3.wm⟩)
     ·simp only [h0,decide_true,gdB_bool,gdW_bool,beq_self_eq_true,cond_true,fa_25_2,Nat.zero_add,a2,evO_some,subN1 (show 0<i by omega) (by omega),q2,w2,ag,wCall_0,hc,ev_some,uf_not,pick_bool]
      simp only [Bool.not_true,brK_f];exact on fun _ g hg=>by rw [hf] at hg;cases hg;exact of_decide_eq_true hdec
    ·simp only [h0,decide_false,gdB_bool,gdW_bool,show (false==true)=false from rfl,cond_false,evO_some,ev_one,pick_bool,brK_f]
     exact on fun h=>absurd (by omega) h0
   have no15:P85_15 true (KB k [.tmp 2] (BoolIf (badLts L=false))) l1':=P85_15_of (by simp only [evO_some,kR_1,ne_ret,true_and];exact ⟨⟨rfl,_,rfl,fun h=>by cases h⟩,o3.wm⟩)
   refine P85_14_of ?_
   rw [hvl] at a1
   cases h1:decide (e.1<0) <;> cases h2:decide (L.n<=e.1) <;> cases h3:decide (e.2.2<0) <;> cases h4:decide (L.n<=e.2.2) <;> cases h5:decide (e.2.1<0) <;> cases h6:decide ((els.length:Int)<=e.2.1) <;>
    simp only [fa_25_0,fa_25_1,fa_52_0,fa_52_1,fa_52_2,Nat.zero_add,Nat.add_zero,a0,a1,b0,b1,b2,evO_some,len85_14_32,bf_lss,bf_geq,h1,h2,h3,h4,h5,h6,gdB_bool,beq_self_eq_true,show (true==false)=false from rfl,show (false==true)=false from rfl,cond_true,cond_false,pick_bool,brK_t,brK_f] <;> first|exact no15|exact next (by have:=of_decide_eq_false h1;have:=of_decide_eq_false h2;have:=of_decide_eq_false h3;have:=of_decide_eq_false h4;have:=of_decide_eq_false h5;have:=of_decide_eq_false h6;omega)
 have lloop:els.length<=4000->L.eds.length<=100000->badSize L=false->∀ (m i:Nat),i+m=els.length->(∀ j,j<i->labBadAt L.labs j=false)->P85_4 true (KB k [.tmp 2] (BoolIf (badLts L=false))) (.pointer (some ⟨k.next,0,none⟩)) (.int .i64 (i:Int)) k1:=by
  intro hb hb2 hz m
  induction m with
  | zero=>
   intro i hi hp
   refine P85_4_of ?_
   have l1':=l1
   rw [hvl] at l1'
   simp only [fa_25_1,Nat.zero_add,l1',evO_some,len85_4_3,bf_lss,show decide ((i:Int)<(els.length:Int))=false from decide_eq_false (by omega),brK_f]
   refine P85_11_of ?_
   exact eloop hb2 hz (fun j hj=>hp j (by omega)) L.eds.length 0 (by omega) (fun j hj=>by omega) k1 o1 t1 (by omega)
  | succ m ih=>
   intro i hi hp
   have hil:i<els.length:=by omega
   obtain ⟨x,hx⟩:∃ x,els[i]?=some x:=⟨_,List.getElem?_eq_getElem hil⟩
   obtain ⟨p1,q1,w1⟩:=idx22 x2 o1.ext hx
   obtain ⟨g,v,l,rfl,hr,hlab⟩:=RLab.at x3 i x hx
   obtain ⟨y,⟨b,rfl,hbt⟩,hcl⟩:=call138 (g:=g) hr o1.ext
   refine P85_4_of ?_
   have l1':=l1
   rw [hvl] at l1'
   simp only [fa_25_1,Nat.zero_add,l1',evO_some,len85_4_3,bf_lss,show decide ((i:Int)<(els.length:Int))=true from decide_eq_true (by omega),brK_t]
   refine P85_5_of ?_
   simp only [fa_25_1,Nat.zero_add,l1,evO_some,q1,w1,wCall_0,hcl,ev_some]
   refine P85_6_of ?_
   simp only [evO_some,uf_not]
   have on:badLab g l=false->(0<i->∀ y,L.labs[i-1]?=some y->cmpLab y.1 y.2 g l<0)->P85_10 true (KB k [.tmp 2] (BoolIf (badLts L=false))) (.pointer (some ⟨k.next,0,none⟩)) (.int .i64 (i:Int)) k1:=by
    intro hb1 hb2
    refine P85_10_of ?_
    simp only [evO_some,bf_add _ (add1 hil (by omega))]
    refine ih (i+1) (by omega) fun j hj=>?_
    rcases Nat.lt_succ_iff_lt_or_eq.1 hj with h|h
    ·exact hp j h
    ·subst h;exact labBad_of hlab hb1 hb2
   cases b with
   | false=>simp only [Bool.not_false,brK_t];exact no7
   | true=>
    simp only [Bool.not_true,brK_f]
    refine P85_8_of ?_
    simp only [evO_some,bf_gtr]
    by_cases h0:(0:Int)<(i:Int)
    ·obtain ⟨z,hz'⟩:∃ z,els[i-1]?=some z:=⟨_,List.getElem?_eq_getElem (by omega)⟩
     obtain ⟨p2,q2,w2⟩:=idx22 x2 o1.ext hz'
     obtain ⟨g2,v2,l2',rfl,hr2,hlab2⟩:=RLab.at x3 (i-1) z hz'
     have hc:=call88 (g:=g2) (g':=g) hr2 hr o1.ext
     simp only [h0,decide_true,gdB_bool,gdW_bool,beq_self_eq_true,cond_true,fa_25_1,Nat.zero_add,l1,evO_some,subN1 (show 0<i by omega) (by omega),q1,w1,q2,w2,wCall_0,hc,ev_some,bf_geq,pick_bool,brK_d]
     exact ⟨fun _=>no9,fun hlt=>on (hbt rfl) fun _ y hy=>by rw [hlab2] at hy;cases hy;simp only;omega⟩
    ·simp only [h0,decide_false,gdB_bool,gdW_bool,show (false==true)=false from rfl,cond_false,evO_some,ev_one,pick_bool,brK_f]
     exact on (hbt rfl) fun h=>absurd (by omega) h0
 refine P85_1_of ?_
 have go:els.length<=4000->L.eds.length<=100000->badSize L=false->P85_3 true (KB k [.tmp 2] (BoolIf (badLts L=false))) (.pointer (some ⟨k.next,0,none⟩)) k1:=fun h1 h2 h3=>P85_3_of (by exact lloop h1 h2 h3 els.length 0 (by omega) fun j hj=>by omega)
 rw [hvl] at l1
 rw [hve] at l2
 cases h1:decide (L.n<1) <;> cases h2:decide (20000<L.n) <;> cases h3:decide ((4000:Int)<(els.length:Int)) <;> cases h4:decide ((100000:Int)<(L.eds.length:Int)) <;>
  simp only [fa_25_0,fa_25_1,fa_25_2,Nat.zero_add,Nat.add_zero,l0,l1,l2,evO_some,len85_1_11,len85_1_17,bf_lss,bf_gtr,h1,h2,h3,h4,gdB_bool,beq_self_eq_true,show (true==false)=false from rfl,show (false==true)=false from rfl,cond_true,cond_false,pick_bool,brK_t,brK_f] <;>
  first|exact no|exact go (by have:=of_decide_eq_false h3;omega) (by have:=of_decide_eq_false h4;omega) (by have:=of_decide_eq_false h1;have:=of_decide_eq_false h2;have:=of_decide_eq_false h3;have:=of_decide_eq_false h4;simp only [badSize,Bool.or_eq_false_iff,decide_eq_false_iff_not];omega)
theorem call23 {k:AH} {x:Value} {L:GL} (hok:k.ok) (hx:RL k x L):∃ n:Int,(n=0->badLts L=false)/\(recI E).call 23 [x] k=some [(.int .i64 n,k)]:=by
 obtain ⟨vl,ve,els,rfl,x2,x3,x4⟩:=id hx.ex
 have key:∃ y,(∃ n:Int,y=.int .i64 n/\(n=0->badLts L=false))/\(recI E).call 23 [.agg #[.int .i64 L.n,vl,ve]] k=some [(y,k)]:=by
  refine F23_flatE hok (P23_0_of ?_)
  obtain ⟨k1,e1,n1,t1,o1,f1⟩:=nwF k (.row [.int .i64 L.n,vl,ve] 25 0 false)
  simp only [new_row,ev_one,cells_agg,evO_some,e1,next_fresh]
  have a1:=load_agg (P:=E) ta_25 (o:=0) t1 (by simp)
  simp only [List.drop_zero,List.take] at a1
  obtain ⟨y,⟨b,rfl,hbt⟩,hb⟩:=call85 o1.ext.ok (hx.ext o1.ext)
  refine P23_1_of ?_
  simp only [a1,evO_some,wCall_0,hb,ev_some]
  refine P23_2_of ?_
  simp only [evO_some,uf_not]
  cases b with
  | true=>simp only [Bool.not_true,brK_f];refine P23_4_of ?_;simp only [evO_some,kR_1,ne_ret,true_and];exact ⟨⟨rfl,_,rfl,fun _=>hbt rfl⟩,o1.wm⟩
  | false=>simp only [Bool.not_false,brK_t];refine P23_3_of ?_;simp only [evO_some,kR_1,ne_ret,true_and];exact ⟨⟨rfl,_,rfl,fun h=>by omega⟩,o1.wm⟩
 obtain ⟨y,⟨n,rfl,hn⟩,h⟩:=key
 exact ⟨n,hn,h⟩
end Go.Proofs
namespace Go.Proofs
open Go Go.AM
structure More (w:World) (σ:Sg) (h:AH) (σ':Sg) (h':AH):Prop where
 le:Sg.le σ σ'
 ext:Ext h h'
 hr:HR w.heap.size σ' h' w
theorem More.refl {w:World} {σ:Sg} {h:AH} (H:HR w.heap.size σ h w) (ok:h.ok):More w σ h σ h:=⟨Sg.le_refl σ,Ext.refl ok,H⟩
theorem More.trans {w:World} {σ σ1 σ2:Sg} {h h1 h2:AH} (a:More w σ h σ1 h1) (b:More w σ1 h1 σ2 h2):More w σ h σ2 h2:=⟨Sg.le_trans a.le b.le,a.ext.trans b.ext,b.hr⟩
theorem More.ok {w:World} {σ σ':Sg} {h h':AH} (a:More w σ h σ' h'):h'.ok:=a.ext.ok
theorem HR.addRO {σ:Sg} {h:AH} {w:World} (H:HR w.heap.size σ h w) (hok:h.ok) {vs:List Value} {el:TypeId} {cs:Array Value} {frz:Nat×Nat} {l:AM.Loc} (hb:w.heap[l.blk]?=some (.cells cs el frz))
  (hsz:l.base+vs.length<=cs.size) (hc:∀ i v,vs[i]?=some v->∃ v',cs[l.base+i]?=some v'/\VR σ v v') :
  More w σ h (σ.ext h.next l) (h.new (.row vs el 0 true)):=by
 have hlt:l.blk<w.heap.size:=lt_of_get hb
 have le:Sg.le σ (σ.ext h.next l):=Sg.le_ext H.free
 refine ⟨le,(Ext.refl hok).new _,?_,?_,?_,?_,Nat.le_refl _,H.kept⟩
 ·intro b m e
  unfold Sg.ext at e
  split at e
  ·rename_i hb;subst hb;simp
  ·have:=H.dom _ _ e;simp;omega
 ·intro b hb
  rw [AH.get_new]
  simp at hb
  rw [if_neg (by omega)];exact H.fresh b (by omega)
 ·intro b x e
  rw [AH.get_new] at e
  by_cases hb':b=h.next
  ·subst hb'
   rw [if_pos rfl] at e
   cases e
   exact ⟨l,Sg.ext_self ..,⟨cs,el,frz,hb,hsz,fun i v hi=>(let ⟨v',a,b⟩:=hc i v hi;⟨v',a,b.mono le⟩),fun e=>(by cases e),rfl,fun _ e=>(by cases e),fun e=>absurd rfl e⟩,fun e=>(by cases e)⟩
  ·rw [if_neg hb'] at e
   obtain ⟨m,a,c,d⟩:=H.live b x e
   refine ⟨m,le _ _ a,c.mono le rfl (fun i es v lm hi hs=>?_),d⟩
   rw [AH.get_new] at hi
   have hin:i≠h.next:=by intro e;subst e;rw [H.free] at hs;cases hs
   rw [if_neg hin] at hi
   exact ⟨hi,rfl⟩
 ·have other:∀ b' o2 l2,(h.new (.row vs el 0 true)).get b'=some o2->(σ.ext h.next l) b'=some l2->l.blk=l2.blk->b'≠h.next->isRO o2=true:=by
   intro b' o2 l2 e2 s2 hblk hne
   rw [AH.get_new,if_neg hne] at e2
   unfold Sg.ext at s2
   rw [if_neg hne] at s2
   obtain ⟨m,a,c,d⟩:=H.live b' _ e2
   rw [s2] at a;cases a
   cases hro:isRO o2 with
   | true=>rfl
   | false=>have:=d hro;omega
  intro b b' o1 o2 l1 l2 e1 e2 s1 s2 hblk hne
  by_cases hb1:b=h.next
  ·subst hb1
   have e1':=e1
   rw [AH.get_new,if_pos rfl] at e1';cases e1'
   have s1':=s1
   rw [Sg.ext_self] at s1';cases s1'
   exact ⟨rfl,other _ _ _ e2 s2 hblk (fun e=>hne e.symm)⟩
  ·by_cases hb2:b'=h.next
   ·subst hb2
    have e1':=e2
    rw [AH.get_new,if_pos rfl] at e1';cases e1'
    have s1':=s2
    rw [Sg.ext_self] at s1';cases s1'
    exact ⟨other _ _ _ e1 s1 hblk.symm hb1,rfl⟩
   ·rw [AH.get_new,if_neg hb1] at e1
    rw [AH.get_new,if_neg hb2] at e2
    unfold Sg.ext at s1 s2
    rw [if_neg hb1] at s1
    rw [if_neg hb2] at s2
    exact H.inj b b' o1 o2 l1 l2 e1 e2 s1 s2 hblk hne
inductive Els {α:Type} (R:List Value->α->Prop):List (List Value)->List α->Prop
 | nil:Els R [] []
 | cons {e:List Value} {a:α} {es:List (List Value)} {aas:List α} (h:R e a) (hs:Els R es aas):Els R (e::es) (a::aas)
theorem Els.mono {α:Type} {R S:List Value->α->Prop} (H:∀ e a,R e a->S e a):∀ {es:List (List Value)} {aas:List α},Els R es aas->Els S es aas
 | _,_,.nil=>.nil
 | _,_,.cons h hs=>.cons (H _ _ h) (Els.mono H hs)
theorem flat_len {z:Nat}:∀ (els:List (List Value)),(∀ e∈els,e.length=z)->els.flatten.length=els.length*z
 | [],_=>by simp
 | e::es,H=>by
  rw [List.flatten_cons,List.length_append,H e (by simp),flat_len es fun x hx=>H x (by simp [hx]),List.length_cons,Nat.add_mul];omega
theorem flat_get {z:Nat}:∀ (els:List (List Value)),(∀ e∈els,e.length=z)->∀ k e,els[k]?=some e->(els.flatten.drop (k*z)).take z=e
 | [],_,k,e,h=>by simp at h
 | x::es,H,0,e,h=>by
  simp at h;subst h
  rw [List.flatten_cons,Nat.zero_mul,List.drop_zero]
  have:=H x (by simp)
  rw [← this,List.take_left'];rfl
 | x::es,H,k+1,e,h=>by
  rw [List.flatten_cons]
  have hx:=H x (by simp)
  rw [show (k+1)*z=x.length+k*z by rw [hx,Nat.add_mul];omega,← List.drop_drop,List.drop_left']
  ·exact flat_get es (fun y hy=>H y (by simp [hy])) k e (by simpa using h)
  ·rfl
theorem flat_at {z:Nat}:∀ (els:List (List Value)),(∀ e∈els,e.length=z)->∀ i v,els.flatten[i]?=some v->∃ k e j,els[k]?=some e/\e[j]?=some v/\i=k*z+j
 | [],_,i,v,h=>by simp at h
 | x::es,H,i,v,h=>by
  have hx:=H x (by simp)
  rw [List.flatten_cons] at h
  by_cases hi:i<x.length
  ·rw [List.getElem?_append_left hi] at h
   exact ⟨0,x,i,rfl,h,by omega⟩
  ·rw [List.getElem?_append_right (by omega)] at h
   obtain ⟨k,e,j,a,b,c⟩:=flat_at es (fun y hy=>H y (by simp [hy])) _ _ h
   exact ⟨k+1,e,j,by simpa using a,b,by rw [Nat.add_mul];omega⟩
theorem cell_get {w:World} {a:Addr} {v:Value} (h:w.cell? a=some v):∃ C el frz,w.heap[a.block]?=some (.cells C el frz)/\a.spot=none/\C[a.off]?=some v:=by
 unfold World.cell? at h
 split at h
 ·rename_i C el frz hb
  cases hs:a.spot with
  | some s=>rw [hs] at h;simp at h
  | none=>rw [hs] at h;exact ⟨C,el,frz,hb,rfl,by simpa using h⟩
 ·cases h
theorem add_off (a:Addr) (n:Nat):(a.add n).off=a.off+n:=by unfold Addr.add;split <;> simp_all
theorem add_blk (a:Addr) (n:Nat):(a.add n).block=a.block:=by unfold Addr.add;split <;> rfl
theorem row_at {w:World} {base z i:Nat} {a:Addr} {cs:List Value} (hz:0<z) (h:w.cells? base (a.add (i*z)) z=some cs) :
  ∃ C el frz,w.heap[a.block]?=some (.cells C el frz)/\cs.length=z/\(i=0->a.spot=none)/\∀ j,j<z->C[a.off+i*z+j]?=cs[j]?:=by
 obtain ⟨_,hl,hg⟩:=World.cells?_some h
 have h0:=hg 0 hz
 have hv:∃ v,cs[0]?=some v:=⟨_,List.getElem?_eq_getElem (by omega)⟩
 obtain ⟨v,hv⟩:=hv
 rw [hv] at h0
 obtain ⟨C,el,frz,hb,hs,_⟩:=cell_get h0
 rw [add_blk,add_blk] at hb
 refine ⟨C,el,frz,hb,hl,fun hi=>?_,fun j hj=>?_⟩
 ·subst hi
  simp only [Nat.zero_mul] at hs
  have e:∀ b:Addr,b.add 0=b:=fun b=>by simp [Addr.add]
  rw [e,e] at hs;exact hs
 ·have hj':=hg j hj
  obtain ⟨u,hu⟩:∃ u,cs[j]?=some u:=⟨_,List.getElem?_eq_getElem (by omega)⟩
  rw [hu] at hj' ⊢
  obtain ⟨C',el',frz',hb',_,hc'⟩:=cell_get hj'
  rw [add_blk,add_blk,hb] at hb'
  cases hb'
  rw [add_off,add_off] at hc'
  exact hc'
section
variable {H:Type} {enc:TypeId×Value->H} {P:Program} {w:World} {base:Nat} {held:Bool}
def Step (enc:TypeId×Value->H) (P:Program) (w:World) (base:Nat) (held:Bool) {α:Type} (R:AH->List Value->α->Prop) (n:Nat) (t:TypeId):Prop:=
 ∀ (cs:List Value) (x:DataW H×List MemPlace) (σ:Sg) (h:AH),h.ok->HR w.heap.size σ h w->DataW.trod enc P w base (fun _=>true) held n t cs=some x->
  ∃ σ' h' vs a,More w σ h σ' h'/\VRs σ' vs cs/\R h' vs a
theorem build_els {α:Type} {R:AH->List Value->α->Prop} (hR:∀ h k es a,Ext h k->R h es a->R k es a) {e:TypeId} {z n:Nat} (hz:0<z) (hcz:P.cellsOf e=z) {a:Addr} {C:Array Value} {el:TypeId} {frz:Nat×Nat} (hC:w.heap[a.block]?=some (.cells C el frz))
  (step:Step enc P w base held R n e):∀ (m i:Nat) (σ:Sg) (h:AH),h.ok->HR w.heap.size σ h w->
   (∀ k,k<m->∃ x,(w.cells? base (a.add ((i+k)*z)) z).bind (DataW.trod enc P w base (fun _=>true) held n e)=some x)->
   ∃ σ' h' els aas,More w σ h σ' h'/\Els (R h') els aas/\els.length=m/\∀ k u,els[k]?=some u->u.length=z/\∀ j v,u[j]?=some v->∃ v',C[a.off+(i+k)*z+j]?=some v'/\VR σ' v v':=by
 intro m
 induction m with
 | zero=>intro i σ h hok hH _;exact ⟨σ,h,[],[],.refl hH hok,.nil,rfl,fun k u hk=>by simp at hk⟩
 | succ m ih=>
  intro i σ h hok hH hr
  obtain ⟨x,hx⟩:=hr 0 (by omega)
  obtain ⟨cs,hcs,htr⟩:=Option.bind_eq_some_iff.1 hx
  obtain ⟨C',el',frz',hb,hl,_,hg⟩:=row_at hz hcs
  rw [hC] at hb
  cases hb
  obtain ⟨σ1,h1,vs,b,m1,v1,r1⟩:=step cs x σ h hok hH htr
  obtain ⟨σ2,h2,els,aas,m2,e2,l2,g2⟩:=ih (i+1) σ1 h1 m1.ok m1.hr (fun k hk=>by
   have:=hr (k+1) (by omega)
   rw [show i+1+k=i+(k+1) by omega];exact this)
  refine ⟨σ2,h2,vs::els,b::aas,m1.trans m2,.cons (hR _ _ _ _ m2.ext r1) e2,by simp [l2],fun k u hk=>?_⟩
  cases k with
  | zero=>
   simp at hk;subst hk
   refine ⟨by rw [v1.length,hl],fun j v hj=>?_⟩
   obtain ⟨v',q1,q2⟩:=v1.get hj
   have hjz:j<z:=by have:=(List.getElem?_eq_some_iff.1 q1).1;omega
   exact ⟨v',by rw [hg j hjz];exact q1,q2.mono m2.le⟩
  | succ k=>
   simp only [List.getElem?_cons_succ] at hk
   rw [show i+(k+1)=i+1+k by omega]
   exact g2 k u hk
theorem build_sliceC {α:Type} {R:AH->List Value->α->Prop} (hR:∀ h k es a,Ext h k->R h es a->R k es a) {t e:TypeId} {z n:Nat} (ht:P.underlying t=some (.slice e)) (hz:0<z) (hcz:P.cellsOf e=z)
  (step:∀ m,n=m+1->Step enc P w base held R m e) :
  ∀ (cs:List Value) (x:DataW H×List MemPlace) (σ:Sg) (h:AH),h.ok->HR w.heap.size σ h w->DataW.trod enc P w base (fun _=>true) held n t cs=some x->
   ∃ σ' h' v v' els aas,cs=[v']/\More w σ h σ' h'/\VR σ' v v'/\Arr h' z v els/\Els (R h') els aas/\els.length<=9223372036854775807/\∃ ad n c,v=.slice ad n c/\n<=c/\c<UNK:=by
 intro cs x σ h hok hH htr
 rcases DataW.trod_slice ht htr with ⟨rfl,_⟩|⟨a,len,cap,elems,rest,m,hm,rfl,_,_,hlc,hcm,hel,hE,hS,_⟩
 ·exact ⟨σ,h,.slice none 0 0,_,[],[],rfl,.refl hH hok,.sliceN 0 0,.nil _ _,.nil,by simp,_,_,_,rfl,Nat.le_refl _,by decide⟩
 have hmax:len<=9223372036854775807:=by unfold maxLen at hcm;omega
 by_cases hcap:cap=0
 ·subst hcap
  obtain rfl:len=0:=by omega
  exact ⟨σ,h,.slice (some ⟨0,0,some 0⟩) 0 0,_,[],[],rfl,.refl hH hok,.sliceS a,.nil _ _,.nil,by simp,_,_,_,rfl,Nat.le_refl _,by decide⟩
 have first:∃ cs0,w.cells? base (a.add (0*z)) z=some cs0:=by
  by_cases hl:len=0
  ·obtain ⟨s1,s2⟩:=hS rfl
   have:=s2 0 (by omega)
   rw [hl,Nat.add_zero,hcz,List.getElem?_eq_getElem (by omega)] at this
   obtain ⟨c0,q,_⟩:=Option.bind_eq_some_iff.1 this
   exact ⟨c0,q⟩
  ·have:=hE 0 (by omega)
   rw [hcz,List.getElem?_eq_getElem (by omega)] at this
   obtain ⟨c0,q,_⟩:=Option.bind_eq_some_iff.1 this
   exact ⟨c0,q⟩
 obtain ⟨cs0,hcs0⟩:=first
 obtain ⟨C,el,frz,hC,_,hsp,_⟩:=row_at hz hcs0
 have hsp:=hsp rfl
 obtain ⟨ablk,aoff,asp⟩:=a
 simp only at hsp hC
 subst hsp
 obtain ⟨σ1,h1,els,aas,m1,e1,l1,g1⟩:=build_els (a:=⟨ablk,aoff,none⟩) hR hz hcz hC (step m hm) len 0 σ h hok hH (fun k hk=>by
  have:=hE k hk
  rw [hcz,List.getElem?_eq_getElem (by omega)] at this
  rw [Nat.zero_add]
  exact ⟨_,this⟩)
 have hlen:∀ u∈els,u.length=z:=fun u hu=>by
  obtain ⟨k,hk⟩:=List.getElem?_of_mem hu
  exact (g1 k u hk).1
 have hfl:=flat_len els hlen
 have m2:=HR.addRO m1.hr m1.ok (vs:=els.flatten) (l:=⟨ablk,aoff,0,0⟩) hC (by
  by_cases h0:els.flatten.length=0
  ·rw [h0]
   simp only [Nat.add_zero]
   obtain ⟨C',_,_,hb',hl',_,hg'⟩:=row_at hz hcs0
   simp only at hb'
   rw [hC] at hb'
   cases hb'
   have:=hg' 0 hz
   simp only [Nat.zero_mul,Nat.add_zero] at this
   have h2:aoff<C.size:=by
    rcases Nat.lt_or_ge aoff C.size with h|h
    ·exact h
    ·rw [Array.getElem?_eq_none h,List.getElem?_eq_getElem (by omega)] at this;cases this
   omega
  ·have hlt:els.flatten.length-1<els.flatten.length:=by omega
   obtain ⟨k,u,j,a1,a2,a3⟩:=flat_at els hlen _ _ (List.getElem?_eq_getElem hlt)
   obtain ⟨v',q1,_⟩:=(g1 k u a1).2 j _ a2
   have:=(Array.getElem?_eq_some_iff.1 q1).1
   simp only [Nat.zero_add] at this
   simp only
   omega) (fun i v hi=>by
  obtain ⟨k,u,j,a1,a2,a3⟩:=flat_at els hlen _ _ hi
  obtain ⟨v',q1,q2⟩:=(g1 k u a1).2 j _ a2
  refine ⟨v',?_,q2⟩
  simp only [Nat.zero_add] at q1
  simp only
  rw [a3,← Nat.add_assoc];exact q1)
 refine ⟨_,_,.slice (some ⟨h1.next,0,none⟩) els.length cap,.slice (some ⟨ablk,aoff,none⟩) len cap,els,aas,rfl,m1.trans m2,?_,?_,e1.mono fun u a r=>hR _ _ _ _ m2.ext r,by omega,_,_,_,rfl,by omega,by unfold maxLen at hcm;unfold UNK;omega⟩
 ·have:=VR.slice (σ:=σ1.ext h1.next ⟨ablk,aoff,0,0⟩) (b:=h1.next) (l:=⟨ablk,aoff,0,0⟩) 0 len cap (Sg.ext_self ..) (by unfold maxLen at hcm;unfold UNK;omega)
  rw [l1]
  exact this
 ·refine .row (vs:=els.flatten) (ty:=el) (es:=0) (ro:=true) (by rw [AH.get_new,if_pos rfl]) (by simp) (by rw [hfl];omega) fun i u hu=>⟨(g1 i u hu).1,by rw [Nat.zero_add];exact flat_get els hlen i u hu⟩
theorem build_slice {α:Type} {R:AH->List Value->α->Prop} (hR:∀ h k es a,Ext h k->R h es a->R k es a) {t e:TypeId} {z n:Nat} (ht:P.underlying t=some (.slice e)) (hz:0<z) (hcz:P.cellsOf e=z)
  (step:∀ m,n=m+1->Step enc P w base held R m e) :
  ∀ (cs:List Value) (x:DataW H×List MemPlace) (σ:Sg) (h:AH),h.ok->HR w.heap.size σ h w->DataW.trod enc P w base (fun _=>true) held n t cs=some x->
   ∃ σ' h' v v' els aas,cs=[v']/\More w σ h σ' h'/\VR σ' v v'/\Arr h' z v els/\Els (R h') els aas/\els.length<=9223372036854775807:=by
 intro cs x σ h hok hH htr
 obtain ⟨σ',h',v,v',els,aas,a,b,c,d,e,f,_⟩:=build_sliceC hR ht hz hcz step cs x σ h hok hH htr
 exact ⟨σ',h',v,v',els,aas,a,b,c,d,e,f⟩
end
end Go.Proofs
namespace Go.Proofs
open Go Go.AM
set_option maxRecDepth 100000
set_option maxHeartbeats 2000000
abbrev Ed:=Int×Int×Int
def etc (S:List Ed):List Value:=(S.map edCells).flatten
theorem eds_all (S:List Ed):∀ u∈S.map edCells,u.length=3:=by
 intro u hu
 obtain ⟨e,_,rfl⟩:=List.mem_map.1 hu
 rfl
theorem etc_len (S:List Ed):(etc S).length=S.length*3:=by
 have:=flat_len (S.map edCells) (eds_all S)
 rw [List.length_map] at this;exact this
def CellE (h:AH) (c:Value) (S:List Ed):Prop:=(c=.slice none 0 0/\S=[])\/∃ b,c=.slice (some ⟨b,0,none⟩) S.length (UNK+3)/\h.get b=some (.row (etc S) 52 3 false)/\b<h.next
structure LoL (loc:Nat) (h:AH) (bs:Nat) (cells:List Value) (EE:List (List Ed)):Prop where
 s:h.get bs=some (.row cells 23 0 false)
 len:cells.length=EE.length
 lts:bs<h.next
 locs:loc<=bs
 cell:∀ (i:Nat) (c:Value) (S:List Ed),cells[i]?=some c->EE[i]?=some S->CellE h c S
 blk:∀ (i:Nat) (c:Value) (b:Nat),cells[i]?=some c->blkOf c b->b≠bs/\loc<=b
 dis:∀ (i j:Nat) (c d:Value) (b:Nat),cells[i]?=some c->cells[j]?=some d->blkOf c b->blkOf d b->i=j
theorem CellE.lt {h:AH} {c:Value} {S:List Ed} (k:CellE h c S) {b:Nat} (hb:blkOf c b):b<h.next:=by
 obtain ⟨n,cap,rfl⟩:=hb
 rcases k with ⟨e,_⟩|⟨b',e,_,hlt⟩
 ·cases e
 ·simp only [Value.slice.injEq,Option.some.injEq,Addr.mk.injEq] at e
  rw [e.1.1];exact hlt
theorem CellE.fx {P:Nat->Prop} {h h':AH} {c:Value} {S:List Ed} (k:CellE h c S) (f:Fx P h h') (hn:∀ b,blkOf c b->¬ P b):CellE h' c S:=by
 rcases k with e|⟨b,e,hg,hlt⟩
 ·exact .inl e
 ·exact .inr ⟨b,e,(f.get b hlt (hn b ⟨_,_,e⟩)).trans hg,Nat.lt_of_lt_of_le hlt f.next⟩
theorem CellE.leaf {h:AH} {c:Value} {S:List Ed} (k:CellE h c S):isLeaf c=true/\cellsOfV c=[c]/\veq 100 c c=true:=by
 rcases k with ⟨rfl,_⟩|⟨b,rfl,_⟩ <;> exact ⟨rfl,rfl,veq_slice _ _ _ _⟩
theorem CellE.arr {h:AH} {c:Value} {S:List Ed} (k:CellE h c S):Arr h 3 c (S.map edCells):=by
 rcases k with ⟨rfl,rfl⟩|⟨b,rfl,hg,hlt⟩
 ·exact .nil _ _
 ·have:=Arr.row (z:=3) (c:=UNK+3) (o:=0) (els:=S.map edCells) hg hlt (by rw [etc_len,List.length_map];omega) (fun i e he=>⟨eds_all S e (List.mem_of_getElem? he),by rw [Nat.zero_add];exact flat_get _ (eds_all S) i e he⟩)
  rw [List.length_map] at this
  exact this
theorem LoL.fx {P:Nat->Prop} {loc bs:Nat} {h h':AH} {cells:List Value} {EE:List (List Ed)} (G:LoL loc h bs cells EE) (f:Fx P h h') (h2:¬ P bs) (h3:∀ (i:Nat) (c:Value) (b:Nat),cells[i]?=some c->blkOf c b->¬ P b):LoL loc h' bs cells EE:=
 ⟨(f.get bs G.lts h2).trans G.s,G.len,Nat.lt_of_lt_of_le G.lts f.next,G.locs,fun i c S hc hS=>(G.cell i c S hc hS).fx f (fun b hb=>h3 i c b hc hb),G.blk,G.dis⟩
theorem LoL.same {loc bs:Nat} {h:AH} {cells:List Value} {EE:List (List Ed)} (G:LoL loc h bs cells EE) (w:Nat):LoL loc ⟨h.t,h.next,w⟩ bs cells EE:=
 ⟨G.s,G.len,G.lts,G.locs,fun i c S hc hS=>G.cell i c S hc hS,G.blk,G.dis⟩
theorem elt23:Elt 23 52 3:=elt_of elt_23 und_23 ta_52 (by kernel_rfl)
theorem mk49 {n:Nat} (hn:n<=1000000) {h:AH}:wMakeSlice E 49 (some (.int .i64 (n:Int))) (some (.int .i64 (n:Int))) h=one (.slice (some ⟨h.next,0,none⟩) n n,h.new (.row (List.replicate n (.slice none 0 0)) 23 0 false)):=
 mkSlice (by obtain ⟨i,a⟩:=ti_of ta_23 z_23 (by kernel_rfl);exact ⟨i,elt_49,a⟩) rfl hn
theorem bs23 {a b c:Value} {h:AH}:wBuildSlice E 23 1 (some [(0,.agg #[a,b,c])]) h=one (.slice (some ⟨h.next,0,none⟩) 1 1,h.new (.row [a,b,c] 52 0 false)):=by kernel_rfl
theorem append_ed {h:AH} (hok:h.ok) {c:Value} {S:List Ed} (hc:CellE h c S) (hS:S.length+1<=1000000) (e:Ed) :
  ∃ h3,wBuiltinO E .append [23,23] (some [c,.slice (some ⟨h.next,0,none⟩) 1 1]) (h.new (.row (edCells e) 52 0 false))=one (.slice (some ⟨h.next+1,0,none⟩) (S.length+1) (UNK+3),h3) ∧
   h3.get (h.next+1)=some (.row (etc (S++[e])) 52 3 false)/\h3.next=h.next+2/\Fx (fun x=>blkOf c x) h h3:=by
 have hrow:=get_new_self h (.row (edCells e) 52 0 false)
 have hst:etc (S++[e])=etc S++edCells e:=by simp [etc]
 rcases hc with ⟨rfl,rfl⟩|⟨bl,rfl,hg,hlt⟩
 ·refine ⟨_,append_nil elt23 hrow rfl,?_,rfl,((Fx.refl hok).new _).new _⟩
  rw [hst]
  exact get_new_self (h.new _) _
 ·have hg':(h.new (.row (edCells e) 52 0 false)).get bl=some (.row (etc S) 52 3 false):=by rw [get_new_ne (by omega)];exact hg
  refine ⟨_,append_unk elt23 (by omega) hg' (etc_len S) hS hrow rfl (by simp [edCells,isLeaf]),?_,rfl,?_⟩
  ·rw [hst]
   exact get_new_self ((h.new _).upd bl none) _
  ·have f1:Fx (fun x=>blkOf (.slice (some ⟨bl,0,none⟩) S.length (UNK+3)) x) h (h.new (.row (edCells e) 52 0 false)):=(Fx.refl hok).new _
   exact (f1.upd (.inl ⟨_,_,rfl⟩) none).new _
def outGo:List (List Ed)->List Ed->List (List Ed)
 | EE,[]=>EE
 | EE,e::l=>outGo (EE.set e.1.toNat ((EE[e.1.toNat]?.getD [])++[e])) l
def outOf (L:GL):List (List Ed):=outGo (List.replicate L.n.toNat []) L.eds
theorem call24 {k:AH} {x:Value} {L:GL} (hok:k.ok) (hx:RL k x L) (hL:badLts L=false) {N:Nat} (hN:L.n=(N:Int)) :
  Ev true ((recI E).call 24 [x] k) fun y=>∃ bs cells,y.1=.slice (some ⟨bs,0,none⟩) N N/\LoL k.next y.2 bs cells (outOf L)/\cells.length=N/\(∀ S∈outOf L,S.length<=100000)/\Fx NoB k y.2:=by
 obtain ⟨z1,z2,z3,z4⟩:=bad_sizes hL
 obtain ⟨vl,ve,els,rfl,x2,x3,x4⟩:=hx.ex
 obtain ⟨sb,sd,hve⟩:=x4.slice
 rw [List.length_map] at hve
 refine F24_some (Rp:=fun v m=>∃ bs cells,v=.slice (some ⟨bs,0,none⟩) N N/\LoL k.next m bs cells (outOf L)/\cells.length=N/\(∀ S∈outOf L,S.length<=100000)/\Fx NoB k m) (P24_0_of ?_)
 obtain ⟨k1,e1,n1,t1,o1,f1⟩:=nwF k (.row [.int .i64 L.n,vl,ve] 25 0 false)
 simp only [new_row,ev_one,cells_agg,evO_some,e1,next_fresh]
 have l0:=load_leaf (P:=E) ta_3 (o:=0) t1
 simp only [lnth] at l0
 refine P24_1_of ?_
 obtain ⟨k2,e2,n2,t2,o2,f2⟩:=nw o1 (.row (List.replicate N (.slice none 0 0)) 23 0 false)
 simp only [fa_25_0,Nat.add_zero,l0,evO_some,hN,mk49 (show N<=1000000 by omega),e2,ev_one]
 refine P24_2_of ?_
 have hrep:∀ (i:Nat) (c:Value),(List.replicate N (Value.slice none 0 0))[i]?=some c->c=.slice none 0 0:=fun i c h=>by
  rw [List.getElem?_replicate] at h
  split at h
  ·exact (Option.some.inj h).symm
  ·cases h
 have hnb:∀ c,¬ blkOf (.slice none 0 0) c:=by rintro c ⟨n,cap,h⟩;cases h
 have G0:LoL k.next k2 k1.next (List.replicate N (.slice none 0 0)) (List.replicate N []):=
  ⟨t2,by simp,by omega,by omega,fun i c S hc hS=>.inl ⟨hrep i c hc,by rw [List.getElem?_replicate] at hS;split at hS <;> simp_all⟩,fun i c b hc hb=>absurd (by rw [hrep i c hc] at hb;exact hb) (hnb b),fun i j c d b hc hd hb _=>absurd (by rw [hrep i c hc] at hb;exact hb) (hnb b)⟩
 have loop:∀ (m j:Nat),j+m=L.eds.length->∀ kk cells EE,Own k kk->kk.get k.next=some (.row [.int .i64 L.n,vl,ve] 25 0 false)->k.next<k1.next->LoL k.next kk k1.next cells EE->(∀ (i:Nat) (c:Value) (b:Nat),cells[i]?=some c->blkOf c b->b≠k.next)->cells.length=N->(∀ S∈EE,S.length<=j)->outGo EE (L.eds.drop j)=outOf L->
   P24_3 true (KR E [.tmp 2] fun v m=>(isFlat v=false\/m.wm<k.next)/\(fun v m=>∃ bs cells,v=.slice (some ⟨bs,0,none⟩) N N/\LoL k.next m bs cells (outOf L)/\cells.length=N/\(∀ S∈outOf L,S.length<=100000)/\Fx NoB k m) v ⟨m.t,m.next,cond (Nat.ble k.wm m.wm) k.wm m.wm⟩) (.pointer (some ⟨k.next,0,none⟩)) (.slice (some ⟨k1.next,0,none⟩) N N) (.int .i64 (j:Int)) kk:=by
  intro m
  induction m with
  | zero=>
   intro j hj kk cells EE ho tb hb1 hG hnk hNc hlen hout
   have l2:=load_leaf (P:=E) ta_23 (o:=2) tb
   simp only [lnth] at l2
   rw [hve] at l2
   refine P24_3_of ?_
   simp only [fa_25_2,Nat.zero_add,l2,evO_some,len24_3_3,bf_lss,show decide ((j:Int)<(L.eds.length:Int))=false from decide_eq_false (by omega),brK_f]
   refine P24_7_of ?_
   simp only [evO_some,kR_1,ne_ret,true_and]
   have hO:EE=outOf L:=by rw [← hout,List.drop_eq_nil_of_le (show L.eds.length<=j by omega)];rfl
   subst hO
   refine ⟨.inl rfl,k1.next,cells,rfl,hG.same _,hNc,fun S hS=>by have:=hlen S hS;omega,?_⟩
   refine ⟨?_,ho.ext.next,fun c hc _=>ho.ext.get c hc,fun m h1 _ h3=>?_⟩
   ·show cond (Nat.ble k.wm kk.wm) k.wm kk.wm<=kk.next+UNK
    have:=ho.ext.ok
    unfold AH.ok at this
    cases hcc:Nat.ble k.wm kk.wm with
    | true=>rw [ble_true] at hcc;simp only [cond_true];omega
    | false=>exact this
   ·show m<=cond (Nat.ble k.wm kk.wm) k.wm kk.wm
    have:=ho.wm
    cases hcc:Nat.ble k.wm kk.wm with
    | true=>exact h1
    | false=>simp only [cond_false];omega
  | succ m ih=>
   intro j hj kk cells EE ho tb hb1 hG hnk hNc hlen hout
   have hjn:j<L.eds.length:=by omega
   have l2:=load_leaf (P:=E) ta_23 (o:=2) tb
   simp only [lnth] at l2
   refine P24_3_of ?_
   have l2':=l2
   rw [hve] at l2'
   simp only [fa_25_2,Nat.zero_add,l2',evO_some,len24_3_3,bf_lss,show decide ((j:Int)<(L.eds.length:Int))=true from decide_eq_true (by omega),brK_t]
   refine P24_4_of ?_
   have hate:L.eds[j]?=some L.eds[j]:=List.getElem?_eq_getElem hjn
   obtain ⟨⟨f1',f2'⟩,_,_⟩:=bad_edges hL hate
   rw [drop_at hate] at hout
   generalize hee:L.eds[j]=e at hout f1' f2'
   have hx':(L.eds.map edCells)[j]?=some (edCells e):=by rw [List.getElem?_map,hate,hee];rfl
   obtain ⟨p1,q1,w1⟩:=idx23 x4 ho.ext hx'
   obtain ⟨k3,e3,n3,t3,o3,f3⟩:=nwUp ho (.row [.int .i64 0,.int .i64 0,.int .i64 0] 52 0 false) (.row (edCells e) 52 0 false)
   simp only [fa_25_2,Nat.zero_add,l2,evO_some,q1,w1,z_52,new_row,ev_one,cells_agg,box52,e3]
   refine P24_5_of ?_
   have fb:Fx NoB kk k3:=⟨o3.ext.ok,by omega,fun c hc _=>f3 c hc,fun m h1 _ h3=>by
    rw [← e3]
    exact wm_upd_le (show m<=(kk.new _).wm from h1) h3⟩
   have hG1:=hG.fx fb (fun h=>h) (fun _ _ _ _ _ h=>h)
   have hkn:=ho.ext.next
   have hk1k:=hG.lts
   obtain ⟨fr,hfr0⟩:=Int.eq_ofNat_of_zero_le f1'
   have hfr:fr<cells.length:=by omega
   have hfr':fr<EE.length:=by rw [← hG.len];exact hfr
   have hcell:cells[fr]?=some cells[fr]:=List.getElem?_eq_getElem hfr
   have hSS:EE[fr]?=some EE[fr]:=List.getElem?_eq_getElem hfr'
   have c0:=load_leaf (P:=E) ta_3 (o:=0) t3
   have ag:=load_agg (P:=E) ta_52 (o:=0) t3 (by simp [edCells])
   rw [show ((edCells e).drop 0).take 3=edCells e from rfl] at ag
   simp only [lnth,edCells] at c0
   rw [hfr0] at c0
   have ls:=load_leaf (P:=E) ta_23 (o:=0+fr*1) hG1.s
   rw [lnth_eq,show 0+fr*1=fr by omega,hcell] at ls
   have ia1:=ia_49 (b:=k1.next) (o:=0) (c:=N) (len:=N) (k:=fr) (by omega)
   rw [show 0+fr*1=fr by omega] at ia1
   have hC:=hG1.cell fr _ _ hcell hSS
   obtain ⟨clf,cc1,cveq⟩:=hC.leaf
   have hSl:=hlen _ (List.getElem_mem hfr')
   obtain ⟨h3,r1,r2,r3,r4⟩:=append_ed o3.ext.ok hC (by omega) e
   have f2x:Fx NoB k3 (k3.new (.row (edCells e) 52 0 false)):=(Fx.refl o3.ext.ok).new _
   have hG2:=hG1.fx f2x (fun h=>h) (fun _ _ _ _ _ h=>h)
   have tb2:(k3.new (.row (edCells e) 52 0 false)).get kk.next=_:=(get_new_ne (by omega)).trans t3
   have d0:rLoad E 3 (k3.new (.row (edCells e) 52 0 false)) (some (.pointer (some ⟨kk.next,0,none⟩)))=some (.int .i64 (fr:Int)):=by
    rw [load_leaf (P:=E) ta_3 (o:=0) tb2]
    simp only [lnth,edCells,hfr0]
   have ls2:=load_leaf (P:=E) ta_23 (o:=0+fr*1) hG2.s
   rw [lnth_eq,show 0+fr*1=fr by omega,hcell] at ls2
   have hcl:∀ x,blkOf cells[fr] x->x≠k1.next/\k.next<=x:=fun x hx=>hG1.blk fr _ x hcell hx
   have tb3:h3.get kk.next=some (.row (edCells e) 52 0 false):=(r4.get kk.next (by omega) (fun hx=>by have:=(hG.cell fr _ _ hcell hSS).lt hx;omega)).trans t3
   have e0:=load_leaf (P:=E) ta_3 (o:=0) tb3
   simp only [lnth,edCells] at e0
   rw [hfr0] at e0
   have hs3:h3.get k1.next=_:=(r4.get k1.next hG1.lts (fun hx=>(hcl _ hx).1 rfl)).trans hG1.s
   have hsto:=store_of (P:=E) ts_23 (o:=fr) hs3 (cells_slice (some ⟨k3.next+1,0,none⟩) (EE[fr].length+1) (UNK+3)) rfl (by omega) rfl
   rw [lput_set _ _ _ hfr] at hsto
   have bs:wBuildSlice E 23 1 (some [(0,.agg ⟨edCells e⟩)]) k3=one (.slice (some ⟨k3.next,0,none⟩) 1 1,k3.new (.row (edCells e) 52 0 false)):=bs23
   simp only [evO_some,fa_52_0,Nat.add_zero,c0,ia1,ls,ag,bs,ev_one,ls2,d0,cveq,veq_int,true_and,r1,e0,hsto]
   refine P24_6_of ?_
   simp only [evO_some,bf_add _ (add1 hjn (by omega))]
   have f5:Fx (fun c=>c=k1.next\/blkOf cells[fr] c) k3 (h3.upd k1.next (some (.row (cells.set fr (.slice (some ⟨k3.next+1,0,none⟩) (EE[fr].length+1) (UNK+3))) 23 0 false))):=
    (r4.mono (P':=fun c=>c=k1.next\/blkOf cells[fr] c) (fun c hc=>.inl (.inr hc))).upd (.inl (.inl rfl)) _
   have o5:=f5.own o3 (fun c hc=>hc.elim (fun h=>by rw [h];exact hG.locs) fun h=>(hcl c h).2)
   have hset:∀ (i:Nat) (c:Value),(cells.set fr (.slice (some ⟨k3.next+1,0,none⟩) (EE[fr].length+1) (UNK+3)))[i]?=some c->(i=fr/\c=.slice (some ⟨k3.next+1,0,none⟩) (EE[fr].length+1) (UNK+3))\/(i≠fr/\cells[i]?=some c):=by
    intro i c hc
    by_cases hi:i=fr
    ·subst hi
     rw [List.getElem?_set_self hfr] at hc
     exact .inl ⟨rfl,(Option.some.inj hc).symm⟩
    ·rw [List.getElem?_set_ne (fun h=>hi h.symm)] at hc
     exact .inr ⟨hi,hc⟩
   have hnew:∀ b,blkOf (.slice (some ⟨k3.next+1,0,none⟩) (EE[fr].length+1) (UNK+3)) b->b=k3.next+1:=by
    rintro b ⟨n,cap,h⟩
    simp only [Value.slice.injEq,Option.some.injEq,Addr.mk.injEq] at h
    exact h.1.1.symm
   have hltb:∀ (i:Nat) (c:Value) (b:Nat),cells[i]?=some c->blkOf c b->b<k3.next:=fun i c b hc hb=>by
    have hi:i<EE.length:=by rw [← hG.len];exact (List.getElem?_eq_some_iff.1 hc).1
    exact (hG1.cell i c _ hc (List.getElem?_eq_getElem hi)).lt hb
   refine ih (j+1) (by omega) _ (cells.set fr (.slice (some ⟨k3.next+1,0,none⟩) (EE[fr].length+1) (UNK+3))) (EE.set fr (EE[fr]++[e])) o5 ?_ hb1 ?_ ?_ (by simp [hNc]) ?_ ?_
   ·rw [get_upd_ne (by omega)]
    refine (r4.get k.next (by omega) (fun hx=>hnk fr _ _ hcell hx rfl)).trans ((f3 k.next (by omega)).trans tb)
   ·refine ⟨get_upd_self _ _ _,by simp [hG.len],?_,hG.locs,?_,?_,?_⟩
    ·show k1.next<h3.next;have:=hG1.lts;omega
    ·intro i c S hc hS
     rcases hset i c hc with ⟨rfl,rfl⟩|⟨hi,hc'⟩
     ·rw [List.getElem?_set_self hfr'] at hS
      cases hS
      refine .inr ⟨k3.next+1,by simp,?_,by show _<h3.next;omega⟩
      rw [get_upd_ne (by have:=hG1.lts;omega)];exact r2
     ·rw [List.getElem?_set_ne (fun h=>hi h.symm)] at hS
      refine (hG1.cell i c S hc' hS).fx f5 (fun b hb=>?_)
      rintro (rfl|hb2)
      ·exact (hG1.blk i c _ hc' hb).1 rfl
      ·exact hi (hG1.dis i fr _ _ b hc' hcell hb hb2)
    ·intro i c b hc hb
     rcases hset i c hc with ⟨rfl,rfl⟩|⟨hi,hc'⟩
     ·rw [hnew b hb];have:=hG1.lts;exact ⟨by omega,by omega⟩
     ·exact hG1.blk i c b hc' hb
    ·intro i j' c d b hc hd hb hb2
     rcases hset i c hc with ⟨hi,hc'⟩|⟨hi,hc'⟩ <;> rcases hset j' d hd with ⟨hj',hd'⟩|⟨hj',hd'⟩
     ·rw [hi,hj']
     ·subst hc'
      have:=hltb j' d b hd' hb2
      rw [hnew b hb] at this;omega
     ·subst hd'
      have:=hltb i c b hc' hb
      rw [hnew b hb2] at this;omega
     ·exact hG1.dis i j' c d b hc' hd' hb hb2
   ·intro i c b hc hb
    rcases hset i c hc with ⟨rfl,rfl⟩|⟨hi,hc'⟩
    ·rw [hnew b hb];omega
    ·exact hnk i c b hc' hb
   ·intro S hS
    rcases List.mem_or_eq_of_mem_set hS with h|h
    ·have:=hlen S h;omega
    ·rw [h];simp;exact hSl
   ·rw [← hout]
    simp only [outGo,hfr0]
    rw [show ((fr:Int)).toNat=fr from rfl,hSS]
    rfl
 refine loop L.eds.length 0 (by omega) k2 _ _ o2 ((f2 k.next (by omega)).trans t1) (by omega) G0 (fun i c b hc hb=>absurd (by rw [hrep i c hc] at hb;exact hb) (hnb b)) (by simp) (fun S hS=>by rw [List.eq_of_mem_replicate hS];simp) ?_
 rw [List.drop_zero]
 show _=outGo (List.replicate L.n.toNat []) L.eds
 rw [hN];rfl
abbrev i1 (n:Int):List Value:=[.int .i64 n]
theorem idx47 {h k:AH} {v:Value} {l:List Int} (ha:Arr h 1 v (l.map i1)) (e:Ext h k) {i:Nat} {n:Int} (hi:l[i]?=some n) :
  ∃ p,pIndexAddr E 47 (some v) (some (.int .i64 (i:Int)))=some p/\rLoad E 3 k (some p)=some (.int .i64 n):=by
 have hx:(l.map i1)[i]?=some (i1 n):=by rw [List.getElem?_map,hi];rfl
 obtain ⟨b,o,c,vs,ty,es,ro,rfl,hb,hlt,hle,hz,hl⟩:=ha.load hx
 have hil:i<(l.map i1).length:=(List.getElem?_eq_some_iff.1 hx).1
 refine ⟨_,ia_47 hil,?_⟩
 rw [load_leaf (P:=E) ta_3 ((e.get b hlt).trans hb),lnth_eq]
 have:((vs.drop (o+i*1)).take 1)[0]?=some (.int .i64 n):=by rw [hz];rfl
 rw [List.getElem?_take_of_lt (by omega),List.getElem?_drop] at this
 simpa using this
theorem LS.arr {lo:Nat} {k:AH} {v:Value} {L:List Int} (h:LS lo k v L):Arr k 1 v (L.map i1):=by
 obtain ⟨b,c,rfl,h1,h2,h3⟩:=h
 have key:∀ es,k.get b=some (.row (ints L) 3 es false)->Arr k 1 (.slice (some ⟨b,0,none⟩) L.length c) (L.map i1):=by
  intro es hb
  have:=Arr.row (z:=1) (c:=c) (o:=0) (els:=L.map i1) hb h2 (by simp [ints]) (fun i e he=>by
   rw [List.getElem?_map] at he
   obtain ⟨n,hn,rfl⟩:=Option.map_eq_some_iff.1 he
   refine ⟨rfl,?_⟩
   have hil:i<L.length:=(List.getElem?_eq_some_iff.1 hn).1
   rw [show 0+i*1=i by omega,List.drop_eq_getElem_cons (by simpa [ints] using hil)]
   simp [ints,(List.getElem?_eq_some_iff.1 hn).2])
  rw [List.length_map] at this
  exact this
 rcases h3 with ⟨_,_,hb⟩|⟨_,hb⟩
 ·exact key _ hb
 ·exact key _ hb
theorem idx_in {α:Type} [DecidableEq α] (l:List α) (x:α):decide (0<=idxFrom (fun i=>decide (l[i]?=some x)) l.length 0)=decide (x∈l):=by
 by_cases h:x∈l
 ·rw [decide_eq_true h,decide_eq_true]
  rcases Int.lt_or_le (idxFrom (fun i=>decide (l[i]?=some x)) l.length 0) 0 with h'|h'
  ·have:=(idxFrom_neg l.length 0).2 h'
   obtain ⟨i,hi⟩:=List.getElem?_of_mem h
   have h2:=this i (Nat.zero_le _) (by have:=(List.getElem?_eq_some_iff.1 hi).1;omega)
   simp [hi] at h2
  ·exact h'
 ·rw [decide_eq_false h,decide_eq_false]
  have:idxFrom (fun i=>decide (l[i]?=some x)) l.length 0<0:=(idxFrom_neg l.length 0).1 fun j _ _=>by
   refine decide_eq_false fun hj=>h (List.mem_of_getElem? hj)
  omega
theorem call87 {h0 k:AH} {v:Value} {l:List Int} {x:Int} (ha:Arr h0 1 v (l.map i1)) (hn:l.length<=9223372036854775807) (hk:Ext h0 k) :
  (recI E).call 87 [v,.int .i64 x] k=some [(.int .i64 (idxFrom (fun i=>decide (l[i]?=some x)) l.length 0),k)]:=by
 obtain ⟨ad,c,hv⟩:=ha.slice
 rw [List.length_map] at hv
 refine F87_flat (s:=true) hk.ok rfl (P87_0_of ?_)
 refine P87_1_of ?_
 have loop:∀ (m i:Nat),i+m=l.length->P87_2 true (KR E [.tmp 2] (fun y l'=>y=.int .i64 (idxFrom (fun i=>decide (l[i]?=some x)) m i)/\k.next<=l'.wm)) v (.int .i64 x) (.int .i64 (l.length:Int)) (.int .i64 (i:Int)) k.fresh:=by
  intro m
  induction m with
  | zero=>
   intro i hi
   refine P87_2_of ?_
   simp only [bf_lss,evO_some,brK_d]
   refine ⟨fun h=>by omega,fun _=>P87_7_of ?_⟩
   simp [evO_some,kR_1,ne_ret,idxFrom]
  | succ m ih=>
   intro i hi
   have hin:i<l.length:=by omega
   refine P87_2_of ?_
   simp only [bf_lss,evO_some,brK_d]
   refine ⟨fun _=>P87_3_of ?_,fun h=>by omega⟩
   refine P87_4_of ?_
   obtain ⟨p,q1,q2⟩:=idx47 ha hk.fresh (List.getElem?_eq_getElem hin)
   simp only [evO_some,q1,q2,bf_eql,brK_d]
   refine ⟨fun h=>P87_5_of ?_,fun h=>P87_6_of ?_⟩
   ·simp only [evO_some,kR_1,ne_ret,true_and,idxFrom,List.getElem?_eq_getElem hin,← h,decide_true,if_true]
    rw [wm_fresh];omega
   ·simp only [evO_some,bf_add _ (add1 hin hn)]
    have:=ih (i+1) (by omega)
    have hne:decide (l[i]?=some x)=false:=decide_eq_false (by rw [List.getElem?_eq_getElem hin];intro e;exact h (Option.some.inj e).symm)
    simp only [idxFrom,hne,Bool.false_eq_true,if_false]
    exact this
 rw [hv]
 simp only [evO_some,len87_1_1]
 rw [← hv]
 exact loop l.length 0 (by omega)
theorem call27 {h0 k:AH} {v:Value} {l:List Int} {x:Int} (ha:Arr h0 1 v (l.map i1)) (hn:l.length<=9223372036854775807) (hk:Ext h0 k) :
  (recI E).call 27 [v,.int .i64 x] k=some [(.bool (decide (x∈l)),k)]:=by
 refine F27_flat (s:=true) hk.ok rfl (P27_0_of ?_)
 refine P27_1_of ?_
 simp only [evO_some,wCall_0,call87 ha hn hk.fresh,ev_some,bf_geq,idx_in,kR_1,ne_ret,true_and]
 rw [wm_fresh];omega
theorem idx83 {h k:AH} {v:Value} {els:List (List Value)} (ha:Arr h 2 v els) (e:Ext h k) {i:Nat} {x:List Value} (hi:els[i]?=some x) :
  ∃ p,pIndexAddr E 83 (some v) (some (.int .i64 (i:Int)))=some p/\rLoad E 32 k (some p)=some (.agg ⟨x⟩):=idx_agg und_83 ts_32 ta_32 ha e hi
theorem call126 {h0:AH} {v f:Value} {els:List (List Value)} {p:Nat->Bool} (ha:Arr h0 2 v els) (hn:els.length<=9223372036854775807)
  (hf:∀ k,Ext h0 k->∀ i e,els[i]?=some e->wCallV (recI E) (some f) (some [.agg ⟨e⟩]) k=some [(.bool (p i),k)]) {k:AH} (hk:Ext h0 k) :
  (recI E).call 126 [v,f] k=some [(.int .i64 (idxFrom p els.length 0),k)]:=by
 obtain ⟨ad,c,hv⟩:=ha.slice
 refine F126_flat (s:=true) hk.ok rfl (P126_0_of ?_)
 refine P126_1_of ?_
 have loop:∀ (m i:Nat),i+m=els.length->P126_2 true (KR E [.tmp 2] (fun x l=>x=.int .i64 (idxFrom p m i)/\k.next<=l.wm)) v f (.int .i64 (els.length:Int)) (.int .i64 (i:Int)) k.fresh:=by
  intro m
  induction m with
  | zero=>
   intro i hi
   refine P126_2_of ?_
   simp only [bf_lss,evO_some,brK_d]
   refine ⟨fun h=>by omega,fun _=>P126_7_of ?_⟩
   simp [evO_some,kR_1,ne_ret,idxFrom]
  | succ m ih=>
   intro i hi
   have hin:i<els.length:=by omega
   refine P126_2_of ?_
   simp only [bf_lss,evO_some,brK_d]
   refine ⟨fun _=>P126_3_of ?_,fun h=>by omega⟩
   refine P126_4_of ?_
   obtain ⟨q,q1,q2⟩:=idx83 ha hk.fresh (List.getElem?_eq_getElem hin)
   simp only [evO_some,q1,q2,hf _ hk.fresh i _ (List.getElem?_eq_getElem hin),ev_some,brK_bool]
   refine ⟨fun h=>P126_5_of ?_,fun h=>P126_6_of ?_⟩
   ·simp only [evO_some,kR_1,ne_ret,true_and,idxFrom,h,if_true];rw [wm_fresh];omega
   ·simp only [evO_some,bf_add _ (add1 hin hn),idxFrom,h,Bool.false_eq_true,if_false]
    exact ih (i+1) (by omega)
 rw [hv]
 simp only [evO_some,len126_1_1]
 rw [← hv]
 exact loop els.length 0 (by omega)
theorem call75 {h0 k:AH} {e:List Value} {B:GB} (hr:RB h0 e B) (hk:Ext h0 k):(recI E).call 75 [.agg ⟨e⟩] k=some [(.bool (decide ((4000:Int)<(B.prs.length:Int))),k)]:=by
 obtain ⟨vp,rfl,e2⟩:=hr.ex
 obtain ⟨ad,c,hv⟩:=e2.slice
 rw [List.length_map] at hv
 refine F75_flat (s:=true) hk.ok rfl (P75_0_of ?_)
 obtain ⟨k1,e1,n1,t1,o1,f1⟩:=nwF k (.row [.int .i64 B.kind,vp] 32 0 false)
 simp only [new_row,ev_one,cells_agg,evO_some,e1,next_fresh]
 have l1:=load_leaf (P:=E) ta_26 (o:=1) t1
 simp only [lnth] at l1
 rw [hv] at l1
 refine P75_1_of ?_
 simp only [fa_32_1,Nat.zero_add,l1,evO_some,len75_1_2,bf_gtr,kR_1,ne_ret,true_and]
 exact o1.wm
def longAt (Bs:List GB) (i:Nat):Bool:=match Bs[i]? with
 | some B=>decide ((4000:Int)<(B.prs.length:Int))
 | none=>false
theorem call19 {h0 k:AH} {v:Value} {els:List (List Value)} {Bs:List GB} (ha:Arr h0 2 v els) (hn:els.length=Bs.length) (hle:els.length<=9223372036854775807) (hr:∀ (i:Nat) (e:List Value) (B:GB),els[i]?=some e->Bs[i]?=some B->RB h0 e B) (hk:Ext h0 k) :
  (recI E).call 19 [v] k=some [(.bool (!decide (0<=idxFrom (longAt Bs) els.length 0)),k)]:=by
 refine F19_flat (s:=true) hk.ok rfl (P19_0_of ?_)
 refine P19_1_of ?_
 have h126:∀ k',Ext h0 k'->(recI E).call 126 [v,.func (.func 75) #[] #[]] k'=some [(.int .i64 (idxFrom (longAt Bs) els.length 0),k')]:=fun k' hk'=>call126 ha hle (fun k2 hk2 i e he=>by
  have hil:=(List.getElem?_eq_some_iff.1 he).1
  have hB:Bs[i]?=some Bs[i]:=List.getElem?_eq_getElem (by omega)
  rw [wCall_0,call75 (hr i e _ he hB) hk2]
  simp only [longAt,hB]) hk'
 have h74:(recI E).call 74 [v,.func (.func 75) #[] #[]] k.fresh=some [(.bool (decide (0<=idxFrom (longAt Bs) els.length 0)),k.fresh)]:=by
  refine F74_flat (s:=true) hk.fresh.ok rfl (P74_0_of ?_)
  refine P74_1_of ?_
  simp only [evO_some,wCall_0,h126 _ hk.fresh.fresh,ev_some,bf_geq,kR_1,ne_ret,true_and]
  rw [wm_fresh];omega
 simp only [evO_some,wCall_0,h74,ev_some,uf_not,kR_1,ne_ret,true_and]
 rw [wm_fresh];omega
end Go.Proofs
namespace Go.Proofs
open Go Go.AM Go.Sort
set_option maxRecDepth 100000
set_option maxHeartbeats 1000000
def dd (d:Dt):Nat->List (Int×Int)
 | 0=>[]
 | j+1=>if 0<j/\d[j]! = d[j-1]! then dd d j else dd d j++[d[j]!]
section
variable {b ty es:Nat} {k:AH} {d:Dt}
end
end Go.Proofs
namespace Go.Proofs
open Go Go.AM
set_option maxRecDepth 100000
set_option maxHeartbeats 1000000
theorem wCall_1 {f a:Nat} {args:List Value} {h:AH}:wCallV (recI E) (some (.func (.func f) #[] #[ptr a])) (some args) h=(recI E).call f (args++[ptr a]) h:=by
 rw [wCall_fn];rfl
end Go.Proofs
namespace Go.Proofs
open Go Go.AM
set_option maxRecDepth 100000
set_option maxHeartbeats 2000000
def IS (lo:Nat) (h:AH) (v:Value) (l:List Int):Prop:=(v=.slice none 0 0/\l=[])\/LS lo h v l
theorem IS.arr {lo:Nat} {h:AH} {v:Value} {l:List Int} (x:IS lo h v l):Arr h 1 v (l.map i1):=by
 rcases x with ⟨rfl,rfl⟩|x
 ·exact .nil _ _
 ·exact x.arr
theorem LS.blk {lo:Nat} {h:AH} {v:Value} {l:List Int} (x:LS lo h v l) {b:Nat} (hb:blkOf v b):lo<=b/\b<h.next:=by
 obtain ⟨c,cp,rfl,h1,h2,_⟩:=x
 obtain ⟨n,cap,e⟩:=hb
 simp only [Value.slice.injEq,Option.some.injEq,Addr.mk.injEq] at e
 rw [← e.1.1];exact ⟨h1,h2⟩
theorem IS.blk {lo:Nat} {h:AH} {v:Value} {l:List Int} (x:IS lo h v l) {b:Nat} (hb:blkOf v b):lo<=b/\b<h.next:=by
 rcases x with ⟨rfl,_⟩|x
 ·obtain ⟨n,cap,e⟩:=hb;cases e
 ·exact x.blk hb
theorem IS.mono {lo:Nat} {k k':AH} {v:Value} {L:List Int} (h:IS lo k v L) (hn:k.next<=k'.next) (hg:∀ b,b<k.next->blkOf v b->k'.get b=k.get b):IS lo k' v L:=by
 rcases h with h|h
 ·exact .inl h
 ·exact .inr (h.mono hn fun b _ h2 h3=>hg b h2 h3)
theorem IS.slice {lo:Nat} {h:AH} {v:Value} {l:List Int} (x:IS lo h v l):∃ a c,v=.slice a l.length c:=by
 rcases x with ⟨rfl,rfl⟩|⟨b,c,rfl,_⟩
 ·exact ⟨_,_,rfl⟩
 ·exact ⟨_,_,rfl⟩
theorem IS.app {lo:Nat} {h:AH} {v:Value} {l:List Int} (x:IS lo h v l) (hlo:lo<=h.next) (hl:l.length<=999998) (u:Int) :
  ∃ m,wBuiltinO E .append [47,47] (some [v,.slice (some ⟨h.next,0,none⟩) 1 1]) (h.new (.row [.int .i64 u] 3 0 false))=one (.slice (some ⟨h.next+1,0,none⟩) (l.length+1) (UNK+1),m) ∧
   LS lo m (.slice (some ⟨h.next+1,0,none⟩) (l.length+1) (UNK+1)) (l++[u])/\m.next=h.next+2/\(h.ok->Fx (fun c=>blkOf v c) h m):=by
 have hrow:=get_new_self h (.row [.int .i64 u] 3 0 false)
 rcases x with ⟨rfl,rfl⟩|x
 ·refine ⟨_,append_nil elt47 hrow rfl,⟨h.next+1,UNK+1,by simp,by omega,by show h.next+1<h.next+1+1;omega,.inr ⟨rfl,get_new_self (h.new _) _⟩⟩,rfl,fun hok=>((Fx.refl hok).new _).new _⟩
 ·obtain ⟨b0,c0,e0,hb0,hlt0,hc0⟩:=x.ex
  have xb:LS b0 h v l:=⟨b0,c0,e0,Nat.le_refl _,hlt0,hc0⟩
  have x1:LS b0 (h.new (.row [.int .i64 u] 3 0 false)) v l:=xb.mono (by simp) fun b _ hb _=>get_new_ne (by omega)
  obtain ⟨v',k1,a1,rfl,a3,a4,a5,a6,a7,a8⟩:=x1.app (by omega) hrow
  have e1:(h.new (.row [.int .i64 u] 3 0 false)).next=h.next+1:=rfl
  rw [e1] at a1 a3 a4 a5
  exact ⟨k1,a1,⟨h.next+1,UNK+1,by simp,by omega,by omega,.inr ⟨rfl,a4⟩⟩,by omega,fun hok=>⟨a6 (ok_new hok _),by omega,fun c hc hn=>(a5 c (by omega) hn).trans (get_new_ne (by omega)),fun m h1 h2 h3=>a8 m h1 (h2 b0 ⟨_,_,e0⟩)⟩⟩
end Go.Proofs
namespace Go.Proofs
open Go Go.AM
set_option maxRecDepth 100000
set_option maxHeartbeats 4000000
structure Hs (k g:AH) (h:AH) (v21 vn:Value) (lc ln:List Int):Prop where
 ow:Own k h
 ex:Ext g h
 kg:k.next<=g.next
 r16:h.get g.next=some (.row [vn] 47 0 false)
 lt:g.next<h.next
 ic:LS (g.next+1) h v21 lc
 ins:IS (g.next+1) h vn ln
 dis:∀ c,blkOf v21 c->¬ blkOf vn c
theorem Hs.calm {k g h:AH} {v21 vn:Value} {lc ln:List Int} (H:Hs k g h v21 vn lc ln) (hl:lc.length<=999998) (u:Int) :
  ∃ m,wBuiltinO E .append [47,47] (some [v21,.slice (some ⟨h.next,0,none⟩) 1 1]) (h.new (.row [.int .i64 u] 3 0 false))=one (.slice (some ⟨h.next+1,0,none⟩) (lc.length+1) (UNK+1),m) ∧
   Hs k g m (.slice (some ⟨h.next+1,0,none⟩) (lc.length+1) (UNK+1)) vn (lc++[u]) ln:=by
 have hgl:=H.lt
 have hk:=H.kg
 obtain ⟨m,a1,a2,a3,a4⟩:=IS.app (.inr H.ic) (by omega) hl u
 have a4:=a4 H.ow.ext.ok
 have hlo:∀ c,blkOf v21 c->g.next+1<=c:=fun c hc=>(H.ic.blk hc).1
 refine ⟨m,a1,a4.own H.ow (fun c hc=>by have:=hlo c hc;omega),⟨a4.ok,Nat.le_trans H.ex.next a4.next,fun b hb=>(a4.get b (Nat.lt_of_lt_of_le hb H.ex.next) fun hc=>by have:=hlo b hc;omega).trans (H.ex.get b hb)⟩,H.kg,
  (a4.get _ H.lt fun hc=>by have:=hlo _ hc;omega).trans H.r16,Nat.lt_of_lt_of_le H.lt a4.next,a2,H.ins.mono a4.next fun b hb hbk=>a4.get b hb fun hc=>H.dis b hc hbk,?_⟩
 rintro c ⟨n,cap,e⟩ h2
 simp only [Value.slice.injEq,Option.some.injEq,Addr.mk.injEq] at e
 have:=(H.ins.blk h2).2
 have:=e.1.1
 omega
def gateAt (M:GL) (y:Ed) (g:Int):Prop:=∃ l,M.labs[y.2.1.toNat]?=some (g,l)
structure DoneE (M:GL) (kind:Int) (prs:List (Int×Int)) (x:Ed) (cx:CL) (lc ln:List Int) (y:Ed):Prop where
 same:M.labs[y.2.1.toNat]?=some cx->(x.2.2,y.2.2)∈prs->ln≠[]
 calm:kind=2->gateAt M y (-1)->y.2.2∈lc
theorem idx22f {h k:AH} {v:Value} {els:List (List Value)} (ha:Arr h 2 v els) (e:Ext h k) {i:Nat} {g:Int} {r:List Value} (hi:els[i]?=some (.int .i64 g::r)) :
  ∃ p q,pIndexAddr E 22 (some v) (some (.int .i64 (i:Int)))=some p/\pFieldAddr E 36 0 (some p)=some q/\rLoad E 3 k (some q)=some (.int .i64 g):=by
 obtain ⟨b,o,c,vs,ty,es,ro,rfl,hb,hlt,hle,hz,hl⟩:=ha.load hi
 have hil:i<els.length:=(List.getElem?_eq_some_iff.1 hi).1
 refine ⟨_,_,indexSlice_of und_22 ts_36 hil,fa_36_0,?_⟩
 rw [load_leaf (P:=E) ta_3 ((e.get b hlt).trans hb),lnth_eq,Nat.add_zero]
 have:((vs.drop (o+i*2)).take 2)[0]?=some (.int .i64 g):=by rw [hz];rfl
 rw [List.getElem?_take_of_lt (by omega),List.getElem?_drop] at this
 simpa using this
section
variable {k g:AH} {lo a4 a5 a6 b15 bs2:Nat} {L M:GL} {kind:Int} {prs:List (Int×Int)} {x:Ed} {cells2:List Value} {vlL veL vlM veM vp:Value} {elsL elsM:List (List Value)}
end
structure DoneS (M:GL) (kind:Int) (prs:List (Int×Int)) (x:Ed) (cx:CL) (inner:Bool) (lc ln:List Int) (u:Int):Prop where
 stay:kind=2->inner=true->(x.2.2,u)∈prs->ln≠[]
 eds:∀ S,(outOf M)[u.toNat]?=some S->∀ y∈S,DoneE M kind prs x cx lc ln y
section
variable {k g:AH} {lo a4 a5 a6 b15 bs2:Nat} {L M:GL} {kind:Int} {prs:List (Int×Int)} {x:Ed} {cells2:List Value} {vlL veL vlM veM vp:Value} {elsL elsM:List (List Value)}
def Shown (M:GL) (kind:Int) (prs:List (Int×Int)) (x:Ed) (cx:CL) (inner:Bool) (t:Int):Prop:=
 ∀ lc ln,t∈lc->(∀ u∈lc,0<=u/\u<M.n)->(∀ u∈lc,DoneS M kind prs x cx inner lc ln u)->ln≠[]
end
theorem outGo_get:∀ (l:List Ed) (EE:List (List Ed)) (i:Nat) (S:List Ed),(outGo EE l)[i]?=some S->∃ S0,EE[i]?=some S0/\∀ y,y∈S ↔ y∈S0\/(y∈l/\y.1.toNat=i)
 | [],EE,i,S,h=>⟨S,h,fun y=>by simp⟩
 | e::l,EE,i,S,h=>by
  simp only [outGo] at h
  obtain ⟨S0,h0,hS⟩:=outGo_get l _ i S h
  by_cases hi:e.1.toNat=i
  ·subst hi
   rw [List.getElem?_set] at h0
   simp only [if_true] at h0
   split at h0
   ·rename_i hlt
    cases h0
    refine ⟨EE[e.1.toNat],List.getElem?_eq_getElem hlt,fun y=>?_⟩
    rw [hS y,List.getElem?_eq_getElem hlt]
    simp only [Option.getD_some,List.mem_append,List.mem_cons,List.not_mem_nil,or_false]
    constructor
    ·rintro ((h|rfl)|⟨h1,h2⟩)
     ·exact .inl h
     ·exact .inr ⟨.inl rfl,rfl⟩
     ·exact .inr ⟨.inr h1,h2⟩
    ·rintro (h|⟨rfl|h1,h2⟩)
     ·exact .inl (.inl h)
     ·exact .inl (.inr rfl)
     ·exact .inr ⟨h1,h2⟩
   ·cases h0
  ·rw [List.getElem?_set_ne hi] at h0
   refine ⟨S0,h0,fun y=>?_⟩
   rw [hS y]
   simp only [List.mem_cons]
   constructor
   ·rintro (h|⟨h1,h2⟩)
    ·exact .inl h
    ·exact .inr ⟨.inr h1,h2⟩
   ·rintro (h|⟨rfl|h1,h2⟩)
    ·exact .inl h
    ·exact absurd h2 hi
    ·exact .inr ⟨h1,h2⟩
theorem outOf_mem {L:GL} {i:Nat} {S:List Ed} (h:(outOf L)[i]?=some S) (y:Ed):y∈S ↔ y∈L.eds/\y.1.toNat=i:=by
 obtain ⟨S0,h0,hS⟩:=outGo_get _ _ i S h
 rw [List.getElem?_replicate] at h0
 split at h0
 ·cases h0;rw [hS y];simp
 ·cases h0
theorem outGo_len:∀ (l:List Ed) (EE:List (List Ed)),(outGo EE l).length=EE.length
 | [],EE=>rfl
 | e::l,EE=>by simp only [outGo];rw [outGo_len l];simp
theorem outOf_len (L:GL):(outOf L).length=L.n.toNat:=by unfold outOf;rw [outGo_len];simp
structure Law5 (L M:GL) (kind:Int) (prs:List (Int×Int)):Prop where
 rng:∀ p∈prs,(0<=p.1/\p.1<L.n)/\(0<=p.2/\p.2<M.n)
 zero:((0:Int),(0:Int))∈prs
 step:∀ (s t:Int) (x:Ed) (cx:CL),(s,t)∈prs->x∈L.eds->x.1=s->L.labs[x.2.1.toNat]?=some cx->Shown M kind prs x cx (decide (cx.1=-1)) t
theorem LoL.ext {lo bs:Nat} {g h:AH} {cells:List Value} {EE:List (List Ed)} (G:LoL lo g bs cells EE) (e:Ext g h):LoL lo h bs cells EE:=
 ⟨(e.get _ G.lts).trans G.s,G.len,Nat.lt_of_lt_of_le G.lts e.next,G.locs,fun i c S hc hS=>by
  rcases G.cell i c S hc hS with h1|⟨b,h1,h2,h3⟩
  ·exact .inl h1
  ·exact .inr ⟨b,h1,(e.get b h3).trans h2,Nat.lt_of_lt_of_le h3 e.next⟩,G.blk,G.dis⟩
end Go.Proofs
namespace Go.Proofs
open Go Go.AM
set_option maxRecDepth 100000
set_option maxHeartbeats 8000000
section
variable {k g0:AH} {lo1 lo2 a4 a5 a6 bs1 bs2:Nat} {L M:GL} {kind:Int} {prs:List (Int×Int)} {cells1 cells2:List Value} {vlL veL vlM veM vp:Value} {elsL elsM:List (List Value)}
theorem eds_of {M:GL} (hM:badLts M=false) {i:Nat} {S:List Ed} (h:(outOf M)[i]?=some S):∀ y∈S,(0<=y.2.1/\y.2.1<M.labs.length)/\0<=y.2.2/\y.2.2<M.n:=by
 intro y hy
 obtain ⟨h1,_⟩:=(outOf_mem h y).1 hy
 obtain ⟨j,hj⟩:=List.getElem?_of_mem h1
 obtain ⟨_,b,c⟩:=bad_edges hM hj
 exact ⟨c,b⟩
end
theorem check0 {L M:GL} {B:GB} (h:checkV L M B=0):badLts L=false/\badLts M=false/\lnkErr B=0/\relV L M B=true:=by
 unfold checkV at h
 split at h
 ·cases h
 ·rename_i h1
  rw [Bool.or_eq_true,not_or] at h1
  split at h
  ·rename_i h2;exact absurd h h2
  ·rename_i h2
   split at h
   ·rename_i h3;exact ⟨by simpa using h1.1,by simpa using h1.2,by simpa using h2,h3⟩
   ·cases h
theorem arr2 {k:AH} {b:Nat} {e f:List Value} {z:Nat} {ty:TypeId} (he:e.length=z) (hf:f.length=z) (h:k.get b=some (.row (e++f) ty 0 false)) (hl:b<k.next):Arr k z (.slice (some ⟨b,0,none⟩) 2 2) [e,f]:=by
 refine Arr.row (els:=[e,f]) h hl (by simp [he,hf];omega) fun i x hx=>?_
 match i with
 | 0=>simp at hx;subst hx;exact ⟨he,by simp [← he]⟩
 | 1=>simp at hx;subst hx;exact ⟨hf,by rw [show 0+1*z=e.length by omega,List.drop_left];rw [← hf];simp⟩
 | i+2=>simp at hx
end Go.Proofs
namespace Go.Proofs
open Go Go.AM
set_option maxHeartbeats 1000000
def lexc:List Int->List Int->Int
 | [],[]=>0
 | [],_::_=>-1
 | _::_,[]=>1
 | a::aas,b::bs=>if c3 a b=0 then lexc aas bs else c3 a b
mutual
def encT:GT->List Int
 | .mk k n l=>k::n::(l.length:Int)::encL l
def encL:List GT->List Int
 | []=>[]
 | t::ts=>encT t++encL ts
end
theorem c3_zero {a b:Int}:c3 a b=0 ↔ a=b:=by
 unfold c3
 split
 ·constructor
  ·intro h;cases h
  ·intro h;omega
 ·split
  ·constructor
   ·intro h;cases h
   ·intro h;omega
  ·constructor
   ·intro;omega
   ·intro;rfl
theorem c3_neg {a b:Int}:c3 a b<0 ↔ a<b:=by
 unfold c3
 split
 ·constructor <;> intro <;> omega
 ·split <;> constructor <;> intro h <;> first|omega|(exfalso;revert h;decide)
mutual
theorem cmpT_lex:∀ (t u:GT) (r r':List Int),lexc (encT t++r) (encT u++r')=if cmpT t u=0 then lexc r r' else cmpT t u
 | .mk k n l,.mk k' n' l',r,r'=>by
  simp only [encT,List.cons_append,lexc,cmpT,orI]
  by_cases h1:c3 k k'=0
  ·by_cases h2:c3 n n'=0
   ·by_cases h3:c3 (l.length:Int) (l'.length:Int)=0
    ·have hlen:l.length=l'.length:=by have:=c3_zero.1 h3;omega
     simp only [h1,h2,h3,ne_eq,not_true_eq_false,if_true,if_false]
     exact cmpL_lex l l' hlen r r'
    ·simp only [h1,h2,h3,ne_eq,not_true_eq_false,not_false_eq_true,if_true,if_false]
   ·simp only [h1,h2,ne_eq,not_true_eq_false,not_false_eq_true,if_true,if_false]
  ·simp only [h1,ne_eq,not_true_eq_false,not_false_eq_true,if_true,if_false]
theorem cmpL_lex:∀ (l l':List GT),l.length=l'.length->∀ (r r':List Int),lexc (encL l++r) (encL l'++r')=if cmpL l l'=0 then lexc r r' else cmpL l l'
 | [],[],_,r,r'=>by simp [encL,cmpL]
 | t::ts,u::us,h,r,r'=>by
  simp only [encL,List.append_assoc,cmpL]
  rw [cmpT_lex t u,cmpL_lex ts us (by simpa using h) r r']
  by_cases h1:cmpT t u=0 <;> simp [h1]
 | [],_::_,h,_,_=>by simp at h
 | _::_,[],h,_,_=>by simp at h
end
theorem cmpL_lex0:∀ (l l':List GT),lexc (encL l) (encL l')=cmpL l l'
 | [],[]=>rfl
 | [],.mk k n l::us=>by simp [encL,encT,lexc,cmpL]
 | .mk k n l::ts,[]=>by simp [encL,encT,lexc,cmpL]
 | t::ts,u::us=>by
  simp only [encL,cmpL]
  rw [cmpT_lex t u,cmpL_lex0 ts us]
  by_cases h1:cmpT t u=0 <;> simp [h1]
def kc (c:CL):List Int:=c.1::encL c.2
theorem cmpLab_lex (c d:CL):cmpLab c.1 c.2 d.1 d.2=lexc (kc c) (kc d):=by
 simp only [cmpLab,orI,kc,lexc,cmpL_lex0]
 by_cases h:c3 c.1 d.1=0
 ·simp only [h,ne_eq,not_true_eq_false,if_false,if_true]
  by_cases h2:cmpL c.2 d.2=0
  ·rw [h2];simp
  ·simp [h2]
 ·simp [h]
theorem lex_self:∀ a:List Int,lexc a a=0
 | []=>rfl
 | a::aas=>by simp [lexc,c3_zero.2 rfl,lex_self aas]
theorem lex_flip:∀ a b:List Int,(lexc a b<0 ↔ 0<lexc b a)
 | [],[]=>by simp [lexc]
 | [],_::_=>by simp [lexc]
 | _::_,[]=>by simp [lexc]
 | a::aas,b::bs=>by
  simp only [lexc]
  rcases Int.lt_trichotomy a b with h|h|h
  ·have h1:c3 a b=-1:=by unfold c3;rw [if_pos h]
   have h2:c3 b a=1:=by unfold c3;rw [if_neg (by omega),if_pos h]
   simp [h1,h2]
  ·subst h
   simp only [c3_zero.2 rfl,if_true]
   exact lex_flip aas bs
  ·have h1:c3 a b=1:=by unfold c3;rw [if_neg (by omega),if_pos h]
   have h2:c3 b a=-1:=by unfold c3;rw [if_pos h]
   simp [h1,h2]
theorem lex_trans:∀ a b c:List Int,lexc a b<0->lexc b c<0->lexc a c<0
 | a,[],c,h1,h2=>by cases a <;> simp [lexc] at h1
 | [],b::bs,c,h1,h2=>by
  cases c with
  | nil=>simp [lexc] at h2
  | cons x xs=>simp [lexc]
 | a::aas,b::bs,c,h1,h2=>by
  cases c with
  | nil=>simp [lexc] at h2
  | cons x xs=>
   simp only [lexc] at h1 h2 ⊢
   by_cases e1:c3 a b=0
   ·rw [if_pos e1] at h1
    have:=c3_zero.1 e1
    subst this
    by_cases e2:c3 a x=0
    ·rw [if_pos e2] at h2 ⊢
     exact lex_trans aas bs xs h1 h2
    ·rw [if_neg e2] at h2 ⊢;exact h2
   ·rw [if_neg e1] at h1
    have hab:=c3_neg.1 h1
    by_cases e2:c3 b x=0
    ·have:=c3_zero.1 e2
     subst this
     rw [if_neg e1];exact h1
    ·rw [if_neg e2] at h2
     have hbx:=c3_neg.1 h2
     have:c3 a x<0:=c3_neg.2 (by omega)
     rw [if_neg (by omega)];exact this
mutual
theorem cmpT_eq:∀ t u:GT,cmpT t u=0->t=u
 | .mk k n l,.mk k' n' l',h=>by
  simp only [cmpT,orI] at h
  by_cases h1:c3 k k'=0
  ·by_cases h2:c3 n n'=0
   ·by_cases h3:c3 (l.length:Int) (l'.length:Int)=0
    ·simp only [h1,h2,h3,ne_eq,not_true_eq_false,if_false] at h
     rw [c3_zero.1 h1,c3_zero.1 h2,cmpL_eq l l' h]
    ·simp only [h1,h2,h3,ne_eq,not_true_eq_false,not_false_eq_true,if_true,if_false] at h
   ·simp only [h1,h2,ne_eq,not_true_eq_false,not_false_eq_true,if_true,if_false] at h
  ·simp only [h1,ne_eq,not_true_eq_false,not_false_eq_true,if_true,if_false] at h
theorem cmpL_eq:∀ l m:List GT,cmpL l m=0->l=m
 | [],[],_=>rfl
 | [],_::_,h=>by simp [cmpL] at h
 | _::_,[],h=>by simp [cmpL] at h
 | t::ts,u::us,h=>by
  simp only [cmpL] at h
  by_cases h1:cmpT t u=0
  ·simp only [h1,ne_eq,not_true_eq_false,if_false] at h
   rw [cmpT_eq t u h1,cmpL_eq ts us h]
  ·simp only [h1,ne_eq,not_false_eq_true,if_true] at h
end
def clt (c d:CL):Prop:=lexc (kc c) (kc d)<0
theorem kc_eq {c d:CL} (h:lexc (kc c) (kc d)=0):c=d:=by
 rw [← cmpLab_lex] at h
 obtain ⟨g,l⟩:=c
 obtain ⟨g',l'⟩:=d
 simp only [cmpLab,orI] at h
 by_cases h1:c3 g g'=0
 ·simp only [h1,ne_eq,not_true_eq_false,if_false] at h
  have h2:cmpL l l'=0:=by
   by_cases h3:cmpL l l'=0
   ·exact h3
   ·simp [h3] at h
  rw [c3_zero.1 h1,cmpL_eq l l' h2]
 ·simp [h1] at h
abbrev Sorted (cs:List CL):Prop:=cs.Pairwise clt
theorem cmpLb_lex {ls:List CL} {c x:CL} {q:Nat} (h:ls[q]?=some x):cmpLb ls c q=lexc (kc x) (kc c):=by
 unfold cmpLb;rw [h];exact cmpLab_lex x c
theorem sorted_get {cs:List CL} (hs:Sorted cs) {i j:Nat} {x y:CL} (hx:cs[i]?=some x) (hy:cs[j]?=some y) (hij:i<j):clt x y:=by
 obtain ⟨h1,rfl⟩:=List.getElem?_eq_some_iff.1 hx
 obtain ⟨h2,rfl⟩:=List.getElem?_eq_some_iff.1 hy
 exact List.pairwise_iff_getElem.1 hs i j h1 h2 hij
theorem bsGo_ok {ls:List CL} (hs:Sorted ls) (c:CL):∀ (m i j:Nat),j<=i+m->i<=j->j<=ls.length->(∀ q,q<i->cmpLb ls c q<0)->(∀ q,j<=q->q<ls.length->0<=cmpLb ls c q)->
  bsGo ls c m i j<=ls.length/\(∀ q,q<bsGo ls c m i j->cmpLb ls c q<0)/\∀ q,bsGo ls c m i j<=q->q<ls.length->0<=cmpLb ls c q
 | 0,i,j,h1,h2,h3,ha,hb=>by
  have:i=j:=by omega
  subst this
  exact ⟨h3,ha,hb⟩
 | m+1,i,j,h1,h2,h3,ha,hb=>by
  simp only [bsGo]
  by_cases hij:i<j
  ·rw [if_pos hij]
   have hq:(i+j) / 2<ls.length:=by omega
   obtain ⟨x,hx⟩:∃ x,ls[(i+j) / 2]?=some x:=⟨_,List.getElem?_eq_getElem hq⟩
   by_cases hc:cmpLb ls c ((i+j) / 2)<0
   ·rw [if_pos hc]
    refine bsGo_ok hs c m _ j (by omega) (by omega) h3 (fun q hq'=>?_) hb
    by_cases e:q=(i+j) / 2
    ·rw [e];exact hc
    ·obtain ⟨y,hy⟩:∃ y,ls[q]?=some y:=⟨_,List.getElem?_eq_getElem (by omega)⟩
     rw [cmpLb_lex hx] at hc
     rw [cmpLb_lex hy]
     exact lex_trans _ _ _ (sorted_get hs hy hx (by omega)) hc
   ·rw [if_neg hc]
    refine bsGo_ok hs c m i _ (by omega) (by omega) (by omega) ha fun q hq1 hq2=>?_
    by_cases e:q=(i+j) / 2
    ·rw [e];omega
    ·obtain ⟨y,hy⟩:∃ y,ls[q]?=some y:=⟨_,List.getElem?_eq_getElem hq2⟩
     rw [cmpLb_lex hx] at hc
     rw [cmpLb_lex hy]
     have hxy:=sorted_get hs hx hy (by omega)
     rcases Int.lt_or_le (lexc (kc y) (kc c)) 0 with h|h
     ·exact absurd (lex_trans _ _ _ hxy h) hc
     ·exact h
  ·rw [if_neg hij]
   have:i=j:=by omega
   subst this
   exact ⟨h3,ha,hb⟩
theorem bsI_ok {ls:List CL} (hs:Sorted ls) (c:CL):bsI ls c<=ls.length/\(∀ q,q<bsI ls c->cmpLb ls c q<0)/\∀ q,bsI ls c<=q->q<ls.length->0<=cmpLb ls c q:=
 bsGo_ok hs c ls.length 0 ls.length (by omega) (Nat.zero_le _) (Nat.le_refl _) (fun q h=>absurd h (Nat.not_lt_zero _)) (fun q h1 h2=>by omega)
theorem bs_found {ls:List CL} (hs:Sorted ls) {c:CL} (hc:c∈ls):bsB ls c=true/\ls[bsI ls c]?=some c:=by
 obtain ⟨q,hq⟩:=List.getElem?_of_mem hc
 obtain ⟨h1,h2,h3⟩:=bsI_ok hs c
 have hql:=(List.getElem?_eq_some_iff.1 hq).1
 have hz:cmpLb ls c q=0:=by rw [cmpLb_lex hq];exact lex_self _
 have hle:bsI ls c<=q:=by
  rcases Nat.lt_or_ge q (bsI ls c) with h|h
  ·have:=h2 q h;omega
  ·exact h
 have he:bsI ls c=q:=by
  rcases Nat.lt_or_ge (bsI ls c) q with h|h
  ·obtain ⟨x,hx⟩:∃ x,ls[bsI ls c]?=some x:=⟨_,List.getElem?_eq_getElem (by omega)⟩
   have h4:=h3 (bsI ls c) (Nat.le_refl _) (by omega)
   rw [cmpLb_lex hx] at h4
   have h5:=sorted_get hs hx hq h
   unfold clt at h5
   omega
  ·omega
 refine ⟨?_,by rw [he];exact hq⟩
 unfold bsB
 rw [he]
 simp [hql,hz]
theorem bs_hit {ls:List CL} {c:CL} (h:bsB ls c=true):ls[bsI ls c]?=some c:=by
 unfold bsB at h
 simp only [Bool.and_eq_true,decide_eq_true_eq] at h
 obtain ⟨x,hx⟩:∃ x,ls[bsI ls c]?=some x:=⟨_,List.getElem?_eq_getElem h.1⟩
 have h2:=h.2
 rw [cmpLb_lex hx] at h2
 rw [hx,kc_eq h2]
theorem numL_ok {cs:List CL} (hs:Sorted cs) (c:CL):Sorted (numL cs c).2/\(∀ d∈cs,d∈(numL cs c).2)/\(c.1≠-1->c∈(numL cs c).2):=by
 unfold numL
 by_cases h:c.1=-1
 ·rw [if_pos h];exact ⟨hs,fun d hd=>hd,fun h2=>absurd h h2⟩
 ·rw [if_neg h]
  simp only
  by_cases hb:bsB cs c=true
  ·rw [if_pos hb]
   exact ⟨hs,fun d hd=>hd,fun _=>List.mem_of_getElem? (bs_hit hb)⟩
  ·rw [if_neg hb]
   obtain ⟨h1,h2,h3⟩:=bsI_ok hs c
   have hsp:cs=cs.take (bsI cs c)++cs.drop (bsI cs c):=(List.take_append_drop _ _).symm
   refine ⟨?_,fun d hd=>?_,fun _=>by simp⟩
   ·rw [hsp] at hs
    obtain ⟨p1,p2,p3⟩:=List.pairwise_append.1 hs
    refine List.pairwise_append.2 ⟨p1,List.pairwise_cons.2 ⟨fun d hd=>?_,p2⟩,fun a ha d hd=>?_⟩
    ·obtain ⟨q,hq⟩:=List.getElem?_of_mem hd
     rw [List.getElem?_drop] at hq
     have h4:=h3 (bsI cs c+q) (by omega) (List.getElem?_eq_some_iff.1 hq).1
     rw [cmpLb_lex hq] at h4
     have hne:lexc (kc d) (kc c)≠0:=by
      intro e
      have:=kc_eq e
      subst this
      exact hb (bs_found (by rw [hsp];exact hs) (List.mem_of_getElem? hq)).1
     exact (lex_flip _ _).2 (by omega)
    ·rcases List.mem_cons.1 hd with rfl|hd
     ·obtain ⟨q,hq⟩:=List.getElem?_of_mem ha
      have hql:=(List.getElem?_eq_some_iff.1 hq).1
      rw [List.length_take] at hql
      rw [List.getElem?_take_of_lt (by omega)] at hq
      have h4:=h2 q (by omega)
      rw [cmpLb_lex hq] at h4
      exact h4
     ·exact p3 a ha d hd
   ·rw [hsp,List.mem_append] at hd
    simp only [List.mem_append,List.mem_cons]
    rcases hd with hd|hd
    ·exact .inl hd
    ·exact .inr (.inr hd)
theorem numAll_ok:∀ (l:List CL) {cs:List CL},Sorted cs->Sorted (numAll cs l).2/\(∀ d∈cs,d∈(numAll cs l).2)/\∀ c∈l,c.1≠-1->c∈(numAll cs l).2
 | [],cs,hs=>⟨hs,fun d hd=>hd,fun c hc=>by cases hc⟩
 | c::l,cs,hs=>by
  obtain ⟨a1,a2,a3⟩:=numL_ok hs c
  obtain ⟨b1,b2,b3⟩:=numAll_ok l a1
  simp only [numAll]
  refine ⟨b1,fun d hd=>b2 d (a2 d hd),fun d hd h=>?_⟩
  rcases List.mem_cons.1 hd with rfl|hd
  ·exact b2 _ (a3 h)
  ·exact b3 d hd h
def numOf (cs:List CL) (c:CL):Int:=if c.1=-1 then 0 else ((bsI cs c:Nat):Int)+1
theorem numAll_fix:∀ (l:List CL) {cs:List CL},Sorted cs->(∀ c∈l,c.1≠-1->c∈cs)->numAll cs l=(l.map (numOf cs),cs)
 | [],cs,_,_=>rfl
 | c::l,cs,hs,h=>by
  have h1:numL cs c=(numOf cs c,cs):=by
   unfold numL numOf
   by_cases hc:c.1=-1
   ·rw [if_pos hc,if_pos hc]
   ·rw [if_neg hc,if_neg hc,if_pos (bs_found hs (h c (by simp) hc)).1]
  simp only [numAll,h1,numAll_fix l hs fun d hd=>h d (by simp [hd]),List.map_cons]
theorem numOf_inj {cs:List CL} (hs:Sorted cs) {c d:CL} (hc:c.1≠-1->c∈cs) (hd:d.1≠-1->d∈cs) (h:numOf cs c=numOf cs d):(c.1=-1/\d.1=-1)\/c=d:=by
 unfold numOf at h
 by_cases h1:c.1=-1
 ·by_cases h2:d.1=-1
  ·exact .inl ⟨h1,h2⟩
  ·rw [if_pos h1,if_neg h2] at h;omega
 ·by_cases h2:d.1=-1
  ·rw [if_neg h1,if_pos h2] at h;omega
  ·rw [if_neg h1,if_neg h2] at h
   have e:bsI cs c=bsI cs d:=by omega
   have a:=(bs_found hs (hc h1)).2
   have b:=(bs_found hs (hd h2)).2
   rw [e,b] at a
   exact .inr (Option.some.inj a).symm
abbrev stepV (nums:List Int) (e:Ed):Int×Int:=((nums[e.2.1.toNat]?).getD 0,e.2.2)
theorem stepsGo_get (nums:List Int):∀ (l:List Ed) (SS:List Steps) (i:Nat) (S:Steps),(stepsGo nums SS l)[i]?=some S->∃ S0,SS[i]?=some S0/\∀ y,y∈S ↔ y∈S0\/∃ e∈l,e.1.toNat=i/\y=stepV nums e
 | [],SS,i,S,h=>⟨S,h,fun y=>by simp⟩
 | e::l,SS,i,S,h=>by
  simp only [stepsGo] at h
  obtain ⟨S0,h0,hS⟩:=stepsGo_get nums l _ i S h
  by_cases hi:e.1.toNat=i
  ·subst hi
   rw [List.getElem?_set] at h0
   simp only [if_true] at h0
   split at h0
   ·rename_i hlt
    cases h0
    refine ⟨SS[e.1.toNat],List.getElem?_eq_getElem hlt,fun y=>?_⟩
    rw [hS y,List.getElem?_eq_getElem hlt]
    simp only [Option.getD_some,List.mem_append,List.mem_cons,List.not_mem_nil,or_false]
    constructor
    ·rintro ((h|h)|⟨f,h1,h2⟩)
     ·exact .inl h
     ·exact .inr ⟨e,.inl rfl,rfl,h⟩
     ·exact .inr ⟨f,.inr h1,h2⟩
    ·rintro (h|⟨f,rfl|h1,h2,h3⟩)
     ·exact .inl (.inl h)
     ·exact .inl (.inr h3)
     ·exact .inr ⟨f,h1,h2,h3⟩
   ·cases h0
  ·rw [List.getElem?_set_ne hi] at h0
   refine ⟨S0,h0,fun y=>?_⟩
   rw [hS y]
   simp only [List.mem_cons]
   constructor
   ·rintro (h|⟨f,h1,h2⟩)
    ·exact .inl h
    ·exact .inr ⟨f,.inr h1,h2⟩
   ·rintro (h|⟨f,rfl|h1,h2,h3⟩)
    ·exact .inl h
    ·exact absurd h2 hi
    ·exact .inr ⟨f,h1,h2,h3⟩
theorem stepsOf_mem {nums:List Int} {L:GL} {i:Nat} {S:Steps} (h:(stepsOf nums L)[i]?=some S) (y:Int×Int):y∈S ↔ ∃ e∈L.eds,e.1.toNat=i/\y=stepV nums e:=by
 obtain ⟨S0,h0,hS⟩:=stepsGo_get nums _ _ i S h
 rw [List.getElem?_replicate] at h0
 split at h0
 ·cases h0;rw [hS y];simp
 ·cases h0
theorem labs_bare {L:GL} (h:badLts L=false) {i:Nat} {c:CL} (hc:L.labs[i]?=some c) (h1:c.1=-1):c.2=[]:=by
 simp only [badLts,Bool.or_eq_false_iff] at h
 have hlt:=(List.getElem?_eq_some_iff.1 hc).1
 have:=anyFrom_false h.1.2 i (Nat.zero_le _) (by omega)
 simp only [labBadAt,hc,Bool.or_eq_false_iff,badLab,bare,h1,decide_true,Bool.or_true,Bool.true_and,decide_eq_false_iff_not] at this
 exact List.length_eq_zero_iff.1 (by omega)
def csOf (L M:GL):List CL:=(numAll (numAll [] L.labs).2 M.labs).2
theorem csOf_ok (L M:GL):Sorted (csOf L M)/\(∀ c∈L.labs,c.1≠-1->c∈csOf L M)/\∀ c∈M.labs,c.1≠-1->c∈csOf L M:=by
 obtain ⟨a1,a2,a3⟩:=numAll_ok L.labs (cs:=[]) List.Pairwise.nil
 obtain ⟨b1,b2,b3⟩:=numAll_ok M.labs a1
 exact ⟨b1,fun c h1 h2=>b2 c (a3 c h1 h2),b3⟩
theorem graphs_eq (L M:GL):graphsOf [L,M]=[stepsOf (L.labs.map (numOf (csOf L M))) L,stepsOf (M.labs.map (numOf (csOf L M))) M]:=by
 obtain ⟨h1,h2,h3⟩:=csOf_ok L M
 show buildAll (csOf L M) [L,M]=_
 simp only [buildAll,numAll_fix L.labs h1 h2,numAll_fix M.labs h1 h3]
theorem numOf_zero {cs:List CL} {c:CL} (h:numOf cs c=0):c.1=-1:=by
 unfold numOf at h
 split at h
 ·assumption
 ·omega
theorem pr_pos {B:GB} (h:lnkErr B=0):(B.kind=1\/B.kind=2)/\∀ p∈B.prs,0<=p.1/\0<=p.2:=by
 unfold lnkErr at h
 split at h
 ·cases h
 ·rename_i h1
  split at h
  ·cases h
  ·split at h
   ·cases h
   ·rename_i h3
    refine ⟨?_,fun p hp=>?_⟩
    ·simp [isMan] at h1;omega
    ·obtain ⟨i,hi⟩:=List.getElem?_of_mem hp
     have hlt:=(List.getElem?_eq_some_iff.1 hi).1
     have:=anyFrom_false (Bool.eq_false_iff.2 h3) i (Nat.zero_le _) (by omega)
     simp only [prBadAt,hi,Bool.or_eq_false_iff,decide_eq_false_iff_not] at this
     omega
theorem foldl_addS:∀ (S:Steps) (l:List Int) (v:Int),v∈S.foldl addS l->v∈l\/∃ y∈S,y.1=0/\y.2=v
 | [],l,v,h=>.inl h
 | y::S,l,v,h=>by
  rcases foldl_addS S _ v h with h1|⟨z,h1,h2⟩
  ·unfold addS at h1
   split at h1
   ·rename_i hc
    rcases List.mem_append.1 h1 with h2|h2
    ·exact .inl h2
    ·exact .inr ⟨y,by simp,hc.1,(List.mem_singleton.1 h2).symm⟩
   ·exact .inl h1
  ·exact .inr ⟨z,by simp [h1],h2⟩
theorem bfs_some {TT:List Steps} {body:Int->Bool} {lc:List Int} (hc:∀ u∈lc,∀ S,TT[u.toNat]?=some S->∀ y∈S,y.1=0->y.2∈lc) :
  ∀ (f i:Nat) (l:List Int),(∀ u∈l,u∈lc)->bfs TT body f i l=true->∃ u∈lc,body u=true
 | 0,i,l,_,h=>by simp [bfs] at h
 | f+1,i,l,hl,h=>by
  simp only [bfs] at h
  split at h
  ·cases h
  ·rename_i u hu
   have hm:=hl u (List.mem_of_getElem? hu)
   rcases Bool.or_eq_true_iff.1 h with h|h
   ·exact ⟨u,hm,h⟩
   ·refine bfs_some hc f (i+1) _ (fun v hv=>?_) h
    unfold nextL at hv
    split at hv
    ·rename_i S hS
     rcases foldl_addS S l v hv with h1|⟨y,h1,h2,h3⟩
     ·exact hl v h1
     ·rw [← h3];exact hc u hm S hS y h1 h2
    ·exact hl v hv
theorem law_of_check {L M:GL} {B:GB} (h:checkV L M B=0):Law5 L M B.kind B.prs:=by
 obtain ⟨hL,hM,hlk,hrel⟩:=check0 h
 obtain ⟨hkind,hpos⟩:=pr_pos hlk
 obtain ⟨c1,c2,c3'⟩:=csOf_ok L M
 unfold relV at hrel
 rw [graphs_eq] at hrel
 simp only [relB,Bool.and_eq_true,List.all_eq_true,decide_eq_true_eq,inB] at hrel
 obtain ⟨hin,⟨hz,hall⟩,_⟩:=hrel
 obtain ⟨l1,l2,l3,l4⟩:=bad_sizes hL
 obtain ⟨m1,m2,m3,m4⟩:=bad_sizes hM
 have hrng:∀ p∈B.prs,(0<=p.1/\p.1<L.n)/\(0<=p.2/\p.2<M.n):=fun p hp=>⟨⟨(hpos p hp).1,(hin p hp).1⟩,(hpos p hp).2,(hin p hp).2⟩
 refine ⟨hrng,hz,fun s t x cx hst hx hs hcx lc ln ht hlc hD=>?_⟩
 generalize hcs:csOf L M=cs at *
 obtain ⟨⟨s1,s2⟩,t1,t2⟩:=hrng _ hst
 simp only at s1 s2 t1 t2
 obtain ⟨SS,hSS⟩:∃ S,(stepsOf (L.labs.map (numOf cs)) L)[s.toNat]?=some S:=⟨_,List.getElem?_eq_getElem (by rw [stepsOf_len];omega)⟩
 have hxv:stepV (L.labs.map (numOf cs)) x=(numOf cs cx,x.2.2):=by simp [stepV,hcx]
 have hmem:(numOf cs cx,x.2.2)∈SS:=(stepsOf_mem hSS _).2 ⟨x,hx,by rw [hs],hxv.symm⟩
 have hcxm:cx.1≠-1->cx∈cs:=c2 cx (List.mem_of_getElem? hcx)
 have back:∀ (u:Int) (S:Steps),0<=u->u<M.n->(stepsOf (M.labs.map (numOf cs)) M)[u.toNat]?=some S->∀ y∈S,∃ f cy,(∃ S',(outOf M)[u.toNat]?=some S'/\f∈S')/\M.labs[f.2.1.toNat]?=some cy/\y=(numOf cs cy,f.2.2):=by
  intro u S hu1 hu2 hS y hy
  obtain ⟨f,hf,hf1,hf2⟩:=(stepsOf_mem hS y).1 hy
  obtain ⟨j,hj⟩:=List.getElem?_of_mem hf
  obtain ⟨_,_,d3,d4⟩:=bad_edges hM hj
  obtain ⟨cy,hcy⟩:∃ c,M.labs[f.2.1.toNat]?=some c:=⟨_,List.getElem?_eq_getElem (by omega)⟩
  obtain ⟨S',hS'⟩:∃ S,(outOf M)[u.toNat]?=some S:=⟨_,List.getElem?_eq_getElem (by rw [outOf_len];omega)⟩
  exact ⟨f,cy,⟨S',hS',(outOf_mem hS' f).2 ⟨hf,hf1⟩⟩,hcy,by rw [hf2];simp [stepV,hcy]⟩
 have strong:∀ u∈lc,strongAt B.prs (stepsOf (M.labs.map (numOf cs)) M) u (numOf cs cx,x.2.2)=true->ln≠[]:=by
  intro u hu hs
  obtain ⟨u1,u2⟩:=hlc u hu
  unfold strongAt at hs
  split at hs
  ·rename_i S hS
   simp only [strongB,List.any_eq_true,stepIs,Bool.and_eq_true,decide_eq_true_eq] at hs
   obtain ⟨y,hy,hy1,hy2⟩:=hs
   obtain ⟨f,cy,⟨S',hS',hf⟩,hcy,rfl⟩:=back u S u1 u2 hS y hy
   simp only at hy1 hy2
   have hcc:cy=cx:=by
    rcases numOf_inj c1 (c3' cy (List.mem_of_getElem? hcy)) hcxm hy1 with ⟨e1,e2⟩|e
    ·have a1:=labs_bare hM hcy e1
     have a2:=labs_bare hL hcx e2
     obtain ⟨g,l⟩:=cy
     obtain ⟨g',l'⟩:=cx
     simp only at e1 e2 a1 a2
     rw [e1,e2,a1,a2]
    ·exact e
   rw [hcc] at hcy
   exact ((hD u hu).eds S' hS' f hf).same hcy hy2
  ·cases hs
 have hf:followB B.kind B.prs (stepsOf (M.labs.map (numOf cs)) M) (s,t) (numOf cs cx,x.2.2)=true:=by
  simp only [allK,allB,List.all_eq_true] at hall
  have:=hall _ hst
  rw [hSS] at this
  exact List.all_eq_true.1 this _ hmem
 unfold followB at hf
 split at hf
 ·exact strong t ht hf
 ·rename_i hk1
  have hk2:B.kind=2:=by omega
  obtain ⟨u,hu,hb⟩:=bfs_some (lc:=lc) (fun u hu S hS y hy h0=>by
   obtain ⟨u1,u2⟩:=hlc u hu
   obtain ⟨f,cy,⟨S',hS',hf⟩,hcy,rfl⟩:=back u S u1 u2 hS y hy
   exact ((hD u hu).eds S' hS' f hf).calm hk2 ⟨cy.2,by rw [hcy];simp [← numOf_zero h0]⟩) _ _ _ (fun u hu=>by rw [List.mem_singleton.1 hu];exact ht) hf
  simp only [bodyB,Bool.and_eq_true,Bool.or_eq_true,decide_eq_true_eq] at hb
  rcases hb.2 with ⟨h0,h1⟩|h1
  ·exact (hD u hu).stay hk2 (by simp [numOf_zero h0]) h1
  ·exact strong u hu h1
end Go.Proofs
namespace Go.Proofs
open Go Go.AM Go.Sort
set_option maxRecDepth 100000
set_option maxHeartbeats 1000000
def InR (L M:GL) (R:List (Int×Int)):Prop:=∀ p∈R,(0<=p.1/\p.1<L.n)/\(0<=p.2/\p.2<M.n)
end Go.Proofs
namespace Go.Proofs
open Go Go.AM
set_option maxRecDepth 100000
set_option maxHeartbeats 1000000
abbrev Bs:=List UInt8
def digB (b:UInt8):Bool:=decide (48<=b.toNat)&&decide (b.toNat<=57)
def valD:Nat->Bs->Nat
 | a,[]=>a
 | a,b::l=>valD (a*10+(b.toNat-48)) l
def numF (w:Bs):Option Nat:=
 if w=[]\/7<w.length\/(w.head?=some 48/\1<w.length) then none else if w.all digB=true/\valD 0 w<=1000000 then some (valD 0 w) else none
def cutF (c:UInt8):Bs->Bs×Bs×Bool
 | []=>([],[],false)
 | b::l=>if b=c then ([],l,true) else (b::(cutF c l).1,(cutF c l).2)
def splF (c:UInt8):Bs->List Bs
 | []=>[[]]
 | b::l=>if b=c then []::splF c l else match splF c l with
  | w::ws=>(b::w)::ws
  | []=>[[b]]
def allN:List Bs->Option (List Nat)
 | []=>some []
 | w::ws=>match numF w,allN ws with
  | some n,some ns=>some (n::ns)
  | _,_=>none
def rowF (line:Bs):Option (Nat×List Nat):=match cutF 58 line with
 | (head,32::r,true)=>match numF head,allN (splF 32 r) with
  | some s,some ts=>some (s,ts)
  | _,_=>none
 | _=>none
end Go.Proofs
