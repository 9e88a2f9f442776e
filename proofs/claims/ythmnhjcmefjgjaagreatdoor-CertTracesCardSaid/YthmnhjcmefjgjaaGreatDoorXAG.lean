import Derived.Test.YthmnhjcmefjgjaaGreatDoorXAF
set_option linter.all false
set_option linter.unusedSectionVars false
set_option autoImplicit true
set_option relaxedAutoImplicit true
namespace Go.Proofs
open Go Go.AM
set_option maxRecDepth 100000
set_option maxHeartbeats 2000000
structure GL where
 n:Int
 labs:List (Int×List GT)
 eds:List (Int×Int×Int)
inductive RLab (h:AH):List (List Value)->List (Int×List GT)->Prop
 | nil:RLab h [] []
 | cons {g:Int} {v:Value} {l:List GT} {els:List (List Value)} {ls:List (Int×List GT)} (hv:RT h v l) (hs:RLab h els ls):RLab h ([.int .i64 g,v]::els) ((g,l)::ls)
def edCells (e:Int×Int×Int):List Value:=[.int .i64 e.1,.int .i64 e.2.1,.int .i64 e.2.2]
structure RL (h:AH) (x:Value) (L:GL):Prop where
 ex:∃ vl ve elsL,x=.agg #[.int .i64 L.n,vl,ve]/\Arr h 2 vl elsL/\RLab h elsL L.labs/\Arr h 3 ve (L.eds.map edCells)
theorem RLab.ext {h k:AH} (e:Ext h k):∀ {els:List (List Value)} {ls:List (Int×List GT)},RLab h els ls->RLab k els ls
 | _,_,.nil=>.nil
 | _,_,.cons hv hs=>.cons (hv.ext e) (RLab.ext e hs)
theorem RLab.length {h:AH}:∀ {els:List (List Value)} {ls:List (Int×List GT)},RLab h els ls->els.length=ls.length
 | _,_,.nil=>rfl
 | _,_,.cons _ hs=>by simp [RLab.length hs]
theorem RLab.at {h:AH}:∀ {els:List (List Value)} {ls:List (Int×List GT)},RLab h els ls->∀ (i:Nat) (e:List Value),els[i]?=some e->∃ (g:Int) (v:Value) (l:List GT),e=[.int .i64 g,v]/\RT h v l/\ls[i]?=some (g,l)
 | _,_,.nil,i,e,h=>by simp at h
 | _,_,.cons hv hs,0,e,h=>by simp at h;exact ⟨_,_,_,h.symm,hv,rfl⟩
 | _,_,.cons hv hs,i+1,e,h=>by simp only [List.getElem?_cons_succ] at h;obtain ⟨g,v,l,a,b,c⟩:=RLab.at hs i e h;exact ⟨g,v,l,a,b,by simpa using c⟩
theorem RL.ext {h k:AH} {x:Value} {L:GL} (r:RL h x L) (e:Ext h k):RL k x L:=by
 obtain ⟨vl,ve,els,a,b,c,d⟩:=r.ex
 exact ⟨vl,ve,els,a,b.ext e,c.ext e,d.ext e⟩
theorem Arr.slice {h:AH} {z:Nat} {v:Value} {els:List (List Value)} (a:Arr h z v els):∃ ad c,v=.slice ad els.length c:=by
 cases a with
 | nil a c=>exact ⟨a,c,rfl⟩
 | row=>exact ⟨_,_,rfl⟩
theorem call169 {k:AH} {a b:Int} (hok:k.ok):(recI E).call 169 [.int .i64 a,.int .i64 b] k=some [(.bool (decide (0<=a)&&decide (a<b)),k)]:=by
 refine F169_flat (s:=true) hok rfl (P169_0_of ?_)
 refine P169_1_of ?_
 simp only [evO_some,bf_geq,gdB_bool]
 by_cases c1:0<=a
 ·simp [c1,evO_some,bf_lss,pick_bool,kR_1,ne_ret]
 ·simp [c1,evO_some,bf_lss,pick_bool,kR_1,ne_ret]
def cmpE (e f:Int×Int×Int):Int:=orI [c3 e.1 f.1,c3 e.2.1 f.2.1,c3 e.2.2 f.2.2]
theorem call170 {k:AH} {e f:Int×Int×Int} (hok:k.ok):(recI E).call 170 [.agg ⟨edCells e⟩,.agg ⟨edCells f⟩] k=some [(.int .i64 (cmpE e f),k)]:=by
 refine F170_flat (s:=true) hok rfl (P170_0_of ?_)
 simp only [new_row,ev_one,cells_agg,evO_some]
 refine P170_1_of ?_
 have o1:=((Own.fresh k).new (.row (edCells e) 52 0 false)).new (.row (edCells f) 52 0 false)
 have t1:((k.fresh.new (.row (edCells e) 52 0 false)).new (.row (edCells f) 52 0 false)).get k.next=some (.row (edCells e) 52 0 false):=by
  rw [get_new_ne (by simp)];exact get_new_self k.fresh _
 have t2:((k.fresh.new (.row (edCells e) 52 0 false)).new (.row (edCells f) 52 0 false)).get (k.next+1)=some (.row (edCells f) 52 0 false):=get_new_self (k.fresh.new _) _
 simp only [next_fresh,AH.next_new]
 generalize ((k.fresh.new (.row (edCells e) 52 0 false)).new (.row (edCells f) 52 0 false))=k1 at o1 t1 t2
 have l0:=load_leaf (P:=E) ta_3 (o:=0) t1
 have l1:=load_leaf (P:=E) ta_3 (o:=1) t1
 have l2:=load_leaf (P:=E) ta_3 (o:=2) t1
 have m0:=load_leaf (P:=E) ta_3 (o:=0) t2
 have m1:=load_leaf (P:=E) ta_3 (o:=1) t2
 have m2:=load_leaf (P:=E) ta_3 (o:=2) t2
 simp only [lnth,edCells] at l0 l1 l2 m0 m1 m2
 simp only [fa_52_0,fa_52_1,fa_52_2,Nat.add_zero,Nat.zero_add,l0,l1,l2,m0,m1,m2,evO_some,wCall_0,call94 o1.ext.ok,ev_some,veq_int,true_and,bs47_3,ev_one]
 rw [or3 o1.ext.ok]
 simp only [ev_some,evO_some,kR_1,ne_ret,true_and]
 exact ⟨rfl,o1.wm⟩
def labBadAt (ls:List (Int×List GT)) (i:Nat):Bool:=match ls[i]? with
 | some x=>badLab x.1 x.2||(decide (0<i)&&match ls[i-1]? with
  | some y=>decide (0<=cmpLab y.1 y.2 x.1 x.2)
  | none=>false)
 | none=>false
def edBadAt (n m:Int) (es:List (Int×Int×Int)) (i:Nat):Bool:=match es[i]? with
 | some e=>!(decide (0<=e.1)&&decide (e.1<n))||!(decide (0<=e.2.2)&&decide (e.2.2<n))||!(decide (0<=e.2.1)&&decide (e.2.1<m))||(decide (0<i)&&match es[i-1]? with
  | some f=>decide (0<=cmpE f e)
  | none=>false)
 | none=>false
def anyFrom (p:Nat->Bool):Nat->Nat->Bool
 | 0,_=>false
 | m+1,i=>p i||anyFrom p m (i+1)
theorem anyFrom_false {p:Nat->Bool}:∀ {m i:Nat},anyFrom p m i=false->∀ j,i<=j->j<i+m->p j=false
 | 0,i,_,j,h1,h2=>by omega
 | m+1,i,h,j,h1,h2=>by
  simp only [anyFrom,Bool.or_eq_false_iff] at h
  by_cases e:j=i
  ·rw [e];exact h.1
  ·exact anyFrom_false h.2 j (by omega) (by omega)
def badSize (L:GL):Bool:=decide (L.n<1)||decide (20000<L.n)||decide (4000<L.labs.length)||decide (100000<L.eds.length)
def badLts (L:GL):Bool:=badSize L||anyFrom (labBadAt L.labs) L.labs.length 0||anyFrom (edBadAt L.n L.labs.length L.eds) L.eds.length 0
abbrev kf8 (k:AH) (b:Bool):KF:=KR E [.tmp 2] (fun x m=>x=.int .i64 (if b then 8 else 0)/\k.next<=m.wm)
theorem put2:∀ (e:List Value),e.length=2->lput [Value.int .i64 0,.slice none 0 0] 0 e=e:=by
 intro e he
 match e,he with
 | [x,y],_=>rfl
theorem put3i:∀ (e:List Value),e.length=3->lput [Value.int .i64 0,.int .i64 0,.int .i64 0] 0 e=e:=by
 intro e he
 match e,he with
 | [x,y,z],_=>rfl
theorem sub1 {i:Nat} (h:0<i) (hi:i<=9223372036854775807) (t:TypeId):binFast E .sub t (.int .i64 (i:Int)) (.int .i64 1)=some (.int .i64 ((i-1:Nat):Int)):=by
 rw [bf_sub _ (by unfold in64;omega)]
 congr 2;omega
theorem call121 {h0 k:AH} {x:Value} {L:GL} (hr:RL h0 x L) (hk:Ext h0 k):(recI E).call 121 [x] k=some [(.int .i64 (if badLts L then 8 else 0),k)]:=by
 obtain ⟨vl,ve,elsL,hx,haL,hL,haE⟩:=hr.ex
 obtain ⟨aL,cL,hvl⟩:=haL.slice
 obtain ⟨aE,cE,hve⟩:=haE.slice
 rw [RLab.length hL] at hvl
 rw [List.length_map] at hve
 subst hvl
 subst hve
 subst hx
 refine F121_flat (s:=true) hk.ok rfl (P121_0_of ?_)
 simp only [new_row,ev_one,cells_agg,evO_some]
 refine P121_1_of ?_
 have o1:=(Own.fresh k).new (.row [.int .i64 L.n,.slice aL L.labs.length cL,.slice aE L.eds.length cE] 25 0 false)
 have t1:=get_new_self k.fresh (.row [.int .i64 L.n,.slice aL L.labs.length cL,.slice aE L.eds.length cE] 25 0 false)
 simp only [next_fresh] at t1 ⊢
 have n1:(k.fresh.new (.row [.int .i64 L.n,.slice aL L.labs.length cL,.slice aE L.eds.length cE] 25 0 false)).next=k.next+1:=rfl
 generalize k.fresh.new (.row [.int .i64 L.n,.slice aL L.labs.length cL,.slice aE L.eds.length cE] 25 0 false)=k1 at o1 t1 n1
 have box:∀ l,Ext k1 l->l.get k.next=some (.row [.int .i64 L.n,.slice aL L.labs.length cL,.slice aE L.eds.length cE] 25 0 false):=fun l hl=>(hl.get _ (by omega)).trans t1
 have edges:∀ (hs:badSize L=false) (m i:Nat),i+m=L.eds.length->∀ l,Ext k1 l->k.next<=l.wm->
   P121_11 true (kf8 k (anyFrom (edBadAt L.n L.labs.length L.eds) m i)) (.pointer (some ⟨k.next,0,none⟩)) (.func (.func 169) #[] #[]) (.slice aE L.eds.length cE) (.int .i64 (L.eds.length:Int)) (.int .i64 (i:Int)) l:=by
  intro hs m
  have hle:L.eds.length<=100000:=by simp [badSize] at hs;omega
  induction m with
  | zero=>
   intro i hi l hl hw
   refine P121_11_of ?_
   simp only [bf_lss,evO_some,brK_d]
   refine ⟨fun h=>by omega,fun _=>P121_16_of ?_⟩
   simp [evO_some,kR_1,ne_ret,anyFrom,hw]
  | succ m ih=>
   intro i hi l hl hw
   have hin:i<L.eds.length:=by omega
   refine P121_11_of ?_
   simp only [bf_lss,evO_some,brK_d]
   refine ⟨fun _=>P121_12_of ?_,fun h=>by omega⟩
   have hat:(L.eds.map edCells)[i]?=some (edCells L.eds[i]):=by simp [hin]
   obtain ⟨b,o,c,vs,ty,es,ro,hv,hb,hlt,hle2,hz,hzl⟩:=haE.load hat
   simp only [Value.slice.injEq] at hv
   obtain ⟨hv1,_,hv3⟩:=hv
   subst hv1
   have he0:Ext h0 l:=(hk.trans o1.ext).trans hl
   have gb:l.get b=some (.row vs ty es ro):=(he0.get b hlt).trans hb
   simp only [evO_some,ia_23 hin,load_agg ta_52 gb hle2,hz,z_52,new_row,ev_one,cells_agg]
   rw [store_of (P:=E) ts_52 (x:=.agg ⟨edCells L.eds[i]⟩) (cs:=edCells L.eds[i]) (get_new_self l _) rfl hzl (by simp) (by simp [edCells,isLeaf])]
   simp only [ev_one]
   rw [put3i _ hzl]
   have hkl:=hl.next
   have e2:=(hl.new (.row [.int .i64 0,.int .i64 0,.int .i64 0] 52 0 false)).upd (b:=l.next) hkl (some (.row (edCells L.eds[i]) 52 0 false))
   have w2:k.next<=((l.new (.row [.int .i64 0,.int .i64 0,.int .i64 0] 52 0 false)).upd l.next (some (.row (edCells L.eds[i]) 52 0 false))).wm:=wm_upd_le (by rw [wm_new];exact hw) (by omega)
   have t2:((l.new (.row [.int .i64 0,.int .i64 0,.int .i64 0] 52 0 false)).upd l.next (some (.row (edCells L.eds[i]) 52 0 false))).get l.next=some (.row (edCells L.eds[i]) 52 0 false):=get_upd_self _ _ _
   have g2:((l.new (.row [.int .i64 0,.int .i64 0,.int .i64 0] 52 0 false)).upd l.next (some (.row (edCells L.eds[i]) 52 0 false))).get b=some (.row vs ty es ro):=by
    have h1:=hk.next
    have h2:=o1.ext.next
    rw [get_upd_ne (by omega),get_new_ne (by omega)];exact gb
   generalize ((l.new (.row [.int .i64 0,.int .i64 0,.int .i64 0] 52 0 false)).upd l.next (some (.row (edCells L.eds[i]) 52 0 false)))=l2 at e2 w2 t2 g2
   refine P121_13_of ?_
   have b2:=box l2 e2
   have ok2:=e2.ok
   have n0:=load_leaf (P:=E) ta_3 (o:=0) b2
   have n1:=load_leaf (P:=E) ta_22 (o:=1) b2
   have n2:=load_leaf (P:=E) ta_23 (o:=2) b2
   have c0:=load_leaf (P:=E) ta_3 (o:=0) t2
   have c1:=load_leaf (P:=E) ta_3 (o:=1) t2
   have c2:=load_leaf (P:=E) ta_3 (o:=2) t2
   have ca:=load_agg (P:=E) ta_52 (o:=0) t2 (by simp [edCells])
   rw [List.drop_zero,List.take_of_length_le (by simp [edCells])] at ca
   simp only [lnth,edCells] at n0 n1 n2 c0 c1 c2
   have hend:∀ bad:Bool,edBadAt L.n L.labs.length L.eds i=bad->(BrK (some (.bool bad)) (P121_14 true (kf8 k (anyFrom (edBadAt L.n L.labs.length L.eds) (m+1) i)) l2) (P121_15 true (kf8 k (anyFrom (edBadAt L.n L.labs.length L.eds) (m+1) i)) (.pointer (some ⟨k.next,0,none⟩)) (.func (.func 169) #[] #[]) (.slice (some ⟨b,o,none⟩) L.eds.length cE) (.int .i64 (L.eds.length:Int)) (.int .i64 (i:Int)) l2)):=by
    intro bad hbad
    cases bad with
    | true=>
     rw [brK_t]
     refine P121_14_of ?_
     simp [evO_some,kR_1,ne_ret,w2,anyFrom,hbad]
    | false=>
     rw [brK_f]
     refine P121_15_of ?_
     simp only [bf_add _ (add1 hin (by omega)),evO_some]
     have:=ih (i+1) (by omega) l2 e2 w2
     simp only [anyFrom,hbad,Bool.false_or]
     simpa using this
   simp only [fa_52_0,fa_52_1,fa_52_2,fa_25_0,Nat.add_zero,Nat.zero_add,n0,c0,c1,c2,evO_some,wCall_0,call169 ok2,ev_some,uf_not,gdB_bool,gdW_bool]
   have hatE:L.eds[i]?=some L.eds[i]:=List.getElem?_eq_getElem hin
   have q2:=call169 (k:=l2) (a:=L.eds[i].2.2) (b:=L.n) ok2
   have q3:=call169 (k:=l2) (a:=L.eds[i].2.1) (b:=(L.labs.length:Int)) ok2
   have hedge:edBadAt L.n L.labs.length L.eds i=(!(decide (0<=L.eds[i].1)&&decide (L.eds[i].1<L.n))||!(decide (0<=L.eds[i].2.2)&&decide (L.eds[i].2.2<L.n))||!(decide (0<=L.eds[i].2.1)&&decide (L.eds[i].2.1<(L.labs.length:Int)))||(decide (0<i)&&match L.eds[i-1]? with
    | some f=>decide (0<=cmpE f L.eds[i])
    | none=>false)):=by simp only [edBadAt,hatE]
   generalize (decide (0<=L.eds[i].1)&&decide (L.eds[i].1<L.n))=A at hedge ⊢
   generalize (decide (0<=L.eds[i].2.2)&&decide (L.eds[i].2.2<L.n))=B at hedge q2
   generalize (decide (0<=L.eds[i].2.1)&&decide (L.eds[i].2.1<(L.labs.length:Int)))=D at hedge q3
   cases A with
   | false=>
    have:=hend true (by rw [hedge];rfl)
    simpa only [Bool.not_false,Bool.not_true,beq_self_eq_true,show (true==false)=false from rfl,show (false==true)=false from rfl,cond_true,cond_false,evO_some,ev_some,uf_not,gdB_bool,gdW_bool,gdB_undef,gdW_undef,pick_bool,ev_one] using this
   | true=>
    simp only [Bool.not_false,Bool.not_true,beq_self_eq_true,show (true==false)=false from rfl,show (false==true)=false from rfl,cond_true,cond_false,evO_some,ev_some,uf_not,gdB_bool,gdW_bool,pick_bool,ev_one,fa_52_0,fa_52_1,fa_52_2,fa_25_0,fa_25_1,fa_25_2,Nat.add_zero,Nat.zero_add,n0,n1,n2,c0,c1,c2,wCall_0,q2]
    cases B with
    | false=>
     have:=hend true (by rw [hedge];rfl)
     simpa only [Bool.not_false,Bool.not_true,beq_self_eq_true,show (true==false)=false from rfl,show (false==true)=false from rfl,cond_true,cond_false,evO_some,ev_some,uf_not,gdB_bool,gdW_bool,gdB_undef,gdW_undef,pick_bool,ev_one] using this
    | true=>
     simp only [Bool.not_false,Bool.not_true,beq_self_eq_true,show (true==false)=false from rfl,show (false==true)=false from rfl,cond_true,cond_false,evO_some,ev_some,uf_not,gdB_bool,gdW_bool,pick_bool,ev_one,fa_52_0,fa_52_1,fa_52_2,fa_25_0,fa_25_1,fa_25_2,Nat.add_zero,Nat.zero_add,n0,n1,n2,c0,c1,c2,wCall_0,len121_13_22,q3]
     cases D with
     | false=>
      have:=hend true (by rw [hedge];rfl)
      simpa only [Bool.not_false,Bool.not_true,beq_self_eq_true,show (true==false)=false from rfl,show (false==true)=false from rfl,cond_true,cond_false,evO_some,ev_some,uf_not,gdB_bool,gdW_bool,gdB_undef,gdW_undef,pick_bool,ev_one] using this
     | true=>
      simp only [Bool.not_false,Bool.not_true,beq_self_eq_true,show (true==false)=false from rfl,show (false==true)=false from rfl,cond_true,cond_false,evO_some,ev_some,uf_not,gdB_bool,gdW_bool,pick_bool,ev_one,bf_gtr]
      by_cases d4:0<i
      ·have d4':(0:Int)<i:=by omega
       have hin':i-1<L.eds.length:=by omega
       have hat':(L.eds.map edCells)[i-1]?=some (edCells L.eds[i-1]):=by simp [hin']
       obtain ⟨b',o',c',vs',ty',es',ro',hv',hb',hlt',hle2',hz',hzl'⟩:=haE.load hat'
       simp only [Value.slice.injEq] at hv'
       obtain ⟨hv1',_,_⟩:=hv'
       cases hv1'
       rw [hb] at hb'
       cases hb'
       have hee:edBadAt L.n L.labs.length L.eds i=decide (0<=cmpE L.eds[i-1] L.eds[i]):=by rw [hedge,List.getElem?_eq_getElem hin'];simp [d4]
       have:=hend (decide (0<=cmpE L.eds[i-1] L.eds[i])) hee
       simpa only [d4',bf_gtr,decide_true,Bool.not_false,Bool.not_true,beq_self_eq_true,show (true==false)=false from rfl,show (false==true)=false from rfl,cond_true,cond_false,evO_some,ev_some,uf_not,gdB_bool,gdW_bool,pick_bool,ev_one,fa_25_2,Nat.zero_add,n2,sub1 d4 (by omega:i<=9223372036854775807),ia_23 hin',load_agg ta_52 g2 hle2',hz',ca,wCall_0,call170 ok2,bf_geq] using this
      ·have d4':¬ (0:Int)<i:=by omega
       have:=hend false (by rw [hedge];simp [d4])
       simpa only [d4',bf_gtr,decide_false,Bool.not_false,Bool.not_true,beq_self_eq_true,show (true==false)=false from rfl,show (false==true)=false from rfl,cond_true,cond_false,evO_some,ev_some,uf_not,gdB_bool,gdW_bool,gdB_undef,gdW_undef,pick_bool,ev_one] using this
 have labels:∀ (hs:badSize L=false) (m i:Nat),i+m=L.labs.length->∀ l,Ext k1 l->k.next<=l.wm->
   P121_4 true (kf8 k (anyFrom (labBadAt L.labs) m i||anyFrom (edBadAt L.n L.labs.length L.eds) L.eds.length 0)) (.pointer (some ⟨k.next,0,none⟩)) (.slice aL L.labs.length cL) (.int .i64 (L.labs.length:Int)) (.int .i64 (i:Int)) l:=by
  intro hs m
  have hle:L.labs.length<=4000:=by simp [badSize] at hs;omega
  induction m with
  | zero=>
   intro i hi l hl hw
   refine P121_4_of ?_
   simp only [bf_lss,evO_some,brK_d]
   refine ⟨fun h=>by omega,fun _=>P121_9_of ?_⟩
   refine P121_10_of ?_
   have b2:=box l hl
   have n2:=load_leaf (P:=E) ta_23 (o:=2) b2
   simp only [lnth] at n2
   simp only [fa_25_2,Nat.zero_add,n2,evO_some,len121_10_2]
   have:=edges hs L.eds.length 0 (by omega) l hl hw
   simpa [anyFrom] using this
  | succ m ih=>
   intro i hi l hl hw
   have hin:i<L.labs.length:=by omega
   have hin2:i<elsL.length:=by rw [RLab.length hL];exact hin
   refine P121_4_of ?_
   simp only [bf_lss,evO_some,brK_d]
   refine ⟨fun _=>P121_5_of ?_,fun h=>by omega⟩
   obtain ⟨g,v,lt,hel,hrt,hatL⟩:=RLab.at hL i _ (List.getElem?_eq_getElem hin2)
   obtain ⟨b,o,c,vs,ty,es,ro,hv,hb,hlt,hle2,hz,hzl⟩:=haL.load (List.getElem?_eq_getElem hin2)
   rw [hel] at hz hzl
   simp only [Value.slice.injEq] at hv
   obtain ⟨hv1,_,hv3⟩:=hv
   subst hv1
   have he0:Ext h0 l:=(hk.trans o1.ext).trans hl
   have gb:l.get b=some (.row vs ty es ro):=(he0.get b hlt).trans hb
   simp only [evO_some,ia_22 hin,load_agg ta_36 gb hle2,hz,z_36,new_row,ev_one,cells_agg]
   rw [store_of (P:=E) ts_36 (x:=.agg ⟨[.int .i64 g,v]⟩) (cs:=[.int .i64 g,v]) (get_new_self l _) rfl hzl (by simp) (by simp [isLeaf];exact rt_leaf hrt)]
   simp only [ev_one]
   rw [put2 _ hzl]
   have hkl:=hl.next
   have e2:=(hl.new (.row [.int .i64 0,.slice none 0 0] 36 0 false)).upd (b:=l.next) hkl (some (.row [.int .i64 g,v] 36 0 false))
   have w2:k.next<=((l.new (.row [.int .i64 0,.slice none 0 0] 36 0 false)).upd l.next (some (.row [.int .i64 g,v] 36 0 false))).wm:=wm_upd_le (by rw [wm_new];exact hw) (by omega)
   have t2:((l.new (.row [.int .i64 0,.slice none 0 0] 36 0 false)).upd l.next (some (.row [.int .i64 g,v] 36 0 false))).get l.next=some (.row [.int .i64 g,v] 36 0 false):=get_upd_self _ _ _
   have g2:((l.new (.row [.int .i64 0,.slice none 0 0] 36 0 false)).upd l.next (some (.row [.int .i64 g,v] 36 0 false))).get b=some (.row vs ty es ro):=by
    have h1:=hk.next
    have h2:=o1.ext.next
    rw [get_upd_ne (by omega),get_new_ne (by omega)];exact gb
   generalize ((l.new (.row [.int .i64 0,.slice none 0 0] 36 0 false)).upd l.next (some (.row [.int .i64 g,v] 36 0 false)))=l2 at e2 w2 t2 g2
   refine P121_6_of ?_
   have b2:=box l2 e2
   have he2:Ext h0 l2:=(hk.trans o1.ext).trans e2
   have n1:=load_leaf (P:=E) ta_22 (o:=1) b2
   have ca:=load_agg (P:=E) ta_36 (o:=0) t2 (by simp)
   simp only [lnth,List.drop_zero,List.take] at n1 ca
   have hend:∀ bad:Bool,labBadAt L.labs i=bad->(BrK (some (.bool bad)) (P121_7 true (kf8 k (anyFrom (labBadAt L.labs) (m+1) i||anyFrom (edBadAt L.n L.labs.length L.eds) L.eds.length 0)) l2) (P121_8 true (kf8 k (anyFrom (labBadAt L.labs) (m+1) i||anyFrom (edBadAt L.n L.labs.length L.eds) L.eds.length 0)) (.pointer (some ⟨k.next,0,none⟩)) (.slice (some ⟨b,o,none⟩) L.labs.length cL) (.int .i64 (L.labs.length:Int)) (.int .i64 (i:Int)) l2)):=by
    intro bad hbad
    cases bad with
    | true=>
     rw [brK_t]
     refine P121_7_of ?_
     simp [evO_some,kR_1,ne_ret,w2,anyFrom,hbad]
    | false=>
     rw [brK_f]
     refine P121_8_of ?_
     simp only [bf_add _ (add1 hin (by omega)),evO_some]
     have:=ih (i+1) (by omega) l2 e2 w2
     simp only [anyFrom,hbad,Bool.false_or]
     simpa using this
   simp only [ca,evO_some,wCall_0,call167 hrt he2,ev_some,bf_neq]
   have hlab:labBadAt L.labs i=(badLab g lt||(decide (0<i)&&match L.labs[i-1]? with
    | some y=>decide (0<=cmpLab y.1 y.2 g lt)
    | none=>false)):=by simp only [labBadAt,hatL]
   cases hA:badLab g lt with
   | true=>
    have:=hend true (by rw [hlab,hA];rfl)
    simpa only [hA,if_true,show (!decide ((170:Int)=0))=true from rfl,Bool.not_false,Bool.not_true,beq_self_eq_true,show (true==false)=false from rfl,show (false==true)=false from rfl,cond_true,cond_false,evO_some,ev_some,uf_not,gdB_bool,gdW_bool,gdB_undef,gdW_undef,pick_bool,ev_one] using this
   | false=>
    simp only [hA,Bool.false_eq_true,if_false,decide_true,Bool.not_false,Bool.not_true,beq_self_eq_true,show (true==false)=false from rfl,show (false==true)=false from rfl,cond_true,cond_false,evO_some,ev_some,uf_not,gdB_bool,gdW_bool,gdB_undef,gdW_undef,pick_bool,ev_one,bf_gtr]
    by_cases d4:0<i
    ·have d4':(0:Int)<i:=by omega
     have hin':i-1<L.labs.length:=by omega
     have hin2':i-1<elsL.length:=by rw [RLab.length hL];exact hin'
     obtain ⟨g',v',lt',hel',hrt',hatL'⟩:=RLab.at hL (i-1) _ (List.getElem?_eq_getElem hin2')
     obtain ⟨b',o',c',vs',ty',es',ro',hv',hb',hlt',hle2',hz',hzl'⟩:=haL.load (List.getElem?_eq_getElem hin2')
     rw [hel'] at hz' hzl'
     simp only [Value.slice.injEq] at hv'
     obtain ⟨hv1',_,_⟩:=hv'
     cases hv1'
     rw [hb] at hb'
     cases hb'
     have hee:labBadAt L.labs i=decide (0<=cmpLab g' lt' g lt):=by rw [hlab,hA,hatL'];simp [d4]
     have:=hend (decide (0<=cmpLab g' lt' g lt)) hee
     simpa only [d4',bf_gtr,decide_true,Bool.not_false,Bool.not_true,beq_self_eq_true,show (true==false)=false from rfl,show (false==true)=false from rfl,cond_true,cond_false,evO_some,ev_some,uf_not,gdB_bool,gdW_bool,gdB_undef,gdW_undef,pick_bool,ev_one,fa_25_1,Nat.zero_add,n1,sub1 d4 (by omega:i<=9223372036854775807),ia_22 hin',load_agg ta_36 g2 hle2',hz',ca,wCall_0,call168 hrt' hrt he2,bf_geq] using this
    ·have d4':¬ (0:Int)<i:=by omega
     have:=hend false (by rw [hlab,hA];simp [d4])
     simpa only [d4',bf_gtr,decide_false,Bool.not_false,Bool.not_true,beq_self_eq_true,show (true==false)=false from rfl,show (false==true)=false from rfl,cond_true,cond_false,evO_some,ev_some,uf_not,gdB_bool,gdW_bool,gdB_undef,gdW_undef,pick_bool,ev_one] using this
 have n0:=load_leaf (P:=E) ta_3 (o:=0) t1
 have n1':=load_leaf (P:=E) ta_22 (o:=1) t1
 have n2:=load_leaf (P:=E) ta_23 (o:=2) t1
 simp only [lnth] at n0 n1' n2
 have hend:∀ bad:Bool,badSize L=bad->(BrK (some (.bool bad)) (P121_2 true (kf8 k (badLts L)) k1) (P121_3 true (kf8 k (badLts L)) (.pointer (some ⟨k.next,0,none⟩)) k1)):=by
  intro bad hbad
  cases bad with
  | true=>
   rw [brK_t]
   refine P121_2_of ?_
   simp [evO_some,kR_1,ne_ret,o1.wm,badLts,hbad]
  | false=>
   rw [brK_f]
   refine P121_3_of ?_
   simp only [fa_25_1,Nat.zero_add,n1',evO_some,len121_3_2]
   have:=labels hbad L.labs.length 0 (by omega) k1 (Ext.refl o1.ext.ok) o1.wm
   simp only [badLts,hbad,Bool.false_or]
   simpa using this
 simp only [fa_25_0,Nat.add_zero,n0,evO_some,bf_lss]
 by_cases d1:L.n<1
 ·have:=hend true (by simp [badSize,d1])
  simpa only [d1,decide_true,Bool.not_false,Bool.not_true,beq_self_eq_true,show (true==false)=false from rfl,show (false==true)=false from rfl,cond_true,cond_false,evO_some,ev_some,uf_not,gdB_bool,gdW_bool,gdB_undef,gdW_undef,pick_bool,ev_one] using this
 ·simp only [d1,decide_false,Bool.not_false,Bool.not_true,beq_self_eq_true,show (true==false)=false from rfl,show (false==true)=false from rfl,cond_true,cond_false,evO_some,ev_some,uf_not,gdB_bool,gdW_bool,gdB_undef,gdW_undef,pick_bool,ev_one,fa_25_0,Nat.add_zero,n0,bf_gtr]
  by_cases d2:20000<L.n
  ·have:=hend true (by simp [badSize,d2])
   simpa only [d2,decide_true,Bool.not_false,Bool.not_true,beq_self_eq_true,show (true==false)=false from rfl,show (false==true)=false from rfl,cond_true,cond_false,evO_some,ev_some,uf_not,gdB_bool,gdW_bool,gdB_undef,gdW_undef,pick_bool,ev_one] using this
  ·simp only [d2,decide_false,Bool.not_false,Bool.not_true,beq_self_eq_true,show (true==false)=false from rfl,show (false==true)=false from rfl,cond_true,cond_false,evO_some,ev_some,uf_not,gdB_bool,gdW_bool,gdB_undef,gdW_undef,pick_bool,ev_one,fa_25_1,Nat.zero_add,n1',len121_1_11,bf_gtr]
   by_cases d3:4000<L.labs.length
   ·have d3':(4000:Int)<L.labs.length:=by omega
    have:=hend true (by simp [badSize,d3])
    simpa only [d3',decide_true,Bool.not_false,Bool.not_true,beq_self_eq_true,show (true==false)=false from rfl,show (false==true)=false from rfl,cond_true,cond_false,evO_some,ev_some,uf_not,gdB_bool,gdW_bool,gdB_undef,gdW_undef,pick_bool,ev_one] using this
   ·have d3':¬ (4000:Int)<L.labs.length:=by omega
    simp only [d3',decide_false,Bool.not_false,Bool.not_true,beq_self_eq_true,show (true==false)=false from rfl,show (false==true)=false from rfl,cond_true,cond_false,evO_some,ev_some,uf_not,gdB_bool,gdW_bool,gdB_undef,gdW_undef,pick_bool,ev_one,fa_25_2,Nat.zero_add,n2,len121_1_17,bf_gtr]
    by_cases d4:100000<L.eds.length
    ·have d4':(100000:Int)<L.eds.length:=by omega
     have:=hend true (by simp [badSize,d4])
     simpa only [d4',bf_gtr,decide_true,Bool.not_false,Bool.not_true,beq_self_eq_true,show (true==false)=false from rfl,show (false==true)=false from rfl,cond_true,cond_false,evO_some,ev_some,uf_not,gdB_bool,gdW_bool,gdB_undef,gdW_undef,pick_bool,ev_one] using this
    ·have d4':¬ (100000:Int)<L.eds.length:=by omega
     have:=hend false (by simp [badSize,d1,d2,d3,d4])
     simpa only [d4',bf_gtr,decide_false,Bool.not_false,Bool.not_true,beq_self_eq_true,show (true==false)=false from rfl,show (false==true)=false from rfl,cond_true,cond_false,evO_some,ev_some,uf_not,gdB_bool,gdW_bool,gdB_undef,gdW_undef,pick_bool,ev_one] using this
end Go.Proofs
namespace Go.Proofs
open Go Go.AM
set_option maxRecDepth 100000
set_option maxHeartbeats 1000000
def badAt (Ls:List GL) (i:Nat):Bool:=match Ls[i]? with
 | some L=>badLts L
 | none=>false
theorem put3g:∀ (e:List Value),e.length=3->lput [Value.int .i64 0,.slice none 0 0,.slice none 0 0] 0 e=e:=by
 intro e he
 match e,he with
 | [x,y,z],_=>rfl
theorem RL.leafs {h:AH} {e:List Value} {L:GL} (r:RL h (.agg ⟨e⟩) L):e.all isLeaf=true/\e.length=3:=by
 obtain ⟨vl,ve,els,a,b,c,d⟩:=r.ex
 obtain ⟨x1,x2,rfl⟩:=b.slice
 obtain ⟨y1,y2,rfl⟩:=d.slice
 simp only [Value.agg.injEq] at a
 have:e=[.int .i64 L.n,.slice x1 els.length x2,.slice y1 (L.eds.map edCells).length y2]:=by
  have:=congrArg Array.toList a
  simpa using this
 rw [this]
 simp [isLeaf]
theorem call70 {h0 k:AH} {v:Value} {els:List (List Value)} {Ls:List GL} (ha:Arr h0 3 v els) (hn:els.length=Ls.length) (hle:els.length<=1000) (hr:∀ (i:Nat) (e:List Value) (L:GL),els[i]?=some e->Ls[i]?=some L->RL h0 (.agg ⟨e⟩) L) (hk:Ext h0 k) :
  (recI E).call 70 [v] k=some [(.int .i64 (if anyFrom (badAt Ls) els.length 0 then 8 else 0),k)]:=by
 obtain ⟨ad,c,hv⟩:=ha.slice
 subst hv
 refine F70_flat (s:=true) hk.ok rfl (P70_0_of ?_)
 refine P70_1_of ?_
 simp only [evO_some,len70_1_1]
 have loop:∀ (m i:Nat),i+m=els.length->∀ l,Own k l->P70_2 true (KR E [.tmp 2] (fun x l=>x=.int .i64 (if anyFrom (badAt Ls) m i then 8 else 0)/\k.next<=l.wm)) (.slice ad els.length c) (.int .i64 (els.length:Int)) (.int .i64 (i:Int)) l:=by
  intro m
  induction m with
  | zero=>
   intro i hi l hl
   refine P70_2_of ?_
   simp only [bf_lss,evO_some,brK_d]
   refine ⟨fun h=>by omega,fun _=>P70_7_of ?_⟩
   simp [evO_some,kR_1,ne_ret,anyFrom,hl.wm]
  | succ m ih=>
   intro i hi l hl
   have hin:i<els.length:=by omega
   have hin':i<Ls.length:=by omega
   refine P70_2_of ?_
   simp only [bf_lss,evO_some,brK_d]
   refine ⟨fun _=>P70_3_of ?_,fun h=>by omega⟩
   obtain ⟨b,o,c',vs,ty,es,ro,hv,hb,hlt,hle2,hz,hzl⟩:=ha.load (List.getElem?_eq_getElem hin)
   simp only [Value.slice.injEq] at hv
   obtain ⟨hv1,_,hv3⟩:=hv
   subst hv1
   have hRL:=hr i _ _ (List.getElem?_eq_getElem hin) (List.getElem?_eq_getElem hin')
   have he0:Ext h0 l:=hk.trans hl.ext
   have gb:l.get b=some (.row vs ty es ro):=(he0.get b hlt).trans hb
   simp only [evO_some,ia_82 hin,load_agg ta_25 gb hle2,hz,z_25,new_row,ev_one,cells_agg]
   rw [store_of (P:=E) ts_25 (x:=.agg ⟨els[i]⟩) (cs:=els[i]) (get_new_self l _) rfl hzl (by simp) hRL.leafs.1]
   simp only [ev_one]
   rw [put3g _ hzl]
   have hkl:=hl.ext.next
   have o2:=(hl.new (.row [.int .i64 0,.slice none 0 0,.slice none 0 0] 25 0 false)).upd (b:=l.next) hkl (some (.row els[i] 25 0 false))
   have t2:((l.new (.row [.int .i64 0,.slice none 0 0,.slice none 0 0] 25 0 false)).upd l.next (some (.row els[i] 25 0 false))).get l.next=some (.row els[i] 25 0 false):=get_upd_self _ _ _
   generalize ((l.new (.row [.int .i64 0,.slice none 0 0,.slice none 0 0] 25 0 false)).upd l.next (some (.row els[i] 25 0 false)))=l2 at o2 t2
   refine P70_4_of ?_
   have ca:=load_agg (P:=E) ta_25 (o:=0) t2 (by omega)
   rw [List.drop_zero,List.take_of_length_le (by omega)] at ca
   simp only [ca,evO_some,wCall_0,call121 hRL (hk.trans o2.ext),ev_some,bf_neq]
   have hat:badAt Ls i=badLts Ls[i]:=by unfold badAt;rw [List.getElem?_eq_getElem hin']
   cases hb:badLts Ls[i] with
   | true=>
    simp only [if_true,show (!decide ((8:Int)=0))=true from rfl,brK_t]
    refine P70_5_of ?_
    simp [evO_some,kR_1,ne_ret,anyFrom,hat,hb,o2.wm]
   | false=>
    simp only [Bool.false_eq_true,if_false,decide_true,Bool.not_true,brK_f]
    refine P70_6_of ?_
    simp only [bf_add _ (add1 hin (by omega)),evO_some]
    have:=ih (i+1) (by omega) l2 o2
    simp only [anyFrom,hat,hb,Bool.false_or]
    simpa using this
 exact loop els.length 0 (by omega) _ (Own.fresh k)
def isMan (k:Int):Bool:=decide (k=1)||decide (k=2)
theorem call105 {k:AH} {a:Int} (hok:k.ok):(recI E).call 105 [.int .i64 a] k=some [(.bool (isMan a),k)]:=by
 refine F105_flat (s:=true) hok rfl (P105_0_of ?_)
 refine P105_1_of ?_
 simp only [evO_some,bf_eql]
 by_cases c:a=1
 ·simp [c,isMan,evO_some,gdB_bool,pick_bool,kR_1,ne_ret]
 ·simp [c,isMan,evO_some,gdB_bool,pick_bool,kR_1,ne_ret,bf_eql]
def prCells (p:Int×Int):List Value:=[.int .i64 p.1,.int .i64 p.2]
def cmpP (p q:Int×Int):Int:=orI [c3 p.1 q.1,c3 p.2 q.2]
theorem ia54_0 {b o:Nat}:pIndexAddr E 54 (some (.pointer (some ⟨b,o,none⟩))) (some (.int .i64 0))=some (.pointer (some ⟨b,o+0,none⟩)):=ia_54 (k:=0) (by omega)
theorem ia54_1 {b o:Nat}:pIndexAddr E 54 (some (.pointer (some ⟨b,o,none⟩))) (some (.int .i64 1))=some (.pointer (some ⟨b,o+1,none⟩)):=ia_54 (k:=1) (by omega)
theorem call122 {k:AH} {e f:Int×Int} (hok:k.ok):(recI E).call 122 [.agg ⟨prCells e⟩,.agg ⟨prCells f⟩] k=some [(.int .i64 (cmpP e f),k)]:=by
 refine F122_flat (s:=true) hok rfl (P122_0_of ?_)
 simp only [new_row,ev_one,cells_agg,evO_some]
 refine P122_1_of ?_
 have o1:=((Own.fresh k).new (.row (prCells e) 54 0 false)).new (.row (prCells f) 54 0 false)
 have t1:((k.fresh.new (.row (prCells e) 54 0 false)).new (.row (prCells f) 54 0 false)).get k.next=some (.row (prCells e) 54 0 false):=by
  rw [get_new_ne (by simp)];exact get_new_self k.fresh _
 have t2:((k.fresh.new (.row (prCells e) 54 0 false)).new (.row (prCells f) 54 0 false)).get (k.next+1)=some (.row (prCells f) 54 0 false):=get_new_self (k.fresh.new _) _
 simp only [next_fresh,AH.next_new]
 generalize ((k.fresh.new (.row (prCells e) 54 0 false)).new (.row (prCells f) 54 0 false))=k1 at o1 t1 t2
 have l0:=load_leaf (P:=E) ta_3 (o:=0) t1
 have l1:=load_leaf (P:=E) ta_3 (o:=1) t1
 have m0:=load_leaf (P:=E) ta_3 (o:=0) t2
 have m1:=load_leaf (P:=E) ta_3 (o:=1) t2
 simp only [lnth,prCells] at l0 l1 m0 m1
 simp only [ia54_0,ia54_1,Nat.add_zero,Nat.zero_add,l0,l1,m0,m1,evO_some,wCall_0,call94 o1.ext.ok,ev_some,veq_int,true_and,bs47_2,ev_one]
 rw [or2 o1.ext.ok]
 simp only [ev_some,evO_some,kR_1,ne_ret,true_and]
 exact ⟨rfl,o1.wm⟩
structure GB where
 kind:Int
 prs:List (Int×Int)
structure RB (h:AH) (e:List Value) (B:GB):Prop where
 ex:∃ vp,e=[.int .i64 B.kind,vp]/\Arr h 2 vp (B.prs.map prCells)
theorem RB.ext {h k:AH} {e:List Value} {B:GB} (r:RB h e B) (x:Ext h k):RB k e B:=let ⟨v,a,b⟩:=r.ex;⟨v,a,b.ext x⟩
def prBadAt (ps:List (Int×Int)) (i:Nat):Bool:=match ps[i]? with
 | some p=>decide (p.1<0)||decide (p.2<0)||(decide (0<i)&&match ps[i-1]? with
  | some q=>decide (0<=cmpP q p)
  | none=>false)
 | none=>false
def lnkErr (B:GB):Int:=if isMan B.kind=false then 361 else if 200000<B.prs.length then 360 else if anyFrom (prBadAt B.prs) B.prs.length 0 then 360 else 0
def errAt (Bs:List GB) (i:Nat):Int:=match Bs[i]? with
 | some B=>lnkErr B
 | none=>0
def errFrom (Bs:List GB):Nat->Nat->Int
 | 0,_=>0
 | m+1,i=>if errAt Bs i≠0 then errAt Bs i else errFrom Bs m (i+1)
abbrev kfe (k:AH) (n:Int):KF:=KR E [.tmp 2] (fun x m=>x=.int .i64 n/\k.next<=m.wm)
theorem put2b:∀ (e:List Value),e.length=2->lput [Value.int .i64 0,.int .i64 0] 0 e=e:=by
 intro e he
 match e,he with
 | [x,y],_=>rfl
theorem call71 {h0 k:AH} {v:Value} {els:List (List Value)} {Bs:List GB} (ha:Arr h0 2 v els) (hn:els.length=Bs.length) (hle:els.length<=1000) (hr:∀ (i:Nat) (e:List Value) (B:GB),els[i]?=some e->Bs[i]?=some B->RB h0 e B) (hk:Ext h0 k) :
  (recI E).call 71 [v] k=some [(.int .i64 (errFrom Bs els.length 0),k)]:=by
 obtain ⟨ad,c,hv⟩:=ha.slice
 subst hv
 refine F71_flat (s:=true) hk.ok rfl (P71_0_of ?_)
 refine P71_1_of ?_
 simp only [evO_some,len71_1_1]
 have loop:∀ (m i:Nat),i+m=els.length->∀ l,Own k l->P71_2 true (kfe k (errFrom Bs m i)) (.slice ad els.length c) (.int .i64 (els.length:Int)) (.int .i64 (i:Int)) l:=by
  intro m
  induction m with
  | zero=>
   intro i hi l hl
   refine P71_2_of ?_
   simp only [bf_lss,evO_some,brK_d]
   refine ⟨fun h=>by omega,fun _=>P71_15_of ?_⟩
   simp [evO_some,kR_1,ne_ret,errFrom,hl.wm]
  | succ m ih=>
   intro i hi l hl
   have hin:i<els.length:=by omega
   have hin':i<Bs.length:=by omega
   refine P71_2_of ?_
   simp only [bf_lss,evO_some,brK_d]
   refine ⟨fun _=>P71_3_of ?_,fun h=>by omega⟩
   obtain ⟨b,o,c',vs,ty,es,ro,hv,hb,hlt,hle2,hz,hzl⟩:=ha.load (List.getElem?_eq_getElem hin)
   simp only [Value.slice.injEq] at hv
   obtain ⟨hv1,_,hv3⟩:=hv
   subst hv1
   obtain ⟨vp,hel,hap⟩:=(hr i _ _ (List.getElem?_eq_getElem hin) (List.getElem?_eq_getElem hin')).ex
   have hat:errAt Bs i=lnkErr Bs[i]:=by unfold errAt;rw [List.getElem?_eq_getElem hin']
   generalize hB:Bs[i]=B at hel hap hat
   obtain ⟨ap,cp,hvp⟩:=hap.slice
   rw [List.length_map] at hvp
   subst hvp
   rw [hel] at hz hzl
   have he0:Ext h0 l:=hk.trans hl.ext
   have gb:l.get b=some (.row vs ty es ro):=(he0.get b hlt).trans hb
   simp only [evO_some,ia_83 hin,load_agg ta_32 gb hle2,hz,z_32,new_row,ev_one,cells_agg]
   rw [store_of (P:=E) ts_32 (x:=.agg ⟨[.int .i64 B.kind,.slice ap B.prs.length cp]⟩) (cs:=[.int .i64 B.kind,.slice ap B.prs.length cp]) (get_new_self l _) rfl hzl (by simp) (by simp [isLeaf])]
   simp only [ev_one]
   rw [put2 _ hzl]
   have hkl:=hl.ext.next
   have o2:=(hl.new (.row [.int .i64 0,.slice none 0 0] 32 0 false)).upd (b:=l.next) hkl (some (.row [.int .i64 B.kind,.slice ap B.prs.length cp] 32 0 false))
   have t2:((l.new (.row [.int .i64 0,.slice none 0 0] 32 0 false)).upd l.next (some (.row [.int .i64 B.kind,.slice ap B.prs.length cp] 32 0 false))).get l.next=some (.row [.int .i64 B.kind,.slice ap B.prs.length cp] 32 0 false):=get_upd_self _ _ _
   have n2:((l.new (.row [.int .i64 0,.slice none 0 0] 32 0 false)).upd l.next (some (.row [.int .i64 B.kind,.slice ap B.prs.length cp] 32 0 false))).next=l.next+1:=rfl
   generalize ((l.new (.row [.int .i64 0,.slice none 0 0] 32 0 false)).upd l.next (some (.row [.int .i64 B.kind,.slice ap B.prs.length cp] 32 0 false)))=l2 at o2 t2 n2
   refine P71_4_of ?_
   have c0:=load_leaf (P:=E) ta_3 (o:=0) t2
   have c1:=load_leaf (P:=E) ta_26 (o:=1) t2
   simp only [lnth] at c0 c1
   simp only [fa_32_0,Nat.add_zero,c0,evO_some,wCall_0,call105 o2.ext.ok,ev_some,uf_not]
   cases hm:isMan B.kind with
   | false=>
    have hee:errAt Bs i=361:=by rw [hat];unfold lnkErr;rw [if_pos hm]
    simp only [Bool.not_false,brK_t]
    refine P71_5_of ?_
    simp [evO_some,kR_1,ne_ret,errFrom,hee,o2.wm]
   | true=>
    simp only [Bool.not_true,brK_f]
    refine P71_6_of ?_
    simp only [fa_32_1,Nat.zero_add,c1,evO_some,len71_6_2,bf_gtr,brK_d]
    refine ⟨fun hbig=>P71_7_of ?_,fun hbig=>P71_8_of ?_⟩
    ·have hee:errAt Bs i=360:=by rw [hat];unfold lnkErr;rw [if_neg (by rw [hm];simp),if_pos (by omega)]
     simp [evO_some,kR_1,ne_ret,errFrom,hee,o2.wm]
    ·simp only [fa_32_1,Nat.zero_add,c1,evO_some,len71_8_2]
     have hbig':B.prs.length<=200000:=by omega
     have hlk:lnkErr B=if anyFrom (prBadAt B.prs) B.prs.length 0 then 360 else 0:=by unfold lnkErr;rw [if_neg (by rw [hm];simp),if_neg (by omega)]
     have pairs:∀ (m2 j:Nat),j+m2=B.prs.length->∀ l3,Ext l2 l3->k.next<=l3.wm->
       (anyFrom (prBadAt B.prs) m2 j=true->errFrom Bs (m+1) i=360)->(anyFrom (prBadAt B.prs) m2 j=false->errFrom Bs (m+1) i=errFrom Bs m (i+1))->
       P71_9 true (kfe k (errFrom Bs (m+1) i)) (.pointer (some ⟨l.next,0,none⟩)) (.slice (some ⟨b,o,none⟩) els.length c) (.int .i64 (els.length:Int)) (.int .i64 (i:Int)) (.slice ap B.prs.length cp) (.int .i64 (B.prs.length:Int)) (.int .i64 (j:Int)) l3:=by
      intro m2
      induction m2 with
      | zero=>
       intro j hj l3 hl3 hw3 h1 h2
       refine P71_9_of ?_
       simp only [bf_lss,evO_some,brK_d]
       refine ⟨fun h=>by omega,fun _=>P71_14_of ?_⟩
       simp only [bf_add _ (add1 hin (by omega)),evO_some]
       have:=ih (i+1) (by omega) l3 ⟨o2.ext.trans hl3,hw3⟩
       rw [h2 rfl]
       simpa using this
      | succ m2 ih2=>
       intro j hj l3 hl3 hw3 h1 h2
       have hjn:j<B.prs.length:=by omega
       refine P71_9_of ?_
       simp only [bf_lss,evO_some,brK_d]
       refine ⟨fun _=>P71_10_of ?_,fun h=>by omega⟩
       have hatp:(B.prs.map prCells)[j]?=some (prCells B.prs[j]):=by simp [hjn]
       obtain ⟨b',o',c2',vs',ty',es',ro',hv',hb',hlt',hle2',hz',hzl'⟩:=hap.load hatp
       simp only [Value.slice.injEq] at hv'
       obtain ⟨hv1',_,_⟩:=hv'
       subst hv1'
       have he3:Ext h0 l3:=(hk.trans o2.ext).trans hl3
       have gb':l3.get b'=some (.row vs' ty' es' ro'):=(he3.get b' hlt').trans hb'
       simp only [evO_some,ia_26 hjn,load_agg ta_54 gb' hle2',hz',z_54,new_row,ev_one,cells_agg]
       rw [store_of (P:=E) ts_54 (x:=.agg ⟨prCells B.prs[j]⟩) (cs:=prCells B.prs[j]) (get_new_self l3 _) rfl hzl' (by simp) (by simp [prCells,isLeaf])]
       simp only [ev_one]
       rw [put2b _ hzl']
       have hkl3:=hl3.next
       have e4:=(hl3.new (.row [.int .i64 0,.int .i64 0] 54 0 false)).upd (b:=l3.next) hkl3 (some (.row (prCells B.prs[j]) 54 0 false))
       have w4:k.next<=((l3.new (.row [.int .i64 0,.int .i64 0] 54 0 false)).upd l3.next (some (.row (prCells B.prs[j]) 54 0 false))).wm:=wm_upd_le (by rw [wm_new];exact hw3) (by omega)
       have t4:((l3.new (.row [.int .i64 0,.int .i64 0] 54 0 false)).upd l3.next (some (.row (prCells B.prs[j]) 54 0 false))).get l3.next=some (.row (prCells B.prs[j]) 54 0 false):=get_upd_self _ _ _
       have g4:((l3.new (.row [.int .i64 0,.int .i64 0] 54 0 false)).upd l3.next (some (.row (prCells B.prs[j]) 54 0 false))).get b'=some (.row vs' ty' es' ro'):=by
        have q1:=hk.next
        rw [get_upd_ne (by omega),get_new_ne (by omega)];exact gb'
       generalize ((l3.new (.row [.int .i64 0,.int .i64 0] 54 0 false)).upd l3.next (some (.row (prCells B.prs[j]) 54 0 false)))=l4 at e4 w4 t4 g4
       refine P71_11_of ?_
       have ok4:=e4.ok
       have bx:l4.get l.next=some (.row [.int .i64 B.kind,.slice (some ⟨b',o',none⟩) B.prs.length cp] 32 0 false):=(e4.get _ (by omega)).trans t2
       have d0:=load_leaf (P:=E) ta_3 (o:=0) t4
       have d1:=load_leaf (P:=E) ta_3 (o:=1) t4
       have da:=load_agg (P:=E) ta_54 (o:=0) t4 (by simp [prCells])
       have dp:=load_leaf (P:=E) ta_26 (o:=1) bx
       rw [List.drop_zero,List.take_of_length_le (by simp [prCells])] at da
       simp only [lnth,prCells] at d0 d1 dp
       have hatj:B.prs[j]?=some B.prs[j]:=List.getElem?_eq_getElem hjn
       have hpb:prBadAt B.prs j=(decide (B.prs[j].1<0)||decide (B.prs[j].2<0)||(decide (0<j)&&match B.prs[j-1]? with
        | some q=>decide (0<=cmpP q B.prs[j])
        | none=>false)):=by simp only [prBadAt,hatj]
       have hend:∀ bad:Bool,prBadAt B.prs j=bad->(BrK (some (.bool bad)) (P71_12 true (kfe k (errFrom Bs (m+1) i)) l4) (P71_13 true (kfe k (errFrom Bs (m+1) i)) (.pointer (some ⟨l.next,0,none⟩)) (.slice (some ⟨b,o,none⟩) els.length c) (.int .i64 (els.length:Int)) (.int .i64 (i:Int)) (.slice (some ⟨b',o',none⟩) B.prs.length cp) (.int .i64 (B.prs.length:Int)) (.int .i64 (j:Int)) l4)):=by
        intro bad hbad
        cases bad with
        | true=>
         rw [brK_t,h1 (by simp [anyFrom,hbad])]
         refine P71_12_of ?_
         simp [evO_some,kR_1,ne_ret,w4]
        | false=>
         rw [brK_f]
         refine P71_13_of ?_
         simp only [bf_add _ (add1 hjn (by omega)),evO_some]
         have:=ih2 (j+1) (by omega) l4 e4 w4 (fun h=>h1 (by simp [anyFrom,h])) (fun h=>h2 (by simp [anyFrom,hbad,h]))
         simpa using this
       simp only [ia54_0,Nat.add_zero,d0,evO_some,bf_lss]
       by_cases p1:B.prs[j].1<0
       ·have:=hend true (by rw [hpb];simp [p1])
        simpa only [p1,decide_true,Bool.not_false,Bool.not_true,beq_self_eq_true,show (true==false)=false from rfl,show (false==true)=false from rfl,cond_true,cond_false,evO_some,ev_some,uf_not,gdB_bool,gdW_bool,gdB_undef,gdW_undef,pick_bool,ev_one] using this
       ·simp only [p1,decide_false,Bool.not_false,Bool.not_true,beq_self_eq_true,show (true==false)=false from rfl,show (false==true)=false from rfl,cond_true,cond_false,evO_some,ev_some,uf_not,gdB_bool,gdW_bool,gdB_undef,gdW_undef,pick_bool,ev_one,ia54_1,d1,bf_lss]
        by_cases p2:B.prs[j].2<0
        ·have:=hend true (by rw [hpb];simp [p2])
         simpa only [p2,decide_true,Bool.not_false,Bool.not_true,beq_self_eq_true,show (true==false)=false from rfl,show (false==true)=false from rfl,cond_true,cond_false,evO_some,ev_some,uf_not,gdB_bool,gdW_bool,gdB_undef,gdW_undef,pick_bool,ev_one] using this
        ·simp only [p2,decide_false,Bool.not_false,Bool.not_true,beq_self_eq_true,show (true==false)=false from rfl,show (false==true)=false from rfl,cond_true,cond_false,evO_some,ev_some,uf_not,gdB_bool,gdW_bool,gdB_undef,gdW_undef,pick_bool,ev_one,bf_gtr]
         by_cases p3:0<j
         ·have p3':(0:Int)<j:=by omega
          have hjn':j-1<B.prs.length:=by omega
          have hatp':(B.prs.map prCells)[j-1]?=some (prCells B.prs[j-1]):=by simp [hjn']
          obtain ⟨b5,o5,c5,vs5,ty5,es5,ro5,hv5,hb5,hlt5,hle5,hz5,hzl5⟩:=hap.load hatp'
          simp only [Value.slice.injEq] at hv5
          obtain ⟨hv15,_,_⟩:=hv5
          cases hv15
          rw [hb'] at hb5
          cases hb5
          have hee:prBadAt B.prs j=decide (0<=cmpP B.prs[j-1] B.prs[j]):=by rw [hpb,List.getElem?_eq_getElem hjn'];simp [p1,p2,p3]
          have:=hend (decide (0<=cmpP B.prs[j-1] B.prs[j])) hee
          simpa only [p3',bf_gtr,decide_true,Bool.not_false,Bool.not_true,beq_self_eq_true,show (true==false)=false from rfl,show (false==true)=false from rfl,cond_true,cond_false,evO_some,ev_some,uf_not,gdB_bool,gdW_bool,gdB_undef,gdW_undef,pick_bool,ev_one,fa_32_1,Nat.zero_add,dp,sub1 p3 (by omega:j<=9223372036854775807),ia_26 hjn',load_agg ta_54 g4 hle5,hz5,da,wCall_0,call122 ok4,bf_geq] using this
         ·have p3':¬ (0:Int)<j:=by omega
          have:=hend false (by rw [hpb];simp [p1,p2,p3])
          simpa only [p3',bf_gtr,decide_false,Bool.not_false,Bool.not_true,beq_self_eq_true,show (true==false)=false from rfl,show (false==true)=false from rfl,cond_true,cond_false,evO_some,ev_some,uf_not,gdB_bool,gdW_bool,gdB_undef,gdW_undef,pick_bool,ev_one] using this
     refine pairs B.prs.length 0 (by omega) l2 (Ext.refl o2.ext.ok) o2.wm ?_ ?_
     ·intro h
      simp [errFrom,hat,hlk,h]
     ·intro h
      simp [errFrom,hat,hlk,h]
 exact loop els.length 0 (by omega) _ (Own.fresh k)
theorem mid3 (s:Int) (h:AH):evRead E (tmOf [(20,.int .i64 s)]) (opAt B190 [1,1,1,0,0,0,1,0,0] 3) h=some (.int .u64 (IntKind.u64.wrap s)):=by kernel_rfl
theorem mid4 (s:Int):evPure E (tmOf [(21,.int .u64 s)]) (opAt B190 [1,1,1,0,0,0,1,0,0] 4)=some (.int .u64 (s.fdiv (2 ^ (1:Nat)))):=by kernel_rfl
theorem mid5 (s:Int) (h:AH):evRead E (tmOf [(22,.int .u64 s)]) (opAt B190 [1,1,1,0,0,0,1,0,0] 5) h=some (.int .i64 (IntKind.i64.wrap s)):=by kernel_rfl
theorem mid_eq {a b n:Nat} (h1:a<=n) (h2:b<=n) (hn:n<=1000000):IntKind.i64.wrap ((IntKind.u64.wrap ((a:Int)+(b:Int))).fdiv (2 ^ (1:Nat)))=(((a+b) / 2:Nat):Int):=by
 have e1:IntKind.u64.wrap ((a:Int)+(b:Int))=(a:Int)+(b:Int):=by
  show ((a:Int)+(b:Int)) % (2 ^ 64:Int)=_
  omega
 rw [e1,Int.fdiv_eq_ediv_of_nonneg _ (by decide)]
 have e2:((2:Int) ^ (1:Nat))=2:=rfl
 rw [e2,← wrapF_eq,wrap_in (by unfold in64;omega)]
 omega
abbrev CL:=Int×List GT
def cmpLb (ls:List CL) (c:CL) (q:Nat):Int:=match ls[q]? with
 | some x=>cmpLab x.1 x.2 c.1 c.2
 | none=>0
def bsGo (ls:List CL) (c:CL):Nat->Nat->Nat->Nat
 | 0,i,_=>i
 | m+1,i,j=>if i<j then (if cmpLb ls c ((i+j) / 2)<0 then bsGo ls c m ((i+j) / 2+1) j else bsGo ls c m i ((i+j) / 2)) else i
def bsI (ls:List CL) (c:CL):Nat:=bsGo ls c ls.length 0 ls.length
def bsB (ls:List CL) (c:CL):Bool:=decide (bsI ls c<ls.length)&&decide (cmpLb ls c (bsI ls c)=0)
theorem call190 {h0 k:AH} {v:Value} {els:List (List Value)} {ls:List (Int×List GT)} {g:Int} {vt:Value} {lt:List GT} (ha:Arr k 2 v els) (hL:RLab h0 els ls) (hn:els.length<=1000000) (hr:RT h0 vt lt) (hk:Ext h0 k) :
  bsI ls (g,lt)<=els.length/\(recI E).call 190 [v,.agg #[.int .i64 g,vt],.func (.func 168) #[] #[]] k=some [(.tuple #[.int .i64 ((bsI ls (g,lt):Nat):Int),.bool (bsB ls (g,lt))],k)]:=by
 obtain ⟨ad,c,hv⟩:=ha.slice
 subst hv
 have:∃ w,(bsI ls (g,lt)<=els.length/\w=.tuple #[.int .i64 ((bsI ls (g,lt):Nat):Int),.bool (bsB ls (g,lt))])/\(recI E).call 190 [.slice ad els.length c,.agg #[.int .i64 g,vt],.func (.func 168) #[] #[]] k=some [(w,k)]:=by
  refine F190_flatE hk.ok (P190_0_of ?_)
  simp only [new_row,ev_one,cells_agg,evO_some]
  refine P190_1_of ?_
  have o1:=(Own.fresh k).new (.row [.int .i64 g,vt] 36 0 false)
  have t1:=get_new_self k.fresh (.row [.int .i64 g,vt] 36 0 false)
  simp only [next_fresh] at t1 ⊢
  generalize k.fresh.new (.row [.int .i64 g,vt] 36 0 false)=k1 at o1 t1
  have e1:=hk.trans o1.ext
  simp only [evO_some,len190_1_1]
  refine P190_2_of ?_
  have ca:=load_agg (P:=E) ta_36 (o:=0) t1 (by simp)
  simp only [List.drop_zero,List.take] at ca
  have hll:els.length=ls.length:=RLab.length hL
  have fin:∀ (i:Nat),i<=els.length->i=bsI ls (g,lt)->Q190_8 true (KR E [.tmp 6,.tmp 7] (fun x l=>(isFlat x=true/\bsI ls (g,lt)<=els.length/\x=.tuple #[.int .i64 ((bsI ls (g,lt):Nat):Int),.bool (bsB ls (g,lt))])/\k.next<=l.wm)) (.slice ad els.length c) (.func (.func 168) #[] #[]) (.pointer (some ⟨k.next,0,none⟩)) (.int .i64 (els.length:Int)) (.int .i64 (i:Int)) k1:=by
   intro i hi hI
   simp only [Q190_8,evO_some,bf_lss]
   by_cases hlt:i<els.length
   ·have hlt':(i:Int)<els.length:=by omega
    obtain ⟨b,o,c',vs,ty,es,ro,hv,hb,hlt2,hle2,hz,hzl⟩:=ha.load (List.getElem?_eq_getElem hlt)
    simp only [Value.slice.injEq] at hv
    obtain ⟨hv1,_,hv3⟩:=hv
    subst hv1
    obtain ⟨g',v',lt',hel,hrt,hat⟩:=RLab.at hL i _ (List.getElem?_eq_getElem hlt)
    rw [hel] at hz
    have gb:k1.get b=some (.row vs ty es ro):=(o1.ext.get b hlt2).trans hb
    simp only [hlt',decide_true,gdB_bool,gdW_bool,beq_self_eq_true,cond_true,evO_some,ia_22 hlt,load_agg ta_36 gb hle2,hz,ca,wCall_0,call168 hrt hr e1,ev_some,bf_eql,pick_bool,kR_2,ne_ret,true_and]
    have hB:bsB ls (g,lt)=decide (cmpLab g' lt' g lt=0):=by
     unfold bsB cmpLb
     rw [← hI,hat]
     have:i<ls.length:=by omega
     simp [this]
    refine ⟨⟨rfl,by rw [← hI];exact hi,?_⟩,o1.wm⟩
    rw [hB,← hI]
   ·have hlt':¬ (i:Int)<els.length:=by omega
    simp only [hlt',decide_false,gdB_bool,gdW_bool,gdB_undef,gdW_undef,show (false==true)=false from rfl,cond_false,evO_some,ev_one,pick_bool,kR_2,ne_ret,true_and]
    have hB:bsB ls (g,lt)=false:=by
     unfold bsB
     rw [← hI]
     have:¬ i<ls.length:=by omega
     simp [this]
    refine ⟨⟨rfl,by rw [← hI];exact hi,?_⟩,o1.wm⟩
    rw [hB,← hI]
  have loop:∀ (m i j:Nat),i<=j->j<=els.length->j-i<=m->bsGo ls (g,lt) m i j=bsI ls (g,lt)->P190_3 true (KR E [.tmp 6,.tmp 7] (fun x l=>(isFlat x=true/\bsI ls (g,lt)<=els.length/\x=.tuple #[.int .i64 ((bsI ls (g,lt):Nat):Int),.bool (bsB ls (g,lt))])/\k.next<=l.wm)) (.slice ad els.length c) (.func (.func 168) #[] #[]) (.pointer (some ⟨k.next,0,none⟩)) (.int .i64 (els.length:Int)) (.int .i64 (i:Int)) (.int .i64 (j:Int)) k1:=by
   intro m
   induction m with
   | zero=>
    intro i j hij hj hm hgo
    refine P190_3_of ?_
    simp only [evO_some,bf_lss,brK_d]
    refine ⟨fun h=>by omega,fun _=>P190_8_of ?_⟩
    exact fin i (by omega) hgo
   | succ m ih=>
    intro i j hij hj hm hgo
    refine P190_3_of ?_
    simp only [evO_some,bf_lss,brK_d]
    refine ⟨fun h=>P190_4_of ?_,fun _=>P190_8_of ?_⟩
    ·have hlt:i<j:=by omega
     rw [bf_add _ (by unfold in64;omega)]
     simp only [evO_some,mid3,mid4,mid5]
     rw [mid_eq (n:=els.length) (by omega) hj hn]
     generalize hq:(i+j) / 2=q
     have hq1:i<=q:=by omega
     have hq2:q<j:=by omega
     refine P190_5_of ?_
     have hqn:q<els.length:=by omega
     obtain ⟨b,o,c',vs,ty,es,ro,hv,hb,hlt',hle2,hz,hzl⟩:=ha.load (List.getElem?_eq_getElem hqn)
     simp only [Value.slice.injEq] at hv
     obtain ⟨hv1,_,hv3⟩:=hv
     subst hv1
     obtain ⟨g',v',lt',hel,hrt,hat⟩:=RLab.at hL q _ (List.getElem?_eq_getElem hqn)
     rw [hel] at hz
     have gb:k1.get b=some (.row vs ty es ro):=(o1.ext.get b hlt').trans hb
     simp only [evO_some,ia_22 hqn,load_agg ta_36 gb hle2,hz,ca,wCall_0,call168 hrt hr e1,ev_some,bf_lss,brK_d]
     have hgo:(if cmpLb ls (g,lt) q<0 then bsGo ls (g,lt) m (q+1) j else bsGo ls (g,lt) m i q)=bsI ls (g,lt):=by
      rw [← hgo]
      simp only [bsGo,hlt,if_true,hq]
     have hcm:cmpLb ls (g,lt) q=cmpLab g' lt' g lt:=by unfold cmpLb;rw [hat]
     rw [hcm] at hgo
     refine ⟨fun hc=>P190_6_of ?_,fun hc=>P190_7_of ?_⟩
     ·simp only [evO_some,bf_add _ (add1 hqn (by omega))]
      have:=ih (q+1) j (by omega) hj (by omega) (by rw [if_pos hc] at hgo;exact hgo)
      simpa using this
     ·skip
      exact ih i q (by omega) (by omega) (by omega) (by rw [if_neg hc] at hgo;exact hgo)
    ·rename_i hnl
     have hnl':¬ i<j:=by omega
     exact fin i (by omega) (by simpa [bsGo,hnl'] using hgo)
  exact loop els.length 0 els.length (Nat.zero_le _) (Nat.le_refl _) (by omega) (by rw [hll];rfl)
 obtain ⟨w,⟨hi,rfl⟩,hc⟩:=this
 exact ⟨hi,hc⟩
abbrev LB:=Int×Value×List GT
def lc (x:LB):List Value:=[.int .i64 x.1,x.2.1]
def flat2 (l:List LB):List Value:=l.flatMap lc
theorem flat2_len:∀ l:List LB,(flat2 l).length=l.length*2
 | []=>rfl
 | x::l=>by simp only [flat2,List.flatMap_cons,List.length_append,List.length_cons];have:=flat2_len l;simp only [flat2] at this;rw [this];simp [lc];omega
theorem flat2_take:∀ (l:List LB) (i:Nat),(flat2 l).take (i*2)=flat2 (l.take i)
 | [],i=>by simp [flat2]
 | x::l,0=>by simp [flat2]
 | x::l,i+1=>by
  have:=flat2_take l i
  simp only [flat2,List.flatMap_cons,List.take_succ_cons] at this ⊢
  rw [← this]
  rw [show (i+1)*2=i*2+2 by omega]
  rfl
theorem flat2_drop:∀ (l:List LB) (i:Nat),(flat2 l).drop (i*2)=flat2 (l.drop i)
 | [],i=>by simp [flat2]
 | x::l,0=>by simp [flat2]
 | x::l,i+1=>by
  have:=flat2_drop l i
  simp only [flat2,List.flatMap_cons,List.drop_succ_cons] at this ⊢
  rw [← this]
  rw [show (i+1)*2=i*2+2 by omega]
  rfl
theorem flat2_at {l:List LB} {i:Nat} {x:LB} (h:l[i]?=some x):((flat2 l).drop (i*2)).take 2=lc x:=by
 rw [flat2_drop]
 have hlt:=(List.getElem?_eq_some_iff.1 h).1
 rw [List.drop_eq_getElem_cons hlt]
 have:l[i]=x:=by rw [List.getElem?_eq_getElem hlt] at h;exact Option.some.inj h
 rw [this]
 rfl
theorem flat2_leaf {h0:AH} {l:List LB} (h:∀ x∈l,RT h0 x.2.1 x.2.2):(flat2 l).all isLeaf=true:=by
 rw [List.all_eq_true]
 intro v hv
 obtain ⟨x,hx,hv⟩:=List.mem_flatMap.1 hv
 simp only [lc,List.mem_cons,List.not_mem_nil,or_false] at hv
 rcases hv with rfl|rfl
 ·rfl
 ·exact rt_leaf (h x hx)
theorem flat2_RLab {h0:AH}:∀ {l:List LB},(∀ x∈l,RT h0 x.2.1 x.2.2)->RLab h0 (l.map lc) (l.map fun x=>(x.1,x.2.2))
 | [],_=>.nil
 | x::l,h=>.cons (h x (by simp)) (flat2_RLab fun y hy=>h y (by simp [hy]))
theorem flat2_ins (l:List LB) (i:Nat) (x:LB):ltake (i*2) (flat2 l)++lc x++ldrop (i*2) (flat2 l)=flat2 (l.take i++x::l.drop i):=by
 rw [ltake_eq,ldrop_eq,flat2_take,flat2_drop]
 simp [flat2,List.flatMap_append,List.flatMap_cons]
def blkOf (v:Value) (c:Nat):Prop:=∃ n cap,v=.slice (some ⟨c,0,none⟩) n cap
def con (x:LB):CL:=(x.1,x.2.2)
structure NM (h0 k:AH) (bn:Nat) (v:Value) (n:List CL):Prop where
 row:k.get bn=some (.row [v] 197 0 false)
 lt:bn<k.next
 lst:(v=.slice none 0 0/\n=[])\/∃ b l,v=.slice (some ⟨b,0,none⟩) n.length (UNK+2)/\k.get b=some (.row (flat2 l) 36 2 false)/\b<k.next/\b≠bn/\l.map con=n/\∀ x∈l,RT h0 x.2.1 x.2.2
structure NS (h0 k:AH) (bn:Nat) (v:Value) (n:List CL) (k':AH) (v':Value) (n':List CL):Prop where
 nm:NM h0 k' bn v' n'
 ok:k'.ok
 next:k.next<=k'.next
 n:n'.length<=n.length+1
 get:∀ c,c<k.next->c≠bn->¬ blkOf v c->k'.get c=k.get c
 blk:∀ c,blkOf v' c->blkOf v c\/k.next<=c
 wm:∀ m,m<=k.wm->m<=bn->(∀ c,blkOf v c->m<=c)->m<=k.next->m<=k'.wm
theorem NM.arr {h0 k:AH} {bn:Nat} {v:Value} {n:List CL} (h:NM h0 k bn v n):∃ l:List LB,l.map con=n/\Arr k 2 v (l.map lc)/\(∀ x∈l,RT h0 x.2.1 x.2.2):=by
 rcases h.lst with ⟨rfl,rfl⟩|⟨b,l,rfl,hb,hlt,hne,hl,hr⟩
 ·exact ⟨[],rfl,.nil _ _,by simp⟩
 ·refine ⟨l,hl,?_,hr⟩
  rw [← hl,List.length_map]
  have:=Arr.row (h:=k) (z:=2) (b:=b) (o:=0) (c:=UNK+2) (els:=l.map lc) hb hlt (by simp [flat2_len]) (fun i e he=>by
   simp only [List.getElem?_map] at he
   cases hx:l[i]? with
   | none=>rw [hx] at he;cases he
   | some x=>
    rw [hx] at he
    simp only [Option.map_some,Option.some.injEq] at he
    subst he
    exact ⟨rfl,by rw [Nat.zero_add];exact flat2_at hx⟩)
  simpa using this
theorem call_sum {P:Env} {f:FuncId} {fn:Func} {c:Code} {args:List Value} {h:AH} {outs:List (Value×AH)} (hf:P.tab.fn.get f=some fn) (hb:fn.body=some c) (hs:P.sum f args h=some outs):(recI P).call f args h=some outs:=by
 rw [call_eq]
 unfold fnCall
 rw [hf]
 simp only [hb,hs]
theorem bs22 {g:Int} {v:Value} {h:AH}:wBuildSlice E 22 1 (some [(0,.agg #[.int .i64 g,v])]) h=one (.slice (some ⟨h.next,0,none⟩) 1 1,h.new (.row [.int .i64 g,v] 36 0 false)):=by kernel_rfl
theorem call191_unk {h:AH} {b c:Nat} {l:List LB} {i:Nat} {x:LB} {h0:AH} (hb:h.get b=some (.row (flat2 l) 36 2 false)) (hc:h.get c=some (.row (lc x) 36 0 false)) (hne:b≠c) (hi:i<=l.length) (hn:l.length<=100000) (hl:∀ x∈l,RT h0 x.2.1 x.2.2) (hx:isLeaf x.2.1=true) :
  (recI E).call 191 [.slice (some ⟨b,0,none⟩) l.length (UNK+2),.int .i64 (i:Int),.slice (some ⟨c,0,none⟩) 1 1] h=some [(.slice (some ⟨h.next,0,none⟩) (l.length+1) (UNK+2),(h.upd b none).new (.row (flat2 (l.take i++x::l.drop i)) 36 2 false))]:=by
 refine call_sum F191_get F191_body ?_
 show insAt [.slice (some ⟨b,0,none⟩) l.length (UNK+2),.int .i64 (.ofNat i),.slice (some ⟨c,0,none⟩) 1 1] h=_
 unfold insAt
 simp only [hb,hc]
 have h1:(Nat.beq (UNK+2) (UNK+2)&&Nat.ble i l.length&&Nat.beq (llen (flat2 l)) (l.length*2)&&Nat.beq (llen (lc x)) 2&&!Nat.beq b c&&(flat2 l).all isLeaf&&(lc x).all isLeaf&&Nat.ble l.length 100000)=true:=by
  rw [Nat.beq_refl,ble_true.2 hi,llen_eq,flat2_len,Nat.beq_refl,beq_false hne,flat2_leaf hl,ble_true.2 hn]
  simp [lc,llen,isLeaf]
  exact hx
 rw [h1]
 simp only [cond_true,flat2_ins]
theorem app22 {h:AH} {c:Nat} {us:List Value} (hc:h.get c=some (.row us 36 0 false)) (hl:us.length=2):wBuiltinO E .append [22,22] (some [.slice none 0 0,.slice (some ⟨c,0,none⟩) 1 1]) h=one (.slice (some ⟨h.next,0,none⟩) 1 (UNK+2),h.new (.row us 36 2 false)):=by
 have hel:elemT E 22=some 36:=elt_22
 have hun:und E 22=some (.slice 36):=und_22
 match us,hl with
 | [x,y],_=>
  show v2 (appendV E [22,22] (.slice none 0 0) (.slice (some ⟨c,0,none⟩) 1 1) h)=_
  simp only [appendV,hel,hun,isIntD,cond_false]
  have hti:∃ i,tinfo E 36=some i/\i.size=2/\smallT i=true:=by
   cases ht:tinfo E 36 with
   | none=>have:=ta_36;unfold tAS at this;rw [ht] at this;cases this
   | some i=>
    refine ⟨i,rfl,?_,?_⟩
    ·have:=ta_36;unfold tAS at this;rw [ht] at this;simp at this;exact this.2
    ·have:(match tinfo E 36 with|some i=>smallT i|none=>false)=true:=by kernel_rfl
     rw [ht] at this;exact this
  obtain ⟨ti,e1,e2,e3⟩:=hti
  simp only [e1,appendSrc,sliceCells,hc,e2]
  simp [ltake,ldrop,llen,e3,appendTo,appendNew,v2,Nat.beq_refl]
  rfl
theorem call191_nil {h:AH} (hok:h.ok) {c:Nat} {us:List Value} (hc:h.get c=some (.row us 36 0 false)) (hl:us.length=2) :
  (recI E).call 191 [.slice none 0 0,.int .i64 0,.slice (some ⟨c,0,none⟩) 1 1] h=some [(.slice (some ⟨h.next,0,none⟩) 1 (UNK+2),h.new (.row us 36 2 false))]:=by
 have hsum:E.sum 191 [.slice none 0 0,.int .i64 0,.slice (some ⟨c,0,none⟩) 1 1] h=none:=by kernel_rfl
 have key:P191_0 true (KR E [.tmp 6] (fun x k=>x=.slice (some ⟨h.next,0,none⟩) 1 (UNK+2)/\k=h.fresh.new (.row us 36 2 false))) (.slice none 0 0) (.int .i64 0) (.slice (some ⟨c,0,none⟩) 1 1) h.fresh:=by
  refine P191_0_of ?_
  refine P191_1_of ?_
  have hcut:evPure E (tmOf [(10,.slice none 0 0),(11,.int .i64 0)]) (opAt B191 [1,0] 2)=some (.slice none 0 0):=by kernel_rfl
  simp only [evO_some,hcut]
  refine P191_2_of ?_
  simp only [evO_some,len191_2_1]
  refine P191_3_of ?_
  simp only [evO_some,bf_eql]
  rw [brK_d]
  refine ⟨fun h=>by omega,fun _=>P191_5_of ?_⟩
  simp only [evO_some,len191_5_1]
  refine P191_6_of ?_
  simp only [evO_some,bf_eql,brK_d]
  refine ⟨fun _=>P191_7_of ?_,fun h=>absurd rfl h⟩
  have hc':h.fresh.get c=some (.row us 36 0 false):=hc
  simp only [evO_some,app22 hc' hl,ev_one,kR_1,ne_ret,true_and,next_fresh]
 have:=call_one (P:=E) (v0:=.slice (some ⟨h.next,0,none⟩) 1 (UNK+2)) (h1:=h.fresh.new (.row us 36 2 false)) F191_get F191_body hsum (by kernel_rfl) ((F191_ev (Rp:=fun x k=>x=.slice (some ⟨h.next,0,none⟩) 1 (UNK+2)/\k=h.fresh.new (.row us 36 2 false)) key).mono fun x hx=>Prod.ext hx.1 hx.2)
 rw [this]
 have hr:reset h.fresh (.slice (some ⟨h.next,0,none⟩) 1 (UNK+2),h.fresh.new (.row us 36 2 false))=(.slice (some ⟨h.next,0,none⟩) 1 (UNK+2),h.fresh.new (.row us 36 2 false)):=by
  unfold reset
  have:isFlat (.slice (some ⟨h.next,0,none⟩) 1 (UNK+2))=false:=rfl
  rw [this];simp
 rw [hr]
 have hb:=back_eq hok
 unfold AH.back at hb
 show some [(_,(⟨(h.new (.row us 36 2 false)).t,h.next+1,cond (Nat.ble h.wm (h.next+UNK)) h.wm (h.next+UNK)⟩:AH))]=_
 have hw:cond (Nat.ble h.wm (h.next+UNK)) h.wm (h.next+UNK)=h.wm:=congrArg AH.wm hb
 rw [hw]
 rfl
theorem st22 {h:AH} {b:Nat} {v w:Value} (hb:h.get b=some (.row [v] 197 0 false)) (hw:cellsOfV w=[w]) (hl:isLeaf w=true):wStore E 22 h (some (.pointer (some ⟨b,0,none⟩))) (some w)=one (undef,h.upd b (some (.row [w] 197 0 false))):=by
 rw [store_of (P:=E) ts_22 hb hw rfl (by simp) (by simp [hl])];rfl
def numL (cs:List CL) (c:CL):Int×List CL:=if c.1=-1 then (0,cs) else (((bsI cs c:Nat):Int)+1,if bsB cs c then cs else cs.take (bsI cs c)++c::cs.drop (bsI cs c))
theorem call143 {h0 k:AH} {bn:Nat} {n:List CL} {v:Value} {g:Int} {vt:Value} {lt:List GT} (hk:Ext h0 k) (hb0:h0.next<=bn) (hblk:∀ c,blkOf v c->h0.next<=c) (hm:NM h0 k bn v n) (hn:n.length<=100000) (hr:RT h0 vt lt) :
  Ev true ((recI E).call 143 [.pointer (some ⟨bn,0,none⟩),.agg #[.int .i64 g,vt]] k) fun x=>∃ r v' n',x.1=.int .i64 r/\(r,n')=numL n (g,lt)/\(if g=-1 then r=0 else 1<=r/\r<=n.length+1)/\NS h0 k bn v n x.2 v' n':=by
 have same:NS h0 k bn v n k v n:=⟨hm,hk.ok,Nat.le_refl _,by omega,fun _ _ _ _=>rfl,fun c h=>.inl h,fun m h1 _ _ _=>h1⟩
 obtain ⟨l,hl,harr,hrt⟩:=hm.arr
 have o1:=(Own.fresh k).new (.row [.int .i64 g,vt] 36 0 false)
 have t1:=get_new_self k.fresh (.row [.int .i64 g,vt] 36 0 false)
 have n1:(k.fresh.new (.row [.int .i64 g,vt] 36 0 false)).next=k.next+1:=rfl
 have w1:(k.fresh.new (.row [.int .i64 g,vt] 36 0 false)).wm=k.next+UNK:=rfl
 simp only [next_fresh] at t1
 have hq:∃ k1,k1=k.fresh.new (.row [.int .i64 g,vt] 36 0 false):=⟨_,rfl⟩
 obtain ⟨k1,hk1⟩:=hq
 rw [← hk1] at o1 t1 n1 w1
 have e1:=hk.trans o1.ext
 have l0:=load_leaf (P:=E) ta_3 (o:=0) t1
 have ca:=load_agg (P:=E) ta_36 (o:=0) t1 (by simp)
 simp only [lnth,List.drop_zero,List.take] at l0 ca
 have start:∀ {K:KF},P143_1 true K (.pointer (some ⟨bn,0,none⟩)) (.pointer (some ⟨k.next,0,none⟩)) k1->P143_0 true K (.pointer (some ⟨bn,0,none⟩)) (.agg #[.int .i64 g,vt]) k.fresh:=by
  intro K h
  refine P143_0_of ?_
  simp only [new_row,ev_one,cells_agg,evO_some,next_fresh]
  rw [← hk1]
  exact h
 by_cases hg:g=-1
 ·have:(recI E).call 143 [.pointer (some ⟨bn,0,none⟩),.agg #[.int .i64 g,vt]] k=some [(.int .i64 0,k)]:=by
   refine F143_flat1 hk.ok rfl (start (P143_1_of ?_))
   simp only [fa_36_0,Nat.add_zero,l0,evO_some,bf_eql,brK_d]
   refine ⟨fun _=>P143_2_of ?_,fun h=>absurd hg h⟩
   simp [evO_some,kR_1,ne_ret,o1.wm]
  rw [this,ev_some]
  exact ⟨0,v,n,rfl,by simp [numL,hg],by rw [if_pos hg],same⟩
 ·have gn:k1.get bn=some (.row [v] 197 0 false):=(o1.ext.get bn hm.lt).trans hm.row
  have ln:=load_leaf (P:=E) ta_22 (o:=0) gn
  simp only [lnth] at ln
  have harr1:=harr.ext o1.ext
  have hll:l.length=n.length:=by rw [← hl,List.length_map]
  obtain ⟨hi,hbs⟩:=call190 (k:=k1) (g:=g) harr1 (flat2_RLab hrt) (by simp;omega) hr e1
  have hcon:(l.map fun x=>(x.1,x.2.2))=n:=hl
  rw [hcon] at hi hbs
  rw [List.length_map,hll] at hi
  have hnum:numL n (g,lt)=(((bsI n (g,lt):Nat):Int)+1,if bsB n (g,lt) then n else n.take (bsI n (g,lt))++(g,lt)::n.drop (bsI n (g,lt))):=by simp [numL,hg]
  generalize bsI n (g,lt)=i at hi hbs hnum
  generalize bsB n (g,lt)=b at hbs hnum
  have front:∀ {K:KF},P143_4 true K (.pointer (some ⟨bn,0,none⟩)) (.pointer (some ⟨k.next,0,none⟩)) (.int .i64 (i:Int)) (.bool b) k1->P143_0 true K (.pointer (some ⟨bn,0,none⟩)) (.agg #[.int .i64 g,vt]) k.fresh:=by
   intro K h
   refine start (P143_1_of ?_)
   simp only [fa_36_0,Nat.add_zero,l0,evO_some,bf_eql,brK_d]
   refine ⟨fun h=>absurd h hg,fun _=>P143_3_of ?_⟩
   simp only [evO_some,nil_ptr,fa_197_0,Nat.add_zero,ln,ca,wCall_0,hbs,ev_some,pExtract,lnth]
   exact h
  have fin:∀ {K:KF} {k2:AH},K .ret [.int .i64 ((i:Int)+1)] k2->P143_6 true K (.int .i64 (i:Int)) k2:=by
   intro K k2 h
   refine P143_6_of ?_
   simp only [evO_some,bf_add _ (show in64 ((i:Int)+1) by unfold in64;omega)]
   exact h
  cases b with
  | true=>
   have:(recI E).call 143 [.pointer (some ⟨bn,0,none⟩),.agg #[.int .i64 g,vt]] k=some [(.int .i64 ((i:Int)+1),k)]:=by
    refine F143_flat1 hk.ok rfl (front (P143_4_of ?_))
    simp only [evO_some,uf_not,Bool.not_true,brK_f]
    refine fin ?_
    simp [kR_1,ne_ret,o1.wm]
   rw [this,ev_some]
   exact ⟨_,v,n,rfl,by rw [hnum];rfl,by rw [if_neg hg];omega,same⟩
  | false=>
   have hxl:=rt_leaf hr
   have t2:=get_new_self k1 (.row [.int .i64 g,vt] 36 0 false)
   have ins:∃ v' k3,(recI E).call 191 [v,.int .i64 (i:Int),.slice (some ⟨k1.next,0,none⟩) 1 1] (k1.new (.row [.int .i64 g,vt] 36 0 false))=some [(v',k3)]/\cellsOfV v'=[v']/\isLeaf v'=true ∧
     k3.get bn=some (.row [v] 197 0 false)/\NS h0 k bn v n (k3.upd bn (some (.row [v'] 197 0 false))) v' (n.take i++(g,lt)::n.drop i)/\k3.next=k.next+3:=by
    have hkn:=hm.lt
    rcases hm.lst with ⟨rfl,rfl⟩|⟨bl,l',rfl,hbl,hlt,hne,hl',hr'⟩
    ·have hi0:i=0:=by simpa using hi
     subst hi0
     have:=call191_nil (h:=k1.new (.row [.int .i64 g,vt] 36 0 false)) (ok_new o1.ext.ok _) t2 rfl
     refine ⟨_,_,this,rfl,rfl,?_,?_,by simp [n1]⟩
     ·rw [get_new_ne (by simp;omega),get_new_ne (by omega)];exact gn
     ·refine ⟨⟨get_upd_self _ _ _,by simp;omega,.inr ⟨k1.next+1,[(g,vt,lt)],rfl,?_,by simp,by omega,rfl,by simpa using hr⟩⟩,ok_upd (ok_new (ok_new o1.ext.ok _) _) _ _,by simp;omega,by simp,?_,?_,?_⟩
      ·rw [get_upd_ne (by omega)];exact get_new_self (k1.new _) _
      ·intro c hc hcb _
       rw [get_upd_ne hcb,get_new_ne (by simp;omega),get_new_ne (by omega)];exact o1.ext.get c hc
      ·rintro c ⟨m,cap,hcc⟩
       simp only [Value.slice.injEq,Option.some.injEq,Addr.mk.injEq] at hcc
       exact .inr (by have:=hcc.1.1;simp at this;omega)
      ·intro m h1 h2 h3 h4
       exact wm_upd_le (by simp only [wm_new];omega) h2
    ·have hbl1:k1.get bl=some (.row (flat2 l') 36 2 false):=(o1.ext.get bl hlt).trans hbl
     have hb2:(k1.new (.row [.int .i64 g,vt] 36 0 false)).get bl=some (.row (flat2 l') 36 2 false):=by rw [get_new_ne (by omega)];exact hbl1
     have hl2:l'.length=n.length:=by rw [← hl',List.length_map]
     have:=call191_unk (h0:=h0) (x:=(g,vt,lt)) (i:=i) hb2 t2 (by omega) (by omega) (by omega) hr' hxl
     have hins:(l'.take i++(g,vt,lt)::l'.drop i).map con=n.take i++(g,lt)::n.drop i:=by
      rw [← hl'];simp [con,List.map_take,List.map_drop]
     have hln:(n.take i++(g,lt)::n.drop i).length=n.length+1:=by simp;omega
     rw [hl2,← hln] at this
     refine ⟨_,_,this,rfl,rfl,?_,?_,by simp [n1]⟩
     ·rw [get_new_ne (by simp;omega),get_upd_ne (fun h=>hne h.symm),get_new_ne (by omega)];exact gn
     ·refine ⟨⟨get_upd_self _ _ _,by simp;omega,.inr ⟨k1.next+1,l'.take i++(g,vt,lt)::l'.drop i,rfl,?_,by simp,by omega,hins,?_⟩⟩,ok_upd (ok_new (ok_upd (ok_new o1.ext.ok _) _ _) _) _ _,by simp;omega,by omega,?_,?_,?_⟩
      ·rw [get_upd_ne (by omega)];exact get_new_self ((k1.new _).upd _ _) _
      ·intro x hx
       rcases List.mem_append.1 hx with hx|hx
       ·exact hr' x (List.mem_of_mem_take hx)
       ·rcases List.mem_cons.1 hx with rfl|hx
        ·exact hr
        ·exact hr' x (List.mem_of_mem_drop hx)
      ·intro c hc hcb hcv
       have hcbl:c≠bl:=fun h=>hcv ⟨_,_,by rw [h]⟩
       rw [get_upd_ne hcb,get_new_ne (by simp;omega),get_upd_ne hcbl,get_new_ne (by omega)];exact o1.ext.get c hc
      ·rintro c ⟨m,cap,hcc⟩
       simp only [Value.slice.injEq,Option.some.injEq,Addr.mk.injEq] at hcc
       exact .inr (by have:=hcc.1.1;simp at this;omega)
      ·intro m h1 h2 h3 h4
       refine wm_upd_le ?_ h2
       rw [wm_new]
       exact wm_upd_le (by rw [wm_new];omega) (h3 bl ⟨_,_,rfl⟩)
   obtain ⟨v',k3,hc,hcv,hlv,g3,hns,hn3⟩:=ins
   refine F143_some (Rp:=fun x k'=>∃ r v' n',x=.int .i64 r/\(r,n')=numL n (g,lt)/\(if g=-1 then r=0 else 1<=r/\r<=n.length+1)/\NS h0 k bn v n k' v' n') (front (P143_4_of ?_))
   simp only [evO_some,uf_not,Bool.not_false,brK_t]
   refine P143_5_of ?_
   have gn2:(k1.new (.row [.int .i64 g,vt] 36 0 false)).get bn=some (.row [v] 197 0 false):=by rw [get_new_ne (by have:=hm.lt;omega)];exact gn
   have ln2:=load_leaf (P:=E) ta_22 (o:=0) gn2
   simp only [lnth] at ln2
   have hvv:veq 100 v v=true:=by
    rcases hm.lst with ⟨rfl,_⟩|⟨_,_,rfl,_⟩ <;> exact veq_slice _ _ _ _
   simp only [evO_some,nil_ptr,fa_197_0,Nat.add_zero,ln,ca,bs22,ev_one,ln2,hvv,true_and,wCall_0,hc,ev_some,st22 g3 hcv hlv]
   refine fin ?_
   simp only [kR_1,ne_ret,true_and]
   have hw:(k3.upd bn (some (.row [v'] 197 0 false))).wm<=bn:=(upd_wm _ _ _).2
   refine ⟨.inr (by have:=hm.lt;omega),(i:Int)+1,v',n.take i++(g,lt)::n.drop i,rfl,by rw [hnum];rfl,by rw [if_neg hg];omega,?_⟩
   obtain ⟨a1,a2,a3,a4,a5,a6,a7⟩:=hns
   refine ⟨⟨a1.row,a1.lt,a1.lst⟩,?_,a3,a4,a5,a6,?_⟩
   ·show cond (Nat.ble k.wm _) k.wm _<=_+UNK
    unfold AH.ok at a2
    cases hcc:Nat.ble k.wm (k3.upd bn (some (.row [v'] 197 0 false))).wm with
    | true=>rw [ble_true] at hcc;simp only [cond_true];omega
    | false=>exact a2
   ·intro m h1 h2 h3 h4
    show m<=cond (Nat.ble k.wm _) k.wm _
    cases hcc:Nat.ble k.wm (k3.upd bn (some (.row [v'] 197 0 false))).wm with
    | true=>exact h1
    | false=>exact a7 m h1 h2 h3 h4
structure Fx (P:Nat->Prop) (k k':AH):Prop where
 ok:k'.ok
 next:k.next<=k'.next
 get:∀ c,c<k.next->¬ P c->k'.get c=k.get c
 wm:∀ m,m<=k.wm->(∀ c,P c->m<=c)->m<=k.next->m<=k'.wm
theorem Fx.refl {P:Nat->Prop} {k:AH} (h:k.ok):Fx P k k:=⟨h,Nat.le_refl _,fun _ _ _=>rfl,fun _ h _ _=>h⟩
theorem Fx.trans {P P':Nat->Prop} {k l m:AH} (e:Fx P k l) (f:Fx P' l m) (hP:∀ c,P' c->P c\/k.next<=c):Fx P k m:=
 ⟨f.ok,Nat.le_trans e.next f.next,fun c hc hn=>(f.get c (Nat.lt_of_lt_of_le hc e.next) fun h=>(hP c h).elim hn fun h=>by omega).trans (e.get c hc hn),
  fun n h1 h2 h3=>f.wm n (e.wm n h1 h2 h3) (fun c hc=>(hP c hc).elim (h2 c) fun h=>Nat.le_trans h3 h) (Nat.le_trans h3 e.next)⟩
theorem Fx.new {P:Nat->Prop} {k l:AH} (e:Fx P k l) (o:AObj):Fx P k (l.new o):=
 ⟨ok_new e.ok o,Nat.le_trans e.next (by simp),fun c hc hn=>by
  have:=e.next
  rw [get_new_ne (by omega)];exact e.get c hc hn,fun n h1 h2 h3=>e.wm n h1 h2 h3⟩
theorem Fx.upd {P:Nat->Prop} {k l:AH} (e:Fx P k l) {b:Nat} (hb:P b\/k.next<=b) (o:Option AObj):Fx P k (l.upd b o):=
 ⟨ok_upd e.ok b o,e.next,fun c hc hn=>by
  rw [get_upd_ne (fun h=>by subst h;exact hb.elim hn fun h=>by omega)];exact e.get c hc hn,
  fun n h1 h2 h3=>wm_upd_le (e.wm n h1 h2 h3) (hb.elim (h2 b) fun h=>Nat.le_trans h3 h)⟩
theorem Fx.mono {P P':Nat->Prop} {k l:AH} (e:Fx P k l) (h:∀ c,P c->P' c\/k.next<=c):Fx P' k l:=
 ⟨e.ok,e.next,fun c hc hn=>e.get c hc fun hp=>(h c hp).elim hn fun h=>by omega,fun n h1 h2 h3=>e.wm n h1 (fun c hc=>(h c hc).elim (h2 c) fun h=>Nat.le_trans h3 h) h3⟩
theorem Fx.ext {P:Nat->Prop} {h k l:AH} (e:Ext h k) (f:Fx P k l) (hP:∀ c,P c->h.next<=c):Ext h l:=
 ⟨f.ok,Nat.le_trans e.next f.next,fun c hc=>(f.get c (Nat.lt_of_lt_of_le hc e.next) fun hp=>by have:=hP c hp;omega).trans (e.get c hc)⟩
theorem Fx.own {P:Nat->Prop} {h k l:AH} (e:Own h k) (f:Fx P k l) (hP:∀ c,P c->h.next<=c):Own h l:=
 ⟨f.ext e.ext hP,f.wm _ e.wm hP e.ext.next⟩
theorem NS.fx {h0 k k':AH} {bn:Nat} {n n':List CL} {v v':Value} (s:NS h0 k bn v n k' v' n'):Fx (fun c=>c=bn\/blkOf v c) k k':=
 ⟨s.ok,s.next,fun c hc hn=>s.get c hc (fun h=>hn (.inl h)) fun h=>hn (.inr h),fun m h1 h2 h3=>s.wm m h1 (h2 bn (.inl rfl)) (fun c hc=>h2 c (.inr hc)) h3⟩
theorem blkOf_lt {h0 k:AH} {bn:Nat} {n:List CL} {v:Value} (h:NM h0 k bn v n) {c:Nat} (hc:blkOf v c):c<k.next:=by
 obtain ⟨m,cap,rfl⟩:=hc
 rcases h.lst with ⟨h,_⟩|⟨b,l,h,_,hlt,_⟩
 ·cases h
 ·simp only [Value.slice.injEq,Option.some.injEq,Addr.mk.injEq] at h
  rw [h.1.1];exact hlt
theorem NM.fx {P:Nat->Prop} {h0 k k':AH} {bn:Nat} {n:List CL} {v:Value} (h:NM h0 k bn v n) (f:Fx P k k') (h1:¬ P bn) (h2:∀ c,blkOf v c->¬ P c):NM h0 k' bn v n:=by
 refine ⟨(f.get bn h.lt h1).trans h.row,Nat.lt_of_lt_of_le h.lt f.next,?_⟩
 rcases h.lst with ⟨a,b⟩|⟨b,l,a1,a2,a3,a4,a5,a6⟩
 ·exact .inl ⟨a,b⟩
 ·refine .inr ⟨b,l,a1,(f.get b a3 (h2 b ⟨_,_,a1⟩)).trans a2,Nat.lt_of_lt_of_le a3 f.next,a4,a5,a6⟩
abbrev NoB:Nat->Prop:=fun _=>False
theorem box36 {k:AH} {g:Int} {v:Value} (hl:isLeaf v=true) :
  wStore E 36 (k.new (.row [.int .i64 0,.slice none 0 0] 36 0 false)) (some (.pointer (some ⟨k.next,0,none⟩))) (some (.agg ⟨[.int .i64 g,v]⟩))=one (undef,(k.new (.row [.int .i64 0,.slice none 0 0] 36 0 false)).upd k.next (some (.row [.int .i64 g,v] 36 0 false))):=by
 rw [store_of (P:=E) ts_36 (x:=.agg ⟨[.int .i64 g,v]⟩) (cs:=[.int .i64 g,v]) (get_new_self k _) rfl rfl (by simp) (by simp [isLeaf];exact hl)]
 rfl
theorem box25 {k:AH} {e:List Value} (hl:e.all isLeaf=true) (h3:e.length=3) :
  wStore E 25 (k.new (.row [.int .i64 0,.slice none 0 0,.slice none 0 0] 25 0 false)) (some (.pointer (some ⟨k.next,0,none⟩))) (some (.agg ⟨e⟩))=one (undef,(k.new (.row [.int .i64 0,.slice none 0 0,.slice none 0 0] 25 0 false)).upd k.next (some (.row e 25 0 false))):=by
 rw [store_of (P:=E) ts_25 (x:=.agg ⟨e⟩) (cs:=e) (get_new_self k _) rfl h3 (by simp) hl,put3g _ h3]
structure Args (k:AH) (v:Value) (els:List (List Value)) (Ls:List GL):Prop where
 arr:Arr k 3 v els
 len:els.length=Ls.length
 few:els.length<=10
 rl:∀ (i:Nat) (e:List Value) (L:GL),els[i]?=some e->Ls[i]?=some L->RL k (.agg ⟨e⟩) L
 ok:∀ (i:Nat) (L:GL),Ls[i]?=some L->badLts L=false
theorem Args.at {k:AH} {v:Value} {els:List (List Value)} {Ls:List GL} (a:Args k v els Ls) {i:Nat} (hi:i<els.length) :
  ∃ L b o c vs ty es ro vl ve elsL,Ls[i]?=some L/\v=.slice (some ⟨b,o,none⟩) els.length c/\k.get b=some (.row vs ty es ro)/\b<k.next/\o+i*3+3<=vs.length/\(vs.drop (o+i*3)).take 3=[.int .i64 L.n,vl,ve] ∧
   isLeaf vl=true/\isLeaf ve=true/\Arr k 2 vl elsL/\RLab k elsL L.labs/\Arr k 3 ve (L.eds.map edCells)/\badLts L=false:=by
 have hi':i<Ls.length:=by rw [← a.len];exact hi
 obtain ⟨b,o,c,vs,ty,es,ro,hv,hb,hlt,hle,hz,hzl⟩:=a.arr.load (List.getElem?_eq_getElem hi)
 have hRL:=a.rl i _ _ (List.getElem?_eq_getElem hi) (List.getElem?_eq_getElem hi')
 obtain ⟨vl,ve,elsL,q1,q2,q3,q4⟩:=hRL.ex
 have he:els[i]=[.int .i64 Ls[i].n,vl,ve]:=by
  simp only [Value.agg.injEq] at q1
  have:=congrArg Array.toList q1
  simpa using this
 obtain ⟨x1,x2,hx⟩:=q2.slice
 obtain ⟨y1,y2,hy⟩:=q4.slice
 exact ⟨Ls[i],b,o,c,vs,ty,es,ro,vl,ve,elsL,List.getElem?_eq_getElem hi',hv,hb,hlt,hle,by rw [hz,he],by rw [hx];rfl,by rw [hy];rfl,q2,q3,q4,a.ok i _ (List.getElem?_eq_getElem hi')⟩
theorem bad_sizes {L:GL} (h:badLts L=false):1<=L.n/\L.n<=20000/\L.labs.length<=4000/\L.eds.length<=100000:=by
 simp only [badLts,badSize,Bool.or_eq_false_iff,decide_eq_false_iff_not] at h
 omega
theorem bad_edges {L:GL} (h:badLts L=false) {i:Nat} {e:Int×Int×Int} (he:L.eds[i]?=some e):(0<=e.1/\e.1<L.n)/\(0<=e.2.2/\e.2.2<L.n)/\(0<=e.2.1/\e.2.1<L.labs.length):=by
 simp only [badLts,Bool.or_eq_false_iff] at h
 have hlt:=(List.getElem?_eq_some_iff.1 he).1
 have:=anyFrom_false h.2 i (Nat.zero_le _) (by omega)
 simp only [edBadAt,he,Bool.or_eq_false_iff,Bool.not_eq_false',Bool.and_eq_true,decide_eq_true_eq] at this
 exact ⟨this.1.1.1,this.1.1.2,this.1.2⟩
def numAll (cs:List CL):List CL->List Int×List CL
 | []=>([],cs)
 | c::l=>((numL cs c).1::(numAll (numL cs c).2 l).1,(numAll (numL cs c).2 l).2)
def passAll:List GL->List CL->List CL
 | [],cs=>cs
 | L::Ls,cs=>passAll Ls (numAll cs L.labs).2
theorem drop_at {α:Type} {l:List α} {i:Nat} {x:α} (h:l[i]?=some x):l.drop i=x::l.drop (i+1):=by
 obtain ⟨hlt,e⟩:=List.getElem?_eq_some_iff.1 h
 rw [List.drop_eq_getElem_cons hlt,e]
theorem graphs1 {k:AH} {v0:Value} {els:List (List Value)} {Ls:List GL} (a:Args k v0 els Ls) {bn:Nat} (hbn:k.next<=bn) {K:KF} {ad:Option Addr} {cp:Nat} (hv0:v0=.slice ad els.length cp) {fin:List CL}
  (hK:∀ kk v n,Own k kk->NM k kk bn v n->(∀ c,blkOf v c->k.next<=c)->n.length<=4000*els.length->n=fin->P90_11 true K v0 (.pointer (some ⟨bn,0,none⟩)) kk) :
  ∀ (m i:Nat),i+m=els.length->∀ kk v n,Own k kk->NM k kk bn v n->(∀ c,blkOf v c->k.next<=c)->n.length<=4000*i->passAll (Ls.drop i) n=fin->
   P90_3 true K v0 (.pointer (some ⟨bn,0,none⟩)) v0 (.int .i64 (els.length:Int)) (.int .i64 (i:Int)) kk:=by
 intro m
 induction m with
 | zero=>
  intro i hi kk v n ho hm hb hn hfin
  refine P90_3_of ?_
  simp only [bf_lss,evO_some,brK_d]
  have:i=els.length:=by omega
  subst this
  exact ⟨fun h=>by omega,fun _=>hK kk v n ho hm hb hn (by rw [List.drop_eq_nil_of_le (by have:=a.len;omega)] at hfin;exact hfin)⟩
 | succ m ih=>
  intro i hi kk v n ho hm hb hn hfin
  have hin:i<els.length:=by omega
  refine P90_3_of ?_
  simp only [bf_lss,evO_some,brK_d]
  refine ⟨fun _=>P90_4_of ?_,fun h=>by omega⟩
  obtain ⟨L,b,o,c,vs,ty,es,ro,vl,ve,elsL,q0,q1,q2,q3,q4,q5,q6,q7,q8,q9,q10,q11⟩:=a.at hin
  have gb:kk.get b=some (.row vs ty es ro):=(ho.ext.get b q3).trans q2
  rw [hv0] at q1
  simp only [Value.slice.injEq] at q1
  obtain ⟨q11',_,_⟩:=q1
  subst q11'
  have hbox:=box25 (k:=kk) (e:=[.int .i64 L.n,vl,ve]) (by simp [isLeaf];exact ⟨q6,q7⟩) rfl
  simp only [hv0,ia_82 hin,evO_some,load_agg ta_25 gb q4,q5,z_25,new_row,ev_one,cells_agg,hbox]
  refine P90_5_of ?_
  have hkn:=ho.ext.next
  have f1:Fx NoB kk ((kk.new (.row [.int .i64 0,.slice none 0 0,.slice none 0 0] 25 0 false)).upd kk.next (some (.row [.int .i64 L.n,vl,ve] 25 0 false))):=((Fx.refl ho.ext.ok).new _).upd (.inr (Nat.le_refl _)) _
  have t1:((kk.new (.row [.int .i64 0,.slice none 0 0,.slice none 0 0] 25 0 false)).upd kk.next (some (.row [.int .i64 L.n,vl,ve] 25 0 false))).get kk.next=some (.row [.int .i64 L.n,vl,ve] 25 0 false):=get_upd_self _ _ _
  generalize ((kk.new (.row [.int .i64 0,.slice none 0 0,.slice none 0 0] 25 0 false)).upd kk.next (some (.row [.int .i64 L.n,vl,ve] 25 0 false)))=k1 at f1 t1
  have l1:=load_leaf (P:=E) ta_22 (o:=1) t1
  simp only [lnth] at l1
  obtain ⟨al,cl,hvl⟩:=q8.slice
  rw [RLab.length q9] at hvl
  subst hvl
  simp only [fa_25_1,Nat.zero_add,l1,evO_some,len90_5_2]
  obtain ⟨s1,s2,s3,s4⟩:=bad_sizes q11
  have inner:∀ (m2 j:Nat),j+m2=L.labs.length->∀ kk v n,Own k kk->NM k kk bn v n->(∀ c,blkOf v c->k.next<=c)->n.length<=4000*i+j->passAll (Ls.drop (i+1)) (numAll n (L.labs.drop j)).2=fin->
    P90_6 true K (.slice (some ⟨b,o,none⟩) els.length cp) (.pointer (some ⟨bn,0,none⟩)) (.slice (some ⟨b,o,none⟩) els.length cp) (.int .i64 (els.length:Int)) (.int .i64 (i:Int)) (.slice al L.labs.length cl) (.int .i64 (L.labs.length:Int)) (.int .i64 (j:Int)) kk:=by
   intro m2
   induction m2 with
   | zero=>
    intro j hj kk v n ho hm hb hn hfin2
    refine P90_6_of ?_
    simp only [bf_lss,evO_some,brK_d]
    refine ⟨fun h=>by omega,fun _=>P90_10_of ?_⟩
    simp only [bf_add _ (add1 hin (by have:=a.few;omega)),evO_some]
    have:=ih (i+1) (by omega) kk v n ho hm hb (by omega) (by rw [List.drop_eq_nil_of_le (show L.labs.length<=j by omega)] at hfin2;exact hfin2)
    rw [hv0] at this
    simpa using this
   | succ m2 ih2=>
    intro j hj kk v n ho hm hb hn hfin2
    have hjn:j<L.labs.length:=by omega
    have hjn2:j<elsL.length:=by rw [RLab.length q9];exact hjn
    refine P90_6_of ?_
    simp only [bf_lss,evO_some,brK_d]
    refine ⟨fun _=>P90_7_of ?_,fun h=>by omega⟩
    obtain ⟨g,vt,lt,hel,hrt,hat⟩:=RLab.at q9 j _ (List.getElem?_eq_getElem hjn2)
    obtain ⟨b',o',c',vs',ty',es',ro',hv',hb',hlt',hle',hz',hzl'⟩:=q8.load (List.getElem?_eq_getElem hjn2)
    rw [hel] at hz'
    simp only [Value.slice.injEq] at hv'
    obtain ⟨hv1,_,_⟩:=hv'
    subst hv1
    have gb':kk.get b'=some (.row vs' ty' es' ro'):=(ho.ext.get b' hlt').trans hb'
    simp only [ia_22 hjn,evO_some,load_agg ta_36 gb' hle',hz',z_36,new_row,ev_one,cells_agg]
    have hbx:=box36 (k:=kk) (g:=g) (rt_leaf hrt)
    simp only [hbx,ev_one]
    refine P90_8_of ?_
    have hkn:=ho.ext.next
    have f2:Fx NoB kk ((kk.new (.row [.int .i64 0,.slice none 0 0] 36 0 false)).upd kk.next (some (.row [.int .i64 g,vt] 36 0 false))):=((Fx.refl ho.ext.ok).new _).upd (.inr (Nat.le_refl _)) _
    have t2:((kk.new (.row [.int .i64 0,.slice none 0 0] 36 0 false)).upd kk.next (some (.row [.int .i64 g,vt] 36 0 false))).get kk.next=some (.row [.int .i64 g,vt] 36 0 false):=get_upd_self _ _ _
    generalize ((kk.new (.row [.int .i64 0,.slice none 0 0] 36 0 false)).upd kk.next (some (.row [.int .i64 g,vt] 36 0 false)))=k2 at f2 t2
    have ca:=load_agg (P:=E) ta_36 (o:=0) t2 (by simp)
    simp only [List.drop_zero,List.take] at ca
    have o2:=f2.own ho (fun _ h=>h.elim)
    have hm2:=hm.fx f2 (fun h=>h) (fun _ _ h=>h)
    simp only [ca,evO_some,wCall_0]
    refine (call143 (h0:=k) (k:=k2) (g:=g) o2.ext hbn hb hm2 (by have:=a.few;omega) hrt).mono fun x hx=>?_
    obtain ⟨r,v',n',_,hnum,_,hs⟩:=hx
    refine P90_9_of ?_
    simp only [bf_add _ (add1 hjn (by omega)),evO_some]
    have:=ih2 (j+1) (by omega) x.2 v' n' (hs.fx.own o2 (fun c hc=>hc.elim (fun h=>by rw [h];exact hbn) (hb c))) hs.nm (fun c hc=>(hs.blk c hc).elim (hb c) fun h=>by have:=o2.ext.next;omega) (by have:=hs.n;omega) (by rw [drop_at hat] at hfin2;have h2:=congrArg Prod.snd hnum;simp only at h2;rw [h2];exact hfin2)
    simpa using this
  exact inner L.labs.length 0 (by omega) k1 v n (f1.own ho (fun _ h=>h.elim)) (hm.fx f1 (fun h=>h) (fun _ _ h=>h)) hb (by omega) (by rw [drop_at q0] at hfin;exact hfin)
structure Elt (t e:TypeId) (z:Nat):Prop where
 el:elemT E t=some e
 un:und E t=some (.slice e)
 ti:∃ i,tinfo E e=some i/\i.size=z/\smallT i=true
theorem elt_of {t e:TypeId} {z:Nat} {b:Bool} (h1:elemT E t=some e) (h2:und E t=some (.slice e)) (h3:tAS E e=some (b,z)) (h4:(match tinfo E e with|some i=>smallT i|none=>false)=true):Elt t e z:=by
 refine ⟨h1,h2,?_⟩
 cases ht:tinfo E e with
 | none=>unfold tAS at h3;rw [ht] at h3;cases h3
 | some i=>
  refine ⟨i,rfl,?_,?_⟩
  ·unfold tAS at h3;rw [ht] at h3;simp at h3;exact h3.2
  ·rw [ht] at h4;exact h4
theorem elt132:Elt 132 134 2:=elt_of elt_132 und_132 ta_134 (by kernel_rfl)
theorem elt126:Elt 126 128 1:=elt_of elt_126 und_126 ta_128 (by kernel_rfl)
theorem append_nil {t e z:Nat} (H:Elt t e z) {h:AH} {c:Nat} {us:List Value} {ty es:Nat} {ro:Bool} (hc:h.get c=some (.row us ty es ro)) (hl:us.length=z) :
  wBuiltinO E .append [t,t] (some [.slice none 0 0,.slice (some ⟨c,0,none⟩) 1 1]) h=one (.slice (some ⟨h.next,0,none⟩) 1 (UNK+z),h.new (.row us e z false)):=by
 obtain ⟨ti,e1,e2,e3⟩:=H.ti
 show v2 (appendV E [t,t] (.slice none 0 0) (.slice (some ⟨c,0,none⟩) 1 1) h)=_
 simp only [appendV,H.el,H.un,isIntD,cond_false,e1,appendSrc,sliceCells,hc,e2,Nat.one_mul,ltake_eq,ldrop_eq,llen_eq,List.drop_zero]
 rw [List.take_of_length_le (by omega),hl,Nat.beq_refl]
 simp only [if_true,e3,cond_true,appendTo,show Nat.beq 1 0=false from rfl,cond_false,appendNew,v2]
 rfl
theorem append_unk {t e z:Nat} (H:Elt t e z) (hz:0<z) {h:AH} {b c n:Nat} {vs us:List Value} {ty es:Nat} {ro:Bool} (hb:h.get b=some (.row vs e z false)) (hvs:vs.length=n*z) (hn:n+1<=1000000)
  (hc:h.get c=some (.row us ty es ro)) (hl:us.length=z) (hlf:us.all isLeaf=true) :
  wBuiltinO E .append [t,t] (some [.slice (some ⟨b,0,none⟩) n (UNK+z),.slice (some ⟨c,0,none⟩) 1 1]) h=one (.slice (some ⟨h.next,0,none⟩) (n+1) (UNK+z),(h.upd b none).new (.row (vs++us) e z false)):=by
 obtain ⟨ti,e1,e2,e3⟩:=H.ti
 show v2 (appendV E [t,t] (.slice (some ⟨b,0,none⟩) n (UNK+z)) (.slice (some ⟨c,0,none⟩) 1 1) h)=_
 simp only [appendV,H.el,H.un,isIntD,cond_false,e1,appendSrc,sliceCells,hc,e2,Nat.one_mul,ltake_eq,ldrop_eq,llen_eq,List.drop_zero]
 rw [List.take_of_length_le (by omega),hl,Nat.beq_refl]
 simp only [if_true,e3,cond_true,appendTo,show Nat.beq 1 0=false from rfl,cond_false,hb]
 have h1:Nat.ble UNK (UNK+z)=true:=ble_true.2 (by omega)
 simp only [appendRow,h1,Nat.beq_refl,Bool.and_self,Bool.not_false,cond_true,appendUnk,Nat.zero_add,llen_eq]
 have h2:Nat.ble ((n+1)*z) vs.length=false:=ble_false.2 (by rw [hvs,Nat.add_mul];omega)
 have h3:Nat.beq (n*z) vs.length=true:=by rw [hvs];exact Nat.beq_refl _
 simp only [h2,cond_false,h3,cond_true,appendMove,hlf,ltake_eq,ldrop_eq,List.drop_zero]
 rw [List.take_of_length_le (by omega)]
 simp only [appendNew,ble_true.2 hn,cond_true,v2]
 rfl
theorem lput_set (l:List Value) (j:Nat) (v:Value) (h:j<l.length):lput l j [v]=l.set j v:=by
 induction l generalizing j with
 | nil=>simp at h
 | cons a l ih=>
  cases j with
  | zero=>simp [lput]
  | succ j=>simp only [lput,List.set_cons_succ];rw [ih j (by simpa using h)]
def okNum (labs:List (Int×List GT)) (nums:List Int) (j:Nat):Prop:=∀ g l,labs[j]?=some (g,l)->∃ r,nums[j]?=some r/\0<=r/\(g=-1->r=0)/\(g≠-1->1<=r)
abbrev ints (l:List Int):List Value:=l.map (Value.int .i64)
theorem ints_set (l:List Int) (j:Nat) (r:Int):(ints l).set j (.int .i64 r)=ints (l.set j r):=by
 simp [ints,List.map_set]
theorem take_set {α:Type}:∀ {l:List α} {j:Nat} {r:α},j<l.length->(l.set j r).take (j+1)=l.take j++[r]
 | [],_,_,h=>by simp at h
 | a::l,0,r,_=>by simp
 | a::l,j+1,r,h=>by
  simp only [List.set_cons_succ,List.take_succ_cons,List.cons_append]
  rw [take_set (by simpa using h)]
theorem graphs2 {k:AH} {bn:Nat} (hbn:k.next<=bn) {K:KF} {vl:Value} {labs:List (Int×List GT)} {elsL:List (List Value)} {al:Option Addr} {cl:Nat} (hvl:vl=.slice al labs.length cl) (ha:Arr k 2 vl elsL) (hL:RLab k elsL labs)
  (hsmall:labs.length<=4000) {v8 v10 v11 v34 v35 v36:Value} {bm base:Nat} (hbm:k.next<=bm) (hbase:base<=90000)
  {k0:AH} {w0:Value} (hk0:k.next<=k0.next) {N1:List Int} {cs1:List CL}
  (hK:∀ kk v n nums,Own k kk->NM k kk bn v n->(∀ c,blkOf v c->k.next<=c)->n.length<=base+labs.length->n=cs1->nums=N1->Fx (fun c=>(c=bn\/blkOf w0 c)\/c=bm) k0 kk->(∀ c,blkOf v c->blkOf w0 c\/k0.next<=c)->bm≠bn->¬ blkOf v bm->
   kk.get bm=some (.row (ints nums) 3 0 false)->nums.length=labs.length->(∀ j,j<labs.length->okNum labs nums j)->P90_22 true K (.pointer (some ⟨bn,0,none⟩)) v8 v10 v11 (.slice (some ⟨bm,0,none⟩) labs.length labs.length) v34 v35 v36 kk) :
  ∀ (m j:Nat),j+m=labs.length->∀ kk v n nums,Own k kk->NM k kk bn v n->(∀ c,blkOf v c->k.next<=c)->n.length<=base+j->(numAll n (labs.drop j)).2=cs1->nums.take j++(numAll n (labs.drop j)).1=N1->Fx (fun c=>(c=bn\/blkOf w0 c)\/c=bm) k0 kk->(∀ c,blkOf v c->blkOf w0 c\/k0.next<=c)->bm≠bn->¬ blkOf v bm->bm<kk.next->
   kk.get bm=some (.row (ints nums) 3 0 false)->nums.length=labs.length->(∀ i,i<j->okNum labs nums i)->
   P90_18 true K (.pointer (some ⟨bn,0,none⟩)) v8 v10 v11 (.slice (some ⟨bm,0,none⟩) labs.length labs.length) v34 v35 v36 vl (.int .i64 (labs.length:Int)) (.int .i64 (j:Int)) kk:=by
 intro m
 induction m with
 | zero=>
  intro j hj kk v n nums ho hm hb hn hcs hN1 hf hbl hne hnb hlt hrow hlen hok
  refine P90_18_of ?_
  simp only [bf_lss,evO_some,brK_d]
  have:j=labs.length:=by omega
  subst this
  exact ⟨fun h=>by omega,fun _=>hK kk v n nums ho hm hb hn (by rw [List.drop_length] at hcs;exact hcs) (by rw [List.drop_length,List.take_of_length_le (by omega)] at hN1;simpa [numAll] using hN1) hf hbl hne hnb hrow hlen hok⟩
 | succ m ih=>
  intro j hj kk v n nums ho hm hb hn hcs hN1 hf hbl hne hnb hlt hrow hlen hok
  have hjn:j<labs.length:=by omega
  have hjn2:j<elsL.length:=by rw [RLab.length hL];exact hjn
  refine P90_18_of ?_
  simp only [bf_lss,evO_some,brK_d]
  refine ⟨fun _=>P90_19_of ?_,fun h=>by omega⟩
  obtain ⟨g,vt,lt,hel,hrt,hat⟩:=RLab.at hL j _ (List.getElem?_eq_getElem hjn2)
  obtain ⟨b',o',c',vs',ty',es',ro',hv',hb',hlt',hle',hz',hzl'⟩:=ha.load (List.getElem?_eq_getElem hjn2)
  rw [hel] at hz'
  rw [hvl] at hv'
  simp only [Value.slice.injEq] at hv'
  obtain ⟨hv1,_,_⟩:=hv'
  subst hv1
  have gb':kk.get b'=some (.row vs' ty' es' ro'):=(ho.ext.get b' hlt').trans hb'
  have hbx:=box36 (k:=kk) (g:=g) (rt_leaf hrt)
  simp only [hvl,ia_22 hjn,evO_some,load_agg ta_36 gb' hle',hz',z_36,new_row,ev_one,cells_agg,hbx]
  refine P90_20_of ?_
  have hkn:=ho.ext.next
  have f2:Fx NoB kk ((kk.new (.row [.int .i64 0,.slice none 0 0] 36 0 false)).upd kk.next (some (.row [.int .i64 g,vt] 36 0 false))):=((Fx.refl ho.ext.ok).new _).upd (.inr (Nat.le_refl _)) _
  have t2:((kk.new (.row [.int .i64 0,.slice none 0 0] 36 0 false)).upd kk.next (some (.row [.int .i64 g,vt] 36 0 false))).get kk.next=some (.row [.int .i64 g,vt] 36 0 false):=get_upd_self _ _ _
  generalize ((kk.new (.row [.int .i64 0,.slice none 0 0] 36 0 false)).upd kk.next (some (.row [.int .i64 g,vt] 36 0 false)))=k2 at f2 t2
  have ca:=load_agg (P:=E) ta_36 (o:=0) t2 (by simp)
  simp only [List.drop_zero,List.take] at ca
  have o2:=f2.own ho (fun _ h=>h.elim)
  have hm2:=hm.fx f2 (fun h=>h) (fun _ _ h=>h)
  simp only [evO_some,ca,wCall_0]
  refine (call143 (h0:=k) (k:=k2) (g:=g) o2.ext hbn hb hm2 (by omega) hrt).mono fun x hx=>?_
  obtain ⟨r,v',n',hx1,hnum,hr,hs⟩:=hx
  have hnu1:(numL n (g,lt)).1=r:=(congrArg Prod.fst hnum).symm
  have hnu2:(numL n (g,lt)).2=n':=(congrArg Prod.snd hnum).symm
  rw [drop_at hat] at hcs hN1
  simp only [numAll,hnu1,hnu2] at hcs hN1
  rw [hx1]
  have o3:=hs.fx.own o2 (fun c hc=>hc.elim (fun h=>by rw [h];exact hbn) (hb c))
  have hrow3:x.2.get bm=some (.row (ints nums) 3 0 false):=by
   rw [hs.get bm (Nat.lt_of_lt_of_le hlt f2.next) hne hnb,f2.get bm hlt (fun h=>h)];exact hrow
  have hlt3:bm<x.2.next:=Nat.lt_of_lt_of_le (Nat.lt_of_lt_of_le hlt f2.next) hs.next
  have hjn3:j<nums.length:=by omega
  have hsto:=store_of (P:=E) ts_3 (o:=0+j*1) hrow3 (cells_int .i64 r) rfl (by simp [ints];omega) rfl
  rw [show 0+j*1=j by omega,lput_set _ _ _ (by simp [ints];omega),ints_set] at hsto
  have hia:=ia_47 (b:=bm) (o:=0) (c:=labs.length) hjn
  rw [show 0+j*1=j by omega] at hia
  simp only [hia,evO_some,hsto,ev_one]
  refine P90_21_of ?_
  have hnb':¬ blkOf v' bm:=fun h=>(hs.blk bm h).elim hnb fun h=>by have:=f2.next;omega
  have f4:Fx (fun c=>c=bm) x.2 (x.2.upd bm (some (.row (ints (nums.set j r)) 3 0 false))):=Fx.upd (P:=fun c=>c=bm) (Fx.refl hs.ok) (.inl rfl) _
  have hm4:=hs.nm.fx f4 (fun h=>hne h.symm) (fun c hc h=>hnb' (h ▸ hc))
  simp only [bf_add _ (add1 hjn (by omega)),evO_some]
  have hbl':∀ c,blkOf v' c->blkOf w0 c\/k0.next<=c:=fun c hc=>(hs.blk c hc).elim (hbl c) fun h=>.inr (by have:=f2.next;have:=hf.next;omega)
  have hff:Fx (fun c=>(c=bn\/blkOf w0 c)\/c=bm) k0 (x.2.upd bm (some (.row (ints (nums.set j r)) 3 0 false))):=by
   have e1:=hf.trans f2 (fun _ h=>h.elim)
   have e2:=e1.trans hs.fx (fun c hc=>hc.elim (fun h=>.inl (.inl (.inl h))) fun h=>(hbl c h).elim (fun h=>.inl (.inl (.inr h))) .inr)
   exact e2.trans f4 (fun c h=>.inl (.inr h))
  have:=ih (j+1) (by omega) _ v' n' (nums.set j r) (f4.own o3 (fun c h=>by rw [h];exact hbm)) hm4
   (fun c hc=>(hs.blk c hc).elim (hb c) fun h=>by have:=o2.ext.next;omega) (by have:=hs.n;omega) hcs (by rw [take_set hjn3,List.append_assoc];exact hN1) hff hbl' hne hnb' (by simpa using hlt3) (get_upd_self _ _ _) (by simp [hlen]) (fun i hi g' l' hgl=>by
    by_cases hij:i=j
    ·subst hij
     rw [hat] at hgl
     simp only [Option.some.injEq,Prod.mk.injEq] at hgl
     obtain ⟨rfl,rfl⟩:=hgl
     refine ⟨r,by simp [hjn3],?_⟩
     by_cases hg:g=-1
     ·rw [if_pos hg] at hr;exact ⟨by omega,fun _=>hr,fun h=>absurd hg h⟩
     ·rw [if_neg hg] at hr;exact ⟨by omega,fun h=>absurd h hg,fun _=>hr.1⟩
    ·obtain ⟨r',a1,a2⟩:=hok i (by omega) g' l' hgl
     exact ⟨r',by rw [List.getElem?_set_ne (by omega)];exact a1,a2⟩)
  rw [hvl] at this
  simpa using this
abbrev Steps:=List (Int×Int)
def stc (S:Steps):List Value:=S.flatMap prCells
theorem stc_len:∀ S:Steps,(stc S).length=S.length*2
 | []=>rfl
 | x::l=>by simp only [stc,List.flatMap_cons,List.length_append,List.length_cons];have:=stc_len l;simp only [stc] at this;rw [this];simp [prCells];omega
def CellOK (h:AH) (c:Value) (S:Steps):Prop:=(c=.slice none 0 0/\S=[])\/∃ b,c=.slice (some ⟨b,0,none⟩) S.length (UNK+2)/\h.get b=some (.row (stc S) 134 2 false)/\b<h.next
structure GG (loc:Nat) (h:AH) (bg bs:Nat) (cells:List Value) (SS:List Steps):Prop where
 g:h.get bg=some (.row [.slice (some ⟨bs,0,none⟩) cells.length cells.length] 131 0 false)
 s:h.get bs=some (.row cells 132 0 false)
 len:cells.length=SS.length
 ne:bg≠bs
 ltg:bg<h.next
 lts:bs<h.next
 locg:loc<=bg
 locs:loc<=bs
 cell:∀ (i:Nat) (c:Value) (S:Steps),cells[i]?=some c->SS[i]?=some S->CellOK h c S
 blk:∀ (i:Nat) (c:Value) (b:Nat),cells[i]?=some c->blkOf c b->b≠bg/\b≠bs/\loc<=b
 dis:∀ (i j:Nat) (c d:Value) (b:Nat),cells[i]?=some c->cells[j]?=some d->blkOf c b->blkOf d b->i=j
theorem CellOK.lt {h:AH} {c:Value} {S:Steps} (k:CellOK h c S) {b:Nat} (hb:blkOf c b):b<h.next:=by
 obtain ⟨n,cap,rfl⟩:=hb
 rcases k with ⟨e,_⟩|⟨b',e,_,hlt⟩
 ·cases e
 ·simp only [Value.slice.injEq,Option.some.injEq,Addr.mk.injEq] at e
  rw [e.1.1];exact hlt
theorem CellOK.fx {P:Nat->Prop} {h h':AH} {c:Value} {S:Steps} (k:CellOK h c S) (f:Fx P h h') (hn:∀ b,blkOf c b->¬ P b):CellOK h' c S:=by
 rcases k with e|⟨b,e,hg,hlt⟩
 ·exact .inl e
 ·exact .inr ⟨b,e,(f.get b hlt (hn b ⟨_,_,e⟩)).trans hg,Nat.lt_of_lt_of_le hlt f.next⟩
theorem CellOK.leaf {h:AH} {c:Value} {S:Steps} (k:CellOK h c S):isLeaf c=true/\cellsOfV c=[c]/\veq 100 c c=true:=by
 rcases k with ⟨rfl,_⟩|⟨b,rfl,_⟩ <;> exact ⟨rfl,rfl,veq_slice _ _ _ _⟩
theorem GG.fx {P:Nat->Prop} {loc bg bs:Nat} {h h':AH} {cells:List Value} {SS:List Steps} (G:GG loc h bg bs cells SS) (f:Fx P h h') (h1:¬ P bg) (h2:¬ P bs) (h3:∀ (i:Nat) (c:Value) (b:Nat),cells[i]?=some c->blkOf c b->¬ P b):GG loc h' bg bs cells SS:=
 ⟨(f.get bg G.ltg h1).trans G.g,(f.get bs G.lts h2).trans G.s,G.len,G.ne,Nat.lt_of_lt_of_le G.ltg f.next,Nat.lt_of_lt_of_le G.lts f.next,G.locg,G.locs,
  fun i c S hc hS=>(G.cell i c S hc hS).fx f (fun b hb=>h3 i c b hc hb),G.blk,G.dis⟩
theorem bs132 {a b:Int} {h:AH}:wBuildSlice E 132 1 (some [(0,.agg #[.int .i64 a,.int .i64 b])]) h=one (.slice (some ⟨h.next,0,none⟩) 1 1,h.new (.row [.int .i64 a,.int .i64 b] 134 0 false)):=by kernel_rfl
theorem pb134 {a b:Int}:pBuild E 134 (some [(0,.int .i64 a),(1,.int .i64 b)])=some (.agg #[.int .i64 a,.int .i64 b]):=by kernel_rfl
theorem append_step {h:AH} (hok:h.ok) {c:Value} {S:Steps} (hc:CellOK h c S) (hS:S.length+1<=1000000) (a b:Int) :
  ∃ h3,wBuiltinO E .append [132,132] (some [c,.slice (some ⟨h.next,0,none⟩) 1 1]) (h.new (.row [.int .i64 a,.int .i64 b] 134 0 false))=one (.slice (some ⟨h.next+1,0,none⟩) (S.length+1) (UNK+2),h3) ∧
   h3.get (h.next+1)=some (.row (stc (S++[(a,b)])) 134 2 false)/\h3.next=h.next+2/\Fx (fun x=>blkOf c x) h h3:=by
 have hrow:=get_new_self h (.row [.int .i64 a,.int .i64 b] 134 0 false)
 have hst:stc (S++[(a,b)])=stc S++[.int .i64 a,.int .i64 b]:=by simp [stc,prCells,List.flatMap_append]
 rcases hc with ⟨rfl,rfl⟩|⟨bl,rfl,hg,hlt⟩
 ·refine ⟨_,append_nil elt132 hrow rfl,?_,rfl,((Fx.refl hok).new _).new _⟩
  rw [hst]
  exact get_new_self (h.new _) _
 ·have hg':(h.new (.row [.int .i64 a,.int .i64 b] 134 0 false)).get bl=some (.row (stc S) 134 2 false):=by rw [get_new_ne (by omega)];exact hg
  refine ⟨_,append_unk elt132 (by omega) hg' (stc_len S) hS hrow rfl (by simp [isLeaf]),?_,rfl,?_⟩
  ·rw [hst]
   exact get_new_self ((h.new _).upd bl none) _
  ·have f1:Fx (fun x=>blkOf (.slice (some ⟨bl,0,none⟩) S.length (UNK+2)) x) h (h.new (.row [.int .i64 a,.int .i64 b] 134 0 false)):=(Fx.refl hok).new _
   exact (f1.upd (.inl ⟨_,_,rfl⟩) none).new _
def StOK (n:Nat) (vis:Prop) (S:Steps):Prop:=∀ x∈S,(0<=x.2/\x.2<n)/\0<=x.1/\(vis->1<=x.1)
theorem box52 {k:AH} {e:Int×Int×Int} :
  wStore E 52 (k.new (.row [.int .i64 0,.int .i64 0,.int .i64 0] 52 0 false)) (some (.pointer (some ⟨k.next,0,none⟩))) (some (.agg ⟨edCells e⟩))=one (undef,(k.new (.row [.int .i64 0,.int .i64 0,.int .i64 0] 52 0 false)).upd k.next (some (.row (edCells e) 52 0 false))):=by
 rw [store_of (P:=E) ts_52 (x:=.agg ⟨edCells e⟩) (cs:=edCells e) (get_new_self k _) rfl rfl (by simp) (by simp [edCells,isLeaf])]
 rfl
theorem eds_few {L:GL} (h:badLts L=false):L.eds.length<=100000:=by
 simp only [badLts,badSize,Bool.or_eq_false_iff,decide_eq_false_iff_not] at h
 omega
def stepsGo (nums:List Int):List Steps->List (Int×Int×Int)->List Steps
 | SS,[]=>SS
 | SS,e::l=>stepsGo nums (SS.set e.1.toNat ((SS[e.1.toNat]?.getD [])++[((nums[e.2.1.toNat]?).getD 0,e.2.2)])) l
theorem graphs3 {k:AH} {K:KF} {L:GL} {ve:Value} {ae:Option Addr} {ce:Nat} (hve:ve=.slice ae L.eds.length ce) (ha:Arr k 3 ve (L.eds.map edCells)) (hL:badLts L=false) {N:Nat} (hN:L.n=(N:Int))
  {v3 v8 v34 v35 v36:Value} {bm bg bs:Nat} {nums:List Int} (hlen:nums.length=L.labs.length) (hnum:∀ j,j<L.labs.length->okNum L.labs nums j) {k0:AH} {cells0:List Value} {SS1:List Steps} {vis:Prop} (hvis:vis->∀ (j:Nat) (g:Int) (l:List GT),L.labs[j]?=some (g,l)->g≠-1)
  (hK:∀ kk cells SS,Own k kk->GG k.next kk bg bs cells SS->cells.length=N->(∀ (i:Nat) (S:Steps),SS[i]?=some S->StOK N vis S/\S.length<=100000)->SS=SS1->Fx (fun c=>c=bs\/∃ (i:Nat) (x:Value),cells0[i]?=some x/\blkOf x c) k0 kk->
   (∀ (i:Nat) (x:Value) (c:Nat),cells[i]?=some x->blkOf x c->(∃ (i:Nat) (x:Value),cells0[i]?=some x/\blkOf x c)\/k0.next<=c)->
   P90_27 true K v3 v8 (.pointer (some ⟨bg,0,none⟩)) v34 v35 v36 kk) :
  ∀ (m j:Nat),j+m=L.eds.length->∀ kk cells SS,Own k kk->GG k.next kk bg bs cells SS->cells.length=N->(∀ (i:Nat) (S:Steps),SS[i]?=some S->StOK N vis S/\S.length<=j)->stepsGo nums SS (L.eds.drop j)=SS1->Fx (fun c=>c=bs\/∃ (i:Nat) (x:Value),cells0[i]?=some x/\blkOf x c) k0 kk->
   (∀ (i:Nat) (x:Value) (c:Nat),cells[i]?=some x->blkOf x c->(∃ (i:Nat) (x:Value),cells0[i]?=some x/\blkOf x c)\/k0.next<=c)->
   kk.get bm=some (.row (ints nums) 3 0 false)->bm<kk.next->bm≠bs->(∀ (i:Nat) (x:Value),cells[i]?=some x->¬ blkOf x bm)->k.next<=bm->
   P90_23 true K v3 v8 (.pointer (some ⟨bg,0,none⟩)) (.slice (some ⟨bm,0,none⟩) L.labs.length L.labs.length) v34 v35 v36 ve (.int .i64 (L.eds.length:Int)) (.int .i64 (j:Int)) kk:=by
 obtain ⟨z1,z2,z3,z4⟩:=bad_sizes hL
 intro m
 induction m with
 | zero=>
  intro j hj kk cells SS ho hG hNc hst hS1 hf hcb hbm hbml hbne hbnb hbloc
  refine P90_23_of ?_
  simp only [bf_lss,evO_some,brK_d]
  exact ⟨fun h=>by omega,fun _=>hK kk cells SS ho hG hNc (fun i S h=>⟨(hst i S h).1,by have:=(hst i S h).2;have:=eds_few hL;omega⟩) (by rw [List.drop_eq_nil_of_le (show L.eds.length<=j by omega)] at hS1;exact hS1) hf hcb⟩
 | succ m ih=>
  intro j hj kk cells SS ho hG hNc hst hS1 hf hcb hbm hbml hbne hbnb hbloc
  have hjn:j<L.eds.length:=by omega
  refine P90_23_of ?_
  simp only [bf_lss,evO_some,brK_d]
  refine ⟨fun _=>P90_24_of ?_,fun h=>by omega⟩
  have hate:L.eds[j]?=some L.eds[j]:=List.getElem?_eq_getElem hjn
  have hat:(L.eds.map edCells)[j]?=some (edCells L.eds[j]):=by simp [hjn]
  obtain ⟨b,o,c,vs,ty,es,ro,hv,hb,hlt,hle2,hz,hzl⟩:=ha.load hat
  rw [hve] at hv
  simp only [Value.slice.injEq] at hv
  obtain ⟨hv1,_,hv3⟩:=hv
  subst hv1
  have gb:kk.get b=some (.row vs ty es ro):=(ho.ext.get b hlt).trans hb
  obtain ⟨⟨f1,f2⟩,⟨t1,t2⟩,⟨l1,l2⟩⟩:=bad_edges hL hate
  rw [drop_at hate] at hS1
  generalize hee:L.eds[j]=e at hS1 hz hzl f1 f2 t1 t2 l1 l2
  obtain ⟨from',lab,to⟩:=e
  simp only at f1 f2 t1 t2 l1 l2
  obtain ⟨fr,rfl⟩:=Int.eq_ofNat_of_zero_le f1
  obtain ⟨la,rfl⟩:=Int.eq_ofNat_of_zero_le l1
  have hfr:fr<cells.length:=by omega
  have hfr':fr<SS.length:=by rw [← hG.len];exact hfr
  have hla:la<L.labs.length:=by omega
  have hla':la<nums.length:=by omega
  simp only [hve,ia_23 hjn,evO_some,load_agg ta_52 gb hle2,hz,z_52,new_row,ev_one,cells_agg,box52]
  refine P90_25_of ?_
  have hkn:=ho.ext.next
  have fb:Fx NoB kk ((kk.new (.row [.int .i64 0,.int .i64 0,.int .i64 0] 52 0 false)).upd kk.next (some (.row (edCells ((fr:Int),(la:Int),to)) 52 0 false))):=((Fx.refl ho.ext.ok).new _).upd (.inr (Nat.le_refl _)) _
  have tb:((kk.new (.row [.int .i64 0,.int .i64 0,.int .i64 0] 52 0 false)).upd kk.next (some (.row (edCells ((fr:Int),(la:Int),to)) 52 0 false))).get kk.next=some (.row (edCells ((fr:Int),(la:Int),to)) 52 0 false):=get_upd_self _ _ _
  have nb:((kk.new (.row [.int .i64 0,.int .i64 0,.int .i64 0] 52 0 false)).upd kk.next (some (.row (edCells ((fr:Int),(la:Int),to)) 52 0 false))).next=kk.next+1:=rfl
  generalize ((kk.new (.row [.int .i64 0,.int .i64 0,.int .i64 0] 52 0 false)).upd kk.next (some (.row (edCells ((fr:Int),(la:Int),to)) 52 0 false)))=k1 at fb tb nb
  have o1:=fb.own ho (fun _ h=>h.elim)
  have hG1:=hG.fx fb (fun h=>h) (fun h=>h) (fun _ _ _ _ _ h=>h)
  have hbm1:k1.get bm=some (.row (ints nums) 3 0 false):=(fb.get bm hbml (fun h=>h)).trans hbm
  have c0:=load_leaf (P:=E) ta_3 (o:=0) tb
  have c1:=load_leaf (P:=E) ta_3 (o:=1) tb
  have c2:=load_leaf (P:=E) ta_3 (o:=2) tb
  simp only [lnth,edCells] at c0 c1 c2
  have lg:=load_leaf (P:=E) ta_129 (o:=0) hG1.g
  simp only [lnth] at lg
  have hcell:cells[fr]?=some cells[fr]:=List.getElem?_eq_getElem hfr
  have hSS:SS[fr]?=some SS[fr]:=List.getElem?_eq_getElem hfr'
  have ls:=load_leaf (P:=E) ta_132 (o:=0+fr*1) hG1.s
  rw [lnth_eq,show 0+fr*1=fr by omega,hcell] at ls
  have ln:=load_leaf (P:=E) ta_3 (o:=0+la*1) hbm1
  obtain ⟨gl,hgl⟩:∃ gl,L.labs[la]?=some gl:=⟨_,List.getElem?_eq_getElem hla⟩
  obtain ⟨r,hr1,hr2,hr3,hr4⟩:=hnum la hla gl.1 gl.2 hgl
  rw [lnth_eq,show 0+la*1=la by omega,List.getElem?_map,hr1,Option.map_some] at ln
  have ia1:=ia_129 (b:=bs) (o:=0) (c:=cells.length) hfr
  have ia2:=ia_47 (b:=bm) (o:=0) (c:=L.labs.length) hla
  rw [show 0+fr*1=fr by omega] at ia1
  rw [show 0+la*1=la by omega] at ia2
  have hC:=hG1.cell fr _ _ hcell hSS
  obtain ⟨clf,cc1,cveq⟩:=hC.leaf
  have hSl:=(hst fr _ hSS).2
  obtain ⟨h3,q1,q2,q3,q4⟩:=append_step o1.ext.ok hC (by omega) r to
  have f2x:Fx NoB k1 (k1.new (.row [.int .i64 r,.int .i64 to] 134 0 false)):=(Fx.refl o1.ext.ok).new _
  have hG2:=hG1.fx f2x (fun h=>h) (fun h=>h) (fun _ _ _ _ _ h=>h)
  have tb2:(k1.new (.row [.int .i64 r,.int .i64 to] 134 0 false)).get kk.next=_:=(get_new_ne (by omega)).trans tb
  have d0:=load_leaf (P:=E) ta_3 (o:=0) tb2
  simp only [lnth,edCells] at d0
  have lg2:=load_leaf (P:=E) ta_129 (o:=0) hG2.g
  have ls2:=load_leaf (P:=E) ta_132 (o:=0+fr*1) hG2.s
  simp only [lnth] at lg2
  rw [lnth_eq,show 0+fr*1=fr by omega,hcell] at ls2
  have hcl:∀ x,blkOf cells[fr] x->x≠bg/\x≠bs/\k.next<=x:=fun x hx=>hG1.blk fr _ x hcell hx
  have tb3:h3.get kk.next=some (.row (edCells ((fr:Int),(la:Int),to)) 52 0 false):=(q4.get kk.next (by omega) (fun hx=>by have:=(hG.cell fr _ _ hcell hSS).lt hx;omega)).trans tb
  have e0:=load_leaf (P:=E) ta_3 (o:=0) tb3
  simp only [lnth,edCells] at e0
  have hg3:h3.get bg=_:=(q4.get bg hG1.ltg (fun hx=>(hcl bg hx).1 rfl)).trans hG1.g
  have hs3:h3.get bs=_:=(q4.get bs hG1.lts (fun hx=>(hcl bs hx).2.1 rfl)).trans hG1.s
  have lg3:=load_leaf (P:=E) ta_129 (o:=0) hg3
  simp only [lnth] at lg3
  have hsto:=store_of (P:=E) ts_132 (o:=fr) hs3 (cells_slice (some ⟨k1.next+1,0,none⟩) (SS[fr].length+1) (UNK+2)) rfl (by omega) rfl
  rw [lput_set _ _ _ hfr] at hsto
  simp only [evO_some,nil_ptr,fa_131_0,fa_52_0,fa_52_1,fa_52_2,Nat.add_zero,Nat.zero_add,lg,c0,c1,c2,ia1,ls,ia2,ln,pb134,bs132,ev_one,ls2,lg2,d0,cveq,veq_slice,veq_int,true_and,q1,e0,lg3,hsto]
  refine P90_26_of ?_
  simp only [bf_add _ (add1 hjn (by omega)),evO_some]
  have hP:∀ c,(c=bs\/blkOf cells[fr] c)->(c=bs\/∃ (i:Nat) (x:Value),cells0[i]?=some x/\blkOf x c)\/k0.next<=c:=by
   rintro c (rfl|hc)
   ·exact .inl (.inl rfl)
   ·exact (hcb fr _ c hcell hc).elim (fun h=>.inl (.inr h)) .inr
  have f5:Fx (fun c=>c=bs\/blkOf cells[fr] c) k1 (h3.upd bs (some (.row (cells.set fr (.slice (some ⟨k1.next+1,0,none⟩) (SS[fr].length+1) (UNK+2))) 132 0 false))):=
   (q4.mono (P':=fun c=>c=bs\/blkOf cells[fr] c) (fun c hc=>.inl (.inr hc))).upd (.inl (.inl rfl)) _
  have o5:=f5.own o1 (fun c hc=>hc.elim (fun h=>by rw [h];exact hG.locs) fun h=>(hcl c h).2.2)
  have hset:∀ (i:Nat) (c:Value),(cells.set fr (.slice (some ⟨k1.next+1,0,none⟩) (SS[fr].length+1) (UNK+2)))[i]?=some c->(i=fr/\c=.slice (some ⟨k1.next+1,0,none⟩) (SS[fr].length+1) (UNK+2))\/(i≠fr/\cells[i]?=some c):=by
   intro i c hc
   by_cases hi:i=fr
   ·subst hi
    rw [List.getElem?_set_self hfr] at hc
    exact .inl ⟨rfl,(Option.some.inj hc).symm⟩
   ·rw [List.getElem?_set_ne (fun h=>hi h.symm)] at hc
    exact .inr ⟨hi,hc⟩
  have hnew:∀ b,blkOf (.slice (some ⟨k1.next+1,0,none⟩) (SS[fr].length+1) (UNK+2)) b->b=k1.next+1:=by
   rintro b ⟨n,cap,h⟩
   simp only [Value.slice.injEq,Option.some.injEq,Addr.mk.injEq] at h
   exact h.1.1.symm
  have hltb:∀ (i:Nat) (c:Value) (b:Nat),cells[i]?=some c->blkOf c b->b<k1.next:=fun i c b hc hb=>by
   have hi:i<SS.length:=by rw [← hG.len];exact (List.getElem?_eq_some_iff.1 hc).1
   exact (hG1.cell i c _ hc (List.getElem?_eq_getElem hi)).lt hb
  have hG5:GG k.next (h3.upd bs (some (.row (cells.set fr (.slice (some ⟨k1.next+1,0,none⟩) (SS[fr].length+1) (UNK+2))) 132 0 false))) bg bs (cells.set fr (.slice (some ⟨k1.next+1,0,none⟩) (SS[fr].length+1) (UNK+2))) (SS.set fr (SS[fr]++[(r,to)])):=by
   refine ⟨?_,get_upd_self _ _ _,by simp [hG.len],hG.ne,?_,?_,hG.locg,hG.locs,?_,?_,?_⟩
   ·rw [get_upd_ne hG.ne,List.length_set];exact hg3
   ·show bg<h3.next;have:=hG1.ltg;omega
   ·show bs<h3.next;have:=hG1.lts;omega
   ·intro i c S hc hS
    rcases hset i c hc with ⟨rfl,rfl⟩|⟨hi,hc'⟩
    ·rw [List.getElem?_set_self hfr'] at hS
     cases hS
     refine .inr ⟨k1.next+1,by simp,?_,by show _<h3.next;omega⟩
     rw [get_upd_ne (by have:=hG1.lts;omega)];exact q2
    ·rw [List.getElem?_set_ne (fun h=>hi h.symm)] at hS
     have:=hG1.cell i c S hc' hS
     refine this.fx f5 (fun b hb=>?_)
     rintro (rfl|hb2)
     ·exact (hG1.blk i c _ hc' hb).2.1 rfl
     ·exact hi (hG1.dis i fr c _ b hc' hcell hb hb2)
   ·intro i c b hc hb
    rcases hset i c hc with ⟨rfl,rfl⟩|⟨hi,hc'⟩
    ·rw [hnew b hb]
     have:=hG1.ltg
     have:=hG1.lts
     omega
    ·exact hG1.blk i c b hc' hb
   ·intro i i' c d b hc hd hb hb'
    rcases hset i c hc with ⟨rfl,rfl⟩|⟨hi,hc'⟩
    ·rcases hset i' d hd with ⟨rfl,_⟩|⟨hi',hd'⟩
     ·rfl
     ·have:=hnew b hb
      have:=hltb i' d b hd' hb'
      omega
    ·rcases hset i' d hd with ⟨rfl,rfl⟩|⟨hi',hd'⟩
     ·have:=hnew b hb'
      have:=hltb i c b hc' hb
      omega
     ·exact hG1.dis i i' c d b hc' hd' hb hb'
  have hbm5:(h3.upd bs (some (.row (cells.set fr (.slice (some ⟨k1.next+1,0,none⟩) (SS[fr].length+1) (UNK+2))) 132 0 false))).get bm=some (.row (ints nums) 3 0 false):=
   (f5.get bm (by omega) (fun h=>h.elim hbne fun h=>hbnb fr _ hcell h)).trans hbm1
  have hfin:=ih (j+1) (by omega) _ _ _ o5 hG5 (by simp [hNc]) (fun i S hS=>by
   by_cases hi:i=fr
   ·subst hi
    rw [List.getElem?_set_self hfr'] at hS
    cases hS
    refine ⟨fun x hx=>?_,by simp;omega⟩
    rcases List.mem_append.1 hx with hx|hx
    ·exact (hst i _ hSS).1 x hx
    ·simp only [List.mem_singleton] at hx
     subst hx
     exact ⟨⟨t1,by show to<(N:Int);omega⟩,hr2,fun hv=>hr4 (hvis hv la gl.1 gl.2 hgl)⟩
   ·rw [List.getElem?_set_ne (fun h=>hi h.symm)] at hS
    have:=hst i S hS
    exact ⟨this.1,by omega⟩)
   (by
    have:stepsGo nums SS (((fr:Int),(la:Int),to)::L.eds.drop (j+1))=stepsGo nums (SS.set fr (SS[fr]++[(r,to)])) (L.eds.drop (j+1)):=by
     simp only [stepsGo,Int.toNat_natCast,hSS,hr1,Option.getD_some]
    rw [← this];exact hS1)
   ((hf.trans fb (fun _ h=>h.elim)).trans f5 hP)
   (fun i x c hx hc=>by
    rcases hset i x hx with ⟨rfl,rfl⟩|⟨hi,hx'⟩
    ·rw [hnew c hc];exact .inr (by have:=hf.next;omega)
    ·exact hcb i x c hx' hc)
   hbm5 (by show bm<h3.next;omega) hbne (fun i x hx hb=>by
    rcases hset i x hx with ⟨rfl,rfl⟩|⟨hi,hx'⟩
    ·have:=hnew bm hb;omega
    ·exact hbnb i x hx' hb) hbloc
  rw [hve] at hfin
  simpa using hfin
theorem rep_eq {α:Type} (a:α):∀ n:Nat,rep n [a]=List.replicate n a
 | 0=>rfl
 | n+1=>by simp only [rep,rep_eq a n,List.replicate_succ];rfl
theorem mkSlice {t e:TypeId} {z:Value} (H:∃ i,elemT E t=some e/\tinfo E e=some i/\i.zero=some z/\i.bytes<=1000000/\i.size=1) (hz:cellsOfV z=[z]) {n:Nat} (hn:n<=1000000) {h:AH} :
  wMakeSlice E t (some (.int .i64 (n:Int))) (some (.int .i64 (n:Int))) h=one (.slice (some ⟨h.next,0,none⟩) n n,h.new (.row (List.replicate n z) e 0 false)):=by
 obtain ⟨i,h1,h2,h3,h4,h5⟩:=H
 have ha:asNat (.int .i64 (n:Int))=some n:=rfl
 simp only [wMakeSlice,h1,ha,h2,h3,ble_true.2 (Nat.le_refl n),ble_true.2 hn,ble_true.2 h4,hz,llen,h5,rep_eq]
 rfl
theorem ti_of {t:TypeId} {b:Bool} {n:Nat} {z:Value} (h1:tAS E t=some (b,n)) (h2:zeroV E t=some z) (h3:(match tinfo E t with|some i=>Nat.ble i.bytes 1000000|none=>false)=true):∃ i,tinfo E t=some i/\i.zero=some z/\i.bytes<=1000000/\i.size=n:=by
 cases ht:tinfo E t with
 | none=>unfold tAS at h1;rw [ht] at h1;cases h1
 | some i=>
  refine ⟨i,rfl,?_,?_,?_⟩
  ·have:zeroV E t=i.zero:=by unfold zeroV;unfold tinfo at ht;rw [ht]
   rw [← this];exact h2
  ·rw [ht] at h3;exact ble_true.1 h3
  ·unfold tAS at h1;rw [ht] at h1;simp at h1;exact h1.2
theorem mk129 {n:Nat} (hn:n<=1000000) {h:AH}:wMakeSlice E 129 (some (.int .i64 (n:Int))) (some (.int .i64 (n:Int))) h=one (.slice (some ⟨h.next,0,none⟩) n n,h.new (.row (List.replicate n (.slice none 0 0)) 132 0 false)):=
 mkSlice (by obtain ⟨i,a⟩:=ti_of ta_132 z_132 (by kernel_rfl);exact ⟨i,elt_129,a⟩) rfl hn
theorem mk47 {n:Nat} (hn:n<=1000000) {h:AH}:wMakeSlice E 47 (some (.int .i64 (n:Int))) (some (.int .i64 (n:Int))) h=one (.slice (some ⟨h.next,0,none⟩) n n,h.new (.row (List.replicate n (.int .i64 0)) 3 0 false)):=
 mkSlice (by obtain ⟨i,a⟩:=ti_of ta_3 z_3 (by kernel_rfl);exact ⟨i,elt_47,a⟩) rfl hn
theorem pb131 {a:Option Addr} {n c:Nat}:pBuild E 131 (some [(0,.slice a n c)])=some (.agg #[.slice a n c]):=by kernel_rfl
theorem bs126 {a:Option Addr} {h:AH}:wBuildSlice E 126 1 (some [(0,.pointer a)]) h=one (.slice (some ⟨h.next,0,none⟩) 1 1,h.new (.row [.pointer a] 128 0 false)):=by kernel_rfl
abbrev Gr:=Nat×Nat×List Value×List Steps
def inG (x:Gr) (c:Nat):Prop:=c=x.1\/c=x.2.1\/∃ (i:Nat) (y:Value),x.2.2.1[i]?=some y/\blkOf y c
def noInner (L:GL):Prop:=∀ (j:Nat) (g:Int) (l:List GT),L.labs[j]?=some (g,l)->g≠-1
def GrOf (L:GL) (x:Gr):Prop:=((x.2.2.1.length:Nat):Int)=L.n/\∀ (i:Nat) (S:Steps),x.2.2.2[i]?=some S->StOK x.2.2.1.length (noInner L) S/\S.length<=100000
abbrev ptr (b:Nat):Value:=.pointer (some ⟨b,0,none⟩)
structure Outs (loc:Nat) (h:AH) (out:Value) (gs:List Gr):Prop where
 sl:(out=.slice none 0 0/\gs=[])\/∃ bo,out=.slice (some ⟨bo,0,none⟩) gs.length (UNK+1)/\h.get bo=some (.row (gs.map fun x=>ptr x.1) 128 1 false)/\bo<h.next/\loc<=bo
 gg:∀ x∈gs,GG loc h x.1 x.2.1 x.2.2.1 x.2.2.2
 sep:∀ x∈gs,∀ c,inG x c->¬ blkOf out c
theorem Outs.fx {P:Nat->Prop} {loc:Nat} {h h':AH} {out:Value} {gs:List Gr} (O:Outs loc h out gs) (f:Fx P h h') (h1:∀ c,blkOf out c->¬ P c) (h2:∀ x∈gs,∀ c,inG x c->¬ P c):Outs loc h' out gs:=by
 refine ⟨?_,fun x hx=>(O.gg x hx).fx f (h2 x hx _ (.inl rfl)) (h2 x hx _ (.inr (.inl rfl))) (fun i c b hc hb=>h2 x hx b (.inr (.inr ⟨i,c,hc,hb⟩))),O.sep⟩
 rcases O.sl with e|⟨bo,e1,e2,e3,e4⟩
 ·exact .inl e
 ·exact .inr ⟨bo,e1,(f.get bo e3 (h1 bo ⟨_,_,e1⟩)).trans e2,Nat.lt_of_lt_of_le e3 f.next,e4⟩
theorem Outs.lt {loc:Nat} {h:AH} {out:Value} {gs:List Gr} (O:Outs loc h out gs) {c:Nat} (hc:blkOf out c\/∃ x∈gs,inG x c):c<h.next/\loc<=c:=by
 rcases hc with ⟨n,cap,hc⟩|⟨x,hx,hc⟩
 ·rcases O.sl with ⟨e,_⟩|⟨bo,e1,e2,e3,e4⟩
  ·rw [e] at hc;cases hc
  ·rw [e1] at hc
   simp only [Value.slice.injEq,Option.some.injEq,Addr.mk.injEq] at hc
   rw [← hc.1.1];exact ⟨e3,e4⟩
 ·have G:=O.gg x hx
  rcases hc with rfl|rfl|⟨i,y,hy,hb⟩
  ·exact ⟨G.ltg,G.locg⟩
  ·exact ⟨G.lts,G.locs⟩
  ·have hi:i<x.2.2.2.length:=by rw [← G.len];exact (List.getElem?_eq_some_iff.1 hy).1
   exact ⟨(G.cell i y _ hy (List.getElem?_eq_getElem hi)).lt hb,(G.blk i y c hy hb).2.2⟩
theorem outs_app {loc:Nat} {h:AH} (hok:h.ok) (hloc:loc<=h.next) {out:Value} {gs:List Gr} (O:Outs loc h out gs) (hn:gs.length<=1000) (x:Gr) (hx:GG loc h x.1 x.2.1 x.2.2.1 x.2.2.2) (hsep:∀ c,inG x c->¬ blkOf out c) :
  ∃ out' h3,wBuiltinO E .append [126,126] (some [out,.slice (some ⟨h.next,0,none⟩) 1 1]) (h.new (.row [ptr x.1] 128 0 false))=one (out',h3)/\Outs loc h3 out' (gs++[x])/\Fx (fun c=>blkOf out c) h h3/\(∀ c,blkOf out' c->h.next<=c):=by
 have hrow:=get_new_self h (.row [ptr x.1] 128 0 false)
 have hlx:∀ c,inG x c->c<h.next:=by
  intro c hc
  rcases hc with rfl|rfl|⟨i,y,hy,hb⟩
  ·exact hx.ltg
  ·exact hx.lts
  ·have hi:i<x.2.2.2.length:=by rw [← hx.len];exact (List.getElem?_eq_some_iff.1 hy).1
   exact (hx.cell i y _ hy (List.getElem?_eq_getElem hi)).lt hb
 have hnew:∀ (n cap c:Nat),blkOf (.slice (some ⟨h.next+1,0,none⟩) n cap) c->c=h.next+1:=by
  rintro n cap c ⟨m,cap',e⟩
  simp only [Value.slice.injEq,Option.some.injEq,Addr.mk.injEq] at e
  exact e.1.1.symm
 have fin:∀ {h3:AH} {cap:Nat},cap=UNK+1->h3.next=h.next+2->Fx (fun c=>blkOf out c) h h3->h3.get (h.next+1)=some (.row ((gs++[x]).map fun x=>ptr x.1) 128 1 false)->Outs loc h3 (.slice (some ⟨h.next+1,0,none⟩) (gs.length+1) cap) (gs++[x]):=by
  rintro h3 cap rfl e1 f e2
  refine ⟨.inr ⟨h.next+1,by simp,e2,by omega,by omega⟩,?_,?_⟩
  ·intro y hy
   rcases List.mem_append.1 hy with hy|hy
   ·exact (O.gg y hy).fx f (O.sep y hy _ (.inl rfl)) (O.sep y hy _ (.inr (.inl rfl))) (fun i c b hc hb=>O.sep y hy b (.inr (.inr ⟨i,c,hc,hb⟩)))
   ·simp only [List.mem_singleton] at hy
    subst hy
    exact hx.fx f (hsep _ (.inl rfl)) (hsep _ (.inr (.inl rfl))) (fun i c b hc hb=>hsep b (.inr (.inr ⟨i,c,hc,hb⟩)))
  ·intro y hy c hc hb
   have hc1:=hnew _ _ c hb
   rcases List.mem_append.1 hy with hy|hy
   ·have:=(O.lt (.inr ⟨y,hy,hc⟩)).1
    omega
   ·simp only [List.mem_singleton] at hy
    subst hy
    have:=hlx c hc
    omega
 rcases O.sl with ⟨rfl,rfl⟩|⟨bo,rfl,e2,e3,e4⟩
 ·refine ⟨_,_,append_nil elt126 hrow rfl,fin rfl rfl (((Fx.refl hok).new _).new _) ?_,((Fx.refl hok).new _).new _,fun c hc=>by rw [hnew _ _ c hc];omega⟩
  exact get_new_self (h.new _) _
 ·have hb:(h.new (.row [ptr x.1] 128 0 false)).get bo=some (.row (gs.map fun x=>ptr x.1) 128 1 false):=by rw [get_new_ne (by omega)];exact e2
  have f1:Fx (fun c=>blkOf (.slice (some ⟨bo,0,none⟩) gs.length (UNK+1)) c) h (h.new (.row [ptr x.1] 128 0 false)):=(Fx.refl hok).new _
  have f2:=(f1.upd (b:=bo) (.inl ⟨_,_,rfl⟩) none).new (.row ((gs.map fun x=>ptr x.1)++[ptr x.1]) 128 1 false)
  refine ⟨_,_,append_unk elt126 (by omega) hb (by simp) (by omega) hrow rfl rfl,fin rfl rfl f2 ?_,f2,fun c hc=>by rw [hnew _ _ c hc];omega⟩
  rw [List.map_append]
  exact get_new_self ((h.new _).upd bo none) _
def stepsOf (nums:List Int) (L:GL):List Steps:=stepsGo nums (List.replicate L.n.toNat []) L.eds
def buildAll:List CL->List GL->List (List Steps)
 | _,[]=>[]
 | cs,L::Ls=>stepsOf (numAll cs L.labs).1 L::buildAll (numAll cs L.labs).2 Ls
theorem graphs4 {k:AH} {v0:Value} {els:List (List Value)} {Ls:List GL} (a:Args k v0 els Ls) {bn:Nat} (hbn:k.next<=bn) {K:KF} {ad:Option Addr} {cp:Nat} (hv0:v0=.slice ad els.length cp) {G:List (List Steps)}
  (hK:∀ kk out gs,Own k kk->Outs k.next kk out gs->gs.length=els.length->(∀ (i:Nat) (x:Gr) (L:GL),gs[i]?=some x->Ls[i]?=some L->GrOf L x)->gs.map (fun x=>x.2.2.2)=G->K .ret [out] kk) :
  ∀ (m i:Nat),i+m=els.length->∀ kk v n out gs,Own k kk->NM k kk bn v n->(∀ c,blkOf v c->k.next<=c)->n.length<=4000*els.length+4000*i->gs.map (fun x=>x.2.2.2)++buildAll n (Ls.drop i)=G->Outs k.next kk out gs->gs.length=i->
   (∀ (i:Nat) (x:Gr) (L:GL),gs[i]?=some x->Ls[i]?=some L->GrOf L x)->(∀ c,(blkOf out c\/∃ x∈gs,inG x c)->c≠bn/\¬ blkOf v c)->
   P90_13 true K (ptr bn) out v0 (.int .i64 (els.length:Int)) (.int .i64 (i:Int)) kk:=by
 have hfew:=a.few
 intro m
 induction m with
 | zero=>
  intro i hi kk v n out gs ho hm hb hn hGG hO hgl hgr hsep
  refine P90_13_of ?_
  simp only [bf_lss,evO_some,brK_d]
  refine ⟨fun h=>by omega,fun _=>P90_29_of ?_⟩
  exact hK kk out gs ho hO (by omega) hgr (by rw [List.drop_eq_nil_of_le (by have:=a.len;omega)] at hGG;simpa [buildAll] using hGG)
 | succ m ih=>
  intro i hi kk v n out gs ho hm hb hn hGG hO hgl hgr hsep
  have hin:i<els.length:=by omega
  refine P90_13_of ?_
  simp only [bf_lss,evO_some,brK_d]
  refine ⟨fun _=>P90_14_of ?_,fun h=>by omega⟩
  obtain ⟨L,b,o,c,vs,ty,es,ro,vl,ve,elsL,q0,q1,q2,q3,q4,q5,q6,q7,q8,q9,q10,q11⟩:=a.at hin
  have gb:kk.get b=some (.row vs ty es ro):=(ho.ext.get b q3).trans q2
  rw [hv0] at q1
  simp only [Value.slice.injEq] at q1
  obtain ⟨q11',_,_⟩:=q1
  subst q11'
  obtain ⟨s1,s2,s3,s4⟩:=bad_sizes q11
  obtain ⟨N,hN⟩:=Int.eq_ofNat_of_zero_le (show 0<=L.n by omega)
  obtain ⟨al,cl,hvl⟩:=q8.slice
  rw [RLab.length q9] at hvl
  obtain ⟨ae,ce,hve⟩:=q10.slice
  rw [List.length_map] at hve
  have hbox:=box25 (k:=kk) (e:=[.int .i64 L.n,vl,ve]) (by simp [isLeaf];exact ⟨q6,q7⟩) rfl
  simp only [hv0,ia_82 hin,evO_some,load_agg ta_25 gb q4,q5,z_25,new_row,ev_one,cells_agg,hbox]
  refine P90_15_of ?_
  have hkn:=ho.ext.next
  have f1:Fx NoB kk ((kk.new (.row [.int .i64 0,.slice none 0 0,.slice none 0 0] 25 0 false)).upd kk.next (some (.row [.int .i64 L.n,vl,ve] 25 0 false))):=((Fx.refl ho.ext.ok).new _).upd (.inr (Nat.le_refl _)) _
  have t1:((kk.new (.row [.int .i64 0,.slice none 0 0,.slice none 0 0] 25 0 false)).upd kk.next (some (.row [.int .i64 L.n,vl,ve] 25 0 false))).get kk.next=some (.row [.int .i64 L.n,vl,ve] 25 0 false):=get_upd_self _ _ _
  have n1:((kk.new (.row [.int .i64 0,.slice none 0 0,.slice none 0 0] 25 0 false)).upd kk.next (some (.row [.int .i64 L.n,vl,ve] 25 0 false))).next=kk.next+1:=rfl
  generalize ((kk.new (.row [.int .i64 0,.slice none 0 0,.slice none 0 0] 25 0 false)).upd kk.next (some (.row [.int .i64 L.n,vl,ve] 25 0 false)))=k1 at f1 t1 n1
  have l0:=load_leaf (P:=E) ta_3 (o:=0) t1
  simp only [lnth] at l0
  rw [hN] at l0
  simp only [fa_25_0,Nat.add_zero,l0,evO_some,mk129 (show N<=1000000 by omega),ev_one,pb131,new_row,cells_agg]
  refine P90_16_of ?_
  have f2:Fx NoB kk ((k1.new (.row (List.replicate N (.slice none 0 0)) 132 0 false)).new (.row [.slice (some ⟨k1.next,0,none⟩) N N] 131 0 false)):=(f1.new _).new _
  have t2:((k1.new (.row (List.replicate N (.slice none 0 0)) 132 0 false)).new (.row [.slice (some ⟨k1.next,0,none⟩) N N] 131 0 false)).get kk.next=some (.row [.int .i64 L.n,vl,ve] 25 0 false):=by
   rw [get_new_ne (by simp;omega),get_new_ne (by omega)];exact t1
  have ts2:((k1.new (.row (List.replicate N (.slice none 0 0)) 132 0 false)).new (.row [.slice (some ⟨k1.next,0,none⟩) N N] 131 0 false)).get k1.next=some (.row (List.replicate N (.slice none 0 0)) 132 0 false):=by
   rw [get_new_ne (by simp)];exact get_new_self _ _
  have tg2:((k1.new (.row (List.replicate N (.slice none 0 0)) 132 0 false)).new (.row [.slice (some ⟨k1.next,0,none⟩) N N] 131 0 false)).get (k1.next+1)=some (.row [.slice (some ⟨k1.next,0,none⟩) N N] 131 0 false):=get_new_self (k1.new _) _
  have n2:((k1.new (.row (List.replicate N (.slice none 0 0)) 132 0 false)).new (.row [.slice (some ⟨k1.next,0,none⟩) N N] 131 0 false)).next=k1.next+2:=rfl
  simp only [AH.next_new]
  generalize ((k1.new (.row (List.replicate N (.slice none 0 0)) 132 0 false)).new (.row [.slice (some ⟨k1.next,0,none⟩) N N] 131 0 false))=k2 at f2 t2 ts2 tg2 n2
  have l1:=load_leaf (P:=E) ta_22 (o:=1) t2
  simp only [lnth] at l1
  rw [hvl] at l1
  simp only [fa_25_1,Nat.zero_add,l1,evO_some,len90_16_2,mk47 (show L.labs.length<=1000000 by omega),ev_one]
  refine P90_17_of ?_
  have f3:Fx NoB kk (k2.new (.row (List.replicate L.labs.length (.int .i64 0)) 3 0 false)):=f2.new _
  have t3:(k2.new (.row (List.replicate L.labs.length (.int .i64 0)) 3 0 false)).get kk.next=_:=(get_new_ne (by omega)).trans t2
  have ts3:(k2.new (.row (List.replicate L.labs.length (.int .i64 0)) 3 0 false)).get k1.next=_:=(get_new_ne (by omega)).trans ts2
  have tg3:(k2.new (.row (List.replicate L.labs.length (.int .i64 0)) 3 0 false)).get (k1.next+1)=_:=(get_new_ne (by omega)).trans tg2
  have tm3:(k2.new (.row (List.replicate L.labs.length (.int .i64 0)) 3 0 false)).get k2.next=some (.row (ints (List.replicate L.labs.length 0)) 3 0 false):=by
   rw [get_new_self];simp [ints]
  have n3:(k2.new (.row (List.replicate L.labs.length (.int .i64 0)) 3 0 false)).next=k2.next+1:=rfl
  generalize (k2.new (.row (List.replicate L.labs.length (.int .i64 0)) 3 0 false))=k3 at f3 t3 ts3 tg3 tm3 n3
  have l3:=load_leaf (P:=E) ta_22 (o:=1) t3
  simp only [lnth] at l3
  rw [hvl] at l3
  simp only [fa_25_1,Nat.zero_add,l3,evO_some,len90_17_2]
  have o3:=f3.own ho (fun _ h=>h.elim)
  have hm3:=hm.fx f3 (fun h=>h) (fun _ _ h=>h)
  have hbnlt:=hm.lt
  have hvlt:∀ c,blkOf v c->c<kk.next:=fun c hc=>blkOf_lt hm hc
  have key:=graphs2 (k:=k) hbn (K:=K) (vl:=vl) hvl q8 q9 s3 (v8:=out) (v10:=ptr kk.next) (v11:=ptr (k1.next+1)) (v34:=.slice (some ⟨b,o,none⟩) els.length cp) (v35:=.int .i64 (els.length:Int)) (v36:=.int .i64 (i:Int))
   (bm:=k2.next) (base:=n.length) (by omega) (by omega) (k0:=k3) (w0:=v) (by omega) (N1:=(numAll n L.labs).1) (cs1:=(numAll n L.labs).2) ?_ L.labs.length 0 (by omega) k3 v n (List.replicate L.labs.length 0) o3 hm3 hb (by omega) rfl (by simp) (Fx.refl o3.ext.ok) (fun c hc=>.inl hc) (by omega) (fun h=>by have:=hvlt _ h;omega) (by omega) tm3 (by simp) (fun i h=>by omega)
  ·rw [hvl] at key
   simpa using key
  ·intro kk4 v4 n4 nums o4 hm4 hb4 hn4 hcs4 hnums4 f4 hbl4 hne4 hnb4 hrow4 hlen4 hok4
   refine P90_22_of ?_
   have hsafe:∀ c,k3.next<=kk.next+10->c<k3.next->kk.next<=c->c≠k2.next->¬ ((c=bn\/blkOf v c)\/c=k2.next):=by
    intro c _ h1 h2 h3
    rintro ((h|h)|h)
    ·omega
    ·have:=hvlt c h;omega
    ·exact h3 h
   have t4:=(f4.get kk.next (by omega) (hsafe _ (by omega) (by omega) (by omega) (by omega))).trans t3
   have ts4:=(f4.get k1.next (by omega) (hsafe _ (by omega) (by omega) (by omega) (by omega))).trans ts3
   have tg4:=(f4.get (k1.next+1) (by omega) (hsafe _ (by omega) (by omega) (by omega) (by omega))).trans tg3
   have l4:=load_leaf (P:=E) ta_23 (o:=2) t4
   simp only [lnth] at l4
   rw [hve] at l4
   simp only [fa_25_2,Nat.zero_add,l4,evO_some,len90_22_2]
   have hkk4:=f4.next
   have hG4:GG k.next kk4 (k1.next+1) k1.next (List.replicate N (.slice none 0 0)) (List.replicate N []):=by
    refine ⟨?_,ts4,by simp,by omega,by omega,by omega,by omega,by omega,?_,?_,?_⟩
    ·rw [List.length_replicate];exact tg4
    ·intro i c S hc hS
     have:=List.getElem?_replicate (a:=Value.slice none 0 0) (n:=N) (i:=i)
     rw [hc] at this
     have h2:=List.getElem?_replicate (a:=([]:Steps)) (n:=N) (i:=i)
     rw [hS] at h2
     split at this
     ·rename_i hi
      rw [if_pos hi] at h2
      cases this;cases h2
      exact .inl ⟨rfl,rfl⟩
     ·cases this
    ·intro i c b hc hb
     obtain ⟨n,cap,rfl⟩:=hb
     have:=List.getElem?_replicate (a:=Value.slice none 0 0) (n:=N) (i:=i)
     rw [hc] at this
     split at this <;> cases this
    ·intro i j c d b hc hd hb
     obtain ⟨n,cap,rfl⟩:=hb
     have:=List.getElem?_replicate (a:=Value.slice none 0 0) (n:=N) (i:=i)
     rw [hc] at this
     split at this <;> cases this
   have hrepl:∀ (i:Nat) (x:Value) (c:Nat),(List.replicate N (Value.slice none 0 0))[i]?=some x->¬ blkOf x c:=by
    rintro i x c hx ⟨n,cap,rfl⟩
    have:=List.getElem?_replicate (a:=Value.slice none 0 0) (n:=N) (i:=i)
    rw [hx] at this
    split at this <;> cases this
   have key3:=graphs3 (k:=k) (K:=K) (L:=L) hve q10 q11 hN (v3:=ptr bn) (v8:=out) (v34:=.slice (some ⟨b,o,none⟩) els.length cp) (v35:=.int .i64 (els.length:Int)) (v36:=.int .i64 (i:Int)) (bm:=k2.next) (bg:=k1.next+1) (bs:=k1.next) hlen4 hok4
    (k0:=kk4) (cells0:=List.replicate N (.slice none 0 0)) (SS1:=stepsOf nums L) (vis:=noInner L) (fun h=>h) ?_ L.eds.length 0 (by omega) kk4 (List.replicate N (.slice none 0 0)) (List.replicate N []) o4 hG4 (by simp) (fun i S hS=>by
     have h2:=List.getElem?_replicate (a:=([]:Steps)) (n:=N) (i:=i)
     rw [hS] at h2
     split at h2
     ·cases h2;exact ⟨(fun x hx=>by cases hx),by simp⟩
     ·cases h2) (by unfold stepsOf;rw [hN];rfl) (Fx.refl o4.ext.ok) (fun i x c hx hc=>absurd hc (hrepl i x c hx)) hrow4 (by omega) (by omega) (fun i x hx=>hrepl i x _ hx) (by omega)
   ·rw [hve] at key3
    simpa using key3
   ·intro kk5 cells SS o5 hG5 hNc hst hSS5 f5 hcb5
    refine P90_27_of ?_
    have f5':Fx (fun c=>c=k1.next) kk4 kk5:=f5.mono (fun c hc=>hc.elim (fun h=>.inl h) fun ⟨i,x,hx,hb⟩=>absurd hb (hrepl i x c hx))
    have hold:∀ c,(blkOf out c\/∃ x∈gs,inG x c)->c<kk.next/\c≠bn/\¬ blkOf v c:=fun c hc=>⟨(hO.lt hc).1,hsep c hc⟩
    have hO3:=hO.fx f3 (fun _ _ h=>h) (fun _ _ _ _ h=>h)
    have hO4:=hO3.fx f4 (fun c hc h=>by
     have:=hold c (.inl hc)
     rcases h with (h|h)|h
     ·exact this.2.1 h
     ·exact this.2.2 h
     ·omega) (fun x hx c hc h=>by
     have:=hold c (.inr ⟨x,hx,hc⟩)
     rcases h with (h|h)|h
     ·exact this.2.1 h
     ·exact this.2.2 h
     ·omega)
    have hO5:=hO4.fx f5' (fun c hc h=>by have:=hold c (.inl hc);omega) (fun x hx c hc h=>by have:=hold c (.inr ⟨x,hx,hc⟩);omega)
    have hinew:∀ c,inG (k1.next+1,k1.next,cells,SS) c->(c=k1.next+1\/c=k1.next\/kk4.next<=c):=by
     intro c hc
     rcases hc with h|h|⟨i',y,hy,hb⟩
     ·exact .inl h
     ·exact .inr (.inl h)
     ·exact .inr (.inr ((hcb5 i' y c hy hb).elim (fun ⟨i2,x2,h1,h2⟩=>absurd h2 (hrepl i2 x2 c h1)) fun h=>h))
    have hm5:NM k kk5 bn v4 n4:=hm4.fx f5' (fun h=>by omega) (fun c hc h=>by
     rcases hbl4 c hc with h'|h'
     ·have:=hvlt c h';omega
     ·omega)
    obtain ⟨out',h3,r1,r2,r3,r4⟩:=outs_app o5.ext.ok (by have:=o5.ext.next;exact this) hO5 (by omega) (k1.next+1,k1.next,cells,SS) hG5 (fun c hc h=>by
     have:=hold c (.inl h)
     rcases hinew c hc with h'|h'|h' <;> omega)
    simp only [evO_some,bs126,ev_one,r1]
    refine P90_28_of ?_
    simp only [bf_add _ (add1 hin (by omega)),evO_some]
    have houtb:∀ c,blkOf out c->c≠bn/\¬ blkOf v4 c:=fun c hc=>by
     have:=hold c (.inl hc)
     refine ⟨this.2.1,fun h=>?_⟩
     rcases hbl4 c h with h'|h'
     ·exact this.2.2 h'
     ·omega
    have hm6:NM k h3 bn v4 n4:=hm5.fx r3 (fun h=>(houtb bn h).1 rfl) (fun c hc h=>(houtb c h).2 hc)
    have:=ih (i+1) (by omega) h3 v4 n4 out' (gs++[(k1.next+1,k1.next,cells,SS)]) (r3.own o5 (fun c hc=>(hO.lt (.inl hc)).2)) hm6 hb4 (by omega) (by rw [drop_at q0] at hGG;simp only [buildAll] at hGG;rw [List.map_append,List.append_assoc,hcs4,← hGG,hSS5,hnums4];rfl) r2 (by simp [hgl]) (fun j x L' hx hL'=>by
     rcases Nat.lt_or_ge j gs.length with hj|hj
     ·rw [List.getElem?_append_left hj] at hx
      exact hgr j x L' hx hL'
     ·rw [List.getElem?_append_right hj] at hx
      have hj0:j=gs.length:=by
       have:=(List.getElem?_eq_some_iff.1 hx).1
       simp at this;omega
      subst hj0
      simp only [Nat.sub_self,List.getElem?_cons_zero,Option.some.injEq] at hx
      subst hx
      rw [hgl,q0] at hL'
      cases hL'
      exact ⟨by simp only;rw [hNc,hN],fun i S hS=>by simp only;rw [hNc];exact hst i S hS⟩) (fun c hc=>by
     rcases hc with hc|⟨x,hx,hc⟩
     ·have h1:=r4 c hc
      have h2:=hm5.lt
      refine ⟨by omega,fun h=>by have:=blkOf_lt hm5 h;omega⟩
     ·rcases List.mem_append.1 hx with hx|hx
      ·have:=hold c (.inr ⟨x,hx,hc⟩)
       refine ⟨this.2.1,fun h=>?_⟩
       rcases hbl4 c h with h'|h'
       ·exact this.2.2 h'
       ·omega
      ·simp only [List.mem_singleton] at hx
       subst hx
       have hc':=hinew c hc
       refine ⟨by rcases hc' with h'|h'|h' <;> omega,fun h=>?_⟩
       have h4:=blkOf_lt hm4 h
       rcases hbl4 c h with h5|h5
       ·have:=hvlt c h5
        rcases hc' with h'|h'|h' <;> omega
       ·rcases hc' with h'|h'|h' <;> omega)
    rw [hv0] at this
    simpa using this
theorem GG.same {loc bg bs:Nat} {h:AH} {cells:List Value} {SS:List Steps} (G:GG loc h bg bs cells SS) (w:Nat):GG loc ⟨h.t,h.next,w⟩ bg bs cells SS:=
 ⟨G.g,G.s,G.len,G.ne,G.ltg,G.lts,G.locg,G.locs,fun i c S hc hS=>G.cell i c S hc hS,G.blk,G.dis⟩
def graphsOf (Ls:List GL):List (List Steps):=buildAll (passAll Ls []) Ls
theorem call90 {k:AH} {v0:Value} {els:List (List Value)} {Ls:List GL} (hok:k.ok) (hne:els.length≠0) (a:Args k v0 els Ls) :
  Ev true ((recI E).call 90 [v0] k) fun x=>∃ gs,Outs k.next x.2 x.1 gs/\gs.length=els.length/\(∀ (i:Nat) (y:Gr) (L:GL),gs[i]?=some y->Ls[i]?=some L->GrOf L y)/\gs.map (fun x=>x.2.2.2)=graphsOf Ls/\Fx NoB k x.2:=by
 obtain ⟨ad,cp,hv⟩:=a.arr.slice
 refine F90_some (Rp:=fun x k'=>∃ gs,Outs k.next k' x gs/\gs.length=els.length/\(∀ (i:Nat) (y:Gr) (L:GL),gs[i]?=some y->Ls[i]?=some L->GrOf L y)/\gs.map (fun x=>x.2.2.2)=graphsOf Ls/\Fx NoB k k') (P90_0_of ?_)
 refine P90_1_of ?_
 simp only [z_197,new_row,ev_one,cells_agg]
 refine P90_2_of ?_
 have o1:=(Own.fresh k).new (.row [.slice none 0 0] 197 0 false)
 have t1:=get_new_self k.fresh (.row [.slice none 0 0] 197 0 false)
 have n1:(k.fresh.new (.row [.slice none 0 0] 197 0 false)).next=k.next+1:=rfl
 simp only [next_fresh] at t1 ⊢
 generalize k.fresh.new (.row [.slice none 0 0] 197 0 false)=k1 at o1 t1 n1
 have hm:NM k k1 k.next (.slice none 0 0) []:=⟨t1,by omega,.inl ⟨rfl,rfl⟩⟩
 have hnb:∀ c,¬ blkOf (.slice none 0 0) c:=by rintro c ⟨n,cap,h⟩;cases h
 rw [hv]
 simp only [evO_some,len90_2_1]
 rw [← hv]
 have a':Args k v0 els Ls:=a
 refine graphs1 a' (bn:=k.next) (Nat.le_refl _) hv (fin:=passAll Ls []) (fun kk v n ho hm hb hn hfin=>P90_11_of ?_) els.length 0 (by omega) k1 (.slice none 0 0) [] o1 hm (fun c h=>absurd h (hnb c)) (by simp) (by simp)
 refine P90_12_of ?_
 rw [hv]
 simp only [evO_some,len90_12_1]
 rw [← hv]
 refine graphs4 a' (bn:=k.next) (Nat.le_refl _) hv (G:=graphsOf Ls) (fun kk out gs ho hO hl hg hGe=>?_) els.length 0 (by omega) kk v n (.slice none 0 0) [] ho hm hb (by omega) (by rw [hfin];rfl) ⟨.inl ⟨rfl,rfl⟩,by simp,by simp⟩ rfl (by simp) (fun c h=>by
  rcases h with h|⟨x,hx,_⟩
  ·exact absurd h (hnb c)
  ·cases hx)
 simp only [kR_1,ne_ret,true_and]
 have hfl:isFlat out=false:=by
  rcases hO.sl with ⟨_,h⟩|⟨bo,h,_⟩
  ·rw [h] at hl;simp at hl;omega
  ·rw [h];rfl
 refine ⟨.inl hfl,gs,?_,hl,hg,hGe,?_⟩
 ·exact ⟨hO.sl,fun x hx=>(hO.gg x hx).same _,hO.sep⟩
 ·refine ⟨?_,ho.ext.next,fun c hc _=>ho.ext.get c hc,fun m h1 _ h3=>?_⟩
  ·show cond (Nat.ble k.wm kk.wm) k.wm kk.wm<=kk.next+UNK
   have:=ho.ext.ok
   unfold AH.ok at this
   cases hcc:Nat.ble k.wm kk.wm with
   | true=>rw [ble_true] at hcc;simp only [cond_true];omega
   | false=>exact this
  ·show m<=cond (Nat.ble k.wm kk.wm) k.wm kk.wm
   have:=ho.wm
   cases hcc:Nat.ble k.wm kk.wm with
   | true=>exact h1
   | false=>simp only [cond_false];omega
end Go.Proofs
