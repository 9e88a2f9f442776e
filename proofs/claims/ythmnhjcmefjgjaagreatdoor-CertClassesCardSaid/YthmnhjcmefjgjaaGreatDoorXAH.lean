import Derived.Test.YthmnhjcmefjgjaaGreatDoorXAG
set_option linter.all false
set_option linter.unusedSectionVars false
set_option autoImplicit true
set_option relaxedAutoImplicit true
set_option maxRecDepth 100000
set_option maxHeartbeats 1000000
namespace Go.Proofs
open Go Go.AM
structure Own(k l:AH):Prop where
 ext:Ext k l
 wm:k.qa<=l.wm
def Own.qb(k:AH):Own k k.qb:=⟨⟨zAX k,xAF _,fun _ _=>rfl⟩,by rw[zAm];omega⟩
def Own.new{k l:AH}(o:Own k l)(x:AObj):Own k (l.new x):=⟨o.ext.new x,o.wm⟩
def Own.upd{k l:AH}(o:Own k l){b:Nat}(hb:k.qa<=b)(x:Option AObj):Own k (l.upd b x):=⟨o.ext.upd hb x,zAA o.wm hb⟩
def zDc(n:Nat)(k:IntKind)(a:Int):veq n (.int k a) (.int k a)=true:=by cases n <;> (show (decide (k=k)&&decide (a=a))=true;simp)
def zB2(n:Nat)(a:Option Addr)(m c:Nat):veq n (.slice a m c) (.slice a m c)=true:=by cases n <;> (show (decide (a=a)&&Nat.beq m m&&Nat.beq c c)=true;simp[Nat.beq_refl])
def orI:List Int->Int
 | []=>0
 | a::l=>if a≠0 then a else orI l
def zWA{k:AH}{is:List Int}{b c:Nat}{ty es:Nat}{ro:Bool}(hn:is.length<=1000)(aa:k.ok)(hb:k.get b=some (.row (is.map (Value.int .i64)) ty es ro)) :
  (zV E).call 171 [.slice (some ⟨b,0,none⟩) is.length c] k=some [(iI (orI is),k)]:=by
 refine zdm (s:=true) aa rfl (zbj ?_);refine zbi ?_;refine zbh ?_;simp only[zA,zRO];have ao:k.qb.get b=some (.row (is.map (Value.int .i64)) ty es ro):=hb;have loop:∀(js:List Int) (i:Nat),is.drop i=js->zpr true (KR E [.tmp 2] (fun x l=>x=iI (orI js)/\k.qa<=l.wm)) (iI 0) (.slice (some ⟨b,0,none⟩) is.length c) (iI (is.length:Int)) (iI (i:Int)) k.qb:=by
  intro js
  induction js with
  | nil=>
   intro i hi;have:is.length<=i:=List.drop_eq_nil_iff.1 hi;refine zNK ?_;simp only[zY,zA,zAN];refine⟨fun h=>by omega,fun _=>zbc ?_⟩;simp[zA,zAS,zU,orI]
  | cons j js ih=>
   intro i hi;have ab:i<is.length:=by
    rcases Nat.lt_or_ge i is.length with h|h
    ·exact h
    ·rw[List.drop_eq_nil_of_le h] at hi;cases hi
   have hj:is[i]?=some j:=by have:=congrArg (·[0]?) hi;simpa[List.getElem?_drop] using this
   refine zNK ?_;simp only[zY,zA,zAN];refine⟨fun _=>zbg ?_,fun h=>by omega⟩;have hl:lnth (is.map (Value.int .i64)) (0+i*1)=some (iI j):=by rw[zA2];simp[hj]
   simp only[zVQ ab,zA,zF zAa ao,hl];refine zbf ?_;simp only[zA,zA1,zHH];refine⟨fun h=>zbe ?_,fun h=>zbd ?_⟩
   ·simp[zA,zAS,zU,orI,h]
   ·simp only[zAK _ (zDu ab (by omega)),zA];have:=ih (i+1) (by rw[← List.drop_drop,hi];rfl);simp only[orI,h,ne_eq,not_true,if_false];simpa using this
 exact loop is 0 rfl
def zWM{a b:Int}{h:AH}:zh E 47 2 (some [(0,iI a),(1,iI b)]) h=one (.slice (some ⟨h.qa,0,none⟩) 2 2,h.new (rO [iI a,iI b] 3)):=by kernel_rfl
def zjA{a b c:Int}{h:AH}:zh E 47 3 (some [(0,iI a),(1,iI b),(2,iI c)]) h=one (.slice (some ⟨h.qa,0,none⟩) 3 3,h.new (rO [iI a,iI b,iI c] 3)):=by kernel_rfl
def c3(a b:Int):Int:=if a<b then -1 else if b<a then 1 else 0
def or2{h:AH}(aa:h.ok)(a b:Int):(zV E).call 171 [.slice (some ⟨h.qa,0,none⟩) 2 2] (h.new (rO [iI a,iI b] 3))=some [(iI (orI [a,b]),h.new (rO [iI a,iI b] 3))]:=
 zWA (is:=[a,b]) (by simp) (zBd aa _) (zI _ _)
def or3{h:AH}(aa:h.ok)(a b c:Int):(zV E).call 171 [.slice (some ⟨h.qa,0,none⟩) 3 3] (h.new (rO [iI a,iI b,iI c] 3))=some [(iI (orI [a,b,c]),h.new (rO [iI a,iI b,iI c] 3))]:=
 zWA (is:=[a,b,c]) (by simp) (zBd aa _) (zI _ _)
def zDJ(c:Nat->Int)(n1 n2:Nat):Nat->Nat->Int
 | 0,_=>if n1<n2 then -1 else 0
 | m+1,i=>if n2<=i then 1 else if c i≠0 then c i else zDJ c n1 n2 m (i+1)
def zV6{h0:AH}{v1 v2 f:Value}{els1 els2:List (List Value)}{cf:Nat->Int}(ha1:Arr h0 3 v1 els1)(ha2:Arr h0 3 v2 els2)(hn:els1.length<=9223372036854775807)(hlf:∀(i:Nat) (e:List Value),els1[i]?=some e->e.all zq=true)(hlf2:∀(i:Nat) (e:List Value),els2[i]?=some e->e.all zq=true)
  (hf:∀ k,Ext h0 k->∀(i:Nat) (e1 e2:List Value),els1[i]?=some e1->els2[i]?=some e2->zT (zV E) (some f) (some [.agg ⟨e1⟩,.agg ⟨e2⟩]) k=some [(iI (cf i),k)]) {k:AH} (hk:Ext h0 k) :
  (zV E).call 247 [v1,v2,f] k=some [(iI (zDJ cf els1.length els2.length els1.length 0),k)]:=by
 have d8:∃ a c,v1=.slice a els1.length c:=by cases ha1 with|nil a c=>exact⟨a,c,rfl⟩|row=>exact⟨_,_,rfl⟩
 have fT:∃ a c,v2=.slice a els2.length c:=by cases ha2 with|nil a c=>exact⟨a,c,rfl⟩|row=>exact⟨_,_,rfl⟩
 obtain⟨a1,c1,rfl⟩:=d8;obtain⟨a2,c2,rfl⟩:=fT;refine zdQ (s:=true) hk.ok rfl (zZk ?_);refine zZj ?_;simp only[zA,zRH];have loop:∀(m i:Nat),i+m=els1.length->∀ l,Own k l->zpZ true (KR E [.tmp 6] (fun x l=>x=iI (zDJ cf els1.length els2.length m i)/\k.qa<=l.wm)) (.slice a1 els1.length c1) (.slice a2 els2.length c2) f (.slice a1 els1.length c1) (iI (els1.length:Int)) (iI (i:Int)) l:=by
  intro m
  induction m with
  | zero=>
   intro i hi l hl;refine zMs ?_;simp only[zY,zA,zAN];refine⟨fun h=>by omega,fun _=>zSL ?_⟩;simp only[zA,zN8,zN7,zY,zAN];have:=hl.wm;refine⟨fun h=>zSK ?_,fun h=>zSJ ?_⟩
   ·have h':els1.length<els2.length:=by omega
    simp[zA,zAS,zU,zDJ,h',this]
   ·have h':¬ els1.length<els2.length:=by omega
    simp[zA,zAS,zU,zDJ,h',this]
  | succ m ih=>
   intro i hi l hl;have ai:i<els1.length:=by omega
   refine zMs ?_;simp only[zY,zA,zAN];refine⟨fun _=>zZi ?_,fun h=>by omega⟩;obtain⟨b,o,c,vs,ty,es,ro,hv,hb,ab,bc,hz,aZ⟩:=ha1.load (xAA ai);simp only[Value.slice.injEq] at hv;obtain⟨a9,_,fq⟩:=hv;subst a9;have gb:l.get b=some (.row vs ty es ro):=(hl.ext.get b (xAC ab hk.qa)).trans ((hk.get b ab).trans hb);simp only[zA,zVR ai,zZ zCZ gb bc,hz,zeJ,zd,zL,zX];have eK:=hl.ext.qa;rw[zAC (P:=E) zLM (zI l _) (zX _) aZ (by simp) (hlf i _ (xAA ai))];simp only[zL];refine zZh ?_;simp only[zA,zRG,zAZ,zAN];have o1:=(hl.new (rO [iI 0,iI 0,.slice none 0 0] 173)).upd (b:=l.qa) eK (some (rO (lput [iI 0,iI 0,.slice none 0 0] 0 els1[i]) 173));have t1:((l.new (rO [iI 0,iI 0,.slice none 0 0] 173)).upd l.qa (some (rO (lput [iI 0,iI 0,.slice none 0 0] 0 els1[i]) 173))).get l.qa=some (rO (lput [iI 0,iI 0,.slice none 0 0] 0 els1[i]) 173):=zN _ _ _;have n1:((l.new (rO [iI 0,iI 0,.slice none 0 0] 173)).upd l.qa (some (rO (lput [iI 0,iI 0,.slice none 0 0] 0 els1[i]) 173))).qa=l.qa+1:=rfl;have cN:∀(e:List Value),e.length=3->lput [iI 0,iI 0,.slice none 0 0] 0 e=e:=by
    intro e he
    match e,he with
    | [x,y,z],_=>rfl
   rw[cN _ aZ] at o1 t1 n1;rw[cN _ aZ];generalize ((l.new (rO [iI 0,iI 0,.slice none 0 0] 173)).upd l.qa (some (.row els1[i] 173 0 false)))=l1 at o1 t1 n1;refine⟨fun h=>zZg ?_,fun h=>zZf ?_⟩
   ·have h':els2.length<=i:=by omega
    simp[zA,zAS,zU,zDJ,h',o1.wm]
   ·have cC:i<els2.length:=by omega
    obtain⟨b',o',c',vs',ty',es',ro',ay,ao,aD,bt,bB,bE⟩:=ha2.load (xAA cC);simp only[Value.slice.injEq] at ay;obtain⟨dw,_,hv3'⟩:=ay;subst dw;have gb':l1.get b'=some (.row vs' ty' es' ro'):=(o1.ext.get b' (xAC aD hk.qa)).trans ((hk.get b' aD).trans ao);simp only[zA,zVR cC,zZ zCZ gb' bt,bB,zeJ,zd,zL,zX];rw[zAC (P:=E) zLM (zI l1 _) (zX _) bE (by simp) (hlf2 i _ (xAA cC))];simp only[zL];refine zZe ?_;rw[cN _ bE];have o2:=(o1.new (rO [iI 0,iI 0,.slice none 0 0] 173)).upd (b:=l1.qa) (by omega) (some (.row els2[i] 173 0 false));have t2:((l1.new (rO [iI 0,iI 0,.slice none 0 0] 173)).upd l1.qa (some (.row els2[i] 173 0 false))).get l1.qa=some (.row els2[i] 173 0 false):=zN _ _ _;have t1':((l1.new (rO [iI 0,iI 0,.slice none 0 0] 173)).upd l1.qa (some (.row els2[i] 173 0 false))).get l.qa=some (.row els1[i] 173 0 false):=by rw[zP (by omega),zK (by omega)];exact t1
    generalize ((l1.new (rO [iI 0,iI 0,.slice none 0 0] 173)).upd l1.qa (some (.row els2[i] 173 0 false)))=l2 at o2 t2 t1';have la:=zZ (P:=E) zCZ (o:=0) t1' (by omega);have lb:=zZ (P:=E) zCZ (o:=0) t2 (by omega);rw[List.drop_zero,xAD (by omega)] at la lb;simp only[zA,la,lb,hf l2 (hk.trans o2.ext) i _ _ (xAA ai) (xAA cC),zO];refine zZd ?_;have h':¬ els2.length<=i:=by omega
    simp only[zA,zA1,zHH];refine⟨fun hc=>zZc ?_,fun hc=>zSM ?_⟩
    ·simp[zA,zAS,zU,zDJ,h',hc,o2.wm]
    ·simp only[zAK _ (zDu ai hn),zA];have:=ih (i+1) (by omega) l2 o2;simp only[zDJ,h',if_false,hc,ne_eq,not_true];simpa using this
 exact loop els1.length 0 (by omega) _ (Own.qb k)
def zw(w:Bool)(x:Option Value):gdB undef w x=some undef:=rfl
def zz(w:Bool)(x:R (Value×AH))(h:AH):gdW undef w x h=one (undef,h):=rfl
mutual
def zKy:GT->GT->Int
 | .mk k n l,.mk k' n' l'=>if orI [c3 k k',c3 n n',c3 l.length l'.length]≠0 then orI [c3 k k',c3 n n',c3 l.length l'.length] else zEL l l'
def zEL:List GT->List GT->Int
 | [],[]=>0
 | [],_::_=>-1
 | _::_,[]=>1
 | t::ts,u::us=>if zKy t u≠0 then zKy t u else zEL ts us
end
def zOg(ts us:List GT)(i:Nat):Int:=match ts[i]?,us[i]? with
 | some t,some u=>zKy t u
 | _,_=>0
def zGm(ts us:List GT):∀(m i:Nat),i+m=ts.length->zDJ (zOg ts us) ts.length us.length m i=(if i<=us.length then zEL (ts.drop i) (us.drop i) else if m=0 then 0 else 1)
 | 0,i,h=>by
  have ht:ts.drop i=[]:=List.drop_eq_nil_of_le (by omega);simp only[zDJ,ht];by_cases hi:i<=us.length
  ·rw[if_pos hi];cases hu:us.drop i with
   | nil=>
    have:=List.drop_eq_nil_iff.1 hu;rw[if_neg (by omega)];rfl
   | cons u us'=>
    have:i<us.length:=by
     rcases Nat.lt_or_ge i us.length with h'|h'
     ·exact h'
     ·rw[List.drop_eq_nil_of_le h'] at hu;cases hu
    rw[if_pos (by omega)];rfl
  ·rw[if_neg hi,if_neg (by omega)];rfl
 | m+1,i,h=>by
  have ab:i<ts.length:=by omega
  simp only[zDJ];by_cases hi:us.length<=i
  ·rw[if_pos hi];by_cases he:i<=us.length
   ·rw[if_pos he];have hu:us.drop i=[]:=List.drop_eq_nil_of_le hi;rw[hu,List.drop_eq_getElem_cons ab];rfl
   ·rw[if_neg he];simp
  ·rw[if_neg hi,if_pos (show i<=us.length by omega)];have hui:i<us.length:=by omega
   rw[List.drop_eq_getElem_cons ab,List.drop_eq_getElem_cons hui];have aX:zOg ts us i=zKy ts[i] us[i]:=by unfold zOg;rw[xAA ab,xAA hui]
   rw[aX];simp only[zEL];rw[zGm ts us m (i+1) (by omega),if_pos (show i+1<=us.length by omega)]
def zWg(h0:AH)(kk nn:Int)(v:Value)(l:List GT):Prop:=∀(k:AH) (kk' nn':Int) (v':Value) (l':List GT),RT h0 v' l'->Ext h0 k->
 (zV E).call 219 [.agg #[iI kk,iI nn,v],.agg #[iI kk',iI nn',v']] k=some [(iI (zKy (.mk kk nn l) (.mk kk' nn' l')),k)]
def RC.leafs{h:AH}{els:List (List Value)}{ts:List GT}(hc:RC h els ts)(i:Nat)(e:List Value)(he:els[i]?=some e):e.all zq=true:=by
 obtain⟨k,n,v,l,rfl,hv,_⟩:=RC.at hc i e he;have:=zDz hv;simp[zq];exact this
mutual
def zUJ{h0:AH}:∀ {v:Value} {l:List GT},RT h0 v l->∀(kk nn:Int),zWg h0 kk nn v l
 | v,l,.mk (els:=els) ha hn hc,kk,nn=>by
  intro k kk' nn' v' l' bG hk;have ba:RT h0 v l:=.mk ha hn hc;have dR:=zPH hc;have hlen:=RC.length hc;obtain⟨sa,sc,hv⟩:=ba.slice;obtain⟨sa',sc',ay⟩:=bG.slice;subst hv;subst ay;refine zdX (s:=true) hk.ok rfl (zaU ?_);simp only[zd,zL,zX,zA];refine zaT ?_;have o1:=((Own.qb k).new (rO [iI kk,iI nn,.slice sa l.length sc] 173)).new (rO [iI kk',iI nn',.slice sa' l'.length sc'] 173);have t1:((k.qb.new (rO [iI kk,iI nn,.slice sa l.length sc] 173)).new (rO [iI kk',iI nn',.slice sa' l'.length sc'] 173)).get k.qa=some (rO [iI kk,iI nn,.slice sa l.length sc] 173):=by
   rw[zK (by simp)];exact zI k.qb _
  have t2:((k.qb.new (rO [iI kk,iI nn,.slice sa l.length sc] 173)).new (rO [iI kk',iI nn',.slice sa' l'.length sc'] 173)).get (k.qa+1)=some (rO [iI kk',iI nn',.slice sa' l'.length sc'] 173):=zI (k.qb.new _) _;have n1:((k.qb.new (rO [iI kk,iI nn,.slice sa l.length sc] 173)).new (rO [iI kk',iI nn',.slice sa' l'.length sc'] 173)).qa=k.qa+2:=rfl;simp only[za,AH.next_new];generalize ((k.qb.new (rO [iI kk,iI nn,.slice sa l.length sc] 173)).new (rO [iI kk',iI nn',.slice sa' l'.length sc'] 173))=k1 at o1 t1 t2 n1;have l0:=zF (P:=E) zAa (o:=0) t1;have l1:=zF (P:=E) zAa (o:=1) t1;have l2:=zF (P:=E) zDv (o:=2) t1;have m0:=zF (P:=E) zAa (o:=0) t2;have m1:=zF (P:=E) zAa (o:=1) t2;have m2:=zF (P:=E) zDv (o:=2) t2;simp only[lnth] at l0 l1 l2 m0 m1 m2;simp only[zF5,zF4,zAi,Nat.add_zero,xAK,l0,l1,l2,m0,m1,m2,zA,zOB,zOA,zS,zIO o1.ext.ok,zO,zDc,zB2,true_and,zjA,zL];rw[or3 o1.ext.ok];simp only[zO,zA];refine zaS ?_;have o2:=o1.new (rO [iI (c3 kk kk'),iI (c3 nn nn'),iI (c3 l.length l'.length)] 3);have s1:(k1.new (rO [iI (c3 kk kk'),iI (c3 nn nn'),iI (c3 l.length l'.length)] 3)).get k.qa=_:=(zK (by omega)).trans t1;have s2:(k1.new (rO [iI (c3 kk kk'),iI (c3 nn nn'),iI (c3 l.length l'.length)] 3)).get (k.qa+1)=_:=(zK (by omega)).trans t2;simp only[zA,zA1,zHH];show (_->zpl _ _ _ (k1.new (rO [iI (c3 kk kk'),iI (c3 nn nn'),iI (c3 l.length l'.length)] 3)))/\(_->zpk _ _ _ _ (k1.new (rO [iI (c3 kk kk'),iI (c3 nn nn'),iI (c3 l.length l'.length)] 3)));generalize (k1.new (rO [iI (c3 kk kk'),iI (c3 nn nn'),iI (c3 l.length l'.length)] 3))=k2 at o2 s1 s2;refine⟨fun h=>zaR ?_,fun h=>zaQ ?_⟩
  ·have h':orI [c3 kk kk',c3 nn nn',c3 l.length l'.length]≠0:=h;simp only[zA,zAS,zU,true_and,zKy,if_pos h'];exact⟨rfl,o2.wm⟩
  ·have h':¬ orI [c3 kk kk',c3 nn nn',c3 l.length l'.length]≠0:=fun hc=>hc h;have p2:=zF (P:=E) zDv (o:=2) s1;have q2:=zF (P:=E) zDv (o:=2) s2;simp only[lnth] at p2 q2;cases bG with
   | @mk _ els' _ cT iG aH=>
    have c9:=RC.length aH;have:=zV6 (h0:=h0) (f:=.func (.func 219) #[] #[]) (cf:=zOg l l') ha cT hn (RC.leafs hc) (RC.leafs aH) (fun k3 hk3 i e1 e2 he1 gA=>by
     obtain⟨ck,cn,cv,cl,q1,q2',q3,q4⟩:=dR i e1 he1;obtain⟨dk,dn,dv,dl,r1,r2,r3⟩:=RC.at aH i e2 gA;subst q1;subst r1;have:=q4 k3 dk dn dv dl r2 hk3;simp only[zS,zOg,q3,r3];exact this) (hk.trans o2.ext)
    simp only[zAi,xAK,p2,q2,zA,zS,this,zO,zAS,zU,true_and,zKy,if_neg h'];refine⟨?_,o2.wm⟩;rw[hlen,c9,zGm _ _ _ _ (by omega),if_pos (Nat.zero_le _)];simp
def zPH{h0:AH}:∀ {els:List (List Value)} {ts:List GT},RC h0 els ts->∀(i:Nat) (e:List Value),els[i]?=some e->
  ∃(k n:Int) (v:Value) (l:List GT),e=[iI k,iI n,v]/\RT h0 v l/\ts[i]?=some (.mk k n l)/\zWg h0 k n v l
 | _,_,.nil,i,e,h=>by simp at h
 | _,_,.cons hv hs,0,e,h=>by simp at h;exact⟨_,_,_,_,h.symm,hv,rfl,zUJ hv _ _⟩
 | _,_,.cons hv hs,i+1,e,h=>by
  simp only[List.getElem?_cons_succ] at h;obtain⟨k,n,v,l,a,b,c,d⟩:=zPH hs i e h;exact⟨k,n,v,l,a,b,by simpa using c,d⟩
end
def zlL{h0 k:AH}{v v':Value}{l l':List GT}(hr:RT h0 v l)(bG:RT h0 v' l')(hk:Ext h0 k):(zV E).call 218 [v,v',.func (.func 219) #[] #[]] k=some [(iI (zEL l l'),k)]:=by
 refine zdY (s:=true) hk.ok rfl (zaW ?_);refine zaV ?_;cases hr with
 | @mk _ els _ ha hn hc=>
 cases bG with
 | @mk _ els' _ cT iG aH=>
  have hlen:=RC.length hc;have c9:=RC.length aH;have:=zV6 (h0:=h0) (f:=.func (.func 219) #[] #[]) (cf:=zOg l l') ha cT hn (RC.leafs hc) (RC.leafs aH) (fun k3 hk3 i e1 e2 he1 gA=>by
   obtain⟨ck,cn,cv,cl,q1,q2',q3⟩:=RC.at hc i e1 he1;obtain⟨dk,dn,dv,dl,r1,r2,r3⟩:=RC.at aH i e2 gA;subst q1;subst r1;have:=zUJ q2' ck cn k3 dk dn dv dl r2 hk3;simp only[zS,zOg,q3,r3];exact this) hk.qb
  simp only[zA,zS,this,zO,zAS,zU,true_and];refine⟨?_,by simp⟩;rw[hlen,c9,zGm _ _ _ _ (by omega),if_pos (Nat.zero_le _)];simp
def zCp(g:Int)(l:List GT)(g':Int)(l':List GT):Int:=orI [c3 g g',zEL l l']
def zOp{h0 k:AH}{g g':Int}{v v':Value}{l l':List GT}(hr:RT h0 v l)(bG:RT h0 v' l')(hk:Ext h0 k) :
  (zV E).call 168 [.agg #[iI g,v],.agg #[iI g',v']] k=some [(iI (zCp g l g' l'),k)]:=by
 obtain⟨sa,sc,hv⟩:=hr.slice;obtain⟨sa',sc',ay⟩:=bG.slice;subst hv;subst ay;refine zdp (s:=true) hk.ok rfl (zbp ?_);simp only[zd,zL,zX,zA];refine zbo ?_;have o1:=((Own.qb k).new (rO [iI g,.slice sa l.length sc] 36)).new (rO [iI g',.slice sa' l'.length sc'] 36);have t1:((k.qb.new (rO [iI g,.slice sa l.length sc] 36)).new (rO [iI g',.slice sa' l'.length sc'] 36)).get k.qa=some (rO [iI g,.slice sa l.length sc] 36):=by
  rw[zK (by simp)];exact zI k.qb _
 have t2:((k.qb.new (rO [iI g,.slice sa l.length sc] 36)).new (rO [iI g',.slice sa' l'.length sc'] 36)).get (k.qa+1)=some (rO [iI g',.slice sa' l'.length sc'] 36):=zI (k.qb.new _) _;simp only[za,AH.next_new];generalize ((k.qb.new (rO [iI g,.slice sa l.length sc] 36)).new (rO [iI g',.slice sa' l'.length sc'] 36))=k1 at o1 t1 t2;have l0:=zF (P:=E) zAa (o:=0) t1;have l1:=zF (P:=E) zDv (o:=1) t1;have m0:=zF (P:=E) zAa (o:=0) t2;have m1:=zF (P:=E) zDv (o:=1) t2;simp only[lnth] at l0 l1 m0 m1;simp only[zBw,zCS,Nat.add_zero,xAK,l0,l1,m0,m1,zA,zS,zIO o1.ext.ok,zO,zB2,true_and,zlL hr bG (hk.trans o1.ext),zWM,zL];rw[or2 o1.ext.ok];simp only[zO,zAS,zU,true_and];exact⟨rfl,o1.wm⟩
def zlN{h0 k:AH}{kk nn:Int}{v:Value}{l:List GT}(hr:RT h0 v l)(hk:Ext h0 k):(zV E).call 216 [.agg #[iI kk,iI nn,v]] k=some [(.bool (!zGa (.mk kk nn l)),k)]:=by
 refine zda (s:=true) hk.ok rfl (zaf ?_);simp only[zd,zL,zX,zA];refine zae ?_;have o1:=(Own.qb k).new (rO [iI kk,iI nn,v] 173);have t1:=zI k.qb (rO [iI kk,iI nn,v] 173);simp only[za] at t1 ⊢;generalize k.qb.new (rO [iI kk,iI nn,v] 173)=k1 at o1 t1;have lt:=zZ (P:=E) zCZ (o:=0) t1 (by simp);simp only[List.drop_zero,List.take] at lt;simp only[lt,zA,zS,zlM hr (hk.trans o1.ext),zO,zAB,zAS,zU,true_and];exact o1.wm
def zTt(g:Int):Bool:=decide (g=-3)||decide (g=-1)
def zBF(g:Int)(l:List GT):Bool:=decide (g < -3)||decide (32<=g)||decide (8<l.length)||(zTt g&&decide (0<l.length))||decide (0<=zAH (zPP l zGa) l.length 0)
def zlZ{h0 k:AH}{g:Int}{v:Value}{l:List GT}(hr:RT h0 v l)(hk:Ext h0 k):(zV E).call 167 [.agg #[iI g,v]] k=some [(iI (if zBF g l then 170 else 0),k)]:=by
 refine zdq (s:=true) hk.ok rfl (zbu ?_);have hr0:=hr;obtain⟨sa,sc,hv⟩:=hr.slice;subst hv;simp only[zd,zL,zX,zA];refine zbt ?_;have o1:=(Own.qb k).new (rO [iI g,.slice sa l.length sc] 36);have t1:=zI k.qb (rO [iI g,.slice sa l.length sc] 36);simp only[za] at t1 ⊢;generalize k.qb.new (rO [iI g,.slice sa l.length sc] 36)=k1 at o1 t1;have l0:=zF (P:=E) zAa (o:=0) t1;have l1:=zF (P:=E) zDv (o:=1) t1;simp only[lnth] at l0 l1;have hb:zpu true (KR E [.tmp 2] (fun x m=>x=iI (if zBF g l then 170 else 0)/\k.qa<=m.wm)) (.pointer (some ⟨k.qa,0,none⟩)) (.bool (zTt g)) k1:=by
  refine zbs ?_;have gF:(zV E).call 215 [.slice sa l.length sc,.func (.func 216) #[] #[]] k1=some [(.bool (decide (0<=zAH (zPP l zGa) l.length 0)),k1)]:=by
   cases hr0 with
   | @mk _ els _ ha hn hc=>
    have:=zV7 (h0:=h0) (f:=.func (.func 216) #[] #[]) (p:=zPP l zGa) ha hn (fun k2 hk2 i e he=>by
     obtain⟨ck,cn,cv,cl,q1,q2,q3⟩:=RC.at hc i e he;subst q1;simp only[zS,zPP,q3];exact zlN q2 hk2) (hk.trans o1.ext)
    rw[RC.length hc] at this;exact this
  have aK:∀ b:Bool,(BrK (some (.bool b)) (zpt true (KR E [.tmp 2] (fun x m=>x=iI (if b then 170 else 0)/\k.qa<=m.wm)) k1) (zps true (KR E [.tmp 2] (fun x m=>x=iI (if b then 170 else 0)/\k.qa<=m.wm)) k1)):=by
   intro b;cases b with
   | true=>
    rw[zy];refine zbr ?_;simp[zA,zAS,zU,o1.wm]
   | false=>
    rw[zi];refine zbq ?_;simp[zA,zAS,zU,o1.wm]
  have hE:=aK (zBF g l);simp only[zBw,zCS,Nat.add_zero,xAK,l0,zA,zY,zM,zJ];by_cases c1:g < -3
  ·simpa[zBF,c1,zA,zM,zR,zw,zz,zJ,zL] using hE
  ·by_cases c2:32<=g
   ·simpa[zBF,c1,c2,l0,zBw,zAZ,zA,zM,zR,zw,zz,zJ,zL] using hE
   ·by_cases c3:8<l.length
    ·have c3':(8:Int)<l.length:=by omega
     simpa[zBF,c1,c2,c3,c3',l0,l1,zBw,zCS,zAZ,zAO,zD1,zA,zM,zR,zw,zz,zJ,zL] using hE
    ·have c3':¬ (8:Int)<l.length:=by omega
     by_cases c4:zTt g=true
     ·by_cases c5:0<l.length
      ·have c5':(0:Int)<l.length:=by omega
       simpa[zBF,c1,c2,c3,c3',c4,c5,c5',l0,l1,zBw,zCS,zAZ,zAO,zD1,zFM,zA,zM,zR,zw,zz,zJ,zL,gF,zO,zS] using hE
      ·have c5':¬ (0:Int)<l.length:=by omega
       simpa[zBF,c1,c2,c3,c3',c4,c5,c5',l0,l1,zBw,zCS,zAZ,zAO,zD1,zFM,zA,zM,zR,zw,zz,zJ,zL,gF,zO,zS] using hE
     ·simpa[zBF,c1,c2,c3,c3',c4,l0,l1,zBw,zCS,zAZ,zAO,zD1,zFM,zA,zM,zR,zw,zz,zJ,zL,gF,zO,zS] using hE
 simp only[zBw,Nat.add_zero,l0,zA,zAd,zM];by_cases c1:g=-3
 ·simp only[c1,decide_true,show ((true==false)=false) from rfl,xAH,zA,zJ,xAG];simpa[zTt,c1] using hb
 ·by_cases c2:g=-1
  ·simp only[c1,c2,decide_true,decide_false,show ((false==false)=true) from rfl,xAH,zA,zJ,xAG,zBw,Nat.add_zero,l0,zAd];simpa[zTt,c1,c2,l0,zA,zAd] using hb
  ·simp only[c1,c2,decide_true,decide_false,show ((false==false)=true) from rfl,xAH,zA,zJ,xAG,zBw,Nat.add_zero,l0,zAd];simpa[zTt,c1,c2,l0,zA,zAd] using hb
end Go.Proofs
namespace Go.Proofs
open Go Go.AM
structure GL where
 n:Int
 labs:List (Int×List GT)
 eds:List (Int×Int×Int)
inductive RLab(h:AH):List (List Value)->List (Int×List GT)->Prop
 | nil:RLab h [] []
 | cons {g:Int} {v:Value} {l:List GT} {els:List (List Value)} {ls:List (Int×List GT)} (hv:RT h v l) (hs:RLab h els ls):RLab h ([iI g,v]::els) ((g,l)::ls)
def zm(e:Int×Int×Int):List Value:=[iI e.1,iI e.2.1,iI e.2.2]
structure RL(h:AH)(x:Value)(L:GL):Prop where
 ex:∃ vl ve elsL,x=.agg #[iI L.n,vl,ve]/\Arr h 2 vl elsL/\RLab h elsL L.labs/\Arr h 3 ve (L.eds.map zm)
def RLab.ext{h k:AH}(e:Ext h k):∀ {els:List (List Value)} {ls:List (Int×List GT)},RLab h els ls->RLab k els ls
 | _,_,.nil=>.nil
 | _,_,.cons hv hs=>.cons (hv.ext e) (RLab.ext e hs)
def RLab.length{h:AH}:∀ {els:List (List Value)} {ls:List (Int×List GT)},RLab h els ls->els.length=ls.length
 | _,_,.nil=>rfl
 | _,_,.cons _ hs=>by simp[RLab.length hs]
def RLab.at{h:AH}:∀ {els:List (List Value)} {ls:List (Int×List GT)},RLab h els ls->∀(i:Nat) (e:List Value),els[i]?=some e->∃(g:Int) (v:Value) (l:List GT),e=[iI g,v]/\RT h v l/\ls[i]?=some (g,l)
 | _,_,.nil,i,e,h=>by simp at h
 | _,_,.cons hv hs,0,e,h=>by simp at h;exact⟨_,_,_,h.symm,hv,rfl⟩
 | _,_,.cons hv hs,i+1,e,h=>by simp only[List.getElem?_cons_succ] at h;obtain⟨g,v,l,a,b,c⟩:=RLab.at hs i e h;exact⟨g,v,l,a,b,by simpa using c⟩
def RL.ext{h k:AH}{x:Value}{L:GL}(r:RL h x L)(e:Ext h k):RL k x L:=by
 obtain⟨vl,ve,els,a,b,c,d⟩:=r.ex;exact⟨vl,ve,els,a,b.ext e,c.ext e,d.ext e⟩
def Arr.slice{h:AH}{z:Nat}{v:Value}{els:List (List Value)}(a:Arr h z v els):∃ ad c,v=.slice ad els.length c:=by
 cases a with
 | nil a c=>exact⟨a,c,rfl⟩
 | row=>exact⟨_,_,rfl⟩
def zOo{k:AH}{a b:Int}(aa:k.ok):(zV E).call 169 [iI a,iI b] k=some [(.bool (decide (0<=a)&&decide (a<b)),k)]:=by
 refine zdo (s:=true) aa rfl (zbn ?_);refine zbm ?_;simp only[zA,zAZ,zM];by_cases c1:0<=a
 ·simp[c1,zA,zY,zJ,zAS,zU]
 ·simp[c1,zA,zY,zJ,zAS,zU]
def zVt(e f:Int×Int×Int):Int:=orI [c3 e.1 f.1,c3 e.2.1 f.2.1,c3 e.2.2 f.2.2]
def zlY{k:AH}{e f:Int×Int×Int}(aa:k.ok):(zV E).call 170 [.agg ⟨zm e⟩,.agg ⟨zm f⟩] k=some [(iI (zVt e f),k)]:=by
 refine zdn (s:=true) aa rfl (zbl ?_);simp only[zd,zL,zX,zA];refine zbk ?_;have o1:=((Own.qb k).new (rO (zm e) 52)).new (rO (zm f) 52);have t1:((k.qb.new (rO (zm e) 52)).new (rO (zm f) 52)).get k.qa=some (rO (zm e) 52):=by
  rw[zK (by simp)];exact zI k.qb _
 have t2:((k.qb.new (rO (zm e) 52)).new (rO (zm f) 52)).get (k.qa+1)=some (rO (zm f) 52):=zI (k.qb.new _) _;simp only[za,AH.next_new];generalize ((k.qb.new (rO (zm e) 52)).new (rO (zm f) 52))=k1 at o1 t1 t2;have l0:=zF (P:=E) zAa (o:=0) t1;have l1:=zF (P:=E) zAa (o:=1) t1;have l2:=zF (P:=E) zAa (o:=2) t1;have m0:=zF (P:=E) zAa (o:=0) t2;have m1:=zF (P:=E) zAa (o:=1) t2;have m2:=zF (P:=E) zAa (o:=2) t2;simp only[lnth,zm] at l0 l1 l2 m0 m1 m2;simp only[zEb,zEa,zFO,Nat.add_zero,xAK,l0,l1,l2,m0,m1,m2,zA,zS,zIO o1.ext.ok,zO,zDc,true_and,zjA,zL];rw[or3 o1.ext.ok];simp only[zO,zA,zAS,zU,true_and];exact⟨rfl,o1.wm⟩
def zBO(ls:List (Int×List GT))(i:Nat):Bool:=match ls[i]? with
 | some x=>zBF x.1 x.2||(decide (0<i)&&match ls[i-1]? with
  | some y=>decide (0<=zCp y.1 y.2 x.1 x.2)
  | none=>false)
 | none=>false
def zBh(n m:Int)(es:List (Int×Int×Int))(i:Nat):Bool:=match es[i]? with
 | some e=>!(decide (0<=e.1)&&decide (e.1<n))||!(decide (0<=e.2.2)&&decide (e.2.2<n))||!(decide (0<=e.2.1)&&decide (e.2.1<m))||(decide (0<i)&&match es[i-1]? with
  | some f=>decide (0<=zVt f e)
  | none=>false)
 | none=>false
def zAQ(p:Nat->Bool):Nat->Nat->Bool
 | 0,_=>false
 | m+1,i=>p i||zAQ p m (i+1)
def zCv{p:Nat->Bool}:∀ {m i:Nat},zAQ p m i=false->∀ j,i<=j->j<i+m->p j=false
 | 0,i,_,j,h1,h2=>by omega
 | m+1,i,h,j,h1,h2=>by
  simp only[zAQ,Bool.or_eq_false_iff] at h;by_cases e:j=i
  ·rw[e];exact h.1
  ·exact zCv h.2 j (by omega) (by omega)
def zBN(L:GL):Bool:=decide (L.n<1)||decide (20000<L.n)||decide (4000<L.labs.length)||decide (100000<L.eds.length)
def zx(L:GL):Bool:=zBN L||zAQ (zBO L.labs) L.labs.length 0||zAQ (zBh L.n L.labs.length L.eds) L.eds.length 0
abbrev kf8(k:AH)(b:Bool):KF:=KR E [.tmp 2] (fun x m=>x=iI (if b then 8 else 0)/\k.qa<=m.wm)
def zsk:∀(e:List Value),e.length=2->lput [iI 0,.slice none 0 0] 0 e=e:=by
 intro e he
 match e,he with
 | [x,y],_=>rfl
def zrI:∀(e:List Value),e.length=3->lput [iI 0,iI 0,iI 0] 0 e=e:=by
 intro e he
 match e,he with
 | [x,y,z],_=>rfl
def zrC{i:Nat}(h:0<i)(hi:i<=9223372036854775807)(t:TypeId):zC E .sub t (iI (i:Int)) (iI 1)=some (iI ((i-1:Nat):Int)):=by
 rw[zG9 _ (by unfold zC1;omega)]
 congr 2;omega
def zll{h0 k:AH}{x:Value}{L:GL}(hr:RL h0 x L)(hk:Ext h0 k):(zV E).call 121 [x] k=some [(iI (if zx L then 8 else 0),k)]:=by
 obtain⟨vl,ve,elsL,hx,haL,hL,haE⟩:=hr.ex;obtain⟨aL,cL,aT⟩:=haL.slice;obtain⟨aE,cE,cH⟩:=haE.slice;rw[RLab.length hL] at aT;rw[List.length_map] at cH;subst aT;subst cH;subst hx;refine zd6 (s:=true) hk.ok rfl (zc6 ?_);simp only[zd,zL,zX,zA];refine zc5 ?_;have o1:=(Own.qb k).new (rO [iI L.n,.slice aL L.labs.length cL,.slice aE L.eds.length cE] 25);have t1:=zI k.qb (rO [iI L.n,.slice aL L.labs.length cL,.slice aE L.eds.length cE] 25);simp only[za] at t1 ⊢;have n1:(k.qb.new (rO [iI L.n,.slice aL L.labs.length cL,.slice aE L.eds.length cE] 25)).qa=k.qa+1:=rfl;generalize k.qb.new (rO [iI L.n,.slice aL L.labs.length cL,.slice aE L.eds.length cE] 25)=k1 at o1 t1 n1;have box:∀ l,Ext k1 l->l.get k.qa=some (rO [iI L.n,.slice aL L.labs.length cL,.slice aE L.eds.length cE] 25):=fun l hl=>(hl.get _ (by omega)).trans t1;have edges:∀(hs:zBN L=false) (m i:Nat),i+m=L.eds.length->∀ l,Ext k1 l->k.qa<=l.wm->
   zmQ true (kf8 k (zAQ (zBh L.n L.labs.length L.eds) m i)) (.pointer (some ⟨k.qa,0,none⟩)) (.func (.func 169) #[] #[]) (.slice aE L.eds.length cE) (iI (L.eds.length:Int)) (iI (i:Int)) l:=by
  intro hs m;have bc:L.eds.length<=100000:=by simp[zBN] at hs;omega
  induction m with
  | zero=>
   intro i hi l hl hw;refine zKH ?_;simp only[zY,zA,zAN];refine⟨fun h=>by omega,fun _=>zS8 ?_⟩;simp[zA,zAS,zU,zAQ,hw]
  | succ m ih=>
   intro i hi l hl hw;have ai:i<L.eds.length:=by omega
   refine zKH ?_;simp only[zY,zA,zAN];refine⟨fun _=>zTC ?_,fun h=>by omega⟩;have aX:(L.eds.map zm)[i]?=some (zm L.eds[i]):=by simp[ai]
   obtain⟨b,o,c,vs,ty,es,ro,hv,hb,ab,bP,hz,aZ⟩:=haE.load aX;simp only[Value.slice.injEq] at hv;obtain⟨a9,_,fq⟩:=hv;subst a9;have dB:Ext h0 l:=(hk.trans o1.ext).trans hl;have gb:l.get b=some (.row vs ty es ro):=(dB.get b ab).trans hb;simp only[zA,zkV ai,zZ zQk gb bP,hz,zqx,zd,zL,zX];rw[zAC (P:=E) zjf (x:=.agg ⟨zm L.eds[i]⟩) (cs:=zm L.eds[i]) (zI l _) rfl aZ (by simp) (by simp[zm,zq])];simp only[zL];rw[zrI _ aZ];have eK:=hl.qa;have e2:=(hl.new (rO [iI 0,iI 0,iI 0] 52)).upd (b:=l.qa) eK (some (rO (zm L.eds[i]) 52));have w2:k.qa<=((l.new (rO [iI 0,iI 0,iI 0] 52)).upd l.qa (some (rO (zm L.eds[i]) 52))).wm:=zAA (by rw[zCl];exact hw) (by omega);have t2:((l.new (rO [iI 0,iI 0,iI 0] 52)).upd l.qa (some (rO (zm L.eds[i]) 52))).get l.qa=some (rO (zm L.eds[i]) 52):=zN _ _ _;have g2:((l.new (rO [iI 0,iI 0,iI 0] 52)).upd l.qa (some (rO (zm L.eds[i]) 52))).get b=some (.row vs ty es ro):=by
    have h1:=hk.qa;have h2:=o1.ext.qa;rw[zP (by omega),zK (by omega)];exact gb
   generalize ((l.new (rO [iI 0,iI 0,iI 0] 52)).upd l.qa (some (rO (zm L.eds[i]) 52)))=l2 at e2 w2 t2 g2;refine zTB ?_;have b2:=box l2 e2;have ok2:=e2.ok;have n0:=zF (P:=E) zAa (o:=0) b2;have n1:=zF (P:=E) zHc (o:=1) b2;have n2:=zF (P:=E) zKT (o:=2) b2;have c0:=zF (P:=E) zAa (o:=0) t2;have c1:=zF (P:=E) zAa (o:=1) t2;have c2:=zF (P:=E) zAa (o:=2) t2;have ca:=zZ (P:=E) zQk (o:=0) t2 (by simp[zm]);rw[List.drop_zero,xAD (by simp[zm])] at ca;simp only[lnth,zm] at n0 n1 n2 c0 c1 c2;have aK:∀ bad:Bool,zBh L.n L.labs.length L.eds i=bad->(BrK (some (.bool bad)) (zmP true (kf8 k (zAQ (zBh L.n L.labs.length L.eds) (m+1) i)) l2) (zmO true (kf8 k (zAQ (zBh L.n L.labs.length L.eds) (m+1) i)) (.pointer (some ⟨k.qa,0,none⟩)) (.func (.func 169) #[] #[]) (.slice (some ⟨b,o,none⟩) L.eds.length cE) (iI (L.eds.length:Int)) (iI (i:Int)) l2)):=by
    intro bad bj;cases bad with
    | true=>
     rw[zy];refine zTA ?_;simp[zA,zAS,zU,w2,zAQ,bj]
    | false=>
     rw[zi];refine zS9 ?_;simp only[zAK _ (zDu ai (by omega)),zA];have:=ih (i+1) (by omega) l2 e2 w2;simp only[zAQ,bj,Bool.false_or];simpa using this
   simp only[zEb,zEa,zFO,zA3,Nat.add_zero,xAK,n0,c0,c1,c2,zA,zS,zOo ok2,zO,zAB,zM,zR];have hatE:L.eds[i]?=some L.eds[i]:=xAA ai;have q2:=zOo (k:=l2) (a:=L.eds[i].2.2) (b:=L.n) ok2;have q3:=zOo (k:=l2) (a:=L.eds[i].2.1) (b:=(L.labs.length:Int)) ok2;have bS:zBh L.n L.labs.length L.eds i=(!(decide (0<=L.eds[i].1)&&decide (L.eds[i].1<L.n))||!(decide (0<=L.eds[i].2.2)&&decide (L.eds[i].2.2<L.n))||!(decide (0<=L.eds[i].2.1)&&decide (L.eds[i].2.1<(L.labs.length:Int)))||(decide (0<i)&&match L.eds[i-1]? with
    | some f=>decide (0<=zVt f L.eds[i])
    | none=>false)):=by simp only[zBh,hatE]
   generalize (decide (0<=L.eds[i].1)&&decide (L.eds[i].1<L.n))=A at bS ⊢;generalize (decide (0<=L.eds[i].2.2)&&decide (L.eds[i].2.2<L.n))=B at bS q2;generalize (decide (0<=L.eds[i].2.1)&&decide (L.eds[i].2.1<(L.labs.length:Int)))=D at bS q3;cases A with
   | false=>
    have:=aK true (by rw[bS];rfl);simpa only[xAM,xAL,xAO,show (true==false)=false from rfl,show (false==true)=false from rfl,xAG,xAH,zA,zO,zAB,zM,zR,zw,zz,zJ,zL] using this
   | true=>
    simp only[xAM,xAL,xAO,show (true==false)=false from rfl,show (false==true)=false from rfl,xAG,xAH,zA,zO,zAB,zM,zR,zJ,zL,zEb,zEa,zFO,zA3,zBf,zCT,Nat.add_zero,xAK,n0,n1,n2,c0,c1,c2,zS,q2];cases B with
    | false=>
     have:=aK true (by rw[bS];rfl);simpa only[xAM,xAL,xAO,show (true==false)=false from rfl,show (false==true)=false from rfl,xAG,xAH,zA,zO,zAB,zM,zR,zw,zz,zJ,zL] using this
    | true=>
     simp only[xAM,xAL,xAO,show (true==false)=false from rfl,show (false==true)=false from rfl,xAG,xAH,zA,zO,zAB,zM,zR,zJ,zL,zEb,zEa,zFO,zA3,zBf,zCT,Nat.add_zero,xAK,n0,n1,n2,c0,c1,c2,zS,zLt,q3];cases D with
     | false=>
      have:=aK true (by rw[bS];rfl);simpa only[xAM,xAL,xAO,show (true==false)=false from rfl,show (false==true)=false from rfl,xAG,xAH,zA,zO,zAB,zM,zR,zw,zz,zJ,zL] using this
     | true=>
      simp only[xAM,xAL,xAO,show (true==false)=false from rfl,show (false==true)=false from rfl,xAG,xAH,zA,zO,zAB,zM,zR,zJ,zL,zAO];by_cases d4:0<i
      ·have d4':(0:Int)<i:=by omega
       have aO:i-1<L.eds.length:=by omega
       have eW:(L.eds.map zm)[i-1]?=some (zm L.eds[i-1]):=by simp[aO]
       obtain⟨b',o',c',vs',ty',es',ro',ay,ao,aD,de,bB,bE⟩:=haE.load eW;simp only[Value.slice.injEq] at ay;obtain⟨dw,_,_⟩:=ay;cases dw;rw[hb] at ao;cases ao;have aP:zBh L.n L.labs.length L.eds i=decide (0<=zVt L.eds[i-1] L.eds[i]):=by rw[bS,xAA aO];simp[d4]
       have:=aK (decide (0<=zVt L.eds[i-1] L.eds[i])) aP;simpa only[d4',zAO,decide_true,xAM,xAL,xAO,show (true==false)=false from rfl,show (false==true)=false from rfl,xAG,xAH,zA,zO,zAB,zM,zR,zJ,zL,zCT,xAK,n2,zrC d4 (by omega:i<=9223372036854775807),zkV aO,zZ zQk g2 de,bB,ca,zS,zlY ok2,zAZ] using this
      ·have d4':¬ (0:Int)<i:=by omega
       have:=aK false (by rw[bS];simp[d4]);simpa only[d4',zAO,decide_false,xAM,xAL,xAO,show (true==false)=false from rfl,show (false==true)=false from rfl,xAG,xAH,zA,zO,zAB,zM,zR,zw,zz,zJ,zL] using this
 have labels:∀(hs:zBN L=false) (m i:Nat),i+m=L.labs.length->∀ l,Ext k1 l->k.qa<=l.wm->
   zqB true (kf8 k (zAQ (zBO L.labs) m i||zAQ (zBh L.n L.labs.length L.eds) L.eds.length 0)) (.pointer (some ⟨k.qa,0,none⟩)) (.slice aL L.labs.length cL) (iI (L.labs.length:Int)) (iI (i:Int)) l:=by
  intro hs m;have bc:L.labs.length<=4000:=by simp[zBN] at hs;omega
  induction m with
  | zero=>
   intro i hi l hl hw;refine zNX ?_;simp only[zY,zA,zAN];refine⟨fun h=>by omega,fun _=>zcy ?_⟩;refine zTD ?_;have b2:=box l hl;have n2:=zF (P:=E) zKT (o:=2) b2;simp only[lnth] at n2;simp only[zCT,xAK,n2,zA,zOH];have:=edges hs L.eds.length 0 (by omega) l hl hw;simpa[zAQ] using this
  | succ m ih=>
   intro i hi l hl hw;have ai:i<L.labs.length:=by omega
   have cC:i<elsL.length:=by rw[RLab.length hL];exact ai
   refine zNX ?_;simp only[zY,zA,zAN];refine⟨fun _=>zc2 ?_,fun h=>by omega⟩;obtain⟨g,v,lt,bv,ba,hatL⟩:=RLab.at hL i _ (xAA cC);obtain⟨b,o,c,vs,ty,es,ro,hv,hb,ab,bP,hz,aZ⟩:=haL.load (xAA cC);rw[bv] at hz aZ;simp only[Value.slice.injEq] at hv;obtain⟨a9,_,fq⟩:=hv;subst a9;have dB:Ext h0 l:=(hk.trans o1.ext).trans hl;have gb:l.get b=some (.row vs ty es ro):=(dB.get b ab).trans hb;simp only[zA,zON ai,zZ zE0 gb bP,hz,zqj,zd,zL,zX];rw[zAC (P:=E) zjg (x:=.agg ⟨[iI g,v]⟩) (cs:=[iI g,v]) (zI l _) rfl aZ (by simp) (by simp[zq];exact zDz ba)];simp only[zL];rw[zsk _ aZ];have eK:=hl.qa;have e2:=(hl.new (rO [iI 0,.slice none 0 0] 36)).upd (b:=l.qa) eK (some (rO [iI g,v] 36));have w2:k.qa<=((l.new (rO [iI 0,.slice none 0 0] 36)).upd l.qa (some (rO [iI g,v] 36))).wm:=zAA (by rw[zCl];exact hw) (by omega);have t2:((l.new (rO [iI 0,.slice none 0 0] 36)).upd l.qa (some (rO [iI g,v] 36))).get l.qa=some (rO [iI g,v] 36):=zN _ _ _;have g2:((l.new (rO [iI 0,.slice none 0 0] 36)).upd l.qa (some (rO [iI g,v] 36))).get b=some (.row vs ty es ro):=by
    have h1:=hk.qa;have h2:=o1.ext.qa;rw[zP (by omega),zK (by omega)];exact gb
   generalize ((l.new (rO [iI 0,.slice none 0 0] 36)).upd l.qa (some (rO [iI g,v] 36)))=l2 at e2 w2 t2 g2;refine zc1 ?_;have b2:=box l2 e2;have gA:Ext h0 l2:=(hk.trans o1.ext).trans e2;have n1:=zF (P:=E) zHc (o:=1) b2;have ca:=zZ (P:=E) zE0 (o:=0) t2 (by simp);simp only[lnth,List.drop_zero,List.take] at n1 ca;have aK:∀ bad:Bool,zBO L.labs i=bad->(BrK (some (.bool bad)) (zqA true (kf8 k (zAQ (zBO L.labs) (m+1) i||zAQ (zBh L.n L.labs.length L.eds) L.eds.length 0)) l2) (zp9 true (kf8 k (zAQ (zBO L.labs) (m+1) i||zAQ (zBh L.n L.labs.length L.eds) L.eds.length 0)) (.pointer (some ⟨k.qa,0,none⟩)) (.slice (some ⟨b,o,none⟩) L.labs.length cL) (iI (L.labs.length:Int)) (iI (i:Int)) l2)):=by
    intro bad bj;cases bad with
    | true=>
     rw[zy];refine zc0 ?_;simp[zA,zAS,zU,w2,zAQ,bj]
    | false=>
     rw[zi];refine zcz ?_;simp only[zAK _ (zDu ai (by omega)),zA];have:=ih (i+1) (by omega) l2 e2 w2;simp only[zAQ,bj,Bool.false_or];simpa using this
   simp only[ca,zA,zS,zlZ ba gA,zO,zA1];have eJ:zBO L.labs i=(zBF g lt||(decide (0<i)&&match L.labs[i-1]? with
    | some y=>decide (0<=zCp y.1 y.2 g lt)
    | none=>false)):=by simp only[zBO,hatL]
   cases hA:zBF g lt with
   | true=>
    have:=aK true (by rw[eJ,hA];rfl);simpa only[hA,if_true,show (!decide ((170:Int)=0))=true from rfl,xAM,xAL,xAO,show (true==false)=false from rfl,show (false==true)=false from rfl,xAG,xAH,zA,zO,zAB,zM,zR,zw,zz,zJ,zL] using this
   | false=>
    simp only[hA,Bool.false_eq_true,if_false,decide_true,xAM,xAL,xAO,show (true==false)=false from rfl,show (false==true)=false from rfl,xAG,xAH,zA,zO,zAB,zM,zR,zw,zz,zJ,zL,zAO];by_cases d4:0<i
    ·have d4':(0:Int)<i:=by omega
     have aO:i-1<L.labs.length:=by omega
     have gj:i-1<elsL.length:=by rw[RLab.length hL];exact aO
     obtain⟨g',v',lt',hel',hrt',jW⟩:=RLab.at hL (i-1) _ (xAA gj);obtain⟨b',o',c',vs',ty',es',ro',ay,ao,aD,de,bB,bE⟩:=haL.load (xAA gj);rw[hel'] at bB bE;simp only[Value.slice.injEq] at ay;obtain⟨dw,_,_⟩:=ay;cases dw;rw[hb] at ao;cases ao;have aP:zBO L.labs i=decide (0<=zCp g' lt' g lt):=by rw[eJ,hA,jW];simp[d4]
     have:=aK (decide (0<=zCp g' lt' g lt)) aP;simpa only[d4',zAO,decide_true,xAM,xAL,xAO,show (true==false)=false from rfl,show (false==true)=false from rfl,xAG,xAH,zA,zO,zAB,zM,zR,zw,zz,zJ,zL,zBf,xAK,n1,zrC d4 (by omega:i<=9223372036854775807),zON aO,zZ zE0 g2 de,bB,ca,zS,zOp hrt' ba gA,zAZ] using this
    ·have d4':¬ (0:Int)<i:=by omega
     have:=aK false (by rw[eJ,hA];simp[d4]);simpa only[d4',zAO,decide_false,xAM,xAL,xAO,show (true==false)=false from rfl,show (false==true)=false from rfl,xAG,xAH,zA,zO,zAB,zM,zR,zw,zz,zJ,zL] using this
 have n0:=zF (P:=E) zAa (o:=0) t1;have n1':=zF (P:=E) zHc (o:=1) t1;have n2:=zF (P:=E) zKT (o:=2) t1;simp only[lnth] at n0 n1' n2;have aK:∀ bad:Bool,zBN L=bad->(BrK (some (.bool bad)) (zqD true (kf8 k (zx L)) k1) (zqC true (kf8 k (zx L)) (.pointer (some ⟨k.qa,0,none⟩)) k1)):=by
  intro bad bj;cases bad with
  | true=>
   rw[zy];refine zc4 ?_;simp[zA,zAS,zU,o1.wm,zx,bj]
  | false=>
   rw[zi];refine zc3 ?_;simp only[zBf,xAK,n1',zA,zRT];have:=labels bj L.labs.length 0 (by omega) k1 (Ext.refl o1.ext.ok) o1.wm;simp only[zx,bj,Bool.false_or];simpa using this
 simp only[zA3,Nat.add_zero,n0,zA,zY];by_cases d1:L.n<1
 ·have:=aK true (by simp[zBN,d1]);simpa only[d1,decide_true,xAM,xAL,xAO,show (true==false)=false from rfl,show (false==true)=false from rfl,xAG,xAH,zA,zO,zAB,zM,zR,zw,zz,zJ,zL] using this
 ·simp only[d1,decide_false,xAM,xAL,xAO,show (true==false)=false from rfl,show (false==true)=false from rfl,xAG,xAH,zA,zO,zAB,zM,zR,zw,zz,zJ,zL,zA3,Nat.add_zero,n0,zAO];by_cases d2:20000<L.n
  ·have:=aK true (by simp[zBN,d2]);simpa only[d2,decide_true,xAM,xAL,xAO,show (true==false)=false from rfl,show (false==true)=false from rfl,xAG,xAH,zA,zO,zAB,zM,zR,zw,zz,zJ,zL] using this
  ·simp only[d2,decide_false,xAM,xAL,xAO,show (true==false)=false from rfl,show (false==true)=false from rfl,xAG,xAH,zA,zO,zAB,zM,zR,zw,zz,zJ,zL,zBf,xAK,n1',zOG,zAO];by_cases d3:4000<L.labs.length
   ·have d3':(4000:Int)<L.labs.length:=by omega
    have:=aK true (by simp[zBN,d3]);simpa only[d3',decide_true,xAM,xAL,xAO,show (true==false)=false from rfl,show (false==true)=false from rfl,xAG,xAH,zA,zO,zAB,zM,zR,zw,zz,zJ,zL] using this
   ·have d3':¬ (4000:Int)<L.labs.length:=by omega
    simp only[d3',decide_false,xAM,xAL,xAO,show (true==false)=false from rfl,show (false==true)=false from rfl,xAG,xAH,zA,zO,zAB,zM,zR,zw,zz,zJ,zL,zCT,xAK,n2,zOF,zAO];by_cases d4:100000<L.eds.length
    ·have d4':(100000:Int)<L.eds.length:=by omega
     have:=aK true (by simp[zBN,d4]);simpa only[d4',zAO,decide_true,xAM,xAL,xAO,show (true==false)=false from rfl,show (false==true)=false from rfl,xAG,xAH,zA,zO,zAB,zM,zR,zw,zz,zJ,zL] using this
    ·have d4':¬ (100000:Int)<L.eds.length:=by omega
     have:=aK false (by simp[zBN,d1,d2,d3,d4]);simpa only[d4',zAO,decide_false,xAM,xAL,xAO,show (true==false)=false from rfl,show (false==true)=false from rfl,xAG,xAH,zA,zO,zAB,zM,zR,zw,zz,zJ,zL] using this
end Go.Proofs
namespace Go.Proofs
open Go Go.AM
def zMK(Ls:List GL)(i:Nat):Bool:=match Ls[i]? with
 | some L=>zx L
 | none=>false
def znh:∀(e:List Value),e.length=3->lput [iI 0,.slice none 0 0,.slice none 0 0] 0 e=e:=by
 intro e he
 match e,he with
 | [x,y,z],_=>rfl
def RL.leafs{h:AH}{e:List Value}{L:GL}(r:RL h (.agg ⟨e⟩) L):e.all zq=true/\e.length=3:=by
 obtain⟨vl,ve,els,a,b,c,d⟩:=r.ex;obtain⟨x1,x2,rfl⟩:=b.slice;obtain⟨y1,y2,rfl⟩:=d.slice;simp only[Value.agg.injEq] at a;have:e=[iI L.n,.slice x1 els.length x2,.slice y1 (L.eds.map zm).length y2]:=by
  have:=congrArg Array.toList a;simpa using this
 rw[this];simp[zq]
def zi5{h0 k:AH}{v:Value}{els:List (List Value)}{Ls:List GL}(ha:Arr h0 3 v els)(hn:els.length=Ls.length)(bc:els.length<=1000)(hr:∀(i:Nat) (e:List Value) (L:GL),els[i]?=some e->Ls[i]?=some L->RL h0 (.agg ⟨e⟩) L)(hk:Ext h0 k) :
  (zV E).call 70 [v] k=some [(iI (if zAQ (zMK Ls) els.length 0 then 8 else 0),k)]:=by
 obtain⟨ad,c,hv⟩:=ha.slice;subst hv;refine zhV (s:=true) hk.ok rfl (zgZ ?_);refine zgY ?_;simp only[zA,zU7];have loop:∀(m i:Nat),i+m=els.length->∀ l,Own k l->zsM true (KR E [.tmp 2] (fun x l=>x=iI (if zAQ (zMK Ls) m i then 8 else 0)/\k.qa<=l.wm)) (.slice ad els.length c) (iI (els.length:Int)) (iI (i:Int)) l:=by
  intro m
  induction m with
  | zero=>
   intro i hi l hl;refine zQS ?_;simp only[zY,zA,zAN];refine⟨fun h=>by omega,fun _=>zgT ?_⟩;simp[zA,zAS,zU,zAQ,hl.wm]
  | succ m ih=>
   intro i hi l hl;have ai:i<els.length:=by omega
   have aO:i<Ls.length:=by omega
   refine zQS ?_;simp only[zY,zA,zAN];refine⟨fun _=>zgX ?_,fun h=>by omega⟩;obtain⟨b,o,c',vs,ty,es,ro,hv,hb,ab,bP,hz,aZ⟩:=ha.load (xAA ai);simp only[Value.slice.injEq] at hv;obtain⟨a9,_,fq⟩:=hv;subst a9;have iz:=hr i _ _ (xAA ai) (xAA aO);have dB:Ext h0 l:=hk.trans hl.ext;have gb:l.get b=some (.row vs ty es ro):=(dB.get b ab).trans hb;simp only[zA,zes ai,zZ zDh gb bP,hz,zql,zd,zL,zX];rw[zAC (P:=E) znD (x:=.agg ⟨els[i]⟩) (cs:=els[i]) (zI l _) rfl aZ (by simp) iz.leafs.1];simp only[zL];rw[znh _ aZ];have eK:=hl.ext.qa;have o2:=(hl.new (rO [iI 0,.slice none 0 0,.slice none 0 0] 25)).upd (b:=l.qa) eK (some (.row els[i] 25 0 false));have t2:((l.new (rO [iI 0,.slice none 0 0,.slice none 0 0] 25)).upd l.qa (some (.row els[i] 25 0 false))).get l.qa=some (.row els[i] 25 0 false):=zN _ _ _;generalize ((l.new (rO [iI 0,.slice none 0 0,.slice none 0 0] 25)).upd l.qa (some (.row els[i] 25 0 false)))=l2 at o2 t2;refine zgW ?_;have ca:=zZ (P:=E) zDh (o:=0) t2 (by omega);rw[List.drop_zero,xAD (by omega)] at ca;simp only[ca,zA,zS,zll iz (hk.trans o2.ext),zO,zA1];have aX:zMK Ls i=zx Ls[i]:=by unfold zMK;rw[xAA aO]
   cases hb:zx Ls[i] with
   | true=>
    simp only[if_true,show (!decide ((8:Int)=0))=true from rfl,zy];refine zgV ?_;simp[zA,zAS,zU,zAQ,aX,hb,o2.wm]
   | false=>
    simp only[Bool.false_eq_true,if_false,decide_true,xAL,zi];refine zgU ?_;simp only[zAK _ (zDu ai (by omega)),zA];have:=ih (i+1) (by omega) l2 o2;simp only[zAQ,aX,hb,Bool.false_or];simpa using this
 exact loop els.length 0 (by omega) _ (Own.qb k)
def zDd(k:Int):Bool:=decide (k=1)||decide (k=2)
def zWF{k:AH}{a:Int}(aa:k.ok):(zV E).call 105 [iI a] k=some [(.bool (zDd a),k)]:=by
 refine zd7 (s:=true) aa rfl (zc8 ?_);refine zc7 ?_;simp only[zA,zAd];by_cases c:a=1
 ·simp[c,zDd,zA,zM,zJ,zAS,zU]
 ·simp[c,zDd,zA,zM,zJ,zAS,zU,zAd]
def zG(p:Int×Int):List Value:=[iI p.1,iI p.2]
def zME(p q:Int×Int):Int:=orI [c3 p.1 q.1,c3 p.2 q.2]
def zJg{b o:Nat}:zE E 54 (some (.pointer (some ⟨b,o,none⟩))) (some (iI 0))=some (.pointer (some ⟨b,o+0,none⟩)):=zn7 (k:=0) (by omega)
def zLy{b o:Nat}:zE E 54 (some (.pointer (some ⟨b,o,none⟩))) (some (iI 1))=some (.pointer (some ⟨b,o+1,none⟩)):=zn7 (k:=1) (by omega)
def zlk{k:AH}{e f:Int×Int}(aa:k.ok):(zV E).call 122 [.agg ⟨zG e⟩,.agg ⟨zG f⟩] k=some [(iI (zME e f),k)]:=by
 refine zd5 (s:=true) aa rfl (zcx ?_);simp only[zd,zL,zX,zA];refine zcw ?_;have o1:=((Own.qb k).new (rO (zG e) 54)).new (rO (zG f) 54);have t1:((k.qb.new (rO (zG e) 54)).new (rO (zG f) 54)).get k.qa=some (rO (zG e) 54):=by
  rw[zK (by simp)];exact zI k.qb _
 have t2:((k.qb.new (rO (zG e) 54)).new (rO (zG f) 54)).get (k.qa+1)=some (rO (zG f) 54):=zI (k.qb.new _) _;simp only[za,AH.next_new];generalize ((k.qb.new (rO (zG e) 54)).new (rO (zG f) 54))=k1 at o1 t1 t2;have l0:=zF (P:=E) zAa (o:=0) t1;have l1:=zF (P:=E) zAa (o:=1) t1;have m0:=zF (P:=E) zAa (o:=0) t2;have m1:=zF (P:=E) zAa (o:=1) t2;simp only[lnth,zG] at l0 l1 m0 m1;simp only[zJg,zLy,Nat.add_zero,xAK,l0,l1,m0,m1,zA,zS,zIO o1.ext.ok,zO,zDc,true_and,zWM,zL];rw[or2 o1.ext.ok];simp only[zO,zA,zAS,zU,true_and];exact⟨rfl,o1.wm⟩
structure GB where
 kind:Int
 prs:List (Int×Int)
structure RB(h:AH)(e:List Value)(B:GB):Prop where
 ex:∃ vp,e=[iI B.kind,vp]/\Arr h 2 vp (B.prs.map zG)
def RB.ext{h k:AH}{e:List Value}{B:GB}(r:RB h e B)(x:Ext h k):RB k e B:=let ⟨v,a,b⟩:=r.ex;⟨v,a,b.ext x⟩
def zDB(ps:List (Int×Int))(i:Nat):Bool:=match ps[i]? with
 | some p=>decide (p.1<0)||decide (p.2<0)||(decide (0<i)&&match ps[i-1]? with
  | some q=>decide (0<=zME q p)
  | none=>false)
 | none=>false
def zCL(B:GB):Int:=if zDd B.kind=false then 361 else if 200000<B.prs.length then 360 else if zAQ (zDB B.prs) B.prs.length 0 then 360 else 0
def zOV(Bs:List GB)(i:Nat):Int:=match Bs[i]? with
 | some B=>zCL B
 | none=>0
def zBg(Bs:List GB):Nat->Nat->Int
 | 0,_=>0
 | m+1,i=>if zOV Bs i≠0 then zOV Bs i else zBg Bs m (i+1)
abbrev kfe(k:AH)(n:Int):KF:=KR E [.tmp 2] (fun x m=>x=iI n/\k.qa<=m.wm)
def zrJ:∀(e:List Value),e.length=2->lput [iI 0,iI 0] 0 e=e:=by
 intro e he
 match e,he with
 | [x,y],_=>rfl
def zoQ{h0 k:AH}{v:Value}{els:List (List Value)}{Bs:List GB}(ha:Arr h0 2 v els)(hn:els.length=Bs.length)(bc:els.length<=1000)(hr:∀(i:Nat) (e:List Value) (B:GB),els[i]?=some e->Bs[i]?=some B->RB h0 e B)(hk:Ext h0 k) :
  (zV E).call 71 [v] k=some [(iI (zBg Bs els.length 0),k)]:=by
 obtain⟨ad,c,hv⟩:=ha.slice;subst hv;refine zhU (s:=true) hk.ok rfl (zgS ?_);refine zgR ?_;simp only[zA,zU6];have loop:∀(m i:Nat),i+m=els.length->∀ l,Own k l->zsL true (kfe k (zBg Bs m i)) (.slice ad els.length c) (iI (els.length:Int)) (iI (i:Int)) l:=by
  intro m
  induction m with
  | zero=>
   intro i hi l hl;refine zQR ?_;simp only[zY,zA,zAN];refine⟨fun h=>by omega,fun _=>zXG ?_⟩;simp[zA,zAS,zU,zBg,hl.wm]
  | succ m ih=>
   intro i hi l hl;have ai:i<els.length:=by omega
   have aO:i<Bs.length:=by omega
   refine zQR ?_;simp only[zY,zA,zAN];refine⟨fun _=>zgQ ?_,fun h=>by omega⟩;obtain⟨b,o,c',vs,ty,es,ro,hv,hb,ab,bP,hz,aZ⟩:=ha.load (xAA ai);simp only[Value.slice.injEq] at hv;obtain⟨a9,_,fq⟩:=hv;subst a9;obtain⟨vp,bv,fP⟩:=(hr i _ _ (xAA ai) (xAA aO)).ex;have aX:zOV Bs i=zCL Bs[i]:=by unfold zOV;rw[xAA aO]
   generalize hB:Bs[i]=B at bv fP aX;obtain⟨ap,cp,ep⟩:=fP.slice;rw[List.length_map] at ep;subst ep;rw[bv] at hz aZ;have dB:Ext h0 l:=hk.trans hl.ext;have gb:l.get b=some (.row vs ty es ro):=(dB.get b ab).trans hb;simp only[zA,zrx ai,zZ zQl gb bP,hz,zqk,zd,zL,zX];rw[zAC (P:=E) znB (x:=.agg ⟨[iI B.kind,.slice ap B.prs.length cp]⟩) (cs:=[iI B.kind,.slice ap B.prs.length cp]) (zI l _) rfl aZ (by simp) (by simp[zq])];simp only[zL];rw[zsk _ aZ];have eK:=hl.ext.qa;have o2:=(hl.new (rO [iI 0,.slice none 0 0] 32)).upd (b:=l.qa) eK (some (rO [iI B.kind,.slice ap B.prs.length cp] 32));have t2:((l.new (rO [iI 0,.slice none 0 0] 32)).upd l.qa (some (rO [iI B.kind,.slice ap B.prs.length cp] 32))).get l.qa=some (rO [iI B.kind,.slice ap B.prs.length cp] 32):=zN _ _ _;have n2:((l.new (rO [iI 0,.slice none 0 0] 32)).upd l.qa (some (rO [iI B.kind,.slice ap B.prs.length cp] 32))).qa=l.qa+1:=rfl;generalize ((l.new (rO [iI 0,.slice none 0 0] 32)).upd l.qa (some (rO [iI B.kind,.slice ap B.prs.length cp] 32)))=l2 at o2 t2 n2;refine zgP ?_;have c0:=zF (P:=E) zAa (o:=0) t2;have c1:=zF (P:=E) zT9 (o:=1) t2;simp only[lnth] at c0 c1;simp only[zVb,Nat.add_zero,c0,zA,zS,zWF o2.ext.ok,zO,zAB];cases hm:zDd B.kind with
   | false=>
    have aP:zOV Bs i=361:=by rw[aX];unfold zCL;rw[if_pos hm]
    simp only[xAM,zy];refine zgO ?_;simp[zA,zAS,zU,zBg,aP,o2.wm]
   | true=>
    simp only[xAL,zi];refine zgN ?_;simp only[zGj,xAK,c1,zA,zU5,zAO,zAN];refine⟨fun iv=>zgM ?_,fun iv=>zgL ?_⟩
    ·have aP:zOV Bs i=360:=by rw[aX];unfold zCL;rw[if_neg (by rw[hm];simp),if_pos (by omega)]
     simp[zA,zAS,zU,zBg,aP,o2.wm]
    ·simp only[zGj,xAK,c1,zA,zU4];have hbig':B.prs.length<=200000:=by omega
     have hlk:zCL B=if zAQ (zDB B.prs) B.prs.length 0 then 360 else 0:=by unfold zCL;rw[if_neg (by rw[hm];simp),if_neg (by omega)]
     have pairs:∀(m2 j:Nat),j+m2=B.prs.length->∀ l3,Ext l2 l3->k.qa<=l3.wm->
       (zAQ (zDB B.prs) m2 j=true->zBg Bs (m+1) i=360)->(zAQ (zDB B.prs) m2 j=false->zBg Bs (m+1) i=zBg Bs m (i+1))->
       zsK true (kfe k (zBg Bs (m+1) i)) (.pointer (some ⟨l.qa,0,none⟩)) (.slice (some ⟨b,o,none⟩) els.length c) (iI (els.length:Int)) (iI (i:Int)) (.slice ap B.prs.length cp) (iI (B.prs.length:Int)) (iI (j:Int)) l3:=by
      intro m2
      induction m2 with
      | zero=>
       intro j hj l3 hl3 hw3 h1 h2;refine zQQ ?_;simp only[zY,zA,zAN];refine⟨fun h=>by omega,fun _=>zXH ?_⟩;simp only[zAK _ (zDu ai (by omega)),zA];have:=ih (i+1) (by omega) l3 ⟨o2.ext.trans hl3,hw3⟩;rw[h2 rfl];simpa using this
      | succ m2 ih2=>
       intro j hj l3 hl3 hw3 h1 h2;have bM:j<B.prs.length:=by omega
       refine zQQ ?_;simp only[zY,zA,zAN];refine⟨fun _=>zXL ?_,fun h=>by omega⟩;have hatp:(B.prs.map zG)[j]?=some (zG B.prs[j]):=by simp[bM]
       obtain⟨b',o',c2',vs',ty',es',ro',ay,ao,aD,de,bB,bE⟩:=fP.load hatp;simp only[Value.slice.injEq] at ay;obtain⟨dw,_,_⟩:=ay;subst dw;have he3:Ext h0 l3:=(hk.trans o2.ext).trans hl3;have gb':l3.get b'=some (.row vs' ty' es' ro'):=(he3.get b' aD).trans ao;simp only[zA,zkU bM,zZ zQj gb' de,bB,zqi,zd,zL,zX];rw[zAC (P:=E) znA (x:=.agg ⟨zG B.prs[j]⟩) (cs:=zG B.prs[j]) (zI l3 _) rfl bE (by simp) (by simp[zG,zq])];simp only[zL];rw[zrJ _ bE];have hkl3:=hl3.qa;have e4:=(hl3.new (rO [iI 0,iI 0] 54)).upd (b:=l3.qa) hkl3 (some (rO (zG B.prs[j]) 54));have w4:k.qa<=((l3.new (rO [iI 0,iI 0] 54)).upd l3.qa (some (rO (zG B.prs[j]) 54))).wm:=zAA (by rw[zCl];exact hw3) (by omega);have t4:((l3.new (rO [iI 0,iI 0] 54)).upd l3.qa (some (rO (zG B.prs[j]) 54))).get l3.qa=some (rO (zG B.prs[j]) 54):=zN _ _ _;have g4:((l3.new (rO [iI 0,iI 0] 54)).upd l3.qa (some (rO (zG B.prs[j]) 54))).get b'=some (.row vs' ty' es' ro'):=by
        have q1:=hk.qa;rw[zP (by omega),zK (by omega)];exact gb'
       generalize ((l3.new (rO [iI 0,iI 0] 54)).upd l3.qa (some (rO (zG B.prs[j]) 54)))=l4 at e4 w4 t4 g4;refine zXK ?_;have ok4:=e4.ok;have bx:l4.get l.qa=some (rO [iI B.kind,.slice (some ⟨b',o',none⟩) B.prs.length cp] 32):=(e4.get _ (by omega)).trans t2;have d0:=zF (P:=E) zAa (o:=0) t4;have d1:=zF (P:=E) zAa (o:=1) t4;have da:=zZ (P:=E) zQj (o:=0) t4 (by simp[zG]);have dp:=zF (P:=E) zT9 (o:=1) bx;rw[List.drop_zero,xAD (by simp[zG])] at da;simp only[lnth,zG] at d0 d1 dp;have hatj:B.prs[j]?=some B.prs[j]:=xAA bM;have hpb:zDB B.prs j=(decide (B.prs[j].1<0)||decide (B.prs[j].2<0)||(decide (0<j)&&match B.prs[j-1]? with
        | some q=>decide (0<=zME q B.prs[j])
        | none=>false)):=by simp only[zDB,hatj]
       have aK:∀ bad:Bool,zDB B.prs j=bad->(BrK (some (.bool bad)) (zo7 true (kfe k (zBg Bs (m+1) i)) l4) (zo6 true (kfe k (zBg Bs (m+1) i)) (.pointer (some ⟨l.qa,0,none⟩)) (.slice (some ⟨b,o,none⟩) els.length c) (iI (els.length:Int)) (iI (i:Int)) (.slice (some ⟨b',o',none⟩) B.prs.length cp) (iI (B.prs.length:Int)) (iI (j:Int)) l4)):=by
        intro bad bj;cases bad with
        | true=>
         rw[zy,h1 (by simp[zAQ,bj])];refine zXJ ?_;simp[zA,zAS,zU,w4]
        | false=>
         rw[zi];refine zXI ?_;simp only[zAK _ (zDu bM (by omega)),zA];have:=ih2 (j+1) (by omega) l4 e4 w4 (fun h=>h1 (by simp[zAQ,h])) (fun h=>h2 (by simp[zAQ,bj,h]));simpa using this
       simp only[zJg,Nat.add_zero,d0,zA,zY];by_cases p1:B.prs[j].1<0
       ·have:=aK true (by rw[hpb];simp[p1]);simpa only[p1,decide_true,xAM,xAL,xAO,show (true==false)=false from rfl,show (false==true)=false from rfl,xAG,xAH,zA,zO,zAB,zM,zR,zw,zz,zJ,zL] using this
       ·simp only[p1,decide_false,xAM,xAL,xAO,show (true==false)=false from rfl,show (false==true)=false from rfl,xAG,xAH,zA,zO,zAB,zM,zR,zw,zz,zJ,zL,zLy,d1,zY];by_cases p2:B.prs[j].2<0
        ·have:=aK true (by rw[hpb];simp[p2]);simpa only[p2,decide_true,xAM,xAL,xAO,show (true==false)=false from rfl,show (false==true)=false from rfl,xAG,xAH,zA,zO,zAB,zM,zR,zw,zz,zJ,zL] using this
        ·simp only[p2,decide_false,xAM,xAL,xAO,show (true==false)=false from rfl,show (false==true)=false from rfl,xAG,xAH,zA,zO,zAB,zM,zR,zw,zz,zJ,zL,zAO];by_cases p3:0<j
         ·have p3':(0:Int)<j:=by omega
          have ie:j-1<B.prs.length:=by omega
          have jU:(B.prs.map zG)[j-1]?=some (zG B.prs[j-1]):=by simp[ie]
          obtain⟨b5,o5,c5,vs5,ty5,es5,ro5,iU,hb5,hlt5,hle5,hz5,hzl5⟩:=fP.load jU;simp only[Value.slice.injEq] at iU;obtain⟨hv15,_,_⟩:=iU;cases hv15;rw[ao] at hb5;cases hb5;have aP:zDB B.prs j=decide (0<=zME B.prs[j-1] B.prs[j]):=by rw[hpb,xAA ie];simp[p1,p2,p3]
          have:=aK (decide (0<=zME B.prs[j-1] B.prs[j])) aP;simpa only[p3',zAO,decide_true,xAM,xAL,xAO,show (true==false)=false from rfl,show (false==true)=false from rfl,xAG,xAH,zA,zO,zAB,zM,zR,zw,zz,zJ,zL,zGj,xAK,dp,zrC p3 (by omega:j<=9223372036854775807),zkU ie,zZ zQj g4 hle5,hz5,da,zS,zlk ok4,zAZ] using this
         ·have p3':¬ (0:Int)<j:=by omega
          have:=aK false (by rw[hpb];simp[p1,p2,p3]);simpa only[p3',zAO,decide_false,xAM,xAL,xAO,show (true==false)=false from rfl,show (false==true)=false from rfl,xAG,xAH,zA,zO,zAB,zM,zR,zw,zz,zJ,zL] using this
     refine pairs B.prs.length 0 (by omega) l2 (Ext.refl o2.ext.ok) o2.wm ?_ ?_
     ·intro h;simp[zBg,aX,hlk,h]
     ·intro h;simp[zBg,aX,hlk,h]
 exact loop els.length 0 (by omega) _ (Own.qb k)
def mid3(s:Int)(h:AH):zQ E (zk [(20,iI s)]) (zn ziK [1,1,1,0,0,0,1,0,0] 3) h=some (.int .u64 (IntKind.u64.wrap s)):=by kernel_rfl
def mid4(s:Int):ze E (zk [(21,.int .u64 s)]) (zn ziK [1,1,1,0,0,0,1,0,0] 4)=some (.int .u64 (s.fdiv (2 ^ (1:Nat)))):=by kernel_rfl
def mid5(s:Int)(h:AH):zQ E (zk [(22,.int .u64 s)]) (zn ziK [1,1,1,0,0,0,1,0,0] 5) h=some (iI (IntKind.i64.wrap s)):=by kernel_rfl
def znt{a b n:Nat}(h1:a<=n)(h2:b<=n)(hn:n<=1000000):IntKind.i64.wrap ((IntKind.u64.wrap ((a:Int)+(b:Int))).fdiv (2 ^ (1:Nat)))=(((a+b) / 2:Nat):Int):=by
 have e1:IntKind.u64.wrap ((a:Int)+(b:Int))=(a:Int)+(b:Int):=by
  show ((a:Int)+(b:Int)) % (2 ^ 64:Int)=_;omega
 rw[e1,Int.fdiv_eq_ediv_of_nonneg _ (by decide)];have e2:((2:Int) ^ (1:Nat))=2:=rfl;rw[e2,← zFc,zDb (by unfold zC1;omega)];omega
abbrev CL:=Int×List GT
def zE3(ls:List CL)(c:CL)(q:Nat):Int:=match ls[q]? with
 | some x=>zCp x.1 x.2 c.1 c.2
 | none=>0
def zTs(ls:List CL)(c:CL):Nat->Nat->Nat->Nat
 | 0,i,_=>i
 | m+1,i,j=>if i<j then (if zE3 ls c ((i+j) / 2)<0 then zTs ls c m ((i+j) / 2+1) j else zTs ls c m i ((i+j) / 2)) else i
def bsI(ls:List CL)(c:CL):Nat:=zTs ls c ls.length 0 ls.length
def bsB(ls:List CL)(c:CL):Bool:=decide (bsI ls c<ls.length)&&decide (zE3 ls c (bsI ls c)=0)
def zlQ{h0 k:AH}{v:Value}{els:List (List Value)}{ls:List (Int×List GT)}{g:Int}{vt:Value}{lt:List GT}(ha:Arr k 2 v els)(hL:RLab h0 els ls)(hn:els.length<=1000000)(hr:RT h0 vt lt)(hk:Ext h0 k) :
  bsI ls (g,lt)<=els.length/\(zV E).call 190 [v,.agg #[iI g,vt],.func (.func 168) #[] #[]] k=some [(.tuple #[iI ((bsI ls (g,lt):Nat):Int),.bool (bsB ls (g,lt))],k)]:=by
 obtain⟨ad,c,hv⟩:=ha.slice;subst hv;have:∃ w,(bsI ls (g,lt)<=els.length/\w=.tuple #[iI ((bsI ls (g,lt):Nat):Int),.bool (bsB ls (g,lt))])/\(zV E).call 190 [.slice ad els.length c,.agg #[iI g,vt],.func (.func 168) #[] #[]] k=some [(w,k)]:=by
  refine zTR hk.ok (za2 ?_);simp only[zd,zL,zX,zA];refine za1 ?_;have o1:=(Own.qb k).new (rO [iI g,vt] 36);have t1:=zI k.qb (rO [iI g,vt] 36);simp only[za] at t1 ⊢;generalize k.qb.new (rO [iI g,vt] 36)=k1 at o1 t1;have e1:=hk.trans o1.ext;simp only[zA,zRK];refine za0 ?_;have ca:=zZ (P:=E) zE0 (o:=0) t1 (by simp);simp only[List.drop_zero,List.take] at ca;have jj:els.length=ls.length:=RLab.length hL;have fin:∀(i:Nat),i<=els.length->i=bsI ls (g,lt)->zWi true (KR E [.tmp 6,.tmp 7] (fun x l=>(zg x=true/\bsI ls (g,lt)<=els.length/\x=.tuple #[iI ((bsI ls (g,lt):Nat):Int),.bool (bsB ls (g,lt))])/\k.qa<=l.wm)) (.slice ad els.length c) (.func (.func 168) #[] #[]) (.pointer (some ⟨k.qa,0,none⟩)) (iI (els.length:Int)) (iI (i:Int)) k1:=by
   intro i hi hI;simp only[zWi,zA,zY];by_cases ab:i<els.length
   ·have aD:(i:Int)<els.length:=by omega
    obtain⟨b,o,c',vs,ty,es,ro,hv,hb,hlt2,bP,hz,aZ⟩:=ha.load (xAA ab);simp only[Value.slice.injEq] at hv;obtain⟨a9,_,fq⟩:=hv;subst a9;obtain⟨g',v',lt',bv,ba,aX⟩:=RLab.at hL i _ (xAA ab);rw[bv] at hz;have gb:k1.get b=some (.row vs ty es ro):=(o1.ext.get b hlt2).trans hb;simp only[aD,decide_true,zM,zR,xAO,xAG,zA,zON ab,zZ zE0 gb bP,hz,ca,zS,zOp ba hr e1,zO,zAd,zJ,zRU,zU,true_and];have hB:bsB ls (g,lt)=decide (zCp g' lt' g lt=0):=by
     unfold bsB zE3;rw[← hI,aX];have:i<ls.length:=by omega
     simp[this]
    refine⟨⟨rfl,by rw[← hI];exact hi,?_⟩,o1.wm⟩;rw[hB,← hI]
   ·have aD:¬ (i:Int)<els.length:=by omega
    simp only[aD,decide_false,zM,zR,zw,zz,show (false==true)=false from rfl,xAH,zA,zL,zJ,zRU,zU,true_and];have hB:bsB ls (g,lt)=false:=by
     unfold bsB;rw[← hI];have:¬ i<ls.length:=by omega
     simp[this]
    refine⟨⟨rfl,by rw[← hI];exact hi,?_⟩,o1.wm⟩;rw[hB,← hI]
  have loop:∀(m i j:Nat),i<=j->j<=els.length->j-i<=m->zTs ls (g,lt) m i j=bsI ls (g,lt)->zpn true (KR E [.tmp 6,.tmp 7] (fun x l=>(zg x=true/\bsI ls (g,lt)<=els.length/\x=.tuple #[iI ((bsI ls (g,lt):Nat):Int),.bool (bsB ls (g,lt))])/\k.qa<=l.wm)) (.slice ad els.length c) (.func (.func 168) #[] #[]) (.pointer (some ⟨k.qa,0,none⟩)) (iI (els.length:Int)) (iI (i:Int)) (iI (j:Int)) k1:=by
   intro m
   induction m with
   | zero=>
    intro i j bH hj hm fi;refine zM8 ?_;simp only[zA,zY,zAN];refine⟨fun h=>by omega,fun _=>zM7 ?_⟩;exact fin i (by omega) fi
   | succ m ih=>
    intro i j bH hj hm fi;refine zM8 ?_;simp only[zA,zY,zAN];refine⟨fun h=>zaz ?_,fun _=>zM7 ?_⟩
    ·have ab:i<j:=by omega
     rw[zAK _ (by unfold zC1;omega)];simp only[zA,mid3,mid4,mid5];rw[znt (n:=els.length) (by omega) hj hn];generalize hq:(i+j) / 2=q;have fC:i<=q:=by omega
     have dL:q<j:=by omega
     refine zay ?_;have hqn:q<els.length:=by omega
     obtain⟨b,o,c',vs,ty,es,ro,hv,hb,aD,bP,hz,aZ⟩:=ha.load (xAA hqn);simp only[Value.slice.injEq] at hv;obtain⟨a9,_,fq⟩:=hv;subst a9;obtain⟨g',v',lt',bv,ba,aX⟩:=RLab.at hL q _ (xAA hqn);rw[bv] at hz;have gb:k1.get b=some (.row vs ty es ro):=(o1.ext.get b aD).trans hb;simp only[zA,zON hqn,zZ zE0 gb bP,hz,ca,zS,zOp ba hr e1,zO,zY,zAN];have fi:(if zE3 ls (g,lt) q<0 then zTs ls (g,lt) m (q+1) j else zTs ls (g,lt) m i q)=bsI ls (g,lt):=by
      rw[← fi];simp only[zTs,ab,if_true,hq]
     have dD:zE3 ls (g,lt) q=zCp g' lt' g lt:=by unfold zE3;rw[aX]
     rw[dD] at fi;refine⟨fun hc=>zax ?_,fun hc=>zaw ?_⟩
     ·simp only[zA,zAK _ (zDu hqn (by omega))];have:=ih (q+1) j (by omega) hj (by omega) (by rw[if_pos hc] at fi;exact fi);simpa using this
     ·skip
      exact ih i q (by omega) (by omega) (by omega) (by rw[if_neg hc] at fi;exact fi)
    ·rename_i jg;have hnl':¬ i<j:=by omega
     exact fin i (by omega) (by simpa[zTs,hnl'] using fi)
  exact loop els.length 0 els.length (Nat.zero_le _) (xAF _) (by omega) (by rw[jj];rfl)
 obtain⟨w,⟨hi,rfl⟩,hc⟩:=this;exact⟨hi,hc⟩
abbrev LB:=Int×Value×List GT
def lc(x:LB):List Value:=[iI x.1,x.2.1]
def zCe(l:List LB):List Value:=l.flatMap lc
def zID:∀ l:List LB,(zCe l).length=l.length*2
 | []=>rfl
 | x::l=>by simp only[zCe,List.flatMap_cons,List.length_append,List.length_cons];have:=zID l;simp only[zCe] at this;rw[this];simp[lc];omega
def zJi:∀(l:List LB) (i:Nat),(zCe l).take (i*2)=zCe (l.take i)
 | [],i=>by simp[zCe]
 | x::l,0=>by simp[zCe]
 | x::l,i+1=>by
  have:=zJi l i;simp only[zCe,List.flatMap_cons,List.take_succ_cons] at this ⊢;rw[← this];rw[show (i+1)*2=i*2+2 by omega];rfl
def zGg:∀(l:List LB) (i:Nat),(zCe l).drop (i*2)=zCe (l.drop i)
 | [],i=>by simp[zCe]
 | x::l,0=>by simp[zCe]
 | x::l,i+1=>by
  have:=zGg l i;simp only[zCe,List.flatMap_cons,List.drop_succ_cons] at this ⊢;rw[← this];rw[show (i+1)*2=i*2+2 by omega];rfl
def zeu{l:List LB}{i:Nat}{x:LB}(h:l[i]?=some x):((zCe l).drop (i*2)).take 2=lc x:=by
 rw[zGg];have ab:=(List.getElem?_eq_some_iff.1 h).1;rw[List.drop_eq_getElem_cons ab];have:l[i]=x:=by rw[xAA ab] at h;exact Option.some.inj h
 rw[this];rfl
def zRX{h0:AH}{l:List LB}(h:∀ x∈l,RT h0 x.2.1 x.2.2):(zCe l).all zq=true:=by
 rw[List.all_eq_true];intro v hv;obtain⟨x,hx,hv⟩:=List.mem_flatMap.1 hv;simp only[lc,xAQ,List.not_mem_nil,or_false] at hv;rcases hv with rfl|rfl
 ·rfl
 ·exact zDz (h x hx)
def zJj{h0:AH}:∀ {l:List LB},(∀ x∈l,RT h0 x.2.1 x.2.2)->RLab h0 (l.map lc) (l.map fun x=>(x.1,x.2.2))
 | [],_=>.nil
 | x::l,h=>.cons (h x (by simp)) (zJj fun y hy=>h y (by simp[hy]))
def zVY(l:List LB)(i:Nat)(x:LB):zE1 (i*2) (zCe l)++lc x++zGW (i*2) (zCe l)=zCe (l.take i++x::l.drop i):=by
 rw[zAo,zAt,zJi,zGg];simp[zCe,List.flatMap_append,List.flatMap_cons]
def zu(v:Value)(c:Nat):Prop:=∃ n cap,v=.slice (some ⟨c,0,none⟩) n cap
def con(x:LB):CL:=(x.1,x.2.2)
structure NM(h0 k:AH)(bn:Nat)(v:Value)(n:List CL):Prop where
 row:k.get bn=some (rO [v] 197)
 lt:bn<k.qa
 lst:(v=.slice none 0 0/\n=[])\/∃ b l,v=.slice (some ⟨b,0,none⟩) n.length (UNK+2)/\k.get b=some (.row (zCe l) 36 2 false)/\b<k.qa/\b≠bn/\l.map con=n/\∀ x∈l,RT h0 x.2.1 x.2.2
structure NS(h0 k:AH)(bn:Nat)(v:Value)(n:List CL)(k':AH)(v':Value)(n':List CL):Prop where
 nm:NM h0 k' bn v' n'
 ok:k'.ok
 qa:k.qa<=k'.qa
 n:n'.length<=n.length+1
 get:∀ c,c<k.qa->c≠bn->¬ zu v c->k'.get c=k.get c
 blk:∀ c,zu v' c->zu v c\/k.qa<=c
 wm:∀ m,m<=k.wm->m<=bn->(∀ c,zu v c->m<=c)->m<=k.qa->m<=k'.wm
def NM.arr{h0 k:AH}{bn:Nat}{v:Value}{n:List CL}(h:NM h0 k bn v n):∃ l:List LB,l.map con=n/\Arr k 2 v (l.map lc)/\(∀ x∈l,RT h0 x.2.1 x.2.2):=by
 rcases h.lst with ⟨rfl,rfl⟩|⟨b,l,rfl,hb,ab,ah,hl,hr⟩
 ·exact⟨[],rfl,.nil _ _,by simp⟩
 ·refine⟨l,hl,?_,hr⟩;rw[← hl,List.length_map];have:=Arr.row (h:=k) (z:=2) (b:=b) (o:=0) (c:=UNK+2) (els:=l.map lc) hb ab (by simp[zID]) (fun i e he=>by
   simp only[List.getElem?_map] at he;cases hx:l[i]? with
   | none=>rw[hx] at he;cases he
   | some x=>
    rw[hx] at he;simp only[Option.map_some,xAN] at he;subst he;exact⟨rfl,by rw[xAK];exact zeu hx⟩)
  simpa using this
def zQB{P:Env}{f:FuncId}{fn:Func}{c:Code}{args:List Value}{h:AH}{outs:List (Value×AH)}(hf:P.tab.fn.get f=some fn)(hb:fn.body=some c)(hs:P.sum f args h=some outs):(zV P).call f args h=some outs:=by
 rw[zVx];unfold fnCall;rw[hf];simp only[hb,hs]
def bs22{g:Int}{v:Value}{h:AH}:zh E 22 1 (some [(0,.agg #[iI g,v])]) h=one (.slice (some ⟨h.qa,0,none⟩) 1 1,h.new (rO [iI g,v] 36)):=by kernel_rfl
def zOm{h:AH}{b c:Nat}{l:List LB}{i:Nat}{x:LB}{h0:AH}(hb:h.get b=some (.row (zCe l) 36 2 false))(hc:h.get c=some (rO (lc x) 36))(ah:b≠c)(hi:i<=l.length)(hn:l.length<=100000)(hl:∀ x∈l,RT h0 x.2.1 x.2.2)(hx:zq x.2.1=true) :
  (zV E).call 191 [.slice (some ⟨b,0,none⟩) l.length (UNK+2),iI (i:Int),.slice (some ⟨c,0,none⟩) 1 1] h=some [(.slice (some ⟨h.qa,0,none⟩) (l.length+1) (UNK+2),(h.upd b none).new (.row (zCe (l.take i++x::l.drop i)) 36 2 false))]:=by
 refine zQB zQf zNb ?_;show zVO [.slice (some ⟨b,0,none⟩) l.length (UNK+2),iI (.ofNat i),.slice (some ⟨c,0,none⟩) 1 1] h=_;unfold zVO;simp only[hb,hc];have h1:(Nat.beq (UNK+2) (UNK+2)&&Nat.ble i l.length&&Nat.beq (zBH (zCe l)) (l.length*2)&&Nat.beq (zBH (lc x)) 2&&!Nat.beq b c&&(zCe l).all zq&&(lc x).all zq&&Nat.ble l.length 100000)=true:=by
  rw[Nat.beq_refl,ble_true.2 hi,zAR,zID,Nat.beq_refl,zBn ah,zRX hl,ble_true.2 hn];simp[lc,zBH,zq];exact hx
 rw[h1];simp only[xAG,zVY]
def zr6{h:AH}{c:Nat}{us:List Value}(hc:h.get c=some (rO us 36))(hl:us.length=2):zAJ E .append [22,22] (some [.slice none 0 0,.slice (some ⟨c,0,none⟩) 1 1]) h=one (.slice (some ⟨h.qa,0,none⟩) 1 (UNK+2),h.new (.row us 36 2 false)):=by
 have bv:zEc E 22=some 36:=ziw;have cM:und E 22=some (.slice 36):=zLL
 match us,hl with
 | [x,y],_=>
  show v2 (zA8 E [22,22] (.slice none 0 0) (.slice (some ⟨c,0,none⟩) 1 1) h)=_;simp only[zA8,bv,cM,zFB,xAH];have cV:∃ i,zCs E 36=some i/\i.size=2/\zFh i=true:=by
   cases ht:zCs E 36 with
   | none=>have:=zE0;unfold tAS at this;rw[ht] at this;cases this
   | some i=>
    refine⟨i,rfl,?_,?_⟩
    ·have:=zE0;unfold tAS at this;rw[ht] at this;simp at this;exact this.2
    ·have:(match zCs E 36 with|some i=>zFh i|none=>false)=true:=by kernel_rfl
     rw[ht] at this;exact this
  obtain⟨ti,e1,e2,e3⟩:=cV;simp only[e1,zCG,zA9,hc,e2];simp[zE1,zGW,zBH,e3,zBb,zAx,v2,Nat.beq_refl];rfl
def zOn{h:AH}(aa:h.ok){c:Nat}{us:List Value}(hc:h.get c=some (rO us 36))(hl:us.length=2) :
  (zV E).call 191 [.slice none 0 0,iI 0,.slice (some ⟨c,0,none⟩) 1 1] h=some [(.slice (some ⟨h.qa,0,none⟩) 1 (UNK+2),h.new (.row us 36 2 false))]:=by
 have aF:E.sum 191 [.slice none 0 0,iI 0,.slice (some ⟨c,0,none⟩) 1 1] h=none:=by kernel_rfl
 have key:zpm true (KR E [.tmp 6] (fun x k=>x=.slice (some ⟨h.qa,0,none⟩) 1 (UNK+2)/\k=h.qb.new (.row us 36 2 false))) (.slice none 0 0) (iI 0) (.slice (some ⟨c,0,none⟩) 1 1) h.qb:=by
  refine zav ?_;refine zau ?_;have hcut:ze E (zk [(10,.slice none 0 0),(11,iI 0)]) (zn zjU [1,0] 2)=some (.slice none 0 0):=by kernel_rfl
  simp only[zA,hcut];refine zat ?_;simp only[zA,zRJ];refine zas ?_;simp only[zA,zAd];rw[zAN];refine⟨fun h=>by omega,fun _=>zar ?_⟩;simp only[zA,zRI];refine zaq ?_;simp only[zA,zAd,zAN];refine⟨fun _=>zap ?_,fun h=>absurd rfl h⟩;have aH:h.qb.get c=some (rO us 36):=hc;simp only[zA,zr6 aH hl,zL,zAS,zU,true_and,za]
 have:=ze6 (P:=E) (v0:=.slice (some ⟨h.qa,0,none⟩) 1 (UNK+2)) (h1:=h.qb.new (.row us 36 2 false)) zQf zNb aF (by kernel_rfl) ((zme (Rp:=fun x k=>x=.slice (some ⟨h.qa,0,none⟩) 1 (UNK+2)/\k=h.qb.new (.row us 36 2 false)) key).mono fun x hx=>Prod.ext hx.1 hx.2);rw[this];have hr:zBQ h.qb (.slice (some ⟨h.qa,0,none⟩) 1 (UNK+2),h.qb.new (.row us 36 2 false))=(.slice (some ⟨h.qa,0,none⟩) 1 (UNK+2),h.qb.new (.row us 36 2 false)):=by
  unfold zBQ;have:zg (.slice (some ⟨h.qa,0,none⟩) 1 (UNK+2))=false:=rfl;rw[this];simp
 rw[hr];have hb:=zOu aa;unfold AH.back at hb;show some [(_,(⟨(h.new (.row us 36 2 false)).t,h.qa+1,cond (Nat.ble h.wm (h.qa+UNK)) h.wm (h.qa+UNK)⟩:AH))]=_;have hw:cond (Nat.ble h.wm (h.qa+UNK)) h.wm (h.qa+UNK)=h.wm:=congrArg AH.wm hb;rw[hw];rfl
def st22{h:AH}{b:Nat}{v w:Value}(hb:h.get b=some (rO [v] 197))(hw:zj w=[w])(hl:zq w=true):zb E 22 h (sP b 0) (some w)=one (undef,h.upd b (some (rO [w] 197))):=by
 rw[zAC (P:=E) zrA hb hw rfl (by simp) (by simp[hl])];rfl
def zNh(cs:List CL)(c:CL):Int×List CL:=if c.1=-1 then (0,cs) else (((bsI cs c:Nat):Int)+1,if bsB cs c then cs else cs.take (bsI cs c)++c::cs.drop (bsI cs c))
def zWC{h0 k:AH}{bn:Nat}{n:List CL}{v:Value}{g:Int}{vt:Value}{lt:List GT}(hk:Ext h0 k)(cK:h0.qa<=bn)(be:∀ c,zu v c->h0.qa<=c)(hm:NM h0 k bn v n)(hn:n.length<=100000)(hr:RT h0 vt lt) :
  Ev true ((zV E).call 143 [.pointer (some ⟨bn,0,none⟩),.agg #[iI g,vt]] k) fun x=>∃ r v' n',x.1=iI r/\(r,n')=zNh n (g,lt)/\(if g=-1 then r=0 else 1<=r/\r<=n.length+1)/\NS h0 k bn v n x.2 v' n':=by
 have same:NS h0 k bn v n k v n:=⟨hm,hk.ok,xAF _,by omega,fun _ _ _ _=>rfl,fun c h=>.inl h,fun m h1 _ _ _=>h1⟩;obtain⟨l,hl,av,ba⟩:=hm.arr;have o1:=(Own.qb k).new (rO [iI g,vt] 36);have t1:=zI k.qb (rO [iI g,vt] 36);have n1:(k.qb.new (rO [iI g,vt] 36)).qa=k.qa+1:=rfl;have w1:(k.qb.new (rO [iI g,vt] 36)).wm=k.qa+UNK:=rfl;simp only[za] at t1;have hq:∃ k1,k1=k.qb.new (rO [iI g,vt] 36):=⟨_,rfl⟩;obtain⟨k1,eL⟩:=hq;rw[← eL] at o1 t1 n1 w1;have e1:=hk.trans o1.ext;have l0:=zF (P:=E) zAa (o:=0) t1;have ca:=zZ (P:=E) zE0 (o:=0) t1 (by simp);simp only[lnth,List.drop_zero,List.take] at l0 ca;have start:∀ {K:KF},zpx true K (.pointer (some ⟨bn,0,none⟩)) (.pointer (some ⟨k.qa,0,none⟩)) k1->zjT true K (.pointer (some ⟨bn,0,none⟩)) (.agg #[iI g,vt]) k.qb:=by
  intro K h;refine zcA ?_;simp only[zd,zL,zX,zA,za];rw[← eL];exact h
 by_cases hg:g=-1
 ·have:(zV E).call 143 [.pointer (some ⟨bn,0,none⟩),.agg #[iI g,vt]] k=some [(iI 0,k)]:=by
   refine zKJ hk.ok rfl (start (zNM ?_));simp only[zBw,Nat.add_zero,l0,zA,zAd,zAN];refine⟨fun _=>zb9 ?_,fun h=>absurd hg h⟩;simp[zA,zAS,zU,o1.wm]
  rw[this,zO];exact⟨0,v,n,rfl,by simp[zNh,hg],by rw[if_pos hg],same⟩
 ·have gn:k1.get bn=some (rO [v] 197):=(o1.ext.get bn hm.lt).trans hm.row;have ln:=zF (P:=E) zHc (o:=0) gn;simp only[lnth] at ln;have jX:=av.ext o1.ext;have jj:l.length=n.length:=by rw[← hl,List.length_map]
  obtain⟨hi,aI⟩:=zlQ (k:=k1) (g:=g) jX (zJj ba) (by simp;omega) hr e1;have hcon:(l.map fun x=>(x.1,x.2.2))=n:=hl;rw[hcon] at hi aI;rw[List.length_map,jj] at hi;have bY:zNh n (g,lt)=(((bsI n (g,lt):Nat):Int)+1,if bsB n (g,lt) then n else n.take (bsI n (g,lt))++(g,lt)::n.drop (bsI n (g,lt))):=by simp[zNh,hg]
  generalize bsI n (g,lt)=i at hi aI bY;generalize bsB n (g,lt)=b at aI bY;have front:∀ {K:KF},zpw true K (.pointer (some ⟨bn,0,none⟩)) (.pointer (some ⟨k.qa,0,none⟩)) (iI (i:Int)) (.bool b) k1->zjT true K (.pointer (some ⟨bn,0,none⟩)) (.agg #[iI g,vt]) k.qb:=by
   intro K h;refine start (zNM ?_);simp only[zBw,Nat.add_zero,l0,zA,zAd,zAN];refine⟨fun h=>absurd h hg,fun _=>zb8 ?_⟩;simp only[zA,zAj,zPv,Nat.add_zero,ln,ca,zS,aI,zO,zt,lnth];exact h
  have fin:∀ {K:KF} {k2:AH},K .ret [iI ((i:Int)+1)] k2->zpv true K (iI (i:Int)) k2:=by
   intro K k2 h;refine zb6 ?_;simp only[zA,zAK _ (show zC1 ((i:Int)+1) by unfold zC1;omega)];exact h
  cases b with
  | true=>
   have:(zV E).call 143 [.pointer (some ⟨bn,0,none⟩),.agg #[iI g,vt]] k=some [(iI ((i:Int)+1),k)]:=by
    refine zKJ hk.ok rfl (front (zNL ?_));simp only[zA,zAB,xAL,zi];refine fin ?_;simp[zAS,zU,o1.wm]
   rw[this,zO];exact⟨_,v,n,rfl,by rw[bY];rfl,by rw[if_neg hg];omega,same⟩
  | false=>
   have hxl:=zDz hr;have t2:=zI k1 (rO [iI g,vt] 36);have ins:∃ v' k3,(zV E).call 191 [v,iI (i:Int),.slice (some ⟨k1.qa,0,none⟩) 1 1] (k1.new (rO [iI g,vt] 36))=some [(v',k3)]/\zj v'=[v']/\zq v'=true ∧
     k3.get bn=some (rO [v] 197)/\NS h0 k bn v n (k3.upd bn (some (rO [v'] 197))) v' (n.take i++(g,lt)::n.drop i)/\k3.qa=k.qa+3:=by
    have df:=hm.lt;rcases hm.lst with ⟨rfl,rfl⟩|⟨bl,l',rfl,ax,ab,ah,ct,bG⟩
    ·have eQ:i=0:=by simpa using hi
     subst eQ;have:=zOn (h:=k1.new (rO [iI g,vt] 36)) (zBd o1.ext.ok _) t2 rfl;refine⟨_,_,this,rfl,rfl,?_,?_,by simp[n1]⟩
     ·rw[zK (by simp;omega),zK (by omega)];exact gn
     ·refine⟨⟨zN _ _ _,by simp;omega,.inr ⟨k1.qa+1,[(g,vt,lt)],rfl,?_,by simp,by omega,rfl,by simpa using hr⟩⟩,zB8 (zBd (zBd o1.ext.ok _) _) _ _,by simp;omega,by simp,?_,?_,?_⟩
      ·rw[zP (by omega)];exact zI (k1.new _) _
      ·intro c hc eb _;rw[zP eb,zK (by simp;omega),zK (by omega)];exact o1.ext.get c hc
      ·rintro c ⟨m,cap,aY⟩;simp only[Value.slice.injEq,xAN,Addr.mk.injEq] at aY;exact .inr (by have:=aY.1.1;simp at this;omega)
      ·intro m h1 h2 h3 h4;exact zAA (by simp only[zCl];omega) h2
    ·have hbl1:k1.get bl=some (.row (zCe l') 36 2 false):=(o1.ext.get bl ab).trans ax;have bz:(k1.new (rO [iI g,vt] 36)).get bl=some (.row (zCe l') 36 2 false):=by rw[zK (by omega)];exact hbl1
     have dy:l'.length=n.length:=by rw[← ct,List.length_map]
     have:=zOm (h0:=h0) (x:=(g,vt,lt)) (i:=i) bz t2 (by omega) (by omega) (by omega) bG hxl;have hins:(l'.take i++(g,vt,lt)::l'.drop i).map con=n.take i++(g,lt)::n.drop i:=by
      rw[← ct];simp[con,List.map_take,List.map_drop]
     have hln:(n.take i++(g,lt)::n.drop i).length=n.length+1:=by simp;omega
     rw[dy,← hln] at this;refine⟨_,_,this,rfl,rfl,?_,?_,by simp[n1]⟩
     ·rw[zK (by simp;omega),zP (fun h=>ah h.symm),zK (by omega)];exact gn
     ·refine⟨⟨zN _ _ _,by simp;omega,.inr ⟨k1.qa+1,l'.take i++(g,vt,lt)::l'.drop i,rfl,?_,by simp,by omega,hins,?_⟩⟩,zB8 (zBd (zB8 (zBd o1.ext.ok _) _ _) _) _ _,by simp;omega,by omega,?_,?_,?_⟩
      ·rw[zP (by omega)];exact zI ((k1.new _).upd _ _) _
      ·intro x hx;rcases List.mem_append.1 hx with hx|hx
       ·exact bG x (List.mem_of_mem_take hx)
       ·rcases List.mem_cons.1 hx with rfl|hx
        ·exact hr
        ·exact bG x (List.mem_of_mem_drop hx)
      ·intro c hc eb bI;have hcbl:c≠bl:=fun h=>bI ⟨_,_,by rw[h]⟩;rw[zP eb,zK (by simp;omega),zP hcbl,zK (by omega)];exact o1.ext.get c hc
      ·rintro c ⟨m,cap,aY⟩;simp only[Value.slice.injEq,xAN,Addr.mk.injEq] at aY;exact .inr (by have:=aY.1.1;simp at this;omega)
      ·intro m h1 h2 h3 h4;refine zAA ?_ h2;rw[zCl];exact zAA (by rw[zCl];omega) (h3 bl ⟨_,_,rfl⟩)
   obtain⟨v',k3,hc,bI,hlv,g3,hns,hn3⟩:=ins;refine zdt (Rp:=fun x k'=>∃ r v' n',x=iI r/\(r,n')=zNh n (g,lt)/\(if g=-1 then r=0 else 1<=r/\r<=n.length+1)/\NS h0 k bn v n k' v' n') (front (zNL ?_));simp only[zA,zAB,xAM,zy];refine zb7 ?_;have gn2:(k1.new (rO [iI g,vt] 36)).get bn=some (rO [v] 197):=by rw[zK (by have:=hm.lt;omega)];exact gn
   have ln2:=zF (P:=E) zHc (o:=0) gn2;simp only[lnth] at ln2;have hvv:veq 100 v v=true:=by
    rcases hm.lst with ⟨rfl,_⟩|⟨_,_,rfl,_⟩ <;> exact zB2 _ _ _ _
   simp only[zA,zAj,zPv,Nat.add_zero,ln,ca,bs22,zL,ln2,hvv,true_and,zS,hc,zO,st22 g3 bI hlv];refine fin ?_;simp only[zAS,zU,true_and];have hw:(k3.upd bn (some (rO [v'] 197))).wm<=bn:=(zCm _ _ _).2;refine⟨.inr (by have:=hm.lt;omega),(i:Int)+1,v',n.take i++(g,lt)::n.drop i,rfl,by rw[bY];rfl,by rw[if_neg hg];omega,?_⟩;obtain⟨a1,a2,a3,a4,a5,a6,a7⟩:=hns;refine⟨⟨a1.row,a1.lt,a1.lst⟩,?_,a3,a4,a5,a6,?_⟩
   ·show cond (Nat.ble k.wm _) k.wm _<=_+UNK;unfold AH.ok at a2;cases aY:Nat.ble k.wm (k3.upd bn (some (rO [v'] 197))).wm with
    | true=>rw[ble_true] at aY;simp only[xAG];omega
    | false=>exact a2
   ·intro m h1 h2 h3 h4;show m<=cond (Nat.ble k.wm _) k.wm _;cases aY:Nat.ble k.wm (k3.upd bn (some (rO [v'] 197))).wm with
    | true=>exact h1
    | false=>exact a7 m h1 h2 h3 h4
structure Fx(P:Nat->Prop)(k k':AH):Prop where
 ok:k'.ok
 qa:k.qa<=k'.qa
 get:∀ c,c<k.qa->¬ P c->k'.get c=k.get c
 wm:∀ m,m<=k.wm->(∀ c,P c->m<=c)->m<=k.qa->m<=k'.wm
def Fx.refl{P:Nat->Prop}{k:AH}(h:k.ok):Fx P k k:=⟨h,xAF _,fun _ _ _=>rfl,fun _ h _ _=>h⟩
def Fx.trans{P P':Nat->Prop}{k l m:AH}(e:Fx P k l)(f:Fx P' l m)(hP:∀ c,P' c->P c\/k.qa<=c):Fx P k m:=
 ⟨f.ok,Nat.le_trans e.qa f.qa,fun c hc hn=>(f.get c (xAC hc e.qa) fun h=>(hP c h).elim hn fun h=>by omega).trans (e.get c hc hn),
  fun n h1 h2 h3=>f.wm n (e.wm n h1 h2 h3) (fun c hc=>(hP c hc).elim (h2 c) fun h=>Nat.le_trans h3 h) (Nat.le_trans h3 e.qa)⟩
def Fx.new{P:Nat->Prop}{k l:AH}(e:Fx P k l)(o:AObj):Fx P k (l.new o):=
 ⟨zBd e.ok o,Nat.le_trans e.qa (by simp),fun c hc hn=>by
  have:=e.qa;rw[zK (by omega)];exact e.get c hc hn,fun n h1 h2 h3=>e.wm n h1 h2 h3⟩
def Fx.upd{P:Nat->Prop}{k l:AH}(e:Fx P k l){b:Nat}(hb:P b\/k.qa<=b)(o:Option AObj):Fx P k (l.upd b o):=
 ⟨zB8 e.ok b o,e.qa,fun c hc hn=>by
  rw[zP (fun h=>by subst h;exact hb.elim hn fun h=>by omega)];exact e.get c hc hn,
  fun n h1 h2 h3=>zAA (e.wm n h1 h2 h3) (hb.elim (h2 b) fun h=>Nat.le_trans h3 h)⟩
def Fx.mono{P P':Nat->Prop}{k l:AH}(e:Fx P k l)(h:∀ c,P c->P' c\/k.qa<=c):Fx P' k l:=
 ⟨e.ok,e.qa,fun c hc hn=>e.get c hc fun hp=>(h c hp).elim hn fun h=>by omega,fun n h1 h2 h3=>e.wm n h1 (fun c hc=>(h c hc).elim (h2 c) fun h=>Nat.le_trans h3 h) h3⟩
def Fx.ext{P:Nat->Prop}{h k l:AH}(e:Ext h k)(f:Fx P k l)(hP:∀ c,P c->h.qa<=c):Ext h l:=
 ⟨f.ok,Nat.le_trans e.qa f.qa,fun c hc=>(f.get c (xAC hc e.qa) fun hp=>by have:=hP c hp;omega).trans (e.get c hc)⟩
def Fx.own{P:Nat->Prop}{h k l:AH}(e:Own h k)(f:Fx P k l)(hP:∀ c,P c->h.qa<=c):Own h l:=
 ⟨f.ext e.ext hP,f.wm _ e.wm hP e.ext.qa⟩
def NS.fx{h0 k k':AH}{bn:Nat}{n n':List CL}{v v':Value}(s:NS h0 k bn v n k' v' n'):Fx (fun c=>c=bn\/zu v c) k k':=
 ⟨s.ok,s.qa,fun c hc hn=>s.get c hc (fun h=>hn (.inl h)) fun h=>hn (.inr h),fun m h1 h2 h3=>s.wm m h1 (h2 bn (.inl rfl)) (fun c hc=>h2 c (.inr hc)) h3⟩
def zK3{h0 k:AH}{bn:Nat}{n:List CL}{v:Value}(h:NM h0 k bn v n){c:Nat}(hc:zu v c):c<k.qa:=by
 obtain⟨m,cap,rfl⟩:=hc;rcases h.lst with ⟨h,_⟩|⟨b,l,h,_,ab,_⟩
 ·cases h
 ·simp only[Value.slice.injEq,xAN,Addr.mk.injEq] at h;rw[h.1.1];exact ab
def NM.fx{P:Nat->Prop}{h0 k k':AH}{bn:Nat}{n:List CL}{v:Value}(h:NM h0 k bn v n)(f:Fx P k k')(h1:¬ P bn)(h2:∀ c,zu v c->¬ P c):NM h0 k' bn v n:=by
 refine⟨(f.get bn h.lt h1).trans h.row,xAC h.lt f.qa,?_⟩;rcases h.lst with ⟨a,b⟩|⟨b,l,a1,a2,a3,a4,a5,a6⟩
 ·exact .inl ⟨a,b⟩
 ·refine .inr ⟨b,l,a1,(f.get b a3 (h2 b ⟨_,_,a1⟩)).trans a2,xAC a3 f.qa,a4,a5,a6⟩
abbrev NoB:Nat->Prop:=fun _=>False
def zlp{k:AH}{g:Int}{v:Value}(hl:zq v=true) :
  zb E 36 (k.new (rO [iI 0,.slice none 0 0] 36)) (sP k.qa 0) (some (.agg ⟨[iI g,v]⟩))=one (undef,(k.new (rO [iI 0,.slice none 0 0] 36)).upd k.qa (some (rO [iI g,v] 36))):=by
 rw[zAC (P:=E) zjg (x:=.agg ⟨[iI g,v]⟩) (cs:=[iI g,v]) (zI k _) rfl rfl (by simp) (by simp[zq];exact hl)];rfl
def zlr{k:AH}{e:List Value}(hl:e.all zq=true)(h3:e.length=3) :
  zb E 25 (k.new (rO [iI 0,.slice none 0 0,.slice none 0 0] 25)) (sP k.qa 0) (some (.agg ⟨e⟩))=one (undef,(k.new (rO [iI 0,.slice none 0 0,.slice none 0 0] 25)).upd k.qa (some (rO e 25))):=by
 rw[zAC (P:=E) znD (x:=.agg ⟨e⟩) (cs:=e) (zI k _) rfl h3 (by simp) hl,znh _ h3]
structure Args(k:AH)(v:Value)(els:List (List Value))(Ls:List GL):Prop where
 arr:Arr k 3 v els
 len:els.length=Ls.length
 few:els.length<=10
 rl:∀(i:Nat) (e:List Value) (L:GL),els[i]?=some e->Ls[i]?=some L->RL k (.agg ⟨e⟩) L
 ok:∀(i:Nat) (L:GL),Ls[i]?=some L->zx L=false
def Args.at{k:AH}{v:Value}{els:List (List Value)}{Ls:List GL}(a:Args k v els Ls){i:Nat}(hi:i<els.length) :
  ∃ L b o c vs ty es ro vl ve elsL,Ls[i]?=some L/\v=.slice (some ⟨b,o,none⟩) els.length c/\k.get b=some (.row vs ty es ro)/\b<k.qa/\o+i*3+3<=vs.length/\(vs.drop (o+i*3)).take 3=[iI L.n,vl,ve] ∧
   zq vl=true/\zq ve=true/\Arr k 2 vl elsL/\RLab k elsL L.labs/\Arr k 3 ve (L.eds.map zm)/\zx L=false:=by
 have cu:i<Ls.length:=by rw[← a.len];exact hi
 obtain⟨b,o,c,vs,ty,es,ro,hv,hb,ab,bc,hz,aZ⟩:=a.arr.load (xAA hi);have iz:=a.rl i _ _ (xAA hi) (xAA cu);obtain⟨vl,ve,elsL,q1,q2,q3,q4⟩:=iz.ex;have he:els[i]=[iI Ls[i].n,vl,ve]:=by
  simp only[Value.agg.injEq] at q1;have:=congrArg Array.toList q1;simpa using this
 obtain⟨x1,x2,hx⟩:=q2.slice;obtain⟨y1,y2,hy⟩:=q4.slice;exact⟨Ls[i],b,o,c,vs,ty,es,ro,vl,ve,elsL,xAA cu,hv,hb,ab,bc,by rw[hz,he],by rw[hx];rfl,by rw[hy];rfl,q2,q3,q4,a.ok i _ (xAA cu)⟩
def zAV{L:GL}(h:zx L=false):1<=L.n/\L.n<=20000/\L.labs.length<=4000/\L.eds.length<=100000:=by
 simp only[zx,zBN,Bool.or_eq_false_iff,decide_eq_false_iff_not] at h;omega
def zGD{L:GL}(h:zx L=false){i:Nat}{e:Int×Int×Int}(he:L.eds[i]?=some e):(0<=e.1/\e.1<L.n)/\(0<=e.2.2/\e.2.2<L.n)/\(0<=e.2.1/\e.2.1<L.labs.length):=by
 simp only[zx,Bool.or_eq_false_iff] at h;have ab:=(List.getElem?_eq_some_iff.1 he).1;have:=zCv h.2 i (Nat.zero_le _) (by omega);simp only[zBh,he,Bool.or_eq_false_iff,Bool.not_eq_false',xAP,decide_eq_true_eq] at this;exact⟨this.1.1.1,this.1.1.2,this.1.2⟩
def zBy(cs:List CL):List CL->List Int×List CL
 | []=>([],cs)
 | c::l=>((zNh cs c).1::(zBy (zNh cs c).2 l).1,(zBy (zNh cs c).2 l).2)
def zHu:List GL->List CL->List CL
 | [],cs=>cs
 | L::Ls,cs=>zHu Ls (zBy cs L.labs).2
def zIL{α:Type}{l:List α}{i:Nat}{x:α}(h:l[i]?=some x):l.drop i=x::l.drop (i+1):=by
 obtain⟨ab,e⟩:=List.getElem?_eq_some_iff.1 h;rw[List.drop_eq_getElem_cons ab,e]
def zkb{k:AH}{v0:Value}{els:List (List Value)}{Ls:List GL}(a:Args k v0 els Ls){bn:Nat}(gH:k.qa<=bn){K:KF}{ad:Option Addr}{cp:Nat}(fu:v0=.slice ad els.length cp){fin:List CL}
  (hK:∀ kk v n,Own k kk->NM k kk bn v n->(∀ c,zu v c->k.qa<=c)->n.length<=4000*els.length->n=fin->zoz true K v0 (.pointer (some ⟨bn,0,none⟩)) kk) :
  ∀(m i:Nat),i+m=els.length->∀ kk v n,Own k kk->NM k kk bn v n->(∀ c,zu v c->k.qa<=c)->n.length<=4000*i->zHu (Ls.drop i) n=fin->
   zsA true K v0 (.pointer (some ⟨bn,0,none⟩)) v0 (iI (els.length:Int)) (iI (i:Int)) kk:=by
 intro m
 induction m with
 | zero=>
  intro i hi kk v n ho hm hb hn bU;refine zQM ?_;simp only[zY,zA,zAN];have:i=els.length:=by omega
  subst this;exact⟨fun h=>by omega,fun _=>hK kk v n ho hm hb hn (by rw[List.drop_eq_nil_of_le (by have:=a.len;omega)] at bU;exact bU)⟩
 | succ m ih=>
  intro i hi kk v n ho hm hb hn bU;have ai:i<els.length:=by omega
  refine zQM ?_;simp only[zY,zA,zAN];refine⟨fun _=>zff ?_,fun h=>by omega⟩;obtain⟨L,b,o,c,vs,ty,es,ro,vl,ve,elsL,q0,q1,q2,q3,q4,q5,q6,q7,q8,q9,q10,q11⟩:=a.at ai;have gb:kk.get b=some (.row vs ty es ro):=(ho.ext.get b q3).trans q2;rw[fu] at q1;simp only[Value.slice.injEq] at q1;obtain⟨q11',_,_⟩:=q1;subst q11';have bK:=zlr (k:=kk) (e:=[iI L.n,vl,ve]) (by simp[zq];exact⟨q6,q7⟩) rfl;simp only[fu,zes ai,zA,zZ zDh gb q4,q5,zql,zd,zL,zX,bK];refine zfe ?_;have df:=ho.ext.qa;have f1:Fx NoB kk ((kk.new (rO [iI 0,.slice none 0 0,.slice none 0 0] 25)).upd kk.qa (some (rO [iI L.n,vl,ve] 25))):=((Fx.refl ho.ext.ok).new _).upd (.inr (xAF _)) _;have t1:((kk.new (rO [iI 0,.slice none 0 0,.slice none 0 0] 25)).upd kk.qa (some (rO [iI L.n,vl,ve] 25))).get kk.qa=some (rO [iI L.n,vl,ve] 25):=zN _ _ _;generalize ((kk.new (rO [iI 0,.slice none 0 0,.slice none 0 0] 25)).upd kk.qa (some (rO [iI L.n,vl,ve] 25)))=k1 at f1 t1;have l1:=zF (P:=E) zHc (o:=1) t1;simp only[lnth] at l1;obtain⟨al,cl,aT⟩:=q8.slice;rw[RLab.length q9] at aT;subst aT;simp only[zBf,xAK,l1,zA,zUz];obtain⟨s1,s2,s3,s4⟩:=zAV q11;have inner:∀(m2 j:Nat),j+m2=L.labs.length->∀ kk v n,Own k kk->NM k kk bn v n->(∀ c,zu v c->k.qa<=c)->n.length<=4000*i+j->zHu (Ls.drop (i+1)) (zBy n (L.labs.drop j)).2=fin->
    zr9 true K (.slice (some ⟨b,o,none⟩) els.length cp) (.pointer (some ⟨bn,0,none⟩)) (.slice (some ⟨b,o,none⟩) els.length cp) (iI (els.length:Int)) (iI (i:Int)) (.slice al L.labs.length cl) (iI (L.labs.length:Int)) (iI (j:Int)) kk:=by
   intro m2
   induction m2 with
   | zero=>
    intro j hj kk v n ho hm hb hn hfin2;refine zQL ?_;simp only[zY,zA,zAN];refine⟨fun h=>by omega,fun _=>zW4 ?_⟩;simp only[zAK _ (zDu ai (by have:=a.few;omega)),zA];have:=ih (i+1) (by omega) kk v n ho hm hb (by omega) (by rw[List.drop_eq_nil_of_le (show L.labs.length<=j by omega)] at hfin2;exact hfin2);rw[fu] at this;simpa using this
   | succ m2 ih2=>
    intro j hj kk v n ho hm hb hn hfin2;have bM:j<L.labs.length:=by omega
    have dg:j<elsL.length:=by rw[RLab.length q9];exact bM
    refine zQL ?_;simp only[zY,zA,zAN];refine⟨fun _=>zfd ?_,fun h=>by omega⟩;obtain⟨g,vt,lt,bv,ba,aX⟩:=RLab.at q9 j _ (xAA dg);obtain⟨b',o',c',vs',ty',es',ro',ay,ao,aD,bt,bB,bE⟩:=q8.load (xAA dg);rw[bv] at bB;simp only[Value.slice.injEq] at ay;obtain⟨a9,_,_⟩:=ay;subst a9;have gb':kk.get b'=some (.row vs' ty' es' ro'):=(ho.ext.get b' aD).trans ao;simp only[zON bM,zA,zZ zE0 gb' bt,bB,zqj,zd,zL,zX];have hbx:=zlp (k:=kk) (g:=g) (zDz ba);simp only[hbx,zL];refine zfc ?_;have df:=ho.ext.qa;have f2:Fx NoB kk ((kk.new (rO [iI 0,.slice none 0 0] 36)).upd kk.qa (some (rO [iI g,vt] 36))):=((Fx.refl ho.ext.ok).new _).upd (.inr (xAF _)) _;have t2:((kk.new (rO [iI 0,.slice none 0 0] 36)).upd kk.qa (some (rO [iI g,vt] 36))).get kk.qa=some (rO [iI g,vt] 36):=zN _ _ _;generalize ((kk.new (rO [iI 0,.slice none 0 0] 36)).upd kk.qa (some (rO [iI g,vt] 36)))=k2 at f2 t2;have ca:=zZ (P:=E) zE0 (o:=0) t2 (by simp);simp only[List.drop_zero,List.take] at ca;have o2:=f2.own ho (fun _ h=>h.elim);have ji:=hm.fx f2 (fun h=>h) (fun _ _ h=>h);simp only[ca,zA,zS];refine (zWC (h0:=k) (k:=k2) (g:=g) o2.ext gH hb ji (by have:=a.few;omega) ba).mono fun x hx=>?_;obtain⟨r,v',n',_,bY,_,hs⟩:=hx;refine zfb ?_;simp only[zAK _ (zDu bM (by omega)),zA];have:=ih2 (j+1) (by omega) x.2 v' n' (hs.fx.own o2 (fun c hc=>hc.elim (fun h=>by rw[h];exact gH) (hb c))) hs.nm (fun c hc=>(hs.blk c hc).elim (hb c) fun h=>by have:=o2.ext.qa;omega) (by have:=hs.n;omega) (by rw[zIL aX] at hfin2;have h2:=congrArg Prod.snd bY;simp only at h2;rw[h2];exact hfin2);simpa using this
  exact inner L.labs.length 0 (by omega) k1 v n (f1.own ho (fun _ h=>h.elim)) (hm.fx f1 (fun h=>h) (fun _ _ h=>h)) hb (by omega) (by rw[zIL q0] at bU;exact bU)
structure Elt(t e:TypeId)(z:Nat):Prop where
 el:zEc E t=some e
 un:und E t=some (.slice e)
 ti:∃ i,zCs E e=some i/\i.size=z/\zFh i=true
def zJq{t e:TypeId}{z:Nat}{b:Bool}(h1:zEc E t=some e)(h2:und E t=some (.slice e))(h3:tAS E e=some (b,z))(h4:(match zCs E e with|some i=>zFh i|none=>false)=true):Elt t e z:=by
 refine⟨h1,h2,?_⟩;cases ht:zCs E e with
 | none=>unfold tAS at h3;rw[ht] at h3;cases h3
 | some i=>
  refine⟨i,rfl,?_,?_⟩
  ·unfold tAS at h3;rw[ht] at h3;simp at h3;exact h3.2
  ·rw[ht] at h4;exact h4
def elt132:Elt 132 134 2:=zJq zkm zHb zEM (by kernel_rfl)
def ziy:Elt 126 128 1:=zJq zko zT6 zCJ (by kernel_rfl)
def append_nil{t e z:Nat}(H:Elt t e z){h:AH}{c:Nat}{us:List Value}{ty es:Nat}{ro:Bool}(hc:h.get c=some (.row us ty es ro))(hl:us.length=z) :
  zAJ E .append [t,t] (some [.slice none 0 0,.slice (some ⟨c,0,none⟩) 1 1]) h=one (.slice (some ⟨h.qa,0,none⟩) 1 (UNK+z),h.new (.row us e z false)):=by
 obtain⟨ti,e1,e2,e3⟩:=H.ti;show v2 (zA8 E [t,t] (.slice none 0 0) (.slice (some ⟨c,0,none⟩) 1 1) h)=_;simp only[zA8,H.el,H.un,zFB,xAH,e1,zCG,zA9,hc,e2,Nat.one_mul,zAo,zAt,zAR,List.drop_zero];rw[xAD (by omega),hl,Nat.beq_refl];simp only[if_true,e3,xAG,zBb,show Nat.beq 1 0=false from rfl,xAH,zAx,v2];rfl
def zC4{t e z:Nat}(H:Elt t e z)(hz:0<z){h:AH}{b c n:Nat}{vs us:List Value}{ty es:Nat}{ro:Bool}(hb:h.get b=some (.row vs e z false))(bV:vs.length=n*z)(hn:n+1<=1000000)
  (hc:h.get c=some (.row us ty es ro)) (hl:us.length=z) (hlf:us.all zq=true) :
  zAJ E .append [t,t] (some [.slice (some ⟨b,0,none⟩) n (UNK+z),.slice (some ⟨c,0,none⟩) 1 1]) h=one (.slice (some ⟨h.qa,0,none⟩) (n+1) (UNK+z),(h.upd b none).new (.row (vs++us) e z false)):=by
 obtain⟨ti,e1,e2,e3⟩:=H.ti;show v2 (zA8 E [t,t] (.slice (some ⟨b,0,none⟩) n (UNK+z)) (.slice (some ⟨c,0,none⟩) 1 1) h)=_;simp only[zA8,H.el,H.un,zFB,xAH,e1,zCG,zA9,hc,e2,Nat.one_mul,zAo,zAt,zAR,List.drop_zero];rw[xAD (by omega),hl,Nat.beq_refl];simp only[if_true,e3,xAG,zBb,show Nat.beq 1 0=false from rfl,xAH,hb];have h1:Nat.ble UNK (UNK+z)=true:=ble_true.2 (by omega);simp only[zCf,h1,Nat.beq_refl,Bool.and_self,xAM,xAG,zDr,xAK,zAR];have h2:Nat.ble ((n+1)*z) vs.length=false:=ble_false.2 (by rw[bV,Nat.add_mul];omega);have h3:Nat.beq (n*z) vs.length=true:=by rw[bV];exact Nat.beq_refl _
 simp only[h2,xAH,h3,xAG,zDs,hlf,zAo,zAt,List.drop_zero];rw[xAD (by omega)];simp only[zAx,ble_true.2 hn,xAG,v2];rfl
def zPY(l:List Value)(j:Nat)(v:Value)(h:j<l.length):lput l j [v]=l.set j v:=by
 induction l generalizing j with
 | nil=>simp at h
 | cons a l ih=>
  cases j with
  | zero=>simp[lput]
  | succ j=>simp only[lput,List.set_cons_succ];rw[ih j (by simpa using h)]
def zkB(labs:List (Int×List GT))(nums:List Int)(j:Nat):Prop:=∀ g l,labs[j]?=some (g,l)->∃ r,nums[j]?=some r/\0<=r/\(g=-1->r=0)/\(g≠-1->1<=r)
abbrev ints(l:List Int):List Value:=l.map (Value.int .i64)
def zeo(l:List Int)(j:Nat)(r:Int):(ints l).set j (iI r)=ints (l.set j r):=by
 simp[ints,List.map_set]
def take_set{α:Type}:∀ {l:List α} {j:Nat} {r:α},j<l.length->(l.set j r).take (j+1)=l.take j++[r]
 | [],_,_,h=>by simp at h
 | a::l,0,r,_=>by simp
 | a::l,j+1,r,h=>by
  simp only[List.set_cons_succ,List.take_succ_cons,List.cons_append];rw[take_set (by simpa using h)]
def zka{k:AH}{bn:Nat}(gH:k.qa<=bn){K:KF}{vl:Value}{labs:List (Int×List GT)}{elsL:List (List Value)}{al:Option Addr}{cl:Nat}(aT:vl=.slice al labs.length cl)(ha:Arr k 2 vl elsL)(hL:RLab k elsL labs)
  (hsmall:labs.length<=4000) {v8 v10 v11 v34 v35 v36:Value} {bm base:Nat} (aS:k.qa<=bm) (hbase:base<=90000)
  {k0:AH} {w0:Value} (hk0:k.qa<=k0.qa) {N1:List Int} {cs1:List CL}
  (hK:∀ kk v n nums,Own k kk->NM k kk bn v n->(∀ c,zu v c->k.qa<=c)->n.length<=base+labs.length->n=cs1->nums=N1->Fx (fun c=>(c=bn\/zu w0 c)\/c=bm) k0 kk->(∀ c,zu v c->zu w0 c\/k0.qa<=c)->bm≠bn->¬ zu v bm->
   kk.get bm=some (rO (ints nums) 3)->nums.length=labs.length->(∀ j,j<labs.length->zkB labs nums j)->zow true K (.pointer (some ⟨bn,0,none⟩)) v8 v10 v11 (.slice (some ⟨bm,0,none⟩) labs.length labs.length) v34 v35 v36 kk) :
  ∀(m j:Nat),j+m=labs.length->∀ kk v n nums,Own k kk->NM k kk bn v n->(∀ c,zu v c->k.qa<=c)->n.length<=base+j->(zBy n (labs.drop j)).2=cs1->nums.take j++(zBy n (labs.drop j)).1=N1->Fx (fun c=>(c=bn\/zu w0 c)\/c=bm) k0 kk->(∀ c,zu v c->zu w0 c\/k0.qa<=c)->bm≠bn->¬ zu v bm->bm<kk.qa->
   kk.get bm=some (rO (ints nums) 3)->nums.length=labs.length->(∀ i,i<j->zkB labs nums i)->
   zox true K (.pointer (some ⟨bn,0,none⟩)) v8 v10 v11 (.slice (some ⟨bm,0,none⟩) labs.length labs.length) v34 v35 v36 vl (iI (labs.length:Int)) (iI (j:Int)) kk:=by
 intro m
 induction m with
 | zero=>
  intro j hj kk v n nums ho hm hb hn aM hN1 hf ax ah bR ab az hlen aa;refine zMS ?_;simp only[zY,zA,zAN];have:j=labs.length:=by omega
  subst this;exact⟨fun h=>by omega,fun _=>hK kk v n nums ho hm hb hn (by rw[List.drop_length] at aM;exact aM) (by rw[List.drop_length,xAD (by omega)] at hN1;simpa[zBy] using hN1) hf ax ah bR az hlen aa⟩
 | succ m ih=>
  intro j hj kk v n nums ho hm hb hn aM hN1 hf ax ah bR ab az hlen aa;have bM:j<labs.length:=by omega
  have dg:j<elsL.length:=by rw[RLab.length hL];exact bM
  refine zMS ?_;simp only[zY,zA,zAN];refine⟨fun _=>zWx ?_,fun h=>by omega⟩;obtain⟨g,vt,lt,bv,ba,aX⟩:=RLab.at hL j _ (xAA dg);obtain⟨b',o',c',vs',ty',es',ro',ay,ao,aD,bt,bB,bE⟩:=ha.load (xAA dg);rw[bv] at bB;rw[aT] at ay;simp only[Value.slice.injEq] at ay;obtain⟨a9,_,_⟩:=ay;subst a9;have gb':kk.get b'=some (.row vs' ty' es' ro'):=(ho.ext.get b' aD).trans ao;have hbx:=zlp (k:=kk) (g:=g) (zDz ba);simp only[aT,zON bM,zA,zZ zE0 gb' bt,bB,zqj,zd,zL,zX,hbx];refine zWw ?_;have df:=ho.ext.qa;have f2:Fx NoB kk ((kk.new (rO [iI 0,.slice none 0 0] 36)).upd kk.qa (some (rO [iI g,vt] 36))):=((Fx.refl ho.ext.ok).new _).upd (.inr (xAF _)) _;have t2:((kk.new (rO [iI 0,.slice none 0 0] 36)).upd kk.qa (some (rO [iI g,vt] 36))).get kk.qa=some (rO [iI g,vt] 36):=zN _ _ _;generalize ((kk.new (rO [iI 0,.slice none 0 0] 36)).upd kk.qa (some (rO [iI g,vt] 36)))=k2 at f2 t2;have ca:=zZ (P:=E) zE0 (o:=0) t2 (by simp);simp only[List.drop_zero,List.take] at ca;have o2:=f2.own ho (fun _ h=>h.elim);have ji:=hm.fx f2 (fun h=>h) (fun _ _ h=>h);simp only[zA,ca,zS];refine (zWC (h0:=k) (k:=k2) (g:=g) o2.ext gH hb ji (by omega) ba).mono fun x hx=>?_;obtain⟨r,v',n',hx1,bY,hr,hs⟩:=hx;have hnu1:(zNh n (g,lt)).1=r:=(congrArg Prod.fst bY).symm;have hnu2:(zNh n (g,lt)).2=n':=(congrArg Prod.snd bY).symm;rw[zIL aX] at aM hN1;simp only[zBy,hnu1,hnu2] at aM hN1;rw[hx1];have o3:=hs.fx.own o2 (fun c hc=>hc.elim (fun h=>by rw[h];exact gH) (hb c));have jd:x.2.get bm=some (rO (ints nums) 3):=by
   rw[hs.get bm (xAC ab f2.qa) ah bR,f2.get bm ab (fun h=>h)];exact az
  have hlt3:bm<x.2.qa:=xAC (xAC ab f2.qa) hs.qa;have jm:j<nums.length:=by omega
  have ez:=zAC (P:=E) zT7 (o:=0+j*1) jd (zDK .i64 r) rfl (by simp[ints];omega) rfl;rw[show 0+j*1=j by omega,zPY _ _ _ (by simp[ints];omega),zeo] at ez;have hia:=zVQ (b:=bm) (o:=0) (c:=labs.length) bM;rw[show 0+j*1=j by omega] at hia;simp only[hia,zA,ez,zL];refine zWv ?_;have fF:¬ zu v' bm:=fun h=>(hs.blk bm h).elim bR fun h=>by have:=f2.qa;omega
  have f4:Fx (fun c=>c=bm) x.2 (x.2.upd bm (some (.row (ints (nums.set j r)) 3 0 false))):=Fx.upd (P:=fun c=>c=bm) (Fx.refl hs.ok) (.inl rfl) _;have hm4:=hs.nm.fx f4 (fun h=>ah h.symm) (fun c hc h=>fF (h ▸ hc));simp only[zAK _ (zDu bM (by omega)),zA];have hbl':∀ c,zu v' c->zu w0 c\/k0.qa<=c:=fun c hc=>(hs.blk c hc).elim (ax c) fun h=>.inr (by have:=f2.qa;have:=hf.qa;omega);have hff:Fx (fun c=>(c=bn\/zu w0 c)\/c=bm) k0 (x.2.upd bm (some (.row (ints (nums.set j r)) 3 0 false))):=by
   have e1:=hf.trans f2 (fun _ h=>h.elim);have e2:=e1.trans hs.fx (fun c hc=>hc.elim (fun h=>.inl (.inl (.inl h))) fun h=>(ax c h).elim (fun h=>.inl (.inl (.inr h))) .inr);exact e2.trans f4 (fun c h=>.inl (.inr h))
  have:=ih (j+1) (by omega) _ v' n' (nums.set j r) (f4.own o3 (fun c h=>by rw[h];exact aS)) hm4
   (fun c hc=>(hs.blk c hc).elim (hb c) fun h=>by have:=o2.ext.qa;omega) (by have:=hs.n;omega) aM (by rw[take_set jm,List.append_assoc];exact hN1) hff hbl' ah fF (by simpa using hlt3) (zN _ _ _) (by simp[hlen]) (fun i hi g' l' cD=>by
    by_cases bH:i=j
    ·subst bH;rw[aX] at cD;simp only[xAN,Prod.mk.injEq] at cD;obtain⟨rfl,rfl⟩:=cD;refine⟨r,by simp[jm],?_⟩;by_cases hg:g=-1
     ·rw[if_pos hg] at hr;exact⟨by omega,fun _=>hr,fun h=>absurd hg h⟩
     ·rw[if_neg hg] at hr;exact⟨by omega,fun h=>absurd h hg,fun _=>hr.1⟩
    ·obtain⟨r',a1,a2⟩:=aa i (by omega) g' l' cD;exact⟨r',by rw[List.getElem?_set_ne (by omega)];exact a1,a2⟩)
  rw[aT] at this;simpa using this
abbrev zf:=List (Int×Int)
def stc(S:zf):List Value:=S.flatMap zG
def zHj:∀ S:zf,(stc S).length=S.length*2
 | []=>rfl
 | x::l=>by simp only[stc,List.flatMap_cons,List.length_append,List.length_cons];have:=zHj l;simp only[stc] at this;rw[this];simp[zG];omega
def CellOK(h:AH)(c:Value)(S:zf):Prop:=(c=.slice none 0 0/\S=[])\/∃ b,c=.slice (some ⟨b,0,none⟩) S.length (UNK+2)/\h.get b=some (.row (stc S) 134 2 false)/\b<h.qa
structure GG(loc:Nat)(h:AH)(bg bs:Nat)(cells:List Value)(SS:List zf):Prop where
 g:h.get bg=some (rO [.slice (some ⟨bs,0,none⟩) cells.length cells.length] 131)
 s:h.get bs=some (rO cells 132)
 len:cells.length=SS.length
 ne:bg≠bs
 ltg:bg<h.qa
 lts:bs<h.qa
 locg:loc<=bg
 locs:loc<=bs
 cell:∀(i:Nat) (c:Value) (S:zf),cells[i]?=some c->SS[i]?=some S->CellOK h c S
 blk:∀(i:Nat) (c:Value) (b:Nat),cells[i]?=some c->zu c b->b≠bg/\b≠bs/\loc<=b
 dis:∀(i j:Nat) (c d:Value) (b:Nat),cells[i]?=some c->cells[j]?=some d->zu c b->zu d b->i=j
def CellOK.lt{h:AH}{c:Value}{S:zf}(k:CellOK h c S){b:Nat}(hb:zu c b):b<h.qa:=by
 obtain⟨n,cap,rfl⟩:=hb;rcases k with ⟨e,_⟩|⟨b',e,_,ab⟩
 ·cases e
 ·simp only[Value.slice.injEq,xAN,Addr.mk.injEq] at e;rw[e.1.1];exact ab
def CellOK.fx{P:Nat->Prop}{h h':AH}{c:Value}{S:zf}(k:CellOK h c S)(f:Fx P h h')(hn:∀ b,zu c b->¬ P b):CellOK h' c S:=by
 rcases k with e|⟨b,e,hg,ab⟩
 ·exact .inl e
 ·exact .inr ⟨b,e,(f.get b ab (hn b ⟨_,_,e⟩)).trans hg,xAC ab f.qa⟩
def CellOK.leaf{h:AH}{c:Value}{S:zf}(k:CellOK h c S):zq c=true/\zj c=[c]/\veq 100 c c=true:=by
 rcases k with ⟨rfl,_⟩|⟨b,rfl,_⟩ <;> exact⟨rfl,rfl,zB2 _ _ _ _⟩
def GG.fx{P:Nat->Prop}{loc bg bs:Nat}{h h':AH}{cells:List Value}{SS:List zf}(G:GG loc h bg bs cells SS)(f:Fx P h h')(h1:¬ P bg)(h2:¬ P bs)(h3:∀(i:Nat) (c:Value) (b:Nat),cells[i]?=some c->zu c b->¬ P b):GG loc h' bg bs cells SS:=
 ⟨(f.get bg G.ltg h1).trans G.g,(f.get bs G.lts h2).trans G.s,G.len,G.ne,xAC G.ltg f.qa,xAC G.lts f.qa,G.locg,G.locs,
  fun i c S hc hS=>(G.cell i c S hc hS).fx f (fun b hb=>h3 i c b hc hb),G.blk,G.dis⟩
def zln{a b:Int}{h:AH}:zh E 132 1 (some [(0,.agg #[iI a,iI b])]) h=one (.slice (some ⟨h.qa,0,none⟩) 1 1,h.new (rO [iI a,iI b] 134)):=by kernel_rfl
def zj7{a b:Int}:zAu E 134 (some [(0,iI a),(1,iI b)])=some (.agg #[iI a,iI b]):=by kernel_rfl
def zFW{h:AH}(aa:h.ok){c:Value}{S:zf}(hc:CellOK h c S)(hS:S.length+1<=1000000)(a b:Int) :
  ∃ h3,zAJ E .append [132,132] (some [c,.slice (some ⟨h.qa,0,none⟩) 1 1]) (h.new (rO [iI a,iI b] 134))=one (.slice (some ⟨h.qa+1,0,none⟩) (S.length+1) (UNK+2),h3) ∧
   h3.get (h.qa+1)=some (.row (stc (S++[(a,b)])) 134 2 false)/\h3.qa=h.qa+2/\Fx (fun x=>zu c x) h h3:=by
 have az:=zI h (rO [iI a,iI b] 134);have af:stc (S++[(a,b)])=stc S++[iI a,iI b]:=by simp[stc,zG,List.flatMap_append]
 rcases hc with ⟨rfl,rfl⟩|⟨bl,rfl,hg,ab⟩
 ·refine⟨_,append_nil elt132 az rfl,?_,rfl,((Fx.refl aa).new _).new _⟩;rw[af];exact zI (h.new _) _
 ·have fj:(h.new (rO [iI a,iI b] 134)).get bl=some (.row (stc S) 134 2 false):=by rw[zK (by omega)];exact hg
  refine⟨_,zC4 elt132 (by omega) fj (zHj S) hS az rfl (by simp[zq]),?_,rfl,?_⟩
  ·rw[af];exact zI ((h.new _).upd bl none) _
  ·have f1:Fx (fun x=>zu (.slice (some ⟨bl,0,none⟩) S.length (UNK+2)) x) h (h.new (rO [iI a,iI b] 134)):=(Fx.refl aa).new _;exact (f1.upd (.inl ⟨_,_,rfl⟩) none).new _
def zr8(n:Nat)(vis:Prop)(S:zf):Prop:=∀ x∈S,(0<=x.2/\x.2<n)/\0<=x.1/\(vis->1<=x.1)
def zob{k:AH}{e:Int×Int×Int} :
  zb E 52 (k.new (rO [iI 0,iI 0,iI 0] 52)) (sP k.qa 0) (some (.agg ⟨zm e⟩))=one (undef,(k.new (rO [iI 0,iI 0,iI 0] 52)).upd k.qa (some (rO (zm e) 52))):=by
 rw[zAC (P:=E) zjf (x:=.agg ⟨zm e⟩) (cs:=zm e) (zI k _) rfl rfl (by simp) (by simp[zm,zq])];rfl
def zkq{L:GL}(h:zx L=false):L.eds.length<=100000:=by
 simp only[zx,zBN,Bool.or_eq_false_iff,decide_eq_false_iff_not] at h;omega
def zC7(nums:List Int):List zf->List (Int×Int×Int)->List zf
 | SS,[]=>SS
 | SS,e::l=>zC7 nums (SS.set e.1.toNat ((SS[e.1.toNat]?.getD [])++[((nums[e.2.1.toNat]?).getD 0,e.2.2)])) l
def zkZ{k:AH}{K:KF}{L:GL}{ve:Value}{ae:Option Addr}{ce:Nat}(cH:ve=.slice ae L.eds.length ce)(ha:Arr k 3 ve (L.eds.map zm))(hL:zx L=false){N:Nat}(hN:L.n=(N:Int))
  {v3 v8 v34 v35 v36:Value} {bm bg bs:Nat} {nums:List Int} (hlen:nums.length=L.labs.length) (bY:∀ j,j<L.labs.length->zkB L.labs nums j) {k0:AH} {cells0:List Value} {SS1:List zf} {vis:Prop} (hvis:vis->∀(j:Nat) (g:Int) (l:List GT),L.labs[j]?=some (g,l)->g≠-1)
  (hK:∀ kk cells SS,Own k kk->GG k.qa kk bg bs cells SS->cells.length=N->(∀(i:Nat) (S:zf),SS[i]?=some S->zr8 N vis S/\S.length<=100000)->SS=SS1->Fx (fun c=>c=bs\/∃(i:Nat) (x:Value),cells0[i]?=some x/\zu x c) k0 kk->
   (∀(i:Nat) (x:Value) (c:Nat),cells[i]?=some x->zu x c->(∃(i:Nat) (x:Value),cells0[i]?=some x/\zu x c)\/k0.qa<=c)->
   zou true K v3 v8 (.pointer (some ⟨bg,0,none⟩)) v34 v35 v36 kk) :
  ∀(m j:Nat),j+m=L.eds.length->∀ kk cells SS,Own k kk->GG k.qa kk bg bs cells SS->cells.length=N->(∀(i:Nat) (S:zf),SS[i]?=some S->zr8 N vis S/\S.length<=j)->zC7 nums SS (L.eds.drop j)=SS1->Fx (fun c=>c=bs\/∃(i:Nat) (x:Value),cells0[i]?=some x/\zu x c) k0 kk->
   (∀(i:Nat) (x:Value) (c:Nat),cells[i]?=some x->zu x c->(∃(i:Nat) (x:Value),cells0[i]?=some x/\zu x c)\/k0.qa<=c)->
   kk.get bm=some (rO (ints nums) 3)->bm<kk.qa->bm≠bs->(∀(i:Nat) (x:Value),cells[i]?=some x->¬ zu x bm)->k.qa<=bm->
   zov true K v3 v8 (.pointer (some ⟨bg,0,none⟩)) (.slice (some ⟨bm,0,none⟩) L.labs.length L.labs.length) v34 v35 v36 ve (iI (L.eds.length:Int)) (iI (j:Int)) kk:=by
 obtain⟨z1,z2,z3,z4⟩:=zAV hL;intro m
 induction m with
 | zero=>
  intro j hj kk cells SS ho hG hNc af gK hf eb aS hbml hbne hbnb hbloc;refine zMR ?_;simp only[zY,zA,zAN];exact⟨fun h=>by omega,fun _=>hK kk cells SS ho hG hNc (fun i S h=>⟨(af i S h).1,by have:=(af i S h).2;have:=zkq hL;omega⟩) (by rw[List.drop_eq_nil_of_le (show L.eds.length<=j by omega)] at gK;exact gK) hf eb⟩
 | succ m ih=>
  intro j hj kk cells SS ho hG hNc af gK hf eb aS hbml hbne hbnb hbloc;have bM:j<L.eds.length:=by omega
  refine zMR ?_;simp only[zY,zA,zAN];refine⟨fun _=>zWt ?_,fun h=>by omega⟩;have jV:L.eds[j]?=some L.eds[j]:=xAA bM;have aX:(L.eds.map zm)[j]?=some (zm L.eds[j]):=by simp[bM]
  obtain⟨b,o,c,vs,ty,es,ro,hv,hb,ab,bP,hz,aZ⟩:=ha.load aX;rw[cH] at hv;simp only[Value.slice.injEq] at hv;obtain⟨a9,_,fq⟩:=hv;subst a9;have gb:kk.get b=some (.row vs ty es ro):=(ho.ext.get b ab).trans hb;obtain⟨⟨f1,f2⟩,⟨t1,t2⟩,⟨l1,l2⟩⟩:=zGD hL jV;rw[zIL jV] at gK;generalize aP:L.eds[j]=e at gK hz aZ f1 f2 t1 t2 l1 l2;obtain⟨from',lab,to⟩:=e;simp only at f1 f2 t1 t2 l1 l2;obtain⟨fr,rfl⟩:=Int.eq_ofNat_of_zero_le f1;obtain⟨la,rfl⟩:=Int.eq_ofNat_of_zero_le l1;have cF:fr<cells.length:=by omega
  have il:fr<SS.length:=by rw[← hG.len];exact cF
  have hla:la<L.labs.length:=by omega
  have hla':la<nums.length:=by omega
  simp only[cH,zkV bM,zA,zZ zQk gb bP,hz,zqx,zd,zL,zX,zob];refine zWs ?_;have df:=ho.ext.qa;have fb:Fx NoB kk ((kk.new (rO [iI 0,iI 0,iI 0] 52)).upd kk.qa (some (.row (zm ((fr:Int),(la:Int),to)) 52 0 false))):=((Fx.refl ho.ext.ok).new _).upd (.inr (xAF _)) _;have tb:((kk.new (rO [iI 0,iI 0,iI 0] 52)).upd kk.qa (some (.row (zm ((fr:Int),(la:Int),to)) 52 0 false))).get kk.qa=some (.row (zm ((fr:Int),(la:Int),to)) 52 0 false):=zN _ _ _;have nb:((kk.new (rO [iI 0,iI 0,iI 0] 52)).upd kk.qa (some (.row (zm ((fr:Int),(la:Int),to)) 52 0 false))).qa=kk.qa+1:=rfl;generalize ((kk.new (rO [iI 0,iI 0,iI 0] 52)).upd kk.qa (some (.row (zm ((fr:Int),(la:Int),to)) 52 0 false)))=k1 at fb tb nb;have o1:=fb.own ho (fun _ h=>h.elim);have cy:=hG.fx fb (fun h=>h) (fun h=>h) (fun _ _ _ _ _ h=>h);have jO:k1.get bm=some (rO (ints nums) 3):=(fb.get bm hbml (fun h=>h)).trans aS;have c0:=zF (P:=E) zAa (o:=0) tb;have c1:=zF (P:=E) zAa (o:=1) tb;have c2:=zF (P:=E) zAa (o:=2) tb;simp only[lnth,zm] at c0 c1 c2;have lg:=zF (P:=E) zEN (o:=0) cy.g;simp only[lnth] at lg;have aj:cells[fr]?=some cells[fr]:=xAA cF;have bD:SS[fr]?=some SS[fr]:=xAA il;have ls:=zF (P:=E) zCn (o:=0+fr*1) cy.s;rw[zA2,show 0+fr*1=fr by omega,aj] at ls;have ln:=zF (P:=E) zAa (o:=0+la*1) jO;obtain⟨gl,cD⟩:∃ gl,L.labs[la]?=some gl:=⟨_,xAA hla⟩;obtain⟨r,iE,gX,hr3,hr4⟩:=bY la hla gl.1 gl.2 cD;rw[zA2,show 0+la*1=la by omega,List.getElem?_map,iE,Option.map_some] at ln;have ia1:=zIC (b:=bs) (o:=0) (c:=cells.length) cF;have ia2:=zVQ (b:=bm) (o:=0) (c:=L.labs.length) hla;rw[show 0+fr*1=fr by omega] at ia1;rw[show 0+la*1=la by omega] at ia2;have hC:=cy.cell fr _ _ aj bD;obtain⟨clf,cc1,cveq⟩:=hC.leaf;have gJ:=(af fr _ bD).2;obtain⟨h3,q1,q2,q3,q4⟩:=zFW o1.ext.ok hC (by omega) r to;have f2x:Fx NoB k1 (k1.new (rO [iI r,iI to] 134)):=(Fx.refl o1.ext.ok).new _;have hG2:=cy.fx f2x (fun h=>h) (fun h=>h) (fun _ _ _ _ _ h=>h);have tb2:(k1.new (rO [iI r,iI to] 134)).get kk.qa=_:=(zK (by omega)).trans tb;have d0:=zF (P:=E) zAa (o:=0) tb2;simp only[lnth,zm] at d0;have lg2:=zF (P:=E) zEN (o:=0) hG2.g;have ls2:=zF (P:=E) zCn (o:=0+fr*1) hG2.s;simp only[lnth] at lg2;rw[zA2,show 0+fr*1=fr by omega,aj] at ls2;have aG:∀ x,zu cells[fr] x->x≠bg/\x≠bs/\k.qa<=x:=fun x hx=>cy.blk fr _ x aj hx;have tb3:h3.get kk.qa=some (.row (zm ((fr:Int),(la:Int),to)) 52 0 false):=(q4.get kk.qa (by omega) (fun hx=>by have:=(hG.cell fr _ _ aj bD).lt hx;omega)).trans tb;have e0:=zF (P:=E) zAa (o:=0) tb3;simp only[lnth,zm] at e0;have ju:h3.get bg=_:=(q4.get bg cy.ltg (fun hx=>(aG bg hx).1 rfl)).trans cy.g;have hs3:h3.get bs=_:=(q4.get bs cy.lts (fun hx=>(aG bs hx).2.1 rfl)).trans cy.s;have lg3:=zF (P:=E) zEN (o:=0) ju;simp only[lnth] at lg3;have ez:=zAC (P:=E) zPA (o:=fr) hs3 (zOi (some ⟨k1.qa+1,0,none⟩) (SS[fr].length+1) (UNK+2)) rfl (by omega) rfl;rw[zPY _ _ _ cF] at ez;simp only[zA,zAj,zCY,zEb,zEa,zFO,Nat.add_zero,xAK,lg,c0,c1,c2,ia1,ls,ia2,ln,zj7,zln,zL,ls2,lg2,d0,cveq,zB2,zDc,true_and,q1,e0,lg3,ez];refine zWr ?_;simp only[zAK _ (zDu bM (by omega)),zA];have hP:∀ c,(c=bs\/zu cells[fr] c)->(c=bs\/∃(i:Nat) (x:Value),cells0[i]?=some x/\zu x c)\/k0.qa<=c:=by
   rintro c (rfl|hc)
   ·exact .inl (.inl rfl)
   ·exact (eb fr _ c aj hc).elim (fun h=>.inl (.inr h)) .inr
  have f5:Fx (fun c=>c=bs\/zu cells[fr] c) k1 (h3.upd bs (some (.row (cells.set fr (.slice (some ⟨k1.qa+1,0,none⟩) (SS[fr].length+1) (UNK+2))) 132 0 false))):=
   (q4.mono (P':=fun c=>c=bs\/zu cells[fr] c) (fun c hc=>.inl (.inr hc))).upd (.inl (.inl rfl)) _
  have o5:=f5.own o1 (fun c hc=>hc.elim (fun h=>by rw[h];exact hG.locs) fun h=>(aG c h).2.2);have bO:∀(i:Nat) (c:Value),(cells.set fr (.slice (some ⟨k1.qa+1,0,none⟩) (SS[fr].length+1) (UNK+2)))[i]?=some c->(i=fr/\c=.slice (some ⟨k1.qa+1,0,none⟩) (SS[fr].length+1) (UNK+2))\/(i≠fr/\cells[i]?=some c):=by
   intro i c hc;by_cases hi:i=fr
   ·subst hi;rw[List.getElem?_set_self cF] at hc;exact .inl ⟨rfl,(Option.some.inj hc).symm⟩
   ·rw[List.getElem?_set_ne (fun h=>hi h.symm)] at hc;exact .inr ⟨hi,hc⟩
  have b9:∀ b,zu (.slice (some ⟨k1.qa+1,0,none⟩) (SS[fr].length+1) (UNK+2)) b->b=k1.qa+1:=by
   rintro b ⟨n,cap,h⟩;simp only[Value.slice.injEq,xAN,Addr.mk.injEq] at h;exact h.1.1.symm
  have fJ:∀(i:Nat) (c:Value) (b:Nat),cells[i]?=some c->zu c b->b<k1.qa:=fun i c b hc hb=>by
   have hi:i<SS.length:=by rw[← hG.len];exact (List.getElem?_eq_some_iff.1 hc).1
   exact (cy.cell i c _ hc (xAA hi)).lt hb
  have hG5:GG k.qa (h3.upd bs (some (.row (cells.set fr (.slice (some ⟨k1.qa+1,0,none⟩) (SS[fr].length+1) (UNK+2))) 132 0 false))) bg bs (cells.set fr (.slice (some ⟨k1.qa+1,0,none⟩) (SS[fr].length+1) (UNK+2))) (SS.set fr (SS[fr]++[(r,to)])):=by
   refine⟨?_,zN _ _ _,by simp[hG.len],hG.ne,?_,?_,hG.locg,hG.locs,?_,?_,?_⟩
   ·rw[zP hG.ne,List.length_set];exact ju
   ·show bg<h3.qa;have:=cy.ltg;omega
   ·show bs<h3.qa;have:=cy.lts;omega
   ·intro i c S hc hS;rcases bO i c hc with ⟨rfl,rfl⟩|⟨hi,aH⟩
    ·rw[List.getElem?_set_self il] at hS;cases hS;refine .inr ⟨k1.qa+1,by simp,?_,by show _<h3.qa;omega⟩;rw[zP (by have:=cy.lts;omega)];exact q2
    ·rw[List.getElem?_set_ne (fun h=>hi h.symm)] at hS;have:=cy.cell i c S aH hS;refine this.fx f5 (fun b hb=>?_);rintro (rfl|bz)
     ·exact (cy.blk i c _ aH hb).2.1 rfl
     ·exact hi (cy.dis i fr c _ b aH aj hb bz)
   ·intro i c b hc hb;rcases bO i c hc with ⟨rfl,rfl⟩|⟨hi,aH⟩
    ·rw[b9 b hb];have:=cy.ltg;have:=cy.lts;omega
    ·exact cy.blk i c b aH hb
   ·intro i i' c d b hc hd hb ao;rcases bO i c hc with ⟨rfl,rfl⟩|⟨hi,aH⟩
    ·rcases bO i' d hd with ⟨rfl,_⟩|⟨cu,hd'⟩
     ·rfl
     ·have:=b9 b hb;have:=fJ i' d b hd' ao;omega
    ·rcases bO i' d hd with ⟨rfl,rfl⟩|⟨cu,hd'⟩
     ·have:=b9 b ao;have:=fJ i c b aH hb;omega
     ·exact cy.dis i i' c d b aH hd' hb ao
  have hbm5:(h3.upd bs (some (.row (cells.set fr (.slice (some ⟨k1.qa+1,0,none⟩) (SS[fr].length+1) (UNK+2))) 132 0 false))).get bm=some (rO (ints nums) 3):=
   (f5.get bm (by omega) (fun h=>h.elim hbne fun h=>hbnb fr _ aj h)).trans jO
  have bU:=ih (j+1) (by omega) _ _ _ o5 hG5 (by simp[hNc]) (fun i S hS=>by
   by_cases hi:i=fr
   ·subst hi;rw[List.getElem?_set_self il] at hS;cases hS;refine⟨fun x hx=>?_,by simp;omega⟩;rcases List.mem_append.1 hx with hx|hx
    ·exact (af i _ bD).1 x hx
    ·simp only[xAE] at hx;subst hx;exact⟨⟨t1,by show to<(N:Int);omega⟩,gX,fun hv=>hr4 (hvis hv la gl.1 gl.2 cD)⟩
   ·rw[List.getElem?_set_ne (fun h=>hi h.symm)] at hS;have:=af i S hS;exact⟨this.1,by omega⟩)
   (by
    have:zC7 nums SS (((fr:Int),(la:Int),to)::L.eds.drop (j+1))=zC7 nums (SS.set fr (SS[fr]++[(r,to)])) (L.eds.drop (j+1)):=by
     simp only[zC7,Int.toNat_natCast,bD,iE,Option.getD_some]
    rw[← this];exact gK)
   ((hf.trans fb (fun _ h=>h.elim)).trans f5 hP)
   (fun i x c hx hc=>by
    rcases bO i x hx with ⟨rfl,rfl⟩|⟨hi,ej⟩
    ·rw[b9 c hc];exact .inr (by have:=hf.qa;omega)
    ·exact eb i x c ej hc)
   hbm5 (by show bm<h3.qa;omega) hbne (fun i x hx hb=>by
    rcases bO i x hx with ⟨rfl,rfl⟩|⟨hi,ej⟩
    ·have:=b9 bm hb;omega
    ·exact hbnb i x ej hb) hbloc
  rw[cH] at bU;simpa using bU
end Go.Proofs
