import Derived.ChangeArms
import Derived.DataReads
import Derived.Test.YthmnhjcmefjgjaaGreatDoorXAE
set_option linter.all false
set_option linter.unusedSectionVars false
set_option autoImplicit true
set_option relaxedAutoImplicit true
namespace Go.Proofs
open Go Go.AM
set_option maxRecDepth 100000
structure Own (k l:AH):Prop where
 ext:Ext k l
 wm:k.next<=l.wm
theorem Own.fresh (k:AH):Own k k.fresh:=⟨⟨zAT k,Nat.le_refl _,fun _ _=>rfl⟩,by rw [zA4];omega⟩
theorem Own.new {k l:AH} (o:Own k l) (x:AObj):Own k (l.new x):=⟨o.ext.new x,o.wm⟩
theorem Own.upd {k l:AH} (o:Own k l) {b:Nat} (hb:k.next<=b) (x:Option AObj):Own k (l.upd b x):=⟨o.ext.upd hb x,z9 o.wm hb⟩
theorem zC1 (n:Nat) (k:IntKind) (a:Int):veq n (.int k a) (.int k a)=true:=by cases n <;> (show (decide (k=k)&&decide (a=a))=true;simp)
theorem zB8 (n:Nat) (a:Option Addr) (m c:Nat):veq n (.slice a m c) (.slice a m c)=true:=by cases n <;> (show (decide (a=a)&&Nat.beq m m&&Nat.beq c c)=true;simp [Nat.beq_refl])
def orI:List Int->Int
 | []=>0
 | a::l=>if a≠0 then a else orI l
theorem zTO {k:AH} {is:List Int} {b c:Nat} {ty es:Nat} {ro:Bool} (hn:is.length<=1000) (hok:k.ok) (hb:k.get b=some (.row (is.map (Value.int .i64)) ty es ro)) :
  (zW E).call 171 [.slice (some ⟨b,0,none⟩) is.length c] k=some [(.int .i64 (orI is),k)]:=by
 refine zal (s:=true) hok rfl (zXq ?_)
 refine zXp ?_
 refine zXo ?_
 simp only [zA,zPX]
 have hb':k.fresh.get b=some (.row (is.map (Value.int .i64)) ty es ro):=hb
 have loop:∀ (js:List Int) (i:Nat),is.drop i=js->P171_3 true (KR E [.tmp 2] (fun x l=>x=.int .i64 (orI js)/\k.next<=l.wm)) (.int .i64 0) (.slice (some ⟨b,0,none⟩) is.length c) (.int .i64 (is.length:Int)) (.int .i64 (i:Int)) k.fresh:=by
  intro js
  induction js with
  | nil=>
   intro i hi
   have:is.length<=i:=List.drop_eq_nil_iff.1 hi
   refine zLK ?_
   simp only [zY,zA,zAA]
   refine ⟨fun h=>by omega,fun _=>zXj ?_⟩
   simp [zA,zAJ,zT,orI]
  | cons j js ih=>
   intro i hi
   have hlt:i<is.length:=by
    rcases Nat.lt_or_ge i is.length with h|h
    ·exact h
    ·rw [List.drop_eq_nil_of_le h] at hi;cases hi
   have hj:is[i]?=some j:=by have:=congrArg (·[0]?) hi;simpa [List.getElem?_drop] using this
   refine zLK ?_
   simp only [zY,zA,zAA]
   refine ⟨fun _=>zXn ?_,fun h=>by omega⟩
   have hl:lnth (is.map (Value.int .i64)) (0+i*1)=some (.int .i64 j):=by rw [zAk];simp [hj]
   simp only [zPf hlt,zA,zF zAS hb',hl]
   refine zXm ?_
   simp only [zA,zAz,zM4]
   refine ⟨fun h=>zXl ?_,fun h=>zXk ?_⟩
   ·simp [zA,zAJ,zT,orI,h]
   ·simp only [zAM _ (zD7 hlt (by omega)),zA]
    have:=ih (i+1) (by rw [← List.drop_drop,hi];rfl)
    simp only [orI,h,ne_eq,not_true,if_false]
    simpa using this
 exact loop is 0 rfl
theorem bs47_2 {a b:Int} {h:AH}:zf E 47 2 (some [(0,.int .i64 a),(1,.int .i64 b)]) h=one (.slice (some ⟨h.next,0,none⟩) 2 2,h.new (.row [.int .i64 a,.int .i64 b] 3 0 false)):=by kernel_rfl
theorem bs47_3 {a b c:Int} {h:AH}:zf E 47 3 (some [(0,.int .i64 a),(1,.int .i64 b),(2,.int .i64 c)]) h=one (.slice (some ⟨h.next,0,none⟩) 3 3,h.new (.row [.int .i64 a,.int .i64 b,.int .i64 c] 3 0 false)):=by kernel_rfl
def c3 (a b:Int):Int:=if a<b then -1 else if b<a then 1 else 0
theorem or2 {h:AH} (hok:h.ok) (a b:Int):(zW E).call 171 [.slice (some ⟨h.next,0,none⟩) 2 2] (h.new (.row [.int .i64 a,.int .i64 b] 3 0 false))=some [(.int .i64 (orI [a,b]),h.new (.row [.int .i64 a,.int .i64 b] 3 0 false))]:=
 zTO (is:=[a,b]) (by simp) (zCK hok _) (zI _ _)
theorem or3 {h:AH} (hok:h.ok) (a b c:Int):(zW E).call 171 [.slice (some ⟨h.next,0,none⟩) 3 3] (h.new (.row [.int .i64 a,.int .i64 b,.int .i64 c] 3 0 false))=some [(.int .i64 (orI [a,b,c]),h.new (.row [.int .i64 a,.int .i64 b,.int .i64 c] 3 0 false))]:=
 zTO (is:=[a,b,c]) (by simp) (zCK hok _) (zI _ _)
def zCk (c:Nat->Int) (n1 n2:Nat):Nat->Nat->Int
 | 0,_=>if n1<n2 then -1 else 0
 | m+1,i=>if n2<=i then 1 else if c i≠0 then c i else zCk c n1 n2 m (i+1)
theorem zTK {h0:AH} {v1 v2 f:Value} {els1 els2:List (List Value)} {cf:Nat->Int} (ha1:Arr h0 3 v1 els1) (ha2:Arr h0 3 v2 els2) (hn:els1.length<=9223372036854775807) (hlf:∀ (i:Nat) (e:List Value),els1[i]?=some e->e.all zr=true) (hlf2:∀ (i:Nat) (e:List Value),els2[i]?=some e->e.all zr=true)
  (hf:∀ k,Ext h0 k->∀ (i:Nat) (e1 e2:List Value),els1[i]?=some e1->els2[i]?=some e2->zQ (zW E) (some f) (some [.agg ⟨e1⟩,.agg ⟨e2⟩]) k=some [(.int .i64 (cf i),k)]) {k:AH} (hk:Ext h0 k) :
  (zW E).call 247 [v1,v2,f] k=some [(.int .i64 (zCk cf els1.length els2.length els1.length 0),k)]:=by
 have hs1:∃ a c,v1=.slice a els1.length c:=by cases ha1 with|nil a c=>exact ⟨a,c,rfl⟩|row=>exact ⟨_,_,rfl⟩
 have hs2:∃ a c,v2=.slice a els2.length c:=by cases ha2 with|nil a c=>exact ⟨a,c,rfl⟩|row=>exact ⟨_,_,rfl⟩
 obtain ⟨a1,c1,rfl⟩:=hs1
 obtain ⟨a2,c2,rfl⟩:=hs2
 refine zaP (s:=true) hk.ok rfl (zVl ?_)
 refine zVk ?_
 simp only [zA,zPR]
 have loop:∀ (m i:Nat),i+m=els1.length->∀ l,Own k l->P247_2 true (KR E [.tmp 6] (fun x l=>x=.int .i64 (zCk cf els1.length els2.length m i)/\k.next<=l.wm)) (.slice a1 els1.length c1) (.slice a2 els2.length c2) f (.slice a1 els1.length c1) (.int .i64 (els1.length:Int)) (.int .i64 (i:Int)) l:=by
  intro m
  induction m with
  | zero=>
   intro i hi l hl
   refine zK7 ?_
   simp only [zY,zA,zAA]
   refine ⟨fun h=>by omega,fun _=>zP1 ?_⟩
   simp only [zA,zMJ,zMI,zY,zAA]
   have:=hl.wm
   refine ⟨fun h=>zP0 ?_,fun h=>zPz ?_⟩
   ·have h':els1.length<els2.length:=by omega
    simp [zA,zAJ,zT,zCk,h',this]
   ·have h':¬ els1.length<els2.length:=by omega
    simp [zA,zAJ,zT,zCk,h',this]
  | succ m ih=>
   intro i hi l hl
   have hin:i<els1.length:=by omega
   refine zK7 ?_
   simp only [zY,zA,zAA]
   refine ⟨fun _=>zVj ?_,fun h=>by omega⟩
   obtain ⟨b,o,c,vs,ty,es,ro,hv,hb,hlt,hle,hz,hzl⟩:=ha1.load (List.getElem?_eq_getElem hin)
   simp only [Value.slice.injEq] at hv
   obtain ⟨hv1,_,hv3⟩:=hv
   subst hv1
   have gb:l.get b=some (.row vs ty es ro):=(hl.ext.get b (Nat.lt_of_lt_of_le hlt hk.next)).trans ((hk.get b hlt).trans hb)
   simp only [zA,zSp hin,za zB9 gb hle,hz,zbL,zd,zL,zV]
   have hkl:=hl.ext.next
   rw [zw (P:=E) zJw (zI l _) (zV _) hzl (by simp) (hlf i _ (List.getElem?_eq_getElem hin))]
   simp only [zL]
   refine zVi ?_
   simp only [zA,zPQ,zAP,zAA]
   have o1:=(hl.new (.row [.int .i64 0,.int .i64 0,.slice none 0 0] 173 0 false)).upd (b:=l.next) hkl (some (.row (lput [.int .i64 0,.int .i64 0,.slice none 0 0] 0 els1[i]) 173 0 false))
   have t1:((l.new (.row [.int .i64 0,.int .i64 0,.slice none 0 0] 173 0 false)).upd l.next (some (.row (lput [.int .i64 0,.int .i64 0,.slice none 0 0] 0 els1[i]) 173 0 false))).get l.next=some (.row (lput [.int .i64 0,.int .i64 0,.slice none 0 0] 0 els1[i]) 173 0 false):=zR _ _ _
   have n1:((l.new (.row [.int .i64 0,.int .i64 0,.slice none 0 0] 173 0 false)).upd l.next (some (.row (lput [.int .i64 0,.int .i64 0,.slice none 0 0] 0 els1[i]) 173 0 false))).next=l.next+1:=rfl
   have hput:∀ (e:List Value),e.length=3->lput [Value.int .i64 0,.int .i64 0,.slice none 0 0] 0 e=e:=by
    intro e he
    match e,he with
    | [x,y,z],_=>rfl
   rw [hput _ hzl] at o1 t1 n1
   rw [hput _ hzl]
   generalize ((l.new (.row [.int .i64 0,.int .i64 0,.slice none 0 0] 173 0 false)).upd l.next (some (.row els1[i] 173 0 false)))=l1 at o1 t1 n1
   refine ⟨fun h=>zVh ?_,fun h=>zVg ?_⟩
   ·have h':els2.length<=i:=by omega
    simp [zA,zAJ,zT,zCk,h',o1.wm]
   ·have hin2:i<els2.length:=by omega
    obtain ⟨b',o',c',vs',ty',es',ro',hv',hb',hlt',hle',hz',hzl'⟩:=ha2.load (List.getElem?_eq_getElem hin2)
    simp only [Value.slice.injEq] at hv'
    obtain ⟨hv1',_,hv3'⟩:=hv'
    subst hv1'
    have gb':l1.get b'=some (.row vs' ty' es' ro'):=(o1.ext.get b' (Nat.lt_of_lt_of_le hlt' hk.next)).trans ((hk.get b' hlt').trans hb')
    simp only [zA,zSp hin2,za zB9 gb' hle',hz',zbL,zd,zL,zV]
    rw [zw (P:=E) zJw (zI l1 _) (zV _) hzl' (by simp) (hlf2 i _ (List.getElem?_eq_getElem hin2))]
    simp only [zL]
    refine zVf ?_
    rw [hput _ hzl']
    have o2:=(o1.new (.row [.int .i64 0,.int .i64 0,.slice none 0 0] 173 0 false)).upd (b:=l1.next) (by omega) (some (.row els2[i] 173 0 false))
    have t2:((l1.new (.row [.int .i64 0,.int .i64 0,.slice none 0 0] 173 0 false)).upd l1.next (some (.row els2[i] 173 0 false))).get l1.next=some (.row els2[i] 173 0 false):=zR _ _ _
    have t1':((l1.new (.row [.int .i64 0,.int .i64 0,.slice none 0 0] 173 0 false)).upd l1.next (some (.row els2[i] 173 0 false))).get l.next=some (.row els1[i] 173 0 false):=by rw [zU (by omega),zK (by omega)];exact t1
    generalize ((l1.new (.row [.int .i64 0,.int .i64 0,.slice none 0 0] 173 0 false)).upd l1.next (some (.row els2[i] 173 0 false)))=l2 at o2 t2 t1'
    have la:=za (P:=E) zB9 (o:=0) t1' (by omega)
    have lb:=za (P:=E) zB9 (o:=0) t2 (by omega)
    rw [List.drop_zero,List.take_of_length_le (by omega)] at la lb
    simp only [zA,la,lb,hf l2 (hk.trans o2.ext) i _ _ (List.getElem?_eq_getElem hin) (List.getElem?_eq_getElem hin2),zN]
    refine zVe ?_
    have h':¬ els2.length<=i:=by omega
    simp only [zA,zAz,zM4]
    refine ⟨fun hc=>zVd ?_,fun hc=>zP2 ?_⟩
    ·simp [zA,zAJ,zT,zCk,h',hc,o2.wm]
    ·simp only [zAM _ (zD7 hin hn),zA]
     have:=ih (i+1) (by omega) l2 o2
     simp only [zCk,h',if_false,hc,ne_eq,not_true]
     simpa using this
 exact loop els1.length 0 (by omega) _ (Own.fresh k)
theorem zt (w:Bool) (x:Option Value):gdB undef w x=some undef:=rfl
theorem zx (w:Bool) (x:R (Value×AH)) (h:AH):gdW undef w x h=one (undef,h):=rfl
mutual
def zJZ:GT->GT->Int
 | .mk k n l,.mk k' n' l'=>if orI [c3 k k',c3 n n',c3 l.length l'.length]≠0 then orI [c3 k k',c3 n n',c3 l.length l'.length] else zDs l l'
def zDs:List GT->List GT->Int
 | [],[]=>0
 | [],_::_=>-1
 | _::_,[]=>1
 | t::ts,u::us=>if zJZ t u≠0 then zJZ t u else zDs ts us
end
def zMu (ts us:List GT) (i:Nat):Int:=match ts[i]?,us[i]? with
 | some t,some u=>zJZ t u
 | _,_=>0
theorem zFx (ts us:List GT):∀ (m i:Nat),i+m=ts.length->zCk (zMu ts us) ts.length us.length m i=(if i<=us.length then zDs (ts.drop i) (us.drop i) else if m=0 then 0 else 1)
 | 0,i,h=>by
  have ht:ts.drop i=[]:=List.drop_eq_nil_of_le (by omega)
  simp only [zCk,ht]
  by_cases hi:i<=us.length
  ·rw [if_pos hi]
   cases hu:us.drop i with
   | nil=>
    have:=List.drop_eq_nil_iff.1 hu
    rw [if_neg (by omega)];rfl
   | cons u us'=>
    have:i<us.length:=by
     rcases Nat.lt_or_ge i us.length with h'|h'
     ·exact h'
     ·rw [List.drop_eq_nil_of_le h'] at hu;cases hu
    rw [if_pos (by omega)];rfl
  ·rw [if_neg hi,if_neg (by omega)];rfl
 | m+1,i,h=>by
  have hlt:i<ts.length:=by omega
  simp only [zCk]
  by_cases hi:us.length<=i
  ·rw [if_pos hi]
   by_cases he:i<=us.length
   ·rw [if_pos he]
    have hu:us.drop i=[]:=List.drop_eq_nil_of_le hi
    rw [hu,List.drop_eq_getElem_cons hlt];rfl
   ·rw [if_neg he];simp
  ·rw [if_neg hi,if_pos (show i<=us.length by omega)]
   have hui:i<us.length:=by omega
   rw [List.drop_eq_getElem_cons hlt,List.drop_eq_getElem_cons hui]
   have hat:zMu ts us i=zJZ ts[i] us[i]:=by unfold zMu;rw [List.getElem?_eq_getElem hlt,List.getElem?_eq_getElem hui]
   rw [hat]
   simp only [zDs]
   rw [zFx ts us m (i+1) (by omega),if_pos (show i+1<=us.length by omega)]
def zTs (h0:AH) (kk nn:Int) (v:Value) (l:List GT):Prop:=∀ (k:AH) (kk' nn':Int) (v':Value) (l':List GT),RT h0 v' l'->Ext h0 k->
 (zW E).call 219 [.agg #[.int .i64 kk,.int .i64 nn,v],.agg #[.int .i64 kk',.int .i64 nn',v']] k=some [(.int .i64 (zJZ (.mk kk nn l) (.mk kk' nn' l')),k)]
theorem RC.leafs {h:AH} {els:List (List Value)} {ts:List GT} (hc:RC h els ts) (i:Nat) (e:List Value) (he:els[i]?=some e):e.all zr=true:=by
 obtain ⟨k,n,v,l,rfl,hv,_⟩:=RC.at hc i e he
 have:=zDS hv
 simp [zr];exact this
mutual
theorem zRg {h0:AH}:∀ {v:Value} {l:List GT},RT h0 v l->∀ (kk nn:Int),zTs h0 kk nn v l
 | v,l,.mk (els:=els) ha hn hc,kk,nn=>by
  intro k kk' nn' v' l' hr' hk
  have hrt:RT h0 v l:=.mk ha hn hc
  have hch:=zNS hc
  have hlen:=RC.length hc
  obtain ⟨sa,sc,hv⟩:=hrt.slice
  obtain ⟨sa',sc',hv'⟩:=hr'.slice
  subst hv
  subst hv'
  refine zaY (s:=true) hk.ok rfl (zWi ?_)
  simp only [zd,zL,zV,zA]
  refine zWh ?_
  have o1:=((Own.fresh k).new (.row [.int .i64 kk,.int .i64 nn,.slice sa l.length sc] 173 0 false)).new (.row [.int .i64 kk',.int .i64 nn',.slice sa' l'.length sc'] 173 0 false)
  have t1:((k.fresh.new (.row [.int .i64 kk,.int .i64 nn,.slice sa l.length sc] 173 0 false)).new (.row [.int .i64 kk',.int .i64 nn',.slice sa' l'.length sc'] 173 0 false)).get k.next=some (.row [.int .i64 kk,.int .i64 nn,.slice sa l.length sc] 173 0 false):=by
   rw [zK (by simp)];exact zI k.fresh _
  have t2:((k.fresh.new (.row [.int .i64 kk,.int .i64 nn,.slice sa l.length sc] 173 0 false)).new (.row [.int .i64 kk',.int .i64 nn',.slice sa' l'.length sc'] 173 0 false)).get (k.next+1)=some (.row [.int .i64 kk',.int .i64 nn',.slice sa' l'.length sc'] 173 0 false):=zI (k.fresh.new _) _
  have n1:((k.fresh.new (.row [.int .i64 kk,.int .i64 nn,.slice sa l.length sc] 173 0 false)).new (.row [.int .i64 kk',.int .i64 nn',.slice sa' l'.length sc'] 173 0 false)).next=k.next+2:=rfl
  simp only [zZ,AH.next_new]
  generalize ((k.fresh.new (.row [.int .i64 kk,.int .i64 nn,.slice sa l.length sc] 173 0 false)).new (.row [.int .i64 kk',.int .i64 nn',.slice sa' l'.length sc'] 173 0 false))=k1 at o1 t1 t2 n1
  have l0:=zF (P:=E) zAS (o:=0) t1
  have l1:=zF (P:=E) zAS (o:=1) t1
  have l2:=zF (P:=E) zDP (o:=2) t1
  have m0:=zF (P:=E) zAS (o:=0) t2
  have m1:=zF (P:=E) zAS (o:=1) t2
  have m2:=zF (P:=E) zDP (o:=2) t2
  simp only [lnth] at l0 l1 l2 m0 m1 m2
  simp only [zFN,zFM,zAY,Nat.add_zero,Nat.zero_add,l0,l1,l2,m0,m1,m2,zA,zMN,zMM,zS,zHP o1.ext.ok,zN,zC1,zB8,true_and,bs47_3,zL]
  rw [or3 o1.ext.ok]
  simp only [zN,zA]
  refine zWg ?_
  have o2:=o1.new (.row [.int .i64 (c3 kk kk'),.int .i64 (c3 nn nn'),.int .i64 (c3 l.length l'.length)] 3 0 false)
  have s1:(k1.new (.row [.int .i64 (c3 kk kk'),.int .i64 (c3 nn nn'),.int .i64 (c3 l.length l'.length)] 3 0 false)).get k.next=_:=(zK (by omega)).trans t1
  have s2:(k1.new (.row [.int .i64 (c3 kk kk'),.int .i64 (c3 nn nn'),.int .i64 (c3 l.length l'.length)] 3 0 false)).get (k.next+1)=_:=(zK (by omega)).trans t2
  simp only [zA,zAz,zM4]
  show (_->P219_3 _ _ _ (k1.new (.row [.int .i64 (c3 kk kk'),.int .i64 (c3 nn nn'),.int .i64 (c3 l.length l'.length)] 3 0 false)))/\(_->P219_4 _ _ _ _ (k1.new (.row [.int .i64 (c3 kk kk'),.int .i64 (c3 nn nn'),.int .i64 (c3 l.length l'.length)] 3 0 false)))
  generalize (k1.new (.row [.int .i64 (c3 kk kk'),.int .i64 (c3 nn nn'),.int .i64 (c3 l.length l'.length)] 3 0 false))=k2 at o2 s1 s2
  refine ⟨fun h=>zWf ?_,fun h=>zWe ?_⟩
  ·have h':orI [c3 kk kk',c3 nn nn',c3 l.length l'.length]≠0:=h
   simp only [zA,zAJ,zT,true_and,zJZ,if_pos h']
   exact ⟨rfl,o2.wm⟩
  ·have h':¬ orI [c3 kk kk',c3 nn nn',c3 l.length l'.length]≠0:=fun hc=>hc h
   have p2:=zF (P:=E) zDP (o:=2) s1
   have q2:=zF (P:=E) zDP (o:=2) s2
   simp only [lnth] at p2 q2
   cases hr' with
   | @mk _ els' _ ha' hn' hc'=>
    have hlen':=RC.length hc'
    have:=zTK (h0:=h0) (f:=.func (.func 219) #[] #[]) (cf:=zMu l l') ha ha' hn (RC.leafs hc) (RC.leafs hc') (fun k3 hk3 i e1 e2 he1 he2=>by
     obtain ⟨ck,cn,cv,cl,q1,q2',q3,q4⟩:=hch i e1 he1
     obtain ⟨dk,dn,dv,dl,r1,r2,r3⟩:=RC.at hc' i e2 he2
     subst q1
     subst r1
     have:=q4 k3 dk dn dv dl r2 hk3
     simp only [zS,zMu,q3,r3]
     exact this) (hk.trans o2.ext)
    simp only [zAY,Nat.zero_add,p2,q2,zA,zS,this,zN,zAJ,zT,true_and,zJZ,if_neg h']
    refine ⟨?_,o2.wm⟩
    rw [hlen,hlen',zFx _ _ _ _ (by omega),if_pos (Nat.zero_le _)]
    simp
theorem zNS {h0:AH}:∀ {els:List (List Value)} {ts:List GT},RC h0 els ts->∀ (i:Nat) (e:List Value),els[i]?=some e->
  ∃ (k n:Int) (v:Value) (l:List GT),e=[.int .i64 k,.int .i64 n,v]/\RT h0 v l/\ts[i]?=some (.mk k n l)/\zTs h0 k n v l
 | _,_,.nil,i,e,h=>by simp at h
 | _,_,.cons hv hs,0,e,h=>by simp at h;exact ⟨_,_,_,_,h.symm,hv,rfl,zRg hv _ _⟩
 | _,_,.cons hv hs,i+1,e,h=>by
  simp only [List.getElem?_cons_succ] at h
  obtain ⟨k,n,v,l,a,b,c,d⟩:=zNS hs i e h
  exact ⟨k,n,v,l,a,b,by simpa using c,d⟩
end
theorem call218 {h0 k:AH} {v v':Value} {l l':List GT} (hr:RT h0 v l) (hr':RT h0 v' l') (hk:Ext h0 k):(zW E).call 218 [v,v',.func (.func 219) #[] #[]] k=some [(.int .i64 (zDs l l'),k)]:=by
 refine zaZ (s:=true) hk.ok rfl (zWk ?_)
 refine zWj ?_
 cases hr with
 | @mk _ els _ ha hn hc=>
 cases hr' with
 | @mk _ els' _ ha' hn' hc'=>
  have hlen:=RC.length hc
  have hlen':=RC.length hc'
  have:=zTK (h0:=h0) (f:=.func (.func 219) #[] #[]) (cf:=zMu l l') ha ha' hn (RC.leafs hc) (RC.leafs hc') (fun k3 hk3 i e1 e2 he1 he2=>by
   obtain ⟨ck,cn,cv,cl,q1,q2',q3⟩:=RC.at hc i e1 he1
   obtain ⟨dk,dn,dv,dl,r1,r2,r3⟩:=RC.at hc' i e2 he2
   subst q1
   subst r1
   have:=zRg q2' ck cn k3 dk dn dv dl r2 hk3
   simp only [zS,zMu,q3,r3]
   exact this) hk.fresh
  simp only [zA,zS,this,zN,zAJ,zT,true_and]
  refine ⟨?_,by simp⟩
  rw [hlen,hlen',zFx _ _ _ _ (by omega),if_pos (Nat.zero_le _)]
  simp
def zCM (g:Int) (l:List GT) (g':Int) (l':List GT):Int:=orI [c3 g g',zDs l l']
theorem zM1 {h0 k:AH} {g g':Int} {v v':Value} {l l':List GT} (hr:RT h0 v l) (hr':RT h0 v' l') (hk:Ext h0 k) :
  (zW E).call 168 [.agg #[.int .i64 g,v],.agg #[.int .i64 g',v']] k=some [(.int .i64 (zCM g l g' l'),k)]:=by
 obtain ⟨sa,sc,hv⟩:=hr.slice
 obtain ⟨sa',sc',hv'⟩:=hr'.slice
 subst hv
 subst hv'
 refine zap (s:=true) hk.ok rfl (zXw ?_)
 simp only [zd,zL,zV,zA]
 refine zXv ?_
 have o1:=((Own.fresh k).new (.row [.int .i64 g,.slice sa l.length sc] 36 0 false)).new (.row [.int .i64 g',.slice sa' l'.length sc'] 36 0 false)
 have t1:((k.fresh.new (.row [.int .i64 g,.slice sa l.length sc] 36 0 false)).new (.row [.int .i64 g',.slice sa' l'.length sc'] 36 0 false)).get k.next=some (.row [.int .i64 g,.slice sa l.length sc] 36 0 false):=by
  rw [zK (by simp)];exact zI k.fresh _
 have t2:((k.fresh.new (.row [.int .i64 g,.slice sa l.length sc] 36 0 false)).new (.row [.int .i64 g',.slice sa' l'.length sc'] 36 0 false)).get (k.next+1)=some (.row [.int .i64 g',.slice sa' l'.length sc'] 36 0 false):=zI (k.fresh.new _) _
 simp only [zZ,AH.next_new]
 generalize ((k.fresh.new (.row [.int .i64 g,.slice sa l.length sc] 36 0 false)).new (.row [.int .i64 g',.slice sa' l'.length sc'] 36 0 false))=k1 at o1 t1 t2
 have l0:=zF (P:=E) zAS (o:=0) t1
 have l1:=zF (P:=E) zDP (o:=1) t1
 have m0:=zF (P:=E) zAS (o:=0) t2
 have m1:=zF (P:=E) zDP (o:=1) t2
 simp only [lnth] at l0 l1 m0 m1
 simp only [zBI,zBy,Nat.add_zero,Nat.zero_add,l0,l1,m0,m1,zA,zS,zHP o1.ext.ok,zN,zB8,true_and,call218 hr hr' (hk.trans o1.ext),bs47_2,zL]
 rw [or2 o1.ext.ok]
 simp only [zN,zAJ,zT,true_and]
 exact ⟨rfl,o1.wm⟩
theorem call216 {h0 k:AH} {kk nn:Int} {v:Value} {l:List GT} (hr:RT h0 v l) (hk:Ext h0 k):(zW E).call 216 [.agg #[.int .i64 kk,.int .i64 nn,v]] k=some [(.bool (!zFn (.mk kk nn l)),k)]:=by
 refine zab (s:=true) hk.ok rfl (zWt ?_)
 simp only [zd,zL,zV,zA]
 refine zWs ?_
 have o1:=(Own.fresh k).new (.row [.int .i64 kk,.int .i64 nn,v] 173 0 false)
 have t1:=zI k.fresh (.row [.int .i64 kk,.int .i64 nn,v] 173 0 false)
 simp only [zZ] at t1 ⊢
 generalize k.fresh.new (.row [.int .i64 kk,.int .i64 nn,v] 173 0 false)=k1 at o1 t1
 have lt:=za (P:=E) zB9 (o:=0) t1 (by simp)
 simp only [List.drop_zero,List.take] at lt
 simp only [lt,zA,zS,call217 hr (hk.trans o1.ext),zN,zv,zAJ,zT,true_and]
 exact o1.wm
def zTe (g:Int):Bool:=decide (g=-3)||decide (g=-1)
def zA0 (g:Int) (l:List GT):Bool:=decide (g < -3)||decide (32<=g)||decide (8<l.length)||(zTe g&&decide (0<l.length))||decide (0<=zm (zNX l zFn) l.length 0)
theorem call167 {h0 k:AH} {g:Int} {v:Value} {l:List GT} (hr:RT h0 v l) (hk:Ext h0 k):(zW E).call 167 [.agg #[.int .i64 g,v]] k=some [(.int .i64 (if zA0 g l then 170 else 0),k)]:=by
 refine zaq (s:=true) hk.ok rfl (zX1 ?_)
 have hr0:=hr
 obtain ⟨sa,sc,hv⟩:=hr.slice
 subst hv
 simp only [zd,zL,zV,zA]
 refine zX0 ?_
 have o1:=(Own.fresh k).new (.row [.int .i64 g,.slice sa l.length sc] 36 0 false)
 have t1:=zI k.fresh (.row [.int .i64 g,.slice sa l.length sc] 36 0 false)
 simp only [zZ] at t1 ⊢
 generalize k.fresh.new (.row [.int .i64 g,.slice sa l.length sc] 36 0 false)=k1 at o1 t1
 have l0:=zF (P:=E) zAS (o:=0) t1
 have l1:=zF (P:=E) zDP (o:=1) t1
 simp only [lnth] at l0 l1
 have hb:P167_2 true (KR E [.tmp 2] (fun x m=>x=.int .i64 (if zA0 g l then 170 else 0)/\k.next<=m.wm)) (.pointer (some ⟨k.next,0,none⟩)) (.bool (zTe g)) k1:=by
  refine zXz ?_
  have hcf:(zW E).call 215 [.slice sa l.length sc,.func (.func 216) #[] #[]] k1=some [(.bool (decide (0<=zm (zNX l zFn) l.length 0)),k1)]:=by
   cases hr0 with
   | @mk _ els _ ha hn hc=>
    have:=zTL (h0:=h0) (f:=.func (.func 216) #[] #[]) (p:=zNX l zFn) ha hn (fun k2 hk2 i e he=>by
     obtain ⟨ck,cn,cv,cl,q1,q2,q3⟩:=RC.at hc i e he
     subst q1
     simp only [zS,zNX,q3]
     exact call216 q2 hk2) (hk.trans o1.ext)
    rw [RC.length hc] at this
    exact this
  have hend:∀ b:Bool,(BrK (some (.bool b)) (P167_3 true (KR E [.tmp 2] (fun x m=>x=.int .i64 (if b then 170 else 0)/\k.next<=m.wm)) k1) (P167_4 true (KR E [.tmp 2] (fun x m=>x=.int .i64 (if b then 170 else 0)/\k.next<=m.wm)) k1)):=by
   intro b
   cases b with
   | true=>
    rw [zu]
    refine zXy ?_
    simp [zA,zAJ,zT,o1.wm]
   | false=>
    rw [zk]
    refine zXx ?_
    simp [zA,zAJ,zT,o1.wm]
  have hE:=hend (zA0 g l)
  simp only [zBI,zBy,Nat.add_zero,Nat.zero_add,l0,zA,zY,zM,zJ]
  by_cases c1:g < -3
  ·simpa [zA0,c1,zA,zM,zP,zt,zx,zJ,zL] using hE
  ·by_cases c2:32<=g
   ·simpa [zA0,c1,c2,l0,zBI,zAP,zA,zM,zP,zt,zx,zJ,zL] using hE
   ·by_cases c3:8<l.length
    ·have c3':(8:Int)<l.length:=by omega
     simpa [zA0,c1,c2,c3,c3',l0,l1,zBI,zBy,zAP,zAH,zDV,zA,zM,zP,zt,zx,zJ,zL] using hE
    ·have c3':¬ (8:Int)<l.length:=by omega
     by_cases c4:zTe g=true
     ·by_cases c5:0<l.length
      ·have c5':(0:Int)<l.length:=by omega
       simpa [zA0,c1,c2,c3,c3',c4,c5,c5',l0,l1,zBI,zBy,zAP,zAH,zDV,zEj,zA,zM,zP,zt,zx,zJ,zL,hcf,zN,zS] using hE
      ·have c5':¬ (0:Int)<l.length:=by omega
       simpa [zA0,c1,c2,c3,c3',c4,c5,c5',l0,l1,zBI,zBy,zAP,zAH,zDV,zEj,zA,zM,zP,zt,zx,zJ,zL,hcf,zN,zS] using hE
     ·simpa [zA0,c1,c2,c3,c3',c4,l0,l1,zBI,zBy,zAP,zAH,zDV,zEj,zA,zM,zP,zt,zx,zJ,zL,hcf,zN,zS] using hE
 simp only [zBI,Nat.add_zero,l0,zA,zAZ,zM]
 by_cases c1:g=-3
 ·simp only [c1,decide_true,show ((true==false)=false) from rfl,cond_false,zA,zJ,cond_true]
  simpa [zTe,c1] using hb
 ·by_cases c2:g=-1
  ·simp only [c1,c2,decide_true,decide_false,show ((false==false)=true) from rfl,cond_false,zA,zJ,cond_true,zBI,Nat.add_zero,l0,zAZ]
   simpa [zTe,c1,c2,l0,zA,zAZ] using hb
  ·simp only [c1,c2,decide_true,decide_false,show ((false==false)=true) from rfl,cond_false,zA,zJ,cond_true,zBI,Nat.add_zero,l0,zAZ]
   simpa [zTe,c1,c2,l0,zA,zAZ] using hb
end Go.Proofs
namespace Go.Proofs
open Go Go.AM
set_option maxRecDepth 100000
set_option maxHeartbeats 2000000
structure GL where
 n:Int
 labs:List (Int×List GT)
 eds:List (Int×Int×Int)
inductive RLab (h:AH):List (List Value)->List (Int×List GT)->Prop
 | nil:RLab h [] []
 | cons {g:Int} {v:Value} {l:List GT} {els:List (List Value)} {ls:List (Int×List GT)} (hv:RT h v l) (hs:RLab h els ls):RLab h ([.int .i64 g,v]::els) ((g,l)::ls)
def zb (e:Int×Int×Int):List Value:=[.int .i64 e.1,.int .i64 e.2.1,.int .i64 e.2.2]
structure RL (h:AH) (x:Value) (L:GL):Prop where
 ex:∃ vl ve elsL,x=.agg #[.int .i64 L.n,vl,ve]/\Arr h 2 vl elsL/\RLab h elsL L.labs/\Arr h 3 ve (L.eds.map zb)
theorem RLab.ext {h k:AH} (e:Ext h k):∀ {els:List (List Value)} {ls:List (Int×List GT)},RLab h els ls->RLab k els ls
 | _,_,.nil=>.nil
 | _,_,.cons hv hs=>.cons (hv.ext e) (RLab.ext e hs)
theorem RLab.length {h:AH}:∀ {els:List (List Value)} {ls:List (Int×List GT)},RLab h els ls->els.length=ls.length
 | _,_,.nil=>rfl
 | _,_,.cons _ hs=>by simp [RLab.length hs]
theorem RLab.at {h:AH}:∀ {els:List (List Value)} {ls:List (Int×List GT)},RLab h els ls->∀ (i:Nat) (e:List Value),els[i]?=some e->∃ (g:Int) (v:Value) (l:List GT),e=[.int .i64 g,v]/\RT h v l/\ls[i]?=some (g,l)
 | _,_,.nil,i,e,h=>by simp at h
 | _,_,.cons hv hs,0,e,h=>by simp at h;exact ⟨_,_,_,h.symm,hv,rfl⟩
 | _,_,.cons hv hs,i+1,e,h=>by simp only [List.getElem?_cons_succ] at h;obtain ⟨g,v,l,a,b,c⟩:=RLab.at hs i e h;exact ⟨g,v,l,a,b,by simpa using c⟩
theorem RL.ext {h k:AH} {x:Value} {L:GL} (r:RL h x L) (e:Ext h k):RL k x L:=by
 obtain ⟨vl,ve,els,a,b,c,d⟩:=r.ex
 exact ⟨vl,ve,els,a,b.ext e,c.ext e,d.ext e⟩
theorem Arr.slice {h:AH} {z:Nat} {v:Value} {els:List (List Value)} (a:Arr h z v els):∃ ad c,v=.slice ad els.length c:=by
 cases a with
 | nil a c=>exact ⟨a,c,rfl⟩
 | row=>exact ⟨_,_,rfl⟩
theorem zM0 {k:AH} {a b:Int} (hok:k.ok):(zW E).call 169 [.int .i64 a,.int .i64 b] k=some [(.bool (decide (0<=a)&&decide (a<b)),k)]:=by
 refine zao (s:=true) hok rfl (zXu ?_)
 refine zXt ?_
 simp only [zA,zAP,zM]
 by_cases c1:0<=a
 ·simp [c1,zA,zY,zJ,zAJ,zT]
 ·simp [c1,zA,zY,zJ,zAJ,zT]
def zTC (e f:Int×Int×Int):Int:=orI [c3 e.1 f.1,c3 e.2.1 f.2.1,c3 e.2.2 f.2.2]
theorem call170 {k:AH} {e f:Int×Int×Int} (hok:k.ok):(zW E).call 170 [.agg ⟨zb e⟩,.agg ⟨zb f⟩] k=some [(.int .i64 (zTC e f),k)]:=by
 refine zam (s:=true) hok rfl (zXs ?_)
 simp only [zd,zL,zV,zA]
 refine zXr ?_
 have o1:=((Own.fresh k).new (.row (zb e) 52 0 false)).new (.row (zb f) 52 0 false)
 have t1:((k.fresh.new (.row (zb e) 52 0 false)).new (.row (zb f) 52 0 false)).get k.next=some (.row (zb e) 52 0 false):=by
  rw [zK (by simp)];exact zI k.fresh _
 have t2:((k.fresh.new (.row (zb e) 52 0 false)).new (.row (zb f) 52 0 false)).get (k.next+1)=some (.row (zb f) 52 0 false):=zI (k.fresh.new _) _
 simp only [zZ,AH.next_new]
 generalize ((k.fresh.new (.row (zb e) 52 0 false)).new (.row (zb f) 52 0 false))=k1 at o1 t1 t2
 have l0:=zF (P:=E) zAS (o:=0) t1
 have l1:=zF (P:=E) zAS (o:=1) t1
 have l2:=zF (P:=E) zAS (o:=2) t1
 have m0:=zF (P:=E) zAS (o:=0) t2
 have m1:=zF (P:=E) zAS (o:=1) t2
 have m2:=zF (P:=E) zAS (o:=2) t2
 simp only [lnth,zb] at l0 l1 l2 m0 m1 m2
 simp only [zDY,zDX,zBx,Nat.add_zero,Nat.zero_add,l0,l1,l2,m0,m1,m2,zA,zS,zHP o1.ext.ok,zN,zC1,true_and,bs47_3,zL]
 rw [or3 o1.ext.ok]
 simp only [zN,zA,zAJ,zT,true_and]
 exact ⟨rfl,o1.wm⟩
def zBF (ls:List (Int×List GT)) (i:Nat):Bool:=match ls[i]? with
 | some x=>zA0 x.1 x.2||(decide (0<i)&&match ls[i-1]? with
  | some y=>decide (0<=zCM y.1 y.2 x.1 x.2)
  | none=>false)
 | none=>false
def zBL (n m:Int) (es:List (Int×Int×Int)) (i:Nat):Bool:=match es[i]? with
 | some e=>!(decide (0<=e.1)&&decide (e.1<n))||!(decide (0<=e.2.2)&&decide (e.2.2<n))||!(decide (0<=e.2.1)&&decide (e.2.1<m))||(decide (0<i)&&match es[i-1]? with
  | some f=>decide (0<=zTC f e)
  | none=>false)
 | none=>false
def zAI (p:Nat->Bool):Nat->Nat->Bool
 | 0,_=>false
 | m+1,i=>p i||zAI p m (i+1)
theorem zCT {p:Nat->Bool}:∀ {m i:Nat},zAI p m i=false->∀ j,i<=j->j<i+m->p j=false
 | 0,i,_,j,h1,h2=>by omega
 | m+1,i,h,j,h1,h2=>by
  simp only [zAI,Bool.or_eq_false_iff] at h
  by_cases e:j=i
  ·rw [e];exact h.1
  ·exact zCT h.2 j (by omega) (by omega)
def zA3 (L:GL):Bool:=decide (L.n<1)||decide (20000<L.n)||decide (4000<L.labs.length)||decide (100000<L.eds.length)
def zAL (L:GL):Bool:=zA3 L||zAI (zBF L.labs) L.labs.length 0||zAI (zBL L.n L.labs.length L.eds) L.eds.length 0
abbrev kf8 (k:AH) (b:Bool):KF:=KR E [.tmp 2] (fun x m=>x=.int .i64 (if b then 8 else 0)/\k.next<=m.wm)
theorem put2:∀ (e:List Value),e.length=2->lput [Value.int .i64 0,.slice none 0 0] 0 e=e:=by
 intro e he
 match e,he with
 | [x,y],_=>rfl
theorem put3i:∀ (e:List Value),e.length=3->lput [Value.int .i64 0,.int .i64 0,.int .i64 0] 0 e=e:=by
 intro e he
 match e,he with
 | [x,y,z],_=>rfl
theorem sub1 {i:Nat} (h:0<i) (hi:i<=9223372036854775807) (t:TypeId):zC E .sub t (.int .i64 (i:Int)) (.int .i64 1)=some (.int .i64 ((i-1:Nat):Int)):=by
 rw [zHR _ (by unfold zCx;omega)]
 congr 2;omega
theorem call121 {h0 k:AH} {x:Value} {L:GL} (hr:RL h0 x L) (hk:Ext h0 k):(zW E).call 121 [x] k=some [(.int .i64 (if zAL L then 8 else 0),k)]:=by
 obtain ⟨vl,ve,elsL,hx,haL,hL,haE⟩:=hr.ex
 obtain ⟨aL,cL,hvl⟩:=haL.slice
 obtain ⟨aE,cE,hve⟩:=haE.slice
 rw [RLab.length hL] at hvl
 rw [List.length_map] at hve
 subst hvl
 subst hve
 subst hx
 refine zbA (s:=true) hk.ok rfl (zaD ?_)
 simp only [zd,zL,zV,zA]
 refine zaC ?_
 have o1:=(Own.fresh k).new (.row [.int .i64 L.n,.slice aL L.labs.length cL,.slice aE L.eds.length cE] 25 0 false)
 have t1:=zI k.fresh (.row [.int .i64 L.n,.slice aL L.labs.length cL,.slice aE L.eds.length cE] 25 0 false)
 simp only [zZ] at t1 ⊢
 have n1:(k.fresh.new (.row [.int .i64 L.n,.slice aL L.labs.length cL,.slice aE L.eds.length cE] 25 0 false)).next=k.next+1:=rfl
 generalize k.fresh.new (.row [.int .i64 L.n,.slice aL L.labs.length cL,.slice aE L.eds.length cE] 25 0 false)=k1 at o1 t1 n1
 have box:∀ l,Ext k1 l->l.get k.next=some (.row [.int .i64 L.n,.slice aL L.labs.length cL,.slice aE L.eds.length cE] 25 0 false):=fun l hl=>(hl.get _ (by omega)).trans t1
 have edges:∀ (hs:zA3 L=false) (m i:Nat),i+m=L.eds.length->∀ l,Ext k1 l->k.next<=l.wm->
   P121_11 true (kf8 k (zAI (zBL L.n L.labs.length L.eds) m i)) (.pointer (some ⟨k.next,0,none⟩)) (.func (.func 169) #[] #[]) (.slice aE L.eds.length cE) (.int .i64 (L.eds.length:Int)) (.int .i64 (i:Int)) l:=by
  intro hs m
  have hle:L.eds.length<=100000:=by simp [zA3] at hs;omega
  induction m with
  | zero=>
   intro i hi l hl hw
   refine zIp ?_
   simp only [zY,zA,zAA]
   refine ⟨fun h=>by omega,fun _=>zQn ?_⟩
   simp [zA,zAJ,zT,zAI,hw]
  | succ m ih=>
   intro i hi l hl hw
   have hin:i<L.eds.length:=by omega
   refine zIp ?_
   simp only [zY,zA,zAA]
   refine ⟨fun _=>zQr ?_,fun h=>by omega⟩
   have hat:(L.eds.map zb)[i]?=some (zb L.eds[i]):=by simp [hin]
   obtain ⟨b,o,c,vs,ty,es,ro,hv,hb,hlt,hle2,hz,hzl⟩:=haE.load hat
   simp only [Value.slice.injEq] at hv
   obtain ⟨hv1,_,hv3⟩:=hv
   subst hv1
   have he0:Ext h0 l:=(hk.trans o1.ext).trans hl
   have gb:l.get b=some (.row vs ty es ro):=(he0.get b hlt).trans hb
   simp only [zA,ia_23 hin,za zJz gb hle2,hz,z_52,zd,zL,zV]
   rw [zw (P:=E) ts_52 (x:=.agg ⟨zb L.eds[i]⟩) (cs:=zb L.eds[i]) (zI l _) rfl hzl (by simp) (by simp [zb,zr])]
   simp only [zL]
   rw [put3i _ hzl]
   have hkl:=hl.next
   have e2:=(hl.new (.row [.int .i64 0,.int .i64 0,.int .i64 0] 52 0 false)).upd (b:=l.next) hkl (some (.row (zb L.eds[i]) 52 0 false))
   have w2:k.next<=((l.new (.row [.int .i64 0,.int .i64 0,.int .i64 0] 52 0 false)).upd l.next (some (.row (zb L.eds[i]) 52 0 false))).wm:=z9 (by rw [zC9];exact hw) (by omega)
   have t2:((l.new (.row [.int .i64 0,.int .i64 0,.int .i64 0] 52 0 false)).upd l.next (some (.row (zb L.eds[i]) 52 0 false))).get l.next=some (.row (zb L.eds[i]) 52 0 false):=zR _ _ _
   have g2:((l.new (.row [.int .i64 0,.int .i64 0,.int .i64 0] 52 0 false)).upd l.next (some (.row (zb L.eds[i]) 52 0 false))).get b=some (.row vs ty es ro):=by
    have h1:=hk.next
    have h2:=o1.ext.next
    rw [zU (by omega),zK (by omega)];exact gb
   generalize ((l.new (.row [.int .i64 0,.int .i64 0,.int .i64 0] 52 0 false)).upd l.next (some (.row (zb L.eds[i]) 52 0 false)))=l2 at e2 w2 t2 g2
   refine zQq ?_
   have b2:=box l2 e2
   have ok2:=e2.ok
   have n0:=zF (P:=E) zAS (o:=0) b2
   have n1:=zF (P:=E) zGI (o:=1) b2
   have n2:=zF (P:=E) zEe (o:=2) b2
   have c0:=zF (P:=E) zAS (o:=0) t2
   have c1:=zF (P:=E) zAS (o:=1) t2
   have c2:=zF (P:=E) zAS (o:=2) t2
   have ca:=za (P:=E) zJz (o:=0) t2 (by simp [zb])
   rw [List.drop_zero,List.take_of_length_le (by simp [zb])] at ca
   simp only [lnth,zb] at n0 n1 n2 c0 c1 c2
   have hend:∀ bad:Bool,zBL L.n L.labs.length L.eds i=bad->(BrK (some (.bool bad)) (P121_14 true (kf8 k (zAI (zBL L.n L.labs.length L.eds) (m+1) i)) l2) (P121_15 true (kf8 k (zAI (zBL L.n L.labs.length L.eds) (m+1) i)) (.pointer (some ⟨k.next,0,none⟩)) (.func (.func 169) #[] #[]) (.slice (some ⟨b,o,none⟩) L.eds.length cE) (.int .i64 (L.eds.length:Int)) (.int .i64 (i:Int)) l2)):=by
    intro bad hbad
    cases bad with
    | true=>
     rw [zu]
     refine zQp ?_
     simp [zA,zAJ,zT,w2,zAI,hbad]
    | false=>
     rw [zk]
     refine zQo ?_
     simp only [zAM _ (zD7 hin (by omega)),zA]
     have:=ih (i+1) (by omega) l2 e2 w2
     simp only [zAI,hbad,Bool.false_or]
     simpa using this
   simp only [zDY,zDX,zBx,zA2,Nat.add_zero,Nat.zero_add,n0,c0,c1,c2,zA,zS,zM0 ok2,zN,zv,zM,zP]
   have hatE:L.eds[i]?=some L.eds[i]:=List.getElem?_eq_getElem hin
   have q2:=zM0 (k:=l2) (a:=L.eds[i].2.2) (b:=L.n) ok2
   have q3:=zM0 (k:=l2) (a:=L.eds[i].2.1) (b:=(L.labs.length:Int)) ok2
   have hedge:zBL L.n L.labs.length L.eds i=(!(decide (0<=L.eds[i].1)&&decide (L.eds[i].1<L.n))||!(decide (0<=L.eds[i].2.2)&&decide (L.eds[i].2.2<L.n))||!(decide (0<=L.eds[i].2.1)&&decide (L.eds[i].2.1<(L.labs.length:Int)))||(decide (0<i)&&match L.eds[i-1]? with
    | some f=>decide (0<=zTC f L.eds[i])
    | none=>false)):=by simp only [zBL,hatE]
   generalize (decide (0<=L.eds[i].1)&&decide (L.eds[i].1<L.n))=A at hedge ⊢
   generalize (decide (0<=L.eds[i].2.2)&&decide (L.eds[i].2.2<L.n))=B at hedge q2
   generalize (decide (0<=L.eds[i].2.1)&&decide (L.eds[i].2.1<(L.labs.length:Int)))=D at hedge q3
   cases A with
   | false=>
    have:=hend true (by rw [hedge];rfl)
    simpa only [Bool.not_false,Bool.not_true,beq_self_eq_true,show (true==false)=false from rfl,show (false==true)=false from rfl,cond_true,cond_false,zA,zN,zv,zM,zP,zt,zx,zJ,zL] using this
   | true=>
    simp only [Bool.not_false,Bool.not_true,beq_self_eq_true,show (true==false)=false from rfl,show (false==true)=false from rfl,cond_true,cond_false,zA,zN,zv,zM,zP,zJ,zL,zDY,zDX,zBx,zA2,zBB,zBJ,Nat.add_zero,Nat.zero_add,n0,n1,n2,c0,c1,c2,zS,q2]
    cases B with
    | false=>
     have:=hend true (by rw [hedge];rfl)
     simpa only [Bool.not_false,Bool.not_true,beq_self_eq_true,show (true==false)=false from rfl,show (false==true)=false from rfl,cond_true,cond_false,zA,zN,zv,zM,zP,zt,zx,zJ,zL] using this
    | true=>
     simp only [Bool.not_false,Bool.not_true,beq_self_eq_true,show (true==false)=false from rfl,show (false==true)=false from rfl,cond_true,cond_false,zA,zN,zv,zM,zP,zJ,zL,zDY,zDX,zBx,zA2,zBB,zBJ,Nat.add_zero,Nat.zero_add,n0,n1,n2,c0,c1,c2,zS,zKX,q3]
     cases D with
     | false=>
      have:=hend true (by rw [hedge];rfl)
      simpa only [Bool.not_false,Bool.not_true,beq_self_eq_true,show (true==false)=false from rfl,show (false==true)=false from rfl,cond_true,cond_false,zA,zN,zv,zM,zP,zt,zx,zJ,zL] using this
     | true=>
      simp only [Bool.not_false,Bool.not_true,beq_self_eq_true,show (true==false)=false from rfl,show (false==true)=false from rfl,cond_true,cond_false,zA,zN,zv,zM,zP,zJ,zL,zAH]
      by_cases d4:0<i
      ·have d4':(0:Int)<i:=by omega
       have hin':i-1<L.eds.length:=by omega
       have hat':(L.eds.map zb)[i-1]?=some (zb L.eds[i-1]):=by simp [hin']
       obtain ⟨b',o',c',vs',ty',es',ro',hv',hb',hlt',hle2',hz',hzl'⟩:=haE.load hat'
       simp only [Value.slice.injEq] at hv'
       obtain ⟨hv1',_,_⟩:=hv'
       cases hv1'
       rw [hb] at hb'
       cases hb'
       have hee:zBL L.n L.labs.length L.eds i=decide (0<=zTC L.eds[i-1] L.eds[i]):=by rw [hedge,List.getElem?_eq_getElem hin'];simp [d4]
       have:=hend (decide (0<=zTC L.eds[i-1] L.eds[i])) hee
       simpa only [d4',zAH,decide_true,Bool.not_false,Bool.not_true,beq_self_eq_true,show (true==false)=false from rfl,show (false==true)=false from rfl,cond_true,cond_false,zA,zN,zv,zM,zP,zJ,zL,zBJ,Nat.zero_add,n2,sub1 d4 (by omega:i<=9223372036854775807),ia_23 hin',za zJz g2 hle2',hz',ca,zS,call170 ok2,zAP] using this
      ·have d4':¬ (0:Int)<i:=by omega
       have:=hend false (by rw [hedge];simp [d4])
       simpa only [d4',zAH,decide_false,Bool.not_false,Bool.not_true,beq_self_eq_true,show (true==false)=false from rfl,show (false==true)=false from rfl,cond_true,cond_false,zA,zN,zv,zM,zP,zt,zx,zJ,zL] using this
 have labels:∀ (hs:zA3 L=false) (m i:Nat),i+m=L.labs.length->∀ l,Ext k1 l->k.next<=l.wm->
   P121_4 true (kf8 k (zAI (zBF L.labs) m i||zAI (zBL L.n L.labs.length L.eds) L.eds.length 0)) (.pointer (some ⟨k.next,0,none⟩)) (.slice aL L.labs.length cL) (.int .i64 (L.labs.length:Int)) (.int .i64 (i:Int)) l:=by
  intro hs m
  have hle:L.labs.length<=4000:=by simp [zA3] at hs;omega
  induction m with
  | zero=>
   intro i hi l hl hw
   refine zLk ?_
   simp only [zY,zA,zAA]
   refine ⟨fun h=>by omega,fun _=>zZ5 ?_⟩
   refine zQs ?_
   have b2:=box l hl
   have n2:=zF (P:=E) zEe (o:=2) b2
   simp only [lnth] at n2
   simp only [zBJ,Nat.zero_add,n2,zA,zMT]
   have:=edges hs L.eds.length 0 (by omega) l hl hw
   simpa [zAI] using this
  | succ m ih=>
   intro i hi l hl hw
   have hin:i<L.labs.length:=by omega
   have hin2:i<elsL.length:=by rw [RLab.length hL];exact hin
   refine zLk ?_
   simp only [zY,zA,zAA]
   refine ⟨fun _=>zZ9 ?_,fun h=>by omega⟩
   obtain ⟨g,v,lt,hel,hrt,hatL⟩:=RLab.at hL i _ (List.getElem?_eq_getElem hin2)
   obtain ⟨b,o,c,vs,ty,es,ro,hv,hb,hlt,hle2,hz,hzl⟩:=haL.load (List.getElem?_eq_getElem hin2)
   rw [hel] at hz hzl
   simp only [Value.slice.injEq] at hv
   obtain ⟨hv1,_,hv3⟩:=hv
   subst hv1
   have he0:Ext h0 l:=(hk.trans o1.ext).trans hl
   have gb:l.get b=some (.row vs ty es ro):=(he0.get b hlt).trans hb
   simp only [zA,zMa hin,za zEO gb hle2,hz,z_36,zd,zL,zV]
   rw [zw (P:=E) zbQ (x:=.agg ⟨[.int .i64 g,v]⟩) (cs:=[.int .i64 g,v]) (zI l _) rfl hzl (by simp) (by simp [zr];exact zDS hrt)]
   simp only [zL]
   rw [put2 _ hzl]
   have hkl:=hl.next
   have e2:=(hl.new (.row [.int .i64 0,.slice none 0 0] 36 0 false)).upd (b:=l.next) hkl (some (.row [.int .i64 g,v] 36 0 false))
   have w2:k.next<=((l.new (.row [.int .i64 0,.slice none 0 0] 36 0 false)).upd l.next (some (.row [.int .i64 g,v] 36 0 false))).wm:=z9 (by rw [zC9];exact hw) (by omega)
   have t2:((l.new (.row [.int .i64 0,.slice none 0 0] 36 0 false)).upd l.next (some (.row [.int .i64 g,v] 36 0 false))).get l.next=some (.row [.int .i64 g,v] 36 0 false):=zR _ _ _
   have g2:((l.new (.row [.int .i64 0,.slice none 0 0] 36 0 false)).upd l.next (some (.row [.int .i64 g,v] 36 0 false))).get b=some (.row vs ty es ro):=by
    have h1:=hk.next
    have h2:=o1.ext.next
    rw [zU (by omega),zK (by omega)];exact gb
   generalize ((l.new (.row [.int .i64 0,.slice none 0 0] 36 0 false)).upd l.next (some (.row [.int .i64 g,v] 36 0 false)))=l2 at e2 w2 t2 g2
   refine zZ8 ?_
   have b2:=box l2 e2
   have he2:Ext h0 l2:=(hk.trans o1.ext).trans e2
   have n1:=zF (P:=E) zGI (o:=1) b2
   have ca:=za (P:=E) zEO (o:=0) t2 (by simp)
   simp only [lnth,List.drop_zero,List.take] at n1 ca
   have hend:∀ bad:Bool,zBF L.labs i=bad->(BrK (some (.bool bad)) (P121_7 true (kf8 k (zAI (zBF L.labs) (m+1) i||zAI (zBL L.n L.labs.length L.eds) L.eds.length 0)) l2) (P121_8 true (kf8 k (zAI (zBF L.labs) (m+1) i||zAI (zBL L.n L.labs.length L.eds) L.eds.length 0)) (.pointer (some ⟨k.next,0,none⟩)) (.slice (some ⟨b,o,none⟩) L.labs.length cL) (.int .i64 (L.labs.length:Int)) (.int .i64 (i:Int)) l2)):=by
    intro bad hbad
    cases bad with
    | true=>
     rw [zu]
     refine zZ7 ?_
     simp [zA,zAJ,zT,w2,zAI,hbad]
    | false=>
     rw [zk]
     refine zZ6 ?_
     simp only [zAM _ (zD7 hin (by omega)),zA]
     have:=ih (i+1) (by omega) l2 e2 w2
     simp only [zAI,hbad,Bool.false_or]
     simpa using this
   simp only [ca,zA,zS,call167 hrt he2,zN,zAz]
   have hlab:zBF L.labs i=(zA0 g lt||(decide (0<i)&&match L.labs[i-1]? with
    | some y=>decide (0<=zCM y.1 y.2 g lt)
    | none=>false)):=by simp only [zBF,hatL]
   cases hA:zA0 g lt with
   | true=>
    have:=hend true (by rw [hlab,hA];rfl)
    simpa only [hA,if_true,show (!decide ((170:Int)=0))=true from rfl,Bool.not_false,Bool.not_true,beq_self_eq_true,show (true==false)=false from rfl,show (false==true)=false from rfl,cond_true,cond_false,zA,zN,zv,zM,zP,zt,zx,zJ,zL] using this
   | false=>
    simp only [hA,Bool.false_eq_true,if_false,decide_true,Bool.not_false,Bool.not_true,beq_self_eq_true,show (true==false)=false from rfl,show (false==true)=false from rfl,cond_true,cond_false,zA,zN,zv,zM,zP,zt,zx,zJ,zL,zAH]
    by_cases d4:0<i
    ·have d4':(0:Int)<i:=by omega
     have hin':i-1<L.labs.length:=by omega
     have hin2':i-1<elsL.length:=by rw [RLab.length hL];exact hin'
     obtain ⟨g',v',lt',hel',hrt',hatL'⟩:=RLab.at hL (i-1) _ (List.getElem?_eq_getElem hin2')
     obtain ⟨b',o',c',vs',ty',es',ro',hv',hb',hlt',hle2',hz',hzl'⟩:=haL.load (List.getElem?_eq_getElem hin2')
     rw [hel'] at hz' hzl'
     simp only [Value.slice.injEq] at hv'
     obtain ⟨hv1',_,_⟩:=hv'
     cases hv1'
     rw [hb] at hb'
     cases hb'
     have hee:zBF L.labs i=decide (0<=zCM g' lt' g lt):=by rw [hlab,hA,hatL'];simp [d4]
     have:=hend (decide (0<=zCM g' lt' g lt)) hee
     simpa only [d4',zAH,decide_true,Bool.not_false,Bool.not_true,beq_self_eq_true,show (true==false)=false from rfl,show (false==true)=false from rfl,cond_true,cond_false,zA,zN,zv,zM,zP,zt,zx,zJ,zL,zBB,Nat.zero_add,n1,sub1 d4 (by omega:i<=9223372036854775807),zMa hin',za zEO g2 hle2',hz',ca,zS,zM1 hrt' hrt he2,zAP] using this
    ·have d4':¬ (0:Int)<i:=by omega
     have:=hend false (by rw [hlab,hA];simp [d4])
     simpa only [d4',zAH,decide_false,Bool.not_false,Bool.not_true,beq_self_eq_true,show (true==false)=false from rfl,show (false==true)=false from rfl,cond_true,cond_false,zA,zN,zv,zM,zP,zt,zx,zJ,zL] using this
 have n0:=zF (P:=E) zAS (o:=0) t1
 have n1':=zF (P:=E) zGI (o:=1) t1
 have n2:=zF (P:=E) zEe (o:=2) t1
 simp only [lnth] at n0 n1' n2
 have hend:∀ bad:Bool,zA3 L=bad->(BrK (some (.bool bad)) (P121_2 true (kf8 k (zAL L)) k1) (P121_3 true (kf8 k (zAL L)) (.pointer (some ⟨k.next,0,none⟩)) k1)):=by
  intro bad hbad
  cases bad with
  | true=>
   rw [zu]
   refine zaB ?_
   simp [zA,zAJ,zT,o1.wm,zAL,hbad]
  | false=>
   rw [zk]
   refine zaA ?_
   simp only [zBB,Nat.zero_add,n1',zA,zPd]
   have:=labels hbad L.labs.length 0 (by omega) k1 (Ext.refl o1.ext.ok) o1.wm
   simp only [zAL,hbad,Bool.false_or]
   simpa using this
 simp only [zA2,Nat.add_zero,n0,zA,zY]
 by_cases d1:L.n<1
 ·have:=hend true (by simp [zA3,d1])
  simpa only [d1,decide_true,Bool.not_false,Bool.not_true,beq_self_eq_true,show (true==false)=false from rfl,show (false==true)=false from rfl,cond_true,cond_false,zA,zN,zv,zM,zP,zt,zx,zJ,zL] using this
 ·simp only [d1,decide_false,Bool.not_false,Bool.not_true,beq_self_eq_true,show (true==false)=false from rfl,show (false==true)=false from rfl,cond_true,cond_false,zA,zN,zv,zM,zP,zt,zx,zJ,zL,zA2,Nat.add_zero,n0,zAH]
  by_cases d2:20000<L.n
  ·have:=hend true (by simp [zA3,d2])
   simpa only [d2,decide_true,Bool.not_false,Bool.not_true,beq_self_eq_true,show (true==false)=false from rfl,show (false==true)=false from rfl,cond_true,cond_false,zA,zN,zv,zM,zP,zt,zx,zJ,zL] using this
  ·simp only [d2,decide_false,Bool.not_false,Bool.not_true,beq_self_eq_true,show (true==false)=false from rfl,show (false==true)=false from rfl,cond_true,cond_false,zA,zN,zv,zM,zP,zt,zx,zJ,zL,zBB,Nat.zero_add,n1',zMS,zAH]
   by_cases d3:4000<L.labs.length
   ·have d3':(4000:Int)<L.labs.length:=by omega
    have:=hend true (by simp [zA3,d3])
    simpa only [d3',decide_true,Bool.not_false,Bool.not_true,beq_self_eq_true,show (true==false)=false from rfl,show (false==true)=false from rfl,cond_true,cond_false,zA,zN,zv,zM,zP,zt,zx,zJ,zL] using this
   ·have d3':¬ (4000:Int)<L.labs.length:=by omega
    simp only [d3',decide_false,Bool.not_false,Bool.not_true,beq_self_eq_true,show (true==false)=false from rfl,show (false==true)=false from rfl,cond_true,cond_false,zA,zN,zv,zM,zP,zt,zx,zJ,zL,zBJ,Nat.zero_add,n2,zMR,zAH]
    by_cases d4:100000<L.eds.length
    ·have d4':(100000:Int)<L.eds.length:=by omega
     have:=hend true (by simp [zA3,d4])
     simpa only [d4',zAH,decide_true,Bool.not_false,Bool.not_true,beq_self_eq_true,show (true==false)=false from rfl,show (false==true)=false from rfl,cond_true,cond_false,zA,zN,zv,zM,zP,zt,zx,zJ,zL] using this
    ·have d4':¬ (100000:Int)<L.eds.length:=by omega
     have:=hend false (by simp [zA3,d1,d2,d3,d4])
     simpa only [d4',zAH,decide_false,Bool.not_false,Bool.not_true,beq_self_eq_true,show (true==false)=false from rfl,show (false==true)=false from rfl,cond_true,cond_false,zA,zN,zv,zM,zP,zt,zx,zJ,zL] using this
end Go.Proofs
namespace Go.Proofs
open Go Go.AM
structure More (w:World) (σ:Sg) (h:AH) (σ':Sg) (h':AH):Prop where
 le:Sg.le σ σ'
 ext:Ext h h'
 hr:HR w.heap.size σ' h' w
theorem More.refl {w:World} {σ:Sg} {h:AH} (H:HR w.heap.size σ h w) (ok:h.ok):More w σ h σ h:=⟨Sg.le_refl σ,Ext.refl ok,H⟩
theorem More.trans {w:World} {σ σ1 σ2:Sg} {h h1 h2:AH} (a:More w σ h σ1 h1) (b:More w σ1 h1 σ2 h2):More w σ h σ2 h2:=⟨Sg.le_trans a.le b.le,a.ext.trans b.ext,b.hr⟩
theorem More.ok {w:World} {σ σ':Sg} {h h':AH} (a:More w σ h σ' h'):h'.ok:=a.ext.ok
theorem HR.addRO {σ:Sg} {h:AH} {w:World} (H:HR w.heap.size σ h w) (hok:h.ok) {vs:List Value} {el:TypeId} {cs:Array Value} {frz:Nat×Nat} {l:AM.Loc} (hb:w.heap[l.blk]?=some (.cells cs el frz))
  (hsz:l.base+vs.length<=cs.size) (hc:∀ i v,vs[i]?=some v->∃ v',cs[l.base+i]?=some v'/\VR σ v v') :
  More w σ h (σ.ext h.next l) (h.new (.row vs el 0 true)):=by
 have hlt:l.blk<w.heap.size:=zAe hb
 have le:Sg.le σ (σ.ext h.next l):=Sg.le_ext H.free
 refine ⟨le,(Ext.refl hok).new _,?_,?_,?_,?_,Nat.le_refl _⟩
 ·intro b m e
  unfold Sg.ext at e
  split at e
  ·rename_i hb;subst hb;simp
  ·have:=H.dom _ _ e;simp;omega
 ·intro b hb
  rw [AH.get_new]
  simp at hb
  rw [if_neg (by omega)];exact H.fresh b (by omega)
 ·intro b x e
  rw [AH.get_new] at e
  by_cases hb':b=h.next
  ·subst hb'
   rw [if_pos rfl] at e
   cases e
   exact ⟨l,Sg.ext_self ..,⟨cs,el,frz,hb,hsz,fun i v hi=>(let ⟨v',a,b⟩:=hc i v hi;⟨v',a,b.mono le⟩),fun e=>(by cases e),rfl,fun _ e=>(by cases e),fun e=>absurd rfl e⟩,fun e=>(by cases e)⟩
  ·rw [if_neg hb'] at e
   obtain ⟨m,a,c,d⟩:=H.live b x e
   refine ⟨m,le _ _ a,c.mono le rfl (fun i es v lm hi hs=>?_),d⟩
   rw [AH.get_new] at hi
   have hin:i≠h.next:=by intro e;subst e;rw [H.free] at hs;cases hs
   rw [if_neg hin] at hi
   exact ⟨hi,rfl⟩
 ·have other:∀ b' o2 l2,(h.new (.row vs el 0 true)).get b'=some o2->(σ.ext h.next l) b'=some l2->l.blk=l2.blk->b'≠h.next->isRO o2=true:=by
   intro b' o2 l2 e2 s2 hblk hne
   rw [AH.get_new,if_neg hne] at e2
   unfold Sg.ext at s2
   rw [if_neg hne] at s2
   obtain ⟨m,a,c,d⟩:=H.live b' _ e2
   rw [s2] at a;cases a
   cases hro:isRO o2 with
   | true=>rfl
   | false=>have:=d hro;omega
  intro b b' o1 o2 l1 l2 e1 e2 s1 s2 hblk hne
  by_cases hb1:b=h.next
  ·subst hb1
   have e1':=e1
   rw [AH.get_new,if_pos rfl] at e1';cases e1'
   have s1':=s1
   rw [Sg.ext_self] at s1';cases s1'
   exact ⟨rfl,other _ _ _ e2 s2 hblk (fun e=>hne e.symm)⟩
  ·by_cases hb2:b'=h.next
   ·subst hb2
    have e1':=e2
    rw [AH.get_new,if_pos rfl] at e1';cases e1'
    have s1':=s2
    rw [Sg.ext_self] at s1';cases s1'
    exact ⟨other _ _ _ e1 s1 hblk.symm hb1,rfl⟩
   ·rw [AH.get_new,if_neg hb1] at e1
    rw [AH.get_new,if_neg hb2] at e2
    unfold Sg.ext at s1 s2
    rw [if_neg hb1] at s1
    rw [if_neg hb2] at s2
    exact H.inj b b' o1 o2 l1 l2 e1 e2 s1 s2 hblk hne
inductive Els {α:Type} (R:List Value->α->Prop):List (List Value)->List α->Prop
 | nil:Els R [] []
 | cons {e:List Value} {a:α} {es:List (List Value)} {aas:List α} (h:R e a) (hs:Els R es aas):Els R (e::es) (a::aas)
theorem Els.mono {α:Type} {R S:List Value->α->Prop} (H:∀ e a,R e a->S e a):∀ {es:List (List Value)} {aas:List α},Els R es aas->Els S es aas
 | _,_,.nil=>.nil
 | _,_,.cons h hs=>.cons (H _ _ h) (Els.mono H hs)
theorem zJN {z:Nat}:∀ (els:List (List Value)),(∀ e∈els,e.length=z)->els.flatten.length=els.length*z
 | [],_=>by simp
 | e::es,H=>by
  rw [List.flatten_cons,List.length_append,H e (by simp),zJN es fun x hx=>H x (by simp [hx]),List.length_cons,Nat.add_mul];omega
theorem zJO {z:Nat}:∀ (els:List (List Value)),(∀ e∈els,e.length=z)->∀ k e,els[k]?=some e->(els.flatten.drop (k*z)).take z=e
 | [],_,k,e,h=>by simp at h
 | x::es,H,0,e,h=>by
  simp at h;subst h
  rw [List.flatten_cons,Nat.zero_mul,List.drop_zero]
  have:=H x (by simp)
  rw [← this,List.take_left'];rfl
 | x::es,H,k+1,e,h=>by
  rw [List.flatten_cons]
  have hx:=H x (by simp)
  rw [show (k+1)*z=x.length+k*z by rw [hx,Nat.add_mul];omega,← List.drop_drop,List.drop_left']
  ·exact zJO es (fun y hy=>H y (by simp [hy])) k e (by simpa using h)
  ·rfl
theorem zMb {z:Nat}:∀ (els:List (List Value)),(∀ e∈els,e.length=z)->∀ i v,els.flatten[i]?=some v->∃ k e j,els[k]?=some e/\e[j]?=some v/\i=k*z+j
 | [],_,i,v,h=>by simp at h
 | x::es,H,i,v,h=>by
  have hx:=H x (by simp)
  rw [List.flatten_cons] at h
  by_cases hi:i<x.length
  ·rw [List.getElem?_append_left hi] at h
   exact ⟨0,x,i,rfl,h,by omega⟩
  ·rw [List.getElem?_append_right (by omega)] at h
   obtain ⟨k,e,j,a,b,c⟩:=zMb es (fun y hy=>H y (by simp [hy])) _ _ h
   exact ⟨k+1,e,j,by simpa using a,b,by rw [Nat.add_mul];omega⟩
theorem zN9 {w:World} {a:Addr} {v:Value} (h:w.cell? a=some v):∃ C el frz,w.heap[a.block]?=some (.cells C el frz)/\a.spot=none/\C[a.off]?=some v:=by
 unfold World.cell? at h
 split at h
 ·rename_i C el frz hb
  cases hs:a.spot with
  | some s=>rw [hs] at h;simp at h
  | none=>rw [hs] at h;exact ⟨C,el,frz,hb,rfl,by simpa using h⟩
 ·cases h
theorem zTq (a:Addr) (n:Nat):(a.add n).off=a.off+n:=by unfold Addr.add;split <;> simp_all
theorem zJj (a:Addr) (n:Nat):(a.add n).block=a.block:=by unfold Addr.add;split <;> rfl
theorem zRp {w:World} {base z i:Nat} {a:Addr} {cs:List Value} (hz:0<z) (h:w.cells? base (a.add (i*z)) z=some cs) :
  ∃ C el frz,w.heap[a.block]?=some (.cells C el frz)/\cs.length=z/\(i=0->a.spot=none)/\∀ j,j<z->C[a.off+i*z+j]?=cs[j]?:=by
 obtain ⟨_,hl,hg⟩:=World.cells?_some h
 have h0:=hg 0 hz
 have hv:∃ v,cs[0]?=some v:=⟨_,List.getElem?_eq_getElem (by omega)⟩
 obtain ⟨v,hv⟩:=hv
 rw [hv] at h0
 obtain ⟨C,el,frz,hb,hs,_⟩:=zN9 h0
 rw [zJj,zJj] at hb
 refine ⟨C,el,frz,hb,hl,fun hi=>?_,fun j hj=>?_⟩
 ·subst hi
  simp only [Nat.zero_mul] at hs
  have e:∀ b:Addr,b.add 0=b:=fun b=>by simp [Addr.add]
  rw [e,e] at hs;exact hs
 ·have hj':=hg j hj
  obtain ⟨u,hu⟩:∃ u,cs[j]?=some u:=⟨_,List.getElem?_eq_getElem (by omega)⟩
  rw [hu] at hj' ⊢
  obtain ⟨C',el',frz',hb',_,hc'⟩:=zN9 hj'
  rw [zJj,zJj,hb] at hb'
  cases hb'
  rw [zTq,zTq] at hc'
  exact hc'
section
variable {H:Type} {enc:TypeId×Value->H} {P:Program} {w:World} {base:Nat} {held:Bool}
def Step (enc:TypeId×Value->H) (P:Program) (w:World) (base:Nat) (held:Bool) {α:Type} (R:AH->List Value->α->Prop) (n:Nat) (t:TypeId):Prop:=
 ∀ (cs:List Value) (x:DataW H×List MemPlace) (σ:Sg) (h:AH),h.ok->HR w.heap.size σ h w->DataW.trod enc P w base (fun _=>true) held n t cs=some x->
  ∃ σ' h' vs a,More w σ h σ' h'/\VRs σ' vs cs/\R h' vs a
theorem zTW {α:Type} {R:AH->List Value->α->Prop} (hR:∀ h k es a,Ext h k->R h es a->R k es a) {e:TypeId} {z n:Nat} (hz:0<z) (hcz:P.cellsOf e=z) {a:Addr} {C:Array Value} {el:TypeId} {frz:Nat×Nat} (hC:w.heap[a.block]?=some (.cells C el frz))
  (step:Step enc P w base held R n e):∀ (m i:Nat) (σ:Sg) (h:AH),h.ok->HR w.heap.size σ h w->
   (∀ k,k<m->∃ x,(w.cells? base (a.add ((i+k)*z)) z).bind (DataW.trod enc P w base (fun _=>true) held n e)=some x)->
   ∃ σ' h' els aas,More w σ h σ' h'/\Els (R h') els aas/\els.length=m/\∀ k u,els[k]?=some u->u.length=z/\∀ j v,u[j]?=some v->∃ v',C[a.off+(i+k)*z+j]?=some v'/\VR σ' v v':=by
 intro m
 induction m with
 | zero=>intro i σ h hok hH _;exact ⟨σ,h,[],[],.refl hH hok,.nil,rfl,fun k u hk=>by simp at hk⟩
 | succ m ih=>
  intro i σ h hok hH hr
  obtain ⟨x,hx⟩:=hr 0 (by omega)
  obtain ⟨cs,hcs,htr⟩:=Option.bind_eq_some_iff.1 hx
  obtain ⟨C',el',frz',hb,hl,_,hg⟩:=zRp hz hcs
  rw [hC] at hb
  cases hb
  obtain ⟨σ1,h1,vs,b,m1,v1,r1⟩:=step cs x σ h hok hH htr
  obtain ⟨σ2,h2,els,aas,m2,e2,l2,g2⟩:=ih (i+1) σ1 h1 m1.ok m1.hr (fun k hk=>by
   have:=hr (k+1) (by omega)
   rw [show i+1+k=i+(k+1) by omega];exact this)
  refine ⟨σ2,h2,vs::els,b::aas,m1.trans m2,.cons (hR _ _ _ _ m2.ext r1) e2,by simp [l2],fun k u hk=>?_⟩
  cases k with
  | zero=>
   simp at hk;subst hk
   refine ⟨by rw [v1.length,hl],fun j v hj=>?_⟩
   obtain ⟨v',q1,q2⟩:=v1.get hj
   have hjz:j<z:=by have:=(List.getElem?_eq_some_iff.1 q1).1;omega
   exact ⟨v',by rw [hg j hjz];exact q1,q2.mono m2.le⟩
  | succ k=>
   simp only [List.getElem?_cons_succ] at hk
   rw [show i+(k+1)=i+1+k by omega]
   exact g2 k u hk
theorem zDg {α:Type} {R:AH->List Value->α->Prop} (hR:∀ h k es a,Ext h k->R h es a->R k es a) {t e:TypeId} {z n:Nat} (ht:P.underlying t=some (.slice e)) (hz:0<z) (hcz:P.cellsOf e=z)
  (step:∀ m,n=m+1->Step enc P w base held R m e) :
  ∀ (cs:List Value) (x:DataW H×List MemPlace) (σ:Sg) (h:AH),h.ok->HR w.heap.size σ h w->DataW.trod enc P w base (fun _=>true) held n t cs=some x->
   ∃ σ' h' v v' els aas,cs=[v']/\More w σ h σ' h'/\VR σ' v v'/\Arr h' z v els/\Els (R h') els aas/\els.length<=9223372036854775807:=by
 intro cs x σ h hok hH htr
 rcases DataW.trod_slice ht htr with ⟨rfl,_⟩|⟨a,len,cap,elems,rest,m,hm,rfl,_,_,hlc,hcm,hel,hE,hS,_⟩
 ·exact ⟨σ,h,.slice none 0 0,_,[],[],rfl,.refl hH hok,.sliceN 0 0,.nil _ _,.nil,by simp⟩
 have hmax:len<=9223372036854775807:=by unfold maxLen at hcm;omega
 by_cases hcap:cap=0
 ·subst hcap
  obtain rfl:len=0:=by omega
  exact ⟨σ,h,.slice (some ⟨0,0,some 0⟩) 0 0,_,[],[],rfl,.refl hH hok,.sliceS a,.nil _ _,.nil,by simp⟩
 have first:∃ cs0,w.cells? base (a.add (0*z)) z=some cs0:=by
  by_cases hl:len=0
  ·obtain ⟨s1,s2⟩:=hS rfl
   have:=s2 0 (by omega)
   rw [hl,Nat.add_zero,hcz,List.getElem?_eq_getElem (by omega)] at this
   obtain ⟨c0,q,_⟩:=Option.bind_eq_some_iff.1 this
   exact ⟨c0,q⟩
  ·have:=hE 0 (by omega)
   rw [hcz,List.getElem?_eq_getElem (by omega)] at this
   obtain ⟨c0,q,_⟩:=Option.bind_eq_some_iff.1 this
   exact ⟨c0,q⟩
 obtain ⟨cs0,hcs0⟩:=first
 obtain ⟨C,el,frz,hC,_,hsp,_⟩:=zRp hz hcs0
 have hsp:=hsp rfl
 obtain ⟨ablk,aoff,asp⟩:=a
 simp only at hsp hC
 subst hsp
 obtain ⟨σ1,h1,els,aas,m1,e1,l1,g1⟩:=zTW (a:=⟨ablk,aoff,none⟩) hR hz hcz hC (step m hm) len 0 σ h hok hH (fun k hk=>by
  have:=hE k hk
  rw [hcz,List.getElem?_eq_getElem (by omega)] at this
  rw [Nat.zero_add]
  exact ⟨_,this⟩)
 have hlen:∀ u∈els,u.length=z:=fun u hu=>by
  obtain ⟨k,hk⟩:=List.getElem?_of_mem hu
  exact (g1 k u hk).1
 have hfl:=zJN els hlen
 have m2:=HR.addRO m1.hr m1.ok (vs:=els.flatten) (l:=⟨ablk,aoff,0,0⟩) hC (by
  by_cases h0:els.flatten.length=0
  ·rw [h0]
   simp only [Nat.add_zero]
   obtain ⟨C',_,_,hb',hl',_,hg'⟩:=zRp hz hcs0
   simp only at hb'
   rw [hC] at hb'
   cases hb'
   have:=hg' 0 hz
   simp only [Nat.zero_mul,Nat.add_zero] at this
   have h2:aoff<C.size:=by
    rcases Nat.lt_or_ge aoff C.size with h|h
    ·exact h
    ·rw [Array.getElem?_eq_none h,List.getElem?_eq_getElem (by omega)] at this;cases this
   omega
  ·have hlt:els.flatten.length-1<els.flatten.length:=by omega
   obtain ⟨k,u,j,a1,a2,a3⟩:=zMb els hlen _ _ (List.getElem?_eq_getElem hlt)
   obtain ⟨v',q1,_⟩:=(g1 k u a1).2 j _ a2
   have:=(Array.getElem?_eq_some_iff.1 q1).1
   simp only [Nat.zero_add] at this
   simp only
   omega) (fun i v hi=>by
  obtain ⟨k,u,j,a1,a2,a3⟩:=zMb els hlen _ _ hi
  obtain ⟨v',q1,q2⟩:=(g1 k u a1).2 j _ a2
  refine ⟨v',?_,q2⟩
  simp only [Nat.zero_add] at q1
  simp only
  rw [a3,← Nat.add_assoc];exact q1)
 refine ⟨_,_,.slice (some ⟨h1.next,0,none⟩) els.length cap,.slice (some ⟨ablk,aoff,none⟩) len cap,els,aas,rfl,m1.trans m2,?_,?_,e1.mono fun u a r=>hR _ _ _ _ m2.ext r,by omega⟩
 ·have:=VR.slice (σ:=σ1.ext h1.next ⟨ablk,aoff,0,0⟩) (b:=h1.next) (l:=⟨ablk,aoff,0,0⟩) 0 len cap (Sg.ext_self ..) (by unfold maxLen at hcm;unfold UNK;omega)
  rw [l1]
  exact this
 ·refine .row (vs:=els.flatten) (ty:=el) (es:=0) (ro:=true) (by rw [AH.get_new,if_pos rfl]) (by simp) (by rw [hfl];omega) fun i u hu=>⟨(g1 i u hu).1,by rw [Nat.zero_add];exact zJO els hlen i u hu⟩
end
end Go.Proofs
namespace Go.Proofs
open Go Go.AM
set_option maxRecDepth 100000
set_option maxHeartbeats 1000000
def zPr (Ls:List GL) (i:Nat):Bool:=match Ls[i]? with
 | some L=>zAL L
 | none=>false
theorem put3g:∀ (e:List Value),e.length=3->lput [Value.int .i64 0,.slice none 0 0,.slice none 0 0] 0 e=e:=by
 intro e he
 match e,he with
 | [x,y,z],_=>rfl
theorem RL.leafs {h:AH} {e:List Value} {L:GL} (r:RL h (.agg ⟨e⟩) L):e.all zr=true/\e.length=3:=by
 obtain ⟨vl,ve,els,a,b,c,d⟩:=r.ex
 obtain ⟨x1,x2,rfl⟩:=b.slice
 obtain ⟨y1,y2,rfl⟩:=d.slice
 simp only [Value.agg.injEq] at a
 have:e=[.int .i64 L.n,.slice x1 els.length x2,.slice y1 (L.eds.map zb).length y2]:=by
  have:=congrArg Array.toList a
  simpa using this
 rw [this]
 simp [zr]
theorem call70 {h0 k:AH} {v:Value} {els:List (List Value)} {Ls:List GL} (ha:Arr h0 3 v els) (hn:els.length=Ls.length) (hle:els.length<=1000) (hr:∀ (i:Nat) (e:List Value) (L:GL),els[i]?=some e->Ls[i]?=some L->RL h0 (.agg ⟨e⟩) L) (hk:Ext h0 k) :
  (zW E).call 70 [v] k=some [(.int .i64 (if zAI (zPr Ls) els.length 0 then 8 else 0),k)]:=by
 obtain ⟨ad,c,hv⟩:=ha.slice
 subst hv
 refine zey (s:=true) hk.ok rfl (zdV ?_)
 refine zdU ?_
 simp only [zA,zST]
 have loop:∀ (m i:Nat),i+m=els.length->∀ l,Own k l->P70_2 true (KR E [.tmp 2] (fun x l=>x=.int .i64 (if zAI (zPr Ls) m i then 8 else 0)/\k.next<=l.wm)) (.slice ad els.length c) (.int .i64 (els.length:Int)) (.int .i64 (i:Int)) l:=by
  intro m
  induction m with
  | zero=>
   intro i hi l hl
   refine zOV ?_
   simp only [zY,zA,zAA]
   refine ⟨fun h=>by omega,fun _=>zdP ?_⟩
   simp [zA,zAJ,zT,zAI,hl.wm]
  | succ m ih=>
   intro i hi l hl
   have hin:i<els.length:=by omega
   have hin':i<Ls.length:=by omega
   refine zOV ?_
   simp only [zY,zA,zAA]
   refine ⟨fun _=>zdT ?_,fun h=>by omega⟩
   obtain ⟨b,o,c',vs,ty,es,ro,hv,hb,hlt,hle2,hz,hzl⟩:=ha.load (List.getElem?_eq_getElem hin)
   simp only [Value.slice.injEq] at hv
   obtain ⟨hv1,_,hv3⟩:=hv
   subst hv1
   have hRL:=hr i _ _ (List.getElem?_eq_getElem hin) (List.getElem?_eq_getElem hin')
   have he0:Ext h0 l:=hk.trans hl.ext
   have gb:l.get b=some (.row vs ty es ro):=(he0.get b hlt).trans hb
   simp only [zA,zbk hin,za zEd gb hle2,hz,z_25,zd,zL,zV]
   rw [zw (P:=E) ts_25 (x:=.agg ⟨els[i]⟩) (cs:=els[i]) (zI l _) rfl hzl (by simp) hRL.leafs.1]
   simp only [zL]
   rw [put3g _ hzl]
   have hkl:=hl.ext.next
   have o2:=(hl.new (.row [.int .i64 0,.slice none 0 0,.slice none 0 0] 25 0 false)).upd (b:=l.next) hkl (some (.row els[i] 25 0 false))
   have t2:((l.new (.row [.int .i64 0,.slice none 0 0,.slice none 0 0] 25 0 false)).upd l.next (some (.row els[i] 25 0 false))).get l.next=some (.row els[i] 25 0 false):=zR _ _ _
   generalize ((l.new (.row [.int .i64 0,.slice none 0 0,.slice none 0 0] 25 0 false)).upd l.next (some (.row els[i] 25 0 false)))=l2 at o2 t2
   refine zdS ?_
   have ca:=za (P:=E) zEd (o:=0) t2 (by omega)
   rw [List.drop_zero,List.take_of_length_le (by omega)] at ca
   simp only [ca,zA,zS,call121 hRL (hk.trans o2.ext),zN,zAz]
   have hat:zPr Ls i=zAL Ls[i]:=by unfold zPr;rw [List.getElem?_eq_getElem hin']
   cases hb:zAL Ls[i] with
   | true=>
    simp only [if_true,show (!decide ((8:Int)=0))=true from rfl,zu]
    refine zdR ?_
    simp [zA,zAJ,zT,zAI,hat,hb,o2.wm]
   | false=>
    simp only [Bool.false_eq_true,if_false,decide_true,Bool.not_true,zk]
    refine zdQ ?_
    simp only [zAM _ (zD7 hin (by omega)),zA]
    have:=ih (i+1) (by omega) l2 o2
    simp only [zAI,hat,hb,Bool.false_or]
    simpa using this
 exact loop els.length 0 (by omega) _ (Own.fresh k)
def zDI (k:Int):Bool:=decide (k=1)||decide (k=2)
theorem call105 {k:AH} {a:Int} (hok:k.ok):(zW E).call 105 [.int .i64 a] k=some [(.bool (zDI a),k)]:=by
 refine zbB (s:=true) hok rfl (zaF ?_)
 refine zaE ?_
 simp only [zA,zAZ]
 by_cases c:a=1
 ·simp [c,zDI,zA,zM,zJ,zAJ,zT]
 ·simp [c,zDI,zA,zM,zJ,zAJ,zT,zAZ]
def zG (p:Int×Int):List Value:=[.int .i64 p.1,.int .i64 p.2]
def zMr (p q:Int×Int):Int:=orI [c3 p.1 q.1,c3 p.2 q.2]
theorem zIL {b o:Nat}:zE E 54 (some (.pointer (some ⟨b,o,none⟩))) (some (.int .i64 0))=some (.pointer (some ⟨b,o+0,none⟩)):=ia_54 (k:=0) (by omega)
theorem zKb {b o:Nat}:zE E 54 (some (.pointer (some ⟨b,o,none⟩))) (some (.int .i64 1))=some (.pointer (some ⟨b,o+1,none⟩)):=ia_54 (k:=1) (by omega)
theorem call122 {k:AH} {e f:Int×Int} (hok:k.ok):(zW E).call 122 [.agg ⟨zG e⟩,.agg ⟨zG f⟩] k=some [(.int .i64 (zMr e f),k)]:=by
 refine za9 (s:=true) hok rfl (zZ4 ?_)
 simp only [zd,zL,zV,zA]
 refine zZ3 ?_
 have o1:=((Own.fresh k).new (.row (zG e) 54 0 false)).new (.row (zG f) 54 0 false)
 have t1:((k.fresh.new (.row (zG e) 54 0 false)).new (.row (zG f) 54 0 false)).get k.next=some (.row (zG e) 54 0 false):=by
  rw [zK (by simp)];exact zI k.fresh _
 have t2:((k.fresh.new (.row (zG e) 54 0 false)).new (.row (zG f) 54 0 false)).get (k.next+1)=some (.row (zG f) 54 0 false):=zI (k.fresh.new _) _
 simp only [zZ,AH.next_new]
 generalize ((k.fresh.new (.row (zG e) 54 0 false)).new (.row (zG f) 54 0 false))=k1 at o1 t1 t2
 have l0:=zF (P:=E) zAS (o:=0) t1
 have l1:=zF (P:=E) zAS (o:=1) t1
 have m0:=zF (P:=E) zAS (o:=0) t2
 have m1:=zF (P:=E) zAS (o:=1) t2
 simp only [lnth,zG] at l0 l1 m0 m1
 simp only [zIL,zKb,Nat.add_zero,Nat.zero_add,l0,l1,m0,m1,zA,zS,zHP o1.ext.ok,zN,zC1,true_and,bs47_2,zL]
 rw [or2 o1.ext.ok]
 simp only [zN,zA,zAJ,zT,true_and]
 exact ⟨rfl,o1.wm⟩
structure GB where
 kind:Int
 prs:List (Int×Int)
structure RB (h:AH) (e:List Value) (B:GB):Prop where
 ex:∃ vp,e=[.int .i64 B.kind,vp]/\Arr h 2 vp (B.prs.map zG)
theorem RB.ext {h k:AH} {e:List Value} {B:GB} (r:RB h e B) (x:Ext h k):RB k e B:=let ⟨v,a,b⟩:=r.ex;⟨v,a,b.ext x⟩
def zCf (ps:List (Int×Int)) (i:Nat):Bool:=match ps[i]? with
 | some p=>decide (p.1<0)||decide (p.2<0)||(decide (0<i)&&match ps[i-1]? with
  | some q=>decide (0<=zMr q p)
  | none=>false)
 | none=>false
def zBb (B:GB):Int:=if zDI B.kind=false then 361 else if 200000<B.prs.length then 360 else if zAI (zCf B.prs) B.prs.length 0 then 360 else 0
def zMh (Bs:List GB) (i:Nat):Int:=match Bs[i]? with
 | some B=>zBb B
 | none=>0
def zBK (Bs:List GB):Nat->Nat->Int
 | 0,_=>0
 | m+1,i=>if zMh Bs i≠0 then zMh Bs i else zBK Bs m (i+1)
abbrev kfe (k:AH) (n:Int):KF:=KR E [.tmp 2] (fun x m=>x=.int .i64 n/\k.next<=m.wm)
theorem put2b:∀ (e:List Value),e.length=2->lput [Value.int .i64 0,.int .i64 0] 0 e=e:=by
 intro e he
 match e,he with
 | [x,y],_=>rfl
theorem call71 {h0 k:AH} {v:Value} {els:List (List Value)} {Bs:List GB} (ha:Arr h0 2 v els) (hn:els.length=Bs.length) (hle:els.length<=1000) (hr:∀ (i:Nat) (e:List Value) (B:GB),els[i]?=some e->Bs[i]?=some B->RB h0 e B) (hk:Ext h0 k) :
  (zW E).call 71 [v] k=some [(.int .i64 (zBK Bs els.length 0),k)]:=by
 obtain ⟨ad,c,hv⟩:=ha.slice
 subst hv
 refine zex (s:=true) hk.ok rfl (zdO ?_)
 refine zdN ?_
 simp only [zA,zSS]
 have loop:∀ (m i:Nat),i+m=els.length->∀ l,Own k l->P71_2 true (kfe k (zBK Bs m i)) (.slice ad els.length c) (.int .i64 (els.length:Int)) (.int .i64 (i:Int)) l:=by
  intro m
  induction m with
  | zero=>
   intro i hi l hl
   refine zOU ?_
   simp only [zY,zA,zAA]
   refine ⟨fun h=>by omega,fun _=>zUo ?_⟩
   simp [zA,zAJ,zT,zBK,hl.wm]
  | succ m ih=>
   intro i hi l hl
   have hin:i<els.length:=by omega
   have hin':i<Bs.length:=by omega
   refine zOU ?_
   simp only [zY,zA,zAA]
   refine ⟨fun _=>zdM ?_,fun h=>by omega⟩
   obtain ⟨b,o,c',vs,ty,es,ro,hv,hb,hlt,hle2,hz,hzl⟩:=ha.load (List.getElem?_eq_getElem hin)
   simp only [Value.slice.injEq] at hv
   obtain ⟨hv1,_,hv3⟩:=hv
   subst hv1
   obtain ⟨vp,hel,hap⟩:=(hr i _ _ (List.getElem?_eq_getElem hin) (List.getElem?_eq_getElem hin')).ex
   have hat:zMh Bs i=zBb Bs[i]:=by unfold zMh;rw [List.getElem?_eq_getElem hin']
   generalize hB:Bs[i]=B at hel hap hat
   obtain ⟨ap,cp,hvp⟩:=hap.slice
   rw [List.length_map] at hvp
   subst hvp
   rw [hel] at hz hzl
   have he0:Ext h0 l:=hk.trans hl.ext
   have gb:l.get b=some (.row vs ty es ro):=(he0.get b hlt).trans hb
   simp only [zA,ia_83 hin,za zLv gb hle2,hz,z_32,zd,zL,zV]
   rw [zw (P:=E) zbR (x:=.agg ⟨[.int .i64 B.kind,.slice ap B.prs.length cp]⟩) (cs:=[.int .i64 B.kind,.slice ap B.prs.length cp]) (zI l _) rfl hzl (by simp) (by simp [zr])]
   simp only [zL]
   rw [put2 _ hzl]
   have hkl:=hl.ext.next
   have o2:=(hl.new (.row [.int .i64 0,.slice none 0 0] 32 0 false)).upd (b:=l.next) hkl (some (.row [.int .i64 B.kind,.slice ap B.prs.length cp] 32 0 false))
   have t2:((l.new (.row [.int .i64 0,.slice none 0 0] 32 0 false)).upd l.next (some (.row [.int .i64 B.kind,.slice ap B.prs.length cp] 32 0 false))).get l.next=some (.row [.int .i64 B.kind,.slice ap B.prs.length cp] 32 0 false):=zR _ _ _
   have n2:((l.new (.row [.int .i64 0,.slice none 0 0] 32 0 false)).upd l.next (some (.row [.int .i64 B.kind,.slice ap B.prs.length cp] 32 0 false))).next=l.next+1:=rfl
   generalize ((l.new (.row [.int .i64 0,.slice none 0 0] 32 0 false)).upd l.next (some (.row [.int .i64 B.kind,.slice ap B.prs.length cp] 32 0 false)))=l2 at o2 t2 n2
   refine zdL ?_
   have c0:=zF (P:=E) zAS (o:=0) t2
   have c1:=zF (P:=E) zLw (o:=1) t2
   simp only [lnth] at c0 c1
   simp only [zJV,Nat.add_zero,c0,zA,zS,call105 o2.ext.ok,zN,zv]
   cases hm:zDI B.kind with
   | false=>
    have hee:zMh Bs i=361:=by rw [hat];unfold zBb;rw [if_pos hm]
    simp only [Bool.not_false,zu]
    refine zdK ?_
    simp [zA,zAJ,zT,zBK,hee,o2.wm]
   | true=>
    simp only [Bool.not_true,zk]
    refine zdJ ?_
    simp only [zC7,Nat.zero_add,c1,zA,zSR,zAH,zAA]
    refine ⟨fun hbig=>zdI ?_,fun hbig=>zdH ?_⟩
    ·have hee:zMh Bs i=360:=by rw [hat];unfold zBb;rw [if_neg (by rw [hm];simp),if_pos (by omega)]
     simp [zA,zAJ,zT,zBK,hee,o2.wm]
    ·simp only [zC7,Nat.zero_add,c1,zA,zSQ]
     have hbig':B.prs.length<=200000:=by omega
     have hlk:zBb B=if zAI (zCf B.prs) B.prs.length 0 then 360 else 0:=by unfold zBb;rw [if_neg (by rw [hm];simp),if_neg (by omega)]
     have pairs:∀ (m2 j:Nat),j+m2=B.prs.length->∀ l3,Ext l2 l3->k.next<=l3.wm->
       (zAI (zCf B.prs) m2 j=true->zBK Bs (m+1) i=360)->(zAI (zCf B.prs) m2 j=false->zBK Bs (m+1) i=zBK Bs m (i+1))->
       P71_9 true (kfe k (zBK Bs (m+1) i)) (.pointer (some ⟨l.next,0,none⟩)) (.slice (some ⟨b,o,none⟩) els.length c) (.int .i64 (els.length:Int)) (.int .i64 (i:Int)) (.slice ap B.prs.length cp) (.int .i64 (B.prs.length:Int)) (.int .i64 (j:Int)) l3:=by
      intro m2
      induction m2 with
      | zero=>
       intro j hj l3 hl3 hw3 h1 h2
       refine zOT ?_
       simp only [zY,zA,zAA]
       refine ⟨fun h=>by omega,fun _=>zUp ?_⟩
       simp only [zAM _ (zD7 hin (by omega)),zA]
       have:=ih (i+1) (by omega) l3 ⟨o2.ext.trans hl3,hw3⟩
       rw [h2 rfl]
       simpa using this
      | succ m2 ih2=>
       intro j hj l3 hl3 hw3 h1 h2
       have hjn:j<B.prs.length:=by omega
       refine zOT ?_
       simp only [zY,zA,zAA]
       refine ⟨fun _=>zUt ?_,fun h=>by omega⟩
       have hatp:(B.prs.map zG)[j]?=some (zG B.prs[j]):=by simp [hjn]
       obtain ⟨b',o',c2',vs',ty',es',ro',hv',hb',hlt',hle2',hz',hzl'⟩:=hap.load hatp
       simp only [Value.slice.injEq] at hv'
       obtain ⟨hv1',_,_⟩:=hv'
       subst hv1'
       have he3:Ext h0 l3:=(hk.trans o2.ext).trans hl3
       have gb':l3.get b'=some (.row vs' ty' es' ro'):=(he3.get b' hlt').trans hb'
       simp only [zA,zAK hjn,za zFZ gb' hle2',hz',z_54,zd,zL,zV]
       rw [zw (P:=E) zHg (x:=.agg ⟨zG B.prs[j]⟩) (cs:=zG B.prs[j]) (zI l3 _) rfl hzl' (by simp) (by simp [zG,zr])]
       simp only [zL]
       rw [put2b _ hzl']
       have hkl3:=hl3.next
       have e4:=(hl3.new (.row [.int .i64 0,.int .i64 0] 54 0 false)).upd (b:=l3.next) hkl3 (some (.row (zG B.prs[j]) 54 0 false))
       have w4:k.next<=((l3.new (.row [.int .i64 0,.int .i64 0] 54 0 false)).upd l3.next (some (.row (zG B.prs[j]) 54 0 false))).wm:=z9 (by rw [zC9];exact hw3) (by omega)
       have t4:((l3.new (.row [.int .i64 0,.int .i64 0] 54 0 false)).upd l3.next (some (.row (zG B.prs[j]) 54 0 false))).get l3.next=some (.row (zG B.prs[j]) 54 0 false):=zR _ _ _
       have g4:((l3.new (.row [.int .i64 0,.int .i64 0] 54 0 false)).upd l3.next (some (.row (zG B.prs[j]) 54 0 false))).get b'=some (.row vs' ty' es' ro'):=by
        have q1:=hk.next
        rw [zU (by omega),zK (by omega)];exact gb'
       generalize ((l3.new (.row [.int .i64 0,.int .i64 0] 54 0 false)).upd l3.next (some (.row (zG B.prs[j]) 54 0 false)))=l4 at e4 w4 t4 g4
       refine zUs ?_
       have ok4:=e4.ok
       have bx:l4.get l.next=some (.row [.int .i64 B.kind,.slice (some ⟨b',o',none⟩) B.prs.length cp] 32 0 false):=(e4.get _ (by omega)).trans t2
       have d0:=zF (P:=E) zAS (o:=0) t4
       have d1:=zF (P:=E) zAS (o:=1) t4
       have da:=za (P:=E) zFZ (o:=0) t4 (by simp [zG])
       have dp:=zF (P:=E) zLw (o:=1) bx
       rw [List.drop_zero,List.take_of_length_le (by simp [zG])] at da
       simp only [lnth,zG] at d0 d1 dp
       have hatj:B.prs[j]?=some B.prs[j]:=List.getElem?_eq_getElem hjn
       have hpb:zCf B.prs j=(decide (B.prs[j].1<0)||decide (B.prs[j].2<0)||(decide (0<j)&&match B.prs[j-1]? with
        | some q=>decide (0<=zMr q B.prs[j])
        | none=>false)):=by simp only [zCf,hatj]
       have hend:∀ bad:Bool,zCf B.prs j=bad->(BrK (some (.bool bad)) (P71_12 true (kfe k (zBK Bs (m+1) i)) l4) (P71_13 true (kfe k (zBK Bs (m+1) i)) (.pointer (some ⟨l.next,0,none⟩)) (.slice (some ⟨b,o,none⟩) els.length c) (.int .i64 (els.length:Int)) (.int .i64 (i:Int)) (.slice (some ⟨b',o',none⟩) B.prs.length cp) (.int .i64 (B.prs.length:Int)) (.int .i64 (j:Int)) l4)):=by
        intro bad hbad
        cases bad with
        | true=>
         rw [zu,h1 (by simp [zAI,hbad])]
         refine zUr ?_
         simp [zA,zAJ,zT,w4]
        | false=>
         rw [zk]
         refine zUq ?_
         simp only [zAM _ (zD7 hjn (by omega)),zA]
         have:=ih2 (j+1) (by omega) l4 e4 w4 (fun h=>h1 (by simp [zAI,h])) (fun h=>h2 (by simp [zAI,hbad,h]))
         simpa using this
       simp only [zIL,Nat.add_zero,d0,zA,zY]
       by_cases p1:B.prs[j].1<0
       ·have:=hend true (by rw [hpb];simp [p1])
        simpa only [p1,decide_true,Bool.not_false,Bool.not_true,beq_self_eq_true,show (true==false)=false from rfl,show (false==true)=false from rfl,cond_true,cond_false,zA,zN,zv,zM,zP,zt,zx,zJ,zL] using this
       ·simp only [p1,decide_false,Bool.not_false,Bool.not_true,beq_self_eq_true,show (true==false)=false from rfl,show (false==true)=false from rfl,cond_true,cond_false,zA,zN,zv,zM,zP,zt,zx,zJ,zL,zKb,d1,zY]
        by_cases p2:B.prs[j].2<0
        ·have:=hend true (by rw [hpb];simp [p2])
         simpa only [p2,decide_true,Bool.not_false,Bool.not_true,beq_self_eq_true,show (true==false)=false from rfl,show (false==true)=false from rfl,cond_true,cond_false,zA,zN,zv,zM,zP,zt,zx,zJ,zL] using this
        ·simp only [p2,decide_false,Bool.not_false,Bool.not_true,beq_self_eq_true,show (true==false)=false from rfl,show (false==true)=false from rfl,cond_true,cond_false,zA,zN,zv,zM,zP,zt,zx,zJ,zL,zAH]
         by_cases p3:0<j
         ·have p3':(0:Int)<j:=by omega
          have hjn':j-1<B.prs.length:=by omega
          have hatp':(B.prs.map zG)[j-1]?=some (zG B.prs[j-1]):=by simp [hjn']
          obtain ⟨b5,o5,c5,vs5,ty5,es5,ro5,hv5,hb5,hlt5,hle5,hz5,hzl5⟩:=hap.load hatp'
          simp only [Value.slice.injEq] at hv5
          obtain ⟨hv15,_,_⟩:=hv5
          cases hv15
          rw [hb'] at hb5
          cases hb5
          have hee:zCf B.prs j=decide (0<=zMr B.prs[j-1] B.prs[j]):=by rw [hpb,List.getElem?_eq_getElem hjn'];simp [p1,p2,p3]
          have:=hend (decide (0<=zMr B.prs[j-1] B.prs[j])) hee
          simpa only [p3',zAH,decide_true,Bool.not_false,Bool.not_true,beq_self_eq_true,show (true==false)=false from rfl,show (false==true)=false from rfl,cond_true,cond_false,zA,zN,zv,zM,zP,zt,zx,zJ,zL,zC7,Nat.zero_add,dp,sub1 p3 (by omega:j<=9223372036854775807),zAK hjn',za zFZ g4 hle5,hz5,da,zS,call122 ok4,zAP] using this
         ·have p3':¬ (0:Int)<j:=by omega
          have:=hend false (by rw [hpb];simp [p1,p2,p3])
          simpa only [p3',zAH,decide_false,Bool.not_false,Bool.not_true,beq_self_eq_true,show (true==false)=false from rfl,show (false==true)=false from rfl,cond_true,cond_false,zA,zN,zv,zM,zP,zt,zx,zJ,zL] using this
     refine pairs B.prs.length 0 (by omega) l2 (Ext.refl o2.ext.ok) o2.wm ?_ ?_
     ·intro h
      simp [zBK,hat,hlk,h]
     ·intro h
      simp [zBK,hat,hlk,h]
 exact loop els.length 0 (by omega) _ (Own.fresh k)
end Go.Proofs
