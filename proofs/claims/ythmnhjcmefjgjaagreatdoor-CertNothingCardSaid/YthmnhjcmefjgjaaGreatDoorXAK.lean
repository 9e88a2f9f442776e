import Derived.Test.YthmnhjcmefjgjaaGreatDoorXAJ
set_option linter.all false
set_option linter.unusedSectionVars false
set_option autoImplicit true
set_option relaxedAutoImplicit true
namespace Go.Proofs
open Go Go.AM Go.Sort
set_option maxRecDepth 100000
set_option maxHeartbeats 1000000
theorem Fx.toFresh {P:Nat->Prop} {k:AH} (hok:k.ok):Fx P k k.fresh:=⟨zAa k,Nat.le_refl _,fun _ _ _=>rfl,fun m h _ _=>by
 have:=hok
 unfold AH.ok at this
 rw [zAN]
 omega⟩
theorem lput0:∀ (y z w:List Value),y.length=w.length->lput (y++z) 0 w=w++z
 | [],z,[],_=>by cases z <;> rfl
 | a::y,z,b::w,h=>by
  have:=lput0 y z w (by simpa using h)
  show b::lput (y++z) 0 w=_
  rw [this];rfl
 | [],_,_::_,h=>by simp at h
 | _::_,_,[],h=>by simp at h
theorem lput_app2:∀ (x y z w:List Value),y.length=w.length->lput (x++y++z) x.length w=x++w++z
 | [],y,z,w,h=>by simpa using lput0 y z w h
 | a::x,y,z,[],h=>by
  have:y=[]:=List.length_eq_zero_iff.1 h
  subst this;rfl
 | a::x,y,z,b::w,h=>by
  show a::lput (x++y++z) x.length (b::w)=a::(x++(b::w)++z)
  rw [lput_app2 x y z (b::w) h]
theorem clear26g {h:AH} {b i m cp:Nat} {x y z:List Value} {ty es:Nat} (hb:h.get b=some (.row (x++y++z) ty es false)) (hx:x.length=i*2) (hy:y.length=m*2) (hm:m≠0) :
  zAC E .clear [26] (some [.slice (some ⟨b,i*2,none⟩) m cp]) h=one (.tuple #[],h.upd b (some (.row (x++rep m [.int .i64 0,.int .i64 0]++z) ty es false))):=by
 show wClear E 26 (.slice (some ⟨b,i*2,none⟩) m cp) h=_
 have hm0:Nat.beq m 0=false:=by cases m with|zero=>exact absurd rfl hm|succ m=>rfl
 simp only [wClear,elt26.el,hm0,cond_false,clearRow,z_54,ts_54,hb,zAH,List.length_append,hx,hy,zS]
 have h1:Nat.ble (i*2+m*2) (i*2+m*2+z.length)=true:=ble_true.2 (by omega)
 have h2:lput (x++y++z) (i*2) (rep m [Value.int .i64 0,.int .i64 0])=x++rep m [.int .i64 0,.int .i64 0]++z:=by
  rw [← hx];exact lput_app2 _ _ _ _ (by rw [rep_len,hy];rfl)
 simp only [h1,h2]
 rfl
theorem row_split3 {d:Dt} {i n:Nat} (h:i<=n):zC3 d=(d.toList.take i).flatMap zE++((d.toList.drop i).take (n-i)).flatMap zE++(d.toList.drop n).flatMap zE:=by
 rw [← List.flatMap_append,← List.flatMap_append,List.append_assoc]
 have:(d.toList.drop i).take (n-i)++d.toList.drop n=d.toList.drop i:=by
  have:=List.take_append_drop (n-i) (d.toList.drop i)
  rw [List.drop_drop,show i+(n-i)=n by omega] at this
  exact this
 rw [this,List.take_append_drop];rfl
theorem rep_prs:∀ n,rep n [Value.int .i64 0,.int .i64 0]=(List.replicate n ((0:Int),(0:Int))).flatMap zE
 | 0=>rfl
 | n+1=>by rw [List.replicate_succ,List.flatMap_cons,← rep_prs n];rfl
structure CutG (b ty es:Nat) (k:AH) (d:Dt) (v:Value) (m:AH) (l:List (Int×Int)):Prop where
 v:v=sl b l.length (UNK+2)
 row:∃ d':Dt,m.get b=some (.row (zC3 d') ty es false)/\d'.size=d.size/\d'.toList.take l.length=l
 fx:Fx (fun c=>c=b) k m
section
variable {b ty es c:Nat} {k:AH} {d:Dt} {cf:Value} {f:Int×Int->Bool}
theorem call95g (hok:k.ok) (hg:k.get b=some (.row (zC3 d) ty es false)) (hbl:b<k.next) {n:Nat} (hs:n<=d.size) (hn:d.size<=1000000) (hf:∀ k',Fx (fun c=>c=b) k k'->∀ i,i<n->zV (zX E) (some cf) (some [.agg ⟨zE d[i]!⟩]) k'=some [(.bool (f d[i]!),k')]) :
  (zX E).call 95 [sl b n c,cf] k=some [(.int .i64 (zl (fun i=>f d[i]!) n 0),k)]:=by
 refine F95_flat (s:=true) hok rfl (P95_0_of ?_)
 try simp only [zA]
 refine P95_1_of ?_
 simp only [zA,len95_1_1]
 have R:=SR.fresh (ty:=ty) (es:=es) hg hbl
 have loop:∀ (m i:Nat),i+m=n->P95_2 true (KR E [.tmp 4] fun x l=>x=.int .i64 (zl (fun i=>f d[i]!) m i)/\k.next<=l.wm) (sl b n c) cf (.int .i64 (n:Int)) (.int .i64 (i:Int)) k.fresh:=by
  intro m
  induction m with
  | zero=>
   intro i hm
   refine P95_2_of ?_
   simp only [zb,zA,show decide ((i:Int)<(n:Int))=false from decide_eq_false (by omega),zAA]
   refine P95_7_of ?_
   try simp only [zA]
   rw [zAD]
   exact ⟨zT ▸ trivial,rfl,Nat.le_add_right _ _⟩
  | succ m ih=>
   intro i hm
   refine P95_2_of ?_
   simp only [zb,zA,show decide ((i:Int)<(n:Int))=true from decide_eq_true (by omega),z7]
   refine P95_3_of ?_
   try simp only [zA]
   refine P95_4_of ?_
   simp only [zA,ia_26 (show i<n by omega),R.ld (i:=i) (by omega),hf _ (Fx.toFresh hok) i (by omega),zO]
   cases hfi:f d[i]! with
   | true=>
    simp only [z7]
    refine P95_5_of ?_
    try simp only [zA]
    rw [zAD]
    exact ⟨zT ▸ trivial,by simp [zl,hfi],Nat.le_add_right _ _⟩
   | false=>
    simp only [zAA]
    refine P95_6_of ?_
    simp only [zA,addN1 (show i+1<=9223372036854775807 by omega)]
    have:=ih (i+1) (by omega)
    simp only [zl,hfi,Bool.false_eq_true,if_false]
    exact this
 exact loop n 0 (by omega)
theorem call37g (hok:k.ok) (hg:k.get b=some (.row (zC3 d) ty es false)) (hbl:b<k.next) {n:Nat} (hs:n<=d.size) (hn:d.size<=1000000) (hf:∀ k',Fx (fun c=>c=b) k k'->∀ i,i<n->zV (zX E) (some cf) (some [.agg ⟨zE d[i]!⟩]) k'=some [(.bool (f d[i]!),k')]) :
  Ev true ((zX E).call 37 [sl b n (UNK+2),cf] k) fun x=>CutG b ty es k d x.1 x.2 ((d.toList.take n).filter fun p=>!f p):=by
 have hfk:∀ k',Fx (fun c=>c=b) k.fresh k'->∀ i,i<n->zV (zX E) (some cf) (some [.agg ⟨zE d[i]!⟩]) k'=some [(.bool (f d[i]!),k')]:=fun k' fx=>hf k' ((Fx.toFresh hok).trans fx fun c h=>.inl h)
 by_cases hsc:zl (fun i=>f d[i]!) n 0=-1
 ·have hall:(d.toList.take n).filter (fun p=>!f p)=d.toList.take n:=by
   rcases idxFrom_spec (fun i=>f d[i]!) n 0 with ⟨_,h2⟩|⟨j,_,h2,_,_⟩
   ·rw [List.filter_eq_self]
    intro p hp
    obtain ⟨j,hj⟩:=List.getElem?_of_mem hp
    have hjl:=(List.getElem?_eq_some_iff.1 hj).1
    have hj2:j<n:=by simp at hjl;omega
    rw [List.getElem?_take_of_lt hj2,get_list (by omega)] at hj
    cases hj
    have:f d[j]! = false:=h2 j (Nat.zero_le _) (by omega)
    simp [this]
   ·rw [h2] at hsc;omega
  refine F37_some (Rp:=fun v m=>CutG b ty es k d v m ((d.toList.take n).filter fun p=>!f p)) (P37_0_of ?_)
  try simp only [zA]
  refine P37_1_of ?_
  simp only [zA,zR,call95g (k:=k.fresh) (zAa k) hg hbl hs hn hfk,zO,hsc]
  refine P37_2_of ?_
  simp only [zA,zAV,decide_true,z7]
  refine P37_3_of ?_
  try simp only [zA]
  rw [zAD,hall]
  refine ⟨zT ▸ trivial,.inl rfl,by simp [sl];omega,⟨d,get_wm hg,rfl,by rw [List.length_take,Array.length_toList,Nat.min_eq_left hs]⟩,(Fx.refl (zAa k)).back⟩
 ·obtain ⟨i0,hi0,hix,hfi,hlo⟩:∃ j,j<n/\zl (fun i=>f d[i]!) n 0=(j:Int)/\f d[j]! = true/\∀ q,q<j->f d[q]! = false:=by
   rcases idxFrom_spec (fun i=>f d[i]!) n 0 with ⟨h1,_⟩|⟨j,h1,h2,h3,h4⟩
   ·exact absurd h1 hsc
   ·exact ⟨j,by omega,h2,h3,fun q hq=>h4 q (Nat.zero_le _) hq⟩
  refine F37_some (Rp:=fun v m=>CutG b ty es k d v m ((d.toList.take n).filter fun p=>!f p)) (P37_0_of ?_)
  try simp only [zA]
  refine P37_1_of ?_
  simp only [zA,zR,call95g (k:=k.fresh) (zAa k) hg hbl hs hn hfk,zO,hix]
  refine P37_2_of ?_
  simp only [zA,zAV,show decide ((i0:Int)=-1)=false from decide_eq_false (by omega),zAA]
  refine P37_4_of ?_
  simp only [zA,addN1 (show i0+1<=9223372036854775807 by omega)]
  have loop:∀ (m j i:Nat) (d':Dt) (h:AH),j+m=n->i<j->SR b ty es k.fresh d h d'->d'.toList.take i=(d.toList.take j).filter (fun p=>!f p)->(∀ x,j<=x->x<n->d'[x]! = d[x]!)->
    P37_5 true (KR E [.tmp 4] (fun x l=>(zj x=false\/l.wm<k.next)/\CutG b ty es k d x ⟨l.t,l.next,cond (Nat.ble k.wm l.wm) k.wm l.wm⟩ ((d.toList.take n).filter fun p=>!f p))) (sl b n (UNK+2)) cf (.int .i64 (i:Int)) (.int .i64 (j:Int)) h:=by
   intro m
   induction m with
   | zero=>
    intro j i d' h hm hij R ht hx
    have hsz:=R.sz
    refine P37_5_of ?_
    simp only [zA,len37_5_2,zb,show decide ((j:Int)<(n:Int))=false from decide_eq_false (by omega),zAA]
    refine P37_11_of ?_
    have hcl:=clear26g (h:=h) (b:=b) (ty:=ty) (es:=es) (i:=i) (m:=n-i) (cp:=UNK+2) (x:=(d'.toList.take i).flatMap zE) (y:=((d'.toList.drop i).take (n-i)).flatMap zE) (z:=(d'.toList.drop n).flatMap zE) (by rw [← row_split3 (show i<=n by omega)];exact R.g) (by rw [zCI];simp;omega) (by rw [zCI];simp;omega) (by omega)
    simp only [zA,cut37a (show i<n by omega),hcl,zL]
    refine P37_12_of ?_
    simp only [zA,cut37b (show i<=n by omega)]
    have hlen:((d.toList.take n).filter fun p=>!f p).length=i:=by rw [show n=j by omega,← ht];simp;omega
    rw [zAD]
    have hr:(d'.toList.take i).flatMap zE++rep (n-i) [.int .i64 0,.int .i64 0]++(d'.toList.drop n).flatMap zE=zC3 (d'.toList.take i++List.replicate (n-i) (0,0)++d'.toList.drop n).toArray:=by
     simp only [zC3,List.flatMap_append,rep_prs]
    rw [hr]
    have f1:=R.fx.upd (b:=b) (.inl rfl) (some (.row (zC3 (d'.toList.take i++List.replicate (n-i) (0,0)++d'.toList.drop n).toArray) ty es false))
    have g1:=zQ h b (some (.row (zC3 (d'.toList.take i++List.replicate (n-i) (0,0)++d'.toList.drop n).toArray) ty es false))
    refine ⟨zT ▸ trivial,.inl rfl,by rw [hlen],⟨_,get_wm g1,by simp;omega,?_⟩,f1.back⟩
    rw [hlen,show n=j by omega,← ht]
    simp only [List.append_assoc]
    rw [List.take_append_of_le_length (by simp;omega),List.take_take,Nat.min_self]
   | succ m ih=>
    intro j i d' h hm hij R ht hx
    have hsz:=R.sz
    refine P37_5_of ?_
    simp only [zA,len37_5_2,zb,show decide ((j:Int)<(n:Int))=true from decide_eq_true (by omega),z7]
    refine P37_6_of ?_
    have hk:=R.fx.next
    obtain ⟨h1,e1⟩:∃ h1,h.new (.row [.int .i64 0,.int .i64 0] 54 0 false)=h1:=⟨_,rfl⟩
    obtain ⟨h2,e2⟩:∃ h2,h1.upd h.next (some (.row (zE d'[j]!) 54 0 false))=h2:=⟨_,rfl⟩
    have hbox:=box54 (k:=h) (p:=d'[j]!)
    rw [e1,e2] at hbox
    have R2:SR b ty es k.fresh d h2 d':=by
     have hl:=R.l
     have hkn:k.fresh.next<=h.next:=hk
     have g2:h2.get b=h.get b:=by rw [← e2,zU (by omega),← e1,zK (by omega)]
     have w1:h2.wm<=h.wm:=by rw [← e2];refine Nat.le_trans (wm_upd _ _ _).2 ?_;rw [← e1];exact Nat.le_refl _
     refine ⟨?_,g2.trans R.g,?_,Nat.le_trans w1 R.wle,R.sz,R.lt⟩
     ·rw [← e2,← e1];exact (R.fx.new _).upd (.inr hkn) _
     ·rcases R.wm with w|w
      ·exact .inl (by omega)
      ·exact .inr w
    have t2:h2.get h.next=some (.row (zE d'[j]!) 54 0 false):=by rw [← e2];exact zQ _ _ _
    simp only [zA,ia_26 (show j<n by omega),R.ld (i:=j) (by omega),z_54,zd,zL,zS,e1,hbox]
    have hv:d'[j]! = d[j]!:=hx j (Nat.le_refl _) (by omega)
    have lv:zG E 54 h2 (some (.pointer (some ⟨h.next,0,none⟩)))=some (.agg ⟨zE d'[j]!⟩):=by
     have:=za (P:=E) ta_54 (o:=0) t2 (by simp [zE])
     exact this
    refine P37_7_of ?_
    have hfj':=hfk h2 R2.fx j (by omega)
    rw [← hv] at hfj'
    simp only [zA,lv,hfj',zO,zp]
    have htk:=take_get (d:=d) (j:=j) (by omega)
    cases hfj:f d'[j]! with
    | true=>
     simp only [Bool.not_true,zAA]
     refine P37_10_of ?_
     simp only [zA,addN1 (show j+1<=9223372036854775807 by omega)]
     refine ih (j+1) i d' h2 (by omega) (by omega) R2 ?_ fun x a b=>hx x (by omega) b
     rw [htk,List.filter_append,← ht,← hv]
     simp [hfj]
    | false=>
     simp only [Bool.not_false,z7]
     refine P37_8_of ?_
     obtain ⟨h3,q1,R3⟩:=R2.st (i:=i) (by omega) d'[j]!
     simp only [zA,lv,ia_26 (show i<n by omega),q1,zL]
     refine P37_9_of ?_
     simp only [zA,addN1 (show i+1<=9223372036854775807 by omega)]
     refine P37_10_of ?_
     simp only [zA,addN1 (show j+1<=9223372036854775807 by omega)]
     refine ih (j+1) (i+1) _ h3 (by omega) (by omega) R3 ?_ fun x a b=>?_
     ·rw [Array.toList_setIfInBounds,take_setA _ _ _ (by simp;omega),ht,htk,List.filter_append,← hv]
      simp [hfj]
     ·rw [← hx x (by omega) b]
      rw [getElem!_pos _ x (by simp;omega),getElem!_pos d' x (by omega),Array.getElem_setIfInBounds_ne (by omega) (by omega)]
  refine loop (n-(i0+1)) (i0+1) i0 d _ (by omega) (by omega) (SR.fresh hg hbl) ?_ fun x _ _=>rfl
  rw [take_get (show i0<d.size by omega),List.filter_append]
  have:(d.toList.take i0).filter (fun p=>!f p)=d.toList.take i0:=by
   rw [List.filter_eq_self]
   intro p hp
   obtain ⟨q,hq⟩:=List.getElem?_of_mem hp
   have hql:=(List.getElem?_eq_some_iff.1 hq).1
   simp only [List.length_take,Array.length_toList] at hql
   rw [List.getElem?_take_of_lt (by omega),get_list (by omega)] at hq
   cases hq
   simp [hlo q (by omega)]
  rw [this]
  simp [hfi]
end
theorem arr49a {b:Nat}:z6 E (zm [(2,ptr b)]) (zr B49 [1,0] 0)=some (.slice (some ⟨b,0,none⟩) 2 2):=by kernel_rfl
theorem arr49b {b:Nat}:z6 E (zm [(3,ptr b)]) (zr B49 [1,0] 1)=some (.slice (some ⟨b,0,none⟩) 2 2):=by kernel_rfl
theorem call49 {k:AH} {x y:Int×Int} (hok:k.ok):(zX E).call 49 [.agg ⟨zE x⟩,.agg ⟨zE y⟩] k=some [(.int .i64 (cmpP x y),k)]:=by
 refine F49_flat (s:=true) hok rfl (P49_0_of ?_)
 simp only [zd,zL,zS,zA]
 obtain ⟨k1,e1,n1,t1,o1,f1⟩:=nwF k (.row (zE x) 54 0 false)
 obtain ⟨k2,e2,n2,t2,o2,f2⟩:=nw o1 (.row (zE y) 54 0 false)
 simp only [e1,e2,zZ]
 refine P49_1_of ?_
 simp only [arr49a,arr49b,zA,zR,call35 o2.ext.ok ((f2 _ (by omega)).trans t1) t2,zO,zAD,zT,true_and]
 exact o2.wm
def Weak (l:List (Int×Int)):Prop:=∀ (j:Nat) (p q:Int×Int),l[j]?=some p->l[j+1]?=some q->¬ cmpP q p<0
theorem call48 {h0 k:AH} {v:Value} {l:List (Int×Int)} (ha:Arr h0 2 v (l.map zE)) (hn:l.length<=1000000) (hk:Ext h0 k) :
  ∃ b:Bool,(b=true->Weak l)/\(zX E).call 48 [v,.func (.func 49) #[] #[]] k=some [(.bool b,k)]:=by
 obtain ⟨ad,c,hv⟩:=ha.slice
 rw [List.length_map] at hv
 have key:∃ x,zAX (Weak l) x/\(zX E).call 48 [v,.func (.func 49) #[] #[]] k=some [(x,k)]:=by
  refine F48_flatE hk.ok (P48_0_of (P48_1_of ?_))
  have loop:∀ (i:Nat),i<l.length->(∀ (j:Nat) (p q:Int×Int),i<=j->l[j]?=some p->l[j+1]?=some q->¬ cmpP q p<0)->PI (C48 true) (KB k [.tmp 4] (zAX (Weak l))) 2 [v,.func (.func 49) #[] #[],.int .i64 (i:Int)] k.fresh:=by
   intro i
   induction i with
   | zero=>
    intro hi hp
    refine P48_2_of ?_
    simp only [zAI,zA,zAK]
    refine ⟨fun h=>by omega,fun _=>P48_6_of ?_⟩
    simp only [zAD,zT,true_and]
    exact ⟨⟨rfl,_,rfl,fun _ j p q=>hp j p q (Nat.zero_le _)⟩,by rw [zAN];omega⟩
   | succ i ih=>
    intro hi hp
    refine P48_2_of ?_
    simp only [zAI,zA,zAK]
    refine ⟨fun _=>P48_3_of ?_,fun h=>by omega⟩
    have hx:(l.map zE)[i+1]?=some (zE l[i+1]):=by rw [List.getElem?_map,List.getElem?_eq_getElem hi];rfl
    have hy:(l.map zE)[i]?=some (zE l[i]):=by rw [List.getElem?_map,List.getElem?_eq_getElem (show i<l.length by omega)];rfl
    obtain ⟨p1,q1,w1⟩:=idx26 ha hk.fresh hx
    obtain ⟨p2,q2,w2⟩:=idx26 ha hk.fresh hy
    have hsub:zF E .sub 3 (.int .i64 ((i+1:Nat):Int)) (.int .i64 1)=some (.int .i64 (i:Int)):=by
     rw [bf_sub _ (show in64 (((i+1:Nat):Int)-1) by unfold in64;omega)];congr 2;omega
    simp only [q1,w1,hsub,q2,w2,zA,zR,call49 hk.fresh.ok,zO,zb,zAK]
    refine ⟨fun h=>P48_4_of ?_,fun h=>P48_5_of ?_⟩
    ·simp only [zAD,zT,true_and]
     exact ⟨⟨rfl,_,rfl,fun h=>by cases h⟩,by rw [zAN];omega⟩
    ·simp only [hsub,zA]
     refine ih (by omega) fun j p q hj h1 h2=>?_
     rcases Nat.eq_or_lt_of_le hj with e|e
     ·subst e
      rw [List.getElem?_eq_getElem (show i<l.length by omega)] at h1
      rw [List.getElem?_eq_getElem hi] at h2
      cases h1;cases h2;exact h
     ·exact hp j p q e h1 h2
  rw [hv]
  simp only [zA,len48_1_1]
  rw [← hv]
  by_cases h0:l.length=0
  ·rw [bf_sub _ (show in64 ((l.length:Int)-1) by unfold in64;omega),zA]
   refine P48_2_of ?_
   simp only [zAI,zA,zAK]
   refine ⟨fun h=>by omega,fun _=>P48_6_of ?_⟩
   simp only [zAD,zT,true_and]
   exact ⟨⟨rfl,_,rfl,fun _ j p q h1 _=>by have:=(List.getElem?_eq_some_iff.1 h1).1;omega⟩,by rw [zAN];omega⟩
  ·rw [bf_sub _ (show in64 ((l.length:Int)-1) by unfold in64;omega),zA,show (l.length:Int)-1=((l.length-1:Nat):Int) by omega]
   exact loop (l.length-1) (by omega) fun j p q hj _ h2=>by have:=(List.getElem?_eq_some_iff.1 h2).1;omega
 obtain ⟨x,⟨b,rfl,hb⟩,h⟩:=key
 exact ⟨b,hb,h⟩
theorem nil32n {c:Nat}:z6 E (zm [(3,.slice none 0 c)]) (zr B32 [1,0,0] 1)=some (.bool true):=by kernel_rfl
theorem nil32s {a:Addr} {c:Nat}:z6 E (zm [(3,.slice (some a) 0 c)]) (zr B32 [1,0,0] 1)=some (.bool false):=by kernel_rfl
theorem sliceCells0 {size:Nat} {a:Addr} {c:Nat} {h:AH}:zAr size (.slice (some a) 0 c) h=some (0,[]):=by
 obtain ⟨b,o,sp⟩:=a
 cases sp with
 | some s=>rfl
 | none=>
  unfold zAr
  simp only
  split
  ·simp [zAj,zAH]
  ·rfl
theorem append_zero {h:AH} {b:Nat} {a:Addr} {c:Nat}:zAC E .append [26,26] (some [.slice (some ⟨b,0,none⟩) 0 0,.slice (some a) 0 c]) h=one (.slice (some ⟨b,0,none⟩) 0 0,h):=by
 obtain ⟨ti,e1,e2,e3⟩:=elt26.ti
 show v2 (zAp E [26,26] (.slice (some ⟨b,0,none⟩) 0 0) (.slice (some a) 0 c) h)=_
 simp only [zAp,elt26.el,elt26.un,isIntD,cond_false,e1,zBj,sliceCells0,e3,cond_true,zBi,show Nat.beq 0 0=true from rfl,show Nat.ble 0 0=true from rfl,v2]
def Emp (v:Value):Prop:=∃ a c,v=.slice a 0 c
theorem call32e {k:AH} {v:Value} (hok:k.ok) (hv:Emp v):Ev true ((zX E).call 32 [v] k) fun x=>Emp x.1/\(∀ c,zo x.1 c->k.next<=c/\c<x.2.next)/\Fx NoB k x.2:=by
 obtain ⟨a,c,rfl⟩:=hv
 cases a with
 | none=>
  have:(zX E).call 32 [.slice none 0 c] k=some [(.slice none 0 0,k)]:=by
   refine F32_flat1 hok rfl (P32_0_of (P32_1_of ?_))
   simp only [nil32n,zA,z7]
   refine P32_2_of ?_
   simp only [zAD,zT,true_and]
   rw [zAN];omega
  rw [this,zO]
  exact ⟨⟨_,_,rfl⟩,fun c hc=>(by obtain ⟨n,cap,h⟩:=hc;cases h),Fx.refl hok⟩
 | some a=>
  refine F32_some (Rp:=fun x m=>Emp x/\(∀ c,zo x c->k.next<=c/\c<m.next)/\Fx NoB k m) (P32_0_of (P32_1_of ?_))
  simp only [nil32s,zA,zAA]
  refine P32_3_of ?_
  obtain ⟨k1,e1,n1,t1,o1,f1⟩:=nwF k (.row [] 54 0 false)
  have x1:Fx NoB k.fresh k1:=by rw [← e1];exact (Fx.refl (zAa k)).new _
  simp only [zA,bs26_0,zL,e1,zZ,append_zero]
  rw [zAD]
  refine ⟨zT ▸ trivial,.inl rfl,⟨_,_,rfl⟩,fun c hc=>?_,x1.back⟩
  obtain ⟨n,cap,h⟩:=hc
  simp only [Value.slice.injEq,Option.some.injEq,Addr.mk.injEq] at h
  show k.next<=c/\c<k1.next
  omega
theorem call36e {k:AH} {v:Value} (hok:k.ok) (hv:Emp v):Ev true ((zX E).call 36 [v] k) fun x=>Emp x.1/\Fx NoB k x.2:=by
 obtain ⟨a,c,rfl⟩:=hv
 cases a with
 | none=>
  have:(zX E).call 36 [.slice none 0 c] k=some [(.slice none 0 c,k)]:=by
   refine F36_flat1 hok rfl (P36_0_of (P36_1_of ?_))
   simp only [len36_1_1,zA,zb,show decide (((0:Nat):Int)<2)=true from rfl,z7]
   refine P36_2_of ?_
   simp only [zAD,zT,true_and]
   rw [zAN];omega
  rw [this,zO]
  exact ⟨⟨_,_,rfl⟩,Fx.refl hok⟩
 | some a=>
  refine F36_some (Rp:=fun x m=>Emp x/\Fx NoB k m) (P36_0_of (P36_1_of ?_))
  simp only [len36_1_1,zA,zb,show decide (((0:Nat):Int)<2)=true from rfl,z7]
  refine P36_2_of ?_
  rw [zAD]
  exact ⟨zT ▸ trivial,.inl rfl,⟨_,_,rfl⟩,(Fx.refl (zAa k)).back⟩
theorem call95e {k:AH} {v cf:Value} (hok:k.ok) (hv:Emp v):(zX E).call 95 [v,cf] k=some [(.int .i64 (-1),k)]:=by
 obtain ⟨a,c,rfl⟩:=hv
 refine F95_flat (s:=true) hok rfl (P95_0_of (P95_1_of ?_))
 simp only [zA,len95_1_1]
 refine P95_2_of ?_
 simp only [zb,zA,show decide ((0:Int)<((0:Nat):Int))=false from rfl,zAA]
 refine P95_7_of ?_
 simp only [zAD,zT,true_and]
 rw [zAN];omega
theorem call37e {k:AH} {v cf:Value} (hok:k.ok) (hv:Emp v):Ev true ((zX E).call 37 [v,cf] k) fun x=>x.1=v/\Fx NoB k x.2:=by
 have hv0:=hv
 obtain ⟨a,c,rfl⟩:=hv
 have h95:=call95e (k:=k.fresh) (cf:=cf) (zAa k) hv0
 cases a with
 | none=>
  have:(zX E).call 37 [.slice none 0 c,cf] k=some [(.slice none 0 c,k)]:=by
   refine F37_flat1 hok rfl (P37_0_of (P37_1_of ?_))
   simp only [zR,zA,h95,zO]
   refine P37_2_of ?_
   simp only [zA,zAV,decide_true,z7]
   refine P37_3_of ?_
   simp only [zAD,zT,true_and]
   rw [zAN];omega
  rw [this,zO]
  exact ⟨rfl,Fx.refl hok⟩
 | some a=>
  refine F37_some (Rp:=fun x m=>x=.slice (some a) 0 c/\Fx NoB k m) (P37_0_of (P37_1_of ?_))
  simp only [zR,zA,h95,zO]
  refine P37_2_of ?_
  simp only [zA,zAV,decide_true,z7]
  refine P37_3_of ?_
  rw [zAD]
  exact ⟨zT ▸ trivial,.inl rfl,rfl,(Fx.refl (zAa k)).back⟩
def Lf (lo:Nat) (m:AH) (v:Value) (l:List (Int×Int)):Prop:=(l=[]/\Emp v)\/∃ (b:Nat) (d:Dt),v=sl b l.length (UNK+2)/\lo<=b/\b<m.next/\m.get b=some (.row (zC3 d) 54 2 false)/\d.toList.take l.length=l/\d.size<=1000000
theorem Lf.arr {lo:Nat} {m:AH} {v:Value} {l:List (Int×Int)} (h:Lf lo m v l):Arr m 2 v (l.map zE):=by
 rcases h with ⟨rfl,a,c,rfl⟩|⟨b,d,rfl,_,h2,h3,h4,_⟩
 ·exact .nil a c
 ·refine arr_row (rest:=(d.toList.drop l.length).flatMap zE) h3 h2 ?_
  rw [row_splitP d l.length,h4]
theorem Lf.fx {P:Nat->Prop} {lo:Nat} {m m':AH} {v:Value} {l:List (Int×Int)} (h:Lf lo m v l) (f:Fx P m m') (hP:∀ c,zo v c->¬ P c):Lf lo m' v l:=by
 rcases h with h|⟨b,d,rfl,h1,h2,h3,h4,h5⟩
 ·exact .inl h
 ·exact .inr ⟨b,d,rfl,h1,Nat.lt_of_lt_of_le h2 f.next,(f.get b h2 (hP b ⟨_,_,rfl⟩)).trans h3,h4,h5⟩
theorem Lf.ext {lo:Nat} {m m':AH} {v:Value} {l:List (Int×Int)} (h:Lf lo m v l) (f:Ext m m'):Lf lo m' v l:=by
 rcases h with h|⟨b,d,rfl,h1,h2,h3,h4,h5⟩
 ·exact .inl h
 ·exact .inr ⟨b,d,rfl,h1,Nat.lt_of_lt_of_le h2 f.next,(f.get b h2).trans h3,h4,h5⟩
theorem call32a {k:AH} {v:Value} {l:List (Int×Int)} (hok:k.ok) (ha:Arr k 2 v (l.map zE)) (hn:l.length<=1000000) :
  Ev true ((zX E).call 32 [v] k) fun x=>Lf k.next x.2 x.1 l/\(∀ c,zo x.1 c->k.next<=c/\c<x.2.next)/\Fx NoB k x.2:=by
 by_cases hl:l=[]
 ·subst hl
  obtain ⟨a,c,hv⟩:=ha.slice
  exact (call32e hok ⟨a,c,hv⟩).mono fun x hx=>⟨.inl ⟨rfl,hx.1⟩,hx.2.1,hx.2.2⟩
 ·refine (call32 hok ha hl hn).mono fun x hx=>?_
  obtain ⟨b,h1,h2,h3,h4,h5⟩:=hx
  refine ⟨.inr ⟨b,l.toArray,h1,h2,h3,by rw [h4];rfl,by simp,by simpa using hn⟩,fun c hc=>?_,h5⟩
  obtain ⟨n,cap,e⟩:=hc
  rw [h1] at e
  simp only [sl,Value.slice.injEq,Option.some.injEq,Addr.mk.injEq] at e
  rw [← e.1.1];exact ⟨h2,h3⟩
theorem call37a {k:AH} {lo:Nat} {v cf:Value} {l:List (Int×Int)} {f:Int×Int->Bool} (hok:k.ok) (hl:Lf lo k v l) (hf:∀ k',Fx (zo v) k k'->∀ p∈l,zV (zX E) (some cf) (some [.agg ⟨zE p⟩]) k'=some [(.bool (f p),k')]) :
  Ev true ((zX E).call 37 [v,cf] k) fun x=>Lf lo x.2 x.1 (l.filter fun p=>!f p)/\(∀ c,zo x.1 c->zo v c)/\Fx (zo v) k x.2:=by
 rcases hl with ⟨rfl,he⟩|⟨b,d,rfl,h1,h2,h3,h4,h5⟩
 ·exact (call37e hok he).mono fun x hx=>⟨.inl ⟨rfl,by rw [hx.1];exact he⟩,fun c h=>by rw [hx.1] at h;exact h,hx.2.mono fun c h=>h.elim⟩
 ·have hn:l.length<=d.size:=by
   have:=congrArg List.length h4
   simp at this
   omega
  have hb:∀ c,c=b->zo (sl b l.length (UNK+2)) c:=fun c e=>by subst e;exact ⟨_,_,rfl⟩
  refine (call37g hok h3 h2 hn h5 (f:=f) fun k' fx i hi=>hf k' (fx.mono fun c e=>.inl (hb c e)) _ ?_).mono fun x hx=>?_
  ·refine List.mem_of_getElem? (i:=i) ?_
   rw [← h4,List.getElem?_take_of_lt hi,get_list (by omega)]
  ·obtain ⟨d',r1,r2,r3⟩:=hx.row
   have hv:=hx.v
   rw [h4] at hv r3
   refine ⟨.inr ⟨b,d',hv,h1,Nat.lt_of_lt_of_le h2 hx.fx.next,r1,r3,by omega⟩,fun c hc=>?_,hx.fx.mono fun c e=>.inl (hb c e)⟩
   rw [hv] at hc
   obtain ⟨n,cap,e⟩:=hc
   simp only [Value.slice.injEq,Option.some.injEq,Addr.mk.injEq] at e
   exact hb c e.1.1.symm
end Go.Proofs
namespace Go.Proofs
open Go Go.AM Go.Sort
set_option maxRecDepth 100000
set_option maxHeartbeats 8000000
structure St7 (k h:AH) (L M:GL) (B:GB) (vl ve wl we vp:Value):Prop where
 ow:Own k h
 r4:h.get k.next=some (.row [.int .i64 L.n,vl,ve] 25 0 false)
 r5:h.get (k.next+1)=some (.row [.int .i64 M.n,wl,we] 25 0 false)
 r6:h.get (k.next+2)=some (.row [.int .i64 B.kind,vp] 32 0 false)
 lt:k.next+2<h.next
section
variable {k h m:AH} {L M:GL} {B:GB} {vl ve wl we vp:Value}
theorem St7.fx (S:St7 k h L M B vl ve wl we vp) (f:Fx NoB h m):St7 k m L M B vl ve wl we vp:=by
 have:=S.lt
 exact ⟨f.own S.ow fun c hc=>hc.elim,(f.get _ (by omega) (fun h=>h)).trans S.r4,(f.get _ (by omega) (fun h=>h)).trans S.r5,(f.get _ (by omega) (fun h=>h)).trans S.r6,Nat.lt_of_lt_of_le S.lt f.next⟩
theorem St7.fxb {b:Nat} (S:St7 k h L M B vl ve wl we vp) (f:Fx (fun c=>c=b) h m) (hb:k.next+2<b):St7 k m L M B vl ve wl we vp:=by
 have:=S.lt
 exact ⟨f.own S.ow fun c hc=>by have:c=b:=hc;omega,(f.get _ (by omega) (by omega)).trans S.r4,(f.get _ (by omega) (by omega)).trans S.r5,(f.get _ (by omega) (by omega)).trans S.r6,Nat.lt_of_lt_of_le S.lt f.next⟩
theorem St7.l4 (S:St7 k h L M B vl ve wl we vp):zG E 25 h (some (.pointer (some ⟨k.next,0,none⟩)))=some (.agg ⟨[.int .i64 L.n,vl,ve]⟩):=za (P:=E) ta_25 (o:=0) S.r4 (by simp)
theorem St7.l5 (S:St7 k h L M B vl ve wl we vp):zG E 25 h (some (.pointer (some ⟨k.next+1,0,none⟩)))=some (.agg ⟨[.int .i64 M.n,wl,we]⟩):=za (P:=E) ta_25 (o:=0) S.r5 (by simp)
theorem St7.l6 (S:St7 k h L M B vl ve wl we vp):zG E 32 h (some (.pointer (some ⟨k.next+2,0,none⟩)))=some (.agg ⟨[.int .i64 B.kind,vp]⟩):=za (P:=E) ta_32 (o:=0) S.r6 (by simp)
theorem St7.n4 (S:St7 k h L M B vl ve wl we vp):zG E 3 h (some (.pointer (some ⟨k.next,0,none⟩)))=some (.int .i64 L.n):=zD (P:=E) zAQ (o:=0) S.r4
theorem St7.n5 (S:St7 k h L M B vl ve wl we vp):zG E 3 h (some (.pointer (some ⟨k.next+1,0,none⟩)))=some (.int .i64 M.n):=zD (P:=E) zAQ (o:=0) S.r5
theorem St7.k6 (S:St7 k h L M B vl ve wl we vp):zG E 3 h (some (.pointer (some ⟨k.next+2,0,none⟩)))=some (.int .i64 B.kind):=zD (P:=E) zAQ (o:=0) S.r6
theorem St7.p6 (S:St7 k h L M B vl ve wl we vp):zG E 26 h (some (.pointer (some ⟨k.next+2,1,none⟩)))=some vp:=zD (P:=E) ta_26 (o:=1) S.r6
end
end Go.Proofs
namespace Go.Proofs
open Go Go.AM Go.Sort
set_option maxRecDepth 100000
set_option maxHeartbeats 4000000
abbrev K8 (k:AH):KF:=KR E [.tmp 6] (fun x m=>x=.bool true/\k.next<=m.wm)
structure OutI (h:AH) (lo hi:Nat) (w:Value) (L:GL):Prop where
 ex:∃ bs cells N,w=.slice (some ⟨bs,0,none⟩) N N/\LoL lo h bs cells (outOf L)/\cells.length=N/\L.n=(N:Int)/\(∀ S∈outOf L,S.length<=100000)/\bs<hi/\∀ (i:Nat) (c:Value) (b:Nat),cells[i]?=some c->zo c b->b<hi
theorem OutI.fx {P:Nat->Prop} {h h':AH} {lo hi:Nat} {w:Value} {L:GL} (o:OutI h lo hi w L) (f:Fx P h h') (hP:∀ c,P c->c<lo\/hi<=c):OutI h' lo hi w L:=by
 obtain ⟨bs,cells,N,h1,h2,h3,h4,h5,h6,h7⟩:=o.ex
 refine ⟨bs,cells,N,h1,h2.fx f (fun hp=>?_) (fun i c b hc hb hp=>?_),h3,h4,h5,h6,h7⟩
 ·have:=h2.locs;have:=hP _ hp;omega
 ·have:=(h2.blk i c b hc hb).2;have:=h7 i c b hc hb;have:=hP _ hp;omega
theorem OutI.no {h h':AH} {lo hi:Nat} {w:Value} {L:GL} (o:OutI h lo hi w L) (f:Fx NoB h h'):OutI h' lo hi w L:=o.fx f fun c hc=>hc.elim
theorem OutI.outC {h:AH} {lo hi c:Nat} {w:Value} {L:GL} (o:OutI h lo hi w L) (hg:h.get c=some (.row [w] 49 0 false)) (hc:c<h.next):OutC h c L:=by
 obtain ⟨bs,cells,N,rfl,h2,h3,h4,h5,h6,h7⟩:=o.ex
 exact ⟨bs,cells,N,lo,hg,hc,h2,h3,h4,h5⟩
theorem OutI.leaf {h:AH} {lo hi:Nat} {w:Value} {L:GL} (o:OutI h lo hi w L):zf w=[w]/\zn w=true:=by
 obtain ⟨bs,cells,N,rfl,_⟩:=o.ex
 exact ⟨rfl,rfl⟩
theorem zA5 {h h':AH} {c:Nat} {o:Option AObj} (f:Fx NoB h h') (g:h.get c=o) (l:c<h.next):h'.get c=o:=(f.get c l fun h=>h).trans g
section
variable {k:AH} {L M:GL} {B:GB} {vl ve wl we vp:Value}
theorem do24 {h:AH} {X:GL} {x:Value} {Q:Value×AH->Prop} (hx:RL k x X) (hX:zq X=false) (S:St7 k h L M B vl ve wl we vp) (H:∀ w h',St7 k h' L M B vl ve wl we vp->Fx NoB h h'->OutI h' h.next h'.next w X->Q (w,h')):Ev false ((zX E).call 24 [x] h) Q:=by
 obtain ⟨z1,z2,_,_⟩:=zC9 hX
 obtain ⟨N,hN⟩:=Int.eq_ofNat_of_zero_le (show 0<=X.n by omega)
 refine ((call24 S.ow.ext.ok (hx.ext S.ow.ext) hX hN).weak).mono ?_
 rintro ⟨w,h'⟩ ⟨bs,cells,h1,h2,h3,h4,h5⟩
 simp only at h1 h2 h5
 refine H w h' (S.fx h5) h5 ⟨bs,cells,N,h1,h2,h3,hN,h4,h2.lts,fun i c b hc hb=>?_⟩
 obtain ⟨S',hS'⟩:∃ S',(outOf X)[i]?=some S':=⟨_,List.getElem?_eq_getElem (by have:=h2.len;have:=(List.getElem?_eq_some_iff.1 hc).1;omega)⟩
 exact (h2.cell i c S' hc hS').lt hb
theorem doNew {h:AH} {t:TypeId} {z:Value} {Q:Value×AH->Prop} (hz:zv E t=some z) (hc:zf z=[z]) (S:St7 k h L M B vl ve wl we vp) (H:∀ h',St7 k h' L M B vl ve wl we vp->Fx NoB h h'->h'.get h.next=some (.row [z] t 0 false)->h.next<h'.next->Q (ptr h.next,h')):Ev false (zP t h (zv E t)) Q:=by
 rw [hz,zd,hc,zL]
 have f:Fx NoB h (h.new (.row [z] t 0 false)):=(Fx.refl S.ow.ext.ok).new _
 exact H _ (S.fx f) f (zI _ _) (Nat.lt_succ_self _)
theorem fin6 {v7:Value} (hK:∀ h a b,St7 k h L M B vl ve wl we vp->OutC h a L->OutC h b M->PI (C8 false) (K8 k) 7 [ptr k.next,ptr (k.next+1),ptr (k.next+2),v7,ptr a,ptr b] h)
  {h:AH} {a b lo1 hi1 lo2 hi2:Nat} {z z' w1 w2:Value} (S:St7 k h L M B vl ve wl we vp) (ga:h.get a=some (.row [z] 49 0 false)) (gb:h.get b=some (.row [z'] 49 0 false)) (la:k.next+2<a/\a<h.next) (lb:k.next+2<b/\b<h.next) (ab:a≠b)
  (O1:OutI h lo1 hi1 w1 L) (O2:OutI h lo2 hi2 w2 M) (d1:a<lo1\/hi1<=a) (d2:b<lo1\/hi1<=b) (d3:a<lo2\/hi2<=a) (d4:b<lo2\/hi2<=b) :
  Ev false (zh E 49 h (some (ptr a)) (some w1)) fun x6=>Ev false (zh E 49 x6.2 (some (ptr b)) (some w2)) fun x7=>PI (C8 false) (K8 k) 7 [ptr k.next,ptr (k.next+1),ptr (k.next+2),v7,ptr a,ptr b] x7.2:=by
 have l1:=O1.leaf
 have l2:=O2.leaf
 have s1:=zw (P:=E) ts_49 (o:=0) (x:=w1) ga l1.1 rfl (by simp) (by simp [l1.2])
 rw [show lput [z] 0 [w1]=[w1] from rfl] at s1
 obtain ⟨h5,e5,n5,t5,g5,f5⟩:∃ m,h.upd a (some (.row [w1] 49 0 false))=m/\m.next=h.next/\m.get a=some (.row [w1] 49 0 false)/\(∀ c,c≠a->m.get c=h.get c)/\Fx (fun c=>c=a) h m:=
  ⟨_,rfl,rfl,zQ _ _ _,fun c hc=>zU hc,(Fx.refl (P:=fun c=>c=a) S.ow.ext.ok).upd (.inl rfl) _⟩
 rw [e5] at s1
 have s2:=zw (P:=E) ts_49 (o:=0) (h:=h5) (x:=w2) ((g5 b ab.symm).trans gb) l2.1 rfl (by simp) (by simp [l2.2])
 rw [show lput [z'] 0 [w2]=[w2] from rfl] at s2
 obtain ⟨h6,e6,n6,t6,g6,f6⟩:∃ m,h5.upd b (some (.row [w2] 49 0 false))=m/\m.next=h5.next/\m.get b=some (.row [w2] 49 0 false)/\(∀ c,c≠b->m.get c=h5.get c)/\Fx (fun c=>c=b) h5 m:=
  ⟨_,rfl,rfl,zQ _ _ _,fun c hc=>zU hc,(Fx.refl (P:=fun c=>c=b) f5.ok).upd (.inl rfl) _⟩
 rw [e6] at s2
 simp only [s1,zL,s2]
 have S5:=S.fxb f5 la.1
 have S6:=S5.fxb f6 lb.1
 have p1:=(O1.fx f5 fun c hc=>by have:c=a:=hc;omega).fx f6 fun c hc=>by have:c=b:=hc;omega
 have p2:=(O2.fx f5 fun c hc=>by have:c=a:=hc;omega).fx f6 fun c hc=>by have:c=b:=hc;omega
 exact hK h6 a b S6 (p1.outC ((g6 a ab).trans t5) (by omega)) (p2.outC t6 (by omega))
theorem region6 {h0:AH} {v7:Value} (hx:RL k (.agg ⟨[.int .i64 L.n,vl,ve]⟩) L) (hy:RL k (.agg ⟨[.int .i64 M.n,wl,we]⟩) M) (hL:zq L=false) (hM:zq M=false) (hvL:veq 100 (.agg ⟨[.int .i64 L.n,vl,ve]⟩) (.agg ⟨[.int .i64 L.n,vl,ve]⟩)=true) (hvM:veq 100 (.agg ⟨[.int .i64 M.n,wl,we]⟩) (.agg ⟨[.int .i64 M.n,wl,we]⟩)=true) (S0:St7 k h0 L M B vl ve wl we vp)
  (hK:∀ h a b,St7 k h L M B vl ve wl we vp->OutC h a L->OutC h b M->PI (C8 false) (K8 k) 7 [ptr k.next,ptr (k.next+1),ptr (k.next+2),v7,ptr a,ptr b] h) :
  PI (C8 false) (K8 k) 6 [ptr k.next,ptr (k.next+1),ptr (k.next+2),v7] h0:=by
 refine P8_6_of ?_
 have b0:=S0.lt
 simp only [S0.l4,S0.l5,zA,zR,true_and]
 refine ⟨?_,?_,?_⟩
 ·refine do24 hx hL S0 fun wL h1 S1 f1 OL=>?_
  have b1:=f1.next
  simp only [S1.l4,S1.l5,hvL,hvM,zA,zR,true_and]
  refine ⟨?_,?_,?_⟩
  ·refine do24 hy hM S1 fun wM h2 S2 f2 OM=>?_
   have b2:=f2.next
   simp only [S2.l4,S2.l5,hvL,hvM,zA,zR,true_and]
   refine ⟨?_,?_⟩
   ·refine doNew z_49 rfl S2 fun h3 S3 f3 gA lA=>?_
    have b3:=f3.next
    simp only [S3.l4,S3.l5,hvL,hvM,zA,zR,true_and]
    refine doNew z_49 rfl S3 fun h4 S4 f4 gB lB=>?_
    have b4:=f4.next
    dsimp only
    exact fin6 hK S4 (zA5 f4 gA (by omega)) gB (by omega) (by omega) (by omega) (((OL.no f2).no f3).no f4) ((OM.no f3).no f4) (by omega) (by omega) (by omega) (by omega)
   ·refine doNew z_49 rfl S2 fun h3 S3 f3 gB lB=>?_
    have b3:=f3.next
    simp only [S3.l4,S3.l5,hvL,hvM,zA,zR,true_and]
    refine doNew z_49 rfl S3 fun h4 S4 f4 gA lA=>?_
    have b4:=f4.next
    dsimp only
    exact fin6 hK S4 gA (zA5 f4 gB (by omega)) (by omega) (by omega) (by omega) (((OL.no f2).no f3).no f4) ((OM.no f3).no f4) (by omega) (by omega) (by omega) (by omega)
  ·refine doNew z_49 rfl S1 fun h2 S2 f2 gA lA=>?_
   have b2:=f2.next
   simp only [S2.l4,S2.l5,hvL,hvM,zA,zR,true_and]
   refine ⟨?_,?_⟩
   ·refine do24 hy hM S2 fun wM h3 S3 f3 OM=>?_
    have b3:=f3.next
    simp only [S3.l4,S3.l5,hvL,hvM,zA,zR,true_and]
    refine doNew z_49 rfl S3 fun h4 S4 f4 gB lB=>?_
    have b4:=f4.next
    dsimp only
    exact fin6 hK S4 (zA5 f4 (zA5 f3 gA (by omega)) (by omega)) gB (by omega) (by omega) (by omega) (((OL.no f2).no f3).no f4) (OM.no f4) (by omega) (by omega) (by omega) (by omega)
   ·refine doNew z_49 rfl S2 fun h3 S3 f3 gB lB=>?_
    have b3:=f3.next
    simp only [S3.l4,S3.l5,hvL,hvM,zA,zR,true_and]
    refine do24 hy hM S3 fun wM h4 S4 f4 OM=>?_
    have b4:=f4.next
    dsimp only
    exact fin6 hK S4 (zA5 f4 (zA5 f3 gA (by omega)) (by omega)) (zA5 f4 gB (by omega)) (by omega) (by omega) (by omega) (((OL.no f2).no f3).no f4) OM (by omega) (by omega) (by omega) (by omega)
  ·refine doNew z_49 rfl S1 fun h2 S2 f2 gB lB=>?_
   have b2:=f2.next
   simp only [S2.l4,S2.l5,hvL,hvM,zA,zR,true_and]
   refine ⟨?_,?_⟩
   ·refine do24 hy hM S2 fun wM h3 S3 f3 OM=>?_
    have b3:=f3.next
    simp only [S3.l4,S3.l5,hvL,hvM,zA,zR,true_and]
    refine doNew z_49 rfl S3 fun h4 S4 f4 gA lA=>?_
    have b4:=f4.next
    dsimp only
    exact fin6 hK S4 gA (zA5 f4 (zA5 f3 gB (by omega)) (by omega)) (by omega) (by omega) (by omega) (((OL.no f2).no f3).no f4) (OM.no f4) (by omega) (by omega) (by omega) (by omega)
   ·refine doNew z_49 rfl S2 fun h3 S3 f3 gA lA=>?_
    have b3:=f3.next
    simp only [S3.l4,S3.l5,hvL,hvM,zA,zR,true_and]
    refine do24 hy hM S3 fun wM h4 S4 f4 OM=>?_
    have b4:=f4.next
    dsimp only
    exact fin6 hK S4 (zA5 f4 gA (by omega)) (zA5 f4 (zA5 f3 gB (by omega)) (by omega)) (by omega) (by omega) (by omega) (((OL.no f2).no f3).no f4) OM (by omega) (by omega) (by omega) (by omega)
 ·refine doNew z_49 rfl S0 fun h1 S1 f1 gA lA=>?_
  have b1:=f1.next
  simp only [S1.l4,S1.l5,hvL,hvM,zA,zR,true_and]
  refine ⟨?_,?_⟩
  ·refine do24 hx hL S1 fun wL h2 S2 f2 OL=>?_
   have b2:=f2.next
   simp only [S2.l4,S2.l5,hvL,hvM,zA,zR,true_and]
   refine ⟨?_,?_⟩
   ·refine do24 hy hM S2 fun wM h3 S3 f3 OM=>?_
    have b3:=f3.next
    simp only [S3.l4,S3.l5,hvL,hvM,zA,zR,true_and]
    refine doNew z_49 rfl S3 fun h4 S4 f4 gB lB=>?_
    have b4:=f4.next
    dsimp only
    exact fin6 hK S4 (zA5 f4 (zA5 f3 (zA5 f2 gA (by omega)) (by omega)) (by omega)) gB (by omega) (by omega) (by omega) ((OL.no f3).no f4) (OM.no f4) (by omega) (by omega) (by omega) (by omega)
   ·refine doNew z_49 rfl S2 fun h3 S3 f3 gB lB=>?_
    have b3:=f3.next
    simp only [S3.l4,S3.l5,hvL,hvM,zA,zR,true_and]
    refine do24 hy hM S3 fun wM h4 S4 f4 OM=>?_
    have b4:=f4.next
    dsimp only
    exact fin6 hK S4 (zA5 f4 (zA5 f3 (zA5 f2 gA (by omega)) (by omega)) (by omega)) (zA5 f4 gB (by omega)) (by omega) (by omega) (by omega) ((OL.no f3).no f4) OM (by omega) (by omega) (by omega) (by omega)
  ·refine doNew z_49 rfl S1 fun h2 S2 f2 gB lB=>?_
   have b2:=f2.next
   simp only [S2.l4,S2.l5,hvL,hvM,zA,zR,true_and]
   refine do24 hx hL S2 fun wL h3 S3 f3 OL=>?_
   have b3:=f3.next
   simp only [S3.l4,S3.l5,hvL,hvM,zA,zR,true_and]
   refine do24 hy hM S3 fun wM h4 S4 f4 OM=>?_
   have b4:=f4.next
   dsimp only
   exact fin6 hK S4 (zA5 f4 (zA5 f3 (zA5 f2 gA (by omega)) (by omega)) (by omega)) (zA5 f4 (zA5 f3 gB (by omega)) (by omega)) (by omega) (by omega) (by omega) (OL.no f4) OM (by omega) (by omega) (by omega) (by omega)
 ·refine doNew z_49 rfl S0 fun h1 S1 f1 gB lB=>?_
  have b1:=f1.next
  simp only [S1.l4,S1.l5,hvL,hvM,zA,zR,true_and]
  refine ⟨?_,?_⟩
  ·refine do24 hx hL S1 fun wL h2 S2 f2 OL=>?_
   have b2:=f2.next
   simp only [S2.l4,S2.l5,hvL,hvM,zA,zR,true_and]
   refine ⟨?_,?_⟩
   ·refine do24 hy hM S2 fun wM h3 S3 f3 OM=>?_
    have b3:=f3.next
    simp only [S3.l4,S3.l5,hvL,hvM,zA,zR,true_and]
    refine doNew z_49 rfl S3 fun h4 S4 f4 gA lA=>?_
    have b4:=f4.next
    dsimp only
    exact fin6 hK S4 gA (zA5 f4 (zA5 f3 (zA5 f2 gB (by omega)) (by omega)) (by omega)) (by omega) (by omega) (by omega) ((OL.no f3).no f4) (OM.no f4) (by omega) (by omega) (by omega) (by omega)
   ·refine doNew z_49 rfl S2 fun h3 S3 f3 gA lA=>?_
    have b3:=f3.next
    simp only [S3.l4,S3.l5,hvL,hvM,zA,zR,true_and]
    refine do24 hy hM S3 fun wM h4 S4 f4 OM=>?_
    have b4:=f4.next
    dsimp only
    exact fin6 hK S4 (zA5 f4 gA (by omega)) (zA5 f4 (zA5 f3 (zA5 f2 gB (by omega)) (by omega)) (by omega)) (by omega) (by omega) (by omega) ((OL.no f3).no f4) OM (by omega) (by omega) (by omega) (by omega)
  ·refine doNew z_49 rfl S1 fun h2 S2 f2 gA lA=>?_
   have b2:=f2.next
   simp only [S2.l4,S2.l5,hvL,hvM,zA,zR,true_and]
   refine do24 hx hL S2 fun wL h3 S3 f3 OL=>?_
   have b3:=f3.next
   simp only [S3.l4,S3.l5,hvL,hvM,zA,zR,true_and]
   refine do24 hy hM S3 fun wM h4 S4 f4 OM=>?_
   have b4:=f4.next
   dsimp only
   exact fin6 hK S4 (zA5 f4 (zA5 f3 gA (by omega)) (by omega)) (zA5 f4 (zA5 f3 (zA5 f2 gB (by omega)) (by omega)) (by omega)) (by omega) (by omega) (by omega) (OL.no f4) OM (by omega) (by omega) (by omega) (by omega)
end
theorem veq_un:veq 100 undef undef=true:=by kernel_rfl
theorem eqb8 (a b:Bool):z6 E (zm [(155,.bool a),(161,.bool b)]) (zr B8 [1,1,1,1,1,1,1,1,1,1,1,1,0] 14)=some (.bool (a==b)):=by cases a <;> cases b <;> kernel_rfl
section
variable {k:AH} {L M:GL} {B:GB} {vl ve wl we vp:Value}
theorem end24 {h:AH} {e val:Int} {a1 a2:Option Addr} {n1 n2 c1 c2:Nat} {b:Bool} (S:St7 k h L M B vl ve wl we vp) (hvp:vp=.slice a2 n2 c2) (hb:b=true->val=0/\(e=0 ↔ n1=n2)) :
  PI (C8 false) (K8 k) 24 [ptr (k.next+2),.int .i64 e,.slice a1 n1 c1,.int .i64 val,.bool b] h:=by
 refine P8_24_of ?_
 have lp:=S.p6
 rw [hvp] at lp
 cases b with
 | false=>
  simp only [zp,Bool.not_false,zA,zN,show (true==false)=false from rfl,cond_false,zJ,cond_true,undef,gdB]
  simp only [zA,zJ,cond_true,zAD,zT,true_and]
  exact S.ow.wm
 | true=>
  obtain ⟨hv,he⟩:=hb rfl
  subst hv
  simp only [zp,Bool.not_true,zA,zN,beq_self_eq_true,cond_true,zAV,decide_true,zJ,cond_false,zCD,Nat.zero_add,lp,len8_24_9,len8_24_12,eqb8,zAD,zT,true_and]
  refine ⟨?_,S.ow.wm⟩
  congr 1
  by_cases h0:e=0
  ·have:=he.1 h0
   simp [h0,this]
  ·have:n1≠n2:=fun h=>h0 (he.2 h)
   have h2:¬ ((n1:Int)=(n2:Int)):=by omega
   simp [h0,h2]
theorem end23 {h:AH} {e val:Int} {a1:Option Addr} {n1 c1:Nat} {P:List (Int×Int)} (S:St7 k h L M B vl ve wl we vp) (hP:Arr k 2 vp (P.map zE)) (hn:P.length<=300) (hb:Strict P->val=0/\(e=0 ↔ n1=P.length)) :
  PI (C8 false) (K8 k) 23 [ptr (k.next+2),.int .i64 e,.slice a1 n1 c1,.int .i64 val] h:=by
 obtain ⟨a2,c2,hvp⟩:=hP.slice
 rw [List.length_map] at hvp
 refine P8_23_of ?_
 obtain ⟨b,hbw,h48⟩:=call48 (k:=h) (hP.ext S.ow.ext) (by omega) (Ext.refl S.ow.ext.ok)
 simp only [zCD,Nat.zero_add,S.p6,zA,zR,h48,zO]
 cases b with
 | false=>
  simp only [zN,zY,show (false==true)=false from rfl,cond_false,zA,zL,veq_un,true_and,zJ]
  exact end24 S hvp fun h=>by cases h
 | true=>
  have hw:=hbw rfl
  have lenp:∀ m,zM E (zm [(144,vp)]) (zr B8 [1,1,1,1,1,1,1,1,1,1,1,0] 11) m=some (.int .i64 (P.length:Int)):=fun m=>by rw [hvp];exact len8_23_11
  have hveq:veq 100 vp vp=true:=by rw [hvp];exact zB2 _ _ _ _
  simp only [zN,zY,beq_self_eq_true,cond_true,zCD,Nat.zero_add,S.p6,lenp,zA]
  have last:∀ h2 v7,St7 k h2 L M B vl ve wl we vp->(∃ a c n,v7=.slice a n c/\(n=P.length->Strict P))->
    EvO (zG E 26 h2 (some (.pointer (some ⟨k.next+2,1,none⟩)))) (fun u=>veq 100 u vp=true/\EvO (zM E (zm [(141,v7)]) (zr B8 [1,1,1,1,1,1,1,1,1,1,1,0] 8) h2) fun x8=>EvO (zF E .eql 3 x8 (.int .i64 (P.length:Int))) fun x12=>EvO (z0 (some (.bool true)) (some x12) (some (.bool false))) fun x13=>PI (C8 false) (K8 k) 24 [ptr (k.next+2),.int .i64 e,.slice a1 n1 c1,.int .i64 val,x13] h2):=by
   intro h2 v7 S2 hv
   obtain ⟨a,c,n,rfl,hs⟩:=hv
   rw [S2.p6,zA]
   refine ⟨hveq,?_⟩
   rw [len8_23_8,zA,zAV,zA,zJ,cond_true,zA]
   exact end24 S2 hvp fun h=>hb (hs (by have:=of_decide_eq_true h;omega))
  by_cases hl:P=[]
  ·subst hl
   obtain ⟨a,c,hv⟩:=hP.slice
   refine ((call32e S.ow.ext.ok ⟨a,c,hv⟩).weak).mono ?_
   rintro ⟨v6,h1⟩ ⟨he,_,f1⟩
   simp only at he f1
   have S1:=S.fx f1
   simp only [S1.p6,zA,hveq,zCA,true_and]
   refine ((call36e S1.ow.ext.ok he).weak).mono ?_
   rintro ⟨v7,h2⟩ ⟨⟨a',c',he2⟩,f2⟩
   simp only at he2 f2
   simp only [zCA,true_and]
   exact last h2 v7 (S1.fx f2) ⟨a',c',0,he2,fun _=>List.Pairwise.nil⟩
  ·refine ((call32 (v:=vp) S.ow.ext.ok (hP.ext S.ow.ext) hl (by omega)).weak).mono ?_
   rintro ⟨v6,h1⟩ ⟨b6,hv6,q1,q2,q3,f1⟩
   simp only at hv6 q2 q3 f1
   subst hv6
   have S1:=S.fx f1
   have hk2:=S.lt
   simp only [S1.p6,zA,hveq,zCA,true_and]
   refine ((call36 (d:=P.toArray) q3 q2 (n:=P.length) (by simp) (by simp;omega)).weak).mono ?_
   rintro ⟨v7,h2⟩ C
   have hv7:=C.v
   have f2:=C.fx
   simp only at hv7 f2
   simp only [zCA,true_and]
   refine last h2 v7 (S1.fxb f2 (by omega)) ⟨_,_,_,hv7,fun hlen=>?_⟩
   have hd:=dd_eq (d:=P.toArray) P.toArray.size (by rw [hlen];simp)
   refine strict_of fun j p q hp hq=>?_
   have hql:=(List.getElem?_eq_some_iff.1 hq).1
   have hne:=hd (j+1) (by omega) (by simpa using hql)
   have e1:P.toArray[j+1]! = q:=by rw [getElem!_pos _ _ (by simpa using hql)];simpa using (List.getElem?_eq_some_iff.1 hq).2
   have e2:P.toArray[j]! = p:=by rw [getElem!_pos _ _ (by simp;omega)];simpa using (List.getElem?_eq_some_iff.1 hp).2
   rw [show j+1-1=j by omega,e1,e2] at hne
   have hw':=hw j p q hp hq
   rw [cmpP_lt] at hw' ⊢
   obtain ⟨x1,x2⟩:=p
   obtain ⟨y1,y2⟩:=q
   simp only [ne_eq,Prod.mk.injEq] at hne hw' ⊢
   omega
theorem end20 {h:AH} {lo:Nat} {e:Int} {v:Value} {P F:List (Int×Int)} (hx:RL k (.agg ⟨[.int .i64 L.n,vl,ve]⟩) L) (hy:RL k (.agg ⟨[.int .i64 M.n,wl,we]⟩) M) (hL:zq L=false) (hM:zq M=false)
  (hvL:veq 100 (.agg ⟨[.int .i64 L.n,vl,ve]⟩) (.agg ⟨[.int .i64 L.n,vl,ve]⟩)=true) (hvM:veq 100 (.agg ⟨[.int .i64 M.n,wl,we]⟩) (.agg ⟨[.int .i64 M.n,wl,we]⟩)=true)
  (S:St7 k h L M B vl ve wl we vp) (hP:Arr k 2 vp (P.map zE)) (hn:P.length<=300) (hr:InR L M P) (he:e=zAu L M ⟨1,P⟩) (hv:Lf lo h v F) (H:Fin8 L M P F) :
  PI (C8 false) (K8 k) 20 [ptr k.next,ptr (k.next+1),ptr (k.next+2),.int .i64 e,v] h:=by
 have ha:=hv.arr
 obtain ⟨a1,c1,hvs⟩:=ha.slice
 rw [List.length_map] at hvs
 subst hvs
 have hF:=H.sub.length_le
 refine P8_20_of ?_
 simp only [S.l4,S.l5,zA,zR]
 refine ((call16 (a:=1) (ad:=a1) (n:=F.length) (c:=c1) S.ow.ext.ok).weak).mono ?_
 rintro ⟨v3,h1⟩ ⟨hv3,f1⟩
 simp only at hv3 f1
 subst hv3
 have S1:=S.fx f1
 have ha1:=ha.ext f1.ext0
 have hc:=call15 S1.ow.ext.ok (hx.ext S1.ow.ext) (hy.ext S1.ow.ext) (e:=[.int .i64 1,.slice a1 F.length c1]) (B:=⟨1,F⟩) ⟨_,rfl,ha1⟩
 simp only [S1.l4,S1.l5,hvL,hvM,zA,true_and,hc,zO]
 refine P8_21_of ?_
 have h26:=call26 (x:=(0,0)) ha1 (by omega) (Ext.refl S1.ow.ext.ok)
 simp only [pb00,zA,zR]
 rw [h26,zO]
 simp only [zp,zA,brK_n]
 refine ⟨fun hz=>P8_22_of ?_,fun hz=>?_⟩
 ·obtain ⟨e1,e2⟩:=fin_no hL hM H hz
  subst he
  simp only [zAV,e1,e2,decide_true,zA,zN,beq_self_eq_true,cond_true,zJ,zAD,zT,true_and]
  exact S1.ow.wm
 ·refine end23 S1 hP hn fun hs=>?_
  rw [he]
  exact fin_yes hL hM hr hn H hz hs
structure Base8 (k hO:AH) (c8 c9:Nat) (L M:GL):Prop where
 bA:Box hO k.next L
 bB:Box hO (k.next+1) M
 o8:OutC hO c8 L
 o9:OutC hO c9 M
theorem St7.fxP {P:Nat->Prop} {h m:AH} (S:St7 k h L M B vl ve wl we vp) (f:Fx P h m) (hP:∀ c,P c->k.next+2<c):St7 k m L M B vl ve wl we vp:=by
 have:=S.lt
 have no:∀ c,c<=k.next+2->¬ P c:=fun c hc hp=>by have:=hP c hp;omega
 exact ⟨f.own S.ow fun c hc=>by have:=hP c hc;omega,(f.get _ (by omega) (no _ (by omega))).trans S.r4,(f.get _ (by omega) (no _ (by omega))).trans S.r5,(f.get _ (by omega) (no _ (by omega))).trans S.r6,Nat.lt_of_lt_of_le S.lt f.next⟩
theorem Lf.blk {lo:Nat} {m:AH} {v:Value} {l:List (Int×Int)} (h:Lf lo m v l) {c:Nat} (hl:l≠[]) (hc:zo v c):lo<=c/\c<m.next:=by
 rcases h with ⟨e,_⟩|⟨b,d,rfl,h1,h2,_⟩
 ·exact absurd e hl
 ·obtain ⟨n,cap,e⟩:=hc
  simp only [sl,Value.slice.injEq,Option.some.injEq,Addr.mk.injEq] at e
  rw [← e.1.1];exact ⟨h1,h2⟩
structure Go8 (k hO h:AH) (c13:Nat) (v:Value) (l P:List (Int×Int)) (L M:GL) (B:GB) (vl ve wl we vp:Value):Prop where
 S:St7 k h L M B vl ve wl we vp
 ex:Ext hO h
 g13:h.get c13=some (.row [.func (.func 40) #[] #[]] 74 0 false)
 l13:c13<h.next
 n13:∀ c,zo v c->c≠c13/\hO.next<=c/\c<h.next
 lf:Lf hO.next h v l
 sub:l.Sublist P
 same:zAu L M ⟨1,P⟩=0->l=P
theorem round16 {hO:AH} {c8 c9 c13:Nat} {e:Int} {P:List (Int×Int)} (D:Base8 k hO c8 c9 L M) (hL:zq L=false) (hM:zq M=false) (hn:P.length<=300) (hr:InR L M P) (hg:zAu L M ⟨1,P⟩=0->∀ p∈P,badP L M P p=false) (hk:k.next+2<hO.next)
  (hK:∀ h v F,St7 k h L M B vl ve wl we vp->Lf hO.next h v F->Fin8 L M P F->PI (C8 false) (K8 k) 20 [ptr k.next,ptr (k.next+1),ptr (k.next+2),.int .i64 e,v] h)
  {h:AH} {v:Value} {l:List (Int×Int)} (G:Go8 k hO h c13 v l P L M B vl ve wl we vp)
  (hN:∀ h' v' l',l'.length<l.length->Go8 k hO h' c13 v' l' P L M B vl ve wl we vp->PI (C8 false) (K8 k) 16 [ptr k.next,ptr (k.next+1),ptr (k.next+2),.int .i64 e,ptr c8,ptr c9,v',ptr c13,.bool true] h') :
  PI (C8 false) (K8 k) 16 [ptr k.next,ptr (k.next+1),ptr (k.next+2),.int .i64 e,ptr c8,ptr c9,v,ptr c13,.bool true] h:=by
 have S:=G.S
 have hll:=G.sub.length_le
 refine P8_16_of ?_
 rw [z7]
 refine P8_17_of ?_
 simp only [zR,zA]
 refine ((call32a S.ow.ext.ok G.lf.arr (by omega)).weak).mono ?_
 rintro ⟨vn,h1⟩ ⟨hn1,_,f1⟩
 simp only at hn1 f1
 have S1:=S.fx f1
 obtain ⟨an,cn,hvn⟩:=hn1.arr.slice
 rw [List.length_map] at hvn
 obtain ⟨h2,e2,n2,t2,f2⟩:∃ m,(h1.new (.row [.slice none 0 0] 26 0 false)).upd h1.next (some (.row [vn] 26 0 false))=m/\m.next=h1.next+1/\m.get h1.next=some (.row [vn] 26 0 false)/\Fx NoB h1 m:=
  ⟨_,rfl,rfl,zQ _ _ _,((Fx.refl S1.ow.ext.ok).new _).upd (.inr (Nat.le_refl _)) _⟩
 have s2:=boxS (t:=26) ts_26 (k:=h1) (z:=.slice none 0 0) (x:=vn) (by rw [hvn];rfl) (by rw [hvn];rfl)
 rw [e2] at s2
 have zc:zf (Value.slice none 0 0)=[.slice none 0 0]:=rfl
 simp only [z_26,zd,zL,zc,s2]
 have S2:=S1.fx f2
 have ex2:Ext hO h2:=f2.ext (f1.ext G.ex fun c hc=>hc.elim) fun c hc=>hc.elim
 have b1:=f1.next
 have l2:Lf hO.next h2 v l:=(G.lf.fx f1 fun c _ h=>h).fx f2 fun c _ h=>h
 have ln2:Lf h.next h2 vn l:=hn1.fx f2 fun c _ h=>h
 have q13:h2.get c13=some (.row [.func (.func 40) #[] #[]] 74 0 false):=(f2.get _ (by have:=G.l13;omega) fun h=>h).trans ((f1.get _ G.l13 fun h=>h).trans G.g13)
 have hl13:=G.l13
 refine P8_18_of ?_
 simp only [mk_n,zA,zR]
 refine ((call37a (k:=h2) (lo:=hO.next) (v:=v) (l:=l) (f:=badP L M l) S2.ow.ext.ok l2 fun k' fx p hp=>?_).weak).mono ?_
 ·have hlne:l≠[]:=fun h=>by rw [h] at hp;cases hp
  have exk:Ext hO k':=fx.ext ex2 fun c hc=>(G.n13 c hc).2.1
  have N:Nth k' h1.next c8 c13 k.next (k.next+1) c9 L M l:=by
   refine ⟨⟨vn,(fx.get _ (by omega) fun hb=>by have:=(G.n13 _ hb).2.2;omega).trans t2,by have:=fx.next;omega,(ln2.fx fx fun c hc hb=>?_).arr⟩,(fx.get _ (by omega) fun hb=>(G.n13 _ hb).1 rfl).trans q13,by have:=fx.next;omega,D.bA.ext exk,D.bB.ext exk,D.o8.ext exk,D.o9.ext exk,by omega⟩
   have a1:=(ln2.blk hlne hc).1
   have a2:=(G.n13 _ hb).2.2
   omega
  have hc:=call43 N hL hM (hr p (G.sub.subset hp)) (Ext.refl exk.ok)
  exact (wCall_6 (args:=[.agg ⟨zE p⟩])).trans hc
 rintro ⟨v',h3⟩ ⟨hl3,hb3,f3⟩
 simp only at hl3 hb3 f3
 have b3:=f3.next
 have S3:=S2.fxP f3 fun c hc=>by have:=(G.n13 c hc).2.1;omega
 obtain ⟨a',c',hv'⟩:=hl3.arr.slice
 rw [List.length_map] at hv'
 have q15:h3.get h1.next=some (.row [vn] 26 0 false):=(f3.get _ (by omega) fun hb=>by have:=(G.n13 _ hb).2.2;omega).trans t2
 have l15:zG E 26 h3 (some (.pointer (some ⟨h1.next,0,none⟩)))=some vn:=zD (P:=E) ta_26 (o:=0) q15
 have hsub':(l.filter fun p=>!badP L M l p).Sublist l:=List.filter_sublist
 have hle':=hsub'.length_le
 have len1:∀ m,zM E (zm [(114,v')]) (zr B8 [1,1,1,1,1,1,1,1,0,1,0,0,1,0,1,1] 1) m=some (.int .i64 ((l.filter fun p=>!badP L M l p).length:Int)):=fun m=>by rw [hv'];exact len8_19_1
 have len2:∀ m,zM E (zm [(116,vn)]) (zr B8 [1,1,1,1,1,1,1,1,0,1,0,0,1,0,1,1] 3) m=some (.int .i64 (l.length:Int)):=fun m=>by rw [hvn];exact len8_19_3
 refine P8_19_of ?_
 simp only [len1,l15,len2,zb,zA]
 have same':zAu L M ⟨1,P⟩=0->(l.filter fun p=>!badP L M l p)=P:=fun h0=>by
  have e1:=G.same h0
  have:(l.filter fun p=>!badP L M l p)=l:=by
   rw [List.filter_eq_self]
   intro p hp
   rw [e1] at hp ⊢
   rw [hg h0 p hp];rfl
  rw [this];exact e1
 by_cases hlt:(l.filter fun p=>!badP L M l p).length<l.length
 ·rw [show decide (((l.filter fun p=>!badP L M l p).length:Int)<(l.length:Int))=true from decide_eq_true (by omega)]
  refine hN h3 v' _ hlt ⟨S3,f3.ext ex2 fun c hc=>(G.n13 c hc).2.1,(f3.get _ (by omega) fun hb=>(G.n13 _ hb).1 rfl).trans q13,by omega,fun c hc=>?_,hl3,hsub'.trans G.sub,same'⟩
  have:=G.n13 c (hb3 c hc)
  exact ⟨this.1,this.2.1,by omega⟩
 ·rw [show decide (((l.filter fun p=>!badP L M l p).length:Int)<(l.length:Int))=false from decide_eq_false (by omega)]
  have heq:(l.filter fun p=>!badP L M l p)=l:=hsub'.eq_of_length (by omega)
  refine P8_16_of ?_
  rw [zAA]
  refine hK h3 v' _ S3 hl3 ⟨hsub'.trans G.sub,same',fun p hp=>?_⟩
  rw [heq] at hp ⊢
  have:=List.filter_eq_self.1 heq p hp
  simpa using this
theorem loop16 {hO:AH} {c8 c9 c13:Nat} {e:Int} {P:List (Int×Int)} (D:Base8 k hO c8 c9 L M) (hL:zq L=false) (hM:zq M=false) (hn:P.length<=300) (hr:InR L M P) (hg:zAu L M ⟨1,P⟩=0->∀ p∈P,badP L M P p=false) (hk:k.next+2<hO.next)
  (hK:∀ h v F,St7 k h L M B vl ve wl we vp->Lf hO.next h v F->Fin8 L M P F->PI (C8 false) (K8 k) 20 [ptr k.next,ptr (k.next+1),ptr (k.next+2),.int .i64 e,v] h) :
  ∀ (m:Nat) (h:AH) (v:Value) (l:List (Int×Int)),l.length<=m->Go8 k hO h c13 v l P L M B vl ve wl we vp->
   PI (C8 false) (K8 k) 16 [ptr k.next,ptr (k.next+1),ptr (k.next+2),.int .i64 e,ptr c8,ptr c9,v,ptr c13,.bool true] h
 | 0,h,v,l,hm,G=>round16 D hL hM hn hr hg hk hK G fun h' v' l' hlt _=>by omega
 | m+1,h,v,l,hm,G=>round16 D hL hM hn hr hg hk hK G fun h' v' l' hlt G'=>loop16 D hL hM hn hr hg hk hK m h' v' l' (by omega) G'
end
end Go.Proofs
namespace Go.Proofs
open Go Go.AM Go.Sort
set_option maxRecDepth 100000
set_option maxHeartbeats 8000000
section
variable {k:AH} {L M:GL} {B:GB} {vl ve wl we vp:Value}
theorem range9 {hO:AH} {c8 c9:Nat} {e:Int} {v:Value} {P:List (Int×Int)} (hn:P.length<=300) (he:(∃ p∈P,¬ ((0<=p.1/\p.1<L.n)/\(0<=p.2/\p.2<M.n)))->e=360)
  (hK:∀ h,St7 k h L M B vl ve wl we vp->Ext hO h->InR L M P->PI (C8 false) (K8 k) 14 [ptr k.next,ptr (k.next+1),ptr (k.next+2),.int .i64 e,ptr c8,ptr c9,v] h) (hv:Arr hO 2 v (P.map zE)) :
  ∀ (m i:Nat),i+m=P.length->∀ h,St7 k h L M B vl ve wl we vp->Ext hO h->(∀ (j:Nat) (p:Int×Int),j<i->P[j]?=some p->(0<=p.1/\p.1<L.n)/\(0<=p.2/\p.2<M.n))->
   PI (C8 false) (K8 k) 9 [ptr k.next,ptr (k.next+1),ptr (k.next+2),.int .i64 e,ptr c8,ptr c9,v,v,.int .i64 (P.length:Int),.int .i64 (i:Int)] h:=by
 intro m
 induction m with
 | zero=>
  intro i hi h S ex hp
  refine P8_9_of ?_
  simp only [zb,zA,show decide ((i:Int)<(P.length:Int))=false from decide_eq_false (by omega),zAA]
  refine hK h S ex fun p hpm=>?_
  obtain ⟨j,hj⟩:=List.getElem?_of_mem hpm
  exact hp j p (by have:=(List.getElem?_eq_some_iff.1 hj).1;omega) hj
 | succ m ih=>
  intro i hi h S ex hp
  have hil:i<P.length:=by omega
  refine P8_9_of ?_
  simp only [zb,zA,show decide ((i:Int)<(P.length:Int))=true from decide_eq_true (by omega),z7]
  obtain ⟨p,hpi⟩:∃ p,P[i]?=some p:=⟨_,List.getElem?_eq_getElem hil⟩
  have hx:(P.map zE)[i]?=some (zE p):=by rw [List.getElem?_map,hpi];rfl
  obtain ⟨q,q1,q2⟩:=idx26 hv ex hx
  obtain ⟨h1,e1,n1,t1,f1⟩:∃ m,(h.new (.row [.int .i64 0,.int .i64 0] 54 0 false)).upd h.next (some (.row (zE p) 54 0 false))=m/\m.next=h.next+1/\m.get h.next=some (.row (zE p) 54 0 false)/\Fx NoB h m:=
   ⟨_,rfl,rfl,zQ _ _ _,((Fx.refl S.ow.ext.ok).new _).upd (.inr (Nat.le_refl _)) _⟩
  have hbox:=box54 (k:=h) (p:=p)
  rw [e1] at hbox
  refine P8_10_of ?_
  simp only [q1,q2,z_54,zd,zL,zS,zA,hbox]
  have S1:=S.fx f1
  have ex1:=f1.ext ex fun c hc=>hc.elim
  have lp0:zG E 3 h1 (some (.pointer (some ⟨h.next,0+0*1,none⟩)))=some (.int .i64 p.1):=zD (P:=E) zAQ (o:=0+0*1) t1
  have lp1:zG E 3 h1 (some (.pointer (some ⟨h.next,0+1*1,none⟩)))=some (.int .i64 p.2):=zD (P:=E) zAQ (o:=0+1*1) t1
  have i0:zH E 54 (some (.pointer (some ⟨h.next,0,none⟩))) (some (.int .i64 0))=some (.pointer (some ⟨h.next,0+0*1,none⟩)):=ia_54 (k:=0) (by omega)
  have i1:zH E 54 (some (.pointer (some ⟨h.next,0,none⟩))) (some (.int .i64 1))=some (.pointer (some ⟨h.next,0+1*1,none⟩)):=ia_54 (k:=1) (by omega)
  have bad:¬ ((0<=p.1/\p.1<L.n)/\(0<=p.2/\p.2<M.n))->PI (C8 false) (K8 k) 12 [.int .i64 e] h1:=fun hb=>by
   refine P8_12_of ?_
   rw [he ⟨p,List.mem_of_getElem? hpi,hb⟩]
   simp only [zAV,decide_true,zA,zAD,zT,true_and]
   exact S1.ow.wm
  have good:((0<=p.1/\p.1<L.n)/\(0<=p.2/\p.2<M.n))->PI (C8 false) (K8 k) 13 [ptr k.next,ptr (k.next+1),ptr (k.next+2),.int .i64 e,ptr c8,ptr c9,v,v,.int .i64 (P.length:Int),.int .i64 (i:Int)] h1:=fun hb=>by
   refine P8_13_of ?_
   simp only [zA,zAM _ (add1 hil (by omega))]
   refine ih (i+1) (by omega) h1 S1 ex1 fun j p' hj hp'=>?_
   rcases Nat.lt_succ_iff_lt_or_eq.1 hj with hlt|heq
   ·exact hp j p' hlt hp'
   ·subst heq;rw [hpi] at hp';cases hp';exact hb
  refine P8_11_of ?_
  cases c1:decide (p.1<0) <;> cases c2:decide (L.n<=p.1) <;> cases c3:decide (p.2<0) <;> cases c4:decide (M.n<=p.2) <;>
   simp only [i0,i1,lp0,lp1,zBT,Nat.add_zero,S1.n4,S1.n5,zA,zb,zAx,c1,c2,c3,c4,zN,beq_self_eq_true,show (true==false)=false from rfl,show (false==true)=false from rfl,cond_true,cond_false,zJ,z7,zAA] <;>
   first
    | exact good (by have:=of_decide_eq_false c1;have:=of_decide_eq_false c2;have:=of_decide_eq_false c3;have:=of_decide_eq_false c4;omega)
    | exact bad (by have:=of_decide_eq_true c1;omega)
    | exact bad (by have:=of_decide_eq_true c2;omega)
    | exact bad (by have:=of_decide_eq_true c3;omega)
    | exact bad (by have:=of_decide_eq_true c4;omega)
end
theorem call8 {k:AH} {x y:Value} {L M:GL} {e:List Value} {B:GB} (hok:k.ok) (hx:RL k x L) (hy:RL k y M) (he:RB k e B) :
  (zX E).call 8 [x,y,.agg ⟨e⟩] k=some [(.bool true,k)]:=by
 obtain ⟨vl,ve,elsL,rfl,x2,x3,x4⟩:=id hx.ex
 obtain ⟨wl,we,elsM,rfl,y2,y3,y4⟩:=id hy.ex
 obtain ⟨vp,rfl,e2⟩:=id he.ex
 obtain ⟨xa,xb,hvl⟩:=x2.slice
 obtain ⟨xc,xd,hve⟩:=x4.slice
 obtain ⟨ya,yb,hwl⟩:=y2.slice
 obtain ⟨yc,yd,hwe⟩:=y4.slice
 obtain ⟨pa,pb,hvp⟩:=e2.slice
 rw [List.length_map] at hve hwe hvp
 refine F8_flat (s:=false) hok rfl (P8_0_of ?_)
 obtain ⟨k1,e1,n1,t1,o1,f1⟩:=nwF k (.row [.int .i64 L.n,vl,ve] 25 0 false)
 obtain ⟨k2,e2',n2,t2,o2,f2⟩:=nw o1 (.row [.int .i64 M.n,wl,we] 25 0 false)
 obtain ⟨k3,e3,n3,t3,o3,f3⟩:=nw o2 (.row [.int .i64 B.kind,vp] 32 0 false)
 simp only [zd,zL,zS,zA,e1,e2',e3,zZ,n1,n2]
 rw [n1] at t2
 rw [n2,n1] at t3
 have S3:St7 k k3 L M B vl ve wl we vp:=⟨o3,(f3 _ (by omega)).trans ((f2 _ (by omega)).trans t1),(f3 _ (by omega)).trans t2,t3,by omega⟩
 refine P8_1_of ?_
 simp only [zR,call13,zO,zp,zA,Bool.not_true,zAA]
 have fin:∀ h,Own k h->PI (C8 false) (K8 k) 4 [] h:=fun h ho=>P8_4_of (by simp only [zAD,zT,true_and];exact ho.wm)
 refine P8_3_of ?_
 have a4:=S3.l4
 have a5:=S3.l5
 obtain ⟨k4,e4,n4,t4,o4,f4⟩:=nw o3 (.row [.int .i64 L.n,vl,ve,.int .i64 M.n,wl,we] 25 0 false)
 have S4:St7 k k4 L M B vl ve wl we vp:=S3.fx (by rw [← e4];exact (Fx.refl o3.ext.ok).new _)
 have X4:Ext k k4:=o4.ext
 obtain ⟨b14,c14⟩:=call14 (k:=k4) (v:=.slice (some ⟨k3.next,0,none⟩) 2 2) (els:=[[.int .i64 L.n,vl,ve],[.int .i64 M.n,wl,we]]) (Ls:=[L,M]) o4.ext.ok (arr2 rfl rfl t4 (by omega)) rfl (by simp) (fun i ee LL h1 h2=>by
  match i with
  | 0=>simp at h1 h2;subst h1 h2;exact hx.ext X4
  | 1=>simp at h1 h2;subst h1 h2;exact hy.ext X4
  | i+2=>simp at h1)
 simp only [a4,a5,zA,bs82,zL,e4,zR,c14,zO,zp]
 have le4:zG E 23 k4 (some (.pointer (some ⟨k.next,0+2,none⟩)))=some ve:=zD (P:=E) ta_23 (o:=0+2) S4.r4
 have le5:zG E 23 k4 (some (.pointer (some ⟨k.next+1,0+2,none⟩)))=some we:=zD (P:=E) ta_23 (o:=0+2) S4.r5
 have lb6:zG E 26 k4 (some (.pointer (some ⟨k.next+2,0+1,none⟩)))=some vp:=zD (P:=E) ta_26 (o:=0+1) S4.r6
 rw [hve] at le4
 rw [hwe] at le5
 rw [hvp] at lb6
 obtain ⟨r1,hr1,hc23a⟩:=call23 S4.ow.ext.ok (hx.ext S4.ow.ext)
 obtain ⟨r2,hr2,hc23b⟩:=call23 S4.ow.ext.ok (hy.ext S4.ow.ext)
 have go:B.kind=1->B.prs.length<=300->r1=0->r2=0->PI (C8 false) (K8 k) 5 [ptr k.next,ptr (k.next+1),ptr (k.next+2)] k4:=by
  intro hkind hlen h1 h2
  have hL:=hr1 h1
  have hM:=hr2 h2
  refine P8_5_of ?_
  have hc15:=call15 S4.ow.ext.ok (hx.ext S4.ow.ext) (hy.ext S4.ow.ext) (he.ext S4.ow.ext)
  simp only [S4.l4,S4.l5,S4.l6,zA,zR,hc15,zO]
  have hveqL:veq 100 (.agg ⟨[.int .i64 L.n,vl,ve]⟩) (.agg ⟨[.int .i64 L.n,vl,ve]⟩)=true:=by rw [hvl,hve];exact veq_slice3
  have hveqM:veq 100 (.agg ⟨[.int .i64 M.n,wl,we]⟩) (.agg ⟨[.int .i64 M.n,wl,we]⟩)=true:=by rw [hwl,hwe];exact veq_slice3
  have he0:zAu L M B=zAu L M ⟨1,B.prs⟩:=by
   show zAu L M ⟨B.kind,B.prs⟩=_
   rw [hkind]
  rw [he0]
  refine region6 hx hy hL hM hveqL hveqM S4 fun hO c8 c9 SO O8 O9=>?_
  refine P8_7_of ?_
  have lbO:=SO.p6
  simp only [zCD,Nat.zero_add,lbO,zA,zR]
  refine ((call32a SO.ow.ext.ok (e2.ext SO.ow.ext) (by omega)).weak).mono ?_
  rintro ⟨v,h1⟩ ⟨hv,hvb,g1⟩
  simp only at hv hvb g1
  have S1:=SO.fx g1
  have harr:=hv.arr
  obtain ⟨va,vc,hvs⟩:=harr.slice
  rw [List.length_map] at hvs
  refine P8_8_of ?_
  have lenv:zM E (zm [(77,v)]) (zr B8 [1,1,1,1,1,1,0,0] 1) h1=some (.int .i64 (B.prs.length:Int)):=by rw [hvs];exact len8_8_1
  simp only [lenv,zA]
  have exO:Ext hO h1:=g1.ext0
  have D:Base8 k hO c8 c9 L M:=⟨⟨vl,ve,elsL,SO.r4,by have:=SO.lt;omega,x2.ext SO.ow.ext,RLab.ext SO.ow.ext x3,x4.ext SO.ow.ext⟩,⟨wl,we,elsM,SO.r5,by have:=SO.lt;omega,y2.ext SO.ow.ext,RLab.ext SO.ow.ext y3,y4.ext SO.ow.ext⟩,O8,O9⟩
  refine range9 (hO:=h1) hlen (fun ⟨p,hp,hb⟩=>refused (B:=⟨1,B.prs⟩) hL hM (by simp [zCi]) fun h0=>hb ((check_basic h0).1 p hp)) (fun h2 S2 ex2 hr=>?_) harr B.prs.length 0 (by omega) h1 S1 (Ext.refl S1.ow.ext.ok) fun j p hj=>by omega
  have b1:=g1.next
  have b2:=ex2.next
  refine P8_14_of ?_
  obtain ⟨h3,q3,n3',t3',g3⟩:∃ m,(h2.new (.row [.nilFunc] 74 0 false)).upd h2.next (some (.row [.func (.func 40) #[] #[]] 74 0 false))=m/\m.next=h2.next+1/\m.get h2.next=some (.row [.func (.func 40) #[] #[]] 74 0 false)/\Fx NoB h2 m:=
   ⟨_,rfl,rfl,zQ _ _ _,((Fx.refl S2.ow.ext.ok).new _).upd (.inr (Nat.le_refl _)) _⟩
  have s3:=boxS (t:=74) ts_74 (k:=h2) (z:=.nilFunc) (x:=.func (.func 40) #[] #[]) rfl rfl
  rw [q3] at s3
  have zc:zf Value.nilFunc=[.nilFunc]:=rfl
  simp only [z_74,zd,zL,zc,s3]
  refine P8_15_of ?_
  have S3':=S2.fx g3
  have ex3:Ext hO h3:=g3.ext (exO.trans ex2) fun c hc=>hc.elim
  have hlt:=SO.lt
  refine loop16 D hL hM hlen hr (fun h0=>good_of hL hM hr h0) hlt (fun h v F S hl H=>end20 hx hy hL hM hveqL hveqM S e2 hlen hr rfl hl H) B.prs.length h3 v B.prs (Nat.le_refl _) ⟨S3',ex3,t3',by omega,fun c hc=>?_,(hv.ext ex2).fx g3 fun c _ h=>h,List.Sublist.refl _,fun _=>rfl⟩
  have:=hvb c hc
  omega
 cases b14 with
 | false=>
  simp only [zp,Bool.not_false,Bool.not_true,zA,zN,zY,show (true==false)=false from rfl,cond_false,zL,zJ,cond_true,z7]
  exact fin _ o4
 | true=>
 simp only [zp,Bool.not_false,Bool.not_true,zA,zN,zY,beq_self_eq_true,cond_true,cond_false,zJ,zBT,Nat.add_zero,S4.n4,S4.n5,zAI]
 by_cases c1:(12:Int)<L.n
 ·simp only [c1,decide_true,zp,Bool.not_false,Bool.not_true,zA,zN,zY,show (true==false)=false from rfl,cond_false,zL,zJ,cond_true,z7]
  exact fin _ o4
 simp only [c1,decide_false,zp,Bool.not_false,Bool.not_true,zA,zN,zY,beq_self_eq_true,cond_true,cond_false,zJ,zBT,Nat.add_zero,S4.n5,zAI]
 by_cases c2:(12:Int)<M.n
 ·simp only [c2,decide_true,zp,Bool.not_false,Bool.not_true,zA,zN,zY,show (true==false)=false from rfl,cond_false,zL,zJ,cond_true,z7]
  exact fin _ o4
 simp only [c2,decide_false,zp,Bool.not_false,Bool.not_true,zA,zN,zY,beq_self_eq_true,cond_true,cond_false,zJ,zBA,le4,le5,len8_3_18,len8_3_21,bf_addw,zAI]
 by_cases c3:(60:Int)<zB1 .i64 ((L.eds.length:Int)+(M.eds.length:Int))
 ·simp only [c3,decide_true,zp,Bool.not_false,Bool.not_true,zA,zN,zY,show (true==false)=false from rfl,cond_false,zL,zJ,cond_true,z7]
  exact fin _ o4
 simp only [c3,decide_false,zp,Bool.not_false,Bool.not_true,zA,zN,zY,beq_self_eq_true,cond_true,cond_false,zJ,zCD,lb6,len8_3_28,zAI]
 by_cases c4:(300:Int)<(B.prs.length:Int)
 ·simp only [c4,decide_true,zp,Bool.not_false,Bool.not_true,zA,zN,zY,show (true==false)=false from rfl,cond_false,zL,zJ,cond_true,z7]
  exact fin _ o4
 simp only [c4,decide_false,zp,Bool.not_false,Bool.not_true,zA,zN,zY,beq_self_eq_true,cond_true,cond_false,zJ,fa_32_0,Nat.add_zero,S4.k6,zBL]
 by_cases c5:B.kind=1
 rotate_left
 ·simp only [c5,decide_false,zp,Bool.not_false,Bool.not_true,zA,zN,zY,show (true==false)=false from rfl,cond_false,zL,zJ,cond_true,z7]
  exact fin _ o4
 have hd5:decide (B.kind=1)=true:=decide_eq_true c5
 simp only [hd5,zp,Bool.not_false,Bool.not_true,zA,zN,zY,beq_self_eq_true,cond_true,cond_false,zJ,S4.l4,hc23a,zO,zBL]
 by_cases c6:r1=0
 rotate_left
 ·simp only [c6,decide_false,zp,Bool.not_false,Bool.not_true,zA,zN,zY,show (true==false)=false from rfl,cond_false,zL,zJ,cond_true,z7]
  exact fin _ o4
 have hd6:decide (r1=0)=true:=decide_eq_true c6
 simp only [hd6,zp,Bool.not_false,Bool.not_true,zA,zN,zY,beq_self_eq_true,cond_true,cond_false,zJ,S4.l5,hc23b,zO,zBL]
 by_cases c7:r2=0
 rotate_left
 ·simp only [c7,decide_false,Bool.not_false,z7]
  exact fin _ o4
 have hd7:decide (r2=0)=true:=decide_eq_true c7
 simp only [hd7,Bool.not_true,zAA]
 exact go c5 (by omega) c6 c7
end Go.Proofs
