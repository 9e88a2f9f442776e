import Derived.Laws.Bits64
import Derived.Test.YthmnhjcmefjgjaaGreatDoorXAQ
import Derived.Test.YthmnhjcmefjgjaaGreatDoorXAP
import Derived.Test.YthmnhjcmefjgjaaGreatDoorXAD
set_option linter.all false
set_option linter.unusedSectionVars false
set_option autoImplicit true
set_option relaxedAutoImplicit true
namespace Go.Proofs
open Go Go.AM Go.Sort
set_option maxRecDepth 100000
set_option maxHeartbeats 1000000
theorem quo147a {x:Nat} (h:x<=9223372036854775807):zi E (zl [(19,.int .i64 (x:Int))]) (zn B147 [1,1,1,0] 2)=some (.int .i64 ((x / 4:Nat):Int)):=zGv (u:=19) (cc:=4) (by kernel_rfl) (by kernel_rfl) (by omega) h
theorem quo147b {x:Nat} (h:x<=9223372036854775807):zi E (zl [(24,.int .i64 (x:Int))]) (zn B147 [1,1,1,1,0] 2)=some (.int .i64 ((x / 4:Nat):Int)):=zGv (u:=24) (cc:=4) (by kernel_rfl) (by kernel_rfl) (by omega) h
theorem quo147c {x:Nat} (h:x<=9223372036854775807):zi E (zl [(29,.int .i64 (x:Int))]) (zn B147 [1,1,1,1,1,0] 2)=some (.int .i64 ((x / 4:Nat):Int)):=zGv (u:=29) (cc:=4) (by kernel_rfl) (by kernel_rfl) (by omega) h
theorem mulN {a c:Nat} (h:a*c<=9223372036854775807) (t:TypeId):zC E .mul t (.int .i64 (a:Int)) (.int .i64 (c:Int))=some (.int .i64 ((a*c:Nat):Int)):=by
 have h2:(a:Int)*(c:Int)=((a*c:Nat):Int):=by push_cast;rfl
 rw [zTc t (by unfold zCx;omega),h2]
theorem mulN1 {a:Nat} (h:a*1<=9223372036854775807) (t:TypeId):zC E .mul t (.int .i64 (a:Int)) (.int .i64 1)=some (.int .i64 ((a*1:Nat):Int)):=mulN (c:=1) h t
theorem zbd {a:Nat} (h:a*2<=9223372036854775807) (t:TypeId):zC E .mul t (.int .i64 (a:Int)) (.int .i64 2)=some (.int .i64 ((a*2:Nat):Int)):=mulN (c:=2) h t
theorem mulN3 {a:Nat} (h:a*3<=9223372036854775807) (t:TypeId):zC E .mul t (.int .i64 (a:Int)) (.int .i64 3)=some (.int .i64 ((a*3:Nat):Int)):=mulN (c:=3) h t
section
variable {b ty es c:Nat} {k:AH} {d:Dt} {cf:Value} {cm:Int×Int->Int×Int->Int}
theorem call147 (hg:k.get b=some (.row (zBd d) ty es false)) (hbl:b<k.next) (hok:k.ok) {n:Nat} (hs:d.size=n) (hn:d.size<=1000000) (hc:zCJ cf cm) {a e:Nat} (h13:a+13<=e) (he:e<=d.size) :
  ∃ (p:Nat) (hint:Int),(a<=p/\p<e)/\(hint=0\/hint=1\/hint=2)/\(zW E).call 147 [sl b n c,.int .i64 (a:Int),.int .i64 (e:Int),cf] k=some [(.tuple #[.int .i64 (p:Int),.int .i64 hint],k)]:=by
 have main:∃ v,(∃ (p:Nat) (hint:Int),(a<=p/\p<e)/\(hint=0\/hint=1\/hint=2)/\v=.tuple #[.int .i64 (p:Int),.int .i64 hint])/\(zW E).call 147 [sl b n c,.int .i64 (a:Int),.int .i64 (e:Int),cf] k=some [(v,k)]:=by
  refine zQ4 hok (zYq ?_)
  try simp only [zA]
  refine zYp ?_
  simp only [zA,subN (show a<=e by omega) (show e<=9223372036854775807 by omega)]
  refine zYo ?_
  obtain ⟨k1,e1,n1,t1,o1,f1⟩:=nwF k (.row [.int .i64 0] 3 0 false)
  rw [z_3]
  simp only [zd,zL,zCl,e1,zZ]
  have hb1:k1.get b=some (.row (zBd d) ty es false):=(o1.ext.get b hbl).trans hg
  have p1:PV b ty es d k.next k1 k1:=PV.start o1.ext.ok hb1 (by omega) ⟨0,t1⟩ (by omega) (by omega)
  have hl:=show e-a<=9223372036854775807 by omega
  refine zYn ?_
  simp only [zA,quo147a hl]
  rw [mulN1 (a:=(e-a) / 4) (by omega)]
  simp only [zA,zNC (show a+(e-a) / 4*1<=9223372036854775807 by omega)]
  refine zYm ?_
  simp only [zA,quo147b hl]
  rw [zbd (a:=(e-a) / 4) (by omega)]
  simp only [zA,zNC (show a+(e-a) / 4*2<=9223372036854775807 by omega)]
  refine zYl ?_
  simp only [zA,quo147c hl]
  rw [mulN3 (a:=(e-a) / 4) (by omega)]
  simp only [zA,zNC (show a+(e-a) / 4*3<=9223372036854775807 by omega)]
  refine zYk ?_
  simp only [zA,zAP,show decide ((8:Int)<=((e-a:Nat):Int))=true from decide_eq_true (by omega),zu]
  have fin:∀ (m:AH) (q:Nat),PV b ty es d k.next k1 m->a<=q->q<e->P147_12 true (KR E [.tmp 8,.tmp 9] (fun x m=>(zh x=true/\∃ (p:Nat) (hint:Int),(a<=p/\p<e)/\(hint=0\/hint=1\/hint=2)/\x=.tuple #[.int .i64 (p:Int),.int .i64 hint])/\k.next<=m.wm)) (.pointer (some ⟨k.next,0,none⟩)) (.int .i64 (q:Int)) m:=by
   intro m q p h1 h2
   obtain ⟨z,hz⟩:=p.hz
   have hwm:k.next<=m.wm:=p.fx.wm k.next o1.wm (fun c hc=>Nat.le_of_eq hc.symm) (by omega)
   refine zQZ ?_
   rw [zF (P:=E) zAS (o:=0) hz]
   simp only [lnth,zA]
   refine zQY ?_
   have end_:∀ hint:Int,(hint=0\/hint=1\/hint=2)->KR E [.tmp 8,.tmp 9] (fun x m=>(zh x=true/\∃ (p:Nat) (hint:Int),(a<=p/\p<e)/\(hint=0\/hint=1\/hint=2)/\x=.tuple #[.int .i64 (p:Int),.int .i64 hint])/\k.next<=m.wm) .ret [.int .i64 (q:Int),.int .i64 hint] m:=by
    intro hint hh
    rw [zPe]
    exact ⟨zT ▸ trivial,⟨rfl,q,hint,⟨h1,h2⟩,hh,rfl⟩,hwm⟩
   simp only [zA,zAZ,zAA]
   refine ⟨fun _=>zQX ?_,fun _=>zQW ?_⟩
   ·(try simp only [zA]);exact end_ 1 (.inr (.inl rfl))
   ·simp only [zA,zAZ,zAA]
    refine ⟨fun _=>zQV ?_,fun _=>zQU ?_⟩
    ·(try simp only [zA]);exact end_ 2 (.inr (.inr rfl))
    ·(try simp only [zA]);exact end_ 0 (.inl rfl)
  have last:∀ (m:AH) (i j l:Nat),PV b ty es d k.next k1 m->m.ok->(a<=i/\i<e)->(a<=j/\j<e)->(a<=l/\l<e)->P147_11 true (KR E [.tmp 8,.tmp 9] (fun x m=>(zh x=true/\∃ (p:Nat) (hint:Int),(a<=p/\p<e)/\(hint=0\/hint=1\/hint=2)/\x=.tuple #[.int .i64 (p:Int),.int .i64 hint])/\k.next<=m.wm)) (sl b n c) cf (.pointer (some ⟨k.next,0,none⟩)) (.int .i64 (i:Int)) (.int .i64 (j:Int)) (.int .i64 (l:Int)) m:=by
   intro m i j l p hm hi hj hl
   refine zQa ?_
   simp only [zA,zS]
   refine (zTM (c:=c) p hm hs hn hc (x:=i) (y:=j) (z:=l) (by omega) (by omega) (by omega)).mono ?_
   rintro ⟨v,m2⟩ ⟨⟨q,hq,hq2⟩,p2⟩
   simp only at hq
   subst hq
   try simp only [zA]
   have:a<=q/\q<e:=by rcases hq2 with rfl|rfl|rfl <;> assumption
   exact fin m2 q ((p.step p2.fx p2.hz)) this.1 this.2
  refine zYj ?_
  simp only [zA,zAP,zAA]
  refine ⟨fun h50=>zYi ?_,fun _=>last k1 _ _ _ p1 o1.ext.ok (by omega) (by omega) (by omega)⟩
  simp only [zA,zS]
  refine (zMx (c:=c) p1 o1.ext.ok hs hn hc (x:=a+(e-a) / 4*1) (by omega) (by omega)).mono ?_
  rintro ⟨v,m2⟩ ⟨⟨q,hq,hq2,hq3⟩,p2⟩
  simp only at hq
  subst hq
  try simp only [zA]
  have p2':=p1.step p2.fx p2.hz
  refine zYh ?_
  simp only [zA,zS]
  refine (zMx (c:=c) p2' p2.fx.ok hs hn hc (x:=a+(e-a) / 4*2) (by omega) (by omega)).mono ?_
  rintro ⟨v,m3⟩ ⟨⟨q2,hq,hq4,hq5⟩,p3⟩
  simp only at hq
  subst hq
  try simp only [zA]
  have p3':=p2'.step p3.fx p3.hz
  refine zQb ?_
  simp only [zA,zS]
  refine (zMx (c:=c) p3' p3.fx.ok hs hn hc (x:=a+(e-a) / 4*3) (by omega) (by omega)).mono ?_
  rintro ⟨v,m4⟩ ⟨⟨q3,hq,hq6,hq7⟩,p4⟩
  simp only at hq
  subst hq
  try simp only [zA]
  exact last m4 q q2 q3 (p3'.step p4.fx p4.hz) p4.fx.ok (by omega) (by omega) (by omega)
 obtain ⟨v,⟨p,hint,h1,h2,rfl⟩,h3⟩:=main
 exact ⟨p,hint,h1,h2,h3⟩
end
theorem zOy {a:Nat} (h:a<18446744073709551616):IntKind.u64.wrap (a:Int)=(a:Int):=by rw [IntKind.wrap_u64];omega
theorem wrapi {a:Nat} (h:a<=9223372036854775807):IntKind.i64.wrap (a:Int)=(a:Int):=by rw [← zEw];exact zC0 (by unfold zCx;omega)
theorem tab_all:((List.range 256).all fun i=>match zCv E 9 (some (.string ⟨#[0,1,2,2,3,3,3,3,4,4,4,4,4,4,4,4,5,5,5,5,5,5,5,5,5,5,5,5,5,5,5,5,6,6,6,6,6,6,6,6,6,6,6,6,6,6,6,6,6,6,6,6,6,6,6,6,6,6,6,6,6,6,6,6,7,7,7,7,7,7,7,7,7,7,7,7,7,7,7,7,7,7,7,7,7,7,7,7,7,7,7,7,7,7,7,7,7,7,7,7,7,7,7,7,7,7,7,7,7,7,7,7,7,7,7,7,7,7,7,7,7,7,7,7,7,7,7,7,8,8,8,8,8,8,8,8,8,8,8,8,8,8,8,8,8,8,8,8,8,8,8,8,8,8,8,8,8,8,8,8,8,8,8,8,8,8,8,8,8,8,8,8,8,8,8,8,8,8,8,8,8,8,8,8,8,8,8,8,8,8,8,8,8,8,8,8,8,8,8,8,8,8,8,8,8,8,8,8,8,8,8,8,8,8,8,8,8,8,8,8,8,8,8,8,8,8,8,8,8,8,8,8,8,8,8,8,8,8,8,8,8,8,8,8,8,8,8,8,8,8,8,8,8,8,8,8]⟩)) (some (.int .u8 (i:Int))) with
 | some (.int .u8 (.ofNat t))=>Nat.ble t 8&&(Nat.beq i 0||Nat.ble (2 ^ t) (2*i))
 | _=>false)=true:=by kernel_rfl
theorem tab_ok {i:Nat} (h:i<256):∃ t:Nat,zCv E 9 (some (.string ⟨#[0,1,2,2,3,3,3,3,4,4,4,4,4,4,4,4,5,5,5,5,5,5,5,5,5,5,5,5,5,5,5,5,6,6,6,6,6,6,6,6,6,6,6,6,6,6,6,6,6,6,6,6,6,6,6,6,6,6,6,6,6,6,6,6,7,7,7,7,7,7,7,7,7,7,7,7,7,7,7,7,7,7,7,7,7,7,7,7,7,7,7,7,7,7,7,7,7,7,7,7,7,7,7,7,7,7,7,7,7,7,7,7,7,7,7,7,7,7,7,7,7,7,7,7,7,7,7,7,8,8,8,8,8,8,8,8,8,8,8,8,8,8,8,8,8,8,8,8,8,8,8,8,8,8,8,8,8,8,8,8,8,8,8,8,8,8,8,8,8,8,8,8,8,8,8,8,8,8,8,8,8,8,8,8,8,8,8,8,8,8,8,8,8,8,8,8,8,8,8,8,8,8,8,8,8,8,8,8,8,8,8,8,8,8,8,8,8,8,8,8,8,8,8,8,8,8,8,8,8,8,8,8,8,8,8,8,8,8,8,8,8,8,8,8,8,8,8,8,8,8,8,8,8,8,8,8]⟩)) (some (.int .u8 (i:Int)))=some (.int .u8 (t:Int))/\t<=8/\(1<=i->2 ^ t<=2*i):=by
 have:=List.all_eq_true.1 tab_all i (List.mem_range.2 h)
 split at this
 ·rename_i t he
  simp only [Bool.and_eq_true,Bool.or_eq_true] at this
  refine ⟨t,he,ble_true.1 this.1,fun h1=>?_⟩
  rcases this.2 with h2|h2
  ·have:=Nat.eq_of_beq_eq_true h2;omega
  ·exact ble_true.1 h2
 ·cases this
theorem conv153 (a:Int) (h:AH):zO E (zl [(20,.int .u64 a)]) (zn B153 [1,1,1,1,0] 2) h=some (.int .u8 (IntKind.u8.wrap a)):=by kernel_rfl
theorem zbv (a:Int) (h:AH):zO E (zl [(22,.int .u8 a)]) (zn B153 [1,1,1,1,0] 4) h=some (.int .i64 (IntKind.i64.wrap a)):=by kernel_rfl
theorem shr153 (a:Int):zi E (zl [(15,.int .u64 a)]) (zn B153 [1,1,1,0,1,0,0] 1)=some (.int .u64 (a.fdiv (2 ^ (8:Nat)))):=by kernel_rfl
theorem zFz (t:TypeId) (a b:Int):zC E .geq t (.int .u64 a) (.int .u64 b)=some (.bool (decide (b<=a))):=by
 show some (Value.bool (ile b a))=_
 rw [zFo]
theorem call153 {k:AH} (hok:k.ok) {x:Nat} (h2:x<65536):∃ l:Nat,((1<=x->2 ^ l<=2*x)/\l<=16)/\(zW E).call 153 [.int .u64 (x:Int)] k=some [(.int .i64 (l:Int),k)]:=by
 have tail:∀ {y:Nat} {m:Nat} {F:Nat->Prop} {K:KF},y<256->m<=8->(∀ t:Nat,t<=8->(1<=y->2 ^ t<=2*y)->K .ret [.int .i64 ((m+t:Nat):Int)] k.fresh)->P153_10 true K (.int .u64 (y:Int)) (.int .i64 (m:Int)) k.fresh:=by
  intro y m F K hy hm hK
  refine zP7 ?_
  obtain ⟨t,t1,t2,t3⟩:=tab_ok hy
  have e1:IntKind.u8.wrap (y:Int)=(y:Int):=by
   have:IntKind.u8.wrap (y:Int)=(y:Int) % 256:=by simp [IntKind.wrap,IntKind.bits,IntKind.signed]
   rw [this];omega
  simp only [zA,conv153,e1,t1,zbv,wrapi (show t<=9223372036854775807 by omega),zNC (show m+t<=9223372036854775807 by omega)]
  exact hK t t2 t3
 by_cases hx:x<256
 ·have main:∃ v,(∃ l:Nat,((1<=x->2 ^ l<=2*x)/\l<=16)/\v=.int .i64 (l:Int))/\(zW E).call 153 [.int .u64 (x:Int)] k=some [(v,k)]:=by
   refine zIr hok (zLO ?_)
   try simp only [zA]
   refine zLN ?_
   simp only [zA,zFz,show decide ((4294967296:Int)<=(x:Int))=false from decide_eq_false (by omega),zk]
   refine zLM ?_
   simp only [zA,zFz,show decide ((65536:Int)<=(x:Int))=false from decide_eq_false (by omega),zk]
   refine zLL ?_
   simp only [zA,zFz,show decide ((256:Int)<=(x:Int))=false from decide_eq_false (by omega),zk]
   refine tail (m:=0) (F:=fun _=>True) hx (by omega) fun t ht h3=>?_
   rw [zAJ,Nat.zero_add]
   exact ⟨zT ▸ trivial,⟨rfl,t,⟨h3,by omega⟩,rfl⟩,Nat.le_add_right _ _⟩
  obtain ⟨v,⟨l,hl,rfl⟩,h⟩:=main
  exact ⟨l,hl,h⟩
 ·have main:∃ v,(∃ l:Nat,((1<=x->2 ^ l<=2*x)/\l<=16)/\v=.int .i64 (l:Int))/\(zW E).call 153 [.int .u64 (x:Int)] k=some [(v,k)]:=by
   refine zIr hok (zLO ?_)
   try simp only [zA]
   refine zLN ?_
   simp only [zA,zFz,show decide ((4294967296:Int)<=(x:Int))=false from decide_eq_false (by omega),zk]
   refine zLM ?_
   simp only [zA,zFz,show decide ((65536:Int)<=(x:Int))=false from decide_eq_false (by omega),zk]
   refine zLL ?_
   simp only [zA,zFz,show decide ((256:Int)<=(x:Int))=true from decide_eq_true (by omega),zu]
   refine zX5 ?_
   have e2:(x:Int).fdiv (2 ^ (8:Nat))=((x / 256:Nat):Int):=by
    rw [Int.fdiv_eq_ediv_of_nonneg _ (by decide)]
    rfl
   simp only [zA,shr153,e2]
   refine zX4 ?_
   try simp only [zA]
   rw [zAM 3 (a:=0) (b:=8) (by unfold zCx;omega)]
   try simp only [zA]
   refine tail (m:=8) (F:=fun _=>True) (by omega) (by omega) fun t ht h3=>?_
   rw [zAJ]
   refine ⟨zT ▸ trivial,⟨rfl,8+t,⟨?_,by omega⟩,rfl⟩,Nat.le_add_right _ _⟩
   intro _
   have:=h3 (by omega)
   rw [Nat.pow_add]
   omega
  obtain ⟨v,⟨l,hl,rfl⟩,h⟩:=main
  exact ⟨l,hl,h⟩
theorem call93 {k:AH} (hok:k.ok) {x:Nat} (h2:x<65536):∃ l:Nat,((1<=x->2 ^ l<=2*x)/\l<=16)/\(zW E).call 93 [.int .u64 (x:Int)] k=some [(.int .i64 (l:Int),k)]:=by
 obtain ⟨l,hl,h⟩:=call153 (zAT k) h2
 refine ⟨l,hl,zaG hok rfl (zcJ ?_)⟩
 simp only [zA,zk]
 refine zcI ?_
 simp only [zA,zS,h,zN,zAJ,zT,true_and]
 exact Nat.le_add_right _ _
theorem conv193 (a:Int) (h:AH):zO E (zl [(3,.int .i64 a)]) (zn B193 [1,0] 1) h=some (.int .u64 (IntKind.u64.wrap a)):=by kernel_rfl
theorem zRk:(zn B193 [1,0] 3).op=.binOp .shl 140 (.const (.int .u64 1)) (.tmp 5) 3:=by kernel_rfl
theorem shl193 {l:Nat} (hl:l<=16):zi E (zl [(5,.int .i64 (l:Int))]) (zn B193 [1,0] 3)=some (.int .u64 ((2 ^ l:Nat):Int)):=by
 have h1:(zl [(5,.int .i64 (l:Int))]).get 5=.int .i64 (l:Int):=by kernel_rfl
 refine zRh zRk (va:=.int .u64 1) (vb:=.int .i64 (l:Int)) rfl h1 rfl (by show zh _=true;rw [h1];rfl) rfl rfl ?_ rfl
 show Op.shift .shl .u64 1 .i64 (l:Int)=_
 unfold Op.shift
 rw [if_neg (by omega)]
 have e:min (l:Int).toNat IntKind.u64.bits=l:=by
  show min (l:Int).toNat 64=l
  omega
 have hp:2 ^ l<=2 ^ 16:=Nat.pow_le_pow_right (by decide) hl
 have:IntKind.u64.wrap (1*2 ^ (min (l:Int).toNat IntKind.u64.bits))=((2 ^ l:Nat):Int):=by
  rw [e,Int.one_mul,show ((2:Int) ^ l)=((2 ^ l:Nat):Int) by push_cast;rfl]
  exact zOy (by omega)
 show pure (Value.int .u64 (IntKind.u64.wrap (1*2 ^ (min (l:Int).toNat IntKind.u64.bits))))=_
 rw [this]
theorem call193 {k:AH} (hok:k.ok) {x:Nat} (h1:1<=x) (h2:x<65536):∃ m:Nat,(1<=m/\m<=2*x)/\(zW E).call 193 [.int .i64 (x:Int)] k=some [(.int .u64 (m:Int),k)]:=by
 obtain ⟨l,hl,h⟩:=call93 (zAT k) h2
 refine ⟨2 ^ l,⟨Nat.one_le_two_pow,hl.1 h1⟩,zQ1 hok rfl (zW9 ?_)⟩
 try simp only [zA]
 refine zW8 ?_
 simp only [zA,conv193,zOy (show x<18446744073709551616 by omega),zS,h,zN,shl193 hl.2,zAJ,zT,true_and]
 exact Nat.le_add_right _ _
theorem s194a (a:Int):zi E (zl [(8,.int .u64 a)]) (zn zOx [1,0] 6)=some (.int .u64 (IntKind.u64.wrap (a*2 ^ (13:Nat)))):=by kernel_rfl
theorem x194a (a b:Int):zi E (zl [(5,.int .u64 a),(9,.int .u64 b)]) (zn zOx [1,0] 7)=some (.int .u64 (IntKind.u64.wrap (BitVec.ofInt 64 a ^^^ BitVec.ofInt 64 b).toNat)):=by kernel_rfl
theorem s194b (a:Int):zi E (zl [(17,.int .u64 a)]) (zn zOx [1,1,0] 6)=some (.int .u64 (a.fdiv (2 ^ (7:Nat)))):=by kernel_rfl
theorem x194b (a b:Int):zi E (zl [(14,.int .u64 a),(18,.int .u64 b)]) (zn zOx [1,1,0] 7)=some (.int .u64 (IntKind.u64.wrap (BitVec.ofInt 64 a ^^^ BitVec.ofInt 64 b).toNat)):=by kernel_rfl
theorem s194c (a:Int):zi E (zl [(26,.int .u64 a)]) (zn zOx [1,1,1,0] 6)=some (.int .u64 (IntKind.u64.wrap (a*2 ^ (17:Nat)))):=by kernel_rfl
theorem x194c (a b:Int):zi E (zl [(23,.int .u64 a),(27,.int .u64 b)]) (zn zOx [1,1,1,0] 7)=some (.int .u64 (IntKind.u64.wrap (BitVec.ofInt 64 a ^^^ BitVec.ofInt 64 b).toNat)):=by kernel_rfl
def U64 (h:AH) (r:Nat):Prop:=∃ z,h.get r=some (.row [.int .u64 z] 253 0 false)
theorem zNN {h:AH} {r:Nat} (H:U64 h r) (z:Int):∃ m,ze E 253 h (some (ptr r)) (some (.int .u64 z))=one (undef,m)/\U64 m r/\m.wm<=r/\m.wm<=h.wm/\∀ (k0:AH) (P:Nat->Prop),(P r\/k0.next<=r)->Fx P k0 h->Fx P k0 m:=by
 obtain ⟨y,hy⟩:=H
 exact ⟨_,zw (P:=E) ts_253 (x:=.int .u64 z) (cs:=[.int .u64 z]) (o:=0) hy rfl rfl (by simp) rfl,⟨z,zR _ _ _⟩,(zHp _ _ _).1,(zHp _ _ _).2,fun k0 P hP f=>f.upd hP _⟩
theorem call194 {k:AH} {r:Nat} (hr:U64 k r) (hrl:r<k.next) (hok:k.ok):Ev true ((zW E).call 194 [ptr r] k) fun x=>(∃ u,x.1=.int .u64 u)/\Fx (fun c=>c=r) k x.2/\U64 x.2 r/\x.2.wm<=k.wm:=by
 refine (zJc (Q:=fun v m=>(∃ u,v=.int .u64 u)/\Fx (fun c=>c=r) k.fresh m/\U64 m r) hok zfI zaf (zfH _ _) (by kernel_rfl) (F194_ev (Rp:=fun v m=>(∃ u,v=.int .u64 u)/\Fx (fun c=>c=r) k.fresh m/\U64 m r) (zW7 ?_))).mono ?_
 rotate_left
 ·rintro ⟨v,m⟩ ⟨k1,⟨hq,f,hz⟩,⟨h1,h2⟩|h2⟩
  ·simp only at h2 hq ⊢
   subst h2
   exact ⟨hq,Fx.refl hok,hr,Nat.le_refl _⟩
  ·simp only at h2 hq ⊢
   subst h2
   obtain ⟨z,hz⟩:=hz
   refine ⟨hq,f.back,⟨z,zGB hz⟩,?_⟩
   show cond (Nat.ble k.wm k1.wm) k.wm k1.wm<=k.wm
   cases hc:Nat.ble k.wm k1.wm with
   | true=>exact Nat.le_refl _
   | false=>have:=ble_false.1 hc;simp only [cond_false];omega
 have ld:∀ {h:AH} {z:Int},h.get r=some (.row [.int .u64 z] 253 0 false)->zH E 253 h (some (ptr r))=some (.int .u64 z):=fun hz=>zF (P:=E) ta_253 (o:=0) hz
 try simp only [zA]
 refine zW6 ?_
 obtain ⟨z1,hz1⟩:U64 k.fresh r:=hr
 obtain ⟨m1,e1,u1,-,-,f1⟩:=zNN ⟨z1,hz1⟩ (IntKind.u64.wrap (BitVec.ofInt 64 z1 ^^^ BitVec.ofInt 64 (IntKind.u64.wrap (z1*2 ^ (13:Nat)))).toNat)
 simp only [zA,zAu,ld hz1,s194a,x194a,e1,zL]
 have g1:=f1 k.fresh (fun c=>c=r) (.inl rfl) (Fx.refl (P:=fun c=>c=r) (zAT k))
 refine zW5 ?_
 obtain ⟨z2,hz2⟩:=u1
 obtain ⟨m2,e2,u2,-,-,f2⟩:=zNN ⟨z2,hz2⟩ (IntKind.u64.wrap (BitVec.ofInt 64 z2 ^^^ BitVec.ofInt 64 (z2.fdiv (2 ^ (7:Nat)))).toNat)
 simp only [zA,zAu,ld hz2,s194b,x194b,e2,zL]
 have g2:=f2 k.fresh (fun c=>c=r) (.inl rfl) g1
 refine zW4 ?_
 obtain ⟨z3,hz3⟩:=u2
 obtain ⟨m3,e3,u3,-,-,f3⟩:=zNN ⟨z3,hz3⟩ (IntKind.u64.wrap (BitVec.ofInt 64 z3 ^^^ BitVec.ofInt 64 (IntKind.u64.wrap (z3*2 ^ (17:Nat)))).toNat)
 simp only [zA,zAu,ld hz3,s194c,x194c,e3,zL]
 have g3:=f3 k.fresh (fun c=>c=r) (.inl rfl) g2
 refine zW3 ?_
 obtain ⟨z4,hz4⟩:=u3
 simp only [zA,zAu,ld hz4]
 rw [zAJ]
 exact ⟨zT ▸ trivial,⟨z4,rfl⟩,g3,z4,hz4⟩
theorem conv146 (a:Int) (h:AH):zO E (zl [(18,.int .i64 a)]) (zn zRL [1,1,0,0] 1) h=some (.int .u64 (IntKind.u64.wrap a)):=by kernel_rfl
theorem and146 (a b:Int):zi E (zl [(38,.int .u64 a),(40,.int .u64 b)]) (zn zRL [1,1,0,1,1,1,0,0,1,0,0,0] 3)=some (.int .u64 (IntKind.u64.wrap (BitVec.ofInt 64 a &&& BitVec.ofInt 64 b).toNat)):=by kernel_rfl
theorem zbw (a:Int) (h:AH):zO E (zl [(41,.int .u64 a)]) (zn zRL [1,1,0,1,1,1,0,0,1,0,0,0] 4) h=some (.int .i64 (IntKind.i64.wrap a)):=by kernel_rfl
theorem quo146a {x:Nat} (h:x<=9223372036854775807):zi E (zl [(23,.int .i64 (x:Int))]) (zn zRL [1,1,0,1,1,0] 2)=some (.int .i64 ((x / 4:Nat):Int)):=zGv (u:=23) (cc:=4) (by kernel_rfl) (by kernel_rfl) (by omega) h
theorem zRz {x:Nat} (h:x<=9223372036854775807):zi E (zl [(30,.int .i64 (x:Int))]) (zn zRL [1,1,0,1,1,1,0,0,0,0] 3)=some (.int .i64 ((x / 4:Nat):Int)):=zGv (u:=30) (cc:=4) (by kernel_rfl) (by kernel_rfl) (by omega) h
theorem subu {m:Nat} (h1:1<=m) (h2:m<=200000) (t:TypeId):zC E .sub t (.int .u64 (m:Int)) (.int .u64 1)=some (.int .u64 ((m-1:Nat):Int)):=by
 show some (Value.int .u64 (zBr .u64 ((m:Int)-1)))=_
 rw [zEw,show (m:Int)-1=((m-1:Nat):Int) by omega,zOy (by omega)]
theorem and_le (u:Int) {v:Nat} (h:v<=200000):∃ r:Nat,r<=v/\IntKind.u64.wrap (BitVec.ofInt 64 u &&& BitVec.ofInt 64 (v:Int)).toNat=(r:Int):=by
 have e:(BitVec.ofInt 64 u &&& BitVec.ofInt 64 (v:Int)).toNat<=v:=by
  rw [BitVec.toNat_and]
  refine Nat.le_trans Nat.and_le_right ?_
  rw [BitVec.toNat_ofInt]
  omega
 exact ⟨_,e,zOy (by omega)⟩
theorem SR.side {b ty es:Nat} {k0 h m:AH} {d0 d:Dt} {r:Nat} (R:SR b ty es k0 d0 h d) (f:Fx (fun c=>c=r) h m) (hr:k0.next<=r) (hne:b≠r) (hw:m.wm<=h.wm):SR b ty es k0 d0 m d:=
 ⟨R.fx.trans f fun c hc=>.inr (hc ▸ hr),(f.get b R.l hne).trans R.g,by
  rcases R.wm with h1|h1
  ·exact .inl (by omega)
  ·exact .inr h1,Nat.le_trans hw R.wle,R.sz,R.lt⟩
section
variable {b ty es c:Nat} {k:AH} {d:Dt} {cf:Value}
theorem call146 (hg:k.get b=some (.row (zBd d) ty es false)) (hbl:b<k.next) (hok:k.ok) {n:Nat} (hs:d.size=n) (hn:d.size<=60000) {a e:Nat} (h13:a+13<=e) (he:e<=d.size) :
  Ev true ((zW E).call 146 [sl b n c,.int .i64 (a:Int),.int .i64 (e:Int),cf] k) fun x=>∃ d',(x.1=.tuple #[]/\PermIn a e d d')/\SR b ty es k d x.2 d':=by
 subst hs
 refine zDu (Q:=fun v d'=>v=.tuple #[]/\PermIn a e d d') hg hbl hok zfW zax (zfV _ _) (by kernel_rfl) (F146_ev (Rp:=RS b ty es k d (fun v d'=>v=.tuple #[]/\PermIn a e d d')) (zYz ?_))
 simp only [zA,subN (show a<=e by omega) (show e<=9223372036854775807 by omega)]
 refine zYy ?_
 simp only [zA,zAP,show decide ((8:Int)<=((e-a:Nat):Int))=true from decide_eq_true (by omega),zu]
 refine zYx ?_
 obtain ⟨k1,e1,n1,t1,o1,f1⟩:=nwF k (.row [.int .u64 0] 253 0 false)
 rw [z_253]
 simp only [zA,conv146,zd,zL,zCl,e1,zZ,zOy (show e-a<18446744073709551616 by omega)]
 have R1:SR b ty es k.fresh d k1 d:=by
  refine ⟨?_,(f1 b hbl).trans hg,.inr rfl,?_,rfl,hbl⟩
  ·rw [← e1];exact (Fx.refl (zAT k)).new _
  ·rw [← e1,zC9];exact Nat.le_refl _
 obtain ⟨m1,s1,u1,-,w1,g1⟩:=zNN ⟨0,t1⟩ ((e-a:Nat):Int)
 have R2:SR b ty es k.fresh d m1 d:=R1.side (g1 k1 (fun c=>c=k.next) (.inl rfl) (Fx.refl R1.ok)) (Nat.le_refl _) (by omega) w1
 simp only [s1,zL]
 have hm1:k.next<m1.next:=by
  have:=(g1 k1 (fun c=>c=k.next) (.inl rfl) (Fx.refl R1.ok)).next
  omega
 refine zYw ?_
 obtain ⟨M,hM,c193⟩:=call193 R2.ok (x:=e-a) (by omega) (by omega)
 simp only [zA,zS,c193,zN]
 refine zYv ?_
 simp only [zA,quo146a (show e-a<=9223372036854775807 by omega)]
 rw [zbd (by omega)]
 simp only [zA,zNC (show a+(e-a) / 4*2<=9223372036854775807 by omega),zBg (show 1<=a+(e-a) / 4*2 by omega) (show a+(e-a) / 4*2<=9223372036854775807 by omega)]
 have loop:∀ (m i:Nat),i+m=a+(e-a) / 4*2+2->a<=i->∀ d' h,SR b ty es k.fresh d h d'->PermIn a e d d'->U64 h k.next->k.next<h.next->
   P146_5 true (KR E [] (RS b ty es k d (fun v d'=>v=.tuple #[]/\PermIn a e d d'))) (sl b d.size c) (.int .i64 (a:Int)) (.int .i64 ((e-a:Nat):Int)) (.pointer (some ⟨k.next,0,none⟩)) (.int .u64 (M:Int)) (.int .i64 (i:Int)) h:=by
  intro m
  induction m with
  | zero=>
   intro i hm hi d' h R hp hu hl
   refine zLX ?_
   simp only [zA,zRz (show e-a<=9223372036854775807 by omega)]
   rw [zbd (by omega)]
   simp only [zA,zNC (show a+(e-a) / 4*2<=9223372036854775807 by omega),zBG (show a+(e-a) / 4*2+1<=9223372036854775807 by omega),zA7,show decide ((i:Int)<=((a+(e-a) / 4*2+1:Nat):Int))=false from decide_eq_false (by omega),zk]
   rw [zMW]
   exact ⟨zCC ▸ trivial,d',⟨rfl,hp⟩,R⟩
  | succ m ih=>
   intro i hm hi d' h R hp hu hl
   have hsz:=R.sz
   refine zLX ?_
   simp only [zA,zRz (show e-a<=9223372036854775807 by omega)]
   rw [zbd (by omega)]
   simp only [zA,zNC (show a+(e-a) / 4*2<=9223372036854775807 by omega),zBG (show a+(e-a) / 4*2+1<=9223372036854775807 by omega),zA7,show decide ((i:Int)<=((a+(e-a) / 4*2+1:Nat):Int))=true from decide_eq_true (by omega),zu]
   refine zYu ?_
   rw [zS]
   refine (call194 hu hl R.ok).mono ?_
   rintro ⟨v,h2⟩ ⟨⟨u,rfl⟩,f2,u2,w2⟩
   have R3:=R.side f2 (Nat.le_refl _) (by omega) w2
   obtain ⟨r,hr,er⟩:=and_le u (v:=M-1) (by omega)
   simp only [zA,subu hM.1 (show M<=200000 by omega),and146,er,zbw,wrapi (show r<=9223372036854775807 by omega)]
   have hl2:k.next<h2.next:=Nat.lt_of_lt_of_le hl f2.next
   have rest:∀ o:Nat,o<e-a->P146_9 true (KR E [] (RS b ty es k d (fun v d'=>v=.tuple #[]/\PermIn a e d d'))) (sl b d.size c) (.int .i64 (a:Int)) (.int .i64 ((e-a:Nat):Int)) (.pointer (some ⟨k.next,0,none⟩)) (.int .u64 (M:Int)) (.int .i64 (i:Int)) (.int .i64 (o:Int)) h2:=by
    intro o ho
    refine zYr ?_
    obtain ⟨m3,m4,q1,q2,R4⟩:=R3.sw (i:=i) (j:=a+o) (by omega) (by omega)
    simp only [zA,zNC (show a+o<=9223372036854775807 by omega),zAK (show a+o<d.size by omega),zAK (show i<d.size by omega),R3.ld (i:=i) (by omega),R3.ld (i:=a+o) (by omega),q1,q2,zL]
    refine zQc ?_
    simp only [zA,zBG (show i+1<=9223372036854775807 by omega)]
    have hn4:k.next<m4.next/\m4.get k.next=h2.get k.next:=by
     obtain ⟨p1,p2⟩:m3.next=h2.next/\m3.get k.next=h2.get k.next:=by
      have:=zw (P:=E) zHg (cs:=zG d'[a+o]!) (o:=i*2) (x:=.agg ⟨zG d'[a+o]!⟩) R3.g rfl rfl (by rw [zE6];omega) (zH4 _)
      rw [Nat.zero_add,this] at q1
      have e3:h2.upd b (some (.row (lput (zBd d') (i*2) (zG d'[a+o]!)) ty es false))=m3:=by
       simp only [one,Option.some.injEq,List.cons.injEq,Prod.mk.injEq,true_and,and_true] at q1;exact q1
      rw [← e3]
      exact ⟨rfl,zU (by omega)⟩
     obtain ⟨vs,hv⟩:∃ vs,m3.get b=some (.row vs ty es false)/\vs.length=d'.size*2:=by
      have:=zw (P:=E) zHg (cs:=zG d'[a+o]!) (o:=i*2) (x:=.agg ⟨zG d'[a+o]!⟩) R3.g rfl rfl (by rw [zE6];omega) (zH4 _)
      rw [Nat.zero_add,this] at q1
      have e3:h2.upd b (some (.row (lput (zBd d') (i*2) (zG d'[a+o]!)) ty es false))=m3:=by
       simp only [one,Option.some.injEq,List.cons.injEq,Prod.mk.injEq,true_and,and_true] at q1;exact q1
      rw [← e3,zR]
      refine ⟨_,rfl,?_⟩
      show (lput (d'.toList.flatMap zG) (i*2) (zG d'[a+o]!)).length=_
      rw [zI6 _ _ _ (by simp;omega),zBQ]
      simp
     have:=zw (P:=E) zHg (cs:=zG d'[i]!) (o:=(a+o)*2) (x:=.agg ⟨zG d'[i]!⟩) hv.1 rfl rfl (by rw [hv.2];omega) (zH4 _)
     rw [Nat.zero_add,this] at q2
     have e4:m3.upd b (some (.row (lput vs ((a+o)*2) (zG d'[i]!)) ty es false))=m4:=by
      simp only [one,Option.some.injEq,List.cons.injEq,Prod.mk.injEq,true_and,and_true] at q2;exact q2
     rw [← e4]
     exact ⟨by show k.next<m3.next;omega,(zU (by omega)).trans p2⟩
    refine ih (i+1) (by omega) (by omega) _ m4 R4 (permIn_trans _ _ _ _ _ hp (swp_permIn _ _ _ _ _ (by omega) (by omega) (by omega) (by omega) (by omega))) ?_ hn4.1
    obtain ⟨z,hz⟩:=u2
    exact ⟨z,hn4.2.trans hz⟩
   refine zYt ?_
   simp only [zA,zAP,zAA]
   refine ⟨fun h1=>zYs ?_,fun h1=>rest r (by omega)⟩
   simp only [zA,subN (show e-a<=r by omega) (show r<=9223372036854775807 by omega)]
   exact rest (r-(e-a)) (by omega)
 exact loop 3 (a+(e-a) / 4*2-1) (by omega) (by omega) d m1 R2 (permIn_refl _ _ _) u1 hm1
end
section
variable {b ty es c:Nat} {k:AH} {d:Dt} {cf:Value} {cm:Int×Int->Int×Int->Int}
theorem up150 (hn:d.size<=1000000) (hc:zCJ cf cm) {K:KF} {a j:Nat} {d':Dt} {h:AH} (R:SR b ty es k.fresh d h d') (ha:a<d.size) (hj:j<d.size):∀ (m i:Nat),j+1<=i+m->i<=d.size+1->
  (P150_5 true K (sl b d.size c) (.int .i64 (a:Int)) cf (.int .i64 ((scanUp (fun x=>!zAW cm d'[a]! x) d' j i:Nat):Int)) (.int .i64 (j:Int)) h)->
  P150_3 true K (sl b d.size c) (.int .i64 (a:Int)) cf (.int .i64 (i:Int)) (.int .i64 (j:Int)) h:=by
 have hsz:=R.sz
 intro m
 induction m with
 | zero=>
  intro i hm hi hK
  refine zLT ?_
  simp only [zA,zA7,show decide ((i:Int)<=(j:Int))=false from decide_eq_false (by omega),zM,zP,ft,cond_false,zL,zJ,zk]
  unfold scanUp at hK
  rw [if_neg (by simp;omega)] at hK
  exact hK
 | succ m ih=>
  intro i hm hi hK
  refine zLT ?_
  by_cases hij:i<=j
  rotate_left
  ·simp only [zA,zA7,show decide ((i:Int)<=(j:Int))=false from decide_eq_false (by omega),zM,zP,ft,cond_false,zL,zJ,zk]
   unfold scanUp at hK
   rw [if_neg (by simp;omega)] at hK
   exact hK
  ·simp only [zA,zA7,show decide ((i:Int)<=(j:Int))=true from decide_eq_true (by omega),zM,zP,beq_self_eq_true,cond_true,zAK ha,zAK (show i<d.size by omega),R.ld (i:=a) (by omega),R.ld (i:=i) (by omega),hc _ _ _ R.ok,zN,zY,zv,zJ]
   by_cases ht:cm d'[a]! d'[i]! < 0
   ·simp only [ht,decide_true,Bool.not_true,zk]
    unfold scanUp at hK
    rw [if_neg (by simp [ht])] at hK
    exact hK
   ·simp only [ht,decide_false,Bool.not_false,zu]
    unfold scanUp at hK
    rw [if_pos (by simp [ht,hij] <;> omega)] at hK
    refine zYJ ?_
    simp only [zA,zBG (show i+1<=9223372036854775807 by omega)]
    exact ih (i+1) (by omega) (by omega) hK
theorem zS4 (hn:d.size<=1000000) (hc:zCJ cf cm) {K:KF} {a i:Nat} {d':Dt} {h:AH} (R:SR b ty es k.fresh d h d') (ha:a<d.size) (hi:1<=i):∀ (j:Nat),j<d.size->
  (P150_7 true K (sl b d.size c) (.int .i64 (a:Int)) cf (.int .i64 (i:Int)) (.int .i64 ((scanDown (fun x=>zAW cm d'[a]! x) d' i j:Nat):Int)) h)->
  P150_5 true K (sl b d.size c) (.int .i64 (a:Int)) cf (.int .i64 (i:Int)) (.int .i64 (j:Int)) h:=by
 have hsz:=R.sz
 intro j
 induction j with
 | zero=>
  intro hj hK
  refine zLS ?_
  simp only [zA,zA7,show decide ((i:Int)<=((0:Nat):Int))=false from decide_eq_false (by omega),zM,zP,ft,cond_false,zL,zJ,zk]
  exact hK
 | succ j ih=>
  intro hj hK
  refine zLS ?_
  by_cases hij:i<=j+1
  rotate_left
  ·simp only [zA,zA7,show decide ((i:Int)<=((j+1:Nat):Int))=false from decide_eq_false (by omega),zM,zP,ft,cond_false,zL,zJ,zk]
   unfold scanDown at hK
   rw [if_neg (by simp;omega)] at hK
   exact hK
  ·simp only [zA,zA7,show decide ((i:Int)<=((j+1:Nat):Int))=true from decide_eq_true (by omega),zM,zP,beq_self_eq_true,cond_true,zAK ha,zAK hj,R.ld (i:=a) (by omega),R.ld (i:=j+1) (by omega),hc _ _ _ R.ok,zN,zY,zJ]
   by_cases ht:cm d'[a]! d'[j+1]! < 0
   ·simp only [ht,decide_true,zu]
    unfold scanDown at hK
    rw [if_pos (by simp [ht,hij])] at hK
    refine zYI ?_
    simp only [zA,zBg (show 1<=j+1 by omega) (show j+1<=9223372036854775807 by omega),Nat.add_sub_cancel]
    exact ih (by omega) hK
   ·simp only [ht,decide_false,zk]
    unfold scanDown at hK
    rw [if_neg (by simp [ht])] at hK
    exact hK
theorem up151 (hn:d.size<=1000000) (hc:zCJ cf cm) {K:KF} {a j:Nat} {d':Dt} {h:AH} (R:SR b ty es k.fresh d h d') (ha:a<d.size) (hj:j<d.size):∀ (m i:Nat),j+1<=i+m->i<=d.size+1->
  (P151_5 true K (sl b d.size c) (.int .i64 (a:Int)) cf (.int .i64 ((scanUp (fun x=>zAW cm x d'[a]!) d' j i:Nat):Int)) (.int .i64 (j:Int)) h)->
  P151_3 true K (sl b d.size c) (.int .i64 (a:Int)) cf (.int .i64 (i:Int)) (.int .i64 (j:Int)) h:=by
 have hsz:=R.sz
 intro m
 induction m with
 | zero=>
  intro i hm hi hK
  refine zLQ ?_
  simp only [zA,zA7,show decide ((i:Int)<=(j:Int))=false from decide_eq_false (by omega),zM,zP,ft,cond_false,zL,zJ,zk]
  unfold scanUp at hK
  rw [if_neg (by simp;omega)] at hK
  exact hK
 | succ m ih=>
  intro i hm hi hK
  refine zLQ ?_
  by_cases hij:i<=j
  rotate_left
  ·simp only [zA,zA7,show decide ((i:Int)<=(j:Int))=false from decide_eq_false (by omega),zM,zP,ft,cond_false,zL,zJ,zk]
   unfold scanUp at hK
   rw [if_neg (by simp;omega)] at hK
   exact hK
  ·simp only [zA,zA7,show decide ((i:Int)<=(j:Int))=true from decide_eq_true (by omega),zM,zP,beq_self_eq_true,cond_true,zAK ha,zAK (show i<d.size by omega),R.ld (i:=a) (by omega),R.ld (i:=i) (by omega),hc _ _ _ R.ok,zN,zY,zJ]
   by_cases ht:cm d'[i]! d'[a]! < 0
   ·simp only [ht,decide_true,zu]
    unfold scanUp at hK
    rw [if_pos (by simp [ht,hij])] at hK
    refine zYA ?_
    simp only [zA,zBG (show i+1<=9223372036854775807 by omega)]
    exact ih (i+1) (by omega) (by omega) hK
   ·simp only [ht,decide_false,zk]
    unfold scanUp at hK
    rw [if_neg (by simp [ht])] at hK
    exact hK
theorem down151 (hn:d.size<=1000000) (hc:zCJ cf cm) {K:KF} {a i:Nat} {d':Dt} {h:AH} (R:SR b ty es k.fresh d h d') (ha:a<d.size) (hi:1<=i):∀ (j:Nat),j<d.size->
  (P151_7 true K (sl b d.size c) (.int .i64 (a:Int)) cf (.int .i64 (i:Int)) (.int .i64 ((scanDown (fun x=>!zAW cm x d'[a]!) d' i j:Nat):Int)) h)->
  P151_5 true K (sl b d.size c) (.int .i64 (a:Int)) cf (.int .i64 (i:Int)) (.int .i64 (j:Int)) h:=by
 have hsz:=R.sz
 intro j
 induction j with
 | zero=>
  intro hj hK
  refine zLP ?_
  simp only [zA,zA7,show decide ((i:Int)<=((0:Nat):Int))=false from decide_eq_false (by omega),zM,zP,ft,cond_false,zL,zJ,zk]
  exact hK
 | succ j ih=>
  intro hj hK
  refine zLP ?_
  by_cases hij:i<=j+1
  rotate_left
  ·simp only [zA,zA7,show decide ((i:Int)<=((j+1:Nat):Int))=false from decide_eq_false (by omega),zM,zP,ft,cond_false,zL,zJ,zk]
   unfold scanDown at hK
   rw [if_neg (by simp;omega)] at hK
   exact hK
  ·simp only [zA,zA7,show decide ((i:Int)<=((j+1:Nat):Int))=true from decide_eq_true (by omega),zM,zP,beq_self_eq_true,cond_true,zAK ha,zAK hj,R.ld (i:=a) (by omega),R.ld (i:=j+1) (by omega),hc _ _ _ R.ok,zN,zY,zv,zJ]
   by_cases ht:cm d'[j+1]! d'[a]! < 0
   ·simp only [ht,decide_true,Bool.not_true,zk]
    unfold scanDown at hK
    rw [if_neg (by simp [ht])] at hK
    exact hK
   ·simp only [ht,decide_false,Bool.not_false,zu]
    unfold scanDown at hK
    rw [if_pos (by simp [ht,hij] <;> omega)] at hK
    refine zX9 ?_
    simp only [zA,zBg (show 1<=j+1 by omega) (show j+1<=9223372036854775807 by omega),Nat.add_sub_cancel]
    exact ih (by omega) hK
theorem up151b (hn:d.size<=1000000) (hc:zCJ cf cm) {K:KF} {a j:Nat} {d':Dt} {h:AH} (R:SR b ty es k.fresh d h d') (ha:a<d.size) (hj:j<d.size):∀ (m i:Nat),j+1<=i+m->i<=d.size+1->
  (zYD true K (sl b d.size c) (.int .i64 (a:Int)) cf (.int .i64 ((scanUp (fun x=>zAW cm x d'[a]!) d' j i:Nat):Int)) (.int .i64 (j:Int)) h)->
  zYE true K (sl b d.size c) (.int .i64 (a:Int)) cf (.int .i64 (i:Int)) (.int .i64 (j:Int)) h:=by
 have hsz:=R.sz
 intro m
 induction m with
 | zero=>
  intro i hm hi hK
  refine zIl ?_
  simp only [zA,zA7,show decide ((i:Int)<=(j:Int))=false from decide_eq_false (by omega),zM,zP,ft,cond_false,zL,zJ,zk]
  unfold scanUp at hK
  rw [if_neg (by simp;omega)] at hK
  exact hK
 | succ m ih=>
  intro i hm hi hK
  refine zIl ?_
  by_cases hij:i<=j
  rotate_left
  ·simp only [zA,zA7,show decide ((i:Int)<=(j:Int))=false from decide_eq_false (by omega),zM,zP,ft,cond_false,zL,zJ,zk]
   unfold scanUp at hK
   rw [if_neg (by simp;omega)] at hK
   exact hK
  ·simp only [zA,zA7,show decide ((i:Int)<=(j:Int))=true from decide_eq_true (by omega),zM,zP,beq_self_eq_true,cond_true,zAK ha,zAK (show i<d.size by omega),R.ld (i:=a) (by omega),R.ld (i:=i) (by omega),hc _ _ _ R.ok,zN,zY,zJ]
   by_cases ht:cm d'[i]! d'[a]! < 0
   ·simp only [ht,decide_true,zu]
    unfold scanUp at hK
    rw [if_pos (by simp [ht,hij])] at hK
    refine zQC ?_
    simp only [zA,zBG (show i+1<=9223372036854775807 by omega)]
    exact ih (i+1) (by omega) (by omega) hK
   ·simp only [ht,decide_false,zk]
    unfold scanUp at hK
    rw [if_neg (by simp [ht])] at hK
    exact hK
theorem zN2 (hn:d.size<=1000000) (hc:zCJ cf cm) {K:KF} {a i:Nat} {d':Dt} {h:AH} (R:SR b ty es k.fresh d h d') (ha:a<d.size) (hi:1<=i):∀ (j:Nat),j<d.size->
  (P151_17 true K (sl b d.size c) (.int .i64 (a:Int)) cf (.int .i64 (i:Int)) (.int .i64 ((scanDown (fun x=>!zAW cm x d'[a]!) d' i j:Nat):Int)) h)->
  zYD true K (sl b d.size c) (.int .i64 (a:Int)) cf (.int .i64 (i:Int)) (.int .i64 (j:Int)) h:=by
 have hsz:=R.sz
 intro j
 induction j with
 | zero=>
  intro hj hK
  refine zIk ?_
  simp only [zA,zA7,show decide ((i:Int)<=((0:Nat):Int))=false from decide_eq_false (by omega),zM,zP,ft,cond_false,zL,zJ,zk]
  exact hK
 | succ j ih=>
  intro hj hK
  refine zIk ?_
  by_cases hij:i<=j+1
  rotate_left
  ·simp only [zA,zA7,show decide ((i:Int)<=((j+1:Nat):Int))=false from decide_eq_false (by omega),zM,zP,ft,cond_false,zL,zJ,zk]
   unfold scanDown at hK
   rw [if_neg (by simp;omega)] at hK
   exact hK
  ·simp only [zA,zA7,show decide ((i:Int)<=((j+1:Nat):Int))=true from decide_eq_true (by omega),zM,zP,beq_self_eq_true,cond_true,zAK ha,zAK hj,R.ld (i:=a) (by omega),R.ld (i:=j+1) (by omega),hc _ _ _ R.ok,zN,zY,zv,zJ]
   by_cases ht:cm d'[j+1]! d'[a]! < 0
   ·simp only [ht,decide_true,Bool.not_true,zk]
    unfold scanDown at hK
    rw [if_neg (by simp [ht])] at hK
    exact hK
   ·simp only [ht,decide_false,Bool.not_false,zu]
    unfold scanDown at hK
    rw [if_pos (by simp [ht,hij] <;> omega)] at hK
    refine zQB ?_
    simp only [zA,zBg (show 1<=j+1 by omega) (show j+1<=9223372036854775807 by omega),Nat.add_sub_cancel]
    exact ih (by omega) hK
theorem call150 (hg:k.get b=some (.row (zBd d) ty es false)) (hbl:b<k.next) (hok:k.ok) {n:Nat} (hs:d.size=n) (hn:d.size<=1000000) (hc:zCJ cf cm) {a e q:Nat} (h2:a+2<=e) (he:e<=d.size) (hq:a<=q/\q<e) :
  Ev true ((zW E).call 150 [sl b n c,.int .i64 (a:Int),.int .i64 (e:Int),.int .i64 (q:Int),cf] k) fun x=>∃ d',(x.1=.int .i64 (((partitionEqual (zAW cm) d a e q).1:Nat):Int)/\d'=(partitionEqual (zAW cm) d a e q).2)/\SR b ty es k d x.2 d':=by
 subst hs
 refine zDu (Q:=fun v d'=>v=.int .i64 (((partitionEqual (zAW cm) d a e q).1:Nat):Int)/\d'=(partitionEqual (zAW cm) d a e q).2) hg hbl hok zfQ zat (zfP _ _) (by kernel_rfl) (F150_ev (Rp:=RS b ty es k d (fun v d'=>v=.int .i64 (((partitionEqual (zAW cm) d a e q).1:Nat):Int)/\d'=(partitionEqual (zAW cm) d a e q).2)) (zYM ?_))
 try simp only [zA]
 refine zYL ?_
 have R0:SR b ty es k.fresh d k.fresh d:=SR.fresh hg hbl
 obtain ⟨m1,m2,e1,e2,R1⟩:=R0.sw (i:=a) (j:=q) (by omega) (by omega)
 simp only [zA,zAK (show a<d.size by omega),zAK (show q<d.size by omega),R0.ld (i:=a) (by omega),R0.ld (i:=q) (by omega),e1,e2,zL]
 refine zYK ?_
 simp only [zA,zBG (show a+1<=9223372036854775807 by omega),zBg (show 1<=e by omega) (show e<=9223372036854775807 by omega)]
 have loop:∀ (m i j:Nat) (d':Dt) (h:AH),j+1<=i+m->a<i->i<=j+2->j<e->SR b ty es k.fresh d h d'->partEqLoop (zAW cm) a i j d'=partitionEqual (zAW cm) d a e q->
   P150_3 true (KR E [.tmp 10] (RS b ty es k d (fun v d'=>v=.int .i64 (((partitionEqual (zAW cm) d a e q).1:Nat):Int)/\d'=(partitionEqual (zAW cm) d a e q).2))) (sl b d.size c) (.int .i64 (a:Int)) cf (.int .i64 (i:Int)) (.int .i64 (j:Int)) h:=by
  intro m
  induction m with
  | zero=>
   intro i j d' h hm hai hij hj R hF
   refine up150 hn hc R (by omega) (by omega) (j+1) i (by omega) (by omega) (zS4 hn hc R (by omega) ?_ j (by omega) (zLR ?_))
   ·have:=scanUp_ge (fun x=>!zAW cm d'[a]! x) d' j i;omega
   have g1:=scanUp_ge (fun x=>!zAW cm d'[a]! x) d' j i
   have g2:=scanDown_le (fun x=>zAW cm d'[a]! x) d' (scanUp (fun x=>!zAW cm d'[a]! x) d' j i) j
   rw [partEqLoop_eq] at hF
   generalize scanUp (fun x=>!zAW cm d'[a]! x) d' j i=i2 at *
   generalize scanDown (fun x=>zAW cm d'[a]! x) d' i2 j=j2 at *
   rw [if_pos (by omega)] at hF
   simp only [zA,zAH,show decide ((j2:Int)<(i2:Int))=true from decide_eq_true (by omega),zu]
   refine zIm ?_
   try simp only [zA]
   rw [zAJ]
   exact ⟨zT ▸ trivial,d',⟨by rw [← hF],by rw [← hF]⟩,R⟩
  | succ m ih=>
   intro i j d' h hm hai hij hj R hF
   have hsz:=R.sz
   have g1:=scanUp_ge (fun x=>!zAW cm d'[a]! x) d' j i
   refine up150 hn hc R (by omega) (by omega) (j+1) i (by omega) (by omega) (zS4 hn hc R (by omega) (by omega) j (by omega) (zLR ?_))
   have g2:=scanDown_le (fun x=>zAW cm d'[a]! x) d' (scanUp (fun x=>!zAW cm d'[a]! x) d' j i) j
   rw [partEqLoop_eq] at hF
   generalize scanUp (fun x=>!zAW cm d'[a]! x) d' j i=i2 at *
   generalize scanDown (fun x=>zAW cm d'[a]! x) d' i2 j=j2 at *
   simp only [zA,zAH,zAA]
   refine ⟨fun hgt=>zIm ?_,fun hle=>zYH ?_⟩
   ·try simp only [zA]
    rw [if_pos (by omega)] at hF
    rw [zAJ]
    exact ⟨zT ▸ trivial,d',⟨by rw [← hF],by rw [← hF]⟩,R⟩
   ·rw [if_neg (by omega)] at hF
    obtain ⟨m3,m4,e3,e4,R2⟩:=R.sw (i:=i2) (j:=j2) (by omega) (by omega)
    simp only [zA,zAK (show i2<d.size by omega),zAK (show j2<d.size by omega),R.ld (i:=i2) (by omega),R.ld (i:=j2) (by omega),e3,e4,zL]
    refine zYG ?_
    simp only [zA,zBG (show i2+1<=9223372036854775807 by omega)]
    refine zQG ?_
    simp only [zA,zBg (show 1<=j2 by omega) (show j2<=9223372036854775807 by omega)]
    exact ih (i2+1) (j2-1) _ m4 (by omega) (by omega) (by omega) (by omega) R2 hF
 exact loop e (a+1) (e-1) _ m2 (by omega) (by omega) (by omega) (by omega) R1 rfl
theorem call151 (hg:k.get b=some (.row (zBd d) ty es false)) (hbl:b<k.next) (hok:k.ok) {n:Nat} (hs:d.size=n) (hn:d.size<=1000000) (hc:zCJ cf cm) {a e q:Nat} (h2:a+2<=e) (he:e<=d.size) (hq:a<=q/\q<e) :
  Ev true ((zW E).call 151 [sl b n c,.int .i64 (a:Int),.int .i64 (e:Int),.int .i64 (q:Int),cf] k) fun x=>∃ d',((∃ w:Bool,x.1=.tuple #[.int .i64 (((partition (zAW cm) d a e q).1:Nat):Int),.bool w])/\d'=(partition (zAW cm) d a e q).2.2)/\SR b ty es k d x.2 d':=by
 subst hs
 refine zDu (Q:=fun v d'=>(∃ w:Bool,v=.tuple #[.int .i64 (((partition (zAW cm) d a e q).1:Nat):Int),.bool w])/\d'=(partition (zAW cm) d a e q).2.2) hg hbl hok zfO zas (zfN _ _) (by kernel_rfl) (F151_ev (Rp:=RS b ty es k d (fun v d'=>(∃ w:Bool,v=.tuple #[.int .i64 (((partition (zAW cm) d a e q).1:Nat):Int),.bool w])/\d'=(partition (zAW cm) d a e q).2.2)) (zYF ?_))
 rw [partition_fst,partition_arr]
 generalize hF0:partLoop (zAW cm) a (a+1) (e-1) (swp d a q)=F
 try simp only [zA]
 refine zYC ?_
 have R0:SR b ty es k.fresh d k.fresh d:=SR.fresh hg hbl
 obtain ⟨m1,m2,e1,e2,R1⟩:=R0.sw (i:=a) (j:=q) (by omega) (by omega)
 simp only [zA,zAK (show a<d.size by omega),zAK (show q<d.size by omega),R0.ld (i:=a) (by omega),R0.ld (i:=q) (by omega),e1,e2,zL]
 refine zYB ?_
 simp only [zA,zBG (show a+1<=9223372036854775807 by omega),zBg (show 1<=e by omega) (show e<=9223372036854775807 by omega)]
 have loop:∀ (m i j:Nat) (d':Dt) (h:AH),j+1<=i+m->a<i->i<=j+2->j<e->SR b ty es k.fresh d h d'->partLoop (zAW cm) a i j d'=F->
   zYE true (KR E [.tmp 10,.tmp 11] (RS b ty es k d (fun v d'=>(∃ w:Bool,v=.tuple #[.int .i64 ((F.1:Nat):Int),.bool w])/\d'=swp F.2 F.1 a))) (sl b d.size c) (.int .i64 (a:Int)) cf (.int .i64 (i:Int)) (.int .i64 (j:Int)) h:=by
  intro m
  induction m with
  | zero=>
   intro i j d' h hm hai hij hj R hF
   have hsz:=R.sz
   have g1:=scanUp_ge (fun x=>zAW cm x d'[a]!) d' j i
   refine up151b hn hc R (by omega) (by omega) (j+1) i (by omega) (by omega) (zN2 hn hc R (by omega) (by omega) j (by omega) (zIj ?_))
   have g2:=scanDown_le (fun x=>!zAW cm x d'[a]!) d' (scanUp (fun x=>zAW cm x d'[a]!) d' j i) j
   rw [partLoop_eq] at hF
   generalize scanUp (fun x=>zAW cm x d'[a]!) d' j i=i2 at *
   generalize scanDown (fun x=>!zAW cm x d'[a]!) d' i2 j=j2 at *
   rw [if_pos (by omega)] at hF
   subst hF
   simp only [zA,zAH,show decide ((j2:Int)<(i2:Int))=true from decide_eq_true (by omega),zu]
   refine zIi ?_
   obtain ⟨m3,m4,e3,e4,R2⟩:=R.sw (i:=j2) (j:=a) (by omega) (by omega)
   simp only [zA,zAK (show a<d.size by omega),zAK (show j2<d.size by omega),R.ld (i:=a) (by omega),R.ld (i:=j2) (by omega),e3,e4,zL]
   refine zIh ?_
   try simp only [zA]
   rw [zPe]
   exact ⟨zT ▸ trivial,_,⟨⟨false,rfl⟩,rfl⟩,R2⟩
  | succ m ih=>
   intro i j d' h hm hai hij hj R hF
   have hsz:=R.sz
   have g1:=scanUp_ge (fun x=>zAW cm x d'[a]!) d' j i
   refine up151b hn hc R (by omega) (by omega) (j+1) i (by omega) (by omega) (zN2 hn hc R (by omega) (by omega) j (by omega) (zIj ?_))
   have g2:=scanDown_le (fun x=>!zAW cm x d'[a]!) d' (scanUp (fun x=>zAW cm x d'[a]!) d' j i) j
   rw [partLoop_eq] at hF
   generalize scanUp (fun x=>zAW cm x d'[a]!) d' j i=i2 at *
   generalize scanDown (fun x=>!zAW cm x d'[a]!) d' i2 j=j2 at *
   simp only [zA,zAH,zAA]
   refine ⟨fun hgt=>zIi ?_,fun hle=>zQA ?_⟩
   ·rw [if_pos (by omega)] at hF
    subst hF
    obtain ⟨m3,m4,e3,e4,R2⟩:=R.sw (i:=j2) (j:=a) (by omega) (by omega)
    simp only [zA,zAK (show a<d.size by omega),zAK (show j2<d.size by omega),R.ld (i:=a) (by omega),R.ld (i:=j2) (by omega),e3,e4,zL]
    refine zIh ?_
    try simp only [zA]
    rw [zPe]
    exact ⟨zT ▸ trivial,_,⟨⟨false,rfl⟩,rfl⟩,R2⟩
   ·rw [if_neg (by omega)] at hF
    obtain ⟨m3,m4,e3,e4,R2⟩:=R.sw (i:=i2) (j:=j2) (by omega) (by omega)
    simp only [zA,zAK (show i2<d.size by omega),zAK (show j2<d.size by omega),R.ld (i:=i2) (by omega),R.ld (i:=j2) (by omega),e3,e4,zL]
    refine zP9 ?_
    simp only [zA,zBG (show i2+1<=9223372036854775807 by omega)]
    refine zP8 ?_
    simp only [zA,zBg (show 1<=j2 by omega) (show j2<=9223372036854775807 by omega)]
    exact ih (i2+1) (j2-1) _ m4 (by omega) (by omega) (by omega) (by omega) R2 hF
 have hsz:=R1.sz
 generalize swp d a q=d' at *
 have g1:=scanUp_ge (fun x=>zAW cm x d'[a]!) d' (e-1) (a+1)
 refine up151 hn hc R1 (by omega) (by omega) e (a+1) (by omega) (by omega) (down151 hn hc R1 (by omega) (by omega) (e-1) (by omega) (zX8 ?_))
 have g2:=scanDown_le (fun x=>!zAW cm x d'[a]!) d' (scanUp (fun x=>zAW cm x d'[a]!) d' (e-1) (a+1)) (e-1)
 rw [partLoop_eq] at hF0
 generalize scanUp (fun x=>zAW cm x d'[a]!) d' (e-1) (a+1)=i2 at *
 generalize scanDown (fun x=>!zAW cm x d'[a]!) d' i2 (e-1)=j2 at *
 simp only [zA,zAH,zAA]
 refine ⟨fun hgt=>zX7 ?_,fun hle=>zQF ?_⟩
 ·rw [if_pos (by omega)] at hF0
  subst hF0
  obtain ⟨m3,m4,e3,e4,R2⟩:=R1.sw (i:=j2) (j:=a) (by omega) (by omega)
  simp only [zA,zAK (show a<d.size by omega),zAK (show j2<d.size by omega),R1.ld (i:=a) (by omega),R1.ld (i:=j2) (by omega),e3,e4,zL]
  refine zX6 ?_
  try simp only [zA]
  rw [zPe]
  exact ⟨zT ▸ trivial,_,⟨⟨true,rfl⟩,rfl⟩,R2⟩
 ·rw [if_neg (by omega)] at hF0
  obtain ⟨m3,m4,e3,e4,R2⟩:=R1.sw (i:=i2) (j:=j2) (by omega) (by omega)
  simp only [zA,zAK (show i2<d.size by omega),zAK (show j2<d.size by omega),R1.ld (i:=i2) (by omega),R1.ld (i:=j2) (by omega),e3,e4,zL]
  refine zQE ?_
  simp only [zA,zBG (show i2+1<=9223372036854775807 by omega)]
  refine zQD ?_
  simp only [zA,zBg (show 1<=j2 by omega) (show j2<=9223372036854775807 by omega)]
  exact loop e (i2+1) (j2-1) _ m4 (by omega) (by omega) (by omega) (by omega) R2 hF0
end
section
variable {b ty es c:Nat} {k:AH} {d:Dt} {cf:Value} {cm:Int×Int->Int×Int->Int}
theorem scan149 (hn:d.size<=1000000) (hc:zCJ cf cm) {K:KF} {a e:Nat} {v10:Value} {d':Dt} {h:AH} (R:SR b ty es k.fresh d h d') (he:e<=d.size):∀ (m i:Nat),e<=i+m->1<=i->i<=e->
  (P149_6 true K (sl b d.size c) (.int .i64 (a:Int)) (.int .i64 (e:Int)) cf (.int .i64 ((scanSorted (zAW cm) d' e i:Nat):Int)) v10 h)->
  P149_4 true K (sl b d.size c) (.int .i64 (a:Int)) (.int .i64 (e:Int)) cf (.int .i64 (i:Int)) v10 h:=by
 have hsz:=R.sz
 intro m
 induction m with
 | zero=>
  intro i hm h1 hi hK
  refine zLU ?_
  simp only [zA,zY,show decide ((i:Int)<(e:Int))=false from decide_eq_false (by omega),zM,zP,ft,cond_false,zL,zJ,zk]
  unfold scanSorted at hK
  rw [if_neg (by simp;omega)] at hK
  exact hK
 | succ m ih=>
  intro i hm h1 hi hK
  refine zLU ?_
  by_cases hie:i<e
  rotate_left
  ·simp only [zA,zY,show decide ((i:Int)<(e:Int))=false from decide_eq_false (by omega),zM,zP,ft,cond_false,zL,zJ,zk]
   unfold scanSorted at hK
   rw [if_neg (by simp;omega)] at hK
   exact hK
  ·simp only [zA,zY,show decide ((i:Int)<(e:Int))=true from decide_eq_true (by omega),zM,zP,beq_self_eq_true,cond_true,zAK (show i<d.size by omega),R.ld (i:=i) (by omega),zBg h1 (show i<=9223372036854775807 by omega),zAK (show i-1<d.size by omega),R.ld (i:=i-1) (by omega),hc _ _ _ R.ok,zN,zv,zJ]
   by_cases ht:cm d'[i]! d'[i-1]! < 0
   ·simp only [ht,decide_true,Bool.not_true,zk]
    unfold scanSorted at hK
    rw [if_neg (by simp [ht])] at hK
    exact hK
   ·simp only [ht,decide_false,Bool.not_false,zu]
    unfold scanSorted at hK
    rw [if_pos (by simp [ht,hie] <;> omega)] at hK
    refine zYW ?_
    simp only [zA,zBG (show i+1<=9223372036854775807 by omega)]
    exact ih (i+1) (by omega) (by omega) (by omega) hK
theorem down149 (hn:d.size<=1000000) (hc:zCJ cf cm) {K:KF} {v1 v2 v9 v10:Value}:∀ (j:Nat) (d':Dt) (h:AH),j<d.size->SR b ty es k.fresh d h d'->
  (∀ h2 d2,SR b ty es k.fresh d h2 d2->d2=shiftDown (zAW cm) j d'->zYa true K (sl b d.size c) v1 v2 cf v9 v10 h2)->
  P149_13 true K (sl b d.size c) v1 v2 cf v9 v10 (.int .i64 (j:Int)) h:=by
 intro j
 induction j with
 | zero=>
  intro d' h hj R hK
  refine zIo ?_
  simp only [zA,zAP,show decide ((1:Int)<=((0:Nat):Int))=false from rfl,zk]
  exact hK h d' R rfl
 | succ j ih=>
  intro d' h hj R hK
  have hsz:=R.sz
  refine zIo ?_
  simp only [zA,zAP,show decide ((1:Int)<=((j+1:Nat):Int))=true from decide_eq_true (by omega),zu]
  refine zQQ ?_
  simp only [zA,zAK hj,R.ld (i:=j+1) (by omega),zBg (show 1<=j+1 by omega) (show j+1<=9223372036854775807 by omega),Nat.add_sub_cancel,zAK (show j<d.size by omega),R.ld (i:=j) (by omega),hc _ _ _ R.ok,zN,zY,zv]
  by_cases ht:cm d'[j+1]! d'[j]! < 0
  ·simp only [ht,decide_true,Bool.not_true,zk]
   refine zQP ?_
   obtain ⟨m1,m2,e1,e2,R2⟩:=R.sw (i:=j+1) (j:=j) (by omega) (by omega)
   simp only [zA,zAK hj,R.ld (i:=j+1) (by omega),zBg (show 1<=j+1 by omega) (show j+1<=9223372036854775807 by omega),Nat.add_sub_cancel,zAK (show j<d.size by omega),R.ld (i:=j) (by omega),e1,e2,zL]
   refine zQO ?_
   simp only [zA,zBg (show 1<=j+1 by omega) (show j+1<=9223372036854775807 by omega),Nat.add_sub_cancel]
   exact ih _ _ (by omega) R2 fun h2 d2 R3 e=>hK h2 d2 R3 (by
    rw [e]
    conv=>rhs;simp only [shiftDown]
    rw [if_neg (by simp [ht])])
  ·simp only [ht,decide_false,Bool.not_false,zu]
   exact hK h d' R (by simp only [shiftDown];rw [if_pos (by simp [ht])])
theorem up149 (hn:d.size<=1000000) (hc:zCJ cf cm) {K:KF} {e:Nat} {v1 v9 v10:Value} (he:e<=d.size):∀ (m j:Nat) (d':Dt) (h:AH),e<=j+m->1<=j->j<=e+1->SR b ty es k.fresh d h d'->
  (∀ h2 d2,SR b ty es k.fresh d h2 d2->d2=shiftUp (zAW cm) e j d'->zYY true K (sl b d.size c) v1 (.int .i64 (e:Int)) cf v9 v10 h2)->
  P149_19 true K (sl b d.size c) v1 (.int .i64 (e:Int)) cf v9 v10 (.int .i64 (j:Int)) h:=by
 intro m
 induction m with
 | zero=>
  intro j d' h hm h1 hj R hK
  refine zIn ?_
  simp only [zA,zY,show decide ((j:Int)<(e:Int))=false from decide_eq_false (by omega),zk]
  exact hK h d' R (by unfold shiftUp;rw [if_neg (by omega)])
 | succ m ih=>
  intro j d' h hm h1 hj R hK
  have hsz:=R.sz
  refine zIn ?_
  simp only [zA,zY,zAA]
  refine ⟨fun hlt=>zQL ?_,fun hge=>hK h d' R (by unfold shiftUp;rw [if_neg (by omega)])⟩
  simp only [zA,zAK (show j<d.size by omega),R.ld (i:=j) (by omega),zBg h1 (show j<=9223372036854775807 by omega),zAK (show j-1<d.size by omega),R.ld (i:=j-1) (by omega),hc _ _ _ R.ok,zN,zY,zv]
  by_cases ht:cm d'[j]! d'[j-1]! < 0
  ·simp only [ht,decide_true,Bool.not_true,zk]
   refine zQK ?_
   obtain ⟨m1,m2,e1,e2,R2⟩:=R.sw (i:=j) (j:=j-1) (by omega) (by omega)
   simp only [zA,zAK (show j<d.size by omega),R.ld (i:=j) (by omega),zBg h1 (show j<=9223372036854775807 by omega),zAK (show j-1<d.size by omega),R.ld (i:=j-1) (by omega),e1,e2,zL]
   refine zQJ ?_
   simp only [zA,zBG (show j+1<=9223372036854775807 by omega)]
   exact ih (j+1) _ _ (by omega) (by omega) (by omega) R2 fun h2 d2 R3 e3=>hK h2 d2 R3 (by
    rw [e3]
    conv=>rhs;unfold shiftUp
    rw [if_pos (by omega),if_neg (by simp [ht])])
  ·simp only [ht,decide_false,Bool.not_false,zu]
   exact hK h d' R (by unfold shiftUp;rw [if_pos (by omega),if_pos (by simp [ht])])
theorem zI4 (lt:Int×Int->Int×Int->Bool) (d:Dt) (e:Nat):∀ (m i:Nat),e<=i+m->i<=e->i<=scanSorted lt d e i/\scanSorted lt d e i<=e:=by
 intro m
 induction m with
 | zero=>
  intro i hm hi
  unfold scanSorted
  rw [if_neg (by simp;omega)]
  omega
 | succ m ih=>
  intro i hm hi
  unfold scanSorted
  split
  ·rename_i h
   simp only [Bool.and_eq_true,decide_eq_true_eq] at h
   have:=ih (i+1) (by omega) (by omega)
   omega
  ·omega
theorem call149 (hg:k.get b=some (.row (zBd d) ty es false)) (hbl:b<k.next) (hok:k.ok) {n:Nat} (hs:d.size=n) (hn:d.size<=1000000) (hc:zCJ cf cm) {a e:Nat} (h2:a+2<=e) (he:e<=d.size) :
  Ev true ((zW E).call 149 [sl b n c,.int .i64 (a:Int),.int .i64 (e:Int),cf] k) fun x=>∃ d',(x.1=.bool (partialInsertionSort (zAW cm) d a e).2/\d'=(partialInsertionSort (zAW cm) d a e).1)/\SR b ty es k d x.2 d':=by
 subst hs
 refine zDu (Q:=fun v d'=>v=.bool (partialInsertionSort (zAW cm) d a e).2/\d'=(partialInsertionSort (zAW cm) d a e).1) hg hbl hok zfS zav (zfR _ _) (by kernel_rfl) (F149_ev (Rp:=RS b ty es k d (fun v d'=>v=.bool (partialInsertionSort (zAW cm) d a e).2/\d'=(partialInsertionSort (zAW cm) d a e).1)) (zYb ?_))
 generalize hF0:partialInsertionSort (zAW cm) d a e=F
 try simp only [zA]
 refine zYZ ?_
 simp only [zA,zBG (show a+1<=9223372036854775807 by omega)]
 refine zYX ?_
 try simp only [zA]
 have loop:∀ (s j i:Nat) (d':Dt) (h:AH),j+s=5->a+1<=i->i<=e->SR b ty es k.fresh d h d'->partialIns (zAW cm) a e s i d'=F->
   P149_3 true (KR E [.tmp 8] (RS b ty es k d (fun v d'=>v=.bool F.2/\d'=F.1))) (sl b d.size c) (.int .i64 (a:Int)) (.int .i64 (e:Int)) cf (.int .i64 (i:Int)) (.int .i64 (j:Int)) h:=by
  intro s
  induction s with
  | zero=>
   intro j i d' h hj hi1 hi2 R hF
   simp only [partialIns] at hF
   subst hF
   refine zLV ?_
   simp only [zA,zY,show decide ((j:Int)<5)=false from decide_eq_false (by omega),zk]
   refine zQH ?_
   try simp only [zA]
   rw [zAJ]
   exact ⟨zT ▸ trivial,d',⟨rfl,rfl⟩,R⟩
  | succ s ih=>
   intro j i d' h hj hi1 hi2 R hF
   simp only [partialIns] at hF
   refine zLV ?_
   simp only [zA,zY,show decide ((j:Int)<5)=true from decide_eq_true (by omega),zu]
   obtain ⟨g1,g2⟩:=zI4 (zAW cm) d' e e i (by omega) hi2
   refine scan149 hn hc R he e i (by omega) (by omega) hi2 (zYV ?_)
   generalize scanSorted (zAW cm) d' e i=i2 at *
   simp only [zA,zAZ,zAA]
   refine ⟨fun h1=>zYU ?_,fun h1=>zYT ?_⟩
   ·rw [if_pos (by omega)] at hF
    subst hF
    try simp only [zA]
    rw [zAJ]
    exact ⟨zT ▸ trivial,d',⟨rfl,rfl⟩,R⟩
   rw [if_neg (by omega)] at hF
   simp only [zA,subN (show a<=e by omega) (show e<=9223372036854775807 by omega),zY,zAA]
   refine ⟨fun h3=>zYS ?_,fun h3=>zQT ?_⟩
   ·rw [if_pos (by omega)] at hF
    subst hF
    try simp only [zA]
    rw [zAJ]
    exact ⟨zT ▸ trivial,d',⟨rfl,rfl⟩,R⟩
   rw [if_neg (by omega)] at hF
   have hsz:=R.sz
   obtain ⟨m1,m2,e1,e2,R2⟩:=R.sw (i:=i2) (j:=i2-1) (by omega) (by omega)
   simp only [zA,zAK (show i2<d.size by omega),R.ld (i:=i2) (by omega),zBg (show 1<=i2 by omega) (show i2<=9223372036854775807 by omega),zAK (show i2-1<d.size by omega),R.ld (i:=i2-1) (by omega),e1,e2,zL]
   generalize swp d' i2 (i2-1)=d2 at *
   have tail:∀ (d4:Dt) (h4:AH),SR b ty es k.fresh d h4 d4->partialIns (zAW cm) a e s i2 d4=F->zYY true (KR E [.tmp 8] (RS b ty es k d (fun v d'=>v=.bool F.2/\d'=F.1))) (sl b d.size c) (.int .i64 (a:Int)) (.int .i64 (e:Int)) cf (.int .i64 (i2:Int)) (.int .i64 (j:Int)) h4:=by
    intro d4 h4 R4 hF4
    refine zQI ?_
    simp only [zA,zBG (show j+1<=9223372036854775807 by omega)]
    exact ih (j+1) i2 d4 h4 (by omega) (by omega) (by omega) R4 hF4
   have mid:∀ (d3:Dt) (h3:AH),SR b ty es k.fresh d h3 d3->partialIns (zAW cm) a e s i2 (if e-i2 ≥ 2 then shiftUp (zAW cm) e (i2+1) d3 else d3)=F->zYa true (KR E [.tmp 8] (RS b ty es k d (fun v d'=>v=.bool F.2/\d'=F.1))) (sl b d.size c) (.int .i64 (a:Int)) (.int .i64 (e:Int)) cf (.int .i64 (i2:Int)) (.int .i64 (j:Int)) h3:=by
    intro d3 h3 R3 hF3
    refine zQN ?_
    simp only [zA,subN (show i2<=e by omega) (show e<=9223372036854775807 by omega),zAP,zAA]
    refine ⟨fun h5=>zQM ?_,fun h5=>tail d3 h3 R3 (by rw [if_neg (by omega)] at hF3;exact hF3)⟩
    rw [if_pos (by omega)] at hF3
    simp only [zA,zBG (show i2+1<=9223372036854775807 by omega)]
    exact up149 hn hc he e (i2+1) d3 h3 (by omega) (by omega) (by omega) R3 fun h5 d5 R5 e5=>tail d5 h5 R5 (by rw [e5];exact hF3)
   refine zQS ?_
   simp only [zA,subN (show a<=i2 by omega) (show i2<=9223372036854775807 by omega),zAP,zAA]
   refine ⟨fun h5=>zQR ?_,fun h5=>mid d2 m2 R2 (by rw [if_neg (show ¬ i2-a ≥ 2 by omega)] at hF;exact hF)⟩
   rw [if_pos (show i2-a ≥ 2 by omega)] at hF
   simp only [zA,zBg (show 1<=i2 by omega) (show i2<=9223372036854775807 by omega)]
   exact down149 hn hc (i2-1) d2 m2 (by omega) R2 fun h5 d5 R5 e5=>mid d5 h5 R5 (by rw [e5];exact hF)
 exact loop 5 0 (a+1) d _ rfl (Nat.le_refl _) (by omega) (SR.fresh hg hbl) hF0
end
theorem quo92 {x:Nat} (h:x<=9223372036854775807):zi E (zl [(121,.int .i64 (x:Int))]) (zn B92 [1,1,0,0,0,1,1,1,1,1,1,1,1,1,1,1,0] 1)=some (.int .i64 ((x / 8:Nat):Int)):=zGv (u:=121) (cc:=8) (by kernel_rfl) (by kernel_rfl) (by omega) h
section
variable {b ty es c:Nat} {k:AH} {d:Dt} {cf:Value} {cm:Int×Int->Int×Int->Int}
abbrev QP (cm:Int×Int->Int×Int->Int) (a e:Nat) (d:Dt):Value->Dt->Prop:=fun v d'=>v=.tuple #[]/\PermIn a e d d'/\SortedIn (zAW cm) a e d'
def PD (b ty es c:Nat) (cf:Value) (cm:Int×Int->Int×Int->Int) (N:Nat):Prop:=∀ (k:AH) (d:Dt) (n a e lim:Nat),e-a<=N->k.get b=some (.row (zBd d) ty es false)->b<k.next->k.ok->d.size=n->d.size<=60000->a<=e->e<=d.size->lim<=1000->Below (zAW cm) a e d->
 Ev true ((zW E).call 92 [sl b n c,.int .i64 (a:Int),.int .i64 (e:Int),.int .i64 (lim:Int),cf] k) fun x=>∃ d',QP cm a e d x.1 d'/\SR b ty es k d x.2 d'
theorem loop92 {N a0 e0:Nat} (hd:d.size<=60000) (hc:zCJ cf cm) (hS:SWO (zAW cm)) (ih:PD b ty es c cf cm N) :
  ∀ (M a e lim:Nat) (wb wp:Bool) (d':Dt) (h:AH),e-a<=M->e-a<=N+1->a<=e->e<=d.size->lim<=1000->Below (zAW cm) a e d'->SR b ty es k.fresh d h d'->
   (∀ R,PermIn a e d' R->SortedIn (zAW cm) a e R->PermIn a0 e0 d R/\SortedIn (zAW cm) a0 e0 R)->
   P92_2 true (KR E [] (RS b ty es k d (QP cm a0 e0 d))) (sl b d.size c) (.int .i64 (a:Int)) (.int .i64 (e:Int)) (.int .i64 (lim:Int)) cf (.bool wb) (.bool wp) h:=by
 have hd':d.size<=1000000:=by omega
 intro M
 induction M using Nat.strongRecOn with
 | ind M ihM=>
 intro a e lim wb wp d' h hM hN hae he hlim hB R H
 have hsz:=R.sz
 refine zOK ?_
 simp only [zA,subN hae (show e<=9223372036854775807 by omega)]
 refine zOJ ?_
 simp only [zA,zA7,zAA]
 refine ⟨fun h12=>zOI ?_,fun h12=>zcO ?_⟩
 ·simp only [zA,zS]
  refine (zTQ (c:=c) (a:=a) (e:=e) R.g R.l R.ok hsz (by omega) hc hae (by omega)).mono ?_
  rintro ⟨v,h2⟩ ⟨d2,⟨_,e2⟩,R2⟩
  obtain ⟨q1,q2⟩:=insertionSort_holds hS d' a e hae (by omega)
  obtain ⟨p1,p2⟩:=H d2 (by rw [e2];exact q1) (by rw [e2];exact q2)
  rw [zMW]
  exact ⟨zT ▸ trivial,d2,⟨rfl,p1,p2⟩,R.trans R2⟩
 have h13:a+13<=e:=by omega
 simp only [zA,zAZ,zAA]
 refine ⟨fun hl0=>zcN ?_,fun hl0=>zcM ?_⟩
 ·simp only [zA,zS]
  refine (call145 (c:=c) (a:=a) (e:=e) R.g R.l R.ok hsz (by omega) hc (by omega) (by omega)).mono ?_
  rintro ⟨v,h2⟩ ⟨d2,⟨_,e2⟩,R2⟩
  obtain ⟨q1,q2⟩:=heapSort_holds hS d' a e hae (by omega)
  obtain ⟨p1,p2⟩:=H d2 (by rw [e2];exact q1) (by rw [e2];exact q2)
  rw [zMW]
  exact ⟨zT ▸ trivial,d2,⟨rfl,p1,p2⟩,R.trans R2⟩
 have p17:∀ (lim:Nat) (wb wp:Bool) (q:Nat) (d3:Dt) (h3:AH),lim<=1000->a<=q->q<e->PermIn a e d' d3->SR b ty es k.fresh d h3 d3->
   P92_17 true (KR E [] (RS b ty es k d (QP cm a0 e0 d))) (sl b d.size c) (.int .i64 (a:Int)) (.int .i64 (e:Int)) (.int .i64 (lim:Int)) cf (.bool wb) (.bool wp) (.int .i64 ((e-a:Nat):Int)) (.int .i64 (q:Int)) h3:=by
  intro lim wb wp q d3 h3 hlim hq1 hq2 hP R3
  have hsz3:=R3.sz
  have hB3:Below (zAW cm) a e d3:=hB.perm (by omega) hP
  have H3:∀ R,PermIn a e d3 R->SortedIn (zAW cm) a e R->PermIn a0 e0 d R/\SortedIn (zAW cm) a0 e0 R:=fun R r1 r2=>H R (permIn_trans _ _ _ _ _ hP r1) r2
  have p20:P92_20 true (KR E [] (RS b ty es k d (QP cm a0 e0 d))) (sl b d.size c) (.int .i64 (a:Int)) (.int .i64 (e:Int)) (.int .i64 (lim:Int)) cf (.int .i64 ((e-a:Nat):Int)) (.int .i64 (q:Int)) h3:=by
   refine zUB ?_
   simp only [zA,zS]
   refine (call151 (c:=c) (a:=a) (e:=e) (q:=q) R3.g R3.l R3.ok hsz3 (by omega) hc (by omega) (by omega) ⟨hq1,hq2⟩).mono ?_
   rintro ⟨v,h4⟩ ⟨d4,⟨⟨w,hv⟩,e4⟩,R4⟩
   simp only at hv
   subst hv
   obtain ⟨r1,r2,r3,r4,r5,r6,r7⟩:=round_part hS (partition_holds _) (ap:=(partition (zAW cm) d3 a e q).2.1) (d4:=d4) hq1 hq2 (by omega) hB3 (by rw [e4])
   generalize (partition (zAW cm) d3 a e q).1=mid at *
   have R34:=R3.trans R4
   have hsz4:=R34.sz
   simp only [zA,ex0,ex1]
   refine zUA ?_
   try simp only [zA]
   refine zT9 ?_
   simp only [zA,subN r1 (show mid<=9223372036854775807 by omega),subN (show mid<=e by omega) (show e<=9223372036854775807 by omega)]
   refine zT8 ?_
   simp only [zA,quo92 (show e-a<=9223372036854775807 by omega)]
   refine zT7 ?_
   simp only [zA,zY,zAA]
   refine ⟨fun hlr=>zT6 ?_,fun hlr=>zT3 ?_⟩
   ·simp only [zA,zAP]
    refine zT5 ?_
    simp only [zA,zS]
    refine (ih h4 d4 d.size a mid lim (by omega) R34.g R34.l R34.ok hsz4 (by omega) r1 (by omega) hlim r4).mono ?_
    rintro ⟨v,h5⟩ ⟨d5,⟨_,q1,q2⟩,R5⟩
    obtain ⟨s1,s2⟩:=r6 d5 q1 q2
    refine zT4 ?_
    simp only [zA,zBG (show mid+1<=9223372036854775807 by omega)]
    exact ihM (e-(mid+1)) (by omega) (mid+1) e lim _ w d5 h5 (by omega) (by omega) (by omega) he hlim s1 (R34.trans R5) fun R u1 u2=>(s2 R u1 u2).elim fun t1 t2=>H3 R t1 t2
   ·simp only [zA,zAP]
    refine zT2 ?_
    simp only [zA,zBG (show mid+1<=9223372036854775807 by omega),zS]
    refine (ih h4 d4 d.size (mid+1) e lim (by omega) R34.g R34.l R34.ok hsz4 (by omega) (by omega) (by omega) hlim r5).mono ?_
    rintro ⟨v,h5⟩ ⟨d5,⟨_,q1,q2⟩,R5⟩
    obtain ⟨s1,s2⟩:=r7 d5 q1 q2
    refine zT1 ?_
    try simp only [zA]
    exact ihM (mid-a) (by omega) a mid lim _ w d5 h5 (by omega) (by omega) r1 (by omega) hlim s1 (R34.trans R5) fun R u1 u2=>(s2 R u1 u2).elim fun t1 t2=>H3 R t1 t2
  refine zUE ?_
  by_cases ha0:0<a
  rotate_left
  ·simp only [zA,zAH,show decide ((0:Int)<(a:Int))=false from decide_eq_false (by omega),zM,zP,ft,cond_false,zL,zJ,zk]
   exact p20
  ·simp only [zA,zAH,show decide ((0:Int)<(a:Int))=true from decide_eq_true (by omega),zM,zP,beq_self_eq_true,cond_true,zBg ha0 (show a<=9223372036854775807 by omega),zAK (show a-1<d.size by omega),zAK (show q<d.size by omega),R3.ld (i:=a-1) (by omega),R3.ld (i:=q) (by omega),hc _ _ _ R3.ok,zN,zY,zv,zJ]
   by_cases ht:cm d3[a-1]! d3[q]! < 0
   ·simp only [ht,decide_true,Bool.not_true,zk]
    exact p20
   ·simp only [ht,decide_false,Bool.not_false,zu]
    refine zUD ?_
    simp only [zA,zS]
    refine (call150 (c:=c) (a:=a) (e:=e) (q:=q) R3.g R3.l R3.ok hsz3 (by omega) hc (by omega) (by omega) ⟨hq1,hq2⟩).mono ?_
    rintro ⟨v,h4⟩ ⟨d4,⟨hv,e4⟩,R4⟩
    simp only at hv
    subst hv
    obtain ⟨r1,r2,r3,r4,r5⟩:=Go.Sort.round_eq hS (partitionEqual_holds _) (d4:=d4) ha0 hq1 hq2 (by omega) hB3 (by simp [ht]) (mid:=(partitionEqual (zAW cm) d3 a e q).1) (by rw [e4])
    generalize (partitionEqual (zAW cm) d3 a e q).1=mid at *
    have R34:=R3.trans R4
    try simp only [zA]
    refine zUC ?_
    try simp only [zA]
    exact ihM (e-mid) (by omega) mid e lim wb wp d4 h4 (by omega) (by omega) r2 he hlim r4 R34 fun R u1 u2=>(r5 R u1 u2).elim fun t1 t2=>H3 R t1 t2
 have p15:∀ (lim:Nat) (wb wp:Bool) (q:Nat) (hint:Int) (d2:Dt) (h2:AH),lim<=1000->a<=q->q<e->PermIn a e d' d2->SR b ty es k.fresh d h2 d2->
   P92_15 true (KR E [] (RS b ty es k d (QP cm a0 e0 d))) (sl b d.size c) (.int .i64 (a:Int)) (.int .i64 (e:Int)) (.int .i64 (lim:Int)) cf (.bool wb) (.bool wp) (.int .i64 ((e-a:Nat):Int)) (.int .i64 (q:Int)) (.int .i64 hint) h2:=by
  intro lim wb wp q hint d2 h2 hlim hq1 hq2 hP R2
  have hsz2:=R2.sz
  have hB2:Below (zAW cm) a e d2:=hB.perm (by omega) hP
  have go16:P92_16 true (KR E [] (RS b ty es k d (QP cm a0 e0 d))) (sl b d.size c) (.int .i64 (a:Int)) (.int .i64 (e:Int)) (.int .i64 (lim:Int)) cf (.bool wb) (.bool wp) (.int .i64 ((e-a:Nat):Int)) (.int .i64 (q:Int)) h2:=by
   refine zUF ?_
   simp only [zA,zS]
   refine (call149 (c:=c) (a:=a) (e:=e) R2.g R2.l R2.ok hsz2 (by omega) hc (by omega) (by omega)).mono ?_
   rintro ⟨v,h3⟩ ⟨d3,⟨hv,e3⟩,R3⟩
   simp only at hv
   subst hv
   obtain ⟨q1,q2⟩:=partialInsertionSort_holds hS d2 a e (by omega) (by omega) hB2
   have R23:=R2.trans R3
   cases hr:(partialInsertionSort (zAW cm) d2 a e).2 with
   | true=>
    simp only [zu]
    obtain ⟨p1,p2⟩:=H d3 (by rw [e3];exact permIn_trans _ _ _ _ _ hP q1) (by rw [e3];exact q2 hr)
    rw [zMW]
    exact ⟨zT ▸ trivial,d3,⟨rfl,p1,p2⟩,R23⟩
   | false=>
    simp only [zk]
    exact p17 lim wb wp q d3 h3 hlim hq1 hq2 (by rw [e3];exact permIn_trans _ _ _ _ _ hP q1) R23
  have no16:=p17 lim wb wp q d2 h2 hlim hq1 hq2 hP R2
  refine zUG ?_
  cases wb with
  | false=>
   simp only [zA,zM,ft,cond_false,zJ,zk]
   exact no16
  | true=>
   cases wp with
   | false=>
    simp only [zA,zM,ft,beq_self_eq_true,cond_true,cond_false,zJ,zk]
    exact no16
   | true=>
    simp only [zA,zM,beq_self_eq_true,cond_true,zJ,zAZ,zAA]
    exact ⟨fun _=>go16,fun _=>no16⟩
 have p10:∀ (lim:Nat) (wb wp:Bool) (d1:Dt) (h1:AH),lim<=1000->PermIn a e d' d1->SR b ty es k.fresh d h1 d1->
   P92_10 true (KR E [] (RS b ty es k d (QP cm a0 e0 d))) (sl b d.size c) (.int .i64 (a:Int)) (.int .i64 (e:Int)) (.int .i64 (lim:Int)) cf (.bool wb) (.bool wp) (.int .i64 ((e-a:Nat):Int)) h1:=by
  intro lim wb wp d1 h1 hlim hP R1
  have hsz1:=R1.sz
  refine zUL ?_
  obtain ⟨q,hint,hq,hh,c147⟩:=call147 (c:=c) (a:=a) (e:=e) R1.g R1.l R1.ok hsz1 (by omega) hc h13 (by omega)
  simp only [zA,zS,c147,zN,ex0,ex1]
  refine zUK ?_
  simp only [zA,zAZ,zAA]
  refine ⟨fun h2=>zUJ ?_,fun h2=>p15 lim wb wp q hint d1 h1 hlim hq.1 hq.2 hP R1⟩
  simp only [zA,zS]
  refine (call148 (c:=c) (a:=a) (e:=e) R1.g R1.l R1.ok hsz1 (by omega) (by omega) hae (by omega)).mono ?_
  rintro ⟨v,h3⟩ ⟨d2,⟨_,e2⟩,R2⟩
  refine zUI ?_
  simp only [zA,zBg (show 1<=e by omega) (show e<=9223372036854775807 by omega),subN hq.1 (show q<=9223372036854775807 by omega),subN (show q-a<=e-1 by omega) (show e-1<=9223372036854775807 by omega)]
  refine zUH ?_
  try simp only [zA]
  exact p15 lim wb wp (e-1-(q-a)) 1 d2 h3 hlim (by omega) (by omega) (by rw [e2];exact permIn_trans _ _ _ _ _ hP (reverseRange_holds d1 a e hae (by omega))) (R1.trans R2)
 cases wb with
 | true=>
  simp only [zA,zv,Bool.not_true,zk]
  exact p10 lim true wp d' h hlim (permIn_refl _ _ _) R
 | false=>
  simp only [zA,zv,Bool.not_false,zu]
  refine zcL ?_
  simp only [zA,zS]
  refine (call146 (c:=c) (a:=a) (e:=e) R.g R.l R.ok hsz (by omega) h13 (by omega)).mono ?_
  rintro ⟨v,h2⟩ ⟨d2,⟨_,e2⟩,R2⟩
  refine zcK ?_
  simp only [zA,zBg (show 1<=lim by omega) (show lim<=9223372036854775807 by omega)]
  exact p10 (lim-1) false wp d2 h2 (by omega) e2 (R.trans R2)
theorem pd92 (hc:zCJ cf cm) (hS:SWO (zAW cm)):∀ N,PD b ty es c cf cm N:=by
 intro N
 induction N with
 | zero=>
  intro k d n a e lim hN hg hbl hok hs hd hae he hlim hB
  subst hs
  refine zDu (Q:=QP cm a e d) hg hbl hok zaI zOt (zaH _ _) (by kernel_rfl) (F92_ev (Rp:=RS b ty es k d (QP cm a e d)) (zOM ?_))
  try simp only [zA]
  refine zOL ?_
  try simp only [zA]
  refine zOK ?_
  simp only [zA,subN hae (show e<=9223372036854775807 by omega)]
  refine zOJ ?_
  simp only [zA,zA7,show decide (((e-a:Nat):Int)<=12)=true from decide_eq_true (by omega),zu]
  refine zOI ?_
  have R:SR b ty es k.fresh d k.fresh d:=SR.fresh hg hbl
  simp only [zA,zS]
  refine (zTQ (c:=c) (a:=a) (e:=e) R.g R.l R.ok rfl (by omega) hc hae (by omega)).mono ?_
  rintro ⟨v,h2⟩ ⟨d2,⟨_,e2⟩,R2⟩
  obtain ⟨q1,q2⟩:=insertionSort_holds hS d a e hae (by omega)
  rw [zMW]
  exact ⟨zT ▸ trivial,d2,⟨rfl,by rw [e2];exact q1,by rw [e2];exact q2⟩,R.trans R2⟩
 | succ N ih=>
  intro k d n a e lim hN hg hbl hok hs hd hae he hlim hB
  subst hs
  refine zDu (Q:=QP cm a e d) hg hbl hok zaI zOt (zaH _ _) (by kernel_rfl) (F92_ev (Rp:=RS b ty es k d (QP cm a e d)) (zOM ?_))
  try simp only [zA]
  refine zOL ?_
  try simp only [zA]
  exact loop92 hd hc hS ih (e-a) a e lim true true d _ (Nat.le_refl _) hN hae he hlim hB (SR.fresh hg hbl) fun R r1 r2=>⟨r1,r2⟩
end
theorem conv33 (a:Int) (h:AH):zO E (zl [(9,.int .i64 a)]) (zn B33 [1] 3) h=some (.int .u64 (IntKind.u64.wrap a)):=by kernel_rfl
section
variable {b ty es c:Nat} {k:AH} {d:Dt} {cf:Value} {cm:Int×Int->Int×Int->Int}
theorem call33 (hg:k.get b=some (.row (zBd d) ty es false)) (hbl:b<k.next) (hok:k.ok) {n:Nat} (hs:d.size=n) (hn:d.size<=60000) (hc:zCJ cf cm) (hS:SWO (zAW cm)) :
  Ev true ((zW E).call 33 [sl b n c,cf] k) fun x=>∃ d',QP cm 0 n d x.1 d'/\SR b ty es k d x.2 d':=by
 subst hs
 refine zDu (Q:=QP cm 0 d.size d) hg hbl hok F33_get ze5 (F33_sum _ _) (by kernel_rfl) (F33_ev (Rp:=RS b ty es k d (QP cm 0 d.size d)) (zd3 ?_))
 simp only [zA,zSX]
 refine zd2 ?_
 have R:SR b ty es k.fresh d k.fresh d:=SR.fresh hg hbl
 obtain ⟨l,hl,c93⟩:=call93 (zAT k) (x:=d.size) (by omega)
 simp only [zA,conv33,zOy (show d.size<18446744073709551616 by omega),zS,c93,zN]
 refine (pd92 (c:=c) hc hS d.size k.fresh d d.size 0 d.size l (by omega) R.g R.l R.ok rfl hn (Nat.zero_le _) (Nat.le_refl _) (by omega) (.inl rfl)).mono ?_
 rintro ⟨v,h2⟩ ⟨d2,⟨_,p1,p2⟩,R2⟩
 rw [zMW]
 exact ⟨zCC ▸ trivial,d2,⟨rfl,p1,p2⟩,R.trans R2⟩
end
theorem zOD {z:Nat} {vs:List Value}:∀ (els:List (List Value)) (o:Nat),o+els.length*z<=vs.length->(∀ (i:Nat) (e:List Value),els[i]?=some e->e.length=z/\(vs.drop (o+i*z)).take z=e)->(vs.drop o).take (els.length*z)=els.flatten
 | [],o,_,_=>by simp
 | e::es,o,h,H=>by
  have h0:=H 0 e rfl
  rw [Nat.zero_mul,Nat.add_zero] at h0
  have ih:=zOD (z:=z) (vs:=vs) es (o+z) (by rw [List.length_cons,Nat.add_mul] at h;omega) fun i x hx=>by
   have:=H (i+1) x (by simpa using hx)
   rw [show o+(i+1)*z=o+z+i*z by rw [Nat.add_mul];omega] at this
   exact this
  rw [List.flatten_cons,← ih,List.length_cons,show (es.length+1)*z=z+es.length*z by rw [Nat.add_mul];omega,List.take_add,List.drop_drop,h0.2]
theorem elt26:Elt 26 54 2:=zIU (by kernel_rfl) zHs zFZ (by kernel_rfl)
theorem bs26_0 {h:AH}:zf E 26 0 (some []) h=one (.slice (some ⟨h.next,0,none⟩) 0 0,h.new (.row [] 54 0 false)):=by kernel_rfl
theorem bs26_1 {h:AH} {p:Int×Int}:zf E 26 1 (some [(0,.agg ⟨zG p⟩)]) h=one (.slice (some ⟨h.next,0,none⟩) 1 1,h.new (.row (zG p) 54 0 false)):=by kernel_rfl
theorem zPs {t e z:Nat} (H:Elt t e z) {h:AH} {b b2 o n c:Nat} {vs us:List Value} {ty ty2 es2:Nat} {ro2:Bool} (hb:h.get b=some (.row [] ty 0 false)) (hb2:h.get b2=some (.row vs ty2 es2 ro2)) (hn0:n≠0) (hn:n<=1000000)
  (hl:o+n*z<=vs.length) (hu:(vs.drop o).take (n*z)=us) :
  zAD E .append [t,t] (some [.slice (some ⟨b,0,none⟩) 0 0,.slice (some ⟨b2,o,none⟩) n c]) h=one (.slice (some ⟨h.next,0,none⟩) n (UNK+z),h.new (.row us e z false)):=by
 obtain ⟨ti,e1,e2,e3⟩:=H.ti
 show v2 (zAy E [t,t] (.slice (some ⟨b,0,none⟩) 0 0) (.slice (some ⟨b2,o,none⟩) n c) h)=_
 have hlen:us.length=n*z:=by rw [← hu,List.length_take,List.length_drop];omega
 have hn1:Nat.beq n 0=false:=by cases n with|zero=>exact absurd rfl hn0|succ n=>rfl
 have hn2:Nat.ble n 0=false:=by cases n with|zero=>exact absurd rfl hn0|succ n=>rfl
 have hn3:Nat.ble n 1000000=true:=ble_true.2 (by omega)
 simp only [zAy,H.el,H.un,zFF,cond_false,e1,zCE,zBC,hb2,e2,zAq,zAr,zAN,hu,hlen,Nat.beq_refl,if_true,e3,cond_true,zB7,hn1,hb,zCo,show Nat.ble UNK 0=false from rfl,hn2,Nat.zero_mul,List.drop_nil,List.take_nil,List.length_nil,show Nat.beq 0 0=true from rfl,List.nil_append,zAw,hn3,v2,Nat.zero_add]
theorem nil32 {b o n c:Nat}:zi E (zl [(3,.slice (some ⟨b,o,none⟩) n c)]) (zn B32 [1,0,0] 1)=some (.bool false):=by kernel_rfl
theorem zbl (l:List (Int×Int)):(l.map zG).flatten=l.flatMap zG:=by rw [List.flatMap_def]
theorem zTI {k:AH} {v:Value} {l:List (Int×Int)} (hok:k.ok) (ha:Arr k 2 v (l.map zG)) (hl:l≠[]) (hn:l.length<=1000000) :
  Ev true ((zW E).call 32 [v] k) fun x=>∃ b,x.1=sl b l.length (UNK+2)/\k.next<=b/\b<x.2.next/\x.2.get b=some (.row (l.flatMap zG) 54 2 false)/\Fx NoB k x.2:=by
 generalize hels:l.map zG=els at ha
 cases ha with
 | nil a c=>exact absurd (List.map_eq_nil_iff.1 hels) hl
 | @row b o c vs ty es ro _ hb hlt hle hz=>
 have hlen:els.length=l.length:=by rw [← hels,List.length_map]
 have hfl:=zOD els o hle hz
 have hl0:l.length≠0:=fun h=>hl (List.length_eq_zero_iff.1 h)
 refine ze6 (Rp:=fun x m=>∃ b,x=sl b l.length (UNK+2)/\k.next<=b/\b<m.next/\m.get b=some (.row (l.flatMap zG) 54 2 false)/\Fx NoB k m) (zd6 ?_)
 try simp only [zA]
 refine zd5 ?_
 simp only [zA,nil32,zk]
 refine zd4 ?_
 obtain ⟨k1,e1,n1,t1,o1,f1⟩:=nwF k (.row [] 54 0 false)
 have x1:Fx NoB k.fresh k1:=by rw [← e1];exact (Fx.refl (zAT k)).new _
 have happ:=zPs elt26 (c:=c) t1 ((f1 b hlt).trans hb) (n:=els.length) (by omega) (by omega) hle hfl
 obtain ⟨k2,e2,n2,t2⟩:∃ k2,k1.new (.row els.flatten 54 2 false)=k2/\k2.next=k1.next+1/\k2.get k1.next=some (.row els.flatten 54 2 false):=⟨_,rfl,rfl,zI _ _⟩
 have x2:Fx NoB k.fresh k2:=by rw [← e2];exact x1.new _
 simp only [zA,bs26_0,zL,e1,zZ,happ,e2]
 rw [zAJ]
 refine ⟨zT ▸ trivial,.inl rfl,k1.next,?_,by omega,by show k1.next<k2.next;omega,?_,x2.back⟩
 ·rw [hlen]
 ·rw [← zbl,hels];exact zGB t2
theorem arr34a {b:Nat}:zi E (zl [(2,ptr b)]) (zn B34 [1,0] 0)=some (.slice (some ⟨b,0,none⟩) 2 2):=by kernel_rfl
theorem arr34b {b:Nat}:zi E (zl [(3,ptr b)]) (zn B34 [1,0] 1)=some (.slice (some ⟨b,0,none⟩) 2 2):=by kernel_rfl
theorem ia47 {b i:Nat} (h:i<2):zE E 47 (some (.slice (some ⟨b,0,none⟩) 2 2)) (some (.int .i64 (i:Int)))=some (.pointer (some ⟨b,0+i*1,none⟩)):=zPf h
theorem c94 {a b:Int} {h:AH} (hok:h.ok):(zW E).call 94 [.int .i64 a,.int .i64 b] h=some [(.int .i64 (c3 a b),h)]:=zHP hok
theorem call35 {k:AH} {a b:Nat} {x y:Int×Int} {t1 t2:Nat} {r1 r2:Bool} {e1 e2:Nat} (hok:k.ok) (ha:k.get a=some (.row (zG x) t1 e1 r1)) (hb:k.get b=some (.row (zG y) t2 e2 r2)) :
  (zW E).call 35 [.slice (some ⟨a,0,none⟩) 2 2,.slice (some ⟨b,0,none⟩) 2 2] k=some [(.int .i64 (zMr x y),k)]:=by
 have la0:zH E 3 k.fresh (some (.pointer (some ⟨a,0+0*1,none⟩)))=some (.int .i64 x.1):=zF (P:=E) zAS (o:=0) ha
 have la1:zH E 3 k.fresh (some (.pointer (some ⟨a,0+1*1,none⟩)))=some (.int .i64 x.2):=zF (P:=E) zAS (o:=1) ha
 have lb0:zH E 3 k.fresh (some (.pointer (some ⟨b,0+0*1,none⟩)))=some (.int .i64 y.1):=zF (P:=E) zAS (o:=0) hb
 have lb1:zH E 3 k.fresh (some (.pointer (some ⟨b,0+1*1,none⟩)))=some (.int .i64 y.2):=zF (P:=E) zAS (o:=1) hb
 have i0:∀ c:Nat,zE E 47 (some (.slice (some ⟨c,0,none⟩) 2 2)) (some (.int .i64 0))=some (.pointer (some ⟨c,0+0*1,none⟩)):=fun c=>ia47 (i:=0) (by omega)
 have i1:∀ c:Nat,zE E 47 (some (.slice (some ⟨c,0,none⟩) 2 2)) (some (.int .i64 1))=some (.pointer (some ⟨c,0+1*1,none⟩)):=fun c=>ia47 (i:=1) (by omega)
 refine ze3 (s:=true) hok rfl (zdz ?_)
 try simp only [zA]
 refine zdy ?_
 simp only [zA,zSW]
 refine zJm ?_
 simp only [zY,zA,show decide ((0:Int)<((2:Nat):Int))=true from rfl,zu]
 refine zOn ?_
 simp only [zA,i0,la0]
 refine zOm ?_
 simp only [zA,zKV,zAP,show decide (((2:Nat):Int)<=(0:Int))=false from rfl,zk]
 refine zOl ?_
 simp only [zA,i0,lb0]
 refine zOk ?_
 simp only [zA,zS,c94 (zAT k),zN]
 refine zOj ?_
 simp only [zA,zAz]
 by_cases h1:c3 x.1 y.1=0
 rotate_left
 ·simp only [h1,decide_false,Bool.not_false,zu]
  refine zOi ?_
  try simp only [zA]
  rw [zAJ]
  refine ⟨zT ▸ trivial,by simp [zMr,orI,h1],Nat.le_add_right _ _⟩
 simp only [h1,decide_true,Bool.not_true,zk]
 refine zK4 ?_
 rw [zAM 3 (a:=0) (b:=1) (by unfold zCx;omega)]
 try simp only [zA]
 refine zJm ?_
 simp only [zY,zA,show decide ((0:Int)+1<((2:Nat):Int))=true from rfl,zu]
 refine zOn ?_
 simp only [zA,show (0:Int)+1=1 from rfl,i1,la1]
 refine zOm ?_
 simp only [zA,zKV,zAP,show decide (((2:Nat):Int)<=(1:Int))=false from rfl,zk]
 refine zOl ?_
 simp only [zA,i1,lb1]
 refine zOk ?_
 simp only [zA,zS,c94 (zAT k),zN]
 refine zOj ?_
 simp only [zA,zAz]
 by_cases h2:c3 x.2 y.2=0
 rotate_left
 ·simp only [h2,decide_false,Bool.not_false,zu]
  refine zOi ?_
  try simp only [zA]
  rw [zAJ]
  refine ⟨zT ▸ trivial,by simp [zMr,orI,h1,h2],Nat.le_add_right _ _⟩
 simp only [h2,decide_true,Bool.not_true,zk]
 refine zK4 ?_
 rw [zAM 3 (a:=1) (b:=1) (by unfold zCx;omega)]
 try simp only [zA]
 refine zJm ?_
 simp only [zY,zA,show decide ((1:Int)+1<((2:Nat):Int))=false from rfl,zk]
 refine zU7 ?_
 simp only [zA,zPO,zPN,zY,show decide (((2:Nat):Int)<((2:Nat):Int))=false from rfl,zk]
 refine zU6 ?_
 try simp only [zA]
 rw [zAJ]
 refine ⟨zT ▸ trivial,by simp [zMr,orI,h1,h2],Nat.le_add_right _ _⟩
theorem call34 {k:AH} {x y:Int×Int} (hok:k.ok):(zW E).call 34 [.agg ⟨zG x⟩,.agg ⟨zG y⟩] k=some [(.int .i64 (zMr x y),k)]:=by
 refine ze4 (s:=true) hok rfl (zd1 ?_)
 simp only [zd,zL,zV,zA]
 obtain ⟨k1,e1,n1,t1,o1,f1⟩:=nwF k (.row (zG x) 54 0 false)
 obtain ⟨k2,e2,n2,t2,o2,f2⟩:=nw o1 (.row (zG y) 54 0 false)
 simp only [e1,e2,zZ]
 refine zd0 ?_
 simp only [arr34a,arr34b,zA,zS,call35 o2.ext.ok ((f2 _ (by omega)).trans t1) t2,zN,zAJ,zT,true_and]
 exact o2.wm
theorem cmp34:zCJ (.func (.func 34) #[] #[]) zMr:=fun k x y hok=>by rw [zS];exact call34 hok
theorem c3_zero' {a b:Int}:c3 a b=0 ↔ a=b:=by
 unfold c3
 split
 ·constructor
  ·intro h;cases h
  ·intro h;omega
 ·split
  ·constructor
   ·intro h;cases h
   ·intro h;omega
  ·constructor
   ·intro;omega
   ·intro;rfl
theorem zTU {a b:Int}:c3 a b<0 ↔ a<b:=by
 unfold c3
 split
 ·constructor <;> intro <;> omega
 ·split <;> constructor <;> intro h <;> first|omega|(exfalso;revert h;decide)
theorem zMq (x y:Int×Int):zMr x y<0 ↔ x.1<y.1\/(x.1=y.1/\x.2<y.2):=by
 simp only [zMr,orI]
 by_cases h:c3 x.1 y.1=0
 ·have e:=c3_zero'.1 h
  simp only [h,ne_eq,not_true_eq_false,if_false]
  by_cases h2:c3 x.2 y.2=0
  ·have e2:=c3_zero'.1 h2
   simp only [h2,ne_eq,not_true_eq_false,if_false]
   omega
  ·simp only [h2,ne_eq,not_false_eq_true,if_true]
   have:=zTU (a:=x.2) (b:=y.2)
   omega
 ·have h0:x.1≠y.1:=fun e=>h (c3_zero'.2 e)
  simp only [h,ne_eq,not_false_eq_true,if_true]
  have:=zTU (a:=x.1) (b:=y.1)
  omega
theorem swoP:SWO (zAW zMr) where
 irrefl x:=by simp only [decide_eq_false_iff_not,zMq];omega
 trans x y z h1 h2:=by simp only [decide_eq_true_eq,zMq] at *;omega
 ntrans x y z h1 h2:=by simp only [decide_eq_false_iff_not,zMq] at *;omega
def zTr (h0:AH) (cf:Value) (f:Int×Int->Bool):Prop:=∀ k' p,Ext h0 k'->zQ (zW E) (some cf) (some [.agg ⟨zG p⟩]) k'=some [(.bool (f p),k')]
section
variable {b ty es c:Nat} {k h0:AH} {d:Dt} {cf:Value} {f:Int×Int->Bool}
theorem call95 (hg:k.get b=some (.row (zBd d) ty es false)) (hbl:b<k.next) {n:Nat} (hs:d.size=n) (hn:d.size<=1000000) (he:Ext h0 k) (hf:zTr h0 cf f) :
  (zW E).call 95 [sl b n c,cf] k=some [(.int .i64 (zm (fun i=>f d[i]!) d.size 0),k)]:=by
 subst hs
 refine zeo (s:=true) he.ok rfl (zcB ?_)
 try simp only [zA]
 refine zcA ?_
 simp only [zA,zSJ]
 have R:=SR.fresh (ty:=ty) (es:=es) hg hbl
 have loop:∀ (m i:Nat),i+m=d.size->P95_2 true (KR E [.tmp 4] fun x l=>x=.int .i64 (zm (fun i=>f d[i]!) m i)/\k.next<=l.wm) (sl b d.size c) cf (.int .i64 (d.size:Int)) (.int .i64 (i:Int)) k.fresh:=by
  intro m
  induction m with
  | zero=>
   intro i hm
   refine zOH ?_
   simp only [zY,zA,show decide ((i:Int)<(d.size:Int))=false from decide_eq_false (by omega),zk]
   refine zb5 ?_
   try simp only [zA]
   rw [zAJ]
   exact ⟨zT ▸ trivial,rfl,Nat.le_add_right _ _⟩
  | succ m ih=>
   intro i hm
   refine zOH ?_
   simp only [zY,zA,show decide ((i:Int)<(d.size:Int))=true from decide_eq_true (by omega),zu]
   refine zb9 ?_
   try simp only [zA]
   refine zb8 ?_
   simp only [zA,zAK (show i<d.size by omega),R.ld (i:=i) (by omega),hf _ _ he.fresh,zN]
   cases hfi:f d[i]! with
   | true=>
    simp only [zu]
    refine zb7 ?_
    try simp only [zA]
    rw [zAJ]
    exact ⟨zT ▸ trivial,by simp [zm,hfi],Nat.le_add_right _ _⟩
   | false=>
    simp only [zk]
    refine zb6 ?_
    simp only [zA,zBG (show i+1<=9223372036854775807 by omega)]
    have:=ih (i+1) (by omega)
    simp only [zm,hfi,Bool.false_eq_true,if_false]
    exact this
 exact loop d.size 0 (by omega)
end
theorem zJE {α:Type}:∀ (x y z:List α),y.length=z.length->lput (x++y) x.length z=x++z
 | [],[],[],_=>rfl
 | [],a::y,b::z,h=>by
  have:=zJE [] y z (by simpa using h)
  show b::lput y 0 z=b::z
  rw [show lput y 0 z=z from this]
 | [],[],_::_,h=>by simp at h
 | [],_::_,[],h=>by simp at h
 | a::x,y,[],h=>by
  have:y=[]:=List.length_eq_zero_iff.1 (by simpa using h)
  subst this
  cases x <;> rfl
 | a::x,y,b::z,h=>by
  have:=zJE x y (b::z) h
  show a::lput (x++y) x.length (b::z)=_
  rw [this];rfl
theorem zTh {h:AH} {b c:Nat} {vs rest:List Value} {ty es:Nat} {ro:Bool} {l:List (Int×Int)} (hb:h.get b=some (.row vs ty es ro)) (hl:b<h.next) (hv:vs=l.flatMap zG++rest):Arr h 2 (sl b l.length c) (l.map zG):=by
 have:=Arr.row (els:=l.map zG) (z:=2) (o:=0) (c:=c) hb hl (by rw [hv,List.length_append,zBQ,List.length_map];omega) fun i e he=>by
  rw [List.getElem?_map] at he
  obtain ⟨p,hp,rfl⟩:=Option.map_eq_some_iff.1 he
  refine ⟨rfl,?_⟩
  have hi:=(List.getElem?_eq_some_iff.1 hp).1
  have h2:=zI7 l i p hp
  rw [Nat.zero_add,hv,List.drop_append_of_le_length (by rw [zBQ];omega),List.take_append_of_le_length (by rw [List.length_drop,zBQ];omega)]
  exact h2
 rw [List.length_map] at this
 exact this
theorem cutLo {T:Tm} {o:Oper} {u v:Nat} {b n i:Nat} (ho:o.op=.slice 26 (.tmp u) (some (.tmp v)) none none) (h1:T.get u=.slice (some ⟨b,0,none⟩) n (UNK+2)) (h2:T.get v=.int .i64 (i:Int)) (hi:i<n) :
  zi E T o=some (.slice (some ⟨b,i*2,none⟩) (n-i) (UNK+2)):=by
 have f1:zp T (.tmp u)=false:=by show zh (T.get u)=false;rw [h1];rfl
 have o1:zAc T (.tmp u)=some (.slice (some ⟨b,0,none⟩) n (UNK+2)):=by show some (T.get u)=_;rw [h1]
 have o2:zBe T [.tmp v]=some [.int .i64 (i:Int)]:=by show some [T.get v]=_;rw [h2]
 have e:zi E T o=zGp E 26 (.slice (some ⟨b,0,none⟩) n (UNK+2)) (some (.int .i64 (i:Int))) none none:=by
  simp only [zi,ho,zKH,f1,cond_false,Option.isSome_none,Bool.false_and,o1,Option.toList_some,Option.toList_none,o2]
  rfl
 rw [e]
 simp only [zGp,zHs,sliceS,zHg,zGL,zEs]
 show cut2 2 (some ⟨b,0,none⟩) n (UNK+2) i n=_
 have hu:Nat.ble UNK (UNK+2)=true:=ble_true.2 (by omega)
 have hc:Nat.beq (UNK+2) (UNK+2)=true:=Nat.beq_refl _
 simp only [cut2,ble_true.2 (show i<=n by omega),cond_true,hu,Option.isSome_some,ble_true.2 (Nat.le_refl n),hc,Bool.and_self,ble_false.2 hi,cond_false]
 cases hz:Nat.beq i 0 with
 | true=>
  have:i=0:=Nat.eq_of_beq_eq_true hz
  subst this
  rfl
 | false=>
  simp only [cond_false,zGN,Nat.zero_add]
theorem cutHi {T:Tm} {o:Oper} {u v:Nat} {b n i:Nat} (ho:o.op=.slice 26 (.tmp u) none (some (.tmp v)) none) (h1:T.get u=.slice (some ⟨b,0,none⟩) n (UNK+2)) (h2:T.get v=.int .i64 (i:Int)) (hi:i<=n) :
  zi E T o=some (.slice (some ⟨b,0,none⟩) i (UNK+2)):=by
 have f1:zp T (.tmp u)=false:=by show zh (T.get u)=false;rw [h1];rfl
 have o1:zAc T (.tmp u)=some (.slice (some ⟨b,0,none⟩) n (UNK+2)):=by show some (T.get u)=_;rw [h1]
 have o2:zBe T [.tmp v]=some [.int .i64 (i:Int)]:=by show some [T.get v]=_;rw [h2]
 have e:zi E T o=zGp E 26 (.slice (some ⟨b,0,none⟩) n (UNK+2)) none (some (.int .i64 (i:Int))) none:=by
  simp only [zi,ho,zKH,f1,cond_false,Option.isSome_none,Bool.false_and,o1,Option.toList_some,Option.toList_none,o2]
  rfl
 rw [e]
 simp only [zGp,zHs,sliceS,zHg,zGL,zEs]
 show cut2 2 (some ⟨b,0,none⟩) n (UNK+2) 0 i=_
 have hu:Nat.ble UNK (UNK+2)=true:=ble_true.2 (by omega)
 have hc:Nat.beq (UNK+2) (UNK+2)=true:=Nat.beq_refl _
 simp only [cut2,ble_true.2 (Nat.zero_le i),cond_true,hu,Option.isSome_some,ble_true.2 hi,hc,Bool.and_self,show Nat.beq 0 0=true from rfl]
theorem zRq {α:Type} (l:List α):∀ n,(rep n l).length=n*l.length
 | 0=>by simp [rep]
 | n+1=>by simp only [rep,List.length_append,zRq l n,Nat.add_mul];omega
theorem zTD {h:AH} {b i m cp:Nat} {x y:List Value} {ty es:Nat} (hb:h.get b=some (.row (x++y) ty es false)) (hx:x.length=i*2) (hy:y.length=m*2) (hm:m≠0) :
  zAD E .clear [26] (some [.slice (some ⟨b,i*2,none⟩) m cp]) h=one (.tuple #[],h.upd b (some (.row (x++rep m [.int .i64 0,.int .i64 0]) ty es false))):=by
 show zGh E 26 (.slice (some ⟨b,i*2,none⟩) m cp) h=_
 have hm0:Nat.beq m 0=false:=by cases m with|zero=>exact absurd rfl hm|succ m=>rfl
 simp only [zGh,elt26.el,hm0,cond_false,zGf,z_54,zHg,hb,zAN,List.length_append,hx,hy,zV]
 have h1:Nat.ble (i*2+m*2) (i*2+m*2)=true:=ble_true.2 (Nat.le_refl _)
 have h2:lput (x++y) (i*2) (rep m [Value.int .i64 0,.int .i64 0])=x++rep m [.int .i64 0,.int .i64 0]:=by
  rw [← hx];exact zJE _ _ _ (by rw [zRq,hy];rfl)
 simp only [h1,h2]
 rfl
theorem zDy (p:Nat->Bool):∀ (n i:Nat),(zm p n i=-1/\∀ j,i<=j->j<i+n->p j=false)\/∃ j,(i<=j/\j<i+n)/\zm p n i=(j:Int)/\p j=true/\∀ q,i<=q->q<j->p q=false
 | 0,i=>.inl ⟨rfl,fun j h1 h2=>by omega⟩
 | n+1,i=>by
  cases h:p i with
  | true=>exact .inr ⟨i,⟨Nat.le_refl _,by omega⟩,by simp [zm,h],h,fun q h1 h2=>by omega⟩
  | false=>
   rcases zDy p n (i+1) with ⟨h1,h2⟩|⟨j,h1,h2,h3,h4⟩
   ·refine .inl ⟨by simp [zm,h,h1],fun j a b=>?_⟩
    by_cases e:j=i
    ·rw [e];exact h
    ·exact h2 j (by omega) (by omega)
   ·refine .inr ⟨j,by omega,by simp [zm,h,h2],h3,fun q a b=>?_⟩
    by_cases e:q=i
    ·rw [e];exact h
    ·exact h4 q (by omega) b
theorem SR.ldo {b ty es:Nat} {k0 k:AH} {d0 d:Dt} (R:SR b ty es k0 d0 k d) {i o:Nat} (hi:i<d.size) (ho:o=i*2):zH E 54 k (some (.pointer (some ⟨b,o,none⟩)))=some (.agg ⟨zG d[i]!⟩):=by
 have:=R.ld hi
 rw [Nat.zero_add] at this
 rw [ho];exact this
theorem zH3 (d:Dt) (i:Nat):zBd d=(d.toList.take i).flatMap zG++(d.toList.drop i).flatMap zG:=by
 unfold zBd
 rw [← List.flatMap_append,List.take_append_drop]
theorem zJy {α:Type} (l:List α) (i:Nat) (v:α) (hi:i<l.length):(l.set i v).take (i+1)=l.take i++[v]:=by
 rw [List.take_add_one,List.take_set,List.set_eq_of_length_le (by simp;omega),List.getElem?_set_self hi]
 rfl
theorem zGZ {d:Dt} {j:Nat} (h:j<d.size):d.toList[j]?=some d[j]!:=by
 rw [getElem!_pos d j h];simp [h]
theorem zI2 {d:Dt} {j:Nat} (h:j<d.size):d.toList.take (j+1)=d.toList.take j++[d[j]!]:=by
 rw [List.take_add_one,zGZ h];rfl
theorem op37a:(zn B37 [1,1,1,1,0] 2).op=.slice 26 (.tmp 36) (some (.tmp 37)) none none:=by kernel_rfl
theorem op37b:(zn B37 [1,1,1,1,1,0] 2).op=.slice 26 (.tmp 39) none (some (.tmp 40)) none:=by kernel_rfl
theorem cut37a {b n i:Nat} (hi:i<n):zi E (zl [(36,sl b n (UNK+2)),(37,.int .i64 (i:Int))]) (zn B37 [1,1,1,1,0] 2)=some (.slice (some ⟨b,i*2,none⟩) (n-i) (UNK+2)):=cutLo op37a (by kernel_rfl) (by kernel_rfl) hi
theorem cut37b {b n i:Nat} (hi:i<=n):zi E (zl [(39,sl b n (UNK+2)),(40,.int .i64 (i:Int))]) (zn B37 [1,1,1,1,1,0] 2)=some (.slice (some ⟨b,0,none⟩) i (UNK+2)):=cutHi op37b (by kernel_rfl) (by kernel_rfl) hi
theorem zL2:∀ n,(rep n [Value.int .i64 0,.int .i64 0]).flatMap (zCO 4)=[]
 | 0=>rfl
 | n+1=>by simp only [rep,List.flatMap_append,zL2 n];rfl
structure Cut (b ty es:Nat) (k:AH) (v:Value) (m:AH) (l:List (Int×Int)):Prop where
 v:v=sl b l.length (UNK+2)
 row:∃ rest,m.get b=some (.row (l.flatMap zG++rest) ty es false)/\rest.flatMap (zCO 4)=[]
 fx:Fx (fun c=>c=b) k m
section
variable {b ty es:Nat} {k h0:AH} {d:Dt} {cf:Value} {f:Int×Int->Bool}
theorem call37 (hg:k.get b=some (.row (zBd d) ty es false)) (hbl:b<k.next) {n:Nat} (hs:d.size=n) (hn:d.size<=1000000) (he:Ext h0 k) (hb0:h0.next<=b) (hf:zTr h0 cf f) :
  Ev true ((zW E).call 37 [sl b n (UNK+2),cf] k) fun x=>Cut b ty es k x.1 x.2 (d.toList.filter fun p=>!f p):=by
 subst hs
 by_cases hsc:zm (fun i=>f d[i]!) d.size 0=-1
 ·have hall:d.toList.filter (fun p=>!f p)=d.toList:=by
   rcases zDy (fun i=>f d[i]!) d.size 0 with ⟨_,h2⟩|⟨j,_,h2,_,_⟩
   ·rw [List.filter_eq_self]
    intro p hp
    obtain ⟨j,hj⟩:=List.getElem?_of_mem hp
    have hjl:=(List.getElem?_eq_some_iff.1 hj).1
    have hj2:j<d.size:=by simpa using hjl
    rw [zGZ hj2] at hj
    cases hj
    have:f d[j]! = false:=h2 j (Nat.zero_le _) (by omega)
    simp [this]
   ·rw [h2] at hsc;omega
  refine zOu (Rp:=fun v m=>Cut b ty es k v m (d.toList.filter fun p=>!f p)) (zOf ?_)
  try simp only [zA]
  refine zOe ?_
  simp only [zA,zS,call95 (k:=k.fresh) hg hbl rfl hn he.fresh hf,zN,hsc]
  refine zOd ?_
  simp only [zA,zAZ,decide_true,zu]
  refine zdp ?_
  try simp only [zA]
  rw [zAJ,hall]
  refine ⟨zT ▸ trivial,.inl rfl,by simp [sl],⟨[],?_,rfl⟩,(Fx.refl (zAT k)).back⟩
  rw [List.append_nil]
  exact zGB hg
 ·obtain ⟨i0,hi0,hix,hfi,hlo⟩:∃ j,j<d.size/\zm (fun i=>f d[i]!) d.size 0=(j:Int)/\f d[j]! = true/\∀ q,q<j->f d[q]! = false:=by
   rcases zDy (fun i=>f d[i]!) d.size 0 with ⟨h1,_⟩|⟨j,h1,h2,h3,h4⟩
   ·exact absurd h1 hsc
   ·exact ⟨j,by omega,h2,h3,fun q hq=>h4 q (Nat.zero_le _) hq⟩
  refine zOu (Rp:=fun v m=>Cut b ty es k v m (d.toList.filter fun p=>!f p)) (zOf ?_)
  try simp only [zA]
  refine zOe ?_
  simp only [zA,zS,call95 (k:=k.fresh) hg hbl rfl hn he.fresh hf,zN,hix]
  refine zOd ?_
  simp only [zA,zAZ,show decide ((i0:Int)=-1)=false from decide_eq_false (by omega),zk]
  refine zdo ?_
  simp only [zA,zBG (show i0+1<=9223372036854775807 by omega)]
  have loop:∀ (m j i:Nat) (d':Dt) (h:AH),j+m=d.size->i<j->SR b ty es k.fresh d h d'->d'.toList.take i=(d.toList.take j).filter (fun p=>!f p)->(∀ x,j<=x->x<d.size->d'[x]! = d[x]!)->
    P37_5 true (KR E [.tmp 4] (fun x l=>(zh x=false\/l.wm<k.next)/\Cut b ty es k x ⟨l.t,l.next,cond (Nat.ble k.wm l.wm) k.wm l.wm⟩ (d.toList.filter fun p=>!f p))) (sl b d.size (UNK+2)) cf (.int .i64 (i:Int)) (.int .i64 (j:Int)) h:=by
   intro m
   induction m with
   | zero=>
    intro j i d' h hm hij R ht hx
    have hsz:=R.sz
    refine zOc ?_
    simp only [zA,zKS,zY,show decide ((j:Int)<(d.size:Int))=false from decide_eq_false (by omega),zk]
    refine zUz ?_
    have hcl:=zTD (i:=i) (m:=d.size-i) (cp:=UNK+2) (x:=(d'.toList.take i).flatMap zG) (y:=(d'.toList.drop i).flatMap zG) (by rw [← zH3];exact R.g) (by rw [zBQ];simp;omega) (by rw [zBQ];simp;omega) (by omega)
    simp only [zA,cut37a (show i<d.size by omega),hcl,zL]
    refine zUy ?_
    simp only [zA,cut37b (show i<=d.size by omega)]
    have hfl:d.toList.take j=d.toList:=List.take_of_length_le (by simp;omega)
    rw [hfl] at ht
    have hlen:(d.toList.filter fun p=>!f p).length=i:=by rw [← ht];simp;omega
    rw [zAJ]
    have f1:=R.fx.upd (b:=b) (.inl rfl) (some (.row ((d'.toList.take i).flatMap zG++rep (d.size-i) [.int .i64 0,.int .i64 0]) ty es false))
    have g1:=zR h b (some (.row ((d'.toList.take i).flatMap zG++rep (d.size-i) [.int .i64 0,.int .i64 0]) ty es false))
    rw [ht] at f1 g1
    rw [ht]
    generalize h.upd b (some (.row ((d.toList.filter fun p=>!f p).flatMap zG++rep (d.size-i) [.int .i64 0,.int .i64 0]) ty es false))=hh at f1 g1
    exact ⟨zT ▸ trivial,.inl rfl,by rw [hlen],⟨_,zGB g1,zL2 _⟩,f1.back⟩
   | succ m ih=>
    intro j i d' h hm hij R ht hx
    have hsz:=R.sz
    refine zOc ?_
    simp only [zA,zKS,zY,show decide ((j:Int)<(d.size:Int))=true from decide_eq_true (by omega),zu]
    refine zdn ?_
    have hk:=R.fx.next
    obtain ⟨h1,e1⟩:∃ h1,h.new (.row [.int .i64 0,.int .i64 0] 54 0 false)=h1:=⟨_,rfl⟩
    obtain ⟨h2,e2⟩:∃ h2,h1.upd h.next (some (.row (zG d'[j]!) 54 0 false))=h2:=⟨_,rfl⟩
    have hbox:=zb0 (k:=h) (p:=d'[j]!)
    rw [e1,e2] at hbox
    have R2:SR b ty es k.fresh d h2 d':=by
     have hl:=R.l
     have hkn:k.fresh.next<=h.next:=hk
     have g2:h2.get b=h.get b:=by rw [← e2,zU (by omega),← e1,zK (by omega)]
     have w1:h2.wm<=h.wm:=by rw [← e2];refine Nat.le_trans (zHp _ _ _).2 ?_;rw [← e1];exact Nat.le_refl _
     refine ⟨?_,g2.trans R.g,?_,Nat.le_trans w1 R.wle,R.sz,R.lt⟩
     ·rw [← e2,← e1];exact (R.fx.new _).upd (.inr hkn) _
     ·rcases R.wm with w|w
      ·exact .inl (by omega)
      ·exact .inr w
    have t2:h2.get h.next=some (.row (zG d'[j]!) 54 0 false):=by rw [← e2];exact zR _ _ _
    simp only [zA,zAK (show j<d.size by omega),R.ld (i:=j) (by omega),z_54,zd,zL,zV,e1,hbox]
    have hv:d'[j]! = d[j]!:=hx j (Nat.le_refl _) (by omega)
    have lv:zH E 54 h2 (some (.pointer (some ⟨h.next,0,none⟩)))=some (.agg ⟨zG d'[j]!⟩):=by
     have:=za (P:=E) zFZ (o:=0) t2 (by simp [zG])
     exact this
    refine zdm ?_
    have ex2:Ext h0 h2:=R2.fx.ext1 he.fresh hb0
    simp only [zA,lv,hf _ _ ex2,zN,zv]
    have htk:=zI2 (d:=d) (j:=j) (by omega)
    cases hfj:f d'[j]! with
    | true=>
     simp only [Bool.not_true,zk]
     refine zK2 ?_
     simp only [zA,zBG (show j+1<=9223372036854775807 by omega)]
     refine ih (j+1) i d' h2 (by omega) (by omega) R2 ?_ fun x a b=>hx x (by omega) b
     rw [htk,List.filter_append,← ht,← hv]
     simp [hfj]
    | false=>
     simp only [Bool.not_false,zu]
     refine zdl ?_
     obtain ⟨h3,q1,R3⟩:=R2.st (i:=i) (by omega) d'[j]!
     simp only [zA,lv,zAK (show i<d.size by omega),q1,zL]
     refine zdk ?_
     simp only [zA,zBG (show i+1<=9223372036854775807 by omega)]
     refine zK2 ?_
     simp only [zA,zBG (show j+1<=9223372036854775807 by omega)]
     refine ih (j+1) (i+1) _ h3 (by omega) (by omega) R3 ?_ fun x a b=>?_
     ·rw [Array.toList_setIfInBounds,zJy _ _ _ (by simp;omega),ht,htk,List.filter_append,← hv]
      simp [hfj]
     ·rw [← hx x (by omega) b]
      rw [getElem!_pos _ x (by simp;omega),getElem!_pos d' x (by omega),Array.getElem_setIfInBounds_ne (by omega) (by omega)]
  refine loop (d.size-(i0+1)) (i0+1) i0 d _ (by omega) (by omega) (SR.fresh hg hbl) ?_ fun x _ _=>rfl
  rw [zI2 hi0,List.filter_append]
  have:(d.toList.take i0).filter (fun p=>!f p)=d.toList.take i0:=by
   rw [List.filter_eq_self]
   intro p hp
   obtain ⟨q,hq⟩:=List.getElem?_of_mem hp
   have hql:=(List.getElem?_eq_some_iff.1 hq).1
   simp only [List.length_take,Array.length_toList] at hql
   rw [List.getElem?_take_of_lt (by omega),zGZ (by omega)] at hq
   cases hq
   simp [hlo q (by omega)]
  rw [this]
  simp [hfi]
end
theorem bf_neqp (p q:Int×Int):zC E .neq 54 (.agg ⟨zG p⟩) (.agg ⟨zG q⟩)=some (.bool (!decide (p=q))):=by
 obtain ⟨a,b⟩:=p
 obtain ⟨c,d⟩:=q
 have h:zHK E 54 (zG (a,b)) (zG (c,d))=some (decide ((a,b)=(c,d))):=by
  simp only [zG,ev_eqp,zAn]
  by_cases h1:a=c <;> by_cases h2:b=d <;> simp [h1,h2,zC5,show keq IntKind.i64 IntKind.i64=true from rfl]
 unfold zC
 simp only [h]
def dd (d:Dt):Nat->List (Int×Int)
 | 0=>[]
 | j+1=>if 0<j/\d[j]! = d[j-1]! then dd d j else dd d j++[d[j]!]
theorem zS5 (d:Dt):∀ (j q:Nat),q<j->d[q]!∈dd d j
 | 0,q,h=>by omega
 | j+1,q,h=>by
  simp only [dd]
  by_cases e:q=j
  ·subst e
   split
   ·rename_i h2
    rw [h2.2]
    exact zS5 d q (q-1) (by omega)
   ·simp
  ·have:=zS5 d j q (by omega)
   split
   ·exact this
   ·simp [this]
theorem op36a:(zn B36 [1,1,0,1,0,0,1,0,0,1,0,0] 2).op=.slice 26 (.tmp 26) (some (.tmp 27)) none none:=by kernel_rfl
theorem op36b:(zn B36 [1,1,0,1,0,0,1,0,0,1,0,1,1,0] 2).op=.slice 26 (.tmp 54) (some (.tmp 55)) none none:=by kernel_rfl
theorem op36c:(zn B36 [1,1,0,1,0,0,1,0,0,1,0,1,1,1,0] 2).op=.slice 26 (.tmp 57) none (some (.tmp 58)) none:=by kernel_rfl
theorem cut36a {b n i:Nat} (hi:i<n):zi E (zl [(26,sl b n (UNK+2)),(27,.int .i64 (i:Int))]) (zn B36 [1,1,0,1,0,0,1,0,0,1,0,0] 2)=some (.slice (some ⟨b,i*2,none⟩) (n-i) (UNK+2)):=cutLo op36a (by kernel_rfl) (by kernel_rfl) hi
theorem cut36b {b n i:Nat} (hi:i<n):zi E (zl [(54,sl b n (UNK+2)),(55,.int .i64 (i:Int))]) (zn B36 [1,1,0,1,0,0,1,0,0,1,0,1,1,0] 2)=some (.slice (some ⟨b,i*2,none⟩) (n-i) (UNK+2)):=cutLo op36b (by kernel_rfl) (by kernel_rfl) hi
theorem cut36c {b n i:Nat} (hi:i<=n):zi E (zl [(57,sl b n (UNK+2)),(58,.int .i64 (i:Int))]) (zn B36 [1,1,0,1,0,0,1,0,0,1,0,1,1,1,0] 2)=some (.slice (some ⟨b,0,none⟩) i (UNK+2)):=cutHi op36c (by kernel_rfl) (by kernel_rfl) hi
section
variable {b ty es:Nat} {k:AH} {d:Dt}
theorem call36 (hg:k.get b=some (.row (zBd d) ty es false)) (hbl:b<k.next) {n:Nat} (hs:d.size=n) (hn:d.size<=1000000) :
  Ev true ((zW E).call 36 [sl b n (UNK+2)] k) fun x=>Cut b ty es k x.1 x.2 (dd d d.size):=by
 subst hs
 have whole:dd d d.size=d.toList->∀ h,SR b ty es k.fresh d h d->KR E [.tmp 2] (fun x l=>(zh x=false\/l.wm<k.next)/\Cut b ty es k x ⟨l.t,l.next,cond (Nat.ble k.wm l.wm) k.wm l.wm⟩ (dd d d.size)) .ret [sl b d.size (UNK+2)] h:=by
  intro e h R
  rw [zAJ]
  refine ⟨zT ▸ trivial,.inl rfl,by rw [e];simp [sl],⟨[],?_,rfl⟩,R.fx.back⟩
  rw [List.append_nil,e]
  exact zGB R.g
 refine ze2 (Rp:=fun v m=>Cut b ty es k v m (dd d d.size)) (zdx ?_)
 try simp only [zA]
 refine zdw ?_
 simp only [zA,zSV,zY,zAA]
 have R0:SR b ty es k.fresh d k.fresh d:=SR.fresh hg hbl
 have dd1:∀ j,(∀ q,1<=q->q<j->d[q]!≠d[q-1]!)->j<=d.size->dd d j=d.toList.take j:=by
  intro j
  induction j with
  | zero=>intro _ _;simp [dd]
  | succ j ih=>
   intro H hj
   simp only [dd]
   rw [if_neg (fun h=>H j (by omega) (by omega) h.2),ih (fun q a b=>H q a (by omega)) (by omega),zI2 (by omega)]
 refine ⟨fun h2=>zdv ?_,fun h2=>zdu ?_⟩
 ·try simp only [zA]
  refine whole ?_ _ R0
  rw [dd1 _ (fun q a b=>by omega) (Nat.le_refl _)]
  exact List.take_of_length_le (by simp)
 try simp only [zA]
 have inner:∀ (k0:Nat),1<=k0->k0<d.size->∀ (m t w:Nat) (d':Dt) (h:AH),t+m=d.size->k0<t->w<t->SR b ty es k.fresh d h d'->d'.toList.take w=dd d t->(∀ x,t-1<=x->x<d.size->d'[x]! = d[x]!)->
   P36_8 true (KR E [.tmp 2] (fun x l=>(zh x=false\/l.wm<k.next)/\Cut b ty es k x ⟨l.t,l.next,cond (Nat.ble k.wm l.wm) k.wm l.wm⟩ (dd d d.size))) (sl b d.size (UNK+2)) (.int .i64 (w:Int)) (.slice (some ⟨b,k0*2,none⟩) (d.size-k0) (UNK+2)) (.int .i64 ((t-k0:Nat):Int)) h:=by
  intro k0 hk0 hk1 m
  induction m with
  | zero=>
   intro t w d' h hm hkt hwt R ht hx
   have hsz:=R.sz
   refine zOg ?_
   simp only [zA,zKT,zY,show decide (((t-k0:Nat):Int)<((d.size-k0:Nat):Int))=false from decide_eq_false (by omega),zk]
   refine zU3 ?_
   have hcl:=zTD (i:=w) (m:=d.size-w) (cp:=UNK+2) (x:=(d'.toList.take w).flatMap zG) (y:=(d'.toList.drop w).flatMap zG) (by rw [← zH3];exact R.g) (by rw [zBQ];simp;omega) (by rw [zBQ];simp;omega) (by omega)
   simp only [zA,cut36b (show w<d.size by omega),hcl,zL]
   refine zU2 ?_
   simp only [zA,cut36c (show w<=d.size by omega)]
   have e:t=d.size:=by omega
   subst e
   have hlen:(dd d d.size).length=w:=by rw [← ht];simp;omega
   rw [zAJ]
   have f1:=R.fx.upd (b:=b) (.inl rfl) (some (.row ((d'.toList.take w).flatMap zG++rep (d.size-w) [.int .i64 0,.int .i64 0]) ty es false))
   have g1:=zR h b (some (.row ((d'.toList.take w).flatMap zG++rep (d.size-w) [.int .i64 0,.int .i64 0]) ty es false))
   rw [ht] at f1 g1
   rw [ht]
   generalize h.upd b (some (.row ((dd d d.size).flatMap zG++rep (d.size-w) [.int .i64 0,.int .i64 0]) ty es false))=hh at f1 g1
   exact ⟨zT ▸ trivial,.inl rfl,by rw [hlen],⟨_,zGB g1,zL2 _⟩,f1.back⟩
  | succ m ih=>
   intro t w d' h hm hkt hwt R ht hx
   have hsz:=R.sz
   refine zOg ?_
   simp only [zA,zKT,zY,show decide (((t-k0:Nat):Int)<((d.size-k0:Nat):Int))=true from decide_eq_true (by omega),zu]
   refine zdq ?_
   have l1:=R.ldo (i:=t) (o:=k0*2+(t-k0)*2) (by omega) (by omega)
   have l2:=R.ldo (i:=t-1) (o:=k0*2+(t-k0-1)*2) (by omega) (by omega)
   simp only [zA,zAK (show t-k0<d.size-k0 by omega),l1,zBg (show 1<=t-k0 by omega) (show t-k0<=9223372036854775807 by omega),zAK (show t-k0-1<d.size-k0 by omega),l2,bf_neqp,hx t (by omega) (by omega),hx (t-1) (by omega) (by omega)]
   have hdd:dd d (t+1)=if d[t]! = d[t-1]! then dd d t else dd d t++[d[t]!]:=by
    simp only [dd]
    by_cases e:d[t]! = d[t-1]!
    ·rw [if_pos ⟨by omega,e⟩,if_pos e]
    ·rw [if_neg (fun h=>e h.2),if_neg e]
   have hnext:t-k0+1=t+1-k0:=by omega
   by_cases e:d[t]! = d[t-1]!
   ·simp only [e,decide_true,Bool.not_true,zk]
    refine zK3 ?_
    simp only [zA,zBG (show t-k0+1<=9223372036854775807 by omega),hnext]
    exact ih (t+1) w d' h (by omega) (by omega) (by omega) R (by rw [hdd,if_pos e];exact ht) fun x a b=>hx x (by omega) b
   ·simp only [e,decide_false,Bool.not_false,zu]
    refine zU5 ?_
    obtain ⟨h3,q1,R3⟩:=R.st (i:=w) (by omega) d[t]!
    simp only [zA,zAK (show t-k0<d.size-k0 by omega),l1,hx t (by omega) (by omega),zAK (show w<d.size by omega),q1,zL]
    refine zU4 ?_
    simp only [zA,zBG (show w+1<=9223372036854775807 by omega)]
    refine zK3 ?_
    simp only [zA,zBG (show t-k0+1<=9223372036854775807 by omega),hnext]
    refine ih (t+1) (w+1) _ h3 (by omega) (by omega) (by omega) R3 ?_ fun x a b=>?_
    ·rw [Array.toList_setIfInBounds,zJy _ _ _ (by simp;omega),ht,hdd,if_neg e]
    ·rw [← hx x (by omega) b,getElem!_pos _ x (by simp;omega),getElem!_pos d' x (by omega),Array.getElem_setIfInBounds_ne (by omega) (by omega)]
 have outer:∀ (m q:Nat),q+m=d.size->1<=q->(∀ x,1<=x->x<q->d[x]!≠d[x-1]!)->
   P36_4 true (KR E [.tmp 2] (fun x l=>(zh x=false\/l.wm<k.next)/\Cut b ty es k x ⟨l.t,l.next,cond (Nat.ble k.wm l.wm) k.wm l.wm⟩ (dd d d.size))) (sl b d.size (UNK+2)) (.int .i64 (q:Int)) k.fresh:=by
  intro m
  induction m with
  | zero=>
   intro q hm hq H
   refine zOh ?_
   simp only [zA,zKU,zY,show decide ((q:Int)<(d.size:Int))=false from decide_eq_false (by omega),zk]
   refine zU0 ?_
   try simp only [zA]
   refine whole ?_ _ R0
   rw [dd1 _ (fun x a b=>H x a (by omega)) (Nat.le_refl _)]
   exact List.take_of_length_le (by simp)
  | succ m ih=>
   intro q hm hq H
   refine zOh ?_
   simp only [zA,zKU,zY,show decide ((q:Int)<(d.size:Int))=true from decide_eq_true (by omega),zu]
   refine zdt ?_
   simp only [zA,zAK (show q<d.size by omega),R0.ld (i:=q) (by omega),zBg hq (show q<=9223372036854775807 by omega),zAK (show q-1<d.size by omega),R0.ld (i:=q-1) (by omega),zTd]
   by_cases e:d[q]! = d[q-1]!
   ·simp only [e,decide_true,zu]
    refine zds ?_
    simp only [zA,cut36a (show q<d.size by omega)]
    refine zdr ?_
    try simp only [zA]
    have:=inner q hq (by omega) m (q+1) q d k.fresh (by omega) (by omega) (by omega) R0 (by
     simp only [dd]
     rw [if_pos ⟨by omega,e⟩,dd1 q H (by omega)]) fun x _ _=>rfl
    rw [show q+1-q=1 by omega] at this
    exact this
   ·simp only [e,decide_false,zk]
    refine zU1 ?_
    simp only [zA,zBG (show q+1<=9223372036854775807 by omega)]
    refine ih (q+1) (by omega) (by omega) fun x a b=>?_
    by_cases hxq:x=q
    ·rw [hxq];exact e
    ·exact H x a (by omega)
 exact outer (d.size-1) 1 (by omega) (Nat.le_refl _) fun x a b=>by omega
end
theorem pb00:zAi E 54 (some [(0,.int .i64 0),(1,.int .i64 0)])=some (.agg ⟨zG (0,0)⟩):=by kernel_rfl
theorem call38 {k:AH} {p:Int×Int} (hok:k.ok):(zW E).call 38 [.agg ⟨zG p⟩] k=some [(.bool (decide (p=(0,0))),k)]:=by
 refine ze1 (s:=true) hok rfl (zdj ?_)
 obtain ⟨k1,e1,n1,t1,o1,f1⟩:=nwF k (.row (zG p) 54 0 false)
 simp only [zd,zL,zV,zA,e1,zZ]
 refine zdi ?_
 have l1:zH E 54 k1 (some (.pointer (some ⟨k.next,0,none⟩)))=some (.agg ⟨zG p⟩):=za (P:=E) zFZ (o:=0) t1 (by simp [zG])
 simp only [l1,pb00,zA,zTd,zAJ,zT,true_and]
 exact o1.wm
theorem test38 {h0:AH}:zTr h0 (.func (.func 38) #[] #[]) fun p=>decide (p=(0,0)):=fun k' p e=>by rw [zS];exact call38 e.ok
structure With (k:AH) (B:GB) (p:Int×Int) (x:Value) (m:AH):Prop where
 ex:∃ (e:List Value) (B':GB),x=.agg ⟨e⟩/\RB m e B'/\B'.kind=B.kind/\p∈B'.prs/\B'.prs.length<=B.prs.length+1
 fx:Fx NoB k m
theorem dd_len (d:Dt):∀ j,(dd d j).length<=j
 | 0=>Nat.le_refl _
 | j+1=>by
  have:=dd_len d j
  simp only [dd]
  split
  ·omega
  ·simp;omega
theorem veqp (q:Int×Int):veq 100 (.agg ⟨zG q⟩) (.agg ⟨zG q⟩)=true:=by
 show zIz 99 (zG q) (zG q)=true
 simp only [zG,zIz,zC1,Bool.and_self]
theorem zSo:∀ l:List (Int×Int),(l.flatMap zG).flatMap (zCO 4)=[]
 | []=>rfl
 | x::l=>by simp only [List.flatMap_cons,List.flatMap_append,zSo l];rfl
structure With1 (k:AH) (B:GB) (p:Int×Int) (x:Value) (m:AH):Prop where
 ex:∃ (b2:Nat) (l':List (Int×Int)) (rest:List Value),x=.agg ⟨[.int .i64 B.kind,sl b2 l'.length (UNK+2)]⟩/\k.next<=b2/\b2<m.next/\m.get b2=some (.row (l'.flatMap zG++rest) 54 2 false)/\rest.flatMap (zCO 4)=[]/\p∈l'/\l'.length<=B.prs.length+1
 ow:Own k m
theorem zRv {h:AH} {lo b2:Nat} {vs:List Value} {ty es:Nat} {ro:Bool} {z:Int} {n c:Nat} (hb:lo<=b2) (hg:h.get b2=some (.row vs ty es ro)) (hi:vs.flatMap (zCO 4)=[]):zCp h lo 1000 (zCO 4 (.agg ⟨[.int .i64 z,sl b2 n c]⟩)) []=[b2]:=by
 have e0:zCO 4 (.agg ⟨[.int .i64 z,sl b2 n c]⟩)=[b2]:=rfl
 rw [e0]
 have s3:zCp h lo 1000 [b2] []=zCp h lo 999 (zMZ (.row vs ty es ro)++[]) [b2]:=by
  show (if Nat.ble (b2+1) lo||[].any (Nat.beq b2) then _ else (match h.get b2 with|some o=>zCp h lo 999 (zMZ o++[]) [b2]|none=>_))=_
  rw [ble_false.2 (by omega),hg];rfl
 rw [s3]
 simp only [zMZ,hi,List.append_nil]
 rfl
theorem With1.fin {k:AH} {B:GB} {p:Int×Int} {x:Value} {m:AH} (w:With1 k B p x m):zh x=false/\With k B p x (m.wmTo k.wm)/\With k B p x ((AH.kept k.fresh x m).wmTo k.wm):=by
 obtain ⟨b2,l',rest,rfl,h1,h2,h3,h4,h5,h6⟩:=w.ex
 have hids:=zRv (lo:=k.fresh.next) (z:=B.kind) (n:=l'.length) (c:=UNK+2) h1 h3 (by rw [List.flatMap_append,zSo,h4];rfl)
 have rb:∀ m':AH,m'.next=m.next->m'.get b2=m.get b2->∃ (e:List Value) (B':GB),Value.agg ⟨[.int .i64 B.kind,sl b2 l'.length (UNK+2)]⟩=.agg ⟨e⟩/\RB m' e B'/\B'.kind=B.kind/\p∈B'.prs/\B'.prs.length<=B.prs.length+1:=fun m' hn hg=>
  ⟨_,⟨B.kind,l'⟩,rfl,⟨_,rfl,zTh (hg.trans h3) (by omega) rfl⟩,rfl,h5,h6⟩
 refine ⟨rfl,⟨rb _ rfl rfl,zIx w.ow⟩,⟨rb _ rfl ?_,zIx ?_⟩⟩
 ·show (AH.kept k.fresh _ m).get b2=_
  unfold AH.kept
  rw [hids,zA9,if_pos (by simp)]
 ·have h7:=w.ow
  refine ⟨⟨h7.ext.ok,h7.ext.next,fun c hc=>?_⟩,h7.wm⟩
  unfold AH.kept
  rw [hids,zA9]
  split
  ·exact h7.ext.get c hc
  ·rfl
theorem call31 {k:AH} {bR:Nat} {B:GB} {vp:Value} {p:Int×Int} (hok:k.ok) (hR:k.get bR=some (.row [.int .i64 B.kind,vp] 32 0 false)) (hRl:bR<k.next) (ha:Arr k 2 vp (B.prs.map zG)) (hne:B.prs≠[]) (hn:B.prs.length<=50000) :
  Ev false ((zW E).call 31 [.agg ⟨zG p⟩,ptr bR] k) fun x=>With k B p x.1 x.2:=by
 refine zKr (s:=false) (Rp:=fun v m=>With k B p v m) F31_get ze7 (F31_sum _ _) (by kernel_rfl) (Ev.mono (F31_ev (s:=false) (Rp:=fun v m=>With1 k B p v m) (zeA ?_)) fun x hx=>hx.fin)
 obtain ⟨va,vc,hvp⟩:=ha.slice
 obtain ⟨k1,e1,n1,t1,o1,f1⟩:=nwF k (.row (zG p) 54 0 false)
 obtain ⟨k2,e2,n2,t2,o2,f2⟩:=nw o1 (.row [.int .i64 0,.slice none 0 0] 32 0 false)
 have x2:Fx NoB k.fresh k2:=by rw [← e2,← e1];exact ((Fx.refl (zAT k)).new _).new _
 rw [n1] at t2
 simp only [zd,z_32,zL,zV,zA,e1,zZ,e2,n1]
 have hRk:∀ h,Fx NoB k.fresh h->h.get bR=some (.row [.int .i64 B.kind,vp] 32 0 false):=fun h f=>(f.get bR hRl (fun h=>h)).trans hR
 have exk:∀ h,Fx NoB k.fresh h->Ext k h:=fun h f=>⟨f.ok,f.next,fun c hc=>f.get c hc (fun h=>h)⟩
 have rest:∀ (h:AH) (b2:Nat),k.next<=b2->b2<h.next->h.get b2=some (.row ((B.prs++[p]).flatMap zG) 54 2 false)->Fx NoB k.fresh h->h.get (k.next+1)=some (.row [.int .i64 0,.slice none 0 0] 32 0 false)->k.next+1<h.next->b2≠k.next+1->
   P31_2 false (KR E [.cell 3 32] fun v m=>With1 k B p v m) (ptr bR) (ptr (k.next+1)) (sl b2 (B.prs.length+1) (UNK+2)) h:=by
  intro h b2 h1 h2 h3 hf h4 h5 h6
  refine zd8 ?_
  simp only [zA,zS]
  refine ((call33 (c:=UNK+2) (d:=(B.prs++[p]).toArray) (cm:=zMr) h3 h2 hf.ok (n:=B.prs.length+1) (by simp) (by simp;omega) cmp34 swoP).weak).mono ?_
  rintro ⟨v,h7⟩ ⟨d',⟨_,hP,_⟩,R⟩
  have hf7:Fx NoB k.fresh h7:=hf.trans R.fx fun c hc=>.inr (hc ▸ h1)
  refine zd7 ?_
  have l0:zH E 3 h7 (some (.pointer (some ⟨bR,0+0,none⟩)))=some (.int .i64 B.kind):=zF (P:=E) zAS (o:=0) (hRk h7 hf7)
  have hsz:d'.size=B.prs.length+1:=by rw [R.sz];simp
  simp only [zJV,zA,l0,zS]
  refine ((call36 (d:=d') R.g R.l hsz (by omega)).weak).mono ?_
  rintro ⟨v2,h8⟩ C
  have hv2:=C.v
  simp only at hv2
  subst hv2
  obtain ⟨rs,hrow,hids⟩:=C.row
  simp only at hrow
  have hf8:Fx NoB k.fresh h8:=hf7.trans C.fx fun c hc=>.inr (hc ▸ h1)
  have l8:zH E 3 h8 (some (.pointer (some ⟨bR,0+0,none⟩)))=some (.int .i64 B.kind):=zF (P:=E) zAS (o:=0) (hRk h8 hf8)
  simp only [l8,zA,zC1,true_and]
  refine ((call16 (a:=B.kind) (ad:=some ⟨b2,0,none⟩) (n:=(dd d' d'.size).length) (c:=UNK+2) hf8.ok).weak).mono ?_
  rintro ⟨v3,h9⟩ ⟨hv3,hf9'⟩
  simp only at hv3
  subst hv3
  have hf9:Fx NoB k.fresh h9:=hf8.trans hf9' fun c hc=>hc.elim
  have hn7:h.next<=h7.next:=R.fx.next
  have hn8:h7.next<=h8.next:=C.fx.next
  have hn9:h8.next<=h9.next:=hf9'.next
  have q7:h7.get (k.next+1)=some (.row [.int .i64 0,.slice none 0 0] 32 0 false):=(R.fx.get _ (show k.next+1<h.next by omega) (fun h=>h6 h.symm)).trans h4
  have q8:h8.get (k.next+1)=some (.row [.int .i64 0,.slice none 0 0] 32 0 false):=(C.fx.get _ (show k.next+1<h7.next by omega) (fun h=>h6 h.symm)).trans q7
  have g9:h9.get (k.next+1)=some (.row [.int .i64 0,.slice none 0 0] 32 0 false):=(hf9'.get _ (show k.next+1<h8.next by omega) (fun h=>h)).trans q8
  have g2:h9.get b2=some (.row ((dd d' d'.size).flatMap zG++rs) 54 2 false):=(hf9'.get _ (show b2<h8.next by omega) (fun h=>h)).trans hrow
  have hst:=zw (P:=E) zbR (o:=0) (x:=.agg ⟨[.int .i64 B.kind,sl b2 (dd d' d'.size).length (UNK+2)]⟩) (cs:=[.int .i64 B.kind,sl b2 (dd d' d'.size).length (UNK+2)]) g9 rfl rfl (by simp) (by simp [zr])
  have hput:lput [Value.int .i64 0,.slice none 0 0] 0 [.int .i64 B.kind,sl b2 (dd d' d'.size).length (UNK+2)]=[.int .i64 B.kind,sl b2 (dd d' d'.size).length (UNK+2)]:=rfl
  rw [hput] at hst
  obtain ⟨m,em,nm,tm,gm⟩:∃ m,h9.upd (k.next+1) (some (.row [.int .i64 B.kind,sl b2 (dd d' d'.size).length (UNK+2)] 32 0 false))=m/\m.next=h9.next/\m.get (k.next+1)=some (.row [.int .i64 B.kind,sl b2 (dd d' d'.size).length (UNK+2)] 32 0 false)/\m.get b2=h9.get b2:=⟨_,rfl,rfl,zR _ _ _,zU h6⟩
  have hfm:Fx NoB k.fresh m:=by rw [← em];exact hf9.upd (.inr (by show k.next<=_;omega)) _
  rw [em] at hst
  simp only [zA,hst,zL]
  rw [kR_c]
  have la:zEi E 32 (ptr (k.next+1)) m=some (.agg ⟨[.int .i64 B.kind,sl b2 (dd d' d'.size).length (UNK+2)]⟩):=za (P:=E) zLv (o:=0) tm (by simp)
  rw [la,zA]
  refine ⟨zT ▸ trivial,⟨b2,dd d' d'.size,rs,rfl,h1,by omega,gm.trans g2,hids,?_,by have:=dd_len d' d'.size;omega⟩,Fx.own (Own.fresh k) hfm fun c hc=>hc.elim⟩
  have hmem:p∈d'.toList:=by
   have hp:=hP.2.2
   have e1:(d'.extract 0 (B.prs.length+1)).toList=d'.toList:=by rw [← hsz,Array.extract_size]
   have e2:(((B.prs++[p]).toArray).extract 0 (B.prs.length+1)).toList=B.prs++[p]:=by
    have:B.prs.length+1=((B.prs++[p]).toArray).size:=by simp
    rw [this,Array.extract_size]
   rw [e1,e2] at hp
   exact hp.mem_iff.2 (by simp)
  obtain ⟨q,hq⟩:=List.getElem?_of_mem hmem
  have hql:q<d'.size:=by simpa using (List.getElem?_eq_some_iff.1 hq).1
  rw [zGZ hql] at hq
  cases hq
  exact zS5 d' d'.size q hql
 refine zd9 ?_
 have l1:∀ h,Fx NoB k.fresh h->zH E 26 h (some (.pointer (some ⟨bR,0+1,none⟩)))=some vp:=fun h f=>by rw [zF (P:=E) zLw (o:=0+1) (hRk h f)];rfl
 have l2:∀ h,h.get k.next=some (.row (zG p) 54 0 false)->zH E 54 h (some (.pointer (some ⟨k.next,0,none⟩)))=some (.agg ⟨zG p⟩):=fun h f=>za (P:=E) zFZ (o:=0) f (by simp [zG])
 have t1':k2.get k.next=some (.row (zG p) 54 0 false):=(f2 _ (by omega)).trans t1
 simp only [zC7,zA,l1 k2 x2,l2 k2 t1',zS,true_and]
 constructor
 ·refine ((zTI (v:=vp) x2.ok (ha.ext (exk _ x2)) hne (by omega)).weak).mono ?_
  rintro ⟨v,h3⟩ ⟨b,hv,hb1,hb2,hb3,hf3⟩
  simp only at hv hb2 hb3 hf3
  subst hv
  have hf:Fx NoB k.fresh h3:=x2.trans hf3 fun c hc=>hc.elim
  have g1:h3.get k.next=some (.row (zG p) 54 0 false):=(hf3.get _ (by omega) (fun h=>h)).trans t1'
  have g2:h3.get (k.next+1)=some (.row [.int .i64 0,.slice none 0 0] 32 0 false):=(hf3.get _ (by omega) (fun h=>h)).trans t2
  simp only [l2 h3 g1,zA,veqp,true_and,bs26_1,zL]
  have hn3:=hf3.next
  obtain ⟨h4,e4,n4,t4,f4⟩:∃ h4,h3.new (.row (zG p) 54 0 false)=h4/\h4.next=h3.next+1/\h4.get h3.next=some (.row (zG p) 54 0 false)/\∀ c,c<h3.next->h4.get c=h3.get c:=⟨_,rfl,rfl,zI _ _,fun c hc=>zK (by omega)⟩
  have x4:Fx NoB k.fresh h4:=by rw [← e4];exact hf.new _
  have happ:=zBz elt26 (by omega) (n:=B.prs.length) ((f4 b hb2).trans hb3) (zBQ _) (by omega) t4 rfl (zH4 p)
  obtain ⟨h5,e5,n5,t5,f5⟩:∃ h5,(h4.upd b none).new (.row (B.prs.flatMap zG++zG p) 54 2 false)=h5/\h5.next=h4.next+1/\h5.get h4.next=some (.row (B.prs.flatMap zG++zG p) 54 2 false)/\∀ c,c<h4.next->c≠b->h5.get c=h4.get c:=⟨_,rfl,rfl,zI (h4.upd b none) _,fun c hc hne=>by rw [zK (by show c≠h4.next;omega),zU hne]⟩
  have x5:Fx NoB k.fresh h5:=by rw [← e5];exact (x4.upd (.inr (by show k.next<=b;omega)) _).new _
  rw [e4,happ,e5]
  simp only [zL,zA]
  refine rest h5 h4.next (by omega) (by omega) (by rw [t5];simp) x5 ?_ (by omega) (by omega)
  rw [f5 _ (by omega) (by omega),f4 _ (by omega)]
  exact g2
 ·rw [bs26_1,zL]
  obtain ⟨h4,e4,n4,t4,f4⟩:∃ h4,k2.new (.row (zG p) 54 0 false)=h4/\h4.next=k2.next+1/\h4.get k2.next=some (.row (zG p) 54 0 false)/\∀ c,c<k2.next->h4.get c=k2.get c:=⟨_,rfl,rfl,zI _ _,fun c hc=>zK (by omega)⟩
  have x4:Fx NoB k.fresh h4:=by rw [← e4];exact x2.new _
  simp only [e4,l1 h4 x4,zA]
  have hveq:veq 100 vp vp=true:=by rw [hvp];exact zB8 _ _ _ _
  refine ⟨hveq,?_⟩
  refine ((zTI (v:=vp) x4.ok (ha.ext (exk _ x4)) hne (by omega)).weak).mono ?_
  rintro ⟨v,h3⟩ ⟨b,hv,hb1,hb2,hb3,hf3⟩
  simp only at hv hb2 hb3 hf3
  subst hv
  have hn3:=hf3.next
  have hf:Fx NoB k.fresh h3:=x4.trans hf3 fun c hc=>hc.elim
  have happ:=zBz elt26 (by omega) (n:=B.prs.length) hb3 (zBQ _) (by omega) ((hf3.get _ (by omega) (fun h=>h)).trans t4) rfl (zH4 p)
  obtain ⟨h5,e5,n5,t5,f5⟩:∃ h5,(h3.upd b none).new (.row (B.prs.flatMap zG++zG p) 54 2 false)=h5/\h5.next=h3.next+1/\h5.get h3.next=some (.row (B.prs.flatMap zG++zG p) 54 2 false)/\∀ c,c<h3.next->c≠b->h5.get c=h3.get c:=⟨_,rfl,rfl,zI (h3.upd b none) _,fun c hc hne=>by rw [zK (by show c≠h3.next;omega),zU hne]⟩
  have x5:Fx NoB k.fresh h5:=by rw [← e5];exact (hf.upd (.inr (by show k.next<=b;omega)) _).new _
  rw [happ,e5]
  simp only [zL,zA]
  refine rest h5 h3.next (by omega) (by omega) (by rw [t5];simp) x5 ?_ (by omega) (by omega)
  rw [f5 _ (by omega) (by omega),hf3.get _ (by omega) (fun h=>h),f4 _ (by omega)]
  exact t2
end Go.Proofs
