import Derived.Test.YthmnhjcmefjgjaaGreatDoorXAD
set_option linter.all false
set_option linter.unusedSectionVars false
set_option autoImplicit true
set_option relaxedAutoImplicit true
set_option maxRecDepth 100000
set_option maxHeartbeats 1000000
noncomputable section
namespace Go.Proofs
open Go Go.AM
attribute [local irreducible] EvO Ev gdB gdW PI veq BrK zGG zAz zAJ zw zh zA4 zAc zDg z6 zAT zDP zBl zX zV zAX zb zAy zC4 zAm zAM zg zAG zu zCk zDs zAs zy zc zAh AH.new one E undef cst cs
variable {s:Bool} {K:KF} {h:AH} {a:Option Addr} {n c:Nat} {b d e f g i j k l m o p q r t u w x y z A B C D F G J L M N O Q S U V W X Y Z v v0 v1 v2 v3 v4 v5 v6 v7 v8 v9 v10 v11 v12 v14 v15 v16 v17 v18 v20 v21 v22 v24 v65 v66 v67 v111 v112 v113 v143 v144 v145:Value} {h1:AH} {Rp:Value->AH->Prop}
def B28:Code:=zW Tryz.f28
def C28(s:Bool):Cx:=⟨E,s,none,B28,lvs B28 [[0,1],[2,3]],[4],[]⟩
def zlD:=pt (C28 s) B28 K 0 [b,d] h
def zlC:=pt (C28 s) B28 K 1 [b,d] h
def zmB:=zz C28 28 [.tmp 4] 0 [b,d] [b,d] Tryz.f28
def B88:Code:=zW Tryz.f88
def C88(s:Bool):Cx:=⟨E,s,none,B88,lvs B88 [[0,1],[2,3],[2,3,5],[5],[2,3]],[4],[]⟩
def zjS:=pt (C88 s) B88 K 0 [b,d] h
def zjR:=pt (C88 s) B88 K 1 [b,d] h
def zjQ:=pt (C88 s) B88 K 2 [b,d,e] h
def zjP:=pt (C88 s) B88 K 3 [b] h
def zjO:=pt (C88 s) B88 K 4 [b,d] h
def zlt:=zz C88 88 [.tmp 4] 0 [b,d] [b,d] Tryz.f88
def zSm:Code:=zW Tryz.f140
def zgy(s:Bool):Cx:=⟨E,s,none,zSm,lvs zSm [[0,1],[0,1],[0,1,5],[0,1,5],[0,1,5,6],[6],[0,1,5],[0,1]],[4],[]⟩
abbrev zun(s:Bool)(K:KF)(b d e:Value)(h:AH):Prop:=PI (zgy s) K 2 [b,d,e] h
abbrev zum(s:Bool)(K:KF)(b d:Value)(h:AH):Prop:=PI (zgy s) K 7 [b,d] h
def zd7:=pt (zgy s) zSm K 0 [b,d] h
def zd6:=pt (zgy s) zSm K 1 [b,d] h
def zOP:=pt (zgy s) zSm K 2 [b,d,e] h
def zKO:=zAb zSm [1,0,1,0,0,0,0] 2 8
def zTe:=zAb zSm [1,0,1,0,0,0,0] 7 13
def zd5:=pt (zgy s) zSm K 3 [b,d,e] h
def zd4:=pt (zgy s) zSm K 4 [b,d,e,f] h
def zd3:=pt (zgy s) zSm K 5 [b] h
def zd2:=pt (zgy s) zSm K 6 [b,d,e] h
def zd1:=pt (zgy s) zSm K 7 [b,d] h
def zTd:=zAb zSm [1,1,0] 1 31
def zTc:=zAb zSm [1,1,0] 3 33
def zgY:=zz zgy 140 [.tmp 4] 0 [b,d] [b,d] Tryz.f140
def zO4:Code:=zW Tryz.f188
def zSh(s:Bool):Cx:=⟨E,s,none,zO4,lvs zO4 [[0,1],[2,3],[2,3,5],[2,3],[2,3,5],[2,3],[2,3,5],[2,3,5,6],[2,3,6],[2,3,5,6],[5]],[4],[]⟩
abbrev zny(s:Bool)(K:KF)(b d e f:Value)(h:AH):Prop:=PI (zSh s) K 7 [b,d,e,f] h
abbrev zqo(s:Bool)(K:KF)(b:Value)(h:AH):Prop:=PI (zSh s) K 10 [b] h
def zcd:=pt (zSh s) zO4 K 0 [b,d] h
def zcc:=pt (zSh s) zO4 K 1 [b,d] h
def zcb:=pt (zSh s) zO4 K 2 [b,d,e] h
def zca:=pt (zSh s) zO4 K 3 [b,d] h
def zOB:=pt (zSh s) zO4 K 4 [b,d,e] h
def zcZ:=pt (zSh s) zO4 K 5 [b,d] h
def zTW:=zAb zO4 [1,1,1,0,1,0] 2 22
def zTV:=zAb zO4 [1,1,1,0,1,0] 5 25
def zJS:=pt (zSh s) zO4 K 6 [b,d,e] h
def zJR:=pt (zSh s) zO4 K 7 [b,d,e,f] h
def zG2:=zAb zO4 [1,1,1,1,0,1,0,0,0,0] 3 30
def zcY:=pt (zSh s) zO4 K 8 [b,d,e] h
def zcX:=pt (zSh s) zO4 K 9 [b,d,e,f] h
def zT8:=pt (zSh s) zO4 K 10 [b] h
def zgB:=zz zSh 188 [.tmp 4] 0 [b,d] [b,d] Tryz.f188
def zn4:Code:=zW Tryz.f232
def zrB(s:Bool):Cx:=⟨E,s,none,zn4,lvs zn4 [[0,1],[0,1],[],[0,1],[],[]],[4],[]⟩
def zbb:=pt (zrB s) zn4 K 0 [b,d] h
def zba:=pt (zrB s) zn4 K 1 [b,d] h
def zbZ:=pt (zrB s) zn4 K 2 [] h
def zbY:=pt (zrB s) zn4 K 3 [b,d] h
def zbX:=pt (zrB s) zn4 K 4 [] h
def zbW:=pt (zrB s) zn4 K 5 [] h
def zf4:=zz zrB 232 [.tmp 4] 0 [b,d] [b,d] Tryz.f232
def zvD:Code:=zW Tryz.f264
def zvY(s:Bool):Cx:=⟨E,s,none,zvD,lvs zvD [[0],[1],[1,4]],[2],[]⟩
def za3:=pt (zvY s) zvD K 0 [b] h
def za2:=pt (zvY s) zvD K 1 [b] h
def za1:=pt (zvY s) zvD K 2 [b,d] h
def zVC:=zCK zvY 264 [.tmp 2] 0 [b] [b] Tryz.f264
def zrQ:Code:=zW Tryz.f231
def zvB(s:Bool):Cx:=⟨E,s,none,zrQ,lvs zrQ [[0],[1],[],[]],[2],[]⟩
def zbf:=pt (zvB s) zrQ K 0 [b] h
def zbe:=pt (zvB s) zrQ K 1 [b] h
def zbd:=pt (zvB s) zrQ K 2 [] h
def zbc:=pt (zvB s) zrQ K 3 [] h
def zVF:=zCK zvB 231 [.tmp 2] 0 [b] [b] Tryz.f231
def zQa:Code:=zW Tryz.f280
def zME(s:Bool):Cx:=⟨E,s,none,zQa,lvs zQa [[0,1,2],[1,2,3],[1,2,3],[1],[1,2,3],[1,2,3,8],[1,2,3,8],[2,3,8,9,10],[1,2,3,8,10],[1],[1,2,3,8],[1]],[6,7],[]⟩
abbrev zuL(s:Bool)(K:KF)(b:Value)(h:AH):Prop:=PI (zME s) K 3 [b] h
abbrev zuK(s:Bool)(K:KF)(b d e:Value)(h:AH):Prop:=PI (zME s) K 4 [b,d,e] h
abbrev zuJ(s:Bool)(K:KF)(b d e f:Value)(h:AH):Prop:=PI (zME s) K 5 [b,d,e,f] h
abbrev zuI(s:Bool)(K:KF)(b:Value)(h:AH):Prop:=PI (zME s) K 9 [b] h
abbrev zqm(s:Bool)(K:KF)(b:Value)(h:AH):Prop:=PI (zME s) K 11 [b] h
def zap:=pt (zME s) zQa K 0 [b,d,e] h
def zao:=pt (zME s) zQa K 1 [b,d,e] h
def zan:=pt (zME s) zQa K 2 [b,d,e] h
def zam:=pt (zME s) zQa K 3 [b] h
def zal:=pt (zME s) zQa K 4 [b,d,e] h
def zNs:=pt (zME s) zQa K 5 [b,d,e,f] h
def zKF:=zAb zQa [1,1,1,0,1,0,0,0,0] 3 22
def zak:=pt (zME s) zQa K 6 [b,d,e,f] h
def zaj:=pt (zME s) zQa K 7 [d,e,f,g,b] h
def zai:=pt (zME s) zQa K 8 [d,e,f,g,b] h
def zah:=pt (zME s) zQa K 9 [b] h
def zT3:=pt (zME s) zQa K 10 [b,d,e,f] h
def zT2:=pt (zME s) zQa K 11 [b] h
def zVB:=zCK zME 280 [.tmp 6,.tmp 7] 0 [b,d,e] [b,d,e] Tryz.f280
def zSj:Code:=zW Tryz.f281
def zQZ(s:Bool):Cx:=⟨E,s,none,zSj,lvs zSj [[0],[1],[],[1],[1,3],[1,3],[],[1,3],[]],[2],[]⟩
abbrev zuH(s:Bool)(K:KF)(h:AH):Prop:=PI (zQZ s) K 2 [] h
abbrev zuG(s:Bool)(K:KF)(b:Value)(h:AH):Prop:=PI (zQZ s) K 3 [b] h
abbrev zuF(s:Bool)(K:KF)(b d:Value)(h:AH):Prop:=PI (zQZ s) K 4 [b,d] h
abbrev zuE(s:Bool)(K:KF)(h:AH):Prop:=PI (zQZ s) K 6 [] h
abbrev zuD(s:Bool)(K:KF)(h:AH):Prop:=PI (zQZ s) K 8 [] h
def zag:=pt (zQZ s) zSj K 0 [b] h
def zaf:=pt (zQZ s) zSj K 1 [b] h
def zPW:=zAb zSj [1,0,0] 20 23
def zPV:=zAb zSj [1,0,0] 27 30
def zae:=pt (zQZ s) zSj K 2 [] h
def zad:=pt (zQZ s) zSj K 3 [b] h
def zNr:=pt (zQZ s) zSj K 4 [b,d] h
def zKE:=zAb zSj [1,1,0,1,0,0,0,0] 3 36
def zac:=pt (zQZ s) zSj K 5 [b,d] h
def zab:=pt (zQZ s) zSj K 6 [] h
def zaa:=pt (zQZ s) zSj K 7 [b,d] h
def zaZ:=pt (zQZ s) zSj K 8 [] h
def zVA:=zCK zQZ 281 [.tmp 2] 0 [b] [b] Tryz.f281
def zvg:Code:=zW Tryz.f187
def zxz(s:Bool):Cx:=⟨E,s,none,zvg,lvs zvg [[0],[1]],[2],[]⟩
def zcf:=pt (zxz s) zvg K 0 [b] h
def zce:=pt (zxz s) zvg K 1 [b] h
def zVK:=zCK zxz 187 [.tmp 2] 0 [b] [b] Tryz.f187
def zSk:Code:=zW Tryz.f230
def zO0(s:Bool):Cx:=⟨E,s,none,zSk,lvs zSk [[0],[1],[],[1],[1,3],[1,3],[1,3,4],[],[1,3],[]],[2],[]⟩
abbrev zuU(s:Bool)(K:KF)(h:AH):Prop:=PI (zO0 s) K 2 [] h
abbrev zuT(s:Bool)(K:KF)(b:Value)(h:AH):Prop:=PI (zO0 s) K 3 [b] h
abbrev zuS(s:Bool)(K:KF)(b d:Value)(h:AH):Prop:=PI (zO0 s) K 4 [b,d] h
abbrev zuR(s:Bool)(K:KF)(h:AH):Prop:=PI (zO0 s) K 7 [] h
abbrev zuQ(s:Bool)(K:KF)(h:AH):Prop:=PI (zO0 s) K 9 [] h
def zbo:=pt (zO0 s) zSk K 0 [b] h
def zbn:=pt (zO0 s) zSk K 1 [b] h
def zPZ:=zAb zSk [1,0,0] 16 20
def zbm:=pt (zO0 s) zSk K 2 [] h
def zbl:=pt (zO0 s) zSk K 3 [b] h
def zNv:=pt (zO0 s) zSk K 4 [b,d] h
def zKH:=zAb zSk [1,1,0,1,0,0,0,0] 3 26
def zbk:=pt (zO0 s) zSk K 5 [b,d] h
def zbj:=pt (zO0 s) zSk K 6 [b,d,e] h
def zbi:=pt (zO0 s) zSk K 7 [] h
def zbh:=pt (zO0 s) zSk K 8 [b,d] h
def zbg:=pt (zO0 s) zSk K 9 [] h
def zVG:=zCK zO0 230 [.tmp 2] 0 [b] [b] Tryz.f230
def zOt:Code:=zW Tryz.f138
def zLA(s:Bool):Cx:=⟨E,s,none,zOt,lvs zOt [[0],[1],[],[1],[],[1],[1,3],[1,3],[1,3,4],[],[1,3],[]],[2],[]⟩
abbrev zut(s:Bool)(K:KF)(h:AH):Prop:=PI (zLA s) K 2 [] h
abbrev zus(s:Bool)(K:KF)(b:Value)(h:AH):Prop:=PI (zLA s) K 3 [b] h
abbrev zur(s:Bool)(K:KF)(h:AH):Prop:=PI (zLA s) K 4 [] h
abbrev zuq(s:Bool)(K:KF)(b:Value)(h:AH):Prop:=PI (zLA s) K 5 [b] h
abbrev zup(s:Bool)(K:KF)(b d:Value)(h:AH):Prop:=PI (zLA s) K 6 [b,d] h
abbrev zuo(s:Bool)(K:KF)(h:AH):Prop:=PI (zLA s) K 9 [] h
abbrev zqq(s:Bool)(K:KF)(h:AH):Prop:=PI (zLA s) K 11 [] h
def zeM:=pt (zLA s) zOt K 0 [b] h
def zeL:=pt (zLA s) zOt K 1 [b] h
def zPd:=zAb zOt [1,0,0] 11 15
def zeK:=pt (zLA s) zOt K 2 [] h
def zeJ:=pt (zLA s) zOt K 3 [b] h
def zPc:=zAb zOt [1,1,0,0] 11 29
def zeI:=pt (zLA s) zOt K 4 [] h
def zeH:=pt (zLA s) zOt K 5 [b] h
def zOQ:=pt (zLA s) zOt K 6 [b,d] h
def zKP:=zAb zOt [1,1,1,0,1,0,0,0,0] 3 35
def zeG:=pt (zLA s) zOt K 7 [b,d] h
def zeF:=pt (zLA s) zOt K 8 [b,d,e] h
def zeE:=pt (zLA s) zOt K 9 [] h
def zUR:=pt (zLA s) zOt K 10 [b,d] h
def zUQ:=pt (zLA s) zOt K 11 [] h
def zVO:=zCK zLA 138 [.tmp 2] 0 [b] [b] Tryz.f138
def zn5:Code:=zW Tryz.f139
def zrC(s:Bool):Cx:=⟨E,s,none,zn5,lvs zn5 [[0,1],[2,3],[2,3],[2,3],[2,3],[2,3]],[4],[]⟩
def zeD:=pt (zrC s) zn5 K 0 [b,d] h
def zeC:=pt (zrC s) zn5 K 1 [b,d] h
def zeB:=pt (zrC s) zn5 K 2 [b,d] h
def zeA:=pt (zrC s) zn5 K 3 [b,d] h
def zd9:=pt (zrC s) zn5 K 4 [b,d] h
def zd8:=pt (zrC s) zn5 K 5 [b,d] h
def zgZ:=zz zrC 139 [.tmp 4] 0 [b,d] [b,d] Tryz.f139
def B85:Code:=zW Tryz.f85
def C85(s:Bool):Cx:=⟨E,s,none,B85,lvs B85 [[0],[1],[],[1],[1,3],[1,3],[1,3,4],[],[1,3],[],[1,3],[1],[1,5],[1,5],[1,5,6],[],[1,5,6],[],[1,5],[]],[2],[]⟩
abbrev zxd(s:Bool)(K:KF)(h:AH):Prop:=PI (C85 s) K 2 [] h
abbrev zxc(s:Bool)(K:KF)(b:Value)(h:AH):Prop:=PI (C85 s) K 3 [b] h
abbrev zxb(s:Bool)(K:KF)(b d:Value)(h:AH):Prop:=PI (C85 s) K 4 [b,d] h
abbrev zxa(s:Bool)(K:KF)(h:AH):Prop:=PI (C85 s) K 7 [] h
abbrev zxZ(s:Bool)(K:KF)(h:AH):Prop:=PI (C85 s) K 9 [] h
abbrev zt9(s:Bool)(K:KF)(b d:Value)(h:AH):Prop:=PI (C85 s) K 10 [b,d] h
abbrev zt8(s:Bool)(K:KF)(b d:Value)(h:AH):Prop:=PI (C85 s) K 12 [b,d] h
abbrev zt7(s:Bool)(K:KF)(h:AH):Prop:=PI (C85 s) K 15 [] h
abbrev zt6(s:Bool)(K:KF)(b d e:Value)(h:AH):Prop:=PI (C85 s) K 16 [b,d,e] h
abbrev zt5(s:Bool)(K:KF)(b d:Value)(h:AH):Prop:=PI (C85 s) K 18 [b,d] h
def zji:=pt (C85 s) B85 K 0 [b] h
def zjh:=pt (C85 s) B85 K 1 [b] h
def zTH:=zAb B85 [1,0,0] 11 17
def zTG:=zAb B85 [1,0,0] 17 23
def zjg:=pt (C85 s) B85 K 2 [] h
def zjf:=pt (C85 s) B85 K 3 [b] h
def zR8:=pt (C85 s) B85 K 4 [b,d] h
def zMv:=zAb B85 [1,1,0,1,0,0,0,0] 3 29
def zje:=pt (C85 s) B85 K 5 [b,d] h
def zjd:=pt (C85 s) B85 K 6 [b,d,e] h
def zjc:=pt (C85 s) B85 K 7 [] h
def zjb:=pt (C85 s) B85 K 8 [b,d] h
def zja:=pt (C85 s) B85 K 9 [] h
def zZT:=pt (C85 s) B85 K 10 [b,d] h
def zZS:=pt (C85 s) B85 K 11 [b] h
def zNj:=pt (C85 s) B85 K 12 [b,d] h
def zKA:=zAb B85 [1,1,1,0,1,0,0,0,0] 3 61
def zZR:=pt (C85 s) B85 K 13 [b,d] h
def zZQ:=pt (C85 s) B85 K 14 [b,d,e] h
def zPU:=zAb B85 [1,1,1,0,1,0,0,1,0,0,1,0,0] 32 102
def zZP:=pt (C85 s) B85 K 15 [] h
def zZO:=pt (C85 s) B85 K 16 [b,d,e] h
def zZN:=pt (C85 s) B85 K 17 [] h
def zZM:=pt (C85 s) B85 K 18 [b,d] h
def zZL:=pt (C85 s) B85 K 19 [] h
def zfr:=zCK C85 85 [.tmp 2] 0 [b] [b] Tryz.f85
def B23:Code:=zW Tryz.f23
def C23(s:Bool):Cx:=⟨E,s,none,B23,lvs B23 [[0],[1],[3],[],[]],[2],[]⟩
def zlP:=pt (C23 s) B23 K 0 [b] h
def zlO:=pt (C23 s) B23 K 1 [b] h
def zlN:=pt (C23 s) B23 K 2 [b] h
def zlM:=pt (C23 s) B23 K 3 [] h
def zlL:=pt (C23 s) B23 K 4 [] h
def zf3:=zCK C23 23 [.tmp 2] 0 [b] [b] Tryz.f23
def B24:Code:=zW Tryz.f24
def C24(s:Bool):Cx:=⟨E,s,none,B24,lvs B24 [[0],[1],[1,3],[1,3,4],[1,3,4],[1,3,4,5],[1,3,4],[3]],[2],[]⟩
abbrev zxm(s:Bool)(K:KF)(b d e:Value)(h:AH):Prop:=PI (C24 s) K 3 [b,d,e] h
def zlK:=pt (C24 s) B24 K 0 [b] h
def zlJ:=pt (C24 s) B24 K 1 [b] h
def zlI:=pt (C24 s) B24 K 2 [b,d] h
def zSb:=pt (C24 s) B24 K 3 [b,d,e] h
def zMz:=zAb B24 [1,1,0,1,0,0,0,0] 3 11
def zlH:=pt (C24 s) B24 K 4 [b,d,e] h
def zlG:=pt (C24 s) B24 K 5 [b,d,e,f] h
def zlF:=pt (C24 s) B24 K 6 [b,d,e] h
def zlE:=pt (C24 s) B24 K 7 [b] h
def zmC:=zDR C24 24 [.tmp 2] 0 [b] [b] Tryz.f24
def B87:Code:=zW Tryz.f87
def C87(s:Bool):Cx:=⟨E,s,none,B87,lvs B87 [[0,1],[0,1],[0,1,7,8],[0,1,7,8],[0,1,5,7,8],[5],[0,1,7,8],[]],[4],[]⟩
abbrev zxY(s:Bool)(K:KF)(b d e f:Value)(h:AH):Prop:=PI (C87 s) K 2 [b,d,e,f] h
def zjZ:=pt (C87 s) B87 K 0 [b,d] h
def zjY:=pt (C87 s) B87 K 1 [b,d] h
def zW7:=zAb B87 [1,0,0] 1 6
def zR7:=pt (C87 s) B87 K 2 [b,d,e,f] h
def zjX:=pt (C87 s) B87 K 3 [b,d,e,f] h
def zjW:=pt (C87 s) B87 K 4 [b,d,e,f,g] h
def zjV:=pt (C87 s) B87 K 5 [b] h
def zjU:=pt (C87 s) B87 K 6 [b,d,e,f] h
def zjT:=pt (C87 s) B87 K 7 [] h
def zlu:=zz C87 87 [.tmp 4] 0 [b,d] [b,d] Tryz.f87
def B19:Code:=zW Tryz.f19
def C19(s:Bool):Cx:=⟨E,s,none,B19,lvs B19 [[0],[0]],[2],[]⟩
def zlT:=pt (C19 s) B19 K 0 [b] h
def zlS:=pt (C19 s) B19 K 1 [b] h
def zmE:=zz C19 19 [.tmp 2] 0 [b] [b] Tryz.f19
def B74:Code:=zW Tryz.f74
def C74(s:Bool):Cx:=⟨E,s,none,B74,lvs B74 [[0,1],[0,1]],[4],[]⟩
def zjx:=pt (C74 s) B74 K 0 [b,d] h
def zjw:=pt (C74 s) B74 K 1 [b,d] h
def zlx:=zz C74 74 [.tmp 4] 0 [b,d] [b,d] Tryz.f74
def B75:Code:=zW Tryz.f75
def C75(s:Bool):Cx:=⟨E,s,none,B75,lvs B75 [[0],[1]],[2],[]⟩
def zjv:=pt (C75 s) B75 K 0 [b] h
def zju:=pt (C75 s) B75 K 1 [b] h
def zXB:=zAb B75 [1,0] 2 4
def zlw:=zz C75 75 [.tmp 2] 0 [b] [b] Tryz.f75
def zg6:Code:=zW Tryz.f126
def zhJ(s:Bool):Cx:=⟨E,s,none,zg6,lvs zg6 [[0,1],[0,1],[0,1,7,8],[0,1,7,8],[0,1,5,7,8],[5],[0,1,7,8],[]],[4],[]⟩
abbrev zuu(s:Bool)(K:KF)(b d e f:Value)(h:AH):Prop:=PI (zhJ s) K 2 [b,d,e,f] h
def zeY:=pt (zhJ s) zg6 K 0 [b,d] h
def zeX:=pt (zhJ s) zg6 K 1 [b,d] h
def zTf:=zAb zg6 [1,0,0] 1 6
def zOW:=pt (zhJ s) zg6 K 2 [b,d,e,f] h
def zeW:=pt (zhJ s) zg6 K 3 [b,d,e,f] h
def zeV:=pt (zhJ s) zg6 K 4 [b,d,e,f,g] h
def zeU:=pt (zhJ s) zg6 K 5 [b] h
def zeT:=pt (zhJ s) zg6 K 6 [b,d,e,f] h
def zeS:=pt (zhJ s) zg6 K 7 [] h
def zge:=zz zhJ 126 [.tmp 4] 0 [b,d] [b,d] Tryz.f126
def B5:Code:=zW Tryz.f5
end Go.Proofs
namespace Go.Proofs
open Go Go.AM
attribute [local irreducible] EvO Ev gdB gdW PI veq BrK zGG zAz zAJ zw zh zA4 zAc zDg z6 zAT zDP zBl zX zV zAX zb zAy zC4 zAm zAM zg zAG zu zCk zDs zAs zy zc zAh AH.new one E undef cst cs
variable {s:Bool} {K:KF} {h:AH} {a:Option Addr} {n c:Nat} {b d e f g i j k l m o p q r t u w x y z A B C D F G J L M N O Q S U V W X Y Z v v0 v1 v2 v3 v4 v5 v8 v9 v10 v11 v12 v13 v14 v15 v16 v17 v18 v19 v20 v55:Value} {h1:AH} {Rp:Value->AH->Prop}
def zO5:Code:=zW Tryz.f153
def zgx(s:Bool):Cx:=⟨E,s,none,zO5,lvs zO5 [[0],[0,2],[0],[0],[0,2],[0,2],[0,2],[0,2],[0,2],[0,2],[0,2]],[2],[]⟩
abbrev zqp(s:Bool)(K:KF)(b d:Value)(h:AH):Prop:=PI (zgx s) K 10 [b,d] h
def zJZ:=pt (zgx s) zO5 K 0 [b] h
def zJY:=pt (zgx s) zO5 K 1 [b,d] h
def zJX:=pt (zgx s) zO5 K 4 [b,d] h
def zdm:=pt (zgx s) zO5 K 5 [b,d] h
def zdl:=pt (zgx s) zO5 K 6 [b,d] h
def zJW:=pt (zgx s) zO5 K 7 [b,d] h
def zdk:=pt (zgx s) zO5 K 8 [b,d] h
def zdj:=pt (zgx s) zO5 K 9 [b,d] h
def zUP(H :
 EvO (zh E (zAc [(20,b)]) (zA4 zO5 [1,1,1,1,0] 2) h) λ e=>
 EvO (zBl E 9 (some (.string ⟨#[0,1,2,2,3,3,3,3,4,4,4,4,4,4,4,4,5,5,5,5,5,5,5,5,5,5,5,5,5,5,5,5,6,6,6,6,6,6,6,6,6,6,6,6,6,6,6,6,6,6,6,6,6,6,6,6,6,6,6,6,6,6,6,6,7,7,7,7,7,7,7,7,7,7,7,7,7,7,7,7,7,7,7,7,7,7,7,7,7,7,7,7,7,7,7,7,7,7,7,7,7,7,7,7,7,7,7,7,7,7,7,7,7,7,7,7,7,7,7,7,7,7,7,7,7,7,7,7,8,8,8,8,8,8,8,8,8,8,8,8,8,8,8,8,8,8,8,8,8,8,8,8,8,8,8,8,8,8,8,8,8,8,8,8,8,8,8,8,8,8,8,8,8,8,8,8,8,8,8,8,8,8,8,8,8,8,8,8,8,8,8,8,8,8,8,8,8,8,8,8,8,8,8,8,8,8,8,8,8,8,8,8,8,8,8,8,8,8,8,8,8,8,8,8,8,8,8,8,8,8,8,8,8,8,8,8,8,8,8,8,8,8,8,8,8,8,8,8,8,8,8,8,8,8,8,8]⟩)) e) λ f=>
 EvO (zh E (zAc [(22,f)]) (zA4 zO5 [1,1,1,1,0] 4) h) λ g=>
 EvO (zAJ E .add 3 d g) λ i=>
 K .ret [i] h):PI (zgx s) K 10 [b,d] h:=zCC H
def zHK:=zCK zgx 153 [.tmp 2] 0 [b] [b] Tryz.f153
def B93:Code:=zW Tryz.f93
def C93(s:Bool):Cx:=⟨E,s,none,B93,lvs B93 [[0],[0],[0]],[2],[]⟩
def ziy:=pt (C93 s) B93 K 0 [b] h
def zix:=pt (C93 s) B93 K 2 [b] h
def zfq:=zDv C93 93 [.tmp 2] 0 [b] [b] Tryz.f93
end Go.Proofs
namespace Go.Proofs
open Go Go.AM
def zwC:tAS E 49=some (false,1):=by kernel_rfl
attribute [local irreducible] EvO Ev gdB gdW PI veq BrK zGG zAz zAJ zw zh zA4 zAc zDg z6 zAT zDP zBl zX zV zAX zb zAy zC4 zAm zAM zg zAG zu zCk zDs zAs zy zc zAh AH.new one E undef cst cs
variable {s:Bool} {K:KF} {h:AH} {a:Option Addr} {n c:Nat} {b d e f g i j k l m o p q r t u w x y z A B C D F G J L M N O Q S U V W X Y Z v v0 v1 v2 v3 v4 v5 v6 v7 v8 v9 v10 v11 v12 v13 v14 v15 v16 v17 v18 v19 v20 v21 v22 v23 v24 v25 v26 v27 v37 v38 v39 v40 v47 v48 v49 v56 v57 v58 v65 v66 v67 v73 v74 v75:Value} {h1:AH} {Rp:Value->AH->Prop}
def zg7:Code:=zW Tryz.f106
def zg0(s:Bool):Cx:=⟨E,s,none,zg7,lvs zg7 [[0,1],[0,1,4],[4],[0,1,4],[1,4,6],[4,6,13,14],[4,6,13,14],[4,6,7,13,14],[4,6,13,14],[4,6]],[4,5],[]⟩
def ze9:=pt (zg0 s) zg7 K 0 [b,d] h
def ze8:=pt (zg0 s) zg7 K 1 [b,d,e] h
def ze7:=pt (zg0 s) zg7 K 3 [b,d,e] h
def ze6:=pt (zg0 s) zg7 K 4 [b,d,e] h
def zOb:=pt (zg0 s) zg7 K 5 [e,f,b,d] h
def ze5:=pt (zg0 s) zg7 K 6 [e,f,b,d] h
def ze4:=pt (zg0 s) zg7 K 7 [e,f,g,b,d] h
def ze3:=pt (zg0 s) zg7 K 8 [e,f,b,d] h
def ze2:=pt (zg0 s) zg7 K 9 [b,d] h
def zgl:=zDR zg0 106 [.cell 4 32,.tmp 5] 0 [b,d] [b,d] Tryz.f106
def B53:Code:=zW Tryz.f53
def C53(s:Bool):Cx:=⟨E,s,none,B53,lvs B53 [[0,1],[0,3,4],[0,3,4,6],[4,6],[0,3,4],[4],[0,3,4]],[4,5],[]⟩
def zSM:=pt (C53 s) B53 K 0 [b,d] h
def zSL:=pt (C53 s) B53 K 1 [b,d,e] h
def zSK:=pt (C53 s) B53 K 2 [b,d,e,f] h
def zkb:=pt (C53 s) B53 K 3 [b,d] h
def zSJ:=pt (C53 s) B53 K 4 [b,d,e] h
def zka:=pt (C53 s) B53 K 5 [b] h
def zkZ:=pt (C53 s) B53 K 6 [b,d,e] h
def zu7(H:PI (C53 s) (KR E [.cell 4 32,.tmp 5] Rp) 0 [v0,v1] h):EvC E s Tryz.f53 [v0,v1] h Rp:=zHp (C53 s) H
def zq2:E.tab.fn.get 53=some Tryz.f53:=by kernel_rfl
def zl7:Tryz.f53.body=some B53:=by kernel_rfl
def zq1(l:List Value)(h:AH):E.sum 53 l h=none:=by kernel_rfl
def zl6:=zDR C53 53 [.cell 4 32,.tmp 5] 0 [b,d] [b,d] Tryz.f53
end Go.Proofs
namespace Go.Proofs
open Go Go.AM
def zrq:tAS E 110=some (false,1):=by kernel_rfl
def zh2{b o:Nat}:zX E 112 1 (some (.pointer (some ⟨b,o,none⟩)))=some (.pointer (some ⟨b,o+1,none⟩)):=by kernel_rfl
attribute [local irreducible] EvO Ev gdB gdW PI veq BrK zGG zAz zAJ zw zh zA4 zAc zDg z6 zAT zDP zBl zX zV zAX zb zAy zC4 zAm zAM zg zAG zu zCk zDs zAs zy zc zAh AH.new one E undef cst cs
variable {s:Bool} {K:KF} {h:AH} {a:Option Addr} {n c:Nat} {b d e f g i j k l m o p q r t u w x y z A B C D F G J L M N O Q S U V W X Y Z v v0 v1 v2 v3 v4 v5 v6 v7 v8 v9 v10 v11 v12 v13 v14 v15 v16 v17 v18 v19 v20 v21 v22 v23 v32 v33 v34 v48 v49 v50 v51 v53 v54 v55 v56 v57 v62 v63 v64 v88 v89 v90:Value} {h1:AH} {Rp:Value->AH->Prop}
def zvb:Code:=zW Tryz.f248
def zxt(s:Bool):Cx:=⟨E,s,none,zvb,lvs zvb [[0,1,2,3],[0,1,2,3,8],[0,1,2,3,8],[0,1,2,3,8,9],[0,1,2,3,8,9],[0,1,2,3,8,9],[0,1,2,3,8]],[],[]⟩
def za5:=pt (zxt s) zvb K 0 [b,d,e,f] h
def za4:=pt (zxt s) zvb K 1 [b,d,e,f,g] h
def zVD:=zDv zxt 248 [] 0 [b,d,e,f] [b,d,e,f] Tryz.f248
def zrD:Code:=zW Tryz.f221
def zrP(s:Bool):Cx:=⟨E,s,none,zrD,lvs zrD [[0,1,2,3,4],[0,1,2,3,4,10],[0,1,2,3,4,10,11],[0,1,2,3,4,10,11,12],[0,1,2,4],[0,1,2,3,4,10,11,12],[0,1,2,4],[0,1,2,3,4,10,11,12],[0,1,2,3,4,10,11,12],[0,1,2,3,4,10,11,12],[0,1,2,3,4,10,11,12],[0,1,2,3,4,10,11,12,13,14],[0,1,2,3,4,10,11,12,13],[0,1,2,3,4,10,11,12,13],[0,1,2,3,4,10,11,12,13],[0,1,2,3,4,10,11,12,13,14],[0,1,2,3,4,10,11,12,13],[0,1,2,3,4,10,11,12,13],[0,1,2,3,4,10,11,13],[0,2,3,4,10,11,15],[0,1,2,3,4,12,13],[0,1,2,3,4,12,16,17],[0,1,2,3,4,11,12,16],[0,1,2,3,4,11,12,16,18,19],[0,1,2,3,4,11,16,18,19,20],[0,1,2,3,4,11,16,18,20],[0,1,2,3,4,10,11,16],[0,2,3,4,10,11,16],[0,1,2,3,4,11,16,19,20],[0,1,2,3,4,10,11,16],[0,1,3,4,10,11,16]],[],[]⟩
def zbt:=pt (zrP s) zrD K 0 [b,d,e,f,g] h
def zbs:=pt (zrP s) zrD K 1 [d,e,f,g,i,b] h
def zbr:=pt (zrP s) zrD K 2 [e,f,g,i,j,b,d] h
def zbq:=pt (zrP s) zrD K 3 [f,g,i,j,k,b,d,e] h
def zbp:=pt (zrP s) zrD K 4 [b,d,e,f] h
def zVH:=zDv zrP 221 [] 0 [b,d,e,f,g] [b,d,e,f,g] Tryz.f221
def zrE:Code:=zW Tryz.f175
def zvZ(s:Bool):Cx:=⟨E,s,none,zrE,lvs zrE [[0,1],[0,1,4]],[],[]⟩
def zcx:=pt (zvZ s) zrE K 0 [b,d] h
def zTX:=zAb zrE [0] 1 5
def zcw:=pt (zvZ s) zrE K 1 [b,d,e] h
def zmF:E.tab.fn.get 175=some Tryz.f175:=by kernel_rfl
def zgG:Tryz.f175.body=some zrE:=by kernel_rfl
def zVN(hs:E.sum 175 [v0,v1] h=none)(aa:h.ok)(hv:zm v=true)(H:PI (zvZ true) (KR E [] λ x k=>x=v/\h.qa<=k.wm) 0 [v0,v1] h.qb):(zc E).call 175 [v0,v1] h=some [(v,h)]:=znN Tryz.f175 aa hv (zHp (zvZ true) H) (h3:=hs)
def zF2:Code:=zW Tryz.f177
def zJp(s:Bool):Cx:=⟨E,s,none,zF2,lvs zF2 [[0],[0],[0],[0],[0,3],[0,3],[0,3],[0,3,4],[0,3,4,5],[0,3,4,5],[0,3,4,5],[0,3,4,5],[0,3,4,5],[0,3],[0,3],[0,3],[0]],[2],[]⟩
abbrev zue(s:Bool)(K:KF)(b d:Value)(h:AH):Prop:=PI (zJp s) K 4 [b,d] h
abbrev zud(s:Bool)(K:KF)(b d e f:Value)(h:AH):Prop:=PI (zJp s) K 8 [b,d,e,f] h
def zOI:=pt (zJp s) zF2 K 0 [b] h
def zOH:=pt (zJp s) zF2 K 1 [b] h
def zKL:=zAb zF2 [1,0,0] 1 6
def zOG:=pt (zJp s) zF2 K 2 [b] h
def zct:=pt (zJp s) zF2 K 3 [b] h
def zOF:=pt (zJp s) zF2 K 4 [b,d] h
def zKK:=zAb zF2 [1,1,0,1,0,0,0,0] 2 11
def zcs:=pt (zJp s) zF2 K 5 [b,d] h
def zcr:=pt (zJp s) zF2 K 6 [b,d] h
def zcq:=pt (zJp s) zF2 K 7 [b,d,e] h
def zOE:=pt (zJp s) zF2 K 8 [b,d,e,f] h
def zKJ:=zAb zF2 [1,1,0,1,0,0,1,0,0,1,0,1,0,1,0,0,0,0] 2 30
def zcp:=pt (zJp s) zF2 K 9 [b,d,e,f] h
def zUG:=pt (zJp s) zF2 K 10 [b,d,e,f] h
def zUF:=pt (zJp s) zF2 K 11 [b,d,e,f] h
def zK2:=pt (zJp s) zF2 K 12 [b,d,e,f] h
def zUE:=pt (zJp s) zF2 K 13 [b,d] h
def zUD:=pt (zJp s) zF2 K 14 [b,d] h
def zUC:=pt (zJp s) zF2 K 15 [b,d] h
def zUB:=pt (zJp s) zF2 K 16 [b] h
def zVM:=zDv zJp 177 [.tmp 2] 0 [b] [b] Tryz.f177
def zgE:=zDR zJp 177 [.tmp 2] 0 [b] [b] Tryz.f177
def zvi:Code:=zW Tryz.f176
def zx2(s:Bool):Cx:=⟨E,s,none,zvi,lvs zvi [[0,1],[2,3]],[4],[]⟩
def zcv:=pt (zx2 s) zvi K 0 [b,d] h
def zcu:=pt (zx2 s) zvi K 1 [b,d] h
def zgF:=zz zx2 176 [.tmp 4] 0 [b,d] [b,d] Tryz.f176
def B91:Code:=zW Tryz.f91
def C91(s:Bool):Cx:=⟨E,s,none,B91,lvs B91 [[0,1],[0,1],[],[0,1],[0,1,12,13],[0,1,12,13],[0,1,5,12,13],[],[0,1,12,13],[]],[4],[]⟩
def zi7:=pt (C91 s) B91 K 0 [b,d] h
def zi6:=pt (C91 s) B91 K 1 [b,d] h
def zW3:=zAb B91 [1,0,0] 1 6
def zW2:=zAb B91 [1,0,0] 3 8
def zi5:=pt (C91 s) B91 K 2 [] h
def zi4:=pt (C91 s) B91 K 3 [b,d] h
def zW1:=zAb B91 [1,1,0,0] 1 11
def zR3:=pt (C91 s) B91 K 4 [e,f,b,d] h
def zi3:=pt (C91 s) B91 K 5 [e,f,b,d] h
def zi2:=pt (C91 s) B91 K 6 [e,f,g,b,d] h
def zi1:=pt (C91 s) B91 K 7 [] h
def zi0:=pt (C91 s) B91 K 8 [e,f,b,d] h
def ziz:=pt (C91 s) B91 K 9 [] h
def zlq:=zz C91 91 [.tmp 4] 0 [b,d] [b,d] Tryz.f91
def zvq:Code:=zW Tryz.f142
def zyB(s:Bool):Cx:=⟨E,s,none,zvq,lvs zvq [[0],[0]],[2],[]⟩
def zdy:=pt (zyB s) zvq K 0 [b] h
def zdx:=pt (zyB s) zvq K 1 [b] h
def zgW:=zz zyB 142 [.tmp 2] 0 [b] [b] Tryz.f142
def zg3:Code:=zW Tryz.f189
def zhH(s:Bool):Cx:=⟨E,s,none,zg3,lvs zg3 [[0,1],[0,1],[0,1,7,8],[0,1,7,8],[0,1,5,7,8],[5],[0,1,7,8],[]],[4],[]⟩
def zcW:=pt (zhH s) zg3 K 0 [b,d] h
def zcV:=pt (zhH s) zg3 K 1 [b,d] h
def zTU:=zAb zg3 [1,0,0] 1 6
def zOA:=pt (zhH s) zg3 K 2 [b,d,e,f] h
def zcU:=pt (zhH s) zg3 K 3 [b,d,e,f] h
def zcT:=pt (zhH s) zg3 K 4 [b,d,e,f,g] h
def zcS:=pt (zhH s) zg3 K 5 [b] h
def zcR:=pt (zhH s) zg3 K 6 [b,d,e,f] h
def zcQ:=pt (zhH s) zg3 K 7 [] h
def zgA:=zz zhH 189 [.tmp 4] 0 [b,d] [b,d] Tryz.f189
def zvr:Code:=zW Tryz.f141
def zyC(s:Bool):Cx:=⟨E,s,none,zvr,lvs zvr [[0,1],[0,1]],[4],[]⟩
def zd0:=pt (zyC s) zvr K 0 [b,d] h
def zdz:=pt (zyC s) zvr K 1 [b,d] h
def zgX:=zz zyC 141 [.tmp 4] 0 [b,d] [b,d] Tryz.f141
def B89:Code:=zW Tryz.f89
def C89(s:Bool):Cx:=⟨E,s,none,B89,lvs B89 [[0,1,2,3],[0,3,5,6],[0,3,5,6,9],[9],[0,3,5,6],[],[3,5,6],[],[]],[8],[]⟩
def zjN:=pt (C89 s) B89 K 0 [b,d,e,f] h
def zjM:=pt (C89 s) B89 K 1 [b,d,e,f] h
def zjL:=pt (C89 s) B89 K 2 [b,d,e,f,g] h
def zjK:=pt (C89 s) B89 K 3 [b] h
def zjJ:=pt (C89 s) B89 K 4 [b,d,e,f] h
def zjI:=pt (C89 s) B89 K 5 [] h
def zjH:=pt (C89 s) B89 K 6 [b,d,e] h
def zW6:=zAb B89 [1,1,1,0,0] 1 20
def zR6:=pt (C89 s) B89 K 7 [] h
def zjG:=pt (C89 s) B89 K 8 [] h
def zls:=zz C89 89 [.tmp 8] 0 [b,d,e,f] [b,d,e,f] Tryz.f89
def zVq:Code:=zW Tryz.f129
def zVo(s:Bool):Cx:=⟨E,s,none,zVq,lvs zVq [[0,1,2],[0,1,2],[0,1,2,7],[1,7,16,17,18],[1,7,16,17,18],[1,7,9,16,17,18],[1,7,16,17,18],[7],[7]],[6],[]⟩
def zOV:=pt (zVo s) zVq K 0 [b,d,e] h
def zOU:=pt (zVo s) zVq K 1 [b,d,e] h
def zOT:=pt (zVo s) zVq K 2 [b,d,e,f] h
def zKQ:=zAb zVq [1,1,0,0] 7 16
def zJa:=pt (zVo s) zVq K 3 [f,g,b,d,e] h
def zeP:=pt (zVo s) zVq K 4 [f,g,b,d,e] h
def zeO:=pt (zVo s) zVq K 5 [f,g,i,b,d,e] h
def zeN:=pt (zVo s) zVq K 6 [f,g,b,d,e] h
def zOS:=pt (zVo s) zVq K 7 [b] h
def zOR:=pt (zVo s) zVq K 8 [b] h
def zVP:=zDv zVo 129 [.tmp 6] 0 [b,d,e] [b,d,e] Tryz.f129
def zgc:=zDR zVo 129 [.tmp 6] 0 [b,d,e] [b,d,e] Tryz.f129
def zvF:Code:=zW Tryz.f180
def zx0(s:Bool):Cx:=⟨E,s,none,zvF,lvs zvF [[0,1],[1,2]],[3],[]⟩
def zch:=pt (zx0 s) zvF K 0 [b,d] h
def zcg:=pt (zx0 s) zvF K 1 [b,d] h
def zgC:=zz zx0 180 [.tmp 3] 0 [b,d] [b,d] Tryz.f180
def zLC:Code:=zW Tryz.f179
def zO1(s:Bool):Cx:=⟨E,s,none,zLC,lvs zLC [[0,1],[0,1],[0,1,5],[0],[0,1,5],[0,1,5,6],[0,1,5,6],[0,1,5,6,7],[0,1,5,6,7],[0,1,5,6],[0,1,5,6],[0,5],[0,5]],[4],[]⟩
abbrev zuc(s:Bool)(K:KF)(b d e f:Value)(h:AH):Prop:=PI (zO1 s) K 5 [b,d,e,f] h
def zJV:=pt (zO1 s) zLC K 0 [b,d] h
def zJU:=pt (zO1 s) zLC K 1 [b,d] h
def zJT:=pt (zO1 s) zLC K 2 [b,d,e] h
def zOD:=pt (zO1 s) zLC K 3 [b] h
def zcm:=pt (zO1 s) zLC K 4 [b,d,e] h
def zOC:=pt (zO1 s) zLC K 5 [b,d,e,f] h
def zKI:=zAb zLC [1,1,1,0,1,0,0,0,0] 2 17
def zcl:=pt (zO1 s) zLC K 6 [b,d,e,f] h
def zck:=pt (zO1 s) zLC K 7 [b,d,e,f,g] h
def zcj:=pt (zO1 s) zLC K 8 [b,d,e,f,g] h
def zci:=pt (zO1 s) zLC K 9 [b,d,e,f] h
def zK1:=pt (zO1 s) zLC K 10 [b,d,e,f] h
def zUA:=pt (zO1 s) zLC K 11 [b,d] h
def zT9:=pt (zO1 s) zLC K 12 [b,d] h
def zVL:=zDv zO1 179 [.tmp 4] 0 [b,d] [b,d] Tryz.f179
def zOo:=zDR zO1 179 [.tmp 4] 0 [b,d] [b,d] Tryz.f179
def zg5:Code:=zW Tryz.f131
def zmP:E.tab.fn.get 131=some Tryz.f131:=by kernel_rfl
def zga:Tryz.f131.body=some zg5:=by kernel_rfl
def zmO(l:List Value)(h:AH):E.sum 131 l h=none:=by kernel_rfl
def B29:Code:=zW Tryz.f29
def C29(s:Bool):Cx:=⟨E,s,none,B29,lvs B29 [[0,1,2,3],[0,3,5,6,8],[0,3,5,8,10],[8,10],[0,3,5,8],[0,3,5,8,11],[0,3,5,8,11,32,33,34],[0,3,5,8,11,32,33,34],[0,3,5,8,11,12,13,32,33,34],[0,3,5,8,11,32,33,34],[0,3,5,8,11],[3,5,8,11,14],[8,11,14,53,54,55],[8,11,14,53,54,55],[8,11,14,15,16,53,54,55],[8,11,14,15,53,54,55,62,63,64],[8,11,14,15,53,54,55,62,63,64],[8,11,14,15,18,53,54,55,62,63,64],[8,11,14,15,53,54,55,62,63,64],[8],[8,11,14,15,53,54,55,62,63,64],[8,11,14,53,54,55],[8,14]],[8,9],[]⟩
def zSa:=pt (C29 s) B29 K 0 [b,d,e,f] h
def zSZ:=pt (C29 s) B29 K 1 [b,d,e,f,g] h
def zSY:=pt (C29 s) B29 K 2 [d,e,f,g,b] h
def zlB:=pt (C29 s) B29 K 3 [d,b] h
def zlA:=pt (C29 s) B29 K 4 [b,d,e,f] h
def zk9:=pt (C29 s) B29 K 5 [d,e,f,g,b] h
def zXI:=zAb B29 [1,1,1,0,0] 4 32
def zSX:=pt (C29 s) B29 K 6 [g,i,j,k,b,d,e,f] h
def zk8:=pt (C29 s) B29 K 7 [g,i,j,k,b,d,e,f] h
def zk7:=pt (C29 s) B29 K 8 [j,k,l,m,b,d,e,f,g,i] h
def zk6:=pt (C29 s) B29 K 9 [g,i,j,k,b,d,e,f] h
def zaY:=pt (C29 s) B29 K 10 [d,e,f,g,b] h
def zaX:=pt (C29 s) B29 K 11 [e,f,g,b,d] h
def zTN:=zAb B29 [1,1,1,1,1,0,0] 4 53
def zNq:=pt (C29 s) B29 K 12 [i,b,d,e,f,g] h
def zaW:=pt (C29 s) B29 K 13 [i,b,d,e,f,g] h
def zaV:=pt (C29 s) B29 K 14 [k,b,d,e,f,g,i,j] h
def zTM:=zAb B29 [1,1,1,1,1,0,1,0,0,1,1,0,0,1,0] 3 62
def zNp:=pt (C29 s) B29 K 15 [m,b,d,e,f,g,i,j,k,l] h
def zaU:=pt (C29 s) B29 K 16 [m,b,d,e,f,g,i,j,k,l] h
def zaT:=pt (C29 s) B29 K 17 [o,b,d,e,f,g,i,j,k,l,m] h
def zaS:=pt (C29 s) B29 K 18 [m,b,d,e,f,g,i,j,k,l] h
def zTL:=zAb B29 [1,1,1,1,1,0,1,0,0,1,1,0,0,1,1,0,0,1,1,0,0,1,1,0] 2 77
def zaR:=pt (C29 s) B29 K 20 [m,b,d,e,f,g,i,j,k,l] h
def zaQ:=pt (C29 s) B29 K 21 [i,b,d,e,f,g] h
def zaP:=pt (C29 s) B29 K 22 [d,b] h
def zn0(H:PI (C29 s) (KR E [.cell 8 32,.tmp 9] Rp) 0 [v0,v1,v2,v3] h):EvC E s Tryz.f29 [v0,v1,v2,v3] h Rp:=zHp (C29 s) H
def zfw:E.tab.fn.get 29=some Tryz.f29:=by kernel_rfl
def zSf:Tryz.f29.body=some B29:=by kernel_rfl
def zfv(l:List Value)(h:AH):E.sum 29 l h=none:=by kernel_rfl
def B30:Code:=zW Tryz.f30
def C30(s:Bool):Cx:=⟨E,s,none,B30,lvs B30 [[0,1,2,3],[0,3,5,6],[0,3,5,6,9],[9],[0,3,5,6],[0,3,5,10],[0,3,5,10,11],[0,3,5,11,49,50,51],[0,3,5,11,49,50,51],[0,3,5,11,13,49,50,51],[0,3,5,11,13,14,49,50,51],[0,3,5,11,14,49,50,51,55,56,57],[0,3,5,11,14,49,50,51,55,56,57],[0,3,5,11,14,16,49,50,51,55,56,57],[0,3,5,11,14,49,50,51,55,56,57],[0,3,5,11,14,49,50,51],[0,3,5,11,49,50,51],[0,3,5,11],[3,5,11,17],[3,5,11,17,18],[3,5,11,17,18,88,89,90],[3,5,11,17,18,88,89,90],[3,5,11,17,18,19,20,88,89,90],[3,5,11,17,18,20,21,88,89,90],[3,5,11,17,18,20,21,22,23,88,89,90],[],[3,5,11,17,18,20,21,88,89,90],[3,5,11,17,18,88,89,90],[3,5],[],[]],[8],[]⟩
def zSW:=pt (C30 s) B30 K 0 [b,d,e,f] h
def zSV:=pt (C30 s) B30 K 1 [b,d,e,f] h
def zSU:=pt (C30 s) B30 K 2 [b,d,e,f,g] h
def zk5:=pt (C30 s) B30 K 3 [b] h
def zk4:=pt (C30 s) B30 K 4 [b,d,e,f] h
def zk3:=pt (C30 s) B30 K 5 [d,e,f,b] h
def zk2:=pt (C30 s) B30 K 6 [e,f,g,b,d] h
def zXH:=zAb B30 [1,1,1,1,0,0] 6 49
def zST:=pt (C30 s) B30 K 7 [g,i,j,b,d,e,f] h
def zk1:=pt (C30 s) B30 K 8 [g,i,j,b,d,e,f] h
def zk0:=pt (C30 s) B30 K 9 [i,j,k,b,d,e,f,g] h
def zaO:=pt (C30 s) B30 K 10 [j,k,l,b,d,e,f,g,i] h
def zTK:=zAb B30 [1,1,1,1,0,1,0,0,1,1,0,0,1,1,0,0] 1 55
def zNo:=pt (C30 s) B30 K 11 [l,m,o,b,d,e,f,g,i,j,k] h
def zaN:=pt (C30 s) B30 K 12 [l,m,o,b,d,e,f,g,i,j,k] h
def zaM:=pt (C30 s) B30 K 13 [m,o,p,b,d,e,f,g,i,j,k,l] h
def zaL:=pt (C30 s) B30 K 14 [l,m,o,b,d,e,f,g,i,j,k] h
def zaK:=pt (C30 s) B30 K 15 [i,j,k,b,d,e,f,g] h
def zaJ:=pt (C30 s) B30 K 16 [g,i,j,b,d,e,f] h
def zaI:=pt (C30 s) B30 K 17 [d,e,f,b] h
def zaH:=pt (C30 s) B30 K 18 [e,f,b,d] h
def zaG:=pt (C30 s) B30 K 19 [f,g,b,d,e] h
def zTJ:=zAb B30 [1,1,1,1,1,1,1,0,0] 1 88
def zNn:=pt (C30 s) B30 K 20 [j,k,b,d,e,f,g,i] h
def zaF:=pt (C30 s) B30 K 21 [j,k,b,d,e,f,g,i] h
def zaE:=pt (C30 s) B30 K 22 [l,m,b,d,e,f,g,i,j,k] h
def zaD:=pt (C30 s) B30 K 23 [l,m,b,d,e,f,g,i,j,k] h
def zaC:=pt (C30 s) B30 K 24 [o,p,b,d,e,f,g,i,j,k,l,m] h
def zaB:=pt (C30 s) B30 K 25 [] h
def zaA:=pt (C30 s) B30 K 26 [l,m,b,d,e,f,g,i,j,k] h
def zZ9:=pt (C30 s) B30 K 27 [j,k,b,d,e,f,g,i] h
def zZ8:=pt (C30 s) B30 K 28 [b,d] h
def zZ7:=pt (C30 s) B30 K 29 [] h
def zZ6:=pt (C30 s) B30 K 30 [] h
def zmA:=zz C30 30 [.tmp 8] 0 [b,d,e,f] [b,d,e,f] Tryz.f30
def zfu:=zCK C30 30 [.tmp 8] 0 [b,d,e,f] [b,d,e,f] Tryz.f30
def B6:Code:=zW Tryz.f6
end Go.Proofs
namespace Go.Proofs
open Go Go.AM
attribute [local irreducible] EvO Ev gdB gdW PI veq BrK zGG zAz zAJ zw zh zA4 zAc zDg z6 zAT zDP zBl zX zV zAX zb zAy zC4 zAm zAM zg zAG zu zCk zDs zAs zy zc zAh AH.new one E undef cst cs
variable {s:Bool} {K:KF} {h:AH} {a:Option Addr} {n c:Nat} {b d e f g i j k l m o p q r t u w x y z A B C D F G J L M N O Q S U V W X Y Z v v0 v1 v2 v3 v4 v7 v8 v9 v17:Value} {h1:AH} {Rp:Value->AH->Prop}
def zQb:Code:=sub zg5 [0]
def zVV(s:Bool):Cx:=⟨E,s,none,zQb,lvs zQb [[0,1,2]],[2,3,4],[]⟩
def zUZ:=pt (zVV s) zQb K 0 [b,d,e] h
def zmN{s:Bool}{v0 v1 v2:Value}{T:Tm}{h:AH}{K:KF}(hT:∀ x∈[(0,v0),(1,v1),(2,v2)],T.get x.1=x.2)(H:PI (zVV s) K 0 [v0,v1,v2] h) :
 Ev s (evC E (zc E) none zQb ⟨T,h,[]⟩) (zJm (zVV s ) K):=
 zBh (C:=zVV s ) (by kernel_rfl) (by kernel_rfl) hT ((by kernel_rfl:zDY (zVV s ) K 30 (rs zQb 60 (.at [])) (zAc [(0,v0),(1,v1),(2,v2)]) h=(PI (zVV s) K 0 [v0,v1,v2] h)).mpr H)
def zOu:Code:=sub zg5 [1,0]
def zVS(s:Bool):Cx:=⟨E,s,none,zOu,lvs zOu [[2,3,4]],[2,3,4,7],[]⟩
def zUU:=pt (zVS s) zOu K 0 [b,d,e] h
def zmJ{s:Bool}{v2 v3 v4:Value}{T:Tm}{h:AH}{K:KF}(hT:∀ x∈[(2,v2),(3,v3),(4,v4)],T.get x.1=x.2)(H:PI (zVS s) K 0 [v2,v3,v4] h) :
 Ev s (evC E (zc E) none zOu ⟨T,h,[]⟩) (zJm (zVS s ) K):=
 zBh (C:=zVS s ) (by kernel_rfl) (by kernel_rfl) hT ((by kernel_rfl:zDY (zVS s ) K 30 (rs zOu 60 (.at [])) (zAc [(2,v2),(3,v3),(4,v4)]) h=(PI (zVS s) K 0 [v2,v3,v4] h)).mpr H)
def zMB:Code:=sub zg5 [1,1,0]
def zVR(s:Bool):Cx:=⟨E,s,none,zMB,lvs zMB [[2,3,4,7]],[2,3,4,7,8],[]⟩
def zUT:=pt (zVR s) zMB K 0 [b,d,e,f] h
def zmI{s:Bool}{v2 v3 v4 v7:Value}{T:Tm}{h:AH}{K:KF}(hT:∀ x∈[(2,v2),(3,v3),(4,v4),(7,v7)],T.get x.1=x.2)(H:PI (zVR s) K 0 [v2,v3,v4,v7] h) :
 Ev s (evC E (zc E) none zMB ⟨T,h,[]⟩) (zJm (zVR s ) K):=
 zBh (C:=zVR s ) (by kernel_rfl) (by kernel_rfl) hT ((by kernel_rfl:zDY (zVR s ) K 30 (rs zMB 60 (.at [])) (zAc [(2,v2),(3,v3),(4,v4),(7,v7)]) h=(PI (zVR s) K 0 [v2,v3,v4,v7] h)).mpr H)
def zJr:Code:=sub zg5 [1,1,1,0,0]
def zVU(s:Bool):Cx:=⟨E,s,none,zJr,lvs zJr [[2,3,4,7,8]],[3,4,7,8,16],[]⟩
def zUY:=pt (zVU s) zJr K 0 [b,d,e,f,g] h
def zmM{s:Bool}{v2 v3 v4 v7 v8:Value}{T:Tm}{h:AH}{K:KF}(hT:∀ x∈[(2,v2),(3,v3),(4,v4),(7,v7),(8,v8)],T.get x.1=x.2)(H:PI (zVU s) K 0 [v2,v3,v4,v7,v8] h) :
 Ev s (evC E (zc E) none zJr ⟨T,h,[]⟩) (zJm (zVU s ) K):=
 zBh (C:=zVU s ) (by kernel_rfl) (by kernel_rfl) hT ((by kernel_rfl:zDY (zVU s ) K 30 (rs zJr 60 (.at [])) (zAc [(2,v2),(3,v3),(4,v4),(7,v7),(8,v8)]) h=(PI (zVU s) K 0 [v2,v3,v4,v7,v8] h)).mpr H)
def zE5:Code:=zmz (sub zg5 [1,1,1,0,1,0])
def zOq(s:Bool)(ll:Nat):Cx:=⟨E,s,some ll,zE5,lvs zE5 [[3,4,7,8,9],[3,4,8,9]],[],[]⟩
def zUX{ll:Nat}:=pt (zOq s ll) zE5 K 0 [b,d,e,f,g] h
def zUW{ll:Nat}:=pt (zOq s ll) zE5 K 1 [b,d,e,f] h
def zmL{s:Bool}{ll:Nat}{v3 v4 v7 v8 v9:Value}{T:Tm}{h:AH}{K:KF}(hT:∀ x∈[(3,v3),(4,v4),(7,v7),(8,v8),(9,v9)],T.get x.1=x.2)(H:PI (zOq s ll) K 0 [v3,v4,v7,v8,v9] h) :
 Ev s (evC E (zc E) (some ll) zE5 ⟨T,h,[]⟩) (zJm (zOq s ll ) K):=
 zBh (C:=zOq s ll ) (by kernel_rfl) (by kernel_rfl) hT ((by kernel_rfl:zDY (zOq s ll ) K 30 (rs zE5 60 (.at [])) (zAc [(3,v3),(4,v4),(7,v7),(8,v8),(9,v9)]) h=(PI (zOq s ll) K 0 [v3,v4,v7,v8,v9] h)).mpr H)
def zFy:Code:=zyL (sub zg5 [1,1,1,0,1,0])
def zVT(s:Bool)(ll:Nat):Cx:=⟨E,s,some ll,zFy,lvs zFy [[3,4,7,8,17]],[3,4,7,8,9],[]⟩
def zUV{ll:Nat}:=pt (zVT s ll) zFy K 0 [d,e,f,g,b] h
def zmK{s:Bool}{ll:Nat}{v3 v4 v7 v8 v17:Value}{T:Tm}{h:AH}{K:KF}(hT:∀ x∈[(3,v3),(4,v4),(7,v7),(8,v8),(17,v17)],T.get x.1=x.2)(H:PI (zVT s ll) K 0 [v3,v4,v7,v8,v17] h) :
 Ev s (evC E (zc E) (some ll) zFy ⟨T,h,[]⟩) (zJm (zVT s ll ) K):=
 zBh (C:=zVT s ll ) (by kernel_rfl) (by kernel_rfl) hT ((by kernel_rfl:zDY (zVT s ll ) K 30 (rs zFy 60 (.at [])) (zAc [(3,v3),(4,v4),(7,v7),(8,v8),(17,v17)]) h=(PI (zVT s ll) K 0 [v3,v4,v7,v8,v17] h)).mpr H)
def zJq:Code:=sub zg5 [1,1,1,1]
end Go.Proofs
namespace Go.Proofs
open Go Go.AM
attribute [local irreducible] EvO Ev gdB gdW PI veq BrK zGG zAz zAJ zw zh zA4 zAc zDg z6 zAT zDP zBl zX zV zAX zb zAy zC4 zAm zAM zg zAG zu zCk zDs zAs zy zc zAh AH.new one E undef cst cs
variable {s:Bool} {K:KF} {h:AH} {a:Option Addr} {n c:Nat} {b d e f g i j k l m o p q r t u w x y z A B C D F G J L M N O Q S U V W X Y Z v v0 v1 v2 v3 v4 v5 v6 v7 v8 v9 v10 v11 v12 v13 v24 v25 v26 v27 v37:Value} {h1:AH} {Rp:Value->AH->Prop}
def B84:Code:=zW Tryz.f84
def C84(s:Bool):Cx:=⟨E,s,none,B84,lvs B84 [[0,1],[0,1],[],[0,1],[0,1,12,13],[0,1,12,13],[0,1,5,12,13],[],[0,1,12,13],[]],[4],[]⟩
def zjr:=pt (C84 s) B84 K 0 [b,d] h
def zjq:=pt (C84 s) B84 K 1 [b,d] h
def zXA:=zAb B84 [1,0,0] 1 6
def zW9:=zAb B84 [1,0,0] 3 8
def zjp:=pt (C84 s) B84 K 2 [] h
def zjo:=pt (C84 s) B84 K 3 [b,d] h
def zW8:=zAb B84 [1,1,0,0] 1 11
def zR9:=pt (C84 s) B84 K 4 [e,f,b,d] h
def zjn:=pt (C84 s) B84 K 5 [e,f,b,d] h
def zjm:=pt (C84 s) B84 K 6 [e,f,g,b,d] h
def zjl:=pt (C84 s) B84 K 7 [] h
def zjk:=pt (C84 s) B84 K 8 [e,f,b,d] h
def zjj:=pt (C84 s) B84 K 9 [] h
def zlv:=zz C84 84 [.tmp 4] 0 [b,d] [b,d] Tryz.f84
def B22:Code:=zW Tryz.f22
def C22(s:Bool):Cx:=⟨E,s,none,B22,lvs B22 [[0,1],[2,3]],[4],[]⟩
def zlR:=pt (C22 s) B22 K 0 [b,d] h
def zlQ:=pt (C22 s) B22 K 1 [b,d] h
def zmD:=zz C22 22 [.tmp 4] 0 [b,d] [b,d] Tryz.f22
def B4:Code:=zW Tryz.f4
end Go.Proofs
namespace Go.Proofs
open Go Go.AM
def zoH:und E 146=some (.slice 47):=by kernel_rfl
def zpT:zC8 E 146=some 47:=by kernel_rfl
def zsk{b o len c k:Nat}(h:k<len):zV E 146 (some (.slice (some ⟨b,o,none⟩) len c)) (some (iI (k:Int)))=some (.pointer (some ⟨b,o+k*1,none⟩)):=zAA zoH (by kernel_rfl) h
def zoG:und E 155=some (.slice 212):=by kernel_rfl
def zpS:zC8 E 155=some 212:=by kernel_rfl
def znK{b o len c k:Nat}(h:k<len):zV E 155 (some (.slice (some ⟨b,o,none⟩) len c)) (some (iI (k:Int)))=some (.pointer (some ⟨b,o+k*1,none⟩)):=zAA zoG (by kernel_rfl) h
def zV3:und E 158=some (.slice 217):=by kernel_rfl
def zpR:zC8 E 158=some 217:=by kernel_rfl
def znJ{b o len c k:Nat}(h:k<len):zV E 158 (some (.slice (some ⟨b,o,none⟩) len c)) (some (iI (k:Int)))=some (.pointer (some ⟨b,o+k*3,none⟩)):=zAA zV3 (by kernel_rfl) h
def zV2:und E 212=some (.slice 214):=by kernel_rfl
def zpQ:zC8 E 212=some 214:=by kernel_rfl
def zsj{b o len c k:Nat}(h:k<len):zV E 212 (some (.slice (some ⟨b,o,none⟩) len c)) (some (iI (k:Int)))=some (.pointer (some ⟨b,o+k*3,none⟩)):=zAA zV2 (by kernel_rfl) h
def zoF:und E 218=some (.slice 4):=by kernel_rfl
def zpP:zC8 E 218=some 4:=by kernel_rfl
def zsi{b o len c k:Nat}(h:k<len):zV E 218 (some (.slice (some ⟨b,o,none⟩) len c)) (some (iI (k:Int)))=some (.pointer (some ⟨b,o+k*1,none⟩)):=zAA zoF (by kernel_rfl) h
def zro:tAS E 146=some (false,1):=by kernel_rfl
def zmo:zAW E 148=some 5:=by kernel_rfl
def zrn:tAS E 148=some (true,5):=by kernel_rfl
def zn8:zAh E 148=some (.agg #[(iI 0),(.slice none 0 0),(.slice none 0 0),(.slice none 0 0),(.slice none 0 0)]):=by kernel_rfl
def zms:tAS E 151=some (false,1):=by kernel_rfl
def zrh:zAW E 212=some 1:=by kernel_rfl
def zJv:tAS E 212=some (false,1):=by kernel_rfl
def zv1:zAh E 212=some (.slice none 0 0):=by kernel_rfl
def zrg:zAW E 214=some 3:=by kernel_rfl
def zmq:tAS E 214=some (true,3):=by kernel_rfl
def zv0:zAh E 214=some (.agg #[(iI 0),(.slice none 0 0),(iI 0)]):=by kernel_rfl
def zQm:tAS E 217=some (true,3):=by kernel_rfl
def zRX{b o:Nat}:zX E 217 0 (some (.pointer (some ⟨b,o,none⟩)))=some (.pointer (some ⟨b,o+0,none⟩)):=by kernel_rfl
def zhz{b o:Nat}:zX E 217 1 (some (.pointer (some ⟨b,o,none⟩)))=some (.pointer (some ⟨b,o+2,none⟩)):=by kernel_rfl
def zEM{b o:Nat}:zX E 214 1 (some (.pointer (some ⟨b,o,none⟩)))=some (.pointer (some ⟨b,o+2,none⟩)):=by kernel_rfl
def zGV{b o:Nat}:zX E 214 0 (some (.pointer (some ⟨b,o,none⟩)))=some (.pointer (some ⟨b,o+0,none⟩)):=by kernel_rfl
def zGa{b o:Nat}:zX E 153 1 (some (.pointer (some ⟨b,o,none⟩)))=some (.pointer (some ⟨b,o+1,none⟩)):=by kernel_rfl
def zGZ{b o:Nat}:zX E 153 2 (some (.pointer (some ⟨b,o,none⟩)))=some (.pointer (some ⟨b,o+2,none⟩)):=by kernel_rfl
def zh1{b o:Nat}:zX E 153 0 (some (.pointer (some ⟨b,o,none⟩)))=some (.pointer (some ⟨b,o+0,none⟩)):=by kernel_rfl
def zBz{b o:Nat}:zX E 148 1 (some (.pointer (some ⟨b,o,none⟩)))=some (.pointer (some ⟨b,o+3,none⟩)):=by kernel_rfl
def zFP{b o:Nat}:zX E 148 0 (some (.pointer (some ⟨b,o,none⟩)))=some (.pointer (some ⟨b,o+0,none⟩)):=by kernel_rfl
def zLs{b o:Nat}:zX E 148 2 (some (.pointer (some ⟨b,o,none⟩)))=some (.pointer (some ⟨b,o+4,none⟩)):=by kernel_rfl
def zRa{b o:Nat}:zX E 153 3 (some (.pointer (some ⟨b,o,none⟩)))=some (.pointer (some ⟨b,o+3,none⟩)):=by kernel_rfl
def zh0{b o:Nat}:zX E 153 4 (some (.pointer (some ⟨b,o,none⟩)))=some (.pointer (some ⟨b,o+4,none⟩)):=by kernel_rfl
attribute [local irreducible] EvO Ev gdB gdW PI veq BrK zGG zAz zAJ zw zh zA4 zAc zDg z6 zAT zDP zBl zX zV zAX zb zAy zC4 zAm zAM zg zAG zu zCk zDs zAs zy zc zAh AH.new one E undef cst cs
variable {s:Bool} {K:KF} {h:AH} {a:Option Addr} {n c:Nat} {b d e f g i j k l m o p q r t u w x y z A B C D F G J L M N O Q S U V W X Y Z v v0 v1 v2 v3 v4 v5 v6 v7 v8 v9 v10 v11 v12 v13 v14 v15 v16 v17:Value} {h1:AH} {Rp:Value->AH->Prop}
def zvv:Code:=zW Tryz.f107
def zyG(s:Bool):Cx:=⟨E,s,none,zvv,lvs zvv [[0],[0]],[2],[]⟩
def ze1:=pt (zyG s) zvv K 0 [b] h
def ze0:=pt (zyG s) zvv K 1 [b] h
def zgk:=zz zyG 107 [.tmp 2] 0 [b] [b] Tryz.f107
def zvo:Code:=zW Tryz.f155
def zx9(s:Bool):Cx:=⟨E,s,none,zvo,lvs zvo [[0,1],[2,3]],[4],[]⟩
def zdg:=pt (zx9 s) zvo K 0 [b,d] h
def zdf:=pt (zx9 s) zvo K 1 [b,d] h
def zgS:=zz zx9 155 [.tmp 4] 0 [b,d] [b,d] Tryz.f155
def B97:Code:=zW Tryz.f97
def C97(s:Bool):Cx:=⟨E,s,none,B97,lvs B97 [[0],[1],[],[1],[],[1],[1,3],[1,3],[],[1,3],[]],[2],[]⟩
def ziq:=pt (C97 s) B97 K 0 [b] h
def zio:=pt (C97 s) B97 K 1 [b] h
def zin:=pt (C97 s) B97 K 2 [] h
def zim:=pt (C97 s) B97 K 3 [b] h
def zW0:=zAb B97 [1,1,0,0] 2 9
def zil:=pt (C97 s) B97 K 4 [] h
def zik:=pt (C97 s) B97 K 5 [b] h
def zR2:=pt (C97 s) B97 K 6 [b,d] h
def zMu:=zAb B97 [1,1,1,0,1,0,0,0,0] 3 14
def zij:=pt (C97 s) B97 K 7 [b,d] h
def zii:=pt (C97 s) B97 K 8 [] h
def zih:=pt (C97 s) B97 K 9 [b,d] h
def zYz:=pt (C97 s) B97 K 10 [] h
def zlo:=zz C97 97 [.tmp 2] 0 [b] [b] Tryz.f97
def B98:Code:=zW Tryz.f98
def C98(s:Bool):Cx:=⟨E,s,none,B98,lvs B98 [[0,1,2],[0,1,2],[0,1,2,7],[0,1,2,7,8],[0,1,2,7,8],[0,1,2,7,8,9],[0,1,2,8,9],[0,1,2,7,9],[0,1,2,7]],[6],[]⟩
def zig:=pt (C98 s) B98 K 0 [b,d,e] h
def zif:=pt (C98 s) B98 K 1 [b,d,e] h
def zie:=pt (C98 s) B98 K 2 [b,d,e,f] h
def zWz:=zAb B98 [1,1,0] 1 10
def zR1:=pt (C98 s) B98 K 3 [b,d,e,f,g] h
def zid:=pt (C98 s) B98 K 4 [b,d,e,f,g] h
def zic:=pt (C98 s) B98 K 5 [b,d,e,f,g,i] h
def zib:=pt (C98 s) B98 K 6 [b,d,e,f,g] h
def zia:=pt (C98 s) B98 K 7 [b,d,e,f,g] h
def ziZ:=pt (C98 s) B98 K 8 [b,d,e,f] h
def zWy:=zAb B98 [1,1,1,1,0] 2 33
def zln:=zz C98 98 [.tmp 6] 0 [b,d,e] [b,d,e] Tryz.f98
def zrR:Code:=zW Tryz.f158
def zx8(s:Bool):Cx:=⟨E,s,none,zrR,lvs zrR [[0],[1]],[2],[]⟩
def zdS:=pt (zx8 s) zrR K 0 [b] h
def zdR:=pt (zx8 s) zrR K 1 [b] h
def zTa:=zAb zrR [1,0] 6 8
def zgP:=zz zx8 158 [.tmp 2] 0 [b] [b] Tryz.f158
def B99:Code:=zW Tryz.f99
def C99(s:Bool):Cx:=⟨E,s,none,B99,lvs B99 [[0],[1,2]],[2],[]⟩
def ziY:=pt (C99 s) B99 K 0 [b] h
def ziX:=pt (C99 s) B99 K 1 [b,d] h
def zu5(H:PI (C99 s) (KR E [.cell 2 148] Rp) 0 [v0] h):EvC E s Tryz.f99 [v0] h Rp:=zHp (C99 s) H
def zqy:E.tab.fn.get 99=some Tryz.f99:=by kernel_rfl
def zlm:Tryz.f99.body=some B99:=by kernel_rfl
def zqx(l:List Value)(h:AH):E.sum 99 l h=none:=by kernel_rfl
def zrS:Code:=zW Tryz.f157
def zvC(s:Bool):Cx:=⟨E,s,none,zrS,lvs zrS [[0,1,2],[0,1,2],[0,1,2],[0,1,2]],[6],[]⟩
def zdW:=pt (zvC s) zrS K 0 [b,d,e] h
def zdV:=pt (zvC s) zrS K 1 [b,d,e] h
def zdU:=pt (zvC s) zrS K 2 [b,d,e] h
def zdT:=pt (zvC s) zrS K 3 [b,d,e] h
def zgQ:=zz zvC 157 [.tmp 6] 0 [b,d,e] [b,d,e] Tryz.f157
def zGj:Code:=zW Tryz.f156
def zIJ(s:Bool):Cx:=⟨E,s,none,zGj,lvs zGj [[0,1],[0,1],[0,1],[0,1],[0,1,5],[0,1,5],[0,1,5,6],[0,1,5,6,7],[0,1,5,6,7],[0,1,5,6,7,8],[0,1,5,6,7,8],[0,1,5,6,7,8,9],[0,1,5,6,7,8,9],[0,1,5,6,7,8,9],[0,1,5,6,7,8],[0,1,5,6,7],[0,1,6],[6]],[4],[]⟩
def zde:=pt (zIJ s) zGj K 0 [b,d] h
def zdd:=pt (zIJ s) zGj K 1 [b,d] h
def zKN:=zAb zGj [1,0,0] 7 16
def zdc:=pt (zIJ s) zGj K 2 [b,d] h
def zdb:=pt (zIJ s) zGj K 3 [b,d] h
def zda:=pt (zIJ s) zGj K 4 [b,d,e] h
def zdZ:=pt (zIJ s) zGj K 5 [b,d,e] h
def zdY:=pt (zIJ s) zGj K 6 [b,d,e,f] h
def zOM:=pt (zIJ s) zGj K 7 [b,d,e,f,g] h
def zKM:=zAb zGj [1,1,1,1,1,0,1,0,0,0,0] 2 38
def zdX:=pt (zIJ s) zGj K 8 [b,d,e,f,g] h
def zOL:=pt (zIJ s) zGj K 9 [b,d,e,f,g,i] h
def zIu:=zAb zGj [1,1,1,1,1,0,1,0,0,1,0,0,1,0,0,0,0] 11 53
def zUO:=pt (zIJ s) zGj K 10 [b,d,e,f,g,i] h
def zUN:=pt (zIJ s) zGj K 11 [b,d,e,f,g,i,j] h
def zUM:=pt (zIJ s) zGj K 12 [b,d,e,f,g,i,j] h
def zUL:=pt (zIJ s) zGj K 13 [b,d,e,f,g,i,j] h
def zUK:=pt (zIJ s) zGj K 14 [b,d,e,f,g,i] h
def zUJ:=pt (zIJ s) zGj K 15 [b,d,e,f,g] h
def zUI:=pt (zIJ s) zGj K 16 [b,d,e] h
def zUH:=pt (zIJ s) zGj K 17 [b] h
def zgR:=zDR zIJ 156 [.tmp 4] 0 [b,d] [b,d] Tryz.f156
def zGl:Code:=zW Tryz.f100
def zFg(s:Bool):Cx:=⟨E,s,none,zGl,lvs zGl [[0,1,2,3],[0,1,2,7],[0,1,2,7,9],[0,1,2,7,9,10],[0,1,2,7,9],[0,1,7,9,10],[0,1,7,9,10,11],[0,1,7,9,10,11],[0,1,7,9,10,11,12],[0,1,7,9,10,11,12],[],[0,1,7,9,10,11,12],[0,1,7,9,10,11,12,13],[0,1,7,9,10,11,12,13],[0,1,7,9,10,11,12,13,14],[],[0,1,7,9,10,11,12,13],[0,1,7,9,10,11],[]],[8],[]⟩
def zfp:=pt (zFg s) zGl K 0 [b,d,e,f] h
def zfo:=pt (zFg s) zGl K 1 [b,d,e,f] h
def zfn:=pt (zFg s) zGl K 2 [b,d,e,f,g] h
def zfm:=pt (zFg s) zGl K 3 [d,e,f,g,i,b] h
def zfl:=pt (zFg s) zGl K 4 [b,d,e,f,g] h
def zfk:=pt (zFg s) zGl K 5 [d,e,f,g,b] h
def zOk:=pt (zFg s) zGl K 6 [e,f,g,i,b,d] h
def zKY:=zAb zGl [1,1,1,1,0,1,0,0,0,0] 2 41
def zfj:=pt (zFg s) zGl K 7 [e,f,g,i,b,d] h
def zfi:=pt (zFg s) zGl K 8 [f,g,i,j,b,d,e] h
def zOj:=pt (zFg s) zGl K 9 [f,g,i,j,b,d,e] h
def zU8:=pt (zFg s) zGl K 10 [] h
def zU7:=pt (zFg s) zGl K 11 [f,g,i,j,b,d,e] h
def zK6:=pt (zFg s) zGl K 12 [g,i,j,k,b,d,e,f] h
def zHV:=zAb zGl [1,1,1,1,0,1,0,0,1,0,0,1,1,1,1,0,0,0,0] 11 88
def zU6:=pt (zFg s) zGl K 13 [g,i,j,k,b,d,e,f] h
def zU5:=pt (zFg s) zGl K 14 [i,j,k,l,b,d,e,f,g] h
def zU4:=pt (zFg s) zGl K 15 [] h
def zU3:=pt (zFg s) zGl K 16 [g,i,j,k,b,d,e,f] h
def zU2:=pt (zFg s) zGl K 17 [e,f,g,i,b,d] h
def zU1:=pt (zFg s) zGl K 18 [] h
def zq9(H:PI (zFg s) (KR E [.tmp 8] Rp) 0 [v0,v1,v2,v3] h):EvC E s Tryz.f100 [v0,v1,v2,v3] h Rp:=zHp (zFg s) H
def zme:E.tab.fn.get 100=some Tryz.f100:=by kernel_rfl
def zgr:Tryz.f100.body=some zGl:=by kernel_rfl
def zmd(l:List Value)(h:AH):E.sum 100 l h=none:=by kernel_rfl
def B50:Code:=zW Tryz.f50
def C50(s:Bool):Cx:=⟨E,s,none,B50,lvs B50 [[0,1,2],[3,4,5],[],[3,4,5],[3,4,5,7],[7],[3,4,5],[3,4,5,8],[3,4,5,8],[],[3,4,5,8],[3,4,5],[],[3,4,5],[4,5,9],[5,9,10],[5,9,10,11],[5,9,10,11,12],[5,9,10,11,12,13],[5,9,10,11,12,13],[5,9,10,11,12,13,14],[5,9,10,11,12,13,14,15],[5,9,10,11,12,13,14,15,16],[5,9,10,11,12,13,14,15,16],[],[5,9,10,11,12,13,14,15,16],[5,9,10,11,12,13,14,15],[5,9,10,11,12,13,14,15,17],[5,9,10,11,12,13,14,15,17],[],[5,9,10,11,12,13,14,15,17],[5,9,10,11,12,13],[]],[6],[]⟩
def zkz:=pt (C50 s) B50 K 0 [b,d,e] h
def zky:=pt (C50 s) B50 K 1 [b,d,e] h
def zSS:=pt (C50 s) B50 K 2 [] h
def zkx:=pt (C50 s) B50 K 3 [b,d,e] h
def zkw:=pt (C50 s) B50 K 4 [b,d,e,f] h
def zkv:=pt (C50 s) B50 K 5 [b] h
def zku:=pt (C50 s) B50 K 6 [b,d,e] h
def zSR:=pt (C50 s) B50 K 7 [b,d,e,f] h
def zMy:=zAb B50 [1,1,1,0,1,0,0,0,0] 3 33
def zkt:=pt (C50 s) B50 K 8 [b,d,e,f] h
def zSQ:=pt (C50 s) B50 K 9 [] h
def zZ5:=pt (C50 s) B50 K 10 [b,d,e,f] h
def zZ4:=pt (C50 s) B50 K 11 [b,d,e] h
def zZ3:=pt (C50 s) B50 K 12 [] h
def zZ2:=pt (C50 s) B50 K 13 [b,d,e] h
def zZ1:=pt (C50 s) B50 K 14 [b,d,e] h
def zZ0:=pt (C50 s) B50 K 15 [d,e,b] h
def zZz:=pt (C50 s) B50 K 16 [e,f,b,d] h
def zZy:=pt (C50 s) B50 K 17 [f,g,b,d,e] h
def zNm:=pt (C50 s) B50 K 18 [g,i,b,d,e,f] h
def zKD:=zAb B50 [1,1,1,1,1,1,1,1,1,0,1,0,0,0,0] 3 80
def zZx:=pt (C50 s) B50 K 19 [g,i,b,d,e,f] h
def zZw:=pt (C50 s) B50 K 20 [i,j,b,d,e,f,g] h
def zZv:=pt (C50 s) B50 K 21 [j,k,b,d,e,f,g,i] h
def zNl:=pt (C50 s) B50 K 22 [k,l,b,d,e,f,g,i,j] h
def zKC:=zAb B50 [1,1,1,1,1,1,1,1,1,0,1,0,0,1,0,0,1,1,0,1,0,0,0,0] 6 102
def zZu:=pt (C50 s) B50 K 23 [k,l,b,d,e,f,g,i,j] h
def zZt:=pt (C50 s) B50 K 24 [] h
def zZs:=pt (C50 s) B50 K 25 [k,l,b,d,e,f,g,i,j] h
def zZr:=pt (C50 s) B50 K 26 [j,k,b,d,e,f,g,i] h
def zNk:=pt (C50 s) B50 K 27 [k,l,b,d,e,f,g,i,j] h
def zKB:=zAb B50 [1,1,1,1,1,1,1,1,1,0,1,0,0,1,0,0,1,1,1,1,0,0,0,0] 6 125
def zZq:=pt (C50 s) B50 K 28 [k,l,b,d,e,f,g,i,j] h
def zZp:=pt (C50 s) B50 K 29 [] h
def zZo:=pt (C50 s) B50 K 30 [k,l,b,d,e,f,g,i,j] h
def zZn:=pt (C50 s) B50 K 31 [g,i,b,d,e,f] h
def zZm:=pt (C50 s) B50 K 32 [] h
def zl9:=zz C50 50 [.tmp 6] 0 [b,d,e] [b,d,e] Tryz.f50
def zLD:Code:=zW Tryz.f101
def zO3(s:Bool):Cx:=⟨E,s,none,zLD,lvs zLD [[0,1,2,3],[0,3,5,6],[],[0,3,5,6],[],[3,5,6],[],[3],[3,9],[3,9],[],[3,9],[]],[8],[]⟩
def zfh:=pt (zO3 s) zLD K 0 [b,d,e,f] h
def zfg:=pt (zO3 s) zLD K 1 [b,d,e,f] h
def zOi:=pt (zO3 s) zLD K 2 [] h
def zff:=pt (zO3 s) zLD K 3 [b,d,e,f] h
def zfe:=pt (zO3 s) zLD K 4 [] h
def zfd:=pt (zO3 s) zLD K 5 [b,d,e] h
def zTl:=zAb zLD [1,1,1,0,0] 1 21
def zfc:=pt (zO3 s) zLD K 6 [] h
def zfb:=pt (zO3 s) zLD K 7 [b] h
def zOh:=pt (zO3 s) zLD K 8 [b,d] h
def zKX:=zAb zLD [1,1,1,1,0,1,0,0,0,0] 2 30
def zfa:=pt (zO3 s) zLD K 9 [b,d] h
def zU0:=pt (zO3 s) zLD K 10 [] h
def zUz:=pt (zO3 s) zLD K 11 [b,d] h
def zUy:=pt (zO3 s) zLD K 12 [] h
def zgq:=zz zO3 101 [.tmp 8] 0 [b,d,e,f] [b,d,e,f] Tryz.f101
def zOw:Code:=zW Tryz.f102
def zO2(s:Bool):Cx:=⟨E,s,none,zOw,lvs zOw [[0,1],[2,3],[2,3,5],[2,3,5,6],[2,3,5,6],[2,3,5,6,7],[2,3,5,6],[2,3,5],[2,3,5,8],[2,3,5,8],[2,3,5,8,9],[2,3,5,8],[5]],[4],[]⟩
def zfZ:=pt (zO2 s) zOw K 0 [b,d] h
def zfY:=pt (zO2 s) zOw K 1 [b,d] h
def zfX:=pt (zO2 s) zOw K 2 [b,d,e] h
def zOg:=pt (zO2 s) zOw K 3 [b,d,e,f] h
def zKW:=zAb zOw [1,1,0,1,0,0,0,0] 3 18
def zfW:=pt (zO2 s) zOw K 4 [b,d,e,f] h
def zfV:=pt (zO2 s) zOw K 5 [b,d,e,f,g] h
def zfU:=pt (zO2 s) zOw K 6 [b,d,e,f] h
def zfT:=pt (zO2 s) zOw K 7 [b,d,e] h
def zOf:=pt (zO2 s) zOw K 8 [b,d,e,f] h
def zKV:=zAb zOw [1,1,1,0,1,0,0,0,0] 3 50
def zfS:=pt (zO2 s) zOw K 9 [b,d,e,f] h
def zUx:=pt (zO2 s) zOw K 10 [b,d,e,f,g] h
def zUw:=pt (zO2 s) zOw K 11 [b,d,e,f] h
def zUv:=pt (zO2 s) zOw K 12 [b] h
def zgp:=zDR zO2 102 [.tmp 4] 0 [b,d] [b,d] Tryz.f102
def zIL:Code:=zW Tryz.f103
def zVZ(s:Bool):Cx:=⟨E,s,none,zIL,lvs zIL [[0,1],[0,1],[],[0,1],[0,1,5],[0,1,5],[],[0,1,5],[]],[4],[]⟩
def zfR:=pt (zVZ s) zIL K 0 [b,d] h
def zfQ:=pt (zVZ s) zIL K 1 [b,d] h
def zTk:=zAb zIL [1,0,0] 1 6
def zTj:=zAb zIL [1,0,0] 3 8
def zfP:=pt (zVZ s) zIL K 2 [] h
def zfO:=pt (zVZ s) zIL K 3 [b,d] h
def zOe:=pt (zVZ s) zIL K 4 [b,d,e] h
def zKU:=zAb zIL [1,1,0,1,0,0,0,0] 2 12
def zfN:=pt (zVZ s) zIL K 5 [b,d,e] h
def zKT:=zAb zIL [1,1,0,1,0,0,1,0,0,0] 6 22
def zTi:=zAb zIL [1,1,0,1,0,0,1,0,0,0] 8 24
def zfM:=pt (zVZ s) zIL K 6 [] h
def zfL:=pt (zVZ s) zIL K 7 [b,d,e] h
def zfK:=pt (zVZ s) zIL K 8 [] h
def zq8(H:PI (zVZ s) (KR E [.tmp 4] Rp) 0 [v0,v1] h):EvC E s Tryz.f103 [v0,v1] h Rp:=zHp (zVZ s) H
def zmc:E.tab.fn.get 103=some Tryz.f103:=by kernel_rfl
def zgo:Tryz.f103.body=some zIL:=by kernel_rfl
def zmb(l:List Value)(h:AH):E.sum 103 l h=none:=by kernel_rfl
def zGk:Code:=zW Tryz.f104
def zFx(s:Bool):Cx:=⟨E,s,none,zGk,lvs zGk [[0,1,2,3],[0,1,2,3],[0,1,2,3,9],[0,1,2,3,9],[0,1,2,3,9,10],[0,1,2,3,9,10,11],[0,1,2,3,9,10,11,12],[0,1,2,3,9,10,11,12],[0,1,2,3,9,10,11,12,13],[0,1,2,3,9,10,11,12,13],[0,1,2,3,9,10,11,12,13,14],[0,1,2,3,9,10,11,12,13,14],[0,1,2,3,9,10,11,12,13,14],[0,1,2,3,9,10,11,12,13,14],[0,1,2,3,9,10,11,12,13,14,15],[0,1,2,3,9,10,11,12,13,14],[0,1,2,3,9,10,11,12,13],[0,1,2,3,9,10,11,12],[11]],[8],[]⟩
def zfJ:=pt (zFx s) zGk K 0 [b,d,e,f] h
def zfI:=pt (zFx s) zGk K 1 [b,d,e,f] h
def zTh:=zAb zGk [1,0] 1 16
def zfH:=pt (zFx s) zGk K 2 [b,d,e,f,g] h
def zfG:=pt (zFx s) zGk K 3 [b,d,e,f,g] h
def zfF:=pt (zFx s) zGk K 4 [d,e,f,g,i,b] h
def zfE:=pt (zFx s) zGk K 5 [e,f,g,i,j,b,d] h
def zOd:=pt (zFx s) zGk K 6 [f,g,i,j,k,b,d,e] h
def zKS:=zAb zGk [1,1,1,1,1,0,1,0,0,0,0] 2 25
def zfD:=pt (zFx s) zGk K 7 [f,g,i,j,k,b,d,e] h
def zOc:=pt (zFx s) zGk K 8 [g,i,j,k,l,b,d,e,f] h
def zKR:=zAb zGk [1,1,1,1,1,0,1,0,0,1,0,0,1,0,0,0,0] 8 37
def zfC:=pt (zFx s) zGk K 9 [g,i,j,k,l,b,d,e,f] h
def zUu:=pt (zFx s) zGk K 10 [i,j,k,l,m,b,d,e,f,g] h
def zUt:=pt (zFx s) zGk K 11 [i,j,k,l,m,b,d,e,f,g] h
def zUs:=pt (zFx s) zGk K 12 [i,j,k,l,m,b,d,e,f,g] h
def zUr:=pt (zFx s) zGk K 13 [i,j,k,l,m,b,d,e,f,g] h
def zUq:=pt (zFx s) zGk K 14 [j,k,l,m,o,b,d,e,f,g,i] h
def zUp:=pt (zFx s) zGk K 15 [i,j,k,l,m,b,d,e,f,g] h
def zUo:=pt (zFx s) zGk K 16 [g,i,j,k,l,b,d,e,f] h
def zUn:=pt (zFx s) zGk K 17 [f,g,i,j,k,b,d,e] h
def zUm:=pt (zFx s) zGk K 18 [b] h
def zq7(H:PI (zFx s) (KR E [.tmp 8] Rp) 0 [v0,v1,v2,v3] h):EvC E s Tryz.f104 [v0,v1,v2,v3] h Rp:=zHp (zFx s) H
def zma:E.tab.fn.get 104=some Tryz.f104:=by kernel_rfl
def zgn:Tryz.f104.body=some zGk:=by kernel_rfl
def zmZ(l:List Value)(h:AH):E.sum 104 l h=none:=by kernel_rfl
def zg4:Code:=zW Tryz.f159
def zhI(s:Bool):Cx:=⟨E,s,none,zg4,lvs zg4 [[0,1],[0,3],[0,3,5],[0,3,5],[0],[0,3,5],[0,3]],[4],[]⟩
def zdQ:=pt (zhI s) zg4 K 0 [b,d] h
def zdP:=pt (zhI s) zg4 K 1 [b,d] h
def zOK:=pt (zhI s) zg4 K 2 [b,d,e] h
def zTZ:=zAb zg4 [1,0,1,0,0,0,0] 2 7
def zdO:=pt (zhI s) zg4 K 3 [b,d,e] h
def zdN:=pt (zhI s) zg4 K 4 [b] h
def zdM:=pt (zhI s) zg4 K 5 [b,d,e] h
def zdL:=pt (zhI s) zg4 K 6 [b,d] h
def zgO:=zDR zhI 159 [.tmp 4] 0 [b,d] [b,d] Tryz.f159
def B51:Code:=zW Tryz.f51
def C51(s:Bool):Cx:=⟨E,s,none,B51,lvs B51 [[0,1,2,3],[0,3,5,6],[0,3,5,6,9],[9],[0,3,5,6],[],[0,3,5,6],[0,3,10],[0,3,10,11],[0,3,10,11],[0,3,10,11,12],[],[0,3,10,11],[]],[8],[]⟩
def zks:=pt (C51 s) B51 K 0 [b,d,e,f] h
def zkr:=pt (C51 s) B51 K 1 [b,d,e,f] h
def zkq:=pt (C51 s) B51 K 2 [b,d,e,f,g] h
def zkp:=pt (C51 s) B51 K 3 [b] h
def zko:=pt (C51 s) B51 K 4 [b,d,e,f] h
def zkn:=pt (C51 s) B51 K 5 [] h
def zkm:=pt (C51 s) B51 K 6 [b,d,e,f] h
def zkl:=pt (C51 s) B51 K 7 [d,e,b] h
def zSP:=pt (C51 s) B51 K 8 [e,f,b,d] h
def zMx:=zAb B51 [1,1,1,1,0,1,0,0,0,0] 2 34
def zkk:=pt (C51 s) B51 K 9 [e,f,b,d] h
def zZl:=pt (C51 s) B51 K 10 [f,g,b,d,e] h
def zZk:=pt (C51 s) B51 K 11 [] h
def zZj:=pt (C51 s) B51 K 12 [e,f,b,d] h
def zZi:=pt (C51 s) B51 K 13 [] h
def zft:=zCK C51 51 [.tmp 8] 0 [b,d,e,f] [b,d,e,f] Tryz.f51
def B52:Code:=zW Tryz.f52
def C52(s:Bool):Cx:=⟨E,s,none,B52,lvs B52 [[0,1,2,3],[0,3,5,6,8],[0,3,5,6,8,10],[8,10],[0,3,5,6,8],[3,5,6,8,11],[3,5,6,8,11,12],[3,5,6,8,11,12],[3,5,6,8,11,12,13],[3,5,6,8,11,12,13],[3,5,6,8,11,12,13],[3,5,6,8,11,12,13],[8],[3,5,6,8,11,12,13],[3,5,6,8,11,12],[8,11]],[8,9],[]⟩
def zkj:=pt (C52 s) B52 K 0 [b,d,e,f] h
def zki:=pt (C52 s) B52 K 1 [b,d,e,f,g] h
def zkh:=pt (C52 s) B52 K 2 [d,e,f,g,i,b] h
def zkg:=pt (C52 s) B52 K 3 [d,b] h
def zkf:=pt (C52 s) B52 K 4 [b,d,e,f,g] h
def zke:=pt (C52 s) B52 K 5 [d,e,f,g,b] h
def zSO:=pt (C52 s) B52 K 6 [e,f,g,i,b,d] h
def zkd:=pt (C52 s) B52 K 7 [e,f,g,i,b,d] h
def zSN:=pt (C52 s) B52 K 8 [f,g,i,j,b,d,e] h
def zkc:=pt (C52 s) B52 K 9 [f,g,i,j,b,d,e] h
def zZh:=pt (C52 s) B52 K 10 [f,g,i,j,b,d,e] h
def zZg:=pt (C52 s) B52 K 11 [f,g,i,j,b,d,e] h
def zTI:=zAb B52 [1,1,1,0,1,0,0,1,0,0,1,0,0,1,0,0,1,0] 2 58
def zZf:=pt (C52 s) B52 K 13 [f,g,i,j,b,d,e] h
def zZe:=pt (C52 s) B52 K 14 [e,f,g,i,b,d] h
def zZd:=pt (C52 s) B52 K 15 [d,b] h
def zu8(H:PI (C52 s) (KR E [.cell 8 32,.tmp 9] Rp) 0 [v0,v1,v2,v3] h):EvC E s Tryz.f52 [v0,v1,v2,v3] h Rp:=zHp (C52 s) H
def zq4:E.tab.fn.get 52=some Tryz.f52:=by kernel_rfl
def zl8:Tryz.f52.body=some B52:=by kernel_rfl
def zq3(l:List Value)(h:AH):E.sum 52 l h=none:=by kernel_rfl
def B54:Code:=zW Tryz.f54
def C54(s:Bool):Cx:=⟨E,s,none,B54,lvs B54 [[0,1],[0,3,4],[4],[0,3,4],[4],[0,3,4],[3,4,6],[3,4,6,7],[3,4,6,7],[3,4,6,7],[4,6]],[4,5],[]⟩
def zkY:=pt (C54 s) B54 K 0 [b,d] h
def zkX:=pt (C54 s) B54 K 1 [b,d,e] h
def zkW:=pt (C54 s) B54 K 2 [b] h
def zkV:=pt (C54 s) B54 K 3 [b,d,e] h
def zkU:=pt (C54 s) B54 K 4 [b] h
def zkT:=pt (C54 s) B54 K 5 [b,d,e] h
def zkS:=pt (C54 s) B54 K 6 [b,d,e] h
def zSI:=pt (C54 s) B54 K 7 [b,d,e,f] h
def zkR:=pt (C54 s) B54 K 8 [b,d,e,f] h
def zkQ:=pt (C54 s) B54 K 9 [b,d,e,f] h
def zZc:=pt (C54 s) B54 K 10 [b,d] h
def zu6(H:PI (C54 s) (KR E [.cell 4 32,.tmp 5] Rp) 0 [v0,v1] h):EvC E s Tryz.f54 [v0,v1] h Rp:=zHp (C54 s) H
def zq0:E.tab.fn.get 54=some Tryz.f54:=by kernel_rfl
def zl5:Tryz.f54.body=some B54:=by kernel_rfl
def zqz(l:List Value)(h:AH):E.sum 54 l h=none:=by kernel_rfl
def B9:Code:=zW Tryz.f9
def C9(s:Bool):Cx:=⟨E,s,none,B9,lvs B9 [[0,1,2,3],[3,4,5,6],[],[3,4,5,6],[],[3,4,5,6],[],[3,4,5,6],[3,4,5,6,9,10],[4,6,9,10,11,12],[4,6,9,10,11,12,13,14],[9,10,11,12,13,14,15,16]],[8],[]⟩
def zql:=pt (C9 s) B9 K 0 [b,d,e,f] h
def zqk:=pt (C9 s) B9 K 1 [b,d,e,f] h
def zqj:=pt (C9 s) B9 K 3 [b,d,e,f] h
def zWx:=zAb B9 [1,1,0,0] 13 31
def zqi:=pt (C9 s) B9 K 4 [] h
def zqh:=pt (C9 s) B9 K 5 [b,d,e,f] h
def zqg:=pt (C9 s) B9 K 7 [b,d,e,f] h
def zqf:=pt (C9 s) B9 K 8 [d,e,f,g,i,b] h
def zqe:=pt (C9 s) B9 K 9 [f,g,i,b,d,e] h
def ziW:=pt (C9 s) B9 K 10 [i,j,k,b,d,e,f,g] h
def ziV:=pt (C9 s) B9 K 11 [k,b,d,e,f,g,i,j] h
def zqw:=zz C9 9 [.tmp 8] 0 [b,d,e,f] [b,d,e,f] Tryz.f9
end Go.Proofs
namespace Go.Proofs
open Go Go.AM
def zYH{n:Int}{h:AH}(aa:h.ok):(zc E).call 154 [iI n] h=some [(.bool false,h)]:=by
 refine zgT (s:=true) aa rfl (zdi ?_);refine zdh ?_;simp[zA,zAS,zAC,zO]
def zJF{a b:Int}{h:AH}(aa:h.ok):(zc E).call 94 [iI a,iI b] h=some [(iI (if a<b then -1 else if b<a then 1 else 0),h)]:=by
 have hf:=zAR h;refine zlp (s:=true) aa rfl (ziw ?_);refine ziv ?_;simp only[zA,zM,zYH hf,zJ];refine ziu ?_;simp only[zA,zM,zYH hf,zJ];refine zit ?_;simp only[zA,zZ];refine zis ?_;simp only[zA,zZ];refine zir ?_;simp only[zA,zP,zAV];refine⟨λ h1=>zY3 ?_,λ h1=>zY2 ?_⟩
 ·simp[zA,zAC,zO,h1]
 simp only[zA,zAK,zAV];refine⟨λ h2=>zY1 ?_,λ h2=>zY0 ?_⟩
 ·simp[zA,zAC,zO,h1,h2]
 ·simp[zA,zAC,zO,h1,h2]
inductive Arr(h:AH)(z:Nat):Value->List (List Value)->Prop
 | nil (a:Option Addr) (c:Nat):Arr h z (.slice a 0 c) []
 | row {b o c:Nat} {vs:List Value} {ty es:Nat} {ro:Bool} {els:List (List Value)} (hb:h.get b=some (.row vs ty es ro)) (ab:b<h.qa) (hl:o+els.length*z<=vs.length)
   (hz:∀ i e,els[i]?=some e->e.length=z/\(vs.drop (o+i*z)).take z=e):Arr h z (.slice (some ⟨b,o,none⟩) els.length c) els
def Arr.ext{h k:AH}{z:Nat}{v:Value}{els:List (List Value)}(a:Arr h z v els)(e:Ext h k):Arr k z v els:=by
 cases a with
 | nil a c=>exact .nil a c
 | row hb ab hl hz=>exact .row ((e.get _ ab).trans hb) (xAC ab e.qa) hl hz
def zj(p:Nat->Bool):Nat->Nat->Int
 | 0,_=>-1
 | n+1,i=>if p i then (i:Int) else zj p n (i+1)
def zCb{p:Nat->Bool}:∀(n i:Nat),(∀ j,i<=j->j<i+n->p j=false) ↔ zj p n i<0
 | 0,i=>by simp[zj];intro j h1 h2;omega
 | n+1,i=>by
  simp only[zj];constructor
  ·intro h;rw[h i (xAF _) (by omega)];simp only[xBX,xDI];exact (zCb n (i+1)).1 λ j h1 h2=>h j (by omega) (by omega)
  ·intro h j h1 h2;cases hp:p i with
   | true=>rw[hp] at h;simp at h;omega
   | false=>
    rw[hp] at h;simp only[xBX,xDI] at h;by_cases e:j=i
    ·rw[e,hp]
    ·exact (zCb n (i+1)).2 h j (by omega) (by omega)
def zCS{i n:Nat}(hi:i<n)(hn:n<=9223372036854775807):zC2 ((i:Int)+1):=by unfold zC2;omega
def zpx{h0:AH}{v f:Value}{els:List (List Value)}{p:Nat->Bool}(ha:Arr h0 2 v els)(hn:els.length<=9223372036854775807)
  (hf:∀ k,Ext h0 k->∀ i e,els[i]?=some e->zAs (zc E) (some f) (some [.agg ⟨e⟩]) k=some [(.bool (p i),k)]) {k:AH} (hk:Ext h0 k) :
  (zc E).call 220 [v,f] k=some [(iI (zj p els.length 0),k)]:=by
 refine zOm (s:=true) hk.ok rfl (zJQ ?_);refine zJP ?_;have loop:∀(m i:Nat),i+m=els.length->znx true (KR E [.tmp 2] (λ x l=>x=iI (zj p m i)/\k.qa<=l.wm)) v f (iI (els.length:Int)) (iI (i:Int)) k.qb:=by
  intro m
  induction m with
  | zero=>
   intro i hi;refine zE4 ?_;simp only[zP,zA,zAV];refine⟨λ h=>by omega,λ _=>zJO ?_⟩;simp[zA,zAC,zO,zj]
  | succ m ih=>
   intro i hi;have cR:=ha;cases cR with
   | nil a c=>simp at hi
   | @row b o c vs ty es ro _ hb ab hl hz=>
   have ai:i<els.length:=by omega
   refine zE4 ?_;simp only[zP,zA,zAV];refine⟨λ _=>zN7 ?_,λ h=>by omega⟩;refine zN6 ?_;obtain⟨hz1,kb⟩:=hz i els[i] (xAA ai);have ar:k.qb.get b=some (.row vs ty es ro):=(hk.get b ab).trans hb;have bK:o+i*2+2<=vs.length:=by
    have:(i+1)*2<=els.length*2:=xBH _ (by omega);omega
   simp only[zA,zD8 ai,zN zEg ar bK,kb,hf _ hk.qb i _ (xAA ai),zJ,zAq];refine⟨λ h=>zN5 ?_,λ h=>zN4 ?_⟩
   ·simp[zA,zAC,zO,zj,h]
   ·simp only[zk _ (zCS ai hn),zA];have:=ih (i+1) (by omega);simp only[zj,h];simpa using this
 have h0:=loop els.length 0 (by omega);cases ha with
 | nil a c=>
  simp only[zA,zFM];exact h0
 | row hb ab hl hz=>
  simp only[zA,zFM];exact h0
def zp8{h0:AH}{v f:Value}{els:List (List Value)}{p:Nat->Bool}(ha:Arr h0 2 v els)(hn:els.length<=9223372036854775807)
  (hf:∀ k,Ext h0 k->∀ i e,els[i]?=some e->zAs (zc E) (some f) (some [.agg ⟨e⟩]) k=some [(.bool (p i),k)]) {k:AH} (hk:Ext h0 k) :
  (zc E).call 173 [v,f] k=some [(.bool (decide (0<=zj p els.length 0)),k)]:=by
 refine zgI (s:=true) hk.ok rfl (zc1 ?_);refine zc0 ?_;simp only[zA,zM,zpx ha hn hf hk.qb,zJ,zBY];simp[zA,zAC,zO]
def zpu{h0:AH}{v f:Value}{els:List (List Value)}{p:Nat->Bool}(ha:Arr h0 3 v els)(hn:els.length<=9223372036854775807)
  (hf:∀ k,Ext h0 k->∀ i e,els[i]?=some e->zAs (zc E) (some f) (some [.agg ⟨e⟩]) k=some [(.bool (p i),k)]) {k:AH} (hk:Ext h0 k) :
  (zc E).call 243 [v,f] k=some [(iI (zj p els.length 0),k)]:=by
 refine zf2 (s:=true) hk.ok rfl (zbV ?_);refine zbU ?_;have loop:∀(m i:Nat),i+m=els.length->zuP true (KR E [.tmp 2] (λ x l=>x=iI (zj p m i)/\k.qa<=l.wm)) v f (iI (els.length:Int)) (iI (i:Int)) k.qb:=by
  intro m
  induction m with
  | zero=>
   intro i hi;refine zNu ?_;simp only[zP,zA,zAV];refine⟨λ h=>by omega,λ _=>zbP ?_⟩;simp[zA,zAC,zO,zj]
  | succ m ih=>
   intro i hi;have cR:=ha;cases cR with
   | nil a c=>simp at hi
   | @row b o c vs ty es ro _ hb ab hl hz=>
   have ai:i<els.length:=by omega
   refine zNu ?_;simp only[zP,zA,zAV];refine⟨λ _=>zbT ?_,λ h=>by omega⟩;refine zbS ?_;obtain⟨hz1,kb⟩:=hz i els[i] (xAA ai);have ar:k.qb.get b=some (.row vs ty es ro):=(hk.get b ab).trans hb;have bK:o+i*3+3<=vs.length:=by
    have:(i+1)*3<=els.length*3:=xBH _ (by omega);omega
   simp only[zA,zXf ai,zN zCl ar bK,kb,hf _ hk.qb i _ (xAA ai),zJ,zAq];refine⟨λ h=>zbR ?_,λ h=>zbQ ?_⟩
   ·simp[zA,zAC,zO,zj,h]
   ·simp only[zk _ (zCS ai hn),zA];have:=ih (i+1) (by omega);simp only[zj,h];simpa using this
 have h0:=loop els.length 0 (by omega);cases ha with
 | nil a c=>
  simp only[zA,zKG];exact h0
 | row hb ab hl hz=>
  simp only[zA,zKG];exact h0
def zYA{h0:AH}{v f:Value}{els:List (List Value)}{p:Nat->Bool}(ha:Arr h0 3 v els)(hn:els.length<=9223372036854775807)
  (hf:∀ k,Ext h0 k->∀ i e,els[i]?=some e->zAs (zc E) (some f) (some [.agg ⟨e⟩]) k=some [(.bool (p i),k)]) {k:AH} (hk:Ext h0 k) :
  (zc E).call 215 [v,f] k=some [(.bool (decide (0<=zj p els.length 0)),k)]:=by
 refine zf9 (s:=true) hk.ok rfl (zcB ?_);refine zcA ?_;simp only[zA,zM,zpu ha hn hf hk.qb,zJ,zBY];simp[zA,zAC,zO]
inductive GT where
 | mk (k n:Int) (l:List GT)
mutual
inductive RT(h:AH):Value->List GT->Prop
 | mk {v:Value} {els:List (List Value)} {ts:List GT} (ha:Arr h 3 v els) (hn:els.length<=9223372036854775807) (hc:RC h els ts):RT h v ts
inductive RC(h:AH):List (List Value)->List GT->Prop
 | nil:RC h [] []
 | cons {k n:Int} {v:Value} {l:List GT} {els:List (List Value)} {ts:List GT} (hv:RT h v l) (hs:RC h els ts):RC h ([iI k,iI n,v]::els) (.mk k n l::ts)
end
mutual
def RT.ext{h k:AH}(e:Ext h k):∀ {v:Value} {ts:List GT},RT h v ts->RT k v ts
 | _,_,.mk ha hn hc=>.mk (ha.ext e) hn (RC.ext e hc)
def RC.ext{h k:AH}(e:Ext h k):∀ {els:List (List Value)} {ts:List GT},RC h els ts->RC k els ts
 | _,_,.nil=>.nil
 | _,_,.cons hv hs=>.cons (RT.ext e hv) (RC.ext e hs)
end
def RC.at{h:AH}:∀ {els:List (List Value)} {ts:List GT},RC h els ts->∀(i:Nat) (e:List Value),els[i]?=some e->∃(k n:Int) (v:Value) (l:List GT),e=[iI k,iI n,v]/\RT h v l/\ts[i]?=some (GT.mk k n l)
 | _,_,.nil,i,e,h=>by simp at h
 | _,_,.cons hv hs,0,e,h=>by simp at h;exact⟨_,_,_,_,h.symm,hv,rfl⟩
 | _,_,.cons hv hs,i+1,e,h=>by simp only[xAj] at h;obtain⟨k,n,v,l,a,b,c⟩:=RC.at hs i e h;exact⟨k,n,v,l,a,b,by simpa using c⟩
def RC.length{h:AH}:∀ {els:List (List Value)} {ts:List GT},RC h els ts->els.length=ts.length
 | _,_,.nil=>rfl
 | _,_,.cons _ hs=>by simp[RC.length hs]
def RT.slice{h:AH}{v:Value}{ts:List GT}(r:RT h v ts):∃ a c,v=.slice a ts.length c:=by
 cases r with
 | mk ha hn hc=>
  have:=RC.length hc;cases ha with
  | nil a c=>simp at this;exact⟨a,c,by rw[← this]⟩
  | row=>rw[← this];exact⟨_,_,rfl⟩
def Arr.load{h:AH}{z:Nat}{v:Value}{els:List (List Value)}(ha:Arr h z v els){i:Nat}{e:List Value}(hi:els[i]?=some e) :
  ∃ b o c vs ty es ro,v=.slice (some ⟨b,o,none⟩) els.length c/\h.get b=some (.row vs ty es ro)/\b<h.qa/\o+i*z+z<=vs.length/\(vs.drop (o+i*z)).take z=e/\e.length=z:=by
 cases ha with
 | nil a c=>simp at hi
 | @row b o c vs ty es ro _ hb ab hl hz=>
  have aI:i<els.length:=(xAc.1 hi).1;refine⟨b,o,c,vs,ty,es,ro,rfl,hb,ab,?_,(hz i e hi).2,(hz i e hi).1⟩;have:(i+1)*z<=els.length*z:=xBH _ (by omega);rw[xDE] at this;omega
abbrev zMC(a d:Int)(ty:TypeId):AObj:=rO [iI a,iI d] ty
def zsX(a b:Int)(h:AH):zh E (zAc [(19,iI a),(20,iI b)]) (zA4 zVb [1,1,0] 6) h=some (iI (if b > a then b else a)):=by kernel_rfl
def upd2{h:AH}{b:Nat}{a d x:Int}{ty:TypeId}(hb:h.get b=some (zMC a d ty)):zAM E 3 h (sP b 0) (some (iI x))=one (undef,h.upd b (some (zMC x d ty))):=by
 rw[zi (P:=E) zg8 hb (zEw _ _) rfl (by simp) rfl];rfl
def zv8{h:AH}{b:Nat}{a d x:Int}{ty:TypeId}(hb:h.get b=some (zMC a d ty)):zAM E 3 h (some (.pointer (some ⟨b,1,none⟩))) (some (iI x))=one (undef,h.upd b (some (zMC a x ty))):=by
 rw[zi (P:=E) zg8 hb (zEw _ _) rfl (by simp) rfl];rfl
mutual
def zP9:GT->Int->Int×Int->Int×Int
 | .mk _ _ l,deep,s=>zLv l deep (zCv .i64 (s.1+1),if deep > s.2 then deep else s.2)
def zLv:List GT->Int->Int×Int->Int×Int
 | [],_,s=>s
 | t::ts,deep,s=>if 2000<s.1\/200<s.2 then s else zLv ts deep (zP9 t (zCv .i64 (deep+1)) s)
end
def zgs(k0:AH)(b:Nat)(ty:TypeId)(s:Int×Int)(k:AH):Prop:=Chg k0 b k/\k.wm<=b/\k.get b=some (zMC s.1 s.2 ty)
def zDt{h:AH}{v:Value}{ts:List GT}(r:RT h v ts):zl v=true:=by obtain⟨a,c,rfl⟩:=r.slice;rfl
mutual
def zX8{h0:AH}:∀ {v:Value} {ts:List GT},RT h0 v ts->∀ {k:AH} {b:Nat} {a d kk nn deep:Int} {ty:TypeId},Ext h0 k->h0.qa<=b->b<k.qa->k.get b=some (zMC a d ty)->
  Ev true ((zc E).call 268 [.pointer (some ⟨b,0,none⟩),.agg #[iI kk,iI nn,v],iI deep] k) λ x=>zgs k b ty (zP9 (.mk kk nn ts) deep (a,d)) x.2
 | v,ts,.mk (els:=els) ha hn hc,k,b,a,d,kk,nn,deep,ty,hk,df,c8,hb=>by
  refine zfy (Rp:=λ _ k'=>zgs k b ty (zP9 (.mk kk nn ts) deep (a,d)) k') (za0 ?_);have bS:RT h0 v ts:=.mk ha hn hc;simp only[zU,zF,zK];refine zaz ?_;have e1:=(Chg.refl (zAR k) b).new (rO [iI kk,iI nn,v] 173);have g1:(k.qb.new (rO [iI kk,iI nn,v] 173)).get b=some (zMC a d ty):=by rw[zG (by simp;omega)];exact hb
  have l1:=zB (P:=E) zAE (o:=0) g1;simp only[lnth] at l1;simp only[zA,zx,zID,xCu,l1,zQQ,upd2 g1,zF];refine zay ?_;have e2:=e1.upd (some (zMC (zCv .i64 (a+1)) d ty));generalize hk2:(k.qb.new (rO [iI kk,iI nn,v] 173)).upd b (some (zMC (zCv .i64 (a+1)) d ty))=k2 at e2;have g2:k2.get b=some (zMC (zCv .i64 (a+1)) d ty):=by rw[← hk2,zH]
  have t2:k2.get k.qa=some (rO [iI kk,iI nn,v] 173):=by rw[← hk2,zL (by omega)];exact zD _ _
  have l2:=zB (P:=E) zAE (o:=1) g2;simp only[lnth] at l2;simp only[zA,zx,zGU,xAK,l2,zsX,zv8 g2,zF];refine zax ?_;rw[show zP9 (.mk kk nn ts) deep (a,d)=zLv ts deep (zCv .i64 (a+1),if deep > d then deep else d) from rfl];generalize (if deep > d then deep else d)=d';have e3:=e2.upd (some (zMC (zCv .i64 (a+1)) d' ty));generalize hk3:k2.upd b (some (zMC (zCv .i64 (a+1)) d' ty))=k3 at e3;have g3:k3.get b=some (zMC (zCv .i64 (a+1)) d' ty):=by rw[← hk3,zH]
  have t3:k3.get k.qa=some (rO [iI kk,iI nn,v] 173):=by rw[← hk3,zL (by omega)];exact t2
  have w3:k3.wm<=b:=by rw[← hk3];exact (zBr _ _ _).2
  have l3:=zB (P:=E) zD0 (o:=2) t3;simp only[lnth] at l3;obtain⟨sa,sc,hv⟩:=bS.slice;have hlen:=RC.length hc;subst hv;simp only[zAf,xAK,l3,zA,zR,zTO];refine zWv hc (i:=0) (all:=els) (by simp) ha hn hlen hk df c8 e3 g3 w3 λ ex k' hex am=>?_;simp only[znF,hex,xDJ];have dg:=am.2.1;refine⟨.inr (by omega),am.1.of_fresh,?_,am.2.2⟩;show cond (Nat.ble k.wm k'.wm) k.wm k'.wm<=b;cases bv:Nat.ble k.wm k'.wm with
  | true=>rw[ble_true] at bv;simp only[xAG];omega
  | false=>simp only[xAH];omega
def zWv{h0:AH}:∀ {els:List (List Value)} {ts:List GT},RC h0 els ts->∀ {i:Nat} {all:List (List Value)} {sa:Option Addr} {len sc:Nat},all.drop i=els->Arr h0 3 (.slice sa len sc) all->all.length<=9223372036854775807->all.length=len->
  ∀ {k0 k:AH} {b:Nat} {a d deep:Int} {ty:TypeId} {K:KF},Ext h0 k0->h0.qa<=b->b<k0.qa->Chg k0.qb b k->k.get b=some (zMC a d ty)->k.wm<=b->
  (∀ ex k',zCa ex=true->zgs k0.qb b ty (zLv ts deep (a,d)) k'->K ex [] k')->zuN true K (.pointer (some ⟨b,0,none⟩)) (iI deep) (.slice sa len sc) (iI (len:Int)) (iI (i:Int)) k
 | els,ts,hc,i,all,sa,len,sc,hd,ha,hn,hlen,k0,k,b,a,d,deep,ty,K,h1,h2,h3,h4,h5,h6,hK=>by
  refine zaw ?_;simp only[zP,zA,zAV];refine⟨λ hi=>zav ?_,λ hni=>?_⟩;rotate_left
  ·have:els=[]:=by rw[← hd];exact xAs (by omega)
   have dX:ts=[]:=by have:=RC.length hc;rw[‹els=[]›] at this;simpa using this.symm
   rw[dX] at hK;exact hK _ _ rfl ⟨h4,h6,h5⟩
  have ax:i<all.length:=by omega
  match els,ts,hc,hd with
  | _,_,.nil,hd=>
   have:=congrArg List.length hd;simp at this;omega
  | _,_,.cons (k:=tk) (n:=tn) (v:=tv) hv hs,hd=>
   have cV:all[i]?=some [iI tk,iI tn,tv]:=by
    have:=congrArg (·[0]?) hd;simpa[xBW] using this
   obtain⟨b',o,c,vs,ty',es,ro,aH,ar,ab,bK,hz,_⟩:=ha.load cV;simp only[xBu] at aH;obtain⟨hsa,dH,d9⟩:=aH;subst hsa;have e0:Ext h0 k:=Chg.ext h1.qb h2 h4;have gb':k.get b'=some (.row vs ty' es ro):=(e0.get _ ab).trans ar;have jz:k0.qa<=k.qa:=h4.qa;simp only[zXf (show i<len by omega),zA,zN zCl gb' bK,hz,zhK,zU,zF,zK];have gk:=zD k (rO [iI 0,iI 0,.slice none 0 0] 173);rw[zi (P:=E) zMM gk (zK _) rfl (by simp) (by simp[zl];exact zDt hv)];simp only[zF];have jx:lput [iI 0,iI 0,.slice none 0 0] 0 [iI tk,iI tn,tv]=[iI tk,iI tn,tv]:=rfl;rw[jx];have e5:=(h4.new (rO [iI 0,iI 0,.slice none 0 0] 173)).updNew (c:=k.qa) (by simpa using h4.qa) (some (rO [iI tk,iI tn,tv] 173));have w5:((k.new (rO [iI 0,iI 0,.slice none 0 0] 173)).upd k.qa (some (rO [iI tk,iI tn,tv] 173))).wm<=b:=xCx (zBr _ _ _).1 h6;generalize hk5:(k.new (rO [iI 0,iI 0,.slice none 0 0] 173)).upd k.qa (some (rO [iI tk,iI tn,tv] 173))=k5 at e5 w5;have n5:k5.qa=k.qa+1:=by rw[← hk5];rfl
   have g5:k5.get b=some (zMC a d ty):=by rw[← hk5,zL (by omega),zG (by omega)];exact h5
   have t5:k5.get k.qa=some (rO [iI tk,iI tn,tv] 173):=by rw[← hk5,zH]
   refine zau ?_;have l0:=zB (P:=E) zAE (o:=0) g5;have l1:=zB (P:=E) zAE (o:=1) g5;simp only[lnth] at l0 l1;simp only[zA,zx,zID,xCu,l0,zAK,zI];have next:¬ (2000:Int)<a->¬ (200:Int)<d->zuM true K (.pointer (some ⟨b,0,none⟩)) (iI deep) (.pointer (some ⟨k.qa,0,none⟩)) (.slice (some ⟨b',o,none⟩) len sc) (iI (len:Int)) (iI (i:Int)) k5:=by
    intro hn1 iL;refine zat ?_;have l5:=zN (P:=E) zCl (o:=0) t5 (by simp);simp only[zA,l5,zQQ,zM];refine (zX8 hv (k:=k5) (a:=a) (d:=d) (ty:=ty) (Chg.ext h1.qb h2 e5) h2 (by omega) g5).mono λ x hx=>?_;obtain⟨c1,wx,c2⟩:=hx;refine zas ?_;simp only[zk _ (zCS ax hn),zA];have:=zWv hs (i:=i+1) (all:=all) (by rw[← List.drop_drop,hd];rfl) ha hn hlen h1 h2 h3 (deep:=deep) (e5.trans c1) c2 wx (by simpa[zLv,hn1,iL] using hK);exact this
   by_cases hgt:(2000:Int)<a
   ·simp only[hgt,xDG,show ((true==false)=false) from rfl,xAH,zA,zE,xAG,ze];exact hK _ _ rfl ⟨e5,w5,by simpa[zLv,hgt] using g5⟩
   ·simp only[hgt,xCz,show ((false==false)=true) from rfl,xAG,zA,zx,zGU,xAK,l1,zAK,zE,xAH,zAV];exact⟨λ h2=>hK _ _ rfl ⟨e5,w5,by simpa[zLv,h2] using g5⟩,λ h2=>next hgt h2⟩
end
def zpq{k:AH}{b:Nat}{a d:Int}{ty:TypeId}(aa:k.ok)(hb:k.get b=some (zMC a d ty)):(zc E).call 269 [.pointer (some ⟨b,0,none⟩)] k=some [(.bool (decide (2000<a\/200<d)),k)]:=by
 refine zfx (s:=true) aa rfl (zar ?_);refine zaq ?_;have ar:k.qb.get b=some (zMC a d ty):=hb;have l0:=zB (P:=E) zAE (o:=0) ar;have l1:=zB (P:=E) zAE (o:=1) ar;simp only[lnth] at l0 l1;simp only[zA,zx,zID,xCu,l0,zAK,zI];by_cases hgt:(2000:Int)<a
 ·simp[hgt,zA,zE,zAC,zO]
 ·by_cases hd:(200:Int)<d
  ·simp[hgt,hd,zA,zE,zAC,zO,zx,zGU,l1,zAK]
  ·simp[hgt,hd,zA,zE,zAC,zO,zx,zGU,l1,zAK]
def zPD(t:GT):Int×Int:=if 2000<(zP9 t 1 (0,0)).1\/200<(zP9 t 1 (0,0)).2 then (2001,201) else zP9 t 1 (0,0)
def zpt{h0 k:AH}{kk nn:Int}{v:Value}{l:List GT}(hr:RT h0 v l)(hk:Ext h0 k) :
  (zc E).call 244 [.agg #[iI kk,iI nn,v]] k=some [(.tuple #[iI (zPD (.mk kk nn l)).1,iI (zPD (.mk kk nn l)).2],k)]:=by
 refine zVE hk.ok rfl (zbO ?_);simp only[zU,zF,zK,zA];refine zbN ?_;simp only[zvy,zU,zF,zK];refine zbM ?_;have e1:=(hk.qb.new (rO [iI kk,iI nn,v] 173)).new (rO [iI 0,iI 0] 306);have t1:((k.qb.new (rO [iI kk,iI nn,v] 173)).new (rO [iI 0,iI 0] 306)).get k.qa=some (rO [iI kk,iI nn,v] 173):=by
  rw[zG (by simp)];exact zD k.qb _
 have g1:((k.qb.new (rO [iI kk,iI nn,v] 173)).new (rO [iI 0,iI 0] 306)).get (k.qa+1)=some (zMC 0 0 306):=zD (k.qb.new _) _;have n1:((k.qb.new (rO [iI kk,iI nn,v] 173)).new (rO [iI 0,iI 0] 306)).qa=k.qa+2:=rfl;have w1:((k.qb.new (rO [iI kk,iI nn,v] 173)).new (rO [iI 0,iI 0] 306)).wm=k.qa+UNK:=rfl;simp only[zR,AH.next_new];generalize ((k.qb.new (rO [iI kk,iI nn,v] 173)).new (rO [iI 0,iI 0] 306))=k1 at e1 t1 g1 n1 w1;have lt:=zN (P:=E) zCl (o:=0) t1 (by simp);have dr:=hk.qa;simp only[lt,zA,zM];refine (zX8 hr (k:=k1) (b:=k.qa+1) e1 (by omega) (by omega) g1).mono λ x hx=>?_;obtain⟨c1,_,c2⟩:=hx;refine zbL ?_;simp only[zM,zpq c1.ok c2,zJ,zAV];have d7:k.qa<=x.2.wm:=c1.wm k.qa (by omega) (by omega) (by omega);have l0:=zB (P:=E) zAE (o:=0) c2;have l1:=zB (P:=E) zAE (o:=1) c2;simp only[lnth] at l0 l1;refine⟨λ gX=>zbK ?_,λ gX=>zbJ ?_⟩
 ·simp[zA,zo1,zO,zPD,gX,d7]
 ·simp only[zA,zID,zGU,xCu,xAK,l0,l1,zo1,zO,xDJ,zPD,gX,xDI];exact d7
mutual
def okT:GT->Bool
 | .mk k n l=>decide (k=2)&&decide (0<=n)&&decide (n<256)&&decide (l.length<=8)&&okL l
def okL:List GT->Bool
 | []=>true
 | t::ts=>okT t&&okL ts
end
def okL_iff:∀ {ts:List GT},okL ts=true ↔ ∀(i:Nat) (t:GT),ts[i]?=some t->okT t=true
 | []=>by simp[okL]
 | t::ts=>by
  simp only[okL,xAP,okL_iff (ts:=ts)];constructor
  ·rintro⟨a,b⟩ i u hu;cases i with
   | zero=>simp at hu;rw[← hu];exact a
   | succ i=>exact b i u (by simpa using hu)
  ·intro h;exact⟨h 0 t rfl,λ i u hu=>h (i+1) u (by simpa using hu)⟩
def zOx(ts:List GT)(f:GT->Bool)(i:Nat):Bool:=match ts[i]? with
 | some t=>!f t
 | none=>false
def zsf{ts:List GT}:decide (0<=zj (zOx ts okT) ts.length 0)=!okL ts:=by
 have h:=zCb (p:=zOx ts okT) ts.length 0;cases hb:okL ts with
 | true=>
  have:zj (zOx ts okT) ts.length 0<0:=h.1 λ j _ hj=>by
   unfold zOx;cases ht:ts[j]? with
   | none=>rfl
   | some t=>simp[okL_iff.1 hb j t ht]
  rw[xAI (by omega)];rfl
 | false=>
  have:¬ zj (zOx ts okT) ts.length 0<0:=by
   intro ec;have:=h.2 ec;have aD:okL ts=true:=okL_iff.2 λ i t ht=>by
    have hi:=(xAc.1 ht).1;have:=this i (xDF _) (by omega);simpa[zOx,ht] using this
   rw[aD] at hb;cases hb
  rw[xAJ (by omega)];rfl
abbrev zVk(f:FuncId)(b:Nat):Value:=.func (.func f) #[] #[.pointer (some ⟨b,0,none⟩)]
def zQW(h0:AH)(kk nn:Int)(v:Value)(l:List GT):Prop:=∀(k:AH) (b:Nat),Ext h0 k->b<k.qa->k.get b=some (rO [zVk 245 b] 247)->
 (zc E).call 245 [.agg #[iI kk,iI nn,v],.pointer (some ⟨b,0,none⟩)] k=some [(.bool (okT (.mk kk nn l)),k)]
def zps{h0:AH}{kk nn:Int}{v:Value}{l:List GT}(hs:zQW h0 kk nn v l){k:AH}{b:Nat}(hk:Ext h0 k)(c8:b<k.qa)(hb:k.get b=some (rO [zVk 245 b] 247)) :
  (zc E).call 246 [.agg #[iI kk,iI nn,v],.pointer (some ⟨b,0,none⟩)] k=some [(.bool (!okT (.mk kk nn l)),k)]:=by
 refine zf0 (s:=true) hk.ok rfl (zbG ?_);simp only[zU,zF,zK,zA];refine zbF ?_;have e1:=hk.qb.new (rO [iI kk,iI nn,v] 173);have t1:=zD k.qb (rO [iI kk,iI nn,v] 173);have g1:(k.qb.new (rO [iI kk,iI nn,v] 173)).get b=some (rO [zVk 245 b] 247):=by rw[zG (by simp;omega)];exact hb
 have lt:=zN (P:=E) zCl (o:=0) t1 (by simp);have lc:=zB (P:=E) zmp (o:=0) g1;simp only[lnth] at lc;simp only[xCe,List.take] at lt;simp only[zR] at lt;simp only[zR,lt,lc,zA,zE7];have:=hs _ _ e1 (by simp;omega) g1;simp only[xCa,xCL,this,zJ,zq,zA,zAC,zO];simp[zDK]
mutual
def zWG{h0:AH}:∀ {v:Value} {l:List GT},RT h0 v l->∀(kk nn:Int),zQW h0 kk nn v l
 | v,l,.mk (els:=els) ha hn hc,kk,nn=>by
  intro k b hk c8 hb;have bS:RT h0 v l:=.mk ha hn hc;have fH:=zQr hc;have hlen:=RC.length hc;obtain⟨sa,sc,hv⟩:=bS.slice;subst hv;refine zf1 (s:=true) hk.ok rfl (zbI ?_);simp only[zU,zF,zK,zA];refine zbH ?_;have e1:=hk.qb.new (rO [iI kk,iI nn,.slice sa l.length sc] 173);have t1:=zD k.qb (rO [iI kk,iI nn,.slice sa l.length sc] 173);have g1:(k.qb.new (rO [iI kk,iI nn,.slice sa l.length sc] 173)).get b=some (rO [zVk 245 b] 247):=by rw[zG (by simp;omega)];exact hb
  have w1:(k.qb.new (rO [iI kk,iI nn,.slice sa l.length sc] 173)).wm=k.qa+UNK:=rfl;have n1:(k.qb.new (rO [iI kk,iI nn,.slice sa l.length sc] 173)).qa=k.qa+1:=rfl;simp only[zR] at t1 ⊢;generalize k.qb.new (rO [iI kk,iI nn,.slice sa l.length sc] 173)=k1 at e1 t1 g1 w1 n1;have l0:=zB (P:=E) zAE (o:=0) t1;have l1:=zB (P:=E) zAE (o:=1) t1;have l2:=zB (P:=E) zD0 (o:=2) t1;simp only[lnth] at l0 l1 l2;have i7:(zc E).call 215 [.slice sa l.length sc,.func (.func 246) #[] #[.pointer (some ⟨b,0,none⟩)]] k1=some [(.bool (decide (0<=zj (zOx l okT) els.length 0)),k1)]:=by
   refine zYA (h0:=k1) (ha.ext e1) hn (λ k2 hk2 i e he=>?_) (Ext.refl e1.ok);obtain⟨ck,cn,cv,cl,q1,q2,q3,q4⟩:=fH i e he;subst q1;have:=zps q4 (e1.trans hk2) (xAC (by omega:b<k1.qa) hk2.qa) ((hk2.get b (by omega)).trans g1);simp only[zE7,xCa,xCL,zOx,q3];exact this
  rw[hlen,zsf] at i7;simp only[zGY,zGX,zAf,xCu,xAK,l0,zA,zAD,zI,zE,okT];by_cases c1:kk=2
  ·by_cases c2:0<=nn
   ·by_cases c3:nn<256
    ·by_cases c4:l.length<=8
     ·have c4':(l.length:Int)<=8:=by omega
      simp[c1,c2,c3,c4,c4',l1,l2,zA,zBY,zP,zYb,zIs,zE,zI,zS,zAX,zM,i7,zJ,zq,zAC,zO,w1]
     ·have c4':¬ (l.length:Int)<=8:=by omega
      simp[c1,c2,c3,c4,c4',l1,l2,zA,zBY,zP,zYb,zIs,zE,zI,zS,zF,zAC,zO,w1]
    ·simp[c1,c2,c3,l1,zA,zBY,zP,zE,zI,zS,zF,zAC,zO,w1]
   ·simp[c1,c2,l1,zA,zBY,zE,zI,zS,zF,zAC,zO,w1]
  ·simp[c1,zA,zE,zI,zS,zF,zAC,zO,w1]
def zQr{h0:AH}:∀ {els:List (List Value)} {ts:List GT},RC h0 els ts->∀(i:Nat) (e:List Value),els[i]?=some e->
  ∃(k n:Int) (v:Value) (l:List GT),e=[iI k,iI n,v]/\RT h0 v l/\ts[i]?=some (.mk k n l)/\zQW h0 k n v l
 | _,_,.nil,i,e,h=>by simp at h
 | _,_,.cons hv hs,0,e,h=>by simp at h;exact⟨_,_,_,_,h.symm,hv,rfl,zWG hv _ _⟩
 | _,_,.cons hv hs,i+1,e,h=>by
  simp only[xAj] at h;obtain⟨k,n,v,l,a,b,c,d⟩:=zQr hs i e h;exact⟨k,n,v,l,a,b,by simpa using c,d⟩
end
def zEq(t:GT):Bool:=decide ((zPD t).1<=2000)&&okT t
def zpz{h0 k:AH}{kk nn:Int}{v:Value}{l:List GT}(hr:RT h0 v l)(hk:Ext h0 k) :
  (zc E).call 217 [.agg #[iI kk,iI nn,v]] k=some [(.bool (zEq (.mk kk nn l)),k)]:=by
 refine zf7 (s:=true) hk.ok rfl (zb7 ?_);simp only[zU,zF,zK,zA];refine zb6 ?_;have e1:=hk.qb.new (rO [iI kk,iI nn,v] 173);have t1:=zD k.qb (rO [iI kk,iI nn,v] 173);have w1:(k.qb.new (rO [iI kk,iI nn,v] 173)).wm=k.qa+UNK:=rfl;have n1:(k.qb.new (rO [iI kk,iI nn,v] 173)).qa=k.qa+1:=rfl;simp only[zR] at t1 ⊢;generalize k.qb.new (rO [iI kk,iI nn,v] 173)=k1 at e1 t1 w1 n1;have lt:=zN (P:=E) zCl (o:=0) t1 (by simp);simp only[xCe,List.take] at lt;simp only[lt,zA,zM,zpt hr e1,zJ,z6,lnth];refine zb5 ?_;simp only[zA,zAK,zAV];refine⟨λ gX=>zb4 ?_,λ gX=>zb3 ?_⟩
 ·simp only[zA,zAC,zO,xDJ,zEq];refine⟨?_,by omega⟩;rw[xAI (by omega)];rfl
 ·simp only[zvz,zU,zF,zTt];refine zb2 ?_;have g0:=zD k1 (rO [.nilFunc] 247);simp only[zd,zAX,zA];rw[zi (P:=E) zrf (cs:=[zVk 245 k1.qa]) g0 rfl rfl (by simp) rfl];simp only[zF];refine zb1 ?_;have e2:=(e1.new (rO [.nilFunc] 247)).upd (b:=k1.qa) e1.qa (some (rO (lput [.nilFunc] 0 [zVk 245 k1.qa]) 247));have g2:((k1.new (rO [.nilFunc] 247)).upd k1.qa (some (rO (lput [.nilFunc] 0 [zVk 245 k1.qa]) 247))).get k1.qa=some (rO [zVk 245 k1.qa] 247):=zH _ _ _;have t2:((k1.new (rO [.nilFunc] 247)).upd k1.qa (some (rO (lput [.nilFunc] 0 [zVk 245 k1.qa]) 247))).get k.qa=some (rO [iI kk,iI nn,v] 173):=by
   rw[zL (by omega),zG (by omega)];exact t1
  have w2:k.qa<=((k1.new (rO [.nilFunc] 247)).upd k1.qa (some (rO (lput [.nilFunc] 0 [zVk 245 k1.qa]) 247))).wm:=zp (by rw[zDK];omega) (by omega);have n2:((k1.new (rO [.nilFunc] 247)).upd k1.qa (some (rO (lput [.nilFunc] 0 [zVk 245 k1.qa]) 247))).qa=k1.qa+1:=rfl;generalize ((k1.new (rO [.nilFunc] 247)).upd k1.qa (some (rO (lput [.nilFunc] 0 [zVk 245 k1.qa]) 247)))=k2 at e2 g2 t2 w2 n2;have lc:=zB (P:=E) zmp (o:=0) g2;have lt2:=zN (P:=E) zCl (o:=0) t2 (by simp);simp only[lnth,xCe,List.take] at lc lt2;simp only[lc,lt2,zA,zE7,xCa,xCL,zWG hr kk nn _ _ e2 (by omega) g2,zJ,zAC,zO,xDJ];refine⟨?_,w2⟩;unfold zEq;rw[xAJ (by omega)];rfl
structure Own(k l:AH):Prop where
 ext:Ext k l
 wm:k.qa<=l.wm
def Own.qb(k:AH):Own k k.qb:=⟨⟨zAR k,xAF _,λ _ _=>rfl⟩,by rw[zAN];omega⟩
def Own.new{k l:AH}(o:Own k l)(x:AObj):Own k (l.new x):=⟨o.ext.new x,o.wm⟩
def Own.upd{k l:AH}(o:Own k l){b:Nat}(hb:k.qa<=b)(x:Option AObj):Own k (l.upd b x):=⟨o.ext.upd hb x,zp o.wm hb⟩
def zBF(n:Nat)(k:IntKind)(a:Int):veq n (.int k a) (.int k a)=true:=by cases n <;> (show (decide (k=k)&&decide (a=a))=true;simp)
def zAw(n:Nat)(a:Option Addr)(m c:Nat):veq n (.slice a m c) (.slice a m c)=true:=by cases n <;> (show (decide (a=a)&&Nat.beq m m&&Nat.beq c c)=true;simp[xCp])
def orI:List Int->Int
 | []=>0
 | a::l=>if a≠0 then a else orI l
def zYD{k:AH}{is:List Int}{b c:Nat}{ty es:Nat}{ro:Bool}(hn:is.length<=1000)(aa:k.ok)(hb:k.get b=some (.row (is.map (Value.int .i64)) ty es ro)) :
  (zc E).call 171 [.slice (some ⟨b,0,none⟩) is.length c] k=some [(iI (orI is),k)]:=by
 refine zgJ (s:=true) aa rfl (zc9 ?_);refine zc8 ?_;refine zc7 ?_;simp only[zA,zTY];have ar:k.qb.get b=some (.row (is.map (Value.int .i64)) ty es ro):=hb;have loop:∀(js:List Int) (i:Nat),is.drop i=js->zuf true (KR E [.tmp 2] (λ x l=>x=iI (orI js)/\k.qa<=l.wm)) (iI 0) (.slice (some ⟨b,0,none⟩) is.length c) (iI (is.length:Int)) (iI (i:Int)) k.qb:=by
  intro js
  induction js with
  | nil=>
   intro i hi;have:is.length<=i:=List.drop_eq_nil_iff.1 hi;refine zOJ ?_;simp only[zP,zA,zAV];refine⟨λ h=>by omega,λ _=>zc2 ?_⟩;simp[zA,zAC,zO,orI]
  | cons j js ih=>
   intro i hi;have ab:i<is.length:=by
    rcases xCq i is.length with h|h
    ·exact h
    ·rw[xAs h] at hi;cases hi
   have hj:is[i]?=some j:=by have:=congrArg (·[0]?) hi;simpa[xBW] using this
   refine zOJ ?_;simp only[zP,zA,zAV];refine⟨λ _=>zc6 ?_,λ h=>by omega⟩;have hl:lnth (is.map (Value.int .i64)) (0+i*1)=some (iI j):=by rw[zAI];simp[hj]
   simp only[zXe ab,zA,zB zAE ar,hl];refine zc5 ?_;simp only[zA,zAS,zJn];refine⟨λ h=>zc4 ?_,λ h=>zc3 ?_⟩
   ·simp[zA,zAC,zO,orI,h]
   ·simp only[zk _ (zCS ab (by omega)),zA];have:=ih (i+1) (by rw[← List.drop_drop,hi];rfl);simp only[orI,h,ne_eq,not_true,xDI];simpa using this
 exact loop is 0 rfl
def zYV{a b:Int}{h:AH}:zg E 47 2 (some [(0,iI a),(1,iI b)]) h=one (.slice (some ⟨h.qa,0,none⟩) 2 2,h.new (rO [iI a,iI b] 3)):=by kernel_rfl
def zng{a b c:Int}{h:AH}:zg E 47 3 (some [(0,iI a),(1,iI b),(2,iI c)]) h=one (.slice (some ⟨h.qa,0,none⟩) 3 3,h.new (rO [iI a,iI b,iI c] 3)):=by kernel_rfl
def c3(a b:Int):Int:=if a<b then -1 else if b<a then 1 else 0
def or2{h:AH}(aa:h.ok)(a b:Int):(zc E).call 171 [.slice (some ⟨h.qa,0,none⟩) 2 2] (h.new (rO [iI a,iI b] 3))=some [(iI (orI [a,b]),h.new (rO [iI a,iI b] 3))]:=
 zYD (is:=[a,b]) (by simp) (zBb aa _) (zD _ _)
def or3{h:AH}(aa:h.ok)(a b c:Int):(zc E).call 171 [.slice (some ⟨h.qa,0,none⟩) 3 3] (h.new (rO [iI a,iI b,iI c] 3))=some [(iI (orI [a,b,c]),h.new (rO [iI a,iI b,iI c] 3))]:=
 zYD (is:=[a,b,c]) (by simp) (zBb aa _) (zD _ _)
def zDZ(c:Nat->Int)(n1 n2:Nat):Nat->Nat->Int
 | 0,_=>if n1<n2 then -1 else 0
 | m+1,i=>if n2<=i then 1 else if c i≠0 then c i else zDZ c n1 n2 m (i+1)
def zX9{h0:AH}{v1 v2 f:Value}{els1 els2:List (List Value)}{cf:Nat->Int}(ha1:Arr h0 3 v1 els1)(ha2:Arr h0 3 v2 els2)(hn:els1.length<=9223372036854775807)(hlf:∀(i:Nat) (e:List Value),els1[i]?=some e->e.all zl=true)(hlf2:∀(i:Nat) (e:List Value),els2[i]?=some e->e.all zl=true)
  (hf:∀ k,Ext h0 k->∀(i:Nat) (e1 e2:List Value),els1[i]?=some e1->els2[i]?=some e2->zAs (zc E) (some f) (some [.agg ⟨e1⟩,.agg ⟨e2⟩]) k=some [(iI (cf i),k)]) {k:AH} (hk:Ext h0 k) :
  (zc E).call 247 [v1,v2,f] k=some [(iI (zDZ cf els1.length els2.length els1.length 0),k)]:=by
 have fR:∃ a c,v1=.slice a els1.length c:=by cases ha1 with|nil a c=>exact⟨a,c,rfl⟩|row=>exact⟨_,_,rfl⟩
 have iF:∃ a c,v2=.slice a els2.length c:=by cases ha2 with|nil a c=>exact⟨a,c,rfl⟩|row=>exact⟨_,_,rfl⟩
 obtain⟨a1,c1,rfl⟩:=fR;obtain⟨a2,c2,rfl⟩:=iF;refine zfz (s:=true) hk.ok rfl (zbE ?_);refine zbD ?_;simp only[zA,zTQ];have loop:∀(m i:Nat),i+m=els1.length->∀ l,Own k l->zuO true (KR E [.tmp 6] (λ x l=>x=iI (zDZ cf els1.length els2.length m i)/\k.qa<=l.wm)) (.slice a1 els1.length c1) (.slice a2 els2.length c2) f (.slice a1 els1.length c1) (iI (els1.length:Int)) (iI (i:Int)) l:=by
  intro m
  induction m with
  | zero=>
   intro i hi l hl;refine zNt ?_;simp only[zP,zA,zAV];refine⟨λ h=>by omega,λ _=>zT6 ?_⟩;simp only[zA,zPY,zPX,zP,zAV];have:=hl.wm;refine⟨λ h=>zT5 ?_,λ h=>zT4 ?_⟩
   ·have h':els1.length<els2.length:=by omega
    simp[zA,zAC,zO,zDZ,h',this]
   ·have h':¬ els1.length<els2.length:=by omega
    simp[zA,zAC,zO,zDZ,h',this]
  | succ m ih=>
   intro i hi l hl;have ai:i<els1.length:=by omega
   refine zNt ?_;simp only[zP,zA,zAV];refine⟨λ _=>zbC ?_,λ h=>by omega⟩;obtain⟨b,o,c,vs,ty,es,ro,hv,hb,ab,bK,hz,bN⟩:=ha1.load (xAA ai);simp only[xBu] at hv;obtain⟨bP,_,cq⟩:=hv;subst bP;have gb:l.get b=some (.row vs ty es ro):=(hl.ext.get b (xAC ab hk.qa)).trans ((hk.get b ab).trans hb);simp only[zA,zXf ai,zN zCl gb bK,hz,zhK,zU,zF,zK];have gz:=hl.ext.qa;rw[zi (P:=E) zMM (zD l _) (zK _) bN (by simp) (hlf i _ (xAA ai))];simp only[zF];refine zbB ?_;simp only[zA,zTP,zBY,zAV];have o1:=(hl.new (rO [iI 0,iI 0,.slice none 0 0] 173)).upd (b:=l.qa) gz (some (rO (lput [iI 0,iI 0,.slice none 0 0] 0 els1[i]) 173));have t1:((l.new (rO [iI 0,iI 0,.slice none 0 0] 173)).upd l.qa (some (rO (lput [iI 0,iI 0,.slice none 0 0] 0 els1[i]) 173))).get l.qa=some (rO (lput [iI 0,iI 0,.slice none 0 0] 0 els1[i]) 173):=zH _ _ _;have n1:((l.new (rO [iI 0,iI 0,.slice none 0 0] 173)).upd l.qa (some (rO (lput [iI 0,iI 0,.slice none 0 0] 0 els1[i]) 173))).qa=l.qa+1:=rfl;have dN:∀(e:List Value),e.length=3->lput [iI 0,iI 0,.slice none 0 0] 0 e=e:=by
    intro e he
    match e,he with
    | [x,y,z],_=>rfl
   rw[dN _ bN] at o1 t1 n1;rw[dN _ bN];generalize ((l.new (rO [iI 0,iI 0,.slice none 0 0] 173)).upd l.qa (some (.row els1[i] 173 0 false)))=l1 at o1 t1 n1;refine⟨λ h=>zbA ?_,λ h=>za9 ?_⟩
   ·have h':els2.length<=i:=by omega
    simp[zA,zAC,zO,zDZ,h',o1.wm]
   ·have dD:i<els2.length:=by omega
    obtain⟨b',o',c',vs',ty',es',ro',aH,ar,aI,cy,cK,cF⟩:=ha2.load (xAA dD);simp only[xBu] at aH;obtain⟨eK,_,hv3'⟩:=aH;subst eK;have gb':l1.get b'=some (.row vs' ty' es' ro'):=(o1.ext.get b' (xAC aI hk.qa)).trans ((hk.get b' aI).trans ar);simp only[zA,zXf dD,zN zCl gb' cy,cK,zhK,zU,zF,zK];rw[zi (P:=E) zMM (zD l1 _) (zK _) cF (by simp) (hlf2 i _ (xAA dD))];simp only[zF];refine za8 ?_;rw[dN _ cF];have o2:=(o1.new (rO [iI 0,iI 0,.slice none 0 0] 173)).upd (b:=l1.qa) (by omega) (some (.row els2[i] 173 0 false));have t2:((l1.new (rO [iI 0,iI 0,.slice none 0 0] 173)).upd l1.qa (some (.row els2[i] 173 0 false))).get l1.qa=some (.row els2[i] 173 0 false):=zH _ _ _;have t1':((l1.new (rO [iI 0,iI 0,.slice none 0 0] 173)).upd l1.qa (some (.row els2[i] 173 0 false))).get l.qa=some (.row els1[i] 173 0 false):=by rw[zL (by omega),zG (by omega)];exact t1
    generalize ((l1.new (rO [iI 0,iI 0,.slice none 0 0] 173)).upd l1.qa (some (.row els2[i] 173 0 false)))=l2 at o2 t2 t1';have la:=zN (P:=E) zCl (o:=0) t1' (by omega);have lb:=zN (P:=E) zCl (o:=0) t2 (by omega);rw[xCe,xAD (by omega)] at la lb;simp only[zA,la,lb,hf l2 (hk.trans o2.ext) i _ _ (xAA ai) (xAA dD),zJ];refine za7 ?_;have h':¬ els2.length<=i:=by omega
    simp only[zA,zAS,zJn];refine⟨λ hc=>za6 ?_,λ hc=>zT7 ?_⟩
    ·simp[zA,zAC,zO,zDZ,h',hc,o2.wm]
    ·simp only[zk _ (zCS ai hn),zA];have:=ih (i+1) (by omega) l2 o2;simp only[zDZ,h',xDI,hc,ne_eq,not_true];simpa using this
 exact loop els1.length 0 (by omega) _ (Own.qb k)
def zt(w:Bool)(x:Option Value):gdB undef w x=some undef:=rfl
def zv(w:Bool)(x:R (Value×AH))(h:AH):gdW undef w x h=one (undef,h):=rfl
mutual
def zLw:GT->GT->Int
 | .mk k n l,.mk k' n' l'=>if orI [c3 k k',c3 n n',c3 l.length l'.length]≠0 then orI [c3 k k',c3 n n',c3 l.length l'.length] else zEf l l'
def zEf:List GT->List GT->Int
 | [],[]=>0
 | [],_::_=>-1
 | _::_,[]=>1
 | t::ts,u::us=>if zLw t u≠0 then zLw t u else zEf ts us
end
def zQD(ts us:List GT)(i:Nat):Int:=match ts[i]?,us[i]? with
 | some t,some u=>zLw t u
 | _,_=>0
def zHG(ts us:List GT):∀(m i:Nat),i+m=ts.length->zDZ (zQD ts us) ts.length us.length m i=(if i<=us.length then zEf (ts.drop i) (us.drop i) else if m=0 then 0 else 1)
 | 0,i,h=>by
  have ht:ts.drop i=[]:=xAs (by omega);simp only[zDZ,ht];by_cases hi:i<=us.length
  ·rw[xDO hi];cases hu:us.drop i with
   | nil=>
    have:=List.drop_eq_nil_iff.1 hu;rw[xDN (by omega)];rfl
   | cons u us'=>
    have:i<us.length:=by
     rcases xCq i us.length with h'|h'
     ·exact h'
     ·rw[xAs h'] at hu;cases hu
    rw[xDO (by omega)];rfl
  ·rw[xDN hi,xDN (by omega)];rfl
 | m+1,i,h=>by
  have ab:i<ts.length:=by omega
  simp only[zDZ];by_cases hi:us.length<=i
  ·rw[xDO hi];by_cases he:i<=us.length
   ·rw[xDO he];have hu:us.drop i=[]:=xAs hi;rw[hu,xAZ ab];rfl
   ·rw[xDN he];simp
  ·rw[xDN hi,xDO (show i<=us.length by omega)];have hui:i<us.length:=by omega
   rw[xAZ ab,xAZ hui];have aU:zQD ts us i=zLw ts[i] us[i]:=by unfold zQD;rw[xAA ab,xAA hui]
   rw[aU];simp only[zEf];rw[zHG ts us m (i+1) (by omega),xDO (show i+1<=us.length by omega)]
def zYu(h0:AH)(kk nn:Int)(v:Value)(l:List GT):Prop:=∀(k:AH) (kk' nn':Int) (v':Value) (l':List GT),RT h0 v' l'->Ext h0 k->
 (zc E).call 219 [.agg #[iI kk,iI nn,v],.agg #[iI kk',iI nn',v']] k=some [(iI (zLw (.mk kk nn l) (.mk kk' nn' l')),k)]
def RC.leafs{h:AH}{els:List (List Value)}{ts:List GT}(hc:RC h els ts)(i:Nat)(e:List Value)(he:els[i]?=some e):e.all zl=true:=by
 obtain⟨k,n,v,l,rfl,hv,_⟩:=RC.at hc i e he;have:=zDt hv;simp[zl];exact this
mutual
def zWI{h0:AH}:∀ {v:Value} {l:List GT},RT h0 v l->∀(kk nn:Int),zYu h0 kk nn v l
 | v,l,.mk (els:=els) ha hn hc,kk,nn=>by
  intro k kk' nn' v' l' cu hk;have bS:RT h0 v l:=.mk ha hn hc;have fH:=zQt hc;have hlen:=RC.length hc;obtain⟨sa,sc,hv⟩:=bS.slice;obtain⟨sa',sc',aH⟩:=cu.slice;subst hv;subst aH;refine zf5 (s:=true) hk.ok rfl (zby ?_);simp only[zU,zF,zK,zA];refine zbx ?_;have o1:=((Own.qb k).new (rO [iI kk,iI nn,.slice sa l.length sc] 173)).new (rO [iI kk',iI nn',.slice sa' l'.length sc'] 173);have t1:((k.qb.new (rO [iI kk,iI nn,.slice sa l.length sc] 173)).new (rO [iI kk',iI nn',.slice sa' l'.length sc'] 173)).get k.qa=some (rO [iI kk,iI nn,.slice sa l.length sc] 173):=by
   rw[zG (by simp)];exact zD k.qb _
  have t2:((k.qb.new (rO [iI kk,iI nn,.slice sa l.length sc] 173)).new (rO [iI kk',iI nn',.slice sa' l'.length sc'] 173)).get (k.qa+1)=some (rO [iI kk',iI nn',.slice sa' l'.length sc'] 173):=zD (k.qb.new _) _;have n1:((k.qb.new (rO [iI kk,iI nn,.slice sa l.length sc] 173)).new (rO [iI kk',iI nn',.slice sa' l'.length sc'] 173)).qa=k.qa+2:=rfl;simp only[zR,AH.next_new];generalize ((k.qb.new (rO [iI kk,iI nn,.slice sa l.length sc] 173)).new (rO [iI kk',iI nn',.slice sa' l'.length sc'] 173))=k1 at o1 t1 t2 n1;have l0:=zB (P:=E) zAE (o:=0) t1;have l1:=zB (P:=E) zAE (o:=1) t1;have l2:=zB (P:=E) zD0 (o:=2) t1;have m0:=zB (P:=E) zAE (o:=0) t2;have m1:=zB (P:=E) zAE (o:=1) t2;have m2:=zB (P:=E) zD0 (o:=2) t2;simp only[lnth] at l0 l1 l2 m0 m1 m2;simp only[zGY,zGX,zAf,xCu,xAK,l0,l1,l2,m0,m1,m2,zA,zPb,zPa,zM,zJF o1.ext.ok,zJ,zBF,zAw,xDJ,zng,zF];rw[or3 o1.ext.ok];simp only[zJ,zA];refine zbw ?_;have o2:=o1.new (rO [iI (c3 kk kk'),iI (c3 nn nn'),iI (c3 l.length l'.length)] 3);have s1:(k1.new (rO [iI (c3 kk kk'),iI (c3 nn nn'),iI (c3 l.length l'.length)] 3)).get k.qa=_:=(zG (by omega)).trans t1;have s2:(k1.new (rO [iI (c3 kk kk'),iI (c3 nn nn'),iI (c3 l.length l'.length)] 3)).get (k.qa+1)=_:=(zG (by omega)).trans t2;simp only[zA,zAS,zJn];show (_->zuZ _ _ _ (k1.new (rO [iI (c3 kk kk'),iI (c3 nn nn'),iI (c3 l.length l'.length)] 3)))/\(_->zuY _ _ _ _ (k1.new (rO [iI (c3 kk kk'),iI (c3 nn nn'),iI (c3 l.length l'.length)] 3)));generalize (k1.new (rO [iI (c3 kk kk'),iI (c3 nn nn'),iI (c3 l.length l'.length)] 3))=k2 at o2 s1 s2;refine⟨λ h=>zbv ?_,λ h=>zbu ?_⟩
  ·have h':orI [c3 kk kk',c3 nn nn',c3 l.length l'.length]≠0:=h;simp only[zA,zAC,zO,xDJ,zLw,xDO h'];exact⟨rfl,o2.wm⟩
  ·have h':¬ orI [c3 kk kk',c3 nn nn',c3 l.length l'.length]≠0:=λ hc=>hc h;have p2:=zB (P:=E) zD0 (o:=2) s1;have q2:=zB (P:=E) zD0 (o:=2) s2;simp only[lnth] at p2 q2;cases cu with
   | @mk _ els' _ cR jr am=>
    have ej:=RC.length am;have:=zX9 (h0:=h0) (f:=.func (.func 219) #[] #[]) (cf:=zQD l l') ha cR hn (RC.leafs hc) (RC.leafs am) (λ k3 hk3 i e1 e2 he1 iW=>by
     obtain⟨ck,cn,cv,cl,q1,q2',q3,q4⟩:=fH i e1 he1;obtain⟨dk,dn,dv,dl,r1,r2,r3⟩:=RC.at am i e2 iW;subst q1;subst r1;have:=q4 k3 dk dn dv dl r2 hk3;simp only[zM,zQD,q3,r3];exact this) (hk.trans o2.ext)
    simp only[zAf,xAK,p2,q2,zA,zM,this,zJ,zAC,zO,xDJ,zLw,xDN h'];refine⟨?_,o2.wm⟩;rw[hlen,ej,zHG _ _ _ _ (by omega),xDO (xDF _)];simp
def zQt{h0:AH}:∀ {els:List (List Value)} {ts:List GT},RC h0 els ts->∀(i:Nat) (e:List Value),els[i]?=some e->
  ∃(k n:Int) (v:Value) (l:List GT),e=[iI k,iI n,v]/\RT h0 v l/\ts[i]?=some (.mk k n l)/\zYu h0 k n v l
 | _,_,.nil,i,e,h=>by simp at h
 | _,_,.cons hv hs,0,e,h=>by simp at h;exact⟨_,_,_,_,h.symm,hv,rfl,zWI hv _ _⟩
 | _,_,.cons hv hs,i+1,e,h=>by
  simp only[xAj] at h;obtain⟨k,n,v,l,a,b,c,d⟩:=zQt hs i e h;exact⟨k,n,v,l,a,b,by simpa using c,d⟩
end
def zpy{h0 k:AH}{v v':Value}{l l':List GT}(hr:RT h0 v l)(cu:RT h0 v' l')(hk:Ext h0 k):(zc E).call 218 [v,v',.func (.func 219) #[] #[]] k=some [(iI (zEf l l'),k)]:=by
 refine zf6 (s:=true) hk.ok rfl (zb0 ?_);refine zbz ?_;cases hr with
 | @mk _ els _ ha hn hc=>
 cases cu with
 | @mk _ els' _ cR jr am=>
  have hlen:=RC.length hc;have ej:=RC.length am;have:=zX9 (h0:=h0) (f:=.func (.func 219) #[] #[]) (cf:=zQD l l') ha cR hn (RC.leafs hc) (RC.leafs am) (λ k3 hk3 i e1 e2 he1 iW=>by
   obtain⟨ck,cn,cv,cl,q1,q2',q3⟩:=RC.at hc i e1 he1;obtain⟨dk,dn,dv,dl,r1,r2,r3⟩:=RC.at am i e2 iW;subst q1;subst r1;have:=zWI q2' ck cn k3 dk dn dv dl r2 hk3;simp only[zM,zQD,q3,r3];exact this) hk.qb
  simp only[zA,zM,this,zJ,zAC,zO,xDJ];refine⟨?_,by simp⟩;rw[hlen,ej,zHG _ _ _ _ (by omega),xDO (xDF _)];simp
def zBd(g:Int)(l:List GT)(g':Int)(l':List GT):Int:=orI [c3 g g',zEf l l']
def zQJ{h0 k:AH}{g g':Int}{v v':Value}{l l':List GT}(hr:RT h0 v l)(cu:RT h0 v' l')(hk:Ext h0 k) :
  (zc E).call 168 [.agg #[iI g,v],.agg #[iI g',v']] k=some [(iI (zBd g l g' l'),k)]:=by
 obtain⟨sa,sc,hv⟩:=hr.slice;obtain⟨sa',sc',aH⟩:=cu.slice;subst hv;subst aH;refine zgM (s:=true) hk.ok rfl (zdF ?_);simp only[zU,zF,zK,zA];refine zdE ?_;have o1:=((Own.qb k).new (rO [iI g,.slice sa l.length sc] 36)).new (rO [iI g',.slice sa' l'.length sc'] 36);have t1:((k.qb.new (rO [iI g,.slice sa l.length sc] 36)).new (rO [iI g',.slice sa' l'.length sc'] 36)).get k.qa=some (rO [iI g,.slice sa l.length sc] 36):=by
  rw[zG (by simp)];exact zD k.qb _
 have t2:((k.qb.new (rO [iI g,.slice sa l.length sc] 36)).new (rO [iI g',.slice sa' l'.length sc'] 36)).get (k.qa+1)=some (rO [iI g',.slice sa' l'.length sc'] 36):=zD (k.qb.new _) _;simp only[zR,AH.next_new];generalize ((k.qb.new (rO [iI g,.slice sa l.length sc] 36)).new (rO [iI g',.slice sa' l'.length sc'] 36))=k1 at o1 t1 t2;have l0:=zB (P:=E) zAE (o:=0) t1;have l1:=zB (P:=E) zD0 (o:=1) t1;have m0:=zB (P:=E) zAE (o:=0) t2;have m1:=zB (P:=E) zD0 (o:=1) t2;simp only[lnth] at l0 l1 m0 m1;simp only[zBp,zCL,xCu,xAK,l0,l1,m0,m1,zA,zM,zJF o1.ext.ok,zJ,zAw,xDJ,zpy hr cu (hk.trans o1.ext),zYV,zF];rw[or2 o1.ext.ok];simp only[zJ,zAC,zO,xDJ];exact⟨rfl,o1.wm⟩
def zp0{h0 k:AH}{kk nn:Int}{v:Value}{l:List GT}(hr:RT h0 v l)(hk:Ext h0 k):(zc E).call 216 [.agg #[iI kk,iI nn,v]] k=some [(.bool (!zEq (.mk kk nn l)),k)]:=by
 refine zf8 (s:=true) hk.ok rfl (zb9 ?_);simp only[zU,zF,zK,zA];refine zb8 ?_;have o1:=(Own.qb k).new (rO [iI kk,iI nn,v] 173);have t1:=zD k.qb (rO [iI kk,iI nn,v] 173);simp only[zR] at t1 ⊢;generalize k.qb.new (rO [iI kk,iI nn,v] 173)=k1 at o1 t1;have lt:=zN (P:=E) zCl (o:=0) t1 (by simp);simp only[xCe,List.take] at lt;simp only[lt,zA,zM,zpz hr (hk.trans o1.ext),zJ,zq,zAC,zO,xDJ];exact o1.wm
def zQR(g:Int):Bool:=decide (g=-3)||decide (g=-1)
def zAu(g:Int)(l:List GT):Bool:=decide (g < -3)||decide (32<=g)||decide (8<l.length)||(zQR g&&decide (0<l.length))||decide (0<=zj (zOx l zEq) l.length 0)
def zqA{h0 k:AH}{g:Int}{v:Value}{l:List GT}(hr:RT h0 v l)(hk:Ext h0 k):(zc E).call 167 [.agg #[iI g,v]] k=some [(iI (if zAu g l then 170 else 0),k)]:=by
 refine zgN (s:=true) hk.ok rfl (zdK ?_);have hr0:=hr;obtain⟨sa,sc,hv⟩:=hr.slice;subst hv;simp only[zU,zF,zK,zA];refine zdJ ?_;have o1:=(Own.qb k).new (rO [iI g,.slice sa l.length sc] 36);have t1:=zD k.qb (rO [iI g,.slice sa l.length sc] 36);simp only[zR] at t1 ⊢;generalize k.qb.new (rO [iI g,.slice sa l.length sc] 36)=k1 at o1 t1;have l0:=zB (P:=E) zAE (o:=0) t1;have l1:=zB (P:=E) zD0 (o:=1) t1;simp only[lnth] at l0 l1;have hb:zui true (KR E [.tmp 2] (λ x m=>x=iI (if zAu g l then 170 else 0)/\k.qa<=m.wm)) (.pointer (some ⟨k.qa,0,none⟩)) (.bool (zQR g)) k1:=by
  refine zdI ?_;have i7:(zc E).call 215 [.slice sa l.length sc,.func (.func 216) #[] #[]] k1=some [(.bool (decide (0<=zj (zOx l zEq) l.length 0)),k1)]:=by
   cases hr0 with
   | @mk _ els _ ha hn hc=>
    have:=zYA (h0:=h0) (f:=.func (.func 216) #[] #[]) (p:=zOx l zEq) ha hn (λ k2 hk2 i e he=>by
     obtain⟨ck,cn,cv,cl,q1,q2,q3⟩:=RC.at hc i e he;subst q1;simp only[zM,zOx,q3];exact zp0 q2 hk2) (hk.trans o1.ext)
    rw[RC.length hc] at this;exact this
  have aR:∀ b:Bool,(BrK (some (.bool b)) (zuh true (KR E [.tmp 2] (λ x m=>x=iI (if b then 170 else 0)/\k.qa<=m.wm)) k1) (zug true (KR E [.tmp 2] (λ x m=>x=iI (if b then 170 else 0)/\k.qa<=m.wm)) k1)):=by
   intro b;cases b with
   | true=>
    rw[ze];refine zdH ?_;simp[zA,zAC,zO,o1.wm]
   | false=>
    rw[zZ];refine zdG ?_;simp[zA,zAC,zO,o1.wm]
  have hE:=aR (zAu g l);simp only[zBp,zCL,xCu,xAK,l0,zA,zP,zI,zE];by_cases c1:g < -3
  ·simpa[zAu,c1,zA,zI,zS,zt,zv,zE,zF] using hE
  ·by_cases c2:32<=g
   ·simpa[zAu,c1,c2,l0,zBp,zBY,zA,zI,zS,zt,zv,zE,zF] using hE
   ·by_cases c3:8<l.length
    ·have c3':(8:Int)<l.length:=by omega
     simpa[zAu,c1,c2,c3,c3',l0,l1,zBp,zCL,zBY,zAK,zEK,zA,zI,zS,zt,zv,zE,zF] using hE
    ·have c3':¬ (8:Int)<l.length:=by omega
     by_cases c4:zQR g=true
     ·by_cases c5:0<l.length
      ·have c5':(0:Int)<l.length:=by omega
       simpa[zAu,c1,c2,c3,c3',c4,c5,c5',l0,l1,zBp,zCL,zBY,zAK,zEK,zFn,zA,zI,zS,zt,zv,zE,zF,i7,zJ,zM] using hE
      ·have c5':¬ (0:Int)<l.length:=by omega
       simpa[zAu,c1,c2,c3,c3',c4,c5,c5',l0,l1,zBp,zCL,zBY,zAK,zEK,zFn,zA,zI,zS,zt,zv,zE,zF,i7,zJ,zM] using hE
     ·simpa[zAu,c1,c2,c3,c3',c4,l0,l1,zBp,zCL,zBY,zAK,zEK,zFn,zA,zI,zS,zt,zv,zE,zF,i7,zJ,zM] using hE
 simp only[zBp,xCu,l0,zA,zAD,zI];by_cases c1:g=-3
 ·simp only[c1,xDG,show ((true==false)=false) from rfl,xAH,zA,zE,xAG];simpa[zQR,c1] using hb
 ·by_cases c2:g=-1
  ·simp only[c1,c2,xDG,xCz,show ((false==false)=true) from rfl,xAH,zA,zE,xAG,zBp,xCu,l0,zAD];simpa[zQR,c1,c2,l0,zA,zAD] using hb
  ·simp only[c1,c2,xDG,xCz,show ((false==false)=true) from rfl,xAH,zA,zE,xAG,zBp,xCu,l0,zAD];simpa[zQR,c1,c2,l0,zA,zAD] using hb
end Go.Proofs
namespace Go.Proofs
open Go Go.AM
structure GL where
 n:Int
 labs:List (Int×List GT)
 eds:List (Int×Int×Int)
inductive RLab(h:AH):List (List Value)->List (Int×List GT)->Prop
 | nil:RLab h [] []
 | cons {g:Int} {v:Value} {l:List GT} {els:List (List Value)} {ls:List (Int×List GT)} (hv:RT h v l) (hs:RLab h els ls):RLab h ([iI g,v]::els) ((g,l)::ls)
def zQ(e:Int×Int×Int):List Value:=[iI e.1,iI e.2.1,iI e.2.2]
structure RL(h:AH)(x:Value)(L:GL):Prop where
 ex:∃ vl ve elsL,x=.agg #[iI L.n,vl,ve]/\Arr h 2 vl elsL/\RLab h elsL L.labs/\Arr h 3 ve (L.eds.map zQ)
def RLab.ext{h k:AH}(e:Ext h k):∀ {els:List (List Value)} {ls:List (Int×List GT)},RLab h els ls->RLab k els ls
 | _,_,.nil=>.nil
 | _,_,.cons hv hs=>.cons (hv.ext e) (RLab.ext e hs)
def RLab.length{h:AH}:∀ {els:List (List Value)} {ls:List (Int×List GT)},RLab h els ls->els.length=ls.length
 | _,_,.nil=>rfl
 | _,_,.cons _ hs=>by simp[RLab.length hs]
def RLab.at{h:AH}:∀ {els:List (List Value)} {ls:List (Int×List GT)},RLab h els ls->∀(i:Nat) (e:List Value),els[i]?=some e->∃(g:Int) (v:Value) (l:List GT),e=[iI g,v]/\RT h v l/\ls[i]?=some (g,l)
 | _,_,.nil,i,e,h=>by simp at h
 | _,_,.cons hv hs,0,e,h=>by simp at h;exact⟨_,_,_,h.symm,hv,rfl⟩
 | _,_,.cons hv hs,i+1,e,h=>by simp only[xAj] at h;obtain⟨g,v,l,a,b,c⟩:=RLab.at hs i e h;exact⟨g,v,l,a,b,by simpa using c⟩
def RL.ext{h k:AH}{x:Value}{L:GL}(r:RL h x L)(e:Ext h k):RL k x L:=by
 obtain⟨vl,ve,els,a,b,c,d⟩:=r.ex;exact⟨vl,ve,els,a,b.ext e,c.ext e,d.ext e⟩
def Arr.slice{h:AH}{z:Nat}{v:Value}{els:List (List Value)}(a:Arr h z v els):∃ ad c,v=.slice ad els.length c:=by
 cases a with
 | nil a c=>exact⟨a,c,rfl⟩
 | row=>exact⟨_,_,rfl⟩
def zQI{k:AH}{a b:Int}(aa:k.ok):(zc E).call 169 [iI a,iI b] k=some [(.bool (decide (0<=a)&&decide (a<b)),k)]:=by
 refine zgL (s:=true) aa rfl (zdD ?_);refine zdC ?_;simp only[zA,zBY,zI];by_cases c1:0<=a
 ·simp[c1,zA,zP,zE,zAC,zO]
 ·simp[c1,zA,zP,zE,zAC,zO]
def zVj(e f:Int×Int×Int):Int:=orI [c3 e.1 f.1,c3 e.2.1 f.2.1,c3 e.2.2 f.2.2]
def zp9{k:AH}{e f:Int×Int×Int}(aa:k.ok):(zc E).call 170 [.agg ⟨zQ e⟩,.agg ⟨zQ f⟩] k=some [(iI (zVj e f),k)]:=by
 refine zgK (s:=true) aa rfl (zdB ?_);simp only[zU,zF,zK,zA];refine zdA ?_;have o1:=((Own.qb k).new (rO (zQ e) 52)).new (rO (zQ f) 52);have t1:((k.qb.new (rO (zQ e) 52)).new (rO (zQ f) 52)).get k.qa=some (rO (zQ e) 52):=by
  rw[zG (by simp)];exact zD k.qb _
 have t2:((k.qb.new (rO (zQ e) 52)).new (rO (zQ f) 52)).get (k.qa+1)=some (rO (zQ f) 52):=zD (k.qb.new _) _;simp only[zR,AH.next_new];generalize ((k.qb.new (rO (zQ e) 52)).new (rO (zQ f) 52))=k1 at o1 t1 t2;have l0:=zB (P:=E) zAE (o:=0) t1;have l1:=zB (P:=E) zAE (o:=1) t1;have l2:=zB (P:=E) zAE (o:=2) t1;have m0:=zB (P:=E) zAE (o:=0) t2;have m1:=zB (P:=E) zAE (o:=1) t2;have m2:=zB (P:=E) zAE (o:=2) t2;simp only[lnth,zQ] at l0 l1 l2 m0 m1 m2;simp only[zDU,zCe,zBo,xCu,xAK,l0,l1,l2,m0,m1,m2,zA,zM,zJF o1.ext.ok,zJ,zBF,xDJ,zng,zF];rw[or3 o1.ext.ok];simp only[zJ,zA,zAC,zO,xDJ];exact⟨rfl,o1.wm⟩
def zBA(ls:List (Int×List GT))(i:Nat):Bool:=match ls[i]? with
 | some x=>zAu x.1 x.2||(decide (0<i)&&match ls[i-1]? with
  | some y=>decide (0<=zBd y.1 y.2 x.1 x.2)
  | none=>false)
 | none=>false
def zBO(n m:Int)(es:List (Int×Int×Int))(i:Nat):Bool:=match es[i]? with
 | some e=>!(decide (0<=e.1)&&decide (e.1<n))||!(decide (0<=e.2.2)&&decide (e.2.2<n))||!(decide (0<=e.2.1)&&decide (e.2.1<m))||(decide (0<i)&&match es[i-1]? with
  | some f=>decide (0<=zVj f e)
  | none=>false)
 | none=>false
def zn(p:Nat->Bool):Nat->Nat->Bool
 | 0,_=>false
 | m+1,i=>p i||zn p m (i+1)
def zAr{p:Nat->Bool}:∀ {m i:Nat},zn p m i=false->∀ j,i<=j->j<i+m->p j=false
 | 0,i,_,j,h1,h2=>by omega
 | m+1,i,h,j,h1,h2=>by
  simp only[zn,xBJ] at h;by_cases e:j=i
  ·rw[e];exact h.1
  ·exact zAr h.2 j (by omega) (by omega)
def zBJ(L:GL):Bool:=decide (L.n<1)||decide (20000<L.n)||decide (4000<L.labs.length)||decide (100000<L.eds.length)
def zT(L:GL):Bool:=zBJ L||zn (zBA L.labs) L.labs.length 0||zn (zBO L.n L.labs.length L.eds) L.eds.length 0
abbrev kf8(k:AH)(b:Bool):KF:=KR E [.tmp 2] (λ x m=>x=iI (if b then 8 else 0)/\k.qa<=m.wm)
def zyl:∀(e:List Value),e.length=2->lput [iI 0,.slice none 0 0] 0 e=e:=by
 intro e he
 match e,he with
 | [x,y],_=>rfl
def zwZ:∀(e:List Value),e.length=3->lput [iI 0,iI 0,iI 0] 0 e=e:=by
 intro e he
 match e,he with
 | [x,y,z],_=>rfl
def zwE{i:Nat}(h:0<i)(hi:i<=9223372036854775807)(t:TypeId):zAJ E .sub t (iI (i:Int)) (iI 1)=some (iI ((i-1:Nat):Int)):=by
 rw[zKt _ (by unfold zC2;omega)]
 congr 2;omega
def zqO{h0 k:AH}{x:Value}{L:GL}(hr:RL h0 x L)(hk:Ext h0 k):(zc E).call 121 [x] k=some [(iI (if zT L then 8 else 0),k)]:=by
 obtain⟨vl,ve,elsL,hx,haL,hL,haE⟩:=hr.ex;obtain⟨aL,cL,aP⟩:=haL.slice;obtain⟨aE,cE,bJ⟩:=haE.slice;rw[RLab.length hL] at aP;rw[xCY] at bJ;subst aP;subst bJ;subst hx;refine zgj (s:=true) hk.ok rfl (zez ?_);simp only[zU,zF,zK,zA];refine zey ?_;have o1:=(Own.qb k).new (rO [iI L.n,.slice aL L.labs.length cL,.slice aE L.eds.length cE] 25);have t1:=zD k.qb (rO [iI L.n,.slice aL L.labs.length cL,.slice aE L.eds.length cE] 25);simp only[zR] at t1 ⊢;have n1:(k.qb.new (rO [iI L.n,.slice aL L.labs.length cL,.slice aE L.eds.length cE] 25)).qa=k.qa+1:=rfl;generalize k.qb.new (rO [iI L.n,.slice aL L.labs.length cL,.slice aE L.eds.length cE] 25)=k1 at o1 t1 n1;have box:∀ l,Ext k1 l->l.get k.qa=some (rO [iI L.n,.slice aL L.labs.length cL,.slice aE L.eds.length cE] 25):=λ l hl=>(hl.get _ (by omega)).trans t1;have edges:∀(hs:zBJ L=false) (m i:Nat),i+m=L.eds.length->∀ l,Ext k1 l->k.qa<=l.wm->
   zqu true (kf8 k (zn (zBO L.n L.labs.length L.eds) m i)) (.pointer (some ⟨k.qa,0,none⟩)) (.func (.func 169) #[] #[]) (.slice aE L.eds.length cE) (iI (L.eds.length:Int)) (iI (i:Int)) l:=by
  intro hs m;have bK:L.eds.length<=100000:=by simp[zBJ] at hs;omega
  induction m with
  | zero=>
   intro i hi l hl hw;refine zK5 ?_;simp only[zP,zA,zAV];refine⟨λ h=>by omega,λ _=>zUg ?_⟩;simp[zA,zAC,zO,zn,hw]
  | succ m ih=>
   intro i hi l hl hw;have ai:i<L.eds.length:=by omega
   refine zK5 ?_;simp only[zP,zA,zAV];refine⟨λ _=>zUk ?_,λ h=>by omega⟩;have aU:(L.eds.map zQ)[i]?=some (zQ L.eds[i]):=by simp[ai]
   obtain⟨b,o,c,vs,ty,es,ro,hv,hb,ab,cQ,hz,bN⟩:=haE.load aU;simp only[xBu] at hv;obtain⟨bP,_,cq⟩:=hv;subst bP;have fD:Ext h0 l:=(hk.trans o1.ext).trans hl;have gb:l.get b=some (.row vs ty es ro):=(fD.get b ab).trans hb;simp only[zA,zo8 ai,zN zMQ gb cQ,hz,zmk,zU,zF,zK];rw[zi (P:=E) zoJ (x:=.agg ⟨zQ L.eds[i]⟩) (cs:=zQ L.eds[i]) (zD l _) rfl bN (by simp) (by simp[zQ,zl])];simp only[zF];rw[zwZ _ bN];have gz:=hl.qa;have e2:=(hl.new (rO [iI 0,iI 0,iI 0] 52)).upd (b:=l.qa) gz (some (rO (zQ L.eds[i]) 52));have w2:k.qa<=((l.new (rO [iI 0,iI 0,iI 0] 52)).upd l.qa (some (rO (zQ L.eds[i]) 52))).wm:=zp (by rw[zDK];exact hw) (by omega);have t2:((l.new (rO [iI 0,iI 0,iI 0] 52)).upd l.qa (some (rO (zQ L.eds[i]) 52))).get l.qa=some (rO (zQ L.eds[i]) 52):=zH _ _ _;have g2:((l.new (rO [iI 0,iI 0,iI 0] 52)).upd l.qa (some (rO (zQ L.eds[i]) 52))).get b=some (.row vs ty es ro):=by
    have h1:=hk.qa;have h2:=o1.ext.qa;rw[zL (by omega),zG (by omega)];exact gb
   generalize ((l.new (rO [iI 0,iI 0,iI 0] 52)).upd l.qa (some (rO (zQ L.eds[i]) 52)))=l2 at e2 w2 t2 g2;refine zUj ?_;have b2:=box l2 e2;have ok2:=e2.ok;have n0:=zB (P:=E) zAE (o:=0) b2;have n1:=zB (P:=E) zF4 (o:=1) b2;have n2:=zB (P:=E) zEF (o:=2) b2;have c0:=zB (P:=E) zAE (o:=0) t2;have c1:=zB (P:=E) zAE (o:=1) t2;have c2:=zB (P:=E) zAE (o:=2) t2;have ca:=zN (P:=E) zMQ (o:=0) t2 (by simp[zQ]);rw[xCe,xAD (by simp[zQ])] at ca;simp only[lnth,zQ] at n0 n1 n2 c0 c1 c2;have aR:∀ bad:Bool,zBO L.n L.labs.length L.eds i=bad->(BrK (some (.bool bad)) (zqt true (kf8 k (zn (zBO L.n L.labs.length L.eds) (m+1) i)) l2) (zqs true (kf8 k (zn (zBO L.n L.labs.length L.eds) (m+1) i)) (.pointer (some ⟨k.qa,0,none⟩)) (.func (.func 169) #[] #[]) (.slice (some ⟨b,o,none⟩) L.eds.length cE) (iI (L.eds.length:Int)) (iI (i:Int)) l2)):=by
    intro bad bD;cases bad with
    | true=>
     rw[ze];refine zUi ?_;simp[zA,zAC,zO,w2,zn,bD]
    | false=>
     rw[zZ];refine zUh ?_;simp only[zk _ (zCS ai (by omega)),zA];have:=ih (i+1) (by omega) l2 e2 w2;simp only[zn,bD,xCn];simpa using this
   simp only[zDU,zCe,zBo,zAP,xCu,xAK,n0,c0,c1,c2,zA,zM,zQI ok2,zJ,zq,zI,zS];have hatE:L.eds[i]?=some L.eds[i]:=xAA ai;have q2:=zQI (k:=l2) (a:=L.eds[i].2.2) (b:=L.n) ok2;have q3:=zQI (k:=l2) (a:=L.eds[i].2.1) (b:=(L.labs.length:Int)) ok2;have cW:zBO L.n L.labs.length L.eds i=(!(decide (0<=L.eds[i].1)&&decide (L.eds[i].1<L.n))||!(decide (0<=L.eds[i].2.2)&&decide (L.eds[i].2.2<L.n))||!(decide (0<=L.eds[i].2.1)&&decide (L.eds[i].2.1<(L.labs.length:Int)))||(decide (0<i)&&match L.eds[i-1]? with
    | some f=>decide (0<=zVj f L.eds[i])
    | none=>false)):=by simp only[zBO,hatE]
   generalize (decide (0<=L.eds[i].1)&&decide (L.eds[i].1<L.n))=A at cW ⊢;generalize (decide (0<=L.eds[i].2.2)&&decide (L.eds[i].2.2<L.n))=B at cW q2;generalize (decide (0<=L.eds[i].2.1)&&decide (L.eds[i].2.1<(L.labs.length:Int)))=D at cW q3;cases A with
   | false=>
    have:=aR true (by rw[cW];rfl);simpa only[xAM,xAL,xAO,show (true==false)=false from rfl,show (false==true)=false from rfl,xAG,xAH,zA,zJ,zq,zI,zS,zt,zv,zE,zF] using this
   | true=>
    simp only[xAM,xAL,xAO,show (true==false)=false from rfl,show (false==true)=false from rfl,xAG,xAH,zA,zJ,zq,zI,zS,zE,zF,zDU,zCe,zBo,zAP,zA0,zA7,xCu,xAK,n0,n1,n2,c0,c1,c2,zM,q2];cases B with
    | false=>
     have:=aR true (by rw[cW];rfl);simpa only[xAM,xAL,xAO,show (true==false)=false from rfl,show (false==true)=false from rfl,xAG,xAH,zA,zJ,zq,zI,zS,zt,zv,zE,zF] using this
    | true=>
     simp only[xAM,xAL,xAO,show (true==false)=false from rfl,show (false==true)=false from rfl,xAG,xAH,zA,zJ,zq,zI,zS,zE,zF,zDU,zCe,zBo,zAP,zA0,zA7,xCu,xAK,n0,n1,n2,c0,c1,c2,zM,zM0,q3];cases D with
     | false=>
      have:=aR true (by rw[cW];rfl);simpa only[xAM,xAL,xAO,show (true==false)=false from rfl,show (false==true)=false from rfl,xAG,xAH,zA,zJ,zq,zI,zS,zt,zv,zE,zF] using this
     | true=>
      simp only[xAM,xAL,xAO,show (true==false)=false from rfl,show (false==true)=false from rfl,xAG,xAH,zA,zJ,zq,zI,zS,zE,zF,zAK];by_cases d4:0<i
      ·have d4':(0:Int)<i:=by omega
       have aZ:i-1<L.eds.length:=by omega
       have gQ:(L.eds.map zQ)[i-1]?=some (zQ L.eds[i-1]):=by simp[aZ]
       obtain⟨b',o',c',vs',ty',es',ro',aH,ar,aI,ep,cK,cF⟩:=haE.load gQ;simp only[xBu] at aH;obtain⟨eK,_,_⟩:=aH;cases eK;rw[hb] at ar;cases ar;have aC:zBO L.n L.labs.length L.eds i=decide (0<=zVj L.eds[i-1] L.eds[i]):=by rw[cW,xAA aZ];simp[d4]
       have:=aR (decide (0<=zVj L.eds[i-1] L.eds[i])) aC;simpa only[d4',zAK,xDG,xAM,xAL,xAO,show (true==false)=false from rfl,show (false==true)=false from rfl,xAG,xAH,zA,zJ,zq,zI,zS,zE,zF,zA7,xAK,n2,zwE d4 (by omega:i<=9223372036854775807),zo8 aZ,zN zMQ g2 ep,cK,ca,zM,zp9 ok2,zBY] using this
      ·have d4':¬ (0:Int)<i:=by omega
       have:=aR false (by rw[cW];simp[d4]);simpa only[d4',zAK,xCz,xAM,xAL,xAO,show (true==false)=false from rfl,show (false==true)=false from rfl,xAG,xAH,zA,zJ,zq,zI,zS,zt,zv,zE,zF] using this
 have labels:∀(hs:zBJ L=false) (m i:Nat),i+m=L.labs.length->∀ l,Ext k1 l->k.qa<=l.wm->
   zu0 true (kf8 k (zn (zBA L.labs) m i||zn (zBO L.n L.labs.length L.eds) L.eds.length 0)) (.pointer (some ⟨k.qa,0,none⟩)) (.slice aL L.labs.length cL) (iI (L.labs.length:Int)) (iI (i:Int)) l:=by
  intro hs m;have bK:L.labs.length<=4000:=by simp[zBJ] at hs;omega
  induction m with
  | zero=>
   intro i hi l hl hw;refine zOa ?_;simp only[zP,zA,zAV];refine⟨λ h=>by omega,λ _=>zer ?_⟩;refine zUl ?_;have b2:=box l hl;have n2:=zB (P:=E) zEF (o:=2) b2;simp only[lnth] at n2;simp only[zA7,xAK,n2,zA,zPh];have:=edges hs L.eds.length 0 (by omega) l hl hw;simpa[zn] using this
  | succ m ih=>
   intro i hi l hl hw;have ai:i<L.labs.length:=by omega
   have dD:i<elsL.length:=by rw[RLab.length hL];exact ai
   refine zOa ?_;simp only[zP,zA,zAV];refine⟨λ _=>zev ?_,λ h=>by omega⟩;obtain⟨g,v,lt,aS,bS,hatL⟩:=RLab.at hL i _ (xAA dD);obtain⟨b,o,c,vs,ty,es,ro,hv,hb,ab,cQ,hz,bN⟩:=haL.load (xAA dD);rw[aS] at hz bN;simp only[xBu] at hv;obtain⟨bP,_,cq⟩:=hv;subst bP;have fD:Ext h0 l:=(hk.trans o1.ext).trans hl;have gb:l.get b=some (.row vs ty es ro):=(fD.get b ab).trans hb;simp only[zA,zPp ai,zN zC7 gb cQ,hz,zrU,zU,zF,zK];rw[zi (P:=E) zoK (x:=.agg ⟨[iI g,v]⟩) (cs:=[iI g,v]) (zD l _) rfl bN (by simp) (by simp[zl];exact zDt bS)];simp only[zF];rw[zyl _ bN];have gz:=hl.qa;have e2:=(hl.new (rO [iI 0,.slice none 0 0] 36)).upd (b:=l.qa) gz (some (rO [iI g,v] 36));have w2:k.qa<=((l.new (rO [iI 0,.slice none 0 0] 36)).upd l.qa (some (rO [iI g,v] 36))).wm:=zp (by rw[zDK];exact hw) (by omega);have t2:((l.new (rO [iI 0,.slice none 0 0] 36)).upd l.qa (some (rO [iI g,v] 36))).get l.qa=some (rO [iI g,v] 36):=zH _ _ _;have g2:((l.new (rO [iI 0,.slice none 0 0] 36)).upd l.qa (some (rO [iI g,v] 36))).get b=some (.row vs ty es ro):=by
    have h1:=hk.qa;have h2:=o1.ext.qa;rw[zL (by omega),zG (by omega)];exact gb
   generalize ((l.new (rO [iI 0,.slice none 0 0] 36)).upd l.qa (some (rO [iI g,v] 36)))=l2 at e2 w2 t2 g2;refine zeu ?_;have b2:=box l2 e2;have iW:Ext h0 l2:=(hk.trans o1.ext).trans e2;have n1:=zB (P:=E) zF4 (o:=1) b2;have ca:=zN (P:=E) zC7 (o:=0) t2 (by simp);simp only[lnth,xCe,List.take] at n1 ca;have aR:∀ bad:Bool,zBA L.labs i=bad->(BrK (some (.bool bad)) (zuz true (kf8 k (zn (zBA L.labs) (m+1) i||zn (zBO L.n L.labs.length L.eds) L.eds.length 0)) l2) (zuy true (kf8 k (zn (zBA L.labs) (m+1) i||zn (zBO L.n L.labs.length L.eds) L.eds.length 0)) (.pointer (some ⟨k.qa,0,none⟩)) (.slice (some ⟨b,o,none⟩) L.labs.length cL) (iI (L.labs.length:Int)) (iI (i:Int)) l2)):=by
    intro bad bD;cases bad with
    | true=>
     rw[ze];refine zet ?_;simp[zA,zAC,zO,w2,zn,bD]
    | false=>
     rw[zZ];refine zes ?_;simp only[zk _ (zCS ai (by omega)),zA];have:=ih (i+1) (by omega) l2 e2 w2;simp only[zn,bD,xCn];simpa using this
   simp only[ca,zA,zM,zqA bS iW,zJ,zAS];have aY:zBA L.labs i=(zAu g lt||(decide (0<i)&&match L.labs[i-1]? with
    | some y=>decide (0<=zBd y.1 y.2 g lt)
    | none=>false)):=by simp only[zBA,hatL]
   cases hA:zAu g lt with
   | true=>
    have:=aR true (by rw[aY,hA];rfl);simpa only[hA,xDM,show (!decide ((170:Int)=0))=true from rfl,xAM,xAL,xAO,show (true==false)=false from rfl,show (false==true)=false from rfl,xAG,xAH,zA,zJ,zq,zI,zS,zt,zv,zE,zF] using this
   | false=>
    simp only[hA,xBX,xDI,xDG,xAM,xAL,xAO,show (true==false)=false from rfl,show (false==true)=false from rfl,xAG,xAH,zA,zJ,zq,zI,zS,zt,zv,zE,zF,zAK];by_cases d4:0<i
    ·have d4':(0:Int)<i:=by omega
     have aZ:i-1<L.labs.length:=by omega
     have iS:i-1<elsL.length:=by rw[RLab.length hL];exact aZ
     obtain⟨g',v',lt',hel',hrt',mi⟩:=RLab.at hL (i-1) _ (xAA iS);obtain⟨b',o',c',vs',ty',es',ro',aH,ar,aI,ep,cK,cF⟩:=haL.load (xAA iS);rw[hel'] at cK cF;simp only[xBu] at aH;obtain⟨eK,_,_⟩:=aH;cases eK;rw[hb] at ar;cases ar;have aC:zBA L.labs i=decide (0<=zBd g' lt' g lt):=by rw[aY,hA,mi];simp[d4]
     have:=aR (decide (0<=zBd g' lt' g lt)) aC;simpa only[d4',zAK,xDG,xAM,xAL,xAO,show (true==false)=false from rfl,show (false==true)=false from rfl,xAG,xAH,zA,zJ,zq,zI,zS,zt,zv,zE,zF,zA0,xAK,n1,zwE d4 (by omega:i<=9223372036854775807),zPp aZ,zN zC7 g2 ep,cK,ca,zM,zQJ hrt' bS iW,zBY] using this
    ·have d4':¬ (0:Int)<i:=by omega
     have:=aR false (by rw[aY,hA];simp[d4]);simpa only[d4',zAK,xCz,xAM,xAL,xAO,show (true==false)=false from rfl,show (false==true)=false from rfl,xAG,xAH,zA,zJ,zq,zI,zS,zt,zv,zE,zF] using this
 have n0:=zB (P:=E) zAE (o:=0) t1;have n1':=zB (P:=E) zF4 (o:=1) t1;have n2:=zB (P:=E) zEF (o:=2) t1;simp only[lnth] at n0 n1' n2;have aR:∀ bad:Bool,zBJ L=bad->(BrK (some (.bool bad)) (zu2 true (kf8 k (zT L)) k1) (zu1 true (kf8 k (zT L)) (.pointer (some ⟨k.qa,0,none⟩)) k1)):=by
  intro bad bD;cases bad with
  | true=>
   rw[ze];refine zex ?_;simp[zA,zAC,zO,o1.wm,zT,bD]
  | false=>
   rw[zZ];refine zew ?_;simp only[zA0,xAK,n1',zA,zTg];have:=labels bD L.labs.length 0 (by omega) k1 (Ext.refl o1.ext.ok) o1.wm;simp only[zT,bD,xCn];simpa using this
 simp only[zAP,xCu,n0,zA,zP];by_cases d1:L.n<1
 ·have:=aR true (by simp[zBJ,d1]);simpa only[d1,xDG,xAM,xAL,xAO,show (true==false)=false from rfl,show (false==true)=false from rfl,xAG,xAH,zA,zJ,zq,zI,zS,zt,zv,zE,zF] using this
 ·simp only[d1,xCz,xAM,xAL,xAO,show (true==false)=false from rfl,show (false==true)=false from rfl,xAG,xAH,zA,zJ,zq,zI,zS,zt,zv,zE,zF,zAP,xCu,n0,zAK];by_cases d2:20000<L.n
  ·have:=aR true (by simp[zBJ,d2]);simpa only[d2,xDG,xAM,xAL,xAO,show (true==false)=false from rfl,show (false==true)=false from rfl,xAG,xAH,zA,zJ,zq,zI,zS,zt,zv,zE,zF] using this
  ·simp only[d2,xCz,xAM,xAL,xAO,show (true==false)=false from rfl,show (false==true)=false from rfl,xAG,xAH,zA,zJ,zq,zI,zS,zt,zv,zE,zF,zA0,xAK,n1',zPg,zAK];by_cases d3:4000<L.labs.length
   ·have d3':(4000:Int)<L.labs.length:=by omega
    have:=aR true (by simp[zBJ,d3]);simpa only[d3',xDG,xAM,xAL,xAO,show (true==false)=false from rfl,show (false==true)=false from rfl,xAG,xAH,zA,zJ,zq,zI,zS,zt,zv,zE,zF] using this
   ·have d3':¬ (4000:Int)<L.labs.length:=by omega
    simp only[d3',xCz,xAM,xAL,xAO,show (true==false)=false from rfl,show (false==true)=false from rfl,xAG,xAH,zA,zJ,zq,zI,zS,zt,zv,zE,zF,zA7,xAK,n2,zPf,zAK];by_cases d4:100000<L.eds.length
    ·have d4':(100000:Int)<L.eds.length:=by omega
     have:=aR true (by simp[zBJ,d4]);simpa only[d4',zAK,xDG,xAM,xAL,xAO,show (true==false)=false from rfl,show (false==true)=false from rfl,xAG,xAH,zA,zJ,zq,zI,zS,zt,zv,zE,zF] using this
    ·have d4':¬ (100000:Int)<L.eds.length:=by omega
     have:=aR false (by simp[zBJ,d1,d2,d3,d4]);simpa only[d4',zAK,xCz,xAM,xAL,xAO,show (true==false)=false from rfl,show (false==true)=false from rfl,xAG,xAH,zA,zJ,zq,zI,zS,zt,zv,zE,zF] using this
end Go.Proofs
